/- Numbers as texts: what a literal's digits come to, one after another. -/
import Derived.Test.YthilcidoacgdfaaGreatDoorZcFigA
namespace Go.Proofs.YthilcidoacgdfaaGreatDoor.DecA
end Go.Proofs.YthilcidoacgdfaaGreatDoor.DecA
namespace Go.Proofs.YthilcidoacgdfaaGreatDoor.DecE
end Go.Proofs.YthilcidoacgdfaaGreatDoor.DecE
namespace Go.Proofs.YthilcidoacgdfaaGreatDoor.DecF
end Go.Proofs.YthilcidoacgdfaaGreatDoor.DecF
namespace Go.Proofs.YthilcidoacgdfaaGreatDoor.FigA
end Go.Proofs.YthilcidoacgdfaaGreatDoor.FigA
namespace Go.Proofs.YthilcidoacgdfaaGreatDoor.SpanA
end Go.Proofs.YthilcidoacgdfaaGreatDoor.SpanA
namespace Go.Proofs.YthilcidoacgdfaaGreatDoorW.PrintLast
end Go.Proofs.YthilcidoacgdfaaGreatDoorW.PrintLast
namespace Go.Proofs.YthilcidoacgdfaaGreatDoorW.PrintMore
end Go.Proofs.YthilcidoacgdfaaGreatDoorW.PrintMore
namespace Go.Proofs.YthilcidoacgdfaaGreatDoorW.PrintWords
end Go.Proofs.YthilcidoacgdfaaGreatDoorW.PrintWords
namespace Go.Proofs.YthilcidoacgdfaaGreatDoor.FigB
open Go.RowKit Go.Proofs.YthilcidoacgdfaaGreatDoorW.PrintWords Go.Proofs.YthilcidoacgdfaaGreatDoorW.PrintLast Go.Proofs.YthilcidoacgdfaaGreatDoorW.PrintMore Go.Proofs.YthilcidoacgdfaaGreatDoor.DecA Go.Proofs.YthilcidoacgdfaaGreatDoor.DecE Go.Proofs.YthilcidoacgdfaaGreatDoor.DecF Go.Proofs.YthilcidoacgdfaaGreatDoor.SpanA Go.Proofs.YthilcidoacgdfaaGreatDoor.FigA
set_option linter.unusedVariables false
set_option linter.unusedSimpArgs false
/-- One more digit behind. -/
def stepL (d : Int × Int) (c : UInt8) : Int × Int := addS (nrm (mulS (nrm d) (0, 10000000))) (nrm (0, (c.toNat : Int) - 48))
theorem nrm_mk (n : Int) (h : 0 ≤ n) : nrm (mk false n) = mk false n := nrm_nrm (nm_mk false n h)
theorem mk_hi {n : Int} (h : n > 9223372036854775807) : mk false n = (2, 0) := by rw [mk_big h]; rfl
theorem mk_lo {n : Int} (h : n ≤ 9223372036854775807) : mk false n = (0, n) := by rw [mk_small h]; rfl
theorem nrm_small (x : Int) (h : 0 ≤ x ∧ x ≤ 9) : nrm (0, x) = (0, x) := nrm_nrm (.inl ⟨rfl, by omega⟩)
theorem step_mk (n : Int) (hn : 0 ≤ n) (c : UInt8) (hc : digB c = true) : stepL (mk false n) c = mk false (10 * n + ((c.toNat : Int) - 48)) := by
  rw [digB_iff] at hc
  have h9 : 0 ≤ (c.toNat : Int) - 48 ∧ (c.toNat : Int) - 48 ≤ 9 := by omega
  unfold stepL
  rw [nrm_mk n hn, nrm_small _ h9]
  generalize (c.toNat : Int) - 48 = x at *
  by_cases h : n > 9223372036854775807
  · rw [mk_hi h, mk_hi (show 10 * n + x > 9223372036854775807 by omega)]
    have e : mulS (2, 0) (0, 10000000) = (2, 0) := by decide
    rw [e, show nrm (2, 0) = (2, 0) by decide]
    unfold addS
    simp
  · have hab : ab n = n := by unfold ab; rw [if_neg (by omega)]
    have e : mulS (0, n) (0, 10000000) = mk false (10 * n) := by
      unfold mulS
      rw [if_neg (by simp), if_neg (by simp)]
      have h1 : decide (sgn (0, n) * sgn (0, 10000000) < 0) = false := by
        rw [sgn_num, sgn_num, decide_eq_false_iff_not]
        rw [if_pos (show (10000000 : Int) > 0 by omega)]
        repeat' split
        all_goals omega
      rw [h1]
      simp only
      rw [hab, show ab 10000000 = 10000000 from rfl, show n * 10000000 / 1000000 = 10 * n by omega]
    rw [mk_lo (by omega), e, nrm_mk _ (by omega)]
    by_cases h2 : 10 * n > 9223372036854775807
    · rw [mk_hi h2, mk_hi (show 10 * n + x > 9223372036854775807 by omega)]
      unfold addS
      simp
    · rw [mk_lo (by omega)]
      have e2 : addS (0, 10 * n) (0, x) = addN (10 * n + x) := by unfold addS; rw [if_neg (by simp), if_pos rfl, if_pos rfl]
      rw [e2]
      unfold addN
      by_cases h3 : 10 * n + x > 9223372036854775807
      · rw [mk_hi h3, if_pos h3]
      · rw [mk_lo (by omega), if_neg h3, if_neg (by omega)]
theorem fold_mk : ∀ (l : List UInt8) (n : Int), 0 ≤ n → l.all digB = true → l.foldl stepL (mk false n) = mk false (l.foldl (fun a c => 10 * a + ((c.toNat : Int) - 48)) n)
  | [], n, _, _ => rfl
  | c :: l, n, hn, h => by
    rw [List.all_cons, Bool.and_eq_true] at h
    have hc := (digB_iff c).1 h.1
    simp only [List.foldl_cons]
    rw [step_mk n hn c h.1, fold_mk l _ (by omega) h.2]
theorem fold_all (l : List UInt8) (h : l.all digB = true) : l.foldl stepL (0, 0) = mk false (valU l) := fold_mk l 0 (by omega) h
theorem val_trim (a b : List UInt8) : valU (a.dropWhile (· == 48) ++ b) = valU (a ++ b) := by
  obtain ⟨z, h1, h2⟩ := dropW_spec (p := (· == (48 : UInt8))) a
  have hz : valU z = 0 := by
    rw [all48 z h2]
    generalize z.length = k
    induction k with
    | zero => rfl
    | succ k ih => rw [List.replicate_succ', valU_snoc, ih]; decide
  conv => rhs; rw [h1]
  rw [List.append_assoc, valU_app z, hz]
  omega
theorem trimL_all (a : List UInt8) (h : a.all digB = true) : (a.dropWhile (· == 48)).all digB = true := by
  obtain ⟨z, h1, h2⟩ := dropW_spec (p := (· == (48 : UInt8))) a
  rw [h1, List.all_append, Bool.and_eq_true] at h
  exact h.2
/-- The program's way to a literal's number. -/
theorem fold_lit (a b : List UInt8) (ha : a.all digB = true) (hb : b.all digB = true) : (a.dropWhile (· == 48) ++ sixL b).foldl stepL (0, 0) = mk false (valU (a ++ sixL b)) := by
  rw [fold_all _ (by rw [List.all_append, trimL_all a ha, six_all b hb]; rfl), val_trim]
end Go.Proofs.YthilcidoacgdfaaGreatDoor.FigB
