/- Quotients, what is left, sums, comparisons, roundings: the closed forms of the program's and of the reference's functions. -/
import Derived.Test.YthilcidoacgdfaaGreatDoorZcDecE
namespace Go.Proofs.YthilcidoacgdfaaGreatDoor.DecA
end Go.Proofs.YthilcidoacgdfaaGreatDoor.DecA
namespace Go.Proofs.YthilcidoacgdfaaGreatDoor.DecB
end Go.Proofs.YthilcidoacgdfaaGreatDoor.DecB
namespace Go.Proofs.YthilcidoacgdfaaGreatDoor.DecC
end Go.Proofs.YthilcidoacgdfaaGreatDoor.DecC
namespace Go.Proofs.YthilcidoacgdfaaGreatDoor.DecD
end Go.Proofs.YthilcidoacgdfaaGreatDoor.DecD
namespace Go.Proofs.YthilcidoacgdfaaGreatDoor.DecE
end Go.Proofs.YthilcidoacgdfaaGreatDoor.DecE
namespace Go.Proofs.YthilcidoacgdfaaGreatDoor.PF
end Go.Proofs.YthilcidoacgdfaaGreatDoor.PF
namespace Go.Proofs.YthilcidoacgdfaaGreatDoorW.PrintLast
end Go.Proofs.YthilcidoacgdfaaGreatDoorW.PrintLast
namespace Go.Proofs.YthilcidoacgdfaaGreatDoorW.PrintMore
end Go.Proofs.YthilcidoacgdfaaGreatDoorW.PrintMore
namespace Go.Proofs.YthilcidoacgdfaaGreatDoorW.PrintWords
end Go.Proofs.YthilcidoacgdfaaGreatDoorW.PrintWords
namespace Go.Proofs.YthilcidoacgdfaaGreatDoor.DecF
set_option linter.unusedSimpArgs false
set_option linter.unusedVariables false
open Go.RowKit Go.Proofs.YthilcidoacgdfaaGreatDoor.PF Go.Proofs.YthilcidoacgdfaaGreatDoorW.PrintWords Go.Proofs.YthilcidoacgdfaaGreatDoorW.PrintLast Go.Proofs.YthilcidoacgdfaaGreatDoorW.PrintMore Go.Proofs.YthilcidoacgdfaaGreatDoor.DecA Go.Proofs.YthilcidoacgdfaaGreatDoor.DecB Go.Proofs.YthilcidoacgdfaaGreatDoor.DecC Go.Proofs.YthilcidoacgdfaaGreatDoor.DecD Go.Proofs.YthilcidoacgdfaaGreatDoor.DecE

/-! ### Div -/
/-! ### Mod -/
/-! ### Neg, Add, Sub -/
def negS (a : Int × Int) : Int × Int := if a.1 = 0 then (0, -a.2) else if a.1 = 2 then (3, 0) else if a.1 = 3 then (2, 0) else a
theorem dec_Neg_f {t v : Int} (h : I64 v) : dec_Neg.f t v = some (negS (nrm (t, v))) := by
  unfold dec_Neg.f
  rw [dec_right_f]
  simp only [bs]
  have na := nrm_nm (t := t) h
  generalize nrm (t, v) = a at *
  unfold negS
  by_cases h0 : a.1 = 0
  · have := na.num h0
    rw [if_pos h0, if_pos h0, w64 (by omega) (by omega)]
  · rw [if_neg h0, if_neg h0]
    by_cases h2 : a.1 = 2
    · rw [if_pos h2, if_pos h2]; rfl
    · rw [if_neg h2, if_neg h2]
      by_cases h3 : a.1 = 3
      · rw [if_pos h3, if_pos h3]; rfl
      · rw [if_neg h3, if_neg h3]
/-- a sum, where it fits -/
def addN (s : Int) : Int × Int := if s > 9223372036854775807 then (2, 0) else if s < -9223372036854775807 then (3, 0) else (0, s)
theorem mk_is {b : Bool} {n s : Int} (h0 : 0 ≤ n) (h : (if b = true then -n else n) = s) : mk b n = addN s := by
  unfold mk addN
  cases b
  · simp at h; subst h
    by_cases c : n > 9223372036854775807
    · simp [c]
    · simp [c]; omega
  · simp at h; subst h
    by_cases c : n > 9223372036854775807
    · have : ¬ -n > 9223372036854775807 := by omega
      have h2 : -n < -9223372036854775807 := by omega
      simp only [c, this, h2, if_true, if_false]
    · have : ¬ -n > 9223372036854775807 := by omega
      have h2 : ¬ -n < -9223372036854775807 := by omega
      simp only [c, this, h2, if_true, if_false]
def addS (a b : Int × Int) : Int × Int :=
  if a.1 = 1 ∨ b.1 = 1 then (1, 0) else if a.1 = 0 then (if b.1 = 0 then addN (a.2 + b.2) else b)
  else if b.1 = 0 then a else if a.1 = b.1 then a else (1, 0)
theorem nm_tag {a : Int × Int} (h : Nm a) : 0 ≤ a.1 ∧ a.1 ≤ 3 := by rcases h with h | h <;> omega
theorem dec_Add_f {k : Nat} (hk : 40 < k) {ta va tb vb : Int} (ha : I64 va) (hb : I64 vb) : dec_Add.f k ta va tb vb = some (addS (nrm (ta, va)) (nrm (tb, vb))) := by
  obtain ⟨k, rfl, hk'⟩ := succ_of hk
  unfold dec_Add.f
  rw [dec_right_f, dec_right_f]
  simp only [bs]
  have na := nrm_nm (t := ta) ha
  have nb := nrm_nm (t := tb) hb
  generalize nrm (ta, va) = a at *
  generalize nrm (tb, vb) = b at *
  have ta := nm_tag na
  have tb := nm_tag nb
  unfold dec_tagged.f addS
  by_cases h0 : a.1 = 0 ∧ b.1 = 0
  · have na' := na.num h0.1
    have nb' := nb.num h0.2
    rw [if_pos h0]
    simp only [bs]
    rw [if_neg (by simp), if_neg (show ¬ (a.1 = 1 ∨ b.1 = 1) by omega), if_pos h0.1, if_pos h0.2]
    unfold bits_Add64.f
    rw [wrap_u64, wrap_u64, if_pos (by omega)]
    simp only [bs]
    have ew : wrap64 ((a.2 % 18446744073709551616 + b.2 % 18446744073709551616 + 0) % 18446744073709551616) = wrap64 (a.2 + b.2) := by unfold wrap64; omega
    rw [ew]
    have hw : wrap64 (a.2 + b.2) = if a.2 + b.2 > 9223372036854775807 then a.2 + b.2 - 18446744073709551616 else if a.2 + b.2 < -9223372036854775808 then a.2 + b.2 + 18446744073709551616 else a.2 + b.2 := by
      unfold wrap64
      split
      · omega
      · split <;> omega
    rw [hw]
    generalize a.2 = x at *
    generalize b.2 = y at *
    unfold addN
    simp only [dec_Add.j0, dec_over.f, dec_under.f]
    by_cases p1 : x + y > 9223372036854775807
    · have q1 : x > 0 := by omega
      have q2 : y > 0 := by omega
      have q3 : x + y - 18446744073709551616 ≤ 0 := by omega
      simp [p1, q1, q2, q3]
    · by_cases p2 : x + y < -9223372036854775808
      · have q1 : ¬ x > 0 := by omega
        have q2 : x < 0 := by omega
        have q3 : y < 0 := by omega
        have q4 : x + y + 18446744073709551616 ≥ 0 := by omega
        have q5 : x + y < -9223372036854775807 := by omega
        simp only [p1, p2, q1, q2, q3, q4, q5, if_true, if_false]; simp
      · by_cases p3 : x + y < -9223372036854775807
        · have q0 : x + y = -9223372036854775808 := by omega
          have q1 : ¬ x > 0 := by omega
          have q2 : x < 0 := by omega
          have q3 : y < 0 := by omega
          rw [q0] at p1 p2 p3 ⊢
          simp [q1, q2, q3]
        · simp only [p1, p2, p3, if_false]
          by_cases q1 : x > 0
          · by_cases q2 : y > 0
            · have q3 : ¬ x + y ≤ 0 := by omega
              have q4 : ¬ x < 0 := by omega
              simp [q1, q2, q3, q4]
            · have q4 : ¬ x < 0 := by omega
              simp [q1, q2, q4]
          · by_cases q4 : x < 0
            · by_cases q5 : y < 0
              · have q6 : ¬ x + y ≥ 0 := by omega
                have q7 : ¬ x + y = -9223372036854775808 := by omega
                simp [q1, q4, q5, q6, q7]
              · simp [q1, q4, q5]
            · simp [q1, q4]
  · rw [if_neg h0, if_pos (by omega)]
    simp only [bs]
    rw [if_pos trivial]
    obtain ⟨t1, v1⟩ := a
    obtain ⟨t2, v2⟩ := b
    unfold Nm at na nb
    simp only at *
    rcases na with ⟨rfl, _, _⟩ | ⟨rfl | rfl | rfl, rfl⟩ <;> rcases nb with ⟨rfl, _, _⟩ | ⟨rfl | rfl | rfl, rfl⟩ <;> first | (exfalso; omega) | rfl
theorem sgn_num (v : Int) : sgn (0, v) = if v > 0 then 1 else if v < 0 then -1 else 0 := by unfold sgn; simp
theorem mk_small {b : Bool} {n : Int} (h : n ≤ 9223372036854775807) : mk b n = (0, if b then -n else n) := if_neg (by omega)
end Go.Proofs.YthilcidoacgdfaaGreatDoor.DecF
