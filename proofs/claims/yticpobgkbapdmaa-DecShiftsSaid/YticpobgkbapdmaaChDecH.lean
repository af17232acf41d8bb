/- The nine laws of the layer dec, as plain statements: what the program's function answers is what the document says. -/
import Derived.Test.YticpobgkbapdmaaChDecG
namespace Go.Proofs.Yticpobgkbapdmaa.DecA
end Go.Proofs.Yticpobgkbapdmaa.DecA
namespace Go.Proofs.Yticpobgkbapdmaa.DecB
end Go.Proofs.Yticpobgkbapdmaa.DecB
namespace Go.Proofs.Yticpobgkbapdmaa.DecC
end Go.Proofs.Yticpobgkbapdmaa.DecC
namespace Go.Proofs.Yticpobgkbapdmaa.DecD
end Go.Proofs.Yticpobgkbapdmaa.DecD
namespace Go.Proofs.Yticpobgkbapdmaa.DecE
end Go.Proofs.Yticpobgkbapdmaa.DecE
namespace Go.Proofs.Yticpobgkbapdmaa.DecF
end Go.Proofs.Yticpobgkbapdmaa.DecF
namespace Go.Proofs.Yticpobgkbapdmaa.DecG
end Go.Proofs.Yticpobgkbapdmaa.DecG
namespace Go.Proofs.Yticpobgkbapdmaa.PD
end Go.Proofs.Yticpobgkbapdmaa.PD
namespace Go.Proofs.YticpobgkbapdmaaW.PrintLast
end Go.Proofs.YticpobgkbapdmaaW.PrintLast
namespace Go.Proofs.YticpobgkbapdmaaW.PrintMore
end Go.Proofs.YticpobgkbapdmaaW.PrintMore
namespace Go.Proofs.YticpobgkbapdmaaW.PrintWords
end Go.Proofs.YticpobgkbapdmaaW.PrintWords
namespace Go.Proofs.Yticpobgkbapdmaa.DecH
set_option linter.unusedSimpArgs false
set_option linter.unusedVariables false
open Go.RowKit Go.Proofs.Yticpobgkbapdmaa.PD Go.Proofs.YticpobgkbapdmaaW.PrintWords Go.Proofs.YticpobgkbapdmaaW.PrintLast Go.Proofs.YticpobgkbapdmaaW.PrintMore Go.Proofs.Yticpobgkbapdmaa.DecA Go.Proofs.Yticpobgkbapdmaa.DecB Go.Proofs.Yticpobgkbapdmaa.DecC Go.Proofs.Yticpobgkbapdmaa.DecD Go.Proofs.Yticpobgkbapdmaa.DecE Go.Proofs.Yticpobgkbapdmaa.DecF Go.Proofs.Yticpobgkbapdmaa.DecG

theorem works_f {k : Nat} (hk : 100 < k) : breviarylaw03_works.f k = some true := by
  unfold breviarylaw03_works.f
  rw [dec_Mul_f (by omega) (by unfold I64; omega) (by unfold I64; omega)]
  rw [show mulS (nrm (0, 1500000)) (nrm (0, 1500000)) = (0, 2250000) by decide]
  simp only [bs]
  rw [if_pos (by decide), dec_Div_f (by omega) (by unfold I64; omega) (by unfold I64; omega)]
  rw [show divS (nrm (0, 1000000)) (nrm (0, 3000000)) = (0, 333333) by decide]
  rfl

/-! ### orders -/
/-! ### sums and products do not ask for order -/
/-! ### what is left -/
/-! ### shifts -/
theorem addN_in {s : Int} (h : -9223372036854775807 ≤ s ∧ s ≤ 9223372036854775807) : addN s = (0, s) := by unfold addN; rw [if_neg (by omega), if_neg (by omega)]
theorem addS_num {x y : Int} (h : -9223372036854775807 ≤ x + y ∧ x + y ≤ 9223372036854775807) : addS (0, x) (0, y) = (0, x + y) := by
  unfold addS; simp only; rw [if_neg (by omega), if_pos trivial, if_pos trivial, addN_in h]
theorem num_nm {x : Int} (h : -9223372036854775807 ≤ x ∧ x ≤ 9223372036854775807) : Nm (0, x) := .inl ⟨rfl, h⟩
theorem nrm_num {x : Int} (h : -9223372036854775807 ≤ x ∧ x ≤ 9223372036854775807) : nrm (0, x) = (0, x) := nrm_nrm (num_nm h)
theorem floor_num {x : Int} (h : -9223372036850000000 ≤ x ∧ x ≤ 9223372036850000000) : floorS (0, x) = (0, x / 1000000 * 1000000) := by
  unfold floorS; simp only; rw [if_pos trivial, addN_in (by omega)]
theorem round_num {x : Int} (h : -9223372036850000000 ≤ x ∧ x ≤ 9223372036850000000) : roundS (0, x) = (0, (x + 500000) / 1000000 * 1000000) := by
  unfold roundS; simp only; rw [if_pos trivial, addN_in (by omega)]
theorem neg_num (x : Int) : negS (0, x) = (0, -x) := by unfold negS; simp
theorem i64_of {x : Int} (h : -9223372036854775807 ≤ x ∧ x ≤ 9223372036854775807) : I64 x := by unfold I64; omega
theorem f_add {k : Nat} (hk : 40 < k) {x y : Int} (hx : -4000000000000000000 ≤ x ∧ x ≤ 4000000000000000000) (hy : -4000000000000000000 ≤ y ∧ y ≤ 4000000000000000000) : dec_Add.f k 0 x 0 y = some (0, x + y) := by
  rw [dec_Add_f hk (i64_of (by omega)) (i64_of (by omega)), nrm_num (by omega), nrm_num (by omega), addS_num (by omega)]
theorem f_floor {k : Nat} (hk : 40 < k) {x : Int} (hx : -4000000000000000000 ≤ x ∧ x ≤ 4000000000000000000) : dec_Floor.f k 0 x = some (0, x / 1000000 * 1000000) := by
  rw [dec_Floor_f hk (i64_of (by omega)), nrm_num (by omega), floor_num (by omega)]
theorem f_round {k : Nat} (hk : 40 < k) {x : Int} (hx : -4000000000000000000 ≤ x ∧ x ≤ 4000000000000000000) : dec_Round.f k 0 x = some (0, (x + 500000) / 1000000 * 1000000) := by
  rw [dec_Round_f hk (i64_of (by omega)), nrm_num (by omega), round_num (by omega)]
theorem f_neg {x : Int} (hx : -4000000000000000000 ≤ x ∧ x ≤ 4000000000000000000) : dec_Neg.f 0 x = some (0, -x) := by
  rw [dec_Neg_f (i64_of (by omega)), nrm_num (by omega), neg_num]
theorem f_ceil {k : Nat} (hk : 40 < k) {x : Int} (hx : -3000000000000000000 ≤ x ∧ x ≤ 3000000000000000000) : dec_Ceil.f k 0 x = some (0, -((-x) / 1000000 * 1000000)) := by
  unfold dec_Ceil.f
  rw [f_neg (by omega)]
  simp only [bs]
  rw [f_floor hk (by omega)]
  simp only [bs]
  rw [f_neg (by omega)]
  rfl
theorem f_int {k : Nat} (hk : 40 < k) {m : Int} (hm : -1000000 ≤ m ∧ m ≤ 1000000) : dec_Int.f k m = some (0, m * 1000000) := by
  rw [dec_Int_f hk (i64_of (by omega)), addN_in (by omega)]
theorem tmod_small (n : Int) : -1000000 < Int.tmod n 1000000 ∧ Int.tmod n 1000000 < 1000000 := by
  have := tdiv_tmod n
  by_cases c : 0 ≤ n
  · have h := (this.1 c).2; omega
  · have h := (this.2 (by omega)).2; omega
theorem eqz (x y : Int) (h : x = y) : ((((0 : Int), x).1 == ((0 : Int), y).1) && (((0 : Int), x).2 == ((0 : Int), y).2)) = true := by simp [h]
theorem DecShifts {t v n : Int} (h : I64 v) : breviarylaw03_DecShifts.f 9000 t v n = some true := by
  have hw : ∀ k, 100 < k → breviarylaw03_works.f k = some true := fun k hk => works_f hk
  have htrue : ∀ m, breviarylaw03_DecShifts.j0 9000 m true t v = some true := by
    intro m
    rw [breviarylaw03_DecShifts.j0, if_pos rfl, hw _ (by omega)]
    rfl
  unfold breviarylaw03_DecShifts.f
  rw [dec_Right_f]
  simp only [bs]
  by_cases h1 : rightB (t, v) = true
  · rw [if_pos h1]
    by_cases h2 : t = 0
    · rw [if_pos h2]
      by_cases h3 : v > 9000000000000
      · rw [if_pos h3]; exact htrue _
      · rw [if_neg h3]
        by_cases h4 : v < -9000000000000
        · rw [decide_eq_true h4]; exact htrue _
        · rw [decide_eq_false h4]
          have hm := tmod_small n
          rw [w64 (by omega) (by omega)]
          generalize Int.tmod n 1000000 = m at *
          subst h2
          rw [breviarylaw03_DecShifts.j0, if_neg (by simp), f_int (by omega) (by omega)]
          simp only [bs]
          rw [f_add (by omega) (by omega) (by omega)]
          simp only [bs]
          rw [f_floor (by omega) (by omega), f_floor (by omega) (by omega)]
          simp only [bs]
          rw [f_add (by omega) (by omega) (by omega)]
          simp only [bs]
          rw [if_pos (eqz _ _ (by omega)), f_ceil (by omega) (by omega), f_ceil (by omega) (by omega)]
          simp only [bs]
          rw [f_add (by omega) (by omega) (by omega)]
          simp only [bs]
          rw [if_pos (eqz _ _ (by omega)), f_round (by omega) (by omega), f_round (by omega) (by omega)]
          simp only [bs]
          rw [f_add (by omega) (by omega) (by omega)]
          simp only [bs]
          rw [if_pos (eqz _ _ (by omega)), hw _ (by omega)]
          rfl
    · rw [if_neg h2]; exact htrue _
  · rw [if_neg h1]; exact htrue _
end Go.Proofs.Yticpobgkbapdmaa.DecH
