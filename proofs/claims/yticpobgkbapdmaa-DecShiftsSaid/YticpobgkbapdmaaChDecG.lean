/- Comparisons, roundings, whole numbers: closed forms of the program's and of the reference's functions; and the nine laws as plain statements. -/
import Derived.Test.YticpobgkbapdmaaChDecF
namespace Go.Proofs.Yticpobgkbapdmaa.DecA
end Go.Proofs.Yticpobgkbapdmaa.DecA
namespace Go.Proofs.Yticpobgkbapdmaa.DecB
end Go.Proofs.Yticpobgkbapdmaa.DecB
namespace Go.Proofs.Yticpobgkbapdmaa.DecC
end Go.Proofs.Yticpobgkbapdmaa.DecC
namespace Go.Proofs.Yticpobgkbapdmaa.DecD
end Go.Proofs.Yticpobgkbapdmaa.DecD
namespace Go.Proofs.Yticpobgkbapdmaa.DecE
end Go.Proofs.Yticpobgkbapdmaa.DecE
namespace Go.Proofs.Yticpobgkbapdmaa.DecF
end Go.Proofs.Yticpobgkbapdmaa.DecF
namespace Go.Proofs.Yticpobgkbapdmaa.PD
end Go.Proofs.Yticpobgkbapdmaa.PD
namespace Go.Proofs.YticpobgkbapdmaaW.PrintLast
end Go.Proofs.YticpobgkbapdmaaW.PrintLast
namespace Go.Proofs.YticpobgkbapdmaaW.PrintMore
end Go.Proofs.YticpobgkbapdmaaW.PrintMore
namespace Go.Proofs.YticpobgkbapdmaaW.PrintWords
end Go.Proofs.YticpobgkbapdmaaW.PrintWords
namespace Go.Proofs.Yticpobgkbapdmaa.DecG
set_option linter.unusedSimpArgs false
set_option linter.unusedVariables false
open Go.RowKit Go.Proofs.Yticpobgkbapdmaa.PD Go.Proofs.YticpobgkbapdmaaW.PrintWords Go.Proofs.YticpobgkbapdmaaW.PrintLast Go.Proofs.YticpobgkbapdmaaW.PrintMore Go.Proofs.Yticpobgkbapdmaa.DecA Go.Proofs.Yticpobgkbapdmaa.DecB Go.Proofs.Yticpobgkbapdmaa.DecC Go.Proofs.Yticpobgkbapdmaa.DecD Go.Proofs.Yticpobgkbapdmaa.DecE Go.Proofs.Yticpobgkbapdmaa.DecF

/-! ### Cmp -/
/-! ### whole numbers -/
theorem tdiv_tmod (v : Int) : (0 ≤ v → Int.tdiv v 1000000 = v / 1000000 ∧ Int.tmod v 1000000 = v % 1000000) ∧ (v < 0 → Int.tdiv v 1000000 = -((-v) / 1000000) ∧ Int.tmod v 1000000 = -((-v) % 1000000)) := by
  constructor
  · intro h
    exact ⟨Int.tdiv_eq_ediv_of_nonneg h, Int.tmod_eq_emod_of_nonneg h⟩
  · intro h
    have e : v = -(-v) := by omega
    constructor
    · conv => lhs; rw [e, Int.neg_tdiv, Int.tdiv_eq_ediv_of_nonneg (by omega)]
    · conv => lhs; rw [e, Int.neg_tmod, Int.tmod_eq_emod_of_nonneg (by omega)]
theorem dec_times_f {k : Nat} (hk : 40 < k) {n : Int} (h : -9223372036854775807 ≤ n ∧ n ≤ 9223372036854775807) : dec_times.f k n = some (addN (n * 1000000)) := by
  unfold dec_times.f
  rw [size_f h]
  simp only [bs]
  obtain ⟨x, hx, hx'⟩ := ab_nat h
  obtain ⟨U, hU⟩ : ∃ U : Nat, U = 1000000 := ⟨_, rfl⟩
  have eU : (1000000 : Int) = (U : Int) := by omega
  rw [hx, eU, mul_words hx' (by omega)]
  have hP : (if decide (n < 0) = true then -((x * U : Nat) : Int) else ((x * U : Nat) : Int)) = n * U := by
    unfold ab at hx
    rw [Int.natCast_mul, ← hx]
    by_cases c : n < 0
    · rw [if_pos c, if_pos (decide_eq_true c)]; rw [Int.neg_mul]; omega
    · rw [if_neg c, if_neg (by simpa using c)]
  rw [← mk_is (by omega) hP]
  generalize x * U = P at *
  have e5 : P = P / 18446744073709551616 * 18446744073709551616 + P % 18446744073709551616 := by omega
  have hm : P % 18446744073709551616 < 18446744073709551616 := by omega
  generalize P / 18446744073709551616 = H at *
  generalize P % 18446744073709551616 = M at *
  simp only [bs]
  by_cases c : H = 0
  · have e6 : ((H : Int) != 0) = false := by simp [c]
    have e7 : P = M := by omega
    rw [e6, signed_f (by omega) _ (by omega) (by omega), e7]
    rfl
  · have e6 : ((H : Int) != 0) = true := by simp [c]
    rw [e6, signed_hi (by omega), mk_big (by omega)]
    rfl
theorem addN_low {s : Int} (h : s < -9223372036854775807) : addN s = (3, 0) := by unfold addN; rw [if_neg (by omega), if_pos h]
theorem dec_Int_f {k : Nat} (hk : 40 < k) {n : Int} (h : I64 n) : dec_Int.f k n = some (addN (n * 1000000)) := by
  unfold dec_Int.f
  unfold I64 at h
  by_cases c : n = -9223372036854775808
  · rw [if_pos c, addN_low (by omega)]; rfl
  · rw [if_neg c, dec_times_f hk (by omega)]; rfl
/-! ### Floor, Ceil, Round -/
def floorS (a : Int × Int) : Int × Int := if a.1 = 0 then addN (a.2 / 1000000 * 1000000) else a
def roundS (a : Int × Int) : Int × Int := if a.1 = 0 then addN ((a.2 + 500000) / 1000000 * 1000000) else a
theorem dec_parts_f (t v : Int) (h : -9223372036854775807 ≤ v ∧ v ≤ 9223372036854775807) : dec_parts.f t v = some (v / 1000000, v % 1000000) := by
  unfold dec_parts.f
  have := tdiv_tmod v
  by_cases c : 0 ≤ v
  · have h1 := this.1 c
    rw [h1.1, h1.2, if_neg (by omega), w64 (by omega) (by omega)]
  · have h1 := this.2 (by omega)
    rw [h1.1, h1.2]
    by_cases d : -((-v) % 1000000) < 0
    · rw [if_pos d, w64 (x := -(-v / 1000000)) (by omega) (by omega), w64 (by omega) (by omega), w64 (by omega) (by omega)]
      congr 2 <;> omega
    · rw [if_neg d, w64 (by omega) (by omega)]
      congr 2 <;> omega
theorem dec_Floor_f {k : Nat} (hk : 40 < k) {t v : Int} (h : I64 v) : dec_Floor.f k t v = some (floorS (nrm (t, v))) := by
  unfold dec_Floor.f
  rw [dec_right_f]
  simp only [bs]
  have na := nrm_nm (t := t) h
  generalize nrm (t, v) = a at *
  unfold floorS
  by_cases h0 : a.1 = 0
  · have := na.num h0
    rw [if_pos h0, if_pos h0, dec_parts_f _ _ this]
    simp only [bs]
    rw [dec_times_f hk (by omega)]
    rfl
  · rw [if_neg h0, if_neg h0]
theorem dec_Round_f {k : Nat} (hk : 40 < k) {t v : Int} (h : I64 v) : dec_Round.f k t v = some (roundS (nrm (t, v))) := by
  unfold dec_Round.f
  rw [dec_right_f]
  simp only [bs]
  have na := nrm_nm (t := t) h
  generalize nrm (t, v) = a at *
  unfold roundS
  by_cases h0 : a.1 = 0
  · have := na.num h0
    rw [if_pos h0, if_pos h0, dec_parts_f _ _ this]
    simp only [bs]
    by_cases c : a.2 % 1000000 ≥ 500000
    · rw [if_pos c, w64 (by omega) (by omega), dec_times_f hk (by omega)]
      simp only [bs]
      rw [show (a.2 + 500000) / 1000000 = a.2 / 1000000 + 1 by omega]
    · rw [if_neg c, dec_times_f hk (by omega)]
      simp only [bs]
      rw [show (a.2 + 500000) / 1000000 = a.2 / 1000000 by omega]
  · rw [if_neg h0, if_neg h0]
end Go.Proofs.Yticpobgkbapdmaa.DecG
