/- Comparisons, roundings, whole numbers: closed forms of the program's and of the reference's functions; and the nine laws as plain statements. -/
import Derived.Test.YticpobgkbapdmaaCiDecF
namespace Go.Proofs.Yticpobgkbapdmaa.DecA
end Go.Proofs.Yticpobgkbapdmaa.DecA
namespace Go.Proofs.Yticpobgkbapdmaa.DecB
end Go.Proofs.Yticpobgkbapdmaa.DecB
namespace Go.Proofs.Yticpobgkbapdmaa.DecC
end Go.Proofs.Yticpobgkbapdmaa.DecC
namespace Go.Proofs.Yticpobgkbapdmaa.DecD
end Go.Proofs.Yticpobgkbapdmaa.DecD
namespace Go.Proofs.Yticpobgkbapdmaa.DecE
end Go.Proofs.Yticpobgkbapdmaa.DecE
namespace Go.Proofs.Yticpobgkbapdmaa.DecF
end Go.Proofs.Yticpobgkbapdmaa.DecF
namespace Go.Proofs.Yticpobgkbapdmaa.PD
end Go.Proofs.Yticpobgkbapdmaa.PD
namespace Go.Proofs.YticpobgkbapdmaaW.PrintLast
end Go.Proofs.YticpobgkbapdmaaW.PrintLast
namespace Go.Proofs.YticpobgkbapdmaaW.PrintMore
end Go.Proofs.YticpobgkbapdmaaW.PrintMore
namespace Go.Proofs.YticpobgkbapdmaaW.PrintWords
end Go.Proofs.YticpobgkbapdmaaW.PrintWords
namespace Go.Proofs.Yticpobgkbapdmaa.DecG
set_option linter.unusedSimpArgs false
set_option linter.unusedVariables false
open Go.RowKit Go.Proofs.Yticpobgkbapdmaa.PD Go.Proofs.YticpobgkbapdmaaW.PrintWords Go.Proofs.YticpobgkbapdmaaW.PrintLast Go.Proofs.YticpobgkbapdmaaW.PrintMore Go.Proofs.Yticpobgkbapdmaa.DecA Go.Proofs.Yticpobgkbapdmaa.DecB Go.Proofs.Yticpobgkbapdmaa.DecC Go.Proofs.Yticpobgkbapdmaa.DecD Go.Proofs.Yticpobgkbapdmaa.DecE Go.Proofs.Yticpobgkbapdmaa.DecF

/-! ### Cmp -/
/-! ### whole numbers -/
theorem tdiv_tmod (v : Int) : (0 ≤ v → Int.tdiv v 1000000 = v / 1000000 ∧ Int.tmod v 1000000 = v % 1000000) ∧ (v < 0 → Int.tdiv v 1000000 = -((-v) / 1000000) ∧ Int.tmod v 1000000 = -((-v) % 1000000)) := by
  constructor
  · intro h
    exact ⟨Int.tdiv_eq_ediv_of_nonneg h, Int.tmod_eq_emod_of_nonneg h⟩
  · intro h
    have e : v = -(-v) := by omega
    constructor
    · conv => lhs; rw [e, Int.neg_tdiv, Int.tdiv_eq_ediv_of_nonneg (by omega)]
    · conv => lhs; rw [e, Int.neg_tmod, Int.tmod_eq_emod_of_nonneg (by omega)]
def wholeS (a : Int × Int) : Int × Bool := if a.1 = 0 then (if Int.tmod a.2 1000000 = 0 then (a.2 / 1000000, true) else (0, false)) else (0, false)
theorem whole_div {v : Int} (h : Int.tmod v 1000000 = 0) : Int.tdiv v 1000000 = v / 1000000 := by
  have := tdiv_tmod v
  by_cases c : 0 ≤ v
  · exact (this.1 c).1
  · have h2 := this.2 (by omega)
    omega
theorem dec_Whole_f {t v : Int} (h : I64 v) : dec_Whole.f t v = some (wholeS (nrm (t, v))) := by
  unfold dec_Whole.f
  rw [dec_right_f]
  simp only [bs]
  have na := nrm_nm (t := t) h
  generalize nrm (t, v) = a at *
  unfold wholeS
  by_cases h0 : a.1 = 0
  · have := na.num h0
    rw [if_pos h0, if_pos h0]
    by_cases h1 : Int.tmod a.2 1000000 = 0
    · rw [if_pos h1, if_pos h1, whole_div h1, w64 (by omega) (by omega)]
    · rw [if_neg h1, if_neg h1]
  · rw [if_neg h0, if_neg h0]
theorem dec_times_f {k : Nat} (hk : 40 < k) {n : Int} (h : -9223372036854775807 ≤ n ∧ n ≤ 9223372036854775807) : dec_times.f k n = some (addN (n * 1000000)) := by
  unfold dec_times.f
  rw [size_f h]
  simp only [bs]
  obtain ⟨x, hx, hx'⟩ := ab_nat h
  obtain ⟨U, hU⟩ : ∃ U : Nat, U = 1000000 := ⟨_, rfl⟩
  have eU : (1000000 : Int) = (U : Int) := by omega
  rw [hx, eU, mul_words hx' (by omega)]
  have hP : (if decide (n < 0) = true then -((x * U : Nat) : Int) else ((x * U : Nat) : Int)) = n * U := by
    unfold ab at hx
    rw [Int.natCast_mul, ← hx]
    by_cases c : n < 0
    · rw [if_pos c, if_pos (decide_eq_true c)]; rw [Int.neg_mul]; omega
    · rw [if_neg c, if_neg (by simpa using c)]
  rw [← mk_is (by omega) hP]
  generalize x * U = P at *
  have e5 : P = P / 18446744073709551616 * 18446744073709551616 + P % 18446744073709551616 := by omega
  have hm : P % 18446744073709551616 < 18446744073709551616 := by omega
  generalize P / 18446744073709551616 = H at *
  generalize P % 18446744073709551616 = M at *
  simp only [bs]
  by_cases c : H = 0
  · have e6 : ((H : Int) != 0) = false := by simp [c]
    have e7 : P = M := by omega
    rw [e6, signed_f (by omega) _ (by omega) (by omega), e7]
    rfl
  · have e6 : ((H : Int) != 0) = true := by simp [c]
    rw [e6, signed_hi (by omega), mk_big (by omega)]
    rfl
theorem addN_low {s : Int} (h : s < -9223372036854775807) : addN s = (3, 0) := by unfold addN; rw [if_neg (by omega), if_pos h]
theorem dec_Int_f {k : Nat} (hk : 40 < k) {n : Int} (h : I64 n) : dec_Int.f k n = some (addN (n * 1000000)) := by
  unfold dec_Int.f
  unfold I64 at h
  by_cases c : n = -9223372036854775808
  · rw [if_pos c, addN_low (by omega)]; rfl
  · rw [if_neg c, dec_times_f hk (by omega)]; rfl
theorem prod_dg' {k : Nat} (hk : 4000 < k) {x y : Nat} (hx : x < 10 ^ 40) (hy : y < 10 ^ 40) : breviaryref03_product.f k (dg x) (dg y) = some (dg (x * y)) := by
  rw [product_f (dg_le_length 40 x hx) (dg_le_length 40 y hy) hk (dg_dig x) (dg_dig y), val_dg, val_dg]
  congr 2
theorem mul_lt60 {x U : Nat} (hx : x ≤ 9223372036854775808) (hU : U ≤ 1000000) : x * U < 10 ^ 60 := by
  have : x * U ≤ 9223372036854775808 * 1000000 := Nat.mul_le_mul hx hU
  exact Nat.lt_of_le_of_lt this (by decide)
theorem made_times {k : Nat} (hk : 2000 < k) {n : Int} {x U : Nat} (b : Bool) (hx : x ≤ 9223372036854775808) (hU : U = 1000000) (h : (if b = true then -(x : Int) else x) = n) :
    breviaryref03_Made.f k b (dg (x * U)) = some (addN (n * 1000000)) := by
  rw [made_dg hk _ _ (mul_lt60 hx (by omega))]
  congr 1
  refine mk_is (by omega) ?_
  have eU : (1000000 : Int) = (U : Int) := by omega
  rw [eU, Int.natCast_mul, ← h]
  cases b
  · simp
  · simp [Int.neg_mul]
theorem ref_Int_f {k : Nat} (hk : 5000 < k) {n : Int} (h : I64 n) : breviaryref03_Int.f k n = some (addN (n * 1000000)) := by
  unfold breviaryref03_Int.f
  unfold I64 at h
  obtain ⟨U, hU⟩ : ∃ U : Nat, U = 1000000 := ⟨_, rfl⟩
  by_cases c : n < 0
  · have e : IntKind.u64.wrap (-(IntKind.u64.wrap n)) = (((-n).toNat : Nat) : Int) := by rw [wrap_u64, wrap_u64]; omega
    rw [if_pos c, e, digits_f (by omega) (by omega), unit_f (by omega), ← hU]
    simp only [bs]
    rw [prod_dg' (by omega) (lt40 (by omega)) (lt40 (by omega))]
    simp only [bs]
    rw [made_times (by omega) true (by omega) hU (n := n) (by simp; omega)]
    rfl
  · have e : IntKind.u64.wrap n = ((n.toNat : Nat) : Int) := by rw [wrap_u64]; omega
    rw [if_neg c, e, digits_f (by omega) (by omega), unit_f (by omega), ← hU]
    simp only [bs]
    rw [prod_dg' (by omega) (lt40 (by omega)) (lt40 (by omega))]
    simp only [bs]
    rw [made_times (by omega) false (by omega) hU (n := n) (by simp; omega)]
    rfl

/-! ### Floor, Ceil, Round -/
end Go.Proofs.Yticpobgkbapdmaa.DecG
