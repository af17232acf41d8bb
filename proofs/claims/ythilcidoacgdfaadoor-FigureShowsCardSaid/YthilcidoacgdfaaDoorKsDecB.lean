/- The reference's functions over lists of digits come to the numbers' own sums, differences, products and quotients. -/
import Derived.Test.YthilcidoacgdfaaDoorKsDecA
namespace Go.Proofs.YthilcidoacgdfaaDoor.DecA
end Go.Proofs.YthilcidoacgdfaaDoor.DecA
namespace Go.Proofs.YthilcidoacgdfaaDoor.PF
end Go.Proofs.YthilcidoacgdfaaDoor.PF
namespace Go.Proofs.YthilcidoacgdfaaDoorW.PrintLast
end Go.Proofs.YthilcidoacgdfaaDoorW.PrintLast
namespace Go.Proofs.YthilcidoacgdfaaDoorW.PrintMore
end Go.Proofs.YthilcidoacgdfaaDoorW.PrintMore
namespace Go.Proofs.YthilcidoacgdfaaDoorW.PrintWords
end Go.Proofs.YthilcidoacgdfaaDoorW.PrintWords
namespace Go.Proofs.YthilcidoacgdfaaDoor.DecB
open Go.RowKit Go.Proofs.YthilcidoacgdfaaDoor.PF Go.Proofs.YthilcidoacgdfaaDoorW.PrintWords Go.Proofs.YthilcidoacgdfaaDoorW.PrintLast Go.Proofs.YthilcidoacgdfaaDoorW.PrintMore Go.Proofs.YthilcidoacgdfaaDoor.DecA

theorem succ_of {k n : Nat} (h : n < k) : ∃ m, k = m + 1 ∧ n ≤ m := ⟨k - 1, by omega, by omega⟩

/-! ### trim -/
/-! ### least -/
/-! ### plus -/
/-! ### Digits, unit -/
theorem digits_l0 : ∀ (n : Nat) (o : List Int) (k : Nat), n < 18446744073709551616 → o.length + (dg n).length ≤ 100 → (dg n).length < k → breviaryref03_Digits.l0 k (n : Int) o = some (o ++ dg n) := by
  intro n
  induction n using Nat.strongRecOn with
  | _ n ih =>
    intro o k hn ho hk
    obtain ⟨k, rfl, hk'⟩ := succ_of hk
    simp only [breviaryref03_Digits.l0]
    by_cases h : n = 0
    · subst h
      rw [if_neg (by omega), dg_zero, List.append_nil]
    · have hl : (dg n).length = (dg (n / 10)).length + 1 := by rw [dg_pos n h]; rfl
      rw [if_pos (by omega), if_pos (by omega), Int.tdiv_eq_ediv_of_nonneg (by omega), Int.tmod_eq_emod_of_nonneg (by omega)]
      rw [u64 (by omega) (by omega), w64 (by omega) (by omega)]
      have e : (n : Int) / 10 = ((n / 10 : Nat) : Int) := by omega
      rw [e, ih (n / 10) (by omega) _ k (by omega) (by simp; omega) (by omega), dg_pos n h]
      simp
theorem dg_len64 {n : Nat} (h : n < 18446744073709551616) : (dg n).length ≤ 20 := dg_le_length 20 n (Nat.lt_trans h (by decide))
theorem digits_f {n : Nat} {k : Nat} (h : n < 18446744073709551616) (hk : 30 < k) : breviaryref03_Digits.f k (n : Int) = some (dg n) := by
  have := dg_len64 h
  unfold breviaryref03_Digits.f
  rw [digits_l0 n [] k h (by simp; omega) (by omega), List.nil_append]
/-! ### Made -/
end Go.Proofs.YthilcidoacgdfaaDoor.DecB
