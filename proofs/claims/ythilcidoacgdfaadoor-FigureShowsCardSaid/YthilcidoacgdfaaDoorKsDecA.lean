/- The reference's lists of decimal digits, as plain Lean: each of its functions (trim, least, plus, minus, product, quotient, Digits, Made) comes to what it says of the numbers. No program in sight but the printed functions. -/
import Derived.Test.YthilcidoacgdfaaDoorKsPFx0
import Derived.Test.YthilcidoacgdfaaDoorKsPFx2
import Derived.Test.YthilcidoacgdfaaDoorKsPFx3
import Derived.Test.YthilcidoacgdfaaDoorKsPFx4
import Derived.Test.YthilcidoacgdfaaDoorKsPFx5
import Derived.Test.YthilcidoacgdfaaDoorKsPFx6
import Derived.Test.YthilcidoacgdfaaDoorKsPFx7
import Derived.Test.YthilcidoacgdfaaDoorKsPFx8
namespace Go.Proofs.YthilcidoacgdfaaDoor.PF
end Go.Proofs.YthilcidoacgdfaaDoor.PF
namespace Go.Proofs.YthilcidoacgdfaaDoorW.PrintLast
end Go.Proofs.YthilcidoacgdfaaDoorW.PrintLast
namespace Go.Proofs.YthilcidoacgdfaaDoorW.PrintMore
end Go.Proofs.YthilcidoacgdfaaDoorW.PrintMore
namespace Go.Proofs.YthilcidoacgdfaaDoorW.PrintWords
end Go.Proofs.YthilcidoacgdfaaDoorW.PrintWords
namespace Go.Proofs.YthilcidoacgdfaaDoor.DecA
open Go.RowKit Go.Proofs.YthilcidoacgdfaaDoor.PF Go.Proofs.YthilcidoacgdfaaDoorW.PrintWords Go.Proofs.YthilcidoacgdfaaDoorW.PrintLast Go.Proofs.YthilcidoacgdfaaDoorW.PrintMore

/-! ### lists of digits, the last one first -/
def Dig (l : List Int) : Prop := ∀ d ∈ l, 0 ≤ d ∧ d ≤ 9
def dg : Nat → List Int
  | 0 => []
  | n + 1 => (((n + 1) % 10 : Nat) : Int) :: dg ((n + 1) / 10)
termination_by n => n
decreasing_by omega

theorem dg_zero : dg 0 = [] := by unfold dg; rfl
theorem dg_pos (n : Nat) (h : n ≠ 0) : dg n = ((n % 10 : Nat) : Int) :: dg (n / 10) := by
  obtain ⟨m, rfl⟩ : ∃ m, n = m + 1 := ⟨n - 1, by omega⟩
  rw [dg]
theorem dg_dig (n : Nat) : Dig (dg n) := by
  induction n using Nat.strongRecOn with
  | _ n ih =>
    by_cases h : n = 0
    · subst h; rw [dg_zero]; intro d hd; cases hd
    · rw [dg_pos n h]
      intro d hd
      rcases List.mem_cons.1 hd with rfl | hd
      · omega
      · exact ih (n / 10) (by omega) d hd
theorem dig_get {l : List Int} (h : Dig l) (i : Nat) : 0 ≤ l.getD i 0 ∧ l.getD i 0 ≤ 9 := by
  by_cases hi : i < l.length
  · have := h (l.getD i 0) (by simp [List.getD, List.getElem?_eq_getElem hi])
    exact this
  · simp [List.getD, List.getElem?_eq_none (Nat.le_of_not_lt hi)]
theorem dg_le_length : ∀ (m n : Nat), n < 10 ^ m → (dg n).length ≤ m
  | 0, n, h => by
    have : n = 0 := by simpa using h
    subst this; rw [dg_zero]; simp
  | m + 1, n, h => by
    by_cases h0 : n = 0
    · subst h0; rw [dg_zero]; simp
    · rw [dg_pos n h0, List.length_cons]
      have := dg_le_length m (n / 10) (by rw [Nat.pow_succ] at h; omega)
      omega
/-! ### a whole number in its bounds -/
theorem w64 {x : Int} (h : -9223372036854775808 ≤ x) (h' : x ≤ 9223372036854775807) : wrap64 x = x := by unfold wrap64; omega
theorem u64 {x : Int} (h : 0 ≤ x) (h' : x ≤ 18446744073709551615) : IntKind.u64.wrap x = x := by
  simp [IntKind.wrap, IntKind.signed, IntKind.bits] <;> omega
theorem rd_eq (l : List Int) (i : Nat) : rd l (i : Int) = l.getD i 0 := by simp [rd]
end Go.Proofs.YthilcidoacgdfaaDoor.DecA
