/- The reference's lists of decimal digits, as plain Lean: each of its functions (trim, least, plus, minus, product, quotient, Digits, Made) comes to what it says of the numbers. No program in sight but the printed functions. -/
import Derived.Test.YthilcidoacgdfaaDoorKrPFx0
import Derived.Test.YthilcidoacgdfaaDoorKrPFx2
import Derived.Test.YthilcidoacgdfaaDoorKrPFx3
import Derived.Test.YthilcidoacgdfaaDoorKrPFx4
import Derived.Test.YthilcidoacgdfaaDoorKrPFx5
import Derived.Test.YthilcidoacgdfaaDoorKrPFx6
import Derived.Test.YthilcidoacgdfaaDoorKrPFx7
import Derived.Test.YthilcidoacgdfaaDoorKrPFx8
import Derived.Test.YthilcidoacgdfaaDoorKrPFx9
import Derived.Test.YthilcidoacgdfaaDoorKrPFx10
import Derived.Test.YthilcidoacgdfaaDoorKrPFx11
namespace Go.Proofs.YthilcidoacgdfaaDoor.PF
end Go.Proofs.YthilcidoacgdfaaDoor.PF
namespace Go.Proofs.YthilcidoacgdfaaDoorW.PrintLast
end Go.Proofs.YthilcidoacgdfaaDoorW.PrintLast
namespace Go.Proofs.YthilcidoacgdfaaDoorW.PrintMore
end Go.Proofs.YthilcidoacgdfaaDoorW.PrintMore
namespace Go.Proofs.YthilcidoacgdfaaDoorW.PrintWords
end Go.Proofs.YthilcidoacgdfaaDoorW.PrintWords
namespace Go.Proofs.YthilcidoacgdfaaDoor.DecA
open Go.RowKit Go.Proofs.YthilcidoacgdfaaDoor.PF Go.Proofs.YthilcidoacgdfaaDoorW.PrintWords Go.Proofs.YthilcidoacgdfaaDoorW.PrintLast Go.Proofs.YthilcidoacgdfaaDoorW.PrintMore

theorem pow10_le {m n : Nat} (h : m ≤ n) : (10 : Int) ^ m ≤ 10 ^ n := by exact_mod_cast Nat.pow_le_pow_right (n := 10) (by omega) h
/-! ### lists of digits, the last one first -/
def val : List Int → Int
  | [] => 0
  | d :: l => d + 10 * val l
def Dig (l : List Int) : Prop := ∀ d ∈ l, 0 ≤ d ∧ d ≤ 9
def dg : Nat → List Int
  | 0 => []
  | n + 1 => (((n + 1) % 10 : Nat) : Int) :: dg ((n + 1) / 10)
termination_by n => n
decreasing_by omega

theorem dg_zero : dg 0 = [] := by unfold dg; rfl
theorem dg_pos (n : Nat) (h : n ≠ 0) : dg n = ((n % 10 : Nat) : Int) :: dg (n / 10) := by
  obtain ⟨m, rfl⟩ : ∃ m, n = m + 1 := ⟨n - 1, by omega⟩
  rw [dg]
theorem dg_dig (n : Nat) : Dig (dg n) := by
  induction n using Nat.strongRecOn with
  | _ n ih =>
    by_cases h : n = 0
    · subst h; rw [dg_zero]; intro d hd; cases hd
    · rw [dg_pos n h]
      intro d hd
      rcases List.mem_cons.1 hd with rfl | hd
      · omega
      · exact ih (n / 10) (by omega) d hd
theorem val_dg (n : Nat) : val (dg n) = n := by
  induction n using Nat.strongRecOn with
  | _ n ih =>
    by_cases h : n = 0
    · subst h; rw [dg_zero]; rfl
    · rw [dg_pos n h, val, ih (n / 10) (by omega)]; omega
theorem val_nonneg : ∀ l, Dig l → 0 ≤ val l
  | [], _ => Int.le_refl 0
  | d :: l, h => by
    have h1 := h d (by simp)
    have h2 := val_nonneg l (fun x hx => h x (by simp [hx]))
    simp only [val]; omega
theorem val_append : ∀ a b, val (a ++ b) = val a + 10 ^ a.length * val b
  | [], b => by simp [val]
  | d :: a, b => by
    have h := val_append a b
    simp only [List.cons_append, val, h, List.length_cons, Int.pow_succ]
    grind
theorem val_lt : ∀ l, Dig l → val l < 10 ^ l.length
  | [], _ => by simp [val]
  | d :: l, h => by
    have h1 := h d (by simp)
    have h2 := val_lt l (fun x hx => h x (by simp [hx]))
    simp only [val, List.length_cons, Int.pow_succ]; omega
theorem dig_append {a b : List Int} (ha : Dig a) (hb : Dig b) : Dig (a ++ b) := fun d hd => (List.mem_append.1 hd).elim (ha d) (hb d)
theorem dig_take {l : List Int} (h : Dig l) (n : Nat) : Dig (l.take n) := fun d hd => h d (List.mem_of_mem_take hd)
theorem dig_one {d : Int} (h0 : 0 ≤ d) (h9 : d ≤ 9) : Dig [d] := by intro x hx; simp at hx; subst hx; exact ⟨h0, h9⟩
theorem dig_get {l : List Int} (h : Dig l) (i : Nat) : 0 ≤ l.getD i 0 ∧ l.getD i 0 ≤ 9 := by
  by_cases hi : i < l.length
  · have := h (l.getD i 0) (by simp [List.getD, List.getElem?_eq_getElem hi])
    exact this
  · simp [List.getD, List.getElem?_eq_none (Nat.le_of_not_lt hi)]
/-- A list of digits whose last one is not 0 is its number's. -/
theorem canon : ∀ l, Dig l → (l = [] ∨ l.getLastD 0 ≠ 0) → l = dg (val l).toNat
  | [], _, _ => by rw [show val [] = 0 from rfl]; exact dg_zero.symm
  | [d], h, hl => by
    have h1 := h d (by simp)
    have h2 : d ≠ 0 := by rcases hl with hl | hl; cases hl; simpa using hl
    rw [show val [d] = d by simp [val], dg_pos _ (by omega), show d.toNat / 10 = 0 by omega, dg_zero]
    congr 1; omega
  | d :: e :: l, h, hl => by
    have h1 := h d (by simp)
    have h' : Dig (e :: l) := fun x hx => h x (by simp [hx])
    have hl' : (e :: l).getLastD 0 ≠ 0 := by
      rcases hl with hl | hl
      · cases hl
      · simpa [List.getLastD] using hl
    have ih := canon (e :: l) h' (.inr hl')
    have hv := val_nonneg _ h'
    have hne : val (e :: l) ≠ 0 := by
      intro h0
      rw [h0] at ih
      rw [show (0 : Int).toNat = 0 from rfl, dg_zero] at ih
      cases ih
    rw [show val (d :: e :: l) = d + 10 * val (e :: l) from rfl, dg_pos _ (by omega)]
    rw [show (d + 10 * val (e :: l)).toNat / 10 = (val (e :: l)).toNat by omega, ← ih]
    congr 1; omega
theorem dg_lt (n : Nat) : (n : Int) < 10 ^ (dg n).length := by rw [← val_dg n]; have := val_lt _ (dg_dig n); rwa [val_dg] at this ⊢
theorem dg_le_length : ∀ (m n : Nat), n < 10 ^ m → (dg n).length ≤ m
  | 0, n, h => by
    have : n = 0 := by simpa using h
    subst this; rw [dg_zero]; simp
  | m + 1, n, h => by
    by_cases h0 : n = 0
    · subst h0; rw [dg_zero]; simp
    · rw [dg_pos n h0, List.length_cons]
      have := dg_le_length m (n / 10) (by rw [Nat.pow_succ] at h; omega)
      omega
theorem dg_ge (n : Nat) (h : n ≠ 0) : (10 : Int) ^ ((dg n).length - 1) ≤ n := by
  induction n using Nat.strongRecOn with
  | _ n ih =>
    rw [dg_pos n h, List.length_cons, Nat.add_sub_cancel]
    by_cases h2 : n / 10 = 0
    · rw [h2, dg_zero]; simp; omega
    · have := ih (n / 10) (by omega) h2
      obtain ⟨m, hm⟩ : ∃ m, (dg (n / 10)).length = m + 1 := ⟨(dg (n / 10)).length - 1, by rw [dg_pos _ h2]; simp⟩
      rw [hm] at this ⊢
      rw [Nat.add_sub_cancel] at this
      rw [Int.pow_succ]
      omega
theorem getD_take_succ (l : List Int) (i : Nat) (h : i < l.length) : l.take (i + 1) = l.take i ++ [l.getD i 0] := by
  rw [List.take_add_one]; simp [List.getD, List.getElem?_eq_getElem h]
theorem val_take_succ (l : List Int) (i : Nat) : val (l.take (i + 1)) = val (l.take i) + 10 ^ i * l.getD i 0 := by
  by_cases h : i < l.length
  · rw [getD_take_succ l i h, val_append, List.length_take, Nat.min_eq_left (Nat.le_of_lt h)]
    simp [val]
  · rw [List.take_of_length_le (by omega), List.take_of_length_le (by omega)]
    simp [List.getD, List.getElem?_eq_none (Nat.le_of_not_lt h)]
theorem val_take_lt {l : List Int} (h : Dig l) (i : Nat) : val (l.take i) < 10 ^ i := by
  have h1 := val_lt _ (dig_take h i)
  have h2 : (10 : Int) ^ (l.take i).length ≤ 10 ^ i := pow10_le (by rw [List.length_take]; omega)
  omega
theorem val_take_nonneg {l : List Int} (h : Dig l) (i : Nat) : 0 ≤ val (l.take i) := val_nonneg _ (dig_take h i)

/-! ### a whole number in its bounds -/
theorem w64 {x : Int} (h : -9223372036854775808 ≤ x) (h' : x ≤ 9223372036854775807) : wrap64 x = x := by unfold wrap64; omega
theorem u64 {x : Int} (h : 0 ≤ x) (h' : x ≤ 18446744073709551615) : IntKind.u64.wrap x = x := by
  simp [IntKind.wrap, IntKind.signed, IntKind.bits] <;> omega
theorem rd_eq (l : List Int) (i : Nat) : rd l (i : Int) = l.getD i 0 := by simp [rd]
end Go.Proofs.YthilcidoacgdfaaDoor.DecA
