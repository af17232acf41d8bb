/- Plain laws of char: the document's answer against the package's. No program in sight. -/
import Derived.Test.YticpobgkbapdmaaDoorKoCharB
import Derived.Lib.TrimUEq
import Derived.Lib.ValidLaws
namespace Go.Proofs.YticpobgkbapdmaaDoor.CharA
end Go.Proofs.YticpobgkbapdmaaDoor.CharA
namespace Go.Proofs.YticpobgkbapdmaaDoor.CharB
end Go.Proofs.YticpobgkbapdmaaDoor.CharB
namespace Go.Proofs.YticpobgkbapdmaaDoor.PR1
end Go.Proofs.YticpobgkbapdmaaDoor.PR1
namespace Go.Proofs.YticpobgkbapdmaaDoorW.PrintLast
end Go.Proofs.YticpobgkbapdmaaDoorW.PrintLast
namespace Go.Proofs.YticpobgkbapdmaaDoorW.PrintMore
end Go.Proofs.YticpobgkbapdmaaDoorW.PrintMore
namespace Go.Proofs.YticpobgkbapdmaaDoorW.PrintWords
end Go.Proofs.YticpobgkbapdmaaDoorW.PrintWords
namespace Go.Proofs.YticpobgkbapdmaaDoor.CharC
open Go.RowKit Go.Proofs.YticpobgkbapdmaaDoorW.PrintWords Go.Proofs.YticpobgkbapdmaaDoorW.PrintLast Go.Proofs.YticpobgkbapdmaaDoorW.PrintMore Go.Proofs.YticpobgkbapdmaaDoor.CharA Go.Proofs.YticpobgkbapdmaaDoor.CharB Go.Proofs.YticpobgkbapdmaaDoor.PR1
set_option linter.unusedVariables false
set_option linter.unusedSimpArgs false
theorem bs {α β : Type} (a : α) (f : α → Option β) : (some a).bind f = f a := rfl
theorem w64 {n : Int} (h0 : -9223372036854775808 ≤ n) (h1 : n ≤ 9223372036854775807) : wrap64 n = n := by unfold wrap64; omega
def flat : List (Int × Int) → List Int
  | [] => []
  | (p, q) :: l => p :: q :: flat l
theorem flat_length : ∀ L, (flat L).length = 2 * L.length
  | [] => rfl
  | (p, q) :: l => by simp [flat, flat_length l]; omega
theorem flat_at : ∀ (L : List (Int × Int)) (k : Nat) (hk : k < L.length), (flat L).getD (2 * k) 0 = L[k].1 ∧ (flat L).getD (2 * k + 1) 0 = L[k].2
  | (p, q) :: L, 0, _ => ⟨rfl, rfl⟩
  | (p, q) :: L, k + 1, hk => by
    have h := flat_at L k (by simpa using hk)
    rw [Nat.mul_add]
    simpa [flat] using h
theorem in_l0 (a : Int) (L : List (Int × Int)) (hL : L.length < 1000000) : ∀ (n i k : Nat), L.length - i ≤ n → i ≤ L.length → n < k → breviaryref01_in.l0 k a (flat L) ((2 * i : Nat) : Int) = some (char_within.f a (L.drop i)) := by
  intro n
  induction n with
  | zero =>
    intro i k h hi hk
    obtain ⟨k, rfl⟩ : ∃ j, k = j + 1 := ⟨k - 1, by omega⟩
    obtain rfl : i = L.length := by omega
    rw [List.drop_length]
    simp only [breviaryref01_in.l0, char_within.f]
    rw [if_neg]
    rw [w64 (by omega) (by omega), flat_length]; omega
  | succ n ih =>
    intro i k h hi hk
    obtain ⟨k, rfl⟩ : ∃ j, k = j + 1 := ⟨k - 1, by omega⟩
    by_cases hlt : i < L.length
    · have ih' := ih (i + 1) k (by omega) (by omega) (by omega)
      obtain ⟨h1, h2⟩ := flat_at L i hlt
      have e1 : wrap64 (((2 * i : Nat) : Int) + 1) = ((2 * i + 1 : Nat) : Int) := by rw [w64 (by omega) (by omega)]; omega
      have e2 : wrap64 (((2 * i : Nat) : Int) + 2) = ((2 * (i + 1) : Nat) : Int) := by rw [w64 (by omega) (by omega)]; omega
      rw [List.drop_eq_getElem_cons hlt]
      simp only [breviaryref01_in.l0]
      rw [e1, e2, if_pos (by rw [flat_length]; omega), if_pos (by omega), if_pos (by rw [flat_length]; omega), if_pos (show (0 : Int) ≤ ((2 * i + 1 : Nat) : Int) by omega), ih']
      unfold rd
      rw [Int.toNat_natCast, Int.toNat_natCast, h1, h2]
      generalize L[i] = x
      obtain ⟨p, q⟩ := x
      simp only [char_within.f]
      split <;> (try split) <;> rfl
    · exact (ih i (k + 1) (by omega) hi (by omega))
theorem in_f (a : Int) (L : List (Int × Int)) (hL : L.length < 1000000) (k : Nat) (hk : L.length < k) (l : List Int) (hl : l = flat L) : breviaryref01_in.f k a l = some (char_within.f a L) := by
  subst hl
  exact in_l0 a L hL L.length 0 k (by omega) (by omega) hk
/-- Within some pair. -/
theorem within_iff (a : Int) : ∀ L, char_within.f a L = true ↔ ∃ x ∈ L, x.1 ≤ a ∧ a ≤ x.2
  | [] => by simp [char_within.f]
  | (p, q) :: l => by
    simp only [char_within.f, List.mem_cons, exists_eq_or_imp]
    rw [← within_iff a l]
    by_cases h1 : a ≥ p
    · by_cases h2 : a ≤ q
      · simp [h1, h2]
      · simp [h1, h2]
    · simp [h1]
def rIs : List (Int × Int) := [(9, 9), (10, 10), (13, 13), (32, 0xd7ff), (0xe000, 0xfffd), (0x10000, 0x10ffff)]
theorem is_eq (a : Int) : char_within.f a rIs = isB a := by
  rw [Bool.eq_iff_iff]
  unfold isB
  rw [within_iff, within_iff]
  simp only [rIs, isL, List.mem_cons, List.not_mem_nil, or_false, exists_eq_or_imp, exists_eq_left]
  omega
theorem ref_is (k : Nat) (hk : 30 < k) (a : Int) : breviaryref01_Is.f k a = some (isB a) := by
  unfold breviaryref01_Is.f
  rw [in_f a rIs (by decide) k (by simp [rIs]; omega), is_eq]
  · rfl
  · rfl
/-! ### One -/
end Go.Proofs.YticpobgkbapdmaaDoor.CharC
