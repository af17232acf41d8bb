/- Plain laws of char: the document's answer against the package's. No program in sight. -/
import Derived.Test.YthilcidoacgdfaaDoorLqCharB
import Derived.Lib.TrimUEq
import Derived.Lib.ValidLaws
import Derived.Test.YthilcidoacgdfaaDoorLqPFx1
import Derived.Test.YthilcidoacgdfaaDoorLqPFx2
import Derived.Test.YthilcidoacgdfaaDoorLqPFx3
import Derived.Test.YthilcidoacgdfaaDoorLqPFx4
import Derived.Test.YthilcidoacgdfaaDoorLqPFx5
import Derived.Test.YthilcidoacgdfaaDoorLqPFx6
import Derived.Test.YthilcidoacgdfaaDoorLqPFx7
import Derived.Test.YthilcidoacgdfaaDoorLqShelfV
namespace Go.Proofs.YthilcidoacgdfaaDoor.CharA
end Go.Proofs.YthilcidoacgdfaaDoor.CharA
namespace Go.Proofs.YthilcidoacgdfaaDoor.CharB
end Go.Proofs.YthilcidoacgdfaaDoor.CharB
namespace Go.Proofs.YthilcidoacgdfaaDoor.PF
end Go.Proofs.YthilcidoacgdfaaDoor.PF
namespace Go.Proofs.YthilcidoacgdfaaDoorW.PrintLast
end Go.Proofs.YthilcidoacgdfaaDoorW.PrintLast
namespace Go.Proofs.YthilcidoacgdfaaDoorW.PrintMore
end Go.Proofs.YthilcidoacgdfaaDoorW.PrintMore
namespace Go.Proofs.YthilcidoacgdfaaDoorW.PrintWords
end Go.Proofs.YthilcidoacgdfaaDoorW.PrintWords
namespace Go.Proofs.YthilcidoacgdfaaDoor.CharC
open Go.RowKit Go.Proofs.YthilcidoacgdfaaDoorW.PrintWords Go.Proofs.YthilcidoacgdfaaDoorW.PrintLast Go.Proofs.YthilcidoacgdfaaDoorW.PrintMore Go.Proofs.YthilcidoacgdfaaDoor.CharA Go.Proofs.YthilcidoacgdfaaDoor.CharB Go.Proofs.YthilcidoacgdfaaDoor.PF
set_option linter.unusedVariables false
set_option linter.unusedSimpArgs false
theorem w64 {n : Int} (h0 : -9223372036854775808 ≤ n) (h1 : n ≤ 9223372036854775807) : wrap64 n = n := by unfold wrap64; omega
/-! ### One -/
end Go.Proofs.YthilcidoacgdfaaDoor.CharC
/- Plain laws of char, the second half: Chars, Text, Name, Blank. -/
namespace Go.Proofs.YthilcidoacgdfaaDoor.CharA
end Go.Proofs.YthilcidoacgdfaaDoor.CharA
namespace Go.Proofs.YthilcidoacgdfaaDoor.CharB
end Go.Proofs.YthilcidoacgdfaaDoor.CharB
namespace Go.Proofs.YthilcidoacgdfaaDoor.CharC
end Go.Proofs.YthilcidoacgdfaaDoor.CharC
namespace Go.Proofs.YthilcidoacgdfaaDoor.PF
end Go.Proofs.YthilcidoacgdfaaDoor.PF
namespace Go.Proofs.YthilcidoacgdfaaDoorW.PrintLast
end Go.Proofs.YthilcidoacgdfaaDoorW.PrintLast
namespace Go.Proofs.YthilcidoacgdfaaDoorW.PrintMore
end Go.Proofs.YthilcidoacgdfaaDoorW.PrintMore
namespace Go.Proofs.YthilcidoacgdfaaDoorW.PrintWords
end Go.Proofs.YthilcidoacgdfaaDoorW.PrintWords
namespace Go.Proofs.YthilcidoacgdfaaDoor.CharD
open Go.RowKit Go.Proofs.YthilcidoacgdfaaDoorW.PrintWords Go.Proofs.YthilcidoacgdfaaDoorW.PrintLast Go.Proofs.YthilcidoacgdfaaDoorW.PrintMore Go.Proofs.YthilcidoacgdfaaDoor.CharA Go.Proofs.YthilcidoacgdfaaDoor.CharB Go.Proofs.YthilcidoacgdfaaDoor.CharC Go.Proofs.YthilcidoacgdfaaDoor.PF
set_option linter.unusedVariables false
set_option linter.unusedSimpArgs false
set_option linter.unnecessarySimpa false
/-- The characters from a byte on; none: no right UTF-8. -/
def charsL (s : ByteArray) : Nat → Nat → Option (List Int)
  | 0, _ => some []
  | n + 1, pos => if pos < s.size then (if Utf8.decode s pos = (65533, 1) then none else (charsL s n (pos + (Utf8.decode s pos).2)).map (((Utf8.decode s pos).1 : Int) :: ·)) else some []
theorem charsL_end (s : ByteArray) (n pos : Nat) (h : ¬ pos < s.size) : charsL s n pos = some [] := by
  cases n with
  | zero => rfl
  | succ n => simp [charsL, h]
theorem dw (n b0 b1 b2 b3 : Nat) (h : 0 < n) : (Lib.decodeN n b0 b1 b2 b3).2 ≤ n := by
  unfold Lib.decodeN
  repeat' split
  all_goals (simp; try omega)
theorem width_le (s : ByteArray) (pos : Nat) (h : pos < s.size) : pos + (Utf8.decode s pos).2 ≤ s.size := by
  rw [Lib.decode_N]
  have := dw (s.data.toList.length - pos) (s.data.toList.getD pos 0).toNat (s.data.toList.getD (pos + 1) 0).toNat (s.data.toList.getD (pos + 2) 0).toNat (s.data.toList.getD (pos + 3) 0).toNat (by rw [← Lib.size_eq]; omega)
  rw [← Lib.size_eq] at this ⊢
  omega
theorem valid_chars (s : ByteArray) : ∀ (n pos : Nat), s.size ≤ pos + n → Lib.validD (s.data.toList.drop pos) = (charsL s n pos).isSome := by
  intro n
  induction n with
  | zero =>
    intro pos h
    rw [List.drop_eq_nil_of_le (by rw [← Lib.size_eq]; omega)]
    rfl
  | succ n ih =>
    intro pos h
    by_cases hlt : pos < s.size
    · rw [Lib.validD_step _ (by intro e; have := congrArg List.length e; rw [List.length_drop, ← Lib.size_eq] at this; simp at this; omega), Lib.decodeL_drop]
      simp only [charsL, if_pos hlt]
      have hw := width_pos s pos hlt
      by_cases hd : Utf8.decode s pos = (65533, 1)
      · rw [if_pos hd, if_pos (by rw [hd]; exact ⟨rfl, rfl⟩)]; rfl
      · rw [if_neg hd, if_neg (by intro e; exact hd (Prod.ext e.1 e.2)), List.drop_drop, ih _ (by omega)]
        cases charsL s n (pos + (Utf8.decode s pos).2) <;> rfl
    · rw [charsL_end _ _ _ hlt, List.drop_eq_nil_of_le (by rw [← Lib.size_eq]; omega)]
      rfl
theorem allR_chars (p : Int → Bool) (s : ByteArray) : ∀ (n pos : Nat) (l : List Int), charsL s n pos = some l → allR p s n pos = l.all p := by
  intro n
  induction n with
  | zero => intro pos l h; simp [charsL] at h; subst h; rfl
  | succ n ih =>
    intro pos l h
    simp only [charsL] at h
    simp only [allR]
    split at h
    · rename_i hlt
      rw [if_pos hlt]
      split at h
      · cases h
      · obtain ⟨l', hl', rfl⟩ := Option.map_eq_some_iff.1 h
        rw [ih _ _ hl', List.all_cons]
        cases p ((Utf8.decode s pos).1 : Int) <;> rfl
    · rename_i hlt
      rw [if_neg hlt]
      cases h
      rfl
/-! ### Blank -/
theorem decode_big (s : ByteArray) (pos : Nat) (h : pos < s.size) (ha : 128 ≤ (s[pos]'h).toNat) : spaceB ((Utf8.decode s pos).1 : Int) = false := by
  have := (decode_high s pos h ha).1
  unfold spaceB
  generalize (Utf8.decode s pos).1 = q at *
  simp
  omega
end Go.Proofs.YthilcidoacgdfaaDoor.CharD
/- Plain laws of char: a text behind a text. -/
namespace Go.Proofs.YthilcidoacgdfaaDoor.CharA
end Go.Proofs.YthilcidoacgdfaaDoor.CharA
namespace Go.Proofs.YthilcidoacgdfaaDoor.CharB
end Go.Proofs.YthilcidoacgdfaaDoor.CharB
namespace Go.Proofs.YthilcidoacgdfaaDoor.CharC
end Go.Proofs.YthilcidoacgdfaaDoor.CharC
namespace Go.Proofs.YthilcidoacgdfaaDoor.CharD
end Go.Proofs.YthilcidoacgdfaaDoor.CharD
namespace Go.Proofs.YthilcidoacgdfaaDoorW.PrintLast
end Go.Proofs.YthilcidoacgdfaaDoorW.PrintLast
namespace Go.Proofs.YthilcidoacgdfaaDoorW.PrintMore
end Go.Proofs.YthilcidoacgdfaaDoorW.PrintMore
namespace Go.Proofs.YthilcidoacgdfaaDoorW.PrintWords
end Go.Proofs.YthilcidoacgdfaaDoorW.PrintWords
namespace Go.Proofs.YthilcidoacgdfaaDoor.CharF
open Go.RowKit Go.Proofs.YthilcidoacgdfaaDoorW.PrintWords Go.Proofs.YthilcidoacgdfaaDoorW.PrintLast Go.Proofs.YthilcidoacgdfaaDoorW.PrintMore Go.Proofs.YthilcidoacgdfaaDoor.CharA Go.Proofs.YthilcidoacgdfaaDoor.CharB Go.Proofs.YthilcidoacgdfaaDoor.CharC Go.Proofs.YthilcidoacgdfaaDoor.CharD
set_option linter.unusedVariables false
set_option linter.unusedSimpArgs false
set_option linter.unnecessarySimpa false
theorem dec_more (n n' b0 b1 b2 b3 c1 c2 c3 : Nat) (hn : n ≤ n') (h1 : 1 < n → c1 = b1) (h2 : 2 < n → c2 = b2) (h3 : 3 < n → c3 = b3) (hg : Lib.decodeN n b0 b1 b2 b3 ≠ (65533, 1)) :
    Lib.decodeN n' b0 c1 c2 c3 = Lib.decodeN n b0 b1 b2 b3 := by
  unfold Lib.decodeN at hg ⊢
  by_cases e0 : b0 < 128
  · rw [if_pos e0, if_pos e0]
  rw [if_neg e0] at hg ⊢
  rw [if_neg e0]
  by_cases e1 : b0 / 32 = 6 ∧ (1 < n ∧ b1 / 64 = 2)
  · obtain rfl := h1 e1.2.1
    rw [if_pos e1, if_pos ⟨e1.1, by omega, e1.2.2⟩]
  rw [if_neg e1] at hg ⊢
  by_cases e2 : b0 / 16 = 14 ∧ (1 < n ∧ b1 / 64 = 2) ∧ (2 < n ∧ b2 / 64 = 2)
  · obtain rfl := h1 e2.2.1.1
    obtain rfl := h2 e2.2.2.1
    rw [if_pos e2, if_neg (by omega), if_pos ⟨e2.1, ⟨by omega, e2.2.1.2⟩, by omega, e2.2.2.2⟩]
  rw [if_neg e2] at hg ⊢
  by_cases e3 : b0 / 8 = 30 ∧ (1 < n ∧ b1 / 64 = 2) ∧ (2 < n ∧ b2 / 64 = 2) ∧ (3 < n ∧ b3 / 64 = 2)
  · obtain rfl := h1 e3.2.1.1
    obtain rfl := h2 e3.2.2.1.1
    obtain rfl := h3 e3.2.2.2.1
    rw [if_pos e3, if_neg (by omega), if_neg (by omega), if_pos ⟨e3.1, ⟨by omega, e3.2.1.2⟩, ⟨by omega, e3.2.2.1.2⟩, by omega, e3.2.2.2.2⟩]
  · rw [if_neg e3] at hg
    exact absurd rfl hg
theorem app_list (a b : ByteArray) : (a ++ b).data.toList = a.data.toList ++ b.data.toList := by simp
theorem app_size (a b : ByteArray) : (a ++ b).size = a.size + b.size := by simp
theorem decode_app (a b : ByteArray) (pos : Nat) (hp : pos < a.size) (hg : Utf8.decode a pos ≠ (65533, 1)) : Utf8.decode (a ++ b) pos = Utf8.decode a pos := by
  rw [Lib.decode_N] at hg ⊢
  rw [Lib.decode_N]
  have hb : ∀ i, i < a.size - pos → (a ++ b).data.toList.getD (pos + i) 0 = a.data.toList.getD (pos + i) 0 := by
    intro i hi
    rw [app_list]
    have : pos + i < a.data.toList.length := by rw [← Lib.size_eq]; omega
    simp [List.getD, List.getElem?_append_left this]
  have h0 := hb 0 (by omega)
  rw [Nat.add_zero] at h0
  rw [h0]
  refine dec_more _ _ _ _ _ _ _ _ _ ?_ ?_ ?_ ?_ hg
  · rw [app_list, List.length_append]; omega
  · intro h; rw [hb 1 (by rw [← Lib.size_eq] at h; omega)]
  · intro h; rw [hb 2 (by rw [← Lib.size_eq] at h; omega)]
  · intro h; rw [hb 3 (by rw [← Lib.size_eq] at h; omega)]
theorem decode_shift (a b : ByteArray) (p : Nat) : Utf8.decode (a ++ b) (a.size + p) = Utf8.decode b p := by
  rw [← Lib.decodeL_drop, ← Lib.decodeL_drop, app_list]
  congr 1
  rw [Lib.size_eq, List.drop_append]
  simp
theorem chars_shift (a b : ByteArray) : ∀ n p, charsL (a ++ b) n (a.size + p) = charsL b n p := by
  intro n
  induction n with
  | zero => intro p; rfl
  | succ n ih =>
    intro p
    simp only [charsL]
    rw [decode_shift, app_size, Nat.add_assoc, ih]
    by_cases h : p < b.size
    · rw [if_pos h, if_pos (by omega)]
    · rw [if_neg h, if_neg (by omega)]
theorem chars_fuel (s : ByteArray) : ∀ n m p, s.size ≤ p + n → charsL s (n + m) p = charsL s n p := by
  intro n
  induction n with
  | zero =>
    intro m p h
    rw [charsL_end _ _ _ (by omega), charsL_end _ _ _ (by omega)]
  | succ n ih =>
    intro m p h
    rw [show n + 1 + m = (n + m) + 1 by omega]
    simp only [charsL]
    by_cases hp : p < s.size
    · have := width_pos s p hp
      rw [ih m _ (by omega)]
    · rw [if_neg hp, if_neg hp]
theorem chars_app (a b : ByteArray) : ∀ n pos l, pos ≤ a.size → a.size ≤ pos + n → charsL a n pos = some l → charsL (a ++ b) (n + b.size) pos = (charsL b b.size 0).map (l ++ ·) := by
  intro n
  induction n with
  | zero =>
    intro pos l h1 h2 h
    obtain rfl : pos = a.size := by omega
    simp only [charsL] at h
    cases h
    have := chars_shift a b b.size 0
    rw [Nat.add_zero] at this
    rw [Nat.zero_add, this]
    simp
  | succ n ih =>
    intro pos l h1 h2 h
    by_cases hp : pos < a.size
    · simp only [charsL, if_pos hp] at h
      split at h
      · cases h
      · rename_i hd
        obtain ⟨l', hl', rfl⟩ := Option.map_eq_some_iff.1 h
        have hw := width_pos a pos hp
        rw [show n + 1 + b.size = (n + b.size) + 1 by omega]
        simp only [charsL]
        rw [if_pos (by rw [app_size]; omega), decode_app a b pos hp hd, if_neg hd, ih _ l' (width_le a pos hp) (by omega) hl']
        cases charsL b b.size 0 <;> simp
    · obtain rfl : pos = a.size := by omega
      rw [charsL_end _ _ _ (by omega)] at h
      cases h
      have := chars_shift a b (n + 1 + b.size) 0
      rw [show a.size + 0 = a.size from rfl] at this
      rw [this, show n + 1 + b.size = b.size + (n + 1) by omega, chars_fuel b _ _ _ (by omega)]
      simp
theorem textB_chars (s : ByteArray) : textB s = (match charsL s s.size 0 with | none => false | some l => l.all isB) := by
  unfold textB
  have hv := valid_chars s s.size 0 (by omega)
  rw [List.drop_zero] at hv
  rw [hv]
  cases hc : charsL s s.size 0 with
  | none => rfl
  | some l => rw [allR_chars isB s _ _ _ hc]; simp
theorem text_app (a b : ByteArray) (h : textB a = true) : textB (a ++ b) = textB b := by
  rw [textB_chars] at h ⊢
  rw [textB_chars b]
  cases hc : charsL a a.size 0 with
  | none => rw [hc] at h; cases h
  | some l =>
    rw [hc] at h
    have := chars_app a b a.size 0 l (by omega) (by omega) hc
    rw [app_size, this]
    cases charsL b b.size 0 with
    | none => rfl
    | some lb =>
      simp only [Option.map_some, List.all_append]
      simp only at h
      rw [h]
      rfl
end Go.Proofs.YthilcidoacgdfaaDoor.CharF
/- The reference's lists of decimal digits, as plain Lean: each of its functions (trim, least, plus, minus, product, quotient, Digits, Made) comes to what it says of the numbers. No program in sight but the printed functions. -/
namespace Go.Proofs.YthilcidoacgdfaaDoor.PF
end Go.Proofs.YthilcidoacgdfaaDoor.PF
namespace Go.Proofs.YthilcidoacgdfaaDoorW.PrintLast
end Go.Proofs.YthilcidoacgdfaaDoorW.PrintLast
namespace Go.Proofs.YthilcidoacgdfaaDoorW.PrintMore
end Go.Proofs.YthilcidoacgdfaaDoorW.PrintMore
namespace Go.Proofs.YthilcidoacgdfaaDoorW.PrintWords
end Go.Proofs.YthilcidoacgdfaaDoorW.PrintWords
namespace Go.Proofs.YthilcidoacgdfaaDoor.DecA
open Go.RowKit Go.Proofs.YthilcidoacgdfaaDoor.PF Go.Proofs.YthilcidoacgdfaaDoorW.PrintWords Go.Proofs.YthilcidoacgdfaaDoorW.PrintLast Go.Proofs.YthilcidoacgdfaaDoorW.PrintMore

/-! ### lists of digits, the last one first -/
/-! ### a whole number in its bounds -/
theorem w64 {x : Int} (h : -9223372036854775808 ≤ x) (h' : x ≤ 9223372036854775807) : wrap64 x = x := by unfold wrap64; omega
theorem u64 {x : Int} (h : 0 ≤ x) (h' : x ≤ 18446744073709551615) : IntKind.u64.wrap x = x := by
  simp [IntKind.wrap, IntKind.signed, IntKind.bits] <;> omega
end Go.Proofs.YthilcidoacgdfaaDoor.DecA
/- The reference's functions over lists of digits come to the numbers' own sums, differences, products and quotients. -/
namespace Go.Proofs.YthilcidoacgdfaaDoor.DecA
end Go.Proofs.YthilcidoacgdfaaDoor.DecA
namespace Go.Proofs.YthilcidoacgdfaaDoor.PF
end Go.Proofs.YthilcidoacgdfaaDoor.PF
namespace Go.Proofs.YthilcidoacgdfaaDoorW.PrintLast
end Go.Proofs.YthilcidoacgdfaaDoorW.PrintLast
namespace Go.Proofs.YthilcidoacgdfaaDoorW.PrintMore
end Go.Proofs.YthilcidoacgdfaaDoorW.PrintMore
namespace Go.Proofs.YthilcidoacgdfaaDoorW.PrintWords
end Go.Proofs.YthilcidoacgdfaaDoorW.PrintWords
namespace Go.Proofs.YthilcidoacgdfaaDoor.DecB
open Go.RowKit Go.Proofs.YthilcidoacgdfaaDoor.PF Go.Proofs.YthilcidoacgdfaaDoorW.PrintWords Go.Proofs.YthilcidoacgdfaaDoorW.PrintLast Go.Proofs.YthilcidoacgdfaaDoorW.PrintMore Go.Proofs.YthilcidoacgdfaaDoor.DecA

theorem succ_of {k n : Nat} (h : n < k) : ∃ m, k = m + 1 ∧ n ≤ m := ⟨k - 1, by omega, by omega⟩

/-! ### trim -/
/-! ### least -/
/-! ### plus -/
/-! ### Digits, unit -/
/-! ### Made -/
end Go.Proofs.YthilcidoacgdfaaDoor.DecB
