/- Plain laws of char, the second half: Chars, Text, Name, Blank. -/
import Derived.Test.YthilcidoacgdfaaDoorLsCharC
namespace Go.Proofs.YthilcidoacgdfaaDoor.CharA
end Go.Proofs.YthilcidoacgdfaaDoor.CharA
namespace Go.Proofs.YthilcidoacgdfaaDoor.CharB
end Go.Proofs.YthilcidoacgdfaaDoor.CharB
namespace Go.Proofs.YthilcidoacgdfaaDoor.CharC
end Go.Proofs.YthilcidoacgdfaaDoor.CharC
namespace Go.Proofs.YthilcidoacgdfaaDoor.PF
end Go.Proofs.YthilcidoacgdfaaDoor.PF
namespace Go.Proofs.YthilcidoacgdfaaDoorW.PrintLast
end Go.Proofs.YthilcidoacgdfaaDoorW.PrintLast
namespace Go.Proofs.YthilcidoacgdfaaDoorW.PrintMore
end Go.Proofs.YthilcidoacgdfaaDoorW.PrintMore
namespace Go.Proofs.YthilcidoacgdfaaDoorW.PrintWords
end Go.Proofs.YthilcidoacgdfaaDoorW.PrintWords
namespace Go.Proofs.YthilcidoacgdfaaDoor.CharD
open Go.RowKit Go.Proofs.YthilcidoacgdfaaDoorW.PrintWords Go.Proofs.YthilcidoacgdfaaDoorW.PrintLast Go.Proofs.YthilcidoacgdfaaDoorW.PrintMore Go.Proofs.YthilcidoacgdfaaDoor.CharA Go.Proofs.YthilcidoacgdfaaDoor.CharB Go.Proofs.YthilcidoacgdfaaDoor.CharC Go.Proofs.YthilcidoacgdfaaDoor.PF
set_option linter.unusedVariables false
set_option linter.unusedSimpArgs false
set_option linter.unnecessarySimpa false
/-- The characters from a byte on; none: no right UTF-8. -/
def charsL (s : ByteArray) : Nat → Nat → Option (List Int)
  | 0, _ => some []
  | n + 1, pos => if pos < s.size then (if Utf8.decode s pos = (65533, 1) then none else (charsL s n (pos + (Utf8.decode s pos).2)).map (((Utf8.decode s pos).1 : Int) :: ·)) else some []
theorem charsL_end (s : ByteArray) (n pos : Nat) (h : ¬ pos < s.size) : charsL s n pos = some [] := by
  cases n with
  | zero => rfl
  | succ n => simp [charsL, h]
theorem dw (n b0 b1 b2 b3 : Nat) (h : 0 < n) : (Lib.decodeN n b0 b1 b2 b3).2 ≤ n := by
  unfold Lib.decodeN
  repeat' split
  all_goals (simp; try omega)
theorem width_le (s : ByteArray) (pos : Nat) (h : pos < s.size) : pos + (Utf8.decode s pos).2 ≤ s.size := by
  rw [Lib.decode_N]
  have := dw (s.data.toList.length - pos) (s.data.toList.getD pos 0).toNat (s.data.toList.getD (pos + 1) 0).toNat (s.data.toList.getD (pos + 2) 0).toNat (s.data.toList.getD (pos + 3) 0).toNat (by rw [← Lib.size_eq]; omega)
  rw [← Lib.size_eq] at this ⊢
  omega
theorem valid_chars (s : ByteArray) : ∀ (n pos : Nat), s.size ≤ pos + n → Lib.validD (s.data.toList.drop pos) = (charsL s n pos).isSome := by
  intro n
  induction n with
  | zero =>
    intro pos h
    rw [List.drop_eq_nil_of_le (by rw [← Lib.size_eq]; omega)]
    rfl
  | succ n ih =>
    intro pos h
    by_cases hlt : pos < s.size
    · rw [Lib.validD_step _ (by intro e; have := congrArg List.length e; rw [List.length_drop, ← Lib.size_eq] at this; simp at this; omega), Lib.decodeL_drop]
      simp only [charsL, if_pos hlt]
      have hw := width_pos s pos hlt
      by_cases hd : Utf8.decode s pos = (65533, 1)
      · rw [if_pos hd, if_pos (by rw [hd]; exact ⟨rfl, rfl⟩)]; rfl
      · rw [if_neg hd, if_neg (by intro e; exact hd (Prod.ext e.1 e.2)), List.drop_drop, ih _ (by omega)]
        cases charsL s n (pos + (Utf8.decode s pos).2) <;> rfl
    · rw [charsL_end _ _ _ hlt, List.drop_eq_nil_of_le (by rw [← Lib.size_eq]; omega)]
      rfl
theorem allR_chars (p : Int → Bool) (s : ByteArray) : ∀ (n pos : Nat) (l : List Int), charsL s n pos = some l → allR p s n pos = l.all p := by
  intro n
  induction n with
  | zero => intro pos l h; simp [charsL] at h; subst h; rfl
  | succ n ih =>
    intro pos l h
    simp only [charsL] at h
    simp only [allR]
    split at h
    · rename_i hlt
      rw [if_pos hlt]
      split at h
      · cases h
      · obtain ⟨l', hl', rfl⟩ := Option.map_eq_some_iff.1 h
        rw [ih _ _ hl', List.all_cons]
        cases p ((Utf8.decode s pos).1 : Int) <;> rfl
    · rename_i hlt
      rw [if_neg hlt]
      cases h
      rfl
/-! ### Blank -/
theorem decode_big (s : ByteArray) (pos : Nat) (h : pos < s.size) (ha : 128 ≤ (s[pos]'h).toNat) : spaceB ((Utf8.decode s pos).1 : Int) = false := by
  have := (decode_high s pos h ha).1
  unfold spaceB
  generalize (Utf8.decode s pos).1 = q at *
  simp
  omega
end Go.Proofs.YthilcidoacgdfaaDoor.CharD
