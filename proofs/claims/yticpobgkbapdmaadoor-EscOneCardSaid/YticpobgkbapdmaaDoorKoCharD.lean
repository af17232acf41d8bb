/- Plain laws of char, the second half: Chars, Text, Name, Blank. -/
import Derived.Test.YticpobgkbapdmaaDoorKoCharC
namespace Go.Proofs.YticpobgkbapdmaaDoor.CharA
end Go.Proofs.YticpobgkbapdmaaDoor.CharA
namespace Go.Proofs.YticpobgkbapdmaaDoor.CharB
end Go.Proofs.YticpobgkbapdmaaDoor.CharB
namespace Go.Proofs.YticpobgkbapdmaaDoor.CharC
end Go.Proofs.YticpobgkbapdmaaDoor.CharC
namespace Go.Proofs.YticpobgkbapdmaaDoor.PR1
end Go.Proofs.YticpobgkbapdmaaDoor.PR1
namespace Go.Proofs.YticpobgkbapdmaaDoorW.PrintLast
end Go.Proofs.YticpobgkbapdmaaDoorW.PrintLast
namespace Go.Proofs.YticpobgkbapdmaaDoorW.PrintMore
end Go.Proofs.YticpobgkbapdmaaDoorW.PrintMore
namespace Go.Proofs.YticpobgkbapdmaaDoorW.PrintWords
end Go.Proofs.YticpobgkbapdmaaDoorW.PrintWords
namespace Go.Proofs.YticpobgkbapdmaaDoor.CharD
open Go.RowKit Go.Proofs.YticpobgkbapdmaaDoorW.PrintWords Go.Proofs.YticpobgkbapdmaaDoorW.PrintLast Go.Proofs.YticpobgkbapdmaaDoorW.PrintMore Go.Proofs.YticpobgkbapdmaaDoor.CharA Go.Proofs.YticpobgkbapdmaaDoor.CharB Go.Proofs.YticpobgkbapdmaaDoor.CharC Go.Proofs.YticpobgkbapdmaaDoor.PR1
set_option linter.unusedVariables false
set_option linter.unusedSimpArgs false
set_option linter.unnecessarySimpa false
/-- The characters from a byte on; none: no right UTF-8. -/
def charsL (s : ByteArray) : Nat → Nat → Option (List Int)
  | 0, _ => some []
  | n + 1, pos => if pos < s.size then (if Utf8.decode s pos = (65533, 1) then none else (charsL s n (pos + (Utf8.decode s pos).2)).map (((Utf8.decode s pos).1 : Int) :: ·)) else some []
theorem charsL_end (s : ByteArray) (n pos : Nat) (h : ¬ pos < s.size) : charsL s n pos = some [] := by
  cases n with
  | zero => rfl
  | succ n => simp [charsL, h]
theorem dw (n b0 b1 b2 b3 : Nat) (h : 0 < n) : (Lib.decodeN n b0 b1 b2 b3).2 ≤ n := by
  unfold Lib.decodeN
  repeat' split
  all_goals (simp; try omega)
theorem width_le (s : ByteArray) (pos : Nat) (h : pos < s.size) : pos + (Utf8.decode s pos).2 ≤ s.size := by
  rw [Lib.decode_N]
  have := dw (s.data.toList.length - pos) (s.data.toList.getD pos 0).toNat (s.data.toList.getD (pos + 1) 0).toNat (s.data.toList.getD (pos + 2) 0).toNat (s.data.toList.getD (pos + 3) 0).toNat (by rw [← Lib.size_eq]; omega)
  rw [← Lib.size_eq] at this ⊢
  omega
theorem valid_chars (s : ByteArray) : ∀ (n pos : Nat), s.size ≤ pos + n → Lib.validD (s.data.toList.drop pos) = (charsL s n pos).isSome := by
  intro n
  induction n with
  | zero =>
    intro pos h
    rw [List.drop_eq_nil_of_le (by rw [← Lib.size_eq]; omega)]
    rfl
  | succ n ih =>
    intro pos h
    by_cases hlt : pos < s.size
    · rw [Lib.validD_step _ (by intro e; have := congrArg List.length e; rw [List.length_drop, ← Lib.size_eq] at this; simp at this; omega), Lib.decodeL_drop]
      simp only [charsL, if_pos hlt]
      have hw := width_pos s pos hlt
      by_cases hd : Utf8.decode s pos = (65533, 1)
      · rw [if_pos hd, if_pos (by rw [hd]; exact ⟨rfl, rfl⟩)]; rfl
      · rw [if_neg hd, if_neg (by intro e; exact hd (Prod.ext e.1 e.2)), List.drop_drop, ih _ (by omega)]
        cases charsL s n (pos + (Utf8.decode s pos).2) <;> rfl
    · rw [charsL_end _ _ _ hlt, List.drop_eq_nil_of_le (by rw [← Lib.size_eq]; omega)]
      rfl
theorem allR_chars (p : Int → Bool) (s : ByteArray) : ∀ (n pos : Nat) (l : List Int), charsL s n pos = some l → allR p s n pos = l.all p := by
  intro n
  induction n with
  | zero => intro pos l h; simp [charsL] at h; subst h; rfl
  | succ n ih =>
    intro pos l h
    simp only [charsL] at h
    simp only [allR]
    split at h
    · rename_i hlt
      rw [if_pos hlt]
      split at h
      · cases h
      · obtain ⟨l', hl', rfl⟩ := Option.map_eq_some_iff.1 h
        rw [ih _ _ hl', List.all_cons]
        cases p ((Utf8.decode s pos).1 : Int) <;> rfl
    · rename_i hlt
      rw [if_neg hlt]
      cases h
      rfl
/-! ### Blank -/
theorem bt_get (s : ByteArray) (pos : Nat) (h : pos < s.size) : bt s (pos : Int) = ((s[pos]'h).toNat : Int) := by
  unfold bt
  rw [dif_pos (by simpa using h)]
  simp
end Go.Proofs.YticpobgkbapdmaaDoor.CharD
