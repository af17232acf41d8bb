/- Plain laws of char: a text behind a text. -/
import Derived.Test.YticpobgkbapdmaaDoorKoCharD
namespace Go.Proofs.YticpobgkbapdmaaDoor.CharA
end Go.Proofs.YticpobgkbapdmaaDoor.CharA
namespace Go.Proofs.YticpobgkbapdmaaDoor.CharB
end Go.Proofs.YticpobgkbapdmaaDoor.CharB
namespace Go.Proofs.YticpobgkbapdmaaDoor.CharC
end Go.Proofs.YticpobgkbapdmaaDoor.CharC
namespace Go.Proofs.YticpobgkbapdmaaDoor.CharD
end Go.Proofs.YticpobgkbapdmaaDoor.CharD
namespace Go.Proofs.YticpobgkbapdmaaDoorW.PrintLast
end Go.Proofs.YticpobgkbapdmaaDoorW.PrintLast
namespace Go.Proofs.YticpobgkbapdmaaDoorW.PrintMore
end Go.Proofs.YticpobgkbapdmaaDoorW.PrintMore
namespace Go.Proofs.YticpobgkbapdmaaDoorW.PrintWords
end Go.Proofs.YticpobgkbapdmaaDoorW.PrintWords
namespace Go.Proofs.YticpobgkbapdmaaDoor.CharF
open Go.RowKit Go.Proofs.YticpobgkbapdmaaDoorW.PrintWords Go.Proofs.YticpobgkbapdmaaDoorW.PrintLast Go.Proofs.YticpobgkbapdmaaDoorW.PrintMore Go.Proofs.YticpobgkbapdmaaDoor.CharA Go.Proofs.YticpobgkbapdmaaDoor.CharB Go.Proofs.YticpobgkbapdmaaDoor.CharC Go.Proofs.YticpobgkbapdmaaDoor.CharD
set_option linter.unusedVariables false
set_option linter.unusedSimpArgs false
set_option linter.unnecessarySimpa false
theorem app_list (a b : ByteArray) : (a ++ b).data.toList = a.data.toList ++ b.data.toList := by simp
theorem app_size (a b : ByteArray) : (a ++ b).size = a.size + b.size := by simp
theorem decode_shift (a b : ByteArray) (p : Nat) : Utf8.decode (a ++ b) (a.size + p) = Utf8.decode b p := by
  rw [← Lib.decodeL_drop, ← Lib.decodeL_drop, app_list]
  congr 1
  rw [Lib.size_eq, List.drop_append]
  simp
theorem chars_shift (a b : ByteArray) : ∀ n p, charsL (a ++ b) n (a.size + p) = charsL b n p := by
  intro n
  induction n with
  | zero => intro p; rfl
  | succ n ih =>
    intro p
    simp only [charsL]
    rw [decode_shift, app_size, Nat.add_assoc, ih]
    by_cases h : p < b.size
    · rw [if_pos h, if_pos (by omega)]
    · rw [if_neg h, if_neg (by omega)]
theorem chars_fuel (s : ByteArray) : ∀ n m p, s.size ≤ p + n → charsL s (n + m) p = charsL s n p := by
  intro n
  induction n with
  | zero =>
    intro m p h
    rw [charsL_end _ _ _ (by omega), charsL_end _ _ _ (by omega)]
  | succ n ih =>
    intro m p h
    rw [show n + 1 + m = (n + m) + 1 by omega]
    simp only [charsL]
    by_cases hp : p < s.size
    · have := width_pos s p hp
      rw [ih m _ (by omega)]
    · rw [if_neg hp, if_neg hp]
theorem textB_chars (s : ByteArray) : textB s = (match charsL s s.size 0 with | none => false | some l => l.all isB) := by
  unfold textB
  have hv := valid_chars s s.size 0 (by omega)
  rw [List.drop_zero] at hv
  rw [hv]
  cases hc : charsL s s.size 0 with
  | none => rfl
  | some l => rw [allR_chars isB s _ _ _ hc]; simp
end Go.Proofs.YticpobgkbapdmaaDoor.CharF
