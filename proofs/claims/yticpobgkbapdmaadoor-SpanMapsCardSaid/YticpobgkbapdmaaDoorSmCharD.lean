/- Plain laws of char, the second half: Chars, Text, Name, Blank. -/
import Derived.Test.YticpobgkbapdmaaDoorSmCharC
namespace Go.Proofs.YticpobgkbapdmaaDoor.CharA
end Go.Proofs.YticpobgkbapdmaaDoor.CharA
namespace Go.Proofs.YticpobgkbapdmaaDoor.CharB
end Go.Proofs.YticpobgkbapdmaaDoor.CharB
namespace Go.Proofs.YticpobgkbapdmaaDoor.CharC
end Go.Proofs.YticpobgkbapdmaaDoor.CharC
namespace Go.Proofs.YticpobgkbapdmaaDoor.PR1
end Go.Proofs.YticpobgkbapdmaaDoor.PR1
namespace Go.Proofs.YticpobgkbapdmaaDoorW.PrintLast
end Go.Proofs.YticpobgkbapdmaaDoorW.PrintLast
namespace Go.Proofs.YticpobgkbapdmaaDoorW.PrintMore
end Go.Proofs.YticpobgkbapdmaaDoorW.PrintMore
namespace Go.Proofs.YticpobgkbapdmaaDoorW.PrintWords
end Go.Proofs.YticpobgkbapdmaaDoorW.PrintWords
namespace Go.Proofs.YticpobgkbapdmaaDoor.CharD
open Go.RowKit Go.Proofs.YticpobgkbapdmaaDoorW.PrintWords Go.Proofs.YticpobgkbapdmaaDoorW.PrintLast Go.Proofs.YticpobgkbapdmaaDoorW.PrintMore Go.Proofs.YticpobgkbapdmaaDoor.CharA Go.Proofs.YticpobgkbapdmaaDoor.CharB Go.Proofs.YticpobgkbapdmaaDoor.CharC Go.Proofs.YticpobgkbapdmaaDoor.PR1
set_option linter.unusedVariables false
set_option linter.unusedSimpArgs false
set_option linter.unnecessarySimpa false
theorem list_extract (s : ByteArray) (pos : Nat) : (s.extract pos s.size).data.toList = s.data.toList.drop pos := by
  rw [ByteArray.data_extract, Array.toList_extract]
  simp only [List.extract]
  rw [List.take_of_length_le]
  rw [List.length_drop, ← Lib.size_eq]
  omega
theorem dw (n b0 b1 b2 b3 : Nat) (h : 0 < n) : (Lib.decodeN n b0 b1 b2 b3).2 ≤ n := by
  unfold Lib.decodeN
  repeat' split
  all_goals (simp; try omega)
theorem width_le (s : ByteArray) (pos : Nat) (h : pos < s.size) : pos + (Utf8.decode s pos).2 ≤ s.size := by
  rw [Lib.decode_N]
  have := dw (s.data.toList.length - pos) (s.data.toList.getD pos 0).toNat (s.data.toList.getD (pos + 1) 0).toNat (s.data.toList.getD (pos + 2) 0).toNat (s.data.toList.getD (pos + 3) 0).toNat (by rw [← Lib.size_eq]; omega)
  rw [← Lib.size_eq] at this ⊢
  omega
theorem one_at (k : Nat) (hk : 40 < k) (s : ByteArray) (pos : Nat) (hp : pos < s.size) (hs : s.size < 9223372036854775807) :
    breviaryref01_One.f k (s.extract pos s.size) = some (if Utf8.decode s pos = (65533, 1) then (0, 0) else (((Utf8.decode s pos).1 : Int), ((Utf8.decode s pos).2 : Int))) := by
  have hl := list_extract s pos
  have hsz : (s.extract pos s.size).size = s.size - pos := by
    have := congrArg List.length hl
    simpa using this
  have hb : ∀ i : Nat, bt (s.extract pos s.size) (i : Int) = ((s.data.toList.getD (pos + i) 0).toNat : Int) := by
    intro i
    rw [bt_n, hl, Lib.getD_dropU]
  have lt : ∀ x : UInt8, x.toNat ≤ 255 := fun x => by have := x.toNat_lt; omega
  have h0 := hb 0
  have := one_f k hk (s.extract pos s.size) (s.size - pos) _ _ _ _ hsz (by omega) (by omega) h0 (hb 1) (hb 2) (hb 3) (lt _) (lt _) (lt _) (lt _)
  rw [this]
  have hd := Lib.decode_N s pos
  rw [Lib.size_eq] at *
  unfold oneN
  rw [Nat.add_zero, ← hd]
  split <;> rfl
/-! ### Blank -/
theorem decode_big (s : ByteArray) (pos : Nat) (h : pos < s.size) (ha : 128 ≤ (s[pos]'h).toNat) : spaceB ((Utf8.decode s pos).1 : Int) = false := by
  have := (decode_high s pos h ha).1
  unfold spaceB
  generalize (Utf8.decode s pos).1 = q at *
  simp
  omega
theorem bt_get (s : ByteArray) (pos : Nat) (h : pos < s.size) : bt s (pos : Int) = ((s[pos]'h).toNat : Int) := by
  unfold bt
  rw [dif_pos (by simpa using h)]
  simp
end Go.Proofs.YticpobgkbapdmaaDoor.CharD
