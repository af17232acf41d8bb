/- Plain laws of span: the characters of a text, and a cut. -/
import Derived.Test.YticpobgkbapdmaaDoorZjCharF
namespace Go.Proofs.YticpobgkbapdmaaDoor.CharA
end Go.Proofs.YticpobgkbapdmaaDoor.CharA
namespace Go.Proofs.YticpobgkbapdmaaDoor.CharB
end Go.Proofs.YticpobgkbapdmaaDoor.CharB
namespace Go.Proofs.YticpobgkbapdmaaDoor.CharC
end Go.Proofs.YticpobgkbapdmaaDoor.CharC
namespace Go.Proofs.YticpobgkbapdmaaDoor.CharD
end Go.Proofs.YticpobgkbapdmaaDoor.CharD
namespace Go.Proofs.YticpobgkbapdmaaDoor.CharF
end Go.Proofs.YticpobgkbapdmaaDoor.CharF
namespace Go.Proofs.YticpobgkbapdmaaDoor.PR1
end Go.Proofs.YticpobgkbapdmaaDoor.PR1
namespace Go.Proofs.YticpobgkbapdmaaDoorW.PrintLast
end Go.Proofs.YticpobgkbapdmaaDoorW.PrintLast
namespace Go.Proofs.YticpobgkbapdmaaDoorW.PrintMore
end Go.Proofs.YticpobgkbapdmaaDoorW.PrintMore
namespace Go.Proofs.YticpobgkbapdmaaDoorW.PrintWords
end Go.Proofs.YticpobgkbapdmaaDoorW.PrintWords
namespace Go.Proofs.YticpobgkbapdmaaDoor.SpanA
open Go.RowKit Go.Proofs.YticpobgkbapdmaaDoorW.PrintWords Go.Proofs.YticpobgkbapdmaaDoorW.PrintLast Go.Proofs.YticpobgkbapdmaaDoorW.PrintMore Go.Proofs.YticpobgkbapdmaaDoor.CharA Go.Proofs.YticpobgkbapdmaaDoor.CharB Go.Proofs.YticpobgkbapdmaaDoor.CharC Go.Proofs.YticpobgkbapdmaaDoor.CharD Go.Proofs.YticpobgkbapdmaaDoor.CharF Go.Proofs.YticpobgkbapdmaaDoor.PR1
set_option linter.unusedVariables false
set_option linter.unusedSimpArgs false
set_option linter.unnecessarySimpa false
/-- A string of bytes. -/
def ba (l : List UInt8) : ByteArray := ⟨l.toArray⟩
theorem ba_list (l : List UInt8) : (ba l).data.toList = l := rfl
theorem ba_data (s : ByteArray) : ba s.data.toList = s := rfl
theorem ext_list {a b : ByteArray} (h : a.data.toList = b.data.toList) : a = b := by rw [← ba_data a, ← ba_data b, h]
theorem extract_list (s : ByteArray) (i j : Nat) : (s.extract i j).data.toList = (s.data.toList.drop i).take (j - i) := by
  rw [ByteArray.data_extract, Array.toList_extract]
theorem extract_size (s : ByteArray) (i j : Nat) (h : j ≤ s.size) : (s.extract i j).size = j - i := by
  rw [Lib.size_eq, extract_list, List.length_take, List.length_drop, ← Lib.size_eq]
  omega
/-- The characters of a string, from a byte on. -/
def pcs (s : ByteArray) : Nat → Nat → List ByteArray
  | 0, _ => []
  | n + 1, pos => if pos < s.size then s.extract pos (pos + (Utf8.decode s pos).2) :: pcs s n (pos + (Utf8.decode s pos).2) else []
def pieces (s : ByteArray) : List ByteArray := pcs s s.size 0
theorem pcs_end (s : ByteArray) (n pos : Nat) (h : ¬ pos < s.size) : pcs s n pos = [] := by
  cases n with
  | zero => rfl
  | succ n => simp [pcs, h]
theorem pcs_length (s : ByteArray) : ∀ n pos, (pcs s n pos).length ≤ s.size - pos := by
  intro n
  induction n with
  | zero => intro pos; simp [pcs]
  | succ n ih =>
    intro pos
    by_cases h : pos < s.size
    · have := ih (pos + (Utf8.decode s pos).2)
      have hw := width_pos s pos h
      simp only [pcs, if_pos h, List.length_cons]
      omega
    · rw [pcs_end _ _ _ h]; simp
theorem pcs_fuel (s : ByteArray) : ∀ n m pos, s.size ≤ pos + n → pcs s (n + m) pos = pcs s n pos := by
  intro n
  induction n with
  | zero => intro m pos h; rw [pcs_end _ _ _ (by omega), pcs_end _ _ _ (by omega)]
  | succ n ih =>
    intro m pos h
    by_cases hp : pos < s.size
    · rw [show n + 1 + m = (n + m) + 1 by omega]
      have hw := width_pos s pos hp
      simp only [pcs, if_pos hp]
      rw [ih m _ (by omega)]
    · rw [pcs_end _ _ _ hp, pcs_end _ _ _ hp]
def flatB (l : List ByteArray) : List UInt8 := l.flatMap (·.data.toList)
theorem pcs_flat (s : ByteArray) : ∀ n pos, s.size ≤ pos + n → flatB (pcs s n pos) = s.data.toList.drop pos := by
  intro n
  induction n with
  | zero =>
    intro pos h
    rw [List.drop_eq_nil_of_le (by rw [← Lib.size_eq]; omega)]
    rfl
  | succ n ih =>
    intro pos h
    by_cases hp : pos < s.size
    · have hw := width_pos s pos hp
      simp only [pcs, if_pos hp]
      unfold flatB at ih ⊢
      rw [List.flatMap_cons, ih _ (by omega), extract_list]
      rw [show pos + (Utf8.decode s pos).2 - pos = (Utf8.decode s pos).2 by omega, ← List.drop_drop, List.take_append_drop]
    · rw [pcs_end _ _ _ hp, List.drop_eq_nil_of_le (by rw [← Lib.size_eq]; omega)]
      rfl
theorem pieces_flat (s : ByteArray) : flatB (pieces s) = s.data.toList := pcs_flat s s.size 0 (by omega)
/-! ### a cut -/
def keepB (k : Nat) (a m : Int) : Bool := decide (a ≤ (k : Int)) && (decide (a < 0) && decide ((k : Int) < m + a) || decide (0 ≤ a) && decide ((k : Int) - a < m))
def cutL (a m : Int) : List ByteArray → Nat → List UInt8
  | [], _ => []
  | p :: ps, k => (if keepB k a m then p.data.toList else []) ++ cutL a m ps (k + 1)
def cutB (s : ByteArray) (a m : Int) : List UInt8 := if m < 1 then [] else cutL a m (pieces s) 0
end Go.Proofs.YticpobgkbapdmaaDoor.SpanA
