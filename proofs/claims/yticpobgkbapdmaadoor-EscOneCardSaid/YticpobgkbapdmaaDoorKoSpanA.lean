/- Plain laws of span: the characters of a text, and a cut. -/
import Derived.Test.YticpobgkbapdmaaDoorKoCharF
namespace Go.Proofs.YticpobgkbapdmaaDoor.CharA
end Go.Proofs.YticpobgkbapdmaaDoor.CharA
namespace Go.Proofs.YticpobgkbapdmaaDoor.CharB
end Go.Proofs.YticpobgkbapdmaaDoor.CharB
namespace Go.Proofs.YticpobgkbapdmaaDoor.CharC
end Go.Proofs.YticpobgkbapdmaaDoor.CharC
namespace Go.Proofs.YticpobgkbapdmaaDoor.CharD
end Go.Proofs.YticpobgkbapdmaaDoor.CharD
namespace Go.Proofs.YticpobgkbapdmaaDoor.CharF
end Go.Proofs.YticpobgkbapdmaaDoor.CharF
namespace Go.Proofs.YticpobgkbapdmaaDoor.PR1
end Go.Proofs.YticpobgkbapdmaaDoor.PR1
namespace Go.Proofs.YticpobgkbapdmaaDoorW.PrintLast
end Go.Proofs.YticpobgkbapdmaaDoorW.PrintLast
namespace Go.Proofs.YticpobgkbapdmaaDoorW.PrintMore
end Go.Proofs.YticpobgkbapdmaaDoorW.PrintMore
namespace Go.Proofs.YticpobgkbapdmaaDoorW.PrintWords
end Go.Proofs.YticpobgkbapdmaaDoorW.PrintWords
namespace Go.Proofs.YticpobgkbapdmaaDoor.SpanA
open Go.RowKit Go.Proofs.YticpobgkbapdmaaDoorW.PrintWords Go.Proofs.YticpobgkbapdmaaDoorW.PrintLast Go.Proofs.YticpobgkbapdmaaDoorW.PrintMore Go.Proofs.YticpobgkbapdmaaDoor.CharA Go.Proofs.YticpobgkbapdmaaDoor.CharB Go.Proofs.YticpobgkbapdmaaDoor.CharC Go.Proofs.YticpobgkbapdmaaDoor.CharD Go.Proofs.YticpobgkbapdmaaDoor.CharF Go.Proofs.YticpobgkbapdmaaDoor.PR1
set_option linter.unusedVariables false
set_option linter.unusedSimpArgs false
set_option linter.unnecessarySimpa false
/-- A string of bytes. -/
def ba (l : List UInt8) : ByteArray := ⟨l.toArray⟩
theorem ba_list (l : List UInt8) : (ba l).data.toList = l := rfl
theorem ba_data (s : ByteArray) : ba s.data.toList = s := rfl
theorem ba_size (l : List UInt8) : (ba l).size = l.length := by show l.toArray.size = _; simp
theorem ext_list {a b : ByteArray} (h : a.data.toList = b.data.toList) : a = b := by rw [← ba_data a, ← ba_data b, h]
theorem ba_app (a b : List UInt8) : ba a ++ ba b = ba (a ++ b) := ext_list (by rw [app_list]; rfl)
theorem extract_list (s : ByteArray) (i j : Nat) : (s.extract i j).data.toList = (s.data.toList.drop i).take (j - i) := by
  rw [ByteArray.data_extract, Array.toList_extract]
theorem extract_size (s : ByteArray) (i j : Nat) (h : j ≤ s.size) : (s.extract i j).size = j - i := by
  rw [Lib.size_eq, extract_list, List.length_take, List.length_drop, ← Lib.size_eq]
  omega
/-! ### a cut -/
end Go.Proofs.YticpobgkbapdmaaDoor.SpanA
