/- Plain laws of span: the characters of a text, and a cut. -/
import Derived.Test.YthilcidoacgdfaaDoorLsCharF
namespace Go.Proofs.YthilcidoacgdfaaDoor.CharA
end Go.Proofs.YthilcidoacgdfaaDoor.CharA
namespace Go.Proofs.YthilcidoacgdfaaDoor.CharB
end Go.Proofs.YthilcidoacgdfaaDoor.CharB
namespace Go.Proofs.YthilcidoacgdfaaDoor.CharC
end Go.Proofs.YthilcidoacgdfaaDoor.CharC
namespace Go.Proofs.YthilcidoacgdfaaDoor.CharD
end Go.Proofs.YthilcidoacgdfaaDoor.CharD
namespace Go.Proofs.YthilcidoacgdfaaDoor.CharF
end Go.Proofs.YthilcidoacgdfaaDoor.CharF
namespace Go.Proofs.YthilcidoacgdfaaDoor.PF
end Go.Proofs.YthilcidoacgdfaaDoor.PF
namespace Go.Proofs.YthilcidoacgdfaaDoorW.PrintLast
end Go.Proofs.YthilcidoacgdfaaDoorW.PrintLast
namespace Go.Proofs.YthilcidoacgdfaaDoorW.PrintMore
end Go.Proofs.YthilcidoacgdfaaDoorW.PrintMore
namespace Go.Proofs.YthilcidoacgdfaaDoorW.PrintWords
end Go.Proofs.YthilcidoacgdfaaDoorW.PrintWords
namespace Go.Proofs.YthilcidoacgdfaaDoor.SpanA
open Go.RowKit Go.Proofs.YthilcidoacgdfaaDoorW.PrintWords Go.Proofs.YthilcidoacgdfaaDoorW.PrintLast Go.Proofs.YthilcidoacgdfaaDoorW.PrintMore Go.Proofs.YthilcidoacgdfaaDoor.CharA Go.Proofs.YthilcidoacgdfaaDoor.CharB Go.Proofs.YthilcidoacgdfaaDoor.CharC Go.Proofs.YthilcidoacgdfaaDoor.CharD Go.Proofs.YthilcidoacgdfaaDoor.CharF Go.Proofs.YthilcidoacgdfaaDoor.PF
set_option linter.unusedVariables false
set_option linter.unusedSimpArgs false
set_option linter.unnecessarySimpa false
/-- A string of bytes. -/
def ba (l : List UInt8) : ByteArray := ⟨l.toArray⟩
theorem ba_list (l : List UInt8) : (ba l).data.toList = l := rfl
theorem ba_data (s : ByteArray) : ba s.data.toList = s := rfl
theorem ba_size (l : List UInt8) : (ba l).size = l.length := by show l.toArray.size = _; simp
theorem ext_list {a b : ByteArray} (h : a.data.toList = b.data.toList) : a = b := by rw [← ba_data a, ← ba_data b, h]
theorem ba_app (a b : List UInt8) : ba a ++ ba b = ba (a ++ b) := ext_list (by rw [app_list]; rfl)
theorem extract_list (s : ByteArray) (i j : Nat) : (s.extract i j).data.toList = (s.data.toList.drop i).take (j - i) := by
  rw [ByteArray.data_extract, Array.toList_extract]
/-! ### a cut -/
end Go.Proofs.YthilcidoacgdfaaDoor.SpanA
