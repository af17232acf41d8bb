/- The reference's lists of decimal digits, as plain Lean: each of its functions (trim, least, plus, minus, product, quotient, Digits, Made) comes to what it says of the numbers. No program in sight but the printed functions. -/
import Derived.Test.YticpobgkbapdmaaProg
import Derived.Below
import Derived.Deep.Draws
import Derived.Deep.AppendLies
import Derived.Maps.AppendAt
import Derived.OwnWalk
import Derived.Laws.BytesArg
import Derived.Laws.MakeOwn
import Derived.Laws.OwnMore
import Derived.Deep.OwnRows
import Derived.Tactics
import Derived.Lib.ConvBytes
import Derived.Laws.Slices
import Derived.WalkKit
import Derived.KernelRfl
import Derived.RowKit3
import Derived.Deep.LoopGhost
import Derived.Deep.QuietTactic
import Derived.BigQuiet
import Derived.WideLaws
import Derived.Deep.DeepCutAuto
import Derived.Deep.CutBlock
import Derived.Deep.RegionHeld3
import Derived.Laws.Rows
import Derived.Lib.AppendStr
import Derived.ArgAppend
import Derived.Laws.IdiomCopy
import Derived.OrdersHeld
import Derived.Laws.BitsLemmas
import Derived.RowKit
import Derived.Test.YticpobgkbapdmaaCrMine
import Derived.Test.YticpobgkbapdmaaCrShelf
import Derived.RegionTactic
import Derived.ChangeAlike
import Derived.BigRegion
import Derived.Great.BuildSlice
import Derived.Deep.WholeRow
import Derived.Test.YticpobgkbapdmaaCrWWords
import Derived.Test.YticpobgkbapdmaaCrWLast
import Derived.Test.YticpobgkbapdmaaCrWTab
import Derived.Test.YticpobgkbapdmaaCrWEqStruct
import Derived.Test.YticpobgkbapdmaaCrWMore
import Derived.Test.YticpobgkbapdmaaCrPDx1
import Derived.Test.YticpobgkbapdmaaCrPDx2
import Derived.Test.YticpobgkbapdmaaCrPDx3
import Derived.Test.YticpobgkbapdmaaCrPDx4
import Derived.Test.YticpobgkbapdmaaCrPDx8
import Derived.Test.YticpobgkbapdmaaCrPDx11
import Derived.Test.YticpobgkbapdmaaCrPDx15
import Derived.Test.YticpobgkbapdmaaCrPDx17
import Derived.Test.YticpobgkbapdmaaCrPDx20
import Derived.Test.YticpobgkbapdmaaCrPDx21
namespace Go.Proofs.Yticpobgkbapdmaa.PD
end Go.Proofs.Yticpobgkbapdmaa.PD
namespace Go.Proofs.YticpobgkbapdmaaW.PrintLast
end Go.Proofs.YticpobgkbapdmaaW.PrintLast
namespace Go.Proofs.YticpobgkbapdmaaW.PrintMore
end Go.Proofs.YticpobgkbapdmaaW.PrintMore
namespace Go.Proofs.YticpobgkbapdmaaW.PrintWords
end Go.Proofs.YticpobgkbapdmaaW.PrintWords
namespace Go.Proofs.Yticpobgkbapdmaa.DecA
open Go.RowKit Go.Proofs.Yticpobgkbapdmaa.PD Go.Proofs.YticpobgkbapdmaaW.PrintWords Go.Proofs.YticpobgkbapdmaaW.PrintLast Go.Proofs.YticpobgkbapdmaaW.PrintMore

/-! ### lists of digits, the last one first -/
/-! ### a whole number in its bounds -/
theorem w64 {x : Int} (h : -9223372036854775808 ≤ x) (h' : x ≤ 9223372036854775807) : wrap64 x = x := by unfold wrap64; omega
theorem u64 {x : Int} (h : 0 ≤ x) (h' : x ≤ 18446744073709551615) : IntKind.u64.wrap x = x := by
  simp [IntKind.wrap, IntKind.signed, IntKind.bits] <;> omega
end Go.Proofs.Yticpobgkbapdmaa.DecA
