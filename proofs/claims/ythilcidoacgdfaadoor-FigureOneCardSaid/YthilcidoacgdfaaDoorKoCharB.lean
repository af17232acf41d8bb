/- char.Blank, Text, Name: ranges over a string. -/
import Derived.Test.YthilcidoacgdfaaDoorKoMine
import Derived.Deep.QuietTactic
import Derived.Test.YthilcidoacgdfaaDoorProg
import Derived.Below
import Derived.Deep.Draws
import Derived.Deep.AppendLies
import Derived.Maps.AppendAt
import Derived.OwnWalk
import Derived.Laws.BytesArg
import Derived.Laws.MakeOwn
import Derived.Laws.OwnMore
import Derived.Deep.OwnRows
import Derived.Tactics
import Derived.Lib.ConvBytes
import Derived.Laws.Slices
import Derived.WalkKit
import Derived.KernelRfl
import Derived.RowKit3
import Derived.Deep.LoopGhost
import Derived.BigQuiet
import Derived.WideLaws
import Derived.Deep.DeepCutAuto
import Derived.Deep.CutBlock
import Derived.Deep.RegionHeld3
import Derived.Laws.Rows
import Derived.Lib.AppendStr
import Derived.ArgAppend
import Derived.Laws.IdiomCopy
import Derived.OrdersHeld
import Derived.Laws.BitsLemmas
import Derived.RowKit
import Derived.Test.YthilcidoacgdfaaDoorKoShelf
import Derived.RegionTactic
import Derived.ChangeAlike
import Derived.BigRegion
import Derived.Great.BuildSlice
import Derived.Deep.WholeRow
import Derived.Test.YthilcidoacgdfaaDoorKoWWords
import Derived.Test.YthilcidoacgdfaaDoorKoWLast
import Derived.Test.YthilcidoacgdfaaDoorKoWTab
import Derived.Laws.StructEq
import Derived.Test.YthilcidoacgdfaaDoorKoWMore
import Derived.Test.YthilcidoacgdfaaDoorKoPFx2
import Derived.Test.YthilcidoacgdfaaDoorKoPFx3
import Derived.Test.YthilcidoacgdfaaDoorKoPFx4
import Derived.Test.YthilcidoacgdfaaDoorKoPFx5
import Derived.Test.YthilcidoacgdfaaDoorKoPFx6
import Derived.Test.YthilcidoacgdfaaDoorKoPFx7
import Derived.Test.YthilcidoacgdfaaDoorKoPFx8
import Derived.Lib.OthersKept
import Derived.Lib.ValidU
import Derived.Test.YthilcidoacgdfaaDoorKoShelfV
namespace Go.Proofs.YthilcidoacgdfaaDoor.CharA
end Go.Proofs.YthilcidoacgdfaaDoor.CharA
namespace Go.Proofs.YthilcidoacgdfaaDoorW.PrintLast
end Go.Proofs.YthilcidoacgdfaaDoorW.PrintLast
namespace Go.Proofs.YthilcidoacgdfaaDoorW.PrintMore
end Go.Proofs.YthilcidoacgdfaaDoorW.PrintMore
namespace Go.Proofs.YthilcidoacgdfaaDoorW.PrintWords
end Go.Proofs.YthilcidoacgdfaaDoorW.PrintWords
namespace Go.Proofs.YthilcidoacgdfaaDoor.CharB
open Go.RowKit Go.Proofs.YthilcidoacgdfaaDoorW.PrintWords Go.Proofs.YthilcidoacgdfaaDoorW.PrintLast Go.Proofs.YthilcidoacgdfaaDoorW.PrintMore Go.Proofs.YthilcidoacgdfaaDoor.CharA
set_option linter.unusedVariables false
set_option linter.unusedSimpArgs false
def spaceB (a : Int) : Bool := a == 32 || a == 9 || a == 10 || a == 13
theorem space_calls (a0 : Int) (w : World) : Calls Tryd.prog 36 #[.int .i32 a0] w fun e w' => e = .returned (.bool (spaceB a0)) ∧ Drawn0 w w' :=
  PF.char_Space.calls a0 _ w (by unfold PF.char_Space.f spaceB; by_cases h1 : a0 = 32 <;> by_cases h2 : a0 = 9 <;> by_cases h3 : a0 = 10 <;> simp [h1, h2, h3])
theorem below_drewN {B : Nat} {w w' : World} (h : Below B w w') (m : Nat) : Below B w (w'.drewN m) := ⟨h.1, h.2, h.3, h.4, h.5⟩
end Go.Proofs.YthilcidoacgdfaaDoor.CharB
