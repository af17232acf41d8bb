/- char.Blank, Text, Name: ranges over a string. -/
import Derived.Test.YthilcidoacgdfaaGreatDoorZvMine
import Derived.Deep.QuietTactic
import Derived.Test.YthilcidoacgdfaaGreatDoorProg
import Derived.Below
import Derived.Deep.Draws
import Derived.Deep.AppendLies
import Derived.Maps.AppendAt
import Derived.OwnWalk
import Derived.Laws.BytesArg
import Derived.Laws.MakeOwn
import Derived.Laws.OwnMore
import Derived.Deep.OwnRows
import Derived.Tactics
import Derived.Lib.ConvBytes
import Derived.Laws.Slices
import Derived.WalkKit
import Derived.KernelRfl
import Derived.RowKit3
import Derived.Deep.LoopGhost
import Derived.BigQuiet
import Derived.WideLaws
import Derived.Deep.DeepCutAuto
import Derived.Deep.CutBlock
import Derived.Deep.RegionHeld3
import Derived.Laws.Rows
import Derived.Lib.AppendStr
import Derived.ArgAppend
import Derived.Laws.IdiomCopy
import Derived.OrdersHeld
import Derived.Laws.BitsLemmas
import Derived.RowKit
import Derived.Test.YthilcidoacgdfaaGreatDoorZvShelf
import Derived.RegionTactic
import Derived.ChangeAlike
import Derived.BigRegion
import Derived.Great.BuildSlice
import Derived.Deep.WholeRow
import Derived.Test.YthilcidoacgdfaaGreatDoorZvWWords
import Derived.Test.YthilcidoacgdfaaGreatDoorZvWLast
import Derived.Test.YthilcidoacgdfaaGreatDoorZvWTab
import Derived.Test.YthilcidoacgdfaaGreatDoorZvWApart
import Derived.Test.YthilcidoacgdfaaGreatDoorZvWShare
import Derived.Test.YthilcidoacgdfaaGreatDoorZvWN
import Derived.Laws.StructEq
import Derived.Test.YthilcidoacgdfaaGreatDoorZvWMore
import Derived.Test.YthilcidoacgdfaaGreatDoorZvPFx3
import Derived.Test.YthilcidoacgdfaaGreatDoorZvPFx11
import Derived.Test.YthilcidoacgdfaaGreatDoorZvPFx12
import Derived.Test.YthilcidoacgdfaaGreatDoorZvPFx13
import Derived.Test.YthilcidoacgdfaaGreatDoorZvPFx14
import Derived.Test.YthilcidoacgdfaaGreatDoorZvPFx15
import Derived.Test.YthilcidoacgdfaaGreatDoorZvPFx16
import Derived.Lib.OthersKept
import Derived.Lib.ValidU
import Derived.Test.YthilcidoacgdfaaGreatDoorZvShelfV
namespace Go.Proofs.YthilcidoacgdfaaGreatDoor.CharA
end Go.Proofs.YthilcidoacgdfaaGreatDoor.CharA
namespace Go.Proofs.YthilcidoacgdfaaGreatDoorW.PrintLast
end Go.Proofs.YthilcidoacgdfaaGreatDoorW.PrintLast
namespace Go.Proofs.YthilcidoacgdfaaGreatDoorW.PrintMore
end Go.Proofs.YthilcidoacgdfaaGreatDoorW.PrintMore
namespace Go.Proofs.YthilcidoacgdfaaGreatDoorW.PrintWords
end Go.Proofs.YthilcidoacgdfaaGreatDoorW.PrintWords
namespace Go.Proofs.YthilcidoacgdfaaGreatDoor.CharB
open Go.RowKit Go.Proofs.YthilcidoacgdfaaGreatDoorW.PrintWords Go.Proofs.YthilcidoacgdfaaGreatDoorW.PrintLast Go.Proofs.YthilcidoacgdfaaGreatDoorW.PrintMore Go.Proofs.YthilcidoacgdfaaGreatDoor.CharA
set_option linter.unusedVariables false
set_option linter.unusedSimpArgs false
def spaceB (a : Int) : Bool := a == 32 || a == 9 || a == 10 || a == 13
theorem space_calls (a0 : Int) (w : World) : Calls Tryz.prog 25 #[.int .i32 a0] w fun e w' => e = .returned (.bool (spaceB a0)) ∧ Drawn0 w w' :=
  PF.char_Space.calls a0 _ w (by unfold PF.char_Space.f spaceB; by_cases h1 : a0 = 32 <;> by_cases h2 : a0 = 9 <;> by_cases h3 : a0 = 10 <;> simp [h1, h2, h3])
theorem below_drewN {B : Nat} {w w' : World} (h : Below B w w') (m : Nat) : Below B w (w'.drewN m) := ⟨h.1, h.2, h.3, h.4, h.5⟩
end Go.Proofs.YthilcidoacgdfaaGreatDoor.CharB
