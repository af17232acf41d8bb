/- span.Len, span.chars and its iterator, span.Cut: what they compute, and that they write nothing that was there. -/
import Derived.RangeFuncNested
import Derived.RangeFuncBound
import Derived.RangeFuncCalls
import Derived.RangeFuncLeaves
import Derived.Shelf.Abstract
import Derived.Shelf.RegionOpen
import Derived.WalkKit
import Derived.OwnWalkIn
import Derived.TacticsInMore
import Derived.LoopNIn
import Derived.LoopIn
import Derived.Lib.RuneCountTail
import Derived.Test.YticpobgkbapdmaaDoorKoShelf
import Derived.Test.YticpobgkbapdmaaDoorKoCharE
import Derived.Test.YticpobgkbapdmaaDoorKoSpanA
namespace Go.Proofs.YticpobgkbapdmaaDoor.CharA
end Go.Proofs.YticpobgkbapdmaaDoor.CharA
namespace Go.Proofs.YticpobgkbapdmaaDoor.CharB
end Go.Proofs.YticpobgkbapdmaaDoor.CharB
namespace Go.Proofs.YticpobgkbapdmaaDoor.CharC
end Go.Proofs.YticpobgkbapdmaaDoor.CharC
namespace Go.Proofs.YticpobgkbapdmaaDoor.CharD
end Go.Proofs.YticpobgkbapdmaaDoor.CharD
namespace Go.Proofs.YticpobgkbapdmaaDoor.CharE
end Go.Proofs.YticpobgkbapdmaaDoor.CharE
namespace Go.Proofs.YticpobgkbapdmaaDoor.CharF
end Go.Proofs.YticpobgkbapdmaaDoor.CharF
namespace Go.Proofs.YticpobgkbapdmaaDoor.SpanA
end Go.Proofs.YticpobgkbapdmaaDoor.SpanA
namespace Go.Proofs.YticpobgkbapdmaaDoorW.PrintLast
end Go.Proofs.YticpobgkbapdmaaDoorW.PrintLast
namespace Go.Proofs.YticpobgkbapdmaaDoorW.PrintMore
end Go.Proofs.YticpobgkbapdmaaDoorW.PrintMore
namespace Go.Proofs.YticpobgkbapdmaaDoorW.PrintWords
end Go.Proofs.YticpobgkbapdmaaDoorW.PrintWords
namespace Go.Proofs.YticpobgkbapdmaaDoor.SpanB
open Go.RowKit Go.Shelf Go.Proofs.YticpobgkbapdmaaDoorW.PrintWords Go.Proofs.YticpobgkbapdmaaDoorW.PrintLast Go.Proofs.YticpobgkbapdmaaDoorW.PrintMore Go.Proofs.YticpobgkbapdmaaDoor.CharA Go.Proofs.YticpobgkbapdmaaDoor.CharB Go.Proofs.YticpobgkbapdmaaDoor.CharC Go.Proofs.YticpobgkbapdmaaDoor.CharD Go.Proofs.YticpobgkbapdmaaDoor.CharE Go.Proofs.YticpobgkbapdmaaDoor.CharF Go.Proofs.YticpobgkbapdmaaDoor.SpanA
set_option linter.unusedVariables false
set_option linter.unusedSimpArgs false
/-! ### Len -/
/-! ### the iterator -/
attribute [local go_sem] Oper.semAt_some
/-- The tables and the box of the text lie as they lay. -/
def Lies (Bs : Nat) (W W' : World) : Prop := ∀ k, k < 2 ∨ k = Bs → W'.heap[k]? = W.heap[k]?
theorem Lies.refl (Bs : Nat) (W : World) : Lies Bs W W := fun _ _ => rfl
theorem Lies.trans {Bs : Nat} {A B C : World} (h : Lies Bs A B) (k : Lies Bs B C) : Lies Bs A C := fun i hi => (k i hi).trans (h i hi)
theorem Lies.of_below {Bs B : Nat} {W W' : World} (h : Below B W W') (h1 : Bs < B) (h2 : 2 ≤ B) : Lies Bs W W' := fun k hk => h.block k (by omega)
theorem Lies.cell {Bs : Nat} {W W' : World} (h : Lies Bs W W') {p : Addr} (hp : p.block < 2 ∨ p.block = Bs) : W'.cell? p = W.cell? p := World.cell?_of_block (w := W) (h _ hp)
/-- A string's iterators lie as they lay. -/
structure KeepsIt (W W' : World) : Prop where
  size : W.heap.size ≤ W'.heap.size
  same : ∀ (k : Nat) (s : ByteArray) (pos : Nat), W.heap[k]? = some (Obj.stringIter s pos) → W'.heap[k]? = some (Obj.stringIter s pos)
theorem KeepsIt.refl (W : World) : KeepsIt W W := ⟨Nat.le_refl _, fun _ _ _ h => h⟩
theorem KeepsIt.trans {A B C : World} (h : KeepsIt A B) (k : KeepsIt B C) : KeepsIt A C := ⟨Nat.le_trans h.size k.size, fun i s p hi => k.same i s p (h.same i s p hi)⟩
/-- What a round that goes on keeps. -/
def Kp (Bs : Nat) (W W' : World) : Prop := Lies Bs W W' ∧ KeepsIt W W'
theorem Kp.trans {Bs : Nat} {A B C : World} (h : Kp Bs A B) (k : Kp Bs B C) : Kp Bs A C := ⟨h.1.trans k.1, h.2.trans k.2⟩
/-! ### Cut -/
end Go.Proofs.YticpobgkbapdmaaDoor.SpanB
