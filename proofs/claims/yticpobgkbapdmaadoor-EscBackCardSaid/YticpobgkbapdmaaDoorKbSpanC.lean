/- span.Map: what it computes, and that it writes nothing that was there. -/
import Derived.Maps.OwnIn
import Derived.Maps.AppendAt
import Derived.Maps.Views
import Derived.Maps.StringElems
import Derived.RangeFuncNested
import Derived.RangeFuncBound
import Derived.RangeFuncCalls
import Derived.RangeFuncLeaves
import Derived.Shelf.Abstract
import Derived.Shelf.RegionOpen
import Derived.WalkKit
import Derived.OwnWalkIn
import Derived.TacticsInMore
import Derived.LoopNIn
import Derived.LoopIn
import Derived.Lib.RuneCountTail
import Derived.Test.YticpobgkbapdmaaDoorKbShelf
import Derived.Test.YticpobgkbapdmaaDoorKbCharE
import Derived.Test.YticpobgkbapdmaaDoorKbSpanA
namespace Go.Proofs.YticpobgkbapdmaaDoor.CharA
end Go.Proofs.YticpobgkbapdmaaDoor.CharA
namespace Go.Proofs.YticpobgkbapdmaaDoor.CharB
end Go.Proofs.YticpobgkbapdmaaDoor.CharB
namespace Go.Proofs.YticpobgkbapdmaaDoor.CharC
end Go.Proofs.YticpobgkbapdmaaDoor.CharC
namespace Go.Proofs.YticpobgkbapdmaaDoor.CharD
end Go.Proofs.YticpobgkbapdmaaDoor.CharD
namespace Go.Proofs.YticpobgkbapdmaaDoor.CharE
end Go.Proofs.YticpobgkbapdmaaDoor.CharE
namespace Go.Proofs.YticpobgkbapdmaaDoor.CharF
end Go.Proofs.YticpobgkbapdmaaDoor.CharF
namespace Go.Proofs.YticpobgkbapdmaaDoor.SpanA
end Go.Proofs.YticpobgkbapdmaaDoor.SpanA
namespace Go.Proofs.YticpobgkbapdmaaDoor.SpanB
end Go.Proofs.YticpobgkbapdmaaDoor.SpanB
namespace Go.Proofs.YticpobgkbapdmaaDoorW.PrintLast
end Go.Proofs.YticpobgkbapdmaaDoorW.PrintLast
namespace Go.Proofs.YticpobgkbapdmaaDoorW.PrintMore
end Go.Proofs.YticpobgkbapdmaaDoorW.PrintMore
namespace Go.Proofs.YticpobgkbapdmaaDoorW.PrintWords
end Go.Proofs.YticpobgkbapdmaaDoorW.PrintWords
namespace Go.Proofs.YticpobgkbapdmaaDoor.SpanC
open Go.RowKit Go.Shelf Go.Proofs.YticpobgkbapdmaaDoorW.PrintWords Go.Proofs.YticpobgkbapdmaaDoorW.PrintLast Go.Proofs.YticpobgkbapdmaaDoorW.PrintMore Go.Proofs.YticpobgkbapdmaaDoor.CharA Go.Proofs.YticpobgkbapdmaaDoor.CharB Go.Proofs.YticpobgkbapdmaaDoor.CharC Go.Proofs.YticpobgkbapdmaaDoor.CharD Go.Proofs.YticpobgkbapdmaaDoor.CharE Go.Proofs.YticpobgkbapdmaaDoor.CharF Go.Proofs.YticpobgkbapdmaaDoor.SpanA Go.Proofs.YticpobgkbapdmaaDoor.SpanB
set_option linter.unusedVariables false
set_option linter.unusedSimpArgs false
attribute [local go_sem] Oper.semAt_some
/-! ### worlds -/
theorem ownsRow_ge {W : World} {base : Nat} {e : TypeId} {size : Nat} {v : Value} {k : Nat} {xs : List Value} (h : W.ownsRow base e size v k xs) : ∀ j, v.ownBlock = some j → base ≤ j := by
  intro j hj
  rcases h.2 with ⟨rfl, _⟩ | ⟨g, cap, cur, rfl, hg, rest⟩
  · simp [Value.ownBlock] at hj
  · obtain rfl : g = j := by simpa [Value.ownBlock] using hj
    exact hg
/-! ### a map from texts to texts -/
/-! ### what Map gives -/
end Go.Proofs.YticpobgkbapdmaaDoor.SpanC
