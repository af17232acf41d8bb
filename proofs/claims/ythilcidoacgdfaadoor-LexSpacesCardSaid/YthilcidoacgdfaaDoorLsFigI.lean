/- figure.Read: what it computes. -/
import Derived.Test.YthilcidoacgdfaaDoorLsFigH
namespace Go.Proofs.YthilcidoacgdfaaDoor.CharB
end Go.Proofs.YthilcidoacgdfaaDoor.CharB
namespace Go.Proofs.YthilcidoacgdfaaDoor.CharD
end Go.Proofs.YthilcidoacgdfaaDoor.CharD
namespace Go.Proofs.YthilcidoacgdfaaDoor.CharF
end Go.Proofs.YthilcidoacgdfaaDoor.CharF
namespace Go.Proofs.YthilcidoacgdfaaDoor.DecA
end Go.Proofs.YthilcidoacgdfaaDoor.DecA
namespace Go.Proofs.YthilcidoacgdfaaDoor.DecE
end Go.Proofs.YthilcidoacgdfaaDoor.DecE
namespace Go.Proofs.YthilcidoacgdfaaDoor.DecF
end Go.Proofs.YthilcidoacgdfaaDoor.DecF
namespace Go.Proofs.YthilcidoacgdfaaDoor.DecG
end Go.Proofs.YthilcidoacgdfaaDoor.DecG
namespace Go.Proofs.YthilcidoacgdfaaDoor.FigA
end Go.Proofs.YthilcidoacgdfaaDoor.FigA
namespace Go.Proofs.YthilcidoacgdfaaDoor.FigB
end Go.Proofs.YthilcidoacgdfaaDoor.FigB
namespace Go.Proofs.YthilcidoacgdfaaDoor.FigC
end Go.Proofs.YthilcidoacgdfaaDoor.FigC
namespace Go.Proofs.YthilcidoacgdfaaDoor.FigD
end Go.Proofs.YthilcidoacgdfaaDoor.FigD
namespace Go.Proofs.YthilcidoacgdfaaDoor.FigE
end Go.Proofs.YthilcidoacgdfaaDoor.FigE
namespace Go.Proofs.YthilcidoacgdfaaDoor.FigF
end Go.Proofs.YthilcidoacgdfaaDoor.FigF
namespace Go.Proofs.YthilcidoacgdfaaDoor.FigG
end Go.Proofs.YthilcidoacgdfaaDoor.FigG
namespace Go.Proofs.YthilcidoacgdfaaDoor.FigH
end Go.Proofs.YthilcidoacgdfaaDoor.FigH
namespace Go.Proofs.YthilcidoacgdfaaDoor.SpanA
end Go.Proofs.YthilcidoacgdfaaDoor.SpanA
namespace Go.Proofs.YthilcidoacgdfaaDoorW.PrintLast
end Go.Proofs.YthilcidoacgdfaaDoorW.PrintLast
namespace Go.Proofs.YthilcidoacgdfaaDoorW.PrintMore
end Go.Proofs.YthilcidoacgdfaaDoorW.PrintMore
namespace Go.Proofs.YthilcidoacgdfaaDoorW.PrintWords
end Go.Proofs.YthilcidoacgdfaaDoorW.PrintWords
namespace Go.Proofs.YthilcidoacgdfaaDoor.FigI
open Go.RowKit Go.Shelf Go.Proofs.YthilcidoacgdfaaDoorW.PrintWords Go.Proofs.YthilcidoacgdfaaDoorW.PrintLast Go.Proofs.YthilcidoacgdfaaDoorW.PrintMore Go.Proofs.YthilcidoacgdfaaDoor.CharB Go.Proofs.YthilcidoacgdfaaDoor.CharD Go.Proofs.YthilcidoacgdfaaDoor.CharF Go.Proofs.YthilcidoacgdfaaDoor.SpanA Go.Proofs.YthilcidoacgdfaaDoor.DecA Go.Proofs.YthilcidoacgdfaaDoor.DecE Go.Proofs.YthilcidoacgdfaaDoor.DecF Go.Proofs.YthilcidoacgdfaaDoor.DecG Go.Proofs.YthilcidoacgdfaaDoor.FigA Go.Proofs.YthilcidoacgdfaaDoor.FigB Go.Proofs.YthilcidoacgdfaaDoor.FigC Go.Proofs.YthilcidoacgdfaaDoor.FigD Go.Proofs.YthilcidoacgdfaaDoor.FigE Go.Proofs.YthilcidoacgdfaaDoor.FigF Go.Proofs.YthilcidoacgdfaaDoor.FigG Go.Proofs.YthilcidoacgdfaaDoor.FigH
set_option linter.unusedVariables false
set_option linter.unusedSimpArgs false
abbrev Tabs (w : World) : Prop := Lib.Utf8Tabs 2 3 w
theorem tabs_below {w w' : World} (hT : Tabs w) (h : Below w.heap.size w w') : Tabs w' := Utf8Tabs_below hT h
theorem space_gives (w : World) : PredAtRunes Tryd.prog 36 #[] sp w := fun W x _ _ => by
  refine (space_calls (x : Int) W).mono ?_
  rintro e w' ⟨rfl, m, rfl⟩
  exact ⟨rfl, m, rfl⟩
end Go.Proofs.YthilcidoacgdfaaDoor.FigI
