/- figure.Show: what it computes. -/
import Derived.Test.YthilcidoacgdfaaDoorLsFigE
import Derived.Laws.IdiomStrings
import Derived.Deep.QuietTactic
import Derived.BigQuiet
namespace Go.Proofs.YthilcidoacgdfaaDoor.CharB
end Go.Proofs.YthilcidoacgdfaaDoor.CharB
namespace Go.Proofs.YthilcidoacgdfaaDoor.CharD
end Go.Proofs.YthilcidoacgdfaaDoor.CharD
namespace Go.Proofs.YthilcidoacgdfaaDoor.CharF
end Go.Proofs.YthilcidoacgdfaaDoor.CharF
namespace Go.Proofs.YthilcidoacgdfaaDoor.DecA
end Go.Proofs.YthilcidoacgdfaaDoor.DecA
namespace Go.Proofs.YthilcidoacgdfaaDoor.DecE
end Go.Proofs.YthilcidoacgdfaaDoor.DecE
namespace Go.Proofs.YthilcidoacgdfaaDoor.FigA
end Go.Proofs.YthilcidoacgdfaaDoor.FigA
namespace Go.Proofs.YthilcidoacgdfaaDoor.FigC
end Go.Proofs.YthilcidoacgdfaaDoor.FigC
namespace Go.Proofs.YthilcidoacgdfaaDoor.FigD
end Go.Proofs.YthilcidoacgdfaaDoor.FigD
namespace Go.Proofs.YthilcidoacgdfaaDoor.FigE
end Go.Proofs.YthilcidoacgdfaaDoor.FigE
namespace Go.Proofs.YthilcidoacgdfaaDoor.FigF
end Go.Proofs.YthilcidoacgdfaaDoor.FigF
namespace Go.Proofs.YthilcidoacgdfaaDoor.SpanA
end Go.Proofs.YthilcidoacgdfaaDoor.SpanA
namespace Go.Proofs.YthilcidoacgdfaaDoorW.PrintLast
end Go.Proofs.YthilcidoacgdfaaDoorW.PrintLast
namespace Go.Proofs.YthilcidoacgdfaaDoorW.PrintMore
end Go.Proofs.YthilcidoacgdfaaDoorW.PrintMore
namespace Go.Proofs.YthilcidoacgdfaaDoorW.PrintWords
end Go.Proofs.YthilcidoacgdfaaDoorW.PrintWords
namespace Go.Proofs.YthilcidoacgdfaaDoor.FigG
open Go.RowKit Go.Shelf Go.Proofs.YthilcidoacgdfaaDoorW.PrintWords Go.Proofs.YthilcidoacgdfaaDoorW.PrintLast Go.Proofs.YthilcidoacgdfaaDoorW.PrintMore Go.Proofs.YthilcidoacgdfaaDoor.CharB Go.Proofs.YthilcidoacgdfaaDoor.CharD Go.Proofs.YthilcidoacgdfaaDoor.CharF Go.Proofs.YthilcidoacgdfaaDoor.SpanA Go.Proofs.YthilcidoacgdfaaDoor.DecA Go.Proofs.YthilcidoacgdfaaDoor.DecE Go.Proofs.YthilcidoacgdfaaDoor.FigA Go.Proofs.YthilcidoacgdfaaDoor.FigC Go.Proofs.YthilcidoacgdfaaDoor.FigD Go.Proofs.YthilcidoacgdfaaDoor.FigE Go.Proofs.YthilcidoacgdfaaDoor.FigF
set_option linter.unusedVariables false
set_option linter.unusedSimpArgs false
theorem chain {B : Nat} {a b c : World} (h : Below B a b) (hB : B ≤ a.heap.size) (h2 : Below b.heap.size b c) : Below B a c := h.trans (h2.mono (Nat.le_trans hB h.size))
/-- The box of a number. -/
def Box (b : Nat) (t v : Int) (W : World) : Prop := W.heap[b]? = some (Obj.cells #[.int .i64 t, .int .i64 v] 23 (0, 0))
theorem Box.lt {b : Nat} {t v : Int} {W : World} (h : Box b t v W) : b < W.heap.size := (Array.getElem?_eq_some_iff.1 h).1
theorem Box.below {b : Nat} {t v : Int} {W W' : World} (h : Box b t v W) (hb : Below W.heap.size W W') : Box b t v W' := (hb.block b h.lt).trans h
theorem Box.c0 {b : Nat} {t v : Int} {W : World} (h : Box b t v W) : W.cell? ⟨b, 0, none⟩ = some (.int .i64 t) := by rw [cell_h h]; rfl
theorem Box.c1 {b : Nat} {t v : Int} {W : World} (h : Box b t v W) : W.cell? ⟨b, 1, none⟩ = some (.int .i64 v) := by rw [cell_h h]; rfl
theorem Box.fr {b : Nat} {t v : Int} {W : World} (h : Box b t v W) (i : Nat) : W.frozen? ⟨b, i, none⟩ = false := Lib.frozen_of_heap h i
theorem Box.put {b : Nat} {t v t' v' : Int} {W : World} (h : Box b t v W) : Box b t' v' ((W.setCell ⟨b, 0, none⟩ (.int .i64 t')).setCell ⟨b, 1, none⟩ (.int .i64 v')) := by
  unfold Box at h ⊢
  exact blk_put (cs := #[.int .i64 t', .int .i64 v]) (blk_put (cs := #[.int .i64 t, .int .i64 v]) h 0 _ rfl) 1 _ rfl
theorem box_new (t v : Int) (w : World) : Box w.heap.size t v (w.alloc (Obj.cells #[.int .i64 t, .int .i64 v] 23)) := blk_new w _
end Go.Proofs.YthilcidoacgdfaaDoor.FigG
