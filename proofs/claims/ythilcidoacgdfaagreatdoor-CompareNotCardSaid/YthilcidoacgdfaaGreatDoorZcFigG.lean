/- figure.Show: what it computes. -/
import Derived.Test.YthilcidoacgdfaaGreatDoorZcFigE
import Derived.Laws.IdiomStrings
import Derived.Deep.QuietTactic
import Derived.BigQuiet
namespace Go.Proofs.YthilcidoacgdfaaGreatDoor.CharB
end Go.Proofs.YthilcidoacgdfaaGreatDoor.CharB
namespace Go.Proofs.YthilcidoacgdfaaGreatDoor.CharD
end Go.Proofs.YthilcidoacgdfaaGreatDoor.CharD
namespace Go.Proofs.YthilcidoacgdfaaGreatDoor.CharF
end Go.Proofs.YthilcidoacgdfaaGreatDoor.CharF
namespace Go.Proofs.YthilcidoacgdfaaGreatDoor.DecA
end Go.Proofs.YthilcidoacgdfaaGreatDoor.DecA
namespace Go.Proofs.YthilcidoacgdfaaGreatDoor.DecE
end Go.Proofs.YthilcidoacgdfaaGreatDoor.DecE
namespace Go.Proofs.YthilcidoacgdfaaGreatDoor.FigA
end Go.Proofs.YthilcidoacgdfaaGreatDoor.FigA
namespace Go.Proofs.YthilcidoacgdfaaGreatDoor.FigC
end Go.Proofs.YthilcidoacgdfaaGreatDoor.FigC
namespace Go.Proofs.YthilcidoacgdfaaGreatDoor.FigD
end Go.Proofs.YthilcidoacgdfaaGreatDoor.FigD
namespace Go.Proofs.YthilcidoacgdfaaGreatDoor.FigE
end Go.Proofs.YthilcidoacgdfaaGreatDoor.FigE
namespace Go.Proofs.YthilcidoacgdfaaGreatDoor.FigF
end Go.Proofs.YthilcidoacgdfaaGreatDoor.FigF
namespace Go.Proofs.YthilcidoacgdfaaGreatDoor.SpanA
end Go.Proofs.YthilcidoacgdfaaGreatDoor.SpanA
namespace Go.Proofs.YthilcidoacgdfaaGreatDoorW.PrintLast
end Go.Proofs.YthilcidoacgdfaaGreatDoorW.PrintLast
namespace Go.Proofs.YthilcidoacgdfaaGreatDoorW.PrintMore
end Go.Proofs.YthilcidoacgdfaaGreatDoorW.PrintMore
namespace Go.Proofs.YthilcidoacgdfaaGreatDoorW.PrintWords
end Go.Proofs.YthilcidoacgdfaaGreatDoorW.PrintWords
namespace Go.Proofs.YthilcidoacgdfaaGreatDoor.FigG
open Go.RowKit Go.Shelf Go.Proofs.YthilcidoacgdfaaGreatDoorW.PrintWords Go.Proofs.YthilcidoacgdfaaGreatDoorW.PrintLast Go.Proofs.YthilcidoacgdfaaGreatDoorW.PrintMore Go.Proofs.YthilcidoacgdfaaGreatDoor.CharB Go.Proofs.YthilcidoacgdfaaGreatDoor.CharD Go.Proofs.YthilcidoacgdfaaGreatDoor.CharF Go.Proofs.YthilcidoacgdfaaGreatDoor.SpanA Go.Proofs.YthilcidoacgdfaaGreatDoor.DecA Go.Proofs.YthilcidoacgdfaaGreatDoor.DecE Go.Proofs.YthilcidoacgdfaaGreatDoor.FigA Go.Proofs.YthilcidoacgdfaaGreatDoor.FigC Go.Proofs.YthilcidoacgdfaaGreatDoor.FigD Go.Proofs.YthilcidoacgdfaaGreatDoor.FigE Go.Proofs.YthilcidoacgdfaaGreatDoor.FigF
set_option linter.unusedVariables false
set_option linter.unusedSimpArgs false
theorem chain {B : Nat} {a b c : World} (h : Below B a b) (hB : B ≤ a.heap.size) (h2 : Below b.heap.size b c) : Below B a c := h.trans (h2.mono (Nat.le_trans hB h.size))
theorem right_call (t v : Int) (w : World) : Calls Tryz.prog 22 #[.agg #[.int .i64 t, .int .i64 v]] w fun e w' => e = .returned (.bool (rightB (t, v))) ∧ Below w.heap.size w w' := PF.dec_Right.calls t v _ w (dec_Right_f t v)
/-- The box of a number. -/
def Box (b : Nat) (t v : Int) (W : World) : Prop := W.heap[b]? = some (Obj.cells #[.int .i64 t, .int .i64 v] 32 (0, 0))
theorem Box.lt {b : Nat} {t v : Int} {W : World} (h : Box b t v W) : b < W.heap.size := (Array.getElem?_eq_some_iff.1 h).1
theorem Box.below {b : Nat} {t v : Int} {W W' : World} (h : Box b t v W) (hb : Below W.heap.size W W') : Box b t v W' := (hb.block b h.lt).trans h
theorem Box.c0 {b : Nat} {t v : Int} {W : World} (h : Box b t v W) : W.cell? ⟨b, 0, none⟩ = some (.int .i64 t) := by rw [cell_h h]; rfl
theorem Box.c1 {b : Nat} {t v : Int} {W : World} (h : Box b t v W) : W.cell? ⟨b, 1, none⟩ = some (.int .i64 v) := by rw [cell_h h]; rfl
theorem Box.fr {b : Nat} {t v : Int} {W : World} (h : Box b t v W) (i : Nat) : W.frozen? ⟨b, i, none⟩ = false := Lib.frozen_of_heap h i
theorem Box.put {b : Nat} {t v t' v' : Int} {W : World} (h : Box b t v W) : Box b t' v' ((W.setCell ⟨b, 0, none⟩ (.int .i64 t')).setCell ⟨b, 1, none⟩ (.int .i64 v')) := by
  unfold Box at h ⊢
  exact blk_put (cs := #[.int .i64 t', .int .i64 v]) (blk_put (cs := #[.int .i64 t, .int .i64 v]) h 0 _ rfl) 1 _ rfl
theorem box_new (t v : Int) (w : World) : Box w.heap.size t v (w.alloc (Obj.cells #[.int .i64 t, .int .i64 v] 32)) := blk_new w _
end Go.Proofs.YthilcidoacgdfaaGreatDoor.FigG
