/- Words of this session that its walks share: a call of a function without a body whose answer is known at once, and small laws on worlds. -/
import Derived.Test.YthilcidoacgdfaaGreatDoorProg
import Derived.Test.YthilcidoacgdfaaGreatDoorZcWWords
import Derived.Test.YthilcidoacgdfaaGreatDoorZcWLast
import Derived.Test.YthilcidoacgdfaaGreatDoorZcWMore
import Derived.Laws.Externs
import Derived.Great.BuildSlice
import Derived.Deep.WholeRow
namespace Go.Proofs.YthilcidoacgdfaaGreatDoorW.PrintLast
end Go.Proofs.YthilcidoacgdfaaGreatDoorW.PrintLast
namespace Go.Proofs.YthilcidoacgdfaaGreatDoorW.PrintMore
end Go.Proofs.YthilcidoacgdfaaGreatDoorW.PrintMore
namespace Go.Proofs.YthilcidoacgdfaaGreatDoorW.PrintWords
end Go.Proofs.YthilcidoacgdfaaGreatDoorW.PrintWords
namespace Go.Proofs.YthilcidoacgdfaaGreatDoor.Mine
open Go.RowKit Go.Proofs.YthilcidoacgdfaaGreatDoorW.PrintWords Go.Proofs.YthilcidoacgdfaaGreatDoorW.PrintLast Go.Proofs.YthilcidoacgdfaaGreatDoorW.PrintMore

/-- A call that is answered at once: the world stays. -/
def CallsX (P : Program) (f : FuncId) (args : Array Value) (w : World) (R : Ending → World → Prop) : Prop :=
  ∃ v, (callFunc f args).run P w = .ok (.value v) w ∧ R (.returned v) w
theorem CallsX.mono {P : Program} {f : FuncId} {args : Array Value} {w : World} {R R' : Ending → World → Prop} (h : CallsX P f args w R) (hr : ∀ e w', R e w' → R' e w') : CallsX P f args w R' :=
  let ⟨v, h1, h2⟩ := h; ⟨v, h1, hr _ _ h2⟩

section
variable {P : Program} {ops : Array Oper} {Q : Exit → Act → World → Prop}
theorem goesX_ {rest : List Oper} {oi : Oper} {a : Act} {w : World} (N : Option Tmp) (hd : oi.dst = N) (hg : oi.guard = none) {f : FuncId} {fn : Func} {xs : Array Operand} {ts : Array TypeId} (_hf : P.funcs[f]? = some fn) (_hname : (fn.name == "runtime.NumGoroutine") = false) (_hb : fn.body.isNone = true) (args : Array Value)
    (hop : oi.op = .call { callee := .value (.func f), args := xs, argTypes := ts }) (hargs : xs.map a.eval = args)
    (h : CallsX P f args w fun e w' => ∃ v, e = .returned v ∧ wpList P ops Q rest (a.put N v) w') : wpList P ops Q (oi :: rest) a w := by
  refine wpList_plain hg fun K hK => ?_
  obtain ⟨v, he, v', hv, hk⟩ := h
  obtain rfl : v = v' := Ending.returned.inj hv
  have hrun : (execOp a.eval oi).run P w = .ok (.value v) w := by
    unfold execOp
    simp [hop, resolve, Deferred.ofValue, invoke, Act.eval, hargs, he]
  unfold Oper.wp
  rw [hrun, Oper.upon_value]
  subst hd
  exact hK _ _ hk
variable {o : Oper} {rest : List Oper} {a : Act} {W : World}
/-- The operation is just this one: an arm's guard. -/
theorem gate_op (op : Op) (_ho : o.op = op) (h : wpList P ops Q (o :: rest) a W) : wpList P ops Q (o :: rest) a W := h
/-- A store over a whole new block. -/
theorem store_new (hgd : o.guard = none) (ty : TypeId) (x y : Operand) (ho : o.op = .store ty x y)
    (hd : o.dst = none) (cells : Array Value) (hx : a.eval x = .pointer (some ⟨W.heap.size, 0, none⟩)) (hy : a.eval y = .agg cells)
    (t : TypeId) (old : Array Value) (hi : (P.info? ty).map (·.size) = some cells.size)
    (hold : old.size = cells.size) (h1 : cells.all (·.oneCell') = true)
    (h : wpList P ops Q rest a (W.alloc (.cells cells t))) : wpList P ops Q (o :: rest) a (W.alloc (.cells old t)) := by
  refine wpList_store_rowTo hgd ty x y ho hd W.heap.size cells hx hy t old (heap_alloc_new _ _) hi hold h1 ?_
  rw [World.setRow_alloc_new]
  exact h
end
theorem blk3 (w : World) (A B C : Obj) : (((w.alloc A).alloc B).alloc C).heap[w.heap.size]? = some A ∧ (((w.alloc A).alloc B).alloc C).heap[w.heap.size + 1]? = some B ∧ (((w.alloc A).alloc B).alloc C).heap[w.heap.size + 1 + 1]? = some C := by
  refine ⟨blk_alloc (blk_alloc (blk_new _ _) _) _, ?_, ?_⟩
  · have := blk_alloc (blk_new (w.alloc A) B) C; simpa using this
  · have := blk_new ((w.alloc A).alloc B) C; simpa using this
end Go.Proofs.YthilcidoacgdfaaGreatDoor.Mine
