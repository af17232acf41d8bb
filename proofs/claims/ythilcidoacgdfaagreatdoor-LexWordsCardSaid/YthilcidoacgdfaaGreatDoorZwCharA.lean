import Derived.Test.YthilcidoacgdfaaGreatDoorProg
import Derived.Test.YthilcidoacgdfaaGreatDoorZwWWords
import Derived.Test.YthilcidoacgdfaaGreatDoorZwWLast
import Derived.Test.YthilcidoacgdfaaGreatDoorZwWMore
import Derived.Laws.Externs
import Derived.Great.BuildSlice
import Derived.Deep.WholeRow
import Derived.Deep.QuietTactic
set_option maxHeartbeats 8000000
set_option maxRecDepth 100000
namespace Go.Proofs.YthilcidoacgdfaaGreatDoorW.PrintLast
end Go.Proofs.YthilcidoacgdfaaGreatDoorW.PrintLast
namespace Go.Proofs.YthilcidoacgdfaaGreatDoorW.PrintMore
end Go.Proofs.YthilcidoacgdfaaGreatDoorW.PrintMore
namespace Go.Proofs.YthilcidoacgdfaaGreatDoorW.PrintWords
end Go.Proofs.YthilcidoacgdfaaGreatDoorW.PrintWords
namespace Go.Proofs.YthilcidoacgdfaaGreatDoor.Mine
open Go.RowKit YthilcidoacgdfaaGreatDoorW.PrintWords YthilcidoacgdfaaGreatDoorW.PrintLast YthilcidoacgdfaaGreatDoorW.PrintMore

def CallsX (P : Program) (f : FuncId) (args : Array Value) (w : World) (R : Ending → World → Prop) : Prop :=
 ∃ v, (callFunc f args).run P w = .ok (.value v) w ∧ R (.returned v) w
theorem CallsX.mono {P : Program} {f : FuncId} {args : Array Value} {w : World} {R R' : Ending → World → Prop} (h : CallsX P f args w R) (hr : ∀ e w', R e w' → R' e w') : CallsX P f args w R' :=
 let ⟨v, h1, h2⟩ := h; ⟨v, h1, hr _ _ h2⟩

section
variable {P : Program} {ops : Array Oper} {Q : Exit → Act → World → Prop}
theorem goesX_ {rest : List Oper} {oi : Oper} {a : Act} {w : World} (N : Option Tmp) (hd : oi.dst = N) (hg : oi.guard = none) {f : FuncId} {fn : Func} {xs : Array Operand} {ts : Array TypeId} (_hf : P.funcs[f]? = some fn) (_hname : (fn.name == "runtime.NumGoroutine") = false) (_hb : fn.body.isNone = true) (args : Array Value)
  (hop : oi.op = .call { callee := .value (.func f), args := xs, argTypes := ts }) (hargs : xs.map a.eval = args)
  (h : CallsX P f args w fun e w' => ∃ v, e = .returned v ∧ wpList P ops Q rest (a.put N v) w') : wpList P ops Q (oi :: rest) a w := by
 refine wpList_plain hg fun K hK => ?_
 obtain ⟨v, he, v', hv, hk⟩ := h
 obtain rfl : v = v' := Ending.returned.inj hv
 have hrun : (execOp a.eval oi).run P w = .ok (.value v) w := by
  unfold execOp
  simp [hop, resolve, Deferred.ofValue, invoke, Act.eval, hargs, he]
 unfold Oper.wp
 rw [hrun, Oper.upon_value]
 subst hd
 exact hK _ _ hk
variable {o : Oper} {rest : List Oper} {a : Act} {W : World}
theorem gate_op (op : Op) (_ho : o.op = op) (h : wpList P ops Q (o :: rest) a W) : wpList P ops Q (o :: rest) a W := h
theorem store_new (hgd : o.guard = none) (ty : TypeId) (x y : Operand) (ho : o.op = .store ty x y)
  (hd : o.dst = none) (cells : Array Value) (hx : a.eval x = .pointer (some ⟨W.heap.size, 0, none⟩)) (hy : a.eval y = .agg cells)
  (t : TypeId) (old : Array Value) (hi : (P.info? ty).map (·.size) = some cells.size)
  (hold : old.size = cells.size) (h1 : cells.all (·.oneCell') = true)
  (h : wpList P ops Q rest a (W.alloc (.cells cells t))) : wpList P ops Q (o :: rest) a (W.alloc (.cells old t)) := by
 refine wpList_store_rowTo hgd ty x y ho hd W.heap.size cells hx hy t old (heap_alloc_new _ _) hi hold h1 ?_
 rw [World.setRow_alloc_new]
 exact h
end
theorem blk3 (w : World) (A B C : Obj) : (((w.alloc A).alloc B).alloc C).heap[w.heap.size]? = some A ∧ (((w.alloc A).alloc B).alloc C).heap[w.heap.size + 1]? = some B ∧ (((w.alloc A).alloc B).alloc C).heap[w.heap.size + 1 + 1]? = some C := by
 refine ⟨qd (qd (qt1 _ _) _) _, ?_, ?_⟩
 ·have := qd (qt1 (w.alloc A) B) C; simpa using this
 ·have := qt1 ((w.alloc A).alloc B) C; simpa using this
end Go.Proofs.YthilcidoacgdfaaGreatDoor.Mine
namespace Go.Proofs.YthilcidoacgdfaaGreatDoorW.PrintLast
end Go.Proofs.YthilcidoacgdfaaGreatDoorW.PrintLast
namespace Go.Proofs.YthilcidoacgdfaaGreatDoorW.PrintMore
end Go.Proofs.YthilcidoacgdfaaGreatDoorW.PrintMore
namespace Go.Proofs.YthilcidoacgdfaaGreatDoorW.PrintWords
end Go.Proofs.YthilcidoacgdfaaGreatDoorW.PrintWords
namespace Go.Proofs.YthilcidoacgdfaaGreatDoor.CharA
open Go.RowKit YthilcidoacgdfaaGreatDoorW.PrintWords YthilcidoacgdfaaGreatDoorW.PrintLast YthilcidoacgdfaaGreatDoorW.PrintMore
set_option linter.unusedVariables false
set_option linter.unusedSimpArgs false
def char_within.f (a0 : Int) : List (Int × Int) → Bool
 | [] => false
 | (p, q) :: l => if a0 ≥ p then (if a0 ≤ q then true else char_within.f a0 l) else char_within.f a0 l
def spanCells : List (Int × Int) → List Value
 | [] => []
 | (p, q) :: l => .int .i32 p :: .int .i32 q :: spanCells l
theorem char_within.calls (a0 : Int) (b : Nat) (L : List (Int × Int)) (hL : L.length < 2 ^ 40) (r : Bool) (w : World) (hb : ∀ k (hk : k < L.length), w.cell? ⟨b, k * 2, none⟩ = some (.int .i32 L[k].1) ∧ w.cell? ⟨b, k * 2 + 1, none⟩ = some (.int .i32 L[k].2))
  (hlt : b < w.heap.size) (h : char_within.f a0 L = r) :
  Calls Tryz.prog 92 #[.int .i32 a0, .slice (some ⟨b, 0, none⟩) L.length L.length] w fun e w' => e = .returned (.bool r) ∧ Below w.heap.size w w' := by
 have HB := Aside0.mk hb
 have HLT := Aside0.mk hlt
 have H := Aside0.mk h
 clear hb h hlt
 go_enter Tryz.func92, Tryz.ntmps92
 go_wp2
 go_loopg [9] L.length (fun kq v9 w' => kq ≤ L.length ∧ v9 = .int .i64 ((L.length - kq : Nat) : Int) ∧ Aside0 (char_within.f a0 (L.drop (L.length - kq)) = r) ∧ Below w.heap.size w w')
 case atStart => exact ⟨Nat.le_refl _, by simp, by simpa using H, Below.refl _ _⟩
 case round =>
  obtain ⟨hk, rfl, HR, HBl⟩ := hrel
  obtain ⟨i, hi⟩ : ∃ i, L.length - gk = i := ⟨_, rfl⟩
  rw [hi] at HR ⊢
  cases gk with
  | zero =>
   obtain rfl : L.length = i := by omega
   have hf : decide ((L.length : Int) < (L.length : Int)) = false := by simp
   have hr := HR.out
   rw [List.drop_length] at hr
   simp only [char_within.f] at hr
   subst hr
   go_wp2
   go_ret
   exact ⟨rfl, HBl⟩
  | succ k1 =>
   have hlt : i < L.length := by omega
   have hd : decide ((i : Int) < (L.length : Int)) = true := by simp; omega
   have hr := HR.out
   rw [List.drop_eq_getElem_cons hlt] at hr
   obtain ⟨hc0, hc1⟩ := HB.out i hlt
   have hd0 := (HBl.cell (p := ⟨b, i * 2, none⟩) HLT.out).trans hc0
   have hd1 := (HBl.cell (p := ⟨b, i * 2 + 1, none⟩) HLT.out).trans hc1
   clear hc0 hc1
   generalize hx : L[i] = x at hr hd0 hd1
   obtain ⟨p, q⟩ := x
   simp only [char_within.f] at hr
   have h0 : (0 : Int) ≤ (i : Int) := by omega
   have hl1 : L.length - k1 = i + 1 := by omega
   skip
   have fin : ∀ cs, Below w.heap.size w (wr.alloc (.cells cs 131)) := fun cs => qb HBl _
   by_cases c1 : a0 ≥ p
   ·rw [if_pos c1] at hr
    have c1b : decide (p ≤ a0) = true := by simpa using c1
    by_cases c2 : a0 ≤ q
    ·rw [if_pos c2] at hr
     have c2b : decide (a0 ≤ q) = true := by simpa using c2
     subst hr
     go_wp2_with fail
     go_ret
     exact ⟨rfl, fin _⟩
    ·rw [if_neg c2] at hr
     have c2b : decide (a0 ≤ q) = false := by simpa using c2
     have hr' := Aside0.mk hr
     go_wp2_with fail
     go_roundg k1
     case measure => omega
     case rel => exact ⟨by omega, by rw [hl1]; simp, by rw [hl1]; exact hr', fin _⟩
   ·rw [if_neg c1] at hr
    have c1b : decide (p ≤ a0) = false := by simpa using c1
    have hr' := Aside0.mk hr
    go_wp2_with fail
    go_roundg k1
    case measure => omega
    case rel => exact ⟨by omega, by rw [hl1]; simp, by rw [hl1]; exact hr', fin _⟩
theorem spanCells_at : ∀ (L : List (Int × Int)) (k : Nat) (hk : k < L.length), (spanCells L)[k * 2]? = some (.int .i32 L[k].1) ∧ (spanCells L)[k * 2 + 1]? = some (.int .i32 L[k].2)
 | (p, q) :: L, 0, _ => ⟨rfl, rfl⟩
 | (p, q) :: L, k + 1, hk => by
  have h := spanCells_at L k (by simpa using hk)
  rw [Nat.add_mul]
  simpa [spanCells] using h
theorem span_cells {w : World} {b : Nat} {t : TypeId} {L : List (Int × Int)} {cs : Array Value} (h : w.heap[b]? = some (.cells cs t (0, 0))) (hL : cs = (spanCells L).toArray) :
  ∀ k (hk : k < L.length), w.cell? ⟨b, k * 2, none⟩ = some (.int .i32 L[k].1) ∧ w.cell? ⟨b, k * 2 + 1, none⟩ = some (.int .i32 L[k].2) := by
 subst hL
 intro k hk
 rw [qh h, qh h]
 simpa using spanCells_at L k hk
def isL : List (Int × Int) := [(9, 10), (13, 13), (32, 55295), (57344, 65533), (65536, 1114111)]
def char_Is.f (a0 : Int) : Option Bool := some (char_within.f a0 isL)
theorem char_Is.calls (a0 : Int) (r : Bool) (w : World) (h : char_Is.f a0 = some r) :
  Calls Tryz.prog 50 #[.int .i32 a0] w fun e w' => e = .returned (.bool r) ∧ Below w.heap.size w w' := by
 have H := Aside0.mk (Option.some.inj h)
 clear h
 have hr0 := Below.refl w.heap.size w
 go_enter Tryz.func50, Tryz.ntmps50
 go_wp2_with fail
 have hk : (w.alloc (.cells #[.int .i32 9, .int .i32 10, .int .i32 13, .int .i32 13, .int .i32 32, .int .i32 55295, .int .i32 57344, .int .i32 65533, .int .i32 65536, .int .i32 1114111] 132)).heap[w.heap.size]? = _ := qt1 w _
 refine (char_within.calls a0 w.heap.size isL (by decide) r _ ?_ ?_ H.out).mono ?_
 ·exact span_cells hk rfl
 ·simp
 rintro e w1 ⟨rfl, hb1⟩
 go_wp2_with fail
 go_ret
 exact ⟨rfl, ((qb hr0 _).trans (hb1.mono (by simp)))⟩

def startL : List (Int × Int) := [(0xc0, 0xd6), (0xd8, 0xf6), (0xf8, 0x2ff), (0x370, 0x37d), (0x37f, 0x1fff), (0x200c, 0x200d), (0x2070, 0x218f), (0x2c00, 0x2fef), (0x3001, 0xd7ff), (0xf900, 0xfdcf), (0xfdf0, 0xfffd), (0x10000, 0xeffff)]
def startC : Array Value := #[.int .i32 192, .int .i32 214, .int .i32 216, .int .i32 246, .int .i32 248, .int .i32 767, .int .i32 880, .int .i32 893, .int .i32 895, .int .i32 8191, .int .i32 8204, .int .i32 8205, .int .i32 8304, .int .i32 8591, .int .i32 11264, .int .i32 12271, .int .i32 12289, .int .i32 55295, .int .i32 63744, .int .i32 64975, .int .i32 65008, .int .i32 65533, .int .i32 65536, .int .i32 983039]
theorem startC_one : startC.all (·.oneCell') = true := by kernel_rfl
def char_Start.f (a0 : Int) : Option Bool := if a0 < 128 then some (decide (65 ≤ a0) && decide (a0 ≤ 90) || decide (97 ≤ a0) && decide (a0 ≤ 122) || a0 == 95) else some (char_within.f a0 startL)
theorem char_Start.low (a0 : Int) (r : Bool) (w : World) (c0 : a0 < 128) (h : (decide (65 ≤ a0) && decide (a0 ≤ 90) || decide (97 ≤ a0) && decide (a0 ≤ 122) || a0 == 95) = r) :
  Calls Tryz.prog 103 #[.int .i32 a0] w fun e w' => e = .returned (.bool r) ∧ Below w.heap.size w w' := by
 have hr0 := Below.refl w.heap.size w
 have c0b : decide (a0 < 128) = true := by simpa using c0
 subst h
 go_enter Tryz.func103, Tryz.ntmps103
 by_cases c1 : 65 ≤ a0 <;> by_cases c2 : a0 ≤ 90 <;> by_cases c3 : 97 ≤ a0 <;> by_cases c4 : a0 ≤ 122 <;> (try (exfalso; omega)) <;>
 ·(try rw [eq_true c1]); (try rw [eq_false c1]); (try rw [eq_true c2]); (try rw [eq_false c2]); (try rw [eq_true c3]); (try rw [eq_false c3]); (try rw [eq_true c4]); (try rw [eq_false c4])
  go_wp2_with fail
  go_ret
  exact ⟨by first | rfl | (simp; done) | (simp [c1, c2, c3, c4]; done) | (simp; omega), hr0⟩
theorem char_Start.high (a0 : Int) (r : Bool) (w : World) (c0 : ¬a0 < 128) (h : char_within.f a0 startL = r) :
  Calls Tryz.prog 103 #[.int .i32 a0] w fun e w' => e = .returned (.bool r) ∧ Below w.heap.size w w' := by
 have hr0 := Below.refl w.heap.size w
 have c0b : decide (a0 < 128) = false := by simpa using c0
 have H := Aside0.mk h
 clear h
 go_enter Tryz.func103, Tryz.ntmps103
 go_wp2_with ((with_reducible refine Mine.gate_op (.store 182 (.tmp 3) (.tmp 36)) rfl ?_); refine Mine.store_new rfl 182 (.tmp 3) (.tmp 36) rfl rfl startC rfl rfl 182 _ (by kernel_rfl) rfl startC_one ?_)
 have hk := qt1 w (.cells startC 182)
 refine (char_within.calls a0 w.heap.size startL (by decide) r _ ?_ ?_ H.out).mono ?_
 ·exact span_cells hk rfl
 ·simp
 rintro e w1 ⟨rfl, hb1⟩
 go_wp2_with fail
 go_ret
 exact ⟨rfl, ((qb hr0 _).trans (hb1.mono (by simp)))⟩
theorem char_Start.calls (a0 : Int) (r : Bool) (w : World) (h : char_Start.f a0 = some r) :
  Calls Tryz.prog 103 #[.int .i32 a0] w fun e w' => e = .returned (.bool r) ∧ Below w.heap.size w w' := by
 unfold char_Start.f at h
 by_cases c0 : a0 < 128
 ·rw [if_pos c0] at h; exact char_Start.low a0 r w c0 (Option.some.inj h)
 ·rw [if_neg c0] at h; exact char_Start.high a0 r w c0 (Option.some.inj h)
def isB (a : Int) : Bool := char_within.f a isL
def startB (a : Int) : Bool := if a < 128 then (decide (65 ≤ a) && decide (a ≤ 90) || decide (97 ≤ a) && decide (a ≤ 122) || a == 95) else char_within.f a startL
def partL : List (Int × Int) := [(45, 46), (48, 57), (0xb7, 0xb7), (0x300, 0x36f), (0x203f, 0x2040)]
def partB (a : Int) : Bool := startB a || char_within.f a partL
theorem is_calls (a0 : Int) (w : World) : Calls Tryz.prog 50 #[.int .i32 a0] w fun e w' => e = .returned (.bool (isB a0)) ∧ Below w.heap.size w w' := char_Is.calls a0 _ w rfl
theorem start_calls (a0 : Int) (w : World) : Calls Tryz.prog 103 #[.int .i32 a0] w fun e w' => e = .returned (.bool (startB a0)) ∧ Below w.heap.size w w' := char_Start.calls a0 _ w (by unfold char_Start.f startB; split <;> rfl)
theorem part_calls (a0 : Int) (w : World) : Calls Tryz.prog 102 #[.int .i32 a0] w fun e w' => e = .returned (.bool (partB a0)) ∧ Below w.heap.size w w' := by
 have hr0 := Below.refl w.heap.size w
 obtain ⟨s, hs⟩ : ∃ s, startB a0 = s := ⟨_, rfl⟩
 obtain ⟨r, hr⟩ : ∃ r, char_within.f a0 partL = r := ⟨_, rfl⟩
 have hp : partB a0 = (s || r) := by unfold partB; rw [hs, hr]
 rw [hp]
 have S := start_calls a0
 rw [hs] at S
 clear hp hs
 have H := Aside0.mk hr
 clear hr
 cases s with
 | true =>
  go_enter Tryz.func102, Tryz.ntmps102
  go_wp2_with fail
  refine (S _).mono ?_
  rintro e w1 ⟨rfl, hb1⟩
  go_wp2_with fail
  go_ret
  exact ⟨by simp, ((qb hr0 _).trans (hb1.mono (by simp)))⟩
 | false =>
  go_enter Tryz.func102, Tryz.ntmps102
  go_wp2_with fail
  refine (S _).mono ?_
  rintro e w1 ⟨rfl, hb1⟩
  have hk : w1.heap[w.heap.size]? = some (.cells #[.int .i32 45, .int .i32 46, .int .i32 48, .int .i32 57, .int .i32 183, .int .i32 183, .int .i32 768, .int .i32 879, .int .i32 8255, .int .i32 8256] 132) := ql (qt1 w _) hb1
  have hB := (qb hr0 (.cells #[.int .i32 45, .int .i32 46, .int .i32 48, .int .i32 57, .int .i32 183, .int .i32 183, .int .i32 768, .int .i32 879, .int .i32 8255, .int .i32 8256] 132)).trans (hb1.mono (by simp))
  have hsz : w.heap.size < w1.heap.size := Nat.lt_of_lt_of_le (by simp) hb1.size
  have HB := Aside0.mk hB
  have HS := Aside0.mk hsz
  have HK := Aside0.mk (span_cells hk (L := partL) rfl)
  clear hB hsz hk hb1
  go_wp2_with fail
  refine (char_within.calls a0 w.heap.size partL (by decide) r _ HK.out HS.out H.out).mono ?_
  rintro e w2 ⟨rfl, hb2⟩
  go_wp2_with fail
  go_ret
  exact ⟨by simp, HB.out.trans (hb2.mono (Nat.le_of_lt HS.out))⟩
end Go.Proofs.YthilcidoacgdfaaGreatDoor.CharA
