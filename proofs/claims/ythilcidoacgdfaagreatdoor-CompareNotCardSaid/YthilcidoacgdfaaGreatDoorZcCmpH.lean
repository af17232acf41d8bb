/- The laws CompareNot and CompareSelf: their walks. -/
import Derived.Test.YthilcidoacgdfaaGreatDoorZcCmpG
namespace Go.Proofs.YthilcidoacgdfaaGreatDoor.CharB
end Go.Proofs.YthilcidoacgdfaaGreatDoor.CharB
namespace Go.Proofs.YthilcidoacgdfaaGreatDoor.CharF
end Go.Proofs.YthilcidoacgdfaaGreatDoor.CharF
namespace Go.Proofs.YthilcidoacgdfaaGreatDoor.CmpA
end Go.Proofs.YthilcidoacgdfaaGreatDoor.CmpA
namespace Go.Proofs.YthilcidoacgdfaaGreatDoor.CmpB
end Go.Proofs.YthilcidoacgdfaaGreatDoor.CmpB
namespace Go.Proofs.YthilcidoacgdfaaGreatDoor.CmpG
end Go.Proofs.YthilcidoacgdfaaGreatDoor.CmpG
namespace Go.Proofs.YthilcidoacgdfaaGreatDoor.DecA
end Go.Proofs.YthilcidoacgdfaaGreatDoor.DecA
namespace Go.Proofs.YthilcidoacgdfaaGreatDoor.DecE
end Go.Proofs.YthilcidoacgdfaaGreatDoor.DecE
namespace Go.Proofs.YthilcidoacgdfaaGreatDoor.DecG
end Go.Proofs.YthilcidoacgdfaaGreatDoor.DecG
namespace Go.Proofs.YthilcidoacgdfaaGreatDoor.FigA
end Go.Proofs.YthilcidoacgdfaaGreatDoor.FigA
namespace Go.Proofs.YthilcidoacgdfaaGreatDoor.FigD
end Go.Proofs.YthilcidoacgdfaaGreatDoor.FigD
namespace Go.Proofs.YthilcidoacgdfaaGreatDoor.FigG
end Go.Proofs.YthilcidoacgdfaaGreatDoor.FigG
namespace Go.Proofs.YthilcidoacgdfaaGreatDoor.FigH
end Go.Proofs.YthilcidoacgdfaaGreatDoor.FigH
namespace Go.Proofs.YthilcidoacgdfaaGreatDoor.FigI
end Go.Proofs.YthilcidoacgdfaaGreatDoor.FigI
namespace Go.Proofs.YthilcidoacgdfaaGreatDoor.SpanA
end Go.Proofs.YthilcidoacgdfaaGreatDoor.SpanA
namespace Go.Proofs.YthilcidoacgdfaaGreatDoor.ValA
end Go.Proofs.YthilcidoacgdfaaGreatDoor.ValA
namespace Go.Proofs.YthilcidoacgdfaaGreatDoor.ValB
end Go.Proofs.YthilcidoacgdfaaGreatDoor.ValB
namespace Go.Proofs.YthilcidoacgdfaaGreatDoor.ValC
end Go.Proofs.YthilcidoacgdfaaGreatDoor.ValC
namespace Go.Proofs.YthilcidoacgdfaaGreatDoor.ValD
end Go.Proofs.YthilcidoacgdfaaGreatDoor.ValD
namespace Go.Proofs.YthilcidoacgdfaaGreatDoorW.PrintLast
end Go.Proofs.YthilcidoacgdfaaGreatDoorW.PrintLast
namespace Go.Proofs.YthilcidoacgdfaaGreatDoorW.PrintMore
end Go.Proofs.YthilcidoacgdfaaGreatDoorW.PrintMore
namespace Go.Proofs.YthilcidoacgdfaaGreatDoorW.PrintWords
end Go.Proofs.YthilcidoacgdfaaGreatDoorW.PrintWords
namespace Go.Proofs.YthilcidoacgdfaaGreatDoor.CmpH
open Go.RowKit Go.Shelf Go.Proofs.YthilcidoacgdfaaGreatDoor.DecG Go.Proofs.YthilcidoacgdfaaGreatDoorW.PrintWords Go.Proofs.YthilcidoacgdfaaGreatDoorW.PrintLast Go.Proofs.YthilcidoacgdfaaGreatDoorW.PrintMore Go.Proofs.YthilcidoacgdfaaGreatDoor.CharB Go.Proofs.YthilcidoacgdfaaGreatDoor.CharF Go.Proofs.YthilcidoacgdfaaGreatDoor.SpanA Go.Proofs.YthilcidoacgdfaaGreatDoor.DecA Go.Proofs.YthilcidoacgdfaaGreatDoor.DecE Go.Proofs.YthilcidoacgdfaaGreatDoor.FigA Go.Proofs.YthilcidoacgdfaaGreatDoor.FigD Go.Proofs.YthilcidoacgdfaaGreatDoor.FigG Go.Proofs.YthilcidoacgdfaaGreatDoor.FigH Go.Proofs.YthilcidoacgdfaaGreatDoor.FigI Go.Proofs.YthilcidoacgdfaaGreatDoor.ValA Go.Proofs.YthilcidoacgdfaaGreatDoor.ValB Go.Proofs.YthilcidoacgdfaaGreatDoor.ValC Go.Proofs.YthilcidoacgdfaaGreatDoor.ValD Go.Proofs.YthilcidoacgdfaaGreatDoor.CmpA Go.Proofs.YthilcidoacgdfaaGreatDoor.CmpB Go.Proofs.YthilcidoacgdfaaGreatDoor.CmpG
set_option linter.unusedVariables false
set_option linter.unusedSimpArgs false
theorem w_one : doB 3 4 false 0 0 ⟨#[49]⟩ 3 false 0 1000000 ⟨#[]⟩ = true := by
  rw [doB_n 3 _ _ _ _ _ _ _ _ _ _ (by omega) (by omega)]
  have e1 : toN 4 false 0 0 ⟨#[49]⟩ = (0, 1000000) := by
    show readS [49] = _
    decide +kernel
  rw [e1]
  rfl
theorem w_two : doB 5 2 true 0 0 ⟨#[]⟩ 2 false 0 0 ⟨#[]⟩ = false := by
  rw [doB_n 5 _ _ _ _ _ _ _ _ _ _ (by omega) (by omega)]
  rfl
theorem i64z : I64 0 := by unfold I64; omega
theorem i64m : I64 1000000 := by unfold I64; omega
set_option maxHeartbeats 4000000 in
set_option maxRecDepth 100000 in
theorem works17 (w : World) (hT : Tabs w) : Calls Tryz.prog 20 #[] w fun e w' => e = .returned (.bool true) ∧ Below w.heap.size w w' := by
  have c1 : ∀ W, Below w.heap.size w W → _ := fun W hb => do_call 3 none 0 0 false 0 0 ⟨#[49]⟩ none 0 0 false 0 1000000 ⟨#[]⟩ 4 3 W (tabs_below hT hb) (by omega) (by omega) i64z i64m (by show 1 ≤ _; omega) (by show 0 ≤ _; omega) (by omega)
  have c2 : ∀ W, Below w.heap.size w W → _ := fun W hb => do_call 5 none 0 0 true 0 0 ⟨#[]⟩ none 0 0 false 0 0 ⟨#[]⟩ 2 2 W (tabs_below hT hb) (by omega) (by omega) i64z i64z (by show 0 ≤ _; omega) (by show 0 ≤ _; omega) (by omega)
  rw [w_one] at c1
  rw [w_two] at c2
  have HC1 := Aside0.mk c1
  have HC2 := Aside0.mk c2
  have HB := Aside0.mk (Below.refl w.heap.size w)
  clear hT c1 c2
  go_enter Tryz.func20, Tryz.ntmps20
  go_wp2_with fail
  refine (HC1.out _ HB.out).mono ?_
  rintro e w1 ⟨rfl, b1⟩
  have B1 := Aside0.mk b1
  clear b1
  go_wp2_with fail
  refine (HC2.out _ B1.out).mono ?_
  rintro e w2 ⟨rfl, b2⟩
  have B2 := Aside0.mk (chain B1.out (Nat.le_refl _) b2)
  clear b2
  go_wp2_with fail
  go_ret
  exact ⟨by first | rfl | (simp; done), B2.out⟩
set_option maxHeartbeats 4000000 in
set_option maxRecDepth 100000 in
theorem small_call (op T1 : Int) (A1 : Option Addr) (n1 k1 : Nat) (b1 : Bool) (t1 v1 : Int) (s1 : ByteArray) (T2 : Int) (A2 : Option Addr) (n2 k2 : Nat) (b2 : Bool) (t2 v2 : Int) (s2 : ByteArray) (w : World) : Calls Tryz.prog 19 #[.agg #[.int .i64 op, .int .i64 T1, .slice A1 n1 k1, .bool b1, .int .i64 t1, .int .i64 v1, .string s1, .int .i64 T2, .slice A2 n2 k2, .bool b2, .int .i64 t2, .int .i64 v2, .string s2]] w fun e w' => e = .returned (.bool (decide ((s1.size : Int) ≤ 300) && decide ((s2.size : Int) ≤ 300) && decide ((n1 : Int) ≤ 40) && decide ((n2 : Int) ≤ 40))) ∧ Below w.heap.size w w' := by
  go_enter Tryz.func19, Tryz.ntmps19
  go_wp2_with fail
  all_goals go_ret
  all_goals refine ⟨by first | rfl | (simp [*]; done) | (simp [*]; omega), ?_⟩
  all_goals exact (Below.refl w.heap.size w).alloc (Nat.le_refl _) _
def TBox (b : Nat) (op T1 : Int) (A1 : Option Addr) (n1 k1 : Nat) (b1 : Bool) (t1 v1 : Int) (s1 : ByteArray) (T2 : Int) (A2 : Option Addr) (n2 k2 : Nat) (b2 : Bool) (t2 v2 : Int) (s2 : ByteArray) (W : World) : Prop := W.heap[b]? = some (Obj.cells #[.int .i64 op, .int .i64 T1, .slice A1 n1 k1, .bool b1, .int .i64 t1, .int .i64 v1, .string s1, .int .i64 T2, .slice A2 n2 k2, .bool b2, .int .i64 t2, .int .i64 v2, .string s2] 45 (0, 0))
theorem TBox.lt {b : Nat} {op T1 : Int} {A1 : Option Addr} {n1 k1 : Nat} {b1 : Bool} {t1 v1 : Int} {s1 : ByteArray} {T2 : Int} {A2 : Option Addr} {n2 k2 : Nat} {b2 : Bool} {t2 v2 : Int} {s2 : ByteArray} {W : World} (h : TBox b op T1 A1 n1 k1 b1 t1 v1 s1 T2 A2 n2 k2 b2 t2 v2 s2 W) : b < W.heap.size := (Array.getElem?_eq_some_iff.1 h).1
theorem TBox.below {b : Nat} {op T1 : Int} {A1 : Option Addr} {n1 k1 : Nat} {b1 : Bool} {t1 v1 : Int} {s1 : ByteArray} {T2 : Int} {A2 : Option Addr} {n2 k2 : Nat} {b2 : Bool} {t2 v2 : Int} {s2 : ByteArray} {W W' : World} (h : TBox b op T1 A1 n1 k1 b1 t1 v1 s1 T2 A2 n2 k2 b2 t2 v2 s2 W) (hb : Below W.heap.size W W') : TBox b op T1 A1 n1 k1 b1 t1 v1 s1 T2 A2 n2 k2 b2 t2 v2 s2 W' := (hb.block b h.lt).trans h
theorem TBox.cell {b : Nat} {op T1 : Int} {A1 : Option Addr} {n1 k1 : Nat} {b1 : Bool} {t1 v1 : Int} {s1 : ByteArray} {T2 : Int} {A2 : Option Addr} {n2 k2 : Nat} {b2 : Bool} {t2 v2 : Int} {s2 : ByteArray} {W : World} (h : TBox b op T1 A1 n1 k1 b1 t1 v1 s1 T2 A2 n2 k2 b2 t2 v2 s2 W) (i : Nat) (y : Value) (hy : (#[.int .i64 op, .int .i64 T1, .slice A1 n1 k1, .bool b1, .int .i64 t1, .int .i64 v1, .string s1, .int .i64 T2, .slice A2 n2 k2, .bool b2, .int .i64 t2, .int .i64 v2, .string s2] : Array Value)[i]? = some y) : W.cell? ⟨b, i, none⟩ = some y := by rw [cell_h h]; exact hy
theorem tbox_new (op T1 : Int) (A1 : Option Addr) (n1 k1 : Nat) (b1 : Bool) (t1 v1 : Int) (s1 : ByteArray) (T2 : Int) (A2 : Option Addr) (n2 k2 : Nat) (b2 : Bool) (t2 v2 : Int) (s2 : ByteArray) (w : World) : TBox w.heap.size op T1 A1 n1 k1 b1 t1 v1 s1 T2 A2 n2 k2 b2 t2 v2 s2 (w.alloc (Obj.cells #[.int .i64 op, .int .i64 T1, .slice A1 n1 k1, .bool b1, .int .i64 t1, .int .i64 v1, .string s1, .int .i64 T2, .slice A2 n2 k2, .bool b2, .int .i64 t2, .int .i64 v2, .string s2] 45)) := blk_new w _
end Go.Proofs.YthilcidoacgdfaaGreatDoor.CmpH
