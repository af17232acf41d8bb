/- The law CompareNot: its walk. -/
import Derived.Test.YthilcidoacgdfaaGreatDoorZcCmpH
namespace Go.Proofs.YthilcidoacgdfaaGreatDoor.CharB
end Go.Proofs.YthilcidoacgdfaaGreatDoor.CharB
namespace Go.Proofs.YthilcidoacgdfaaGreatDoor.CharF
end Go.Proofs.YthilcidoacgdfaaGreatDoor.CharF
namespace Go.Proofs.YthilcidoacgdfaaGreatDoor.CmpA
end Go.Proofs.YthilcidoacgdfaaGreatDoor.CmpA
namespace Go.Proofs.YthilcidoacgdfaaGreatDoor.CmpB
end Go.Proofs.YthilcidoacgdfaaGreatDoor.CmpB
namespace Go.Proofs.YthilcidoacgdfaaGreatDoor.CmpG
end Go.Proofs.YthilcidoacgdfaaGreatDoor.CmpG
namespace Go.Proofs.YthilcidoacgdfaaGreatDoor.CmpH
end Go.Proofs.YthilcidoacgdfaaGreatDoor.CmpH
namespace Go.Proofs.YthilcidoacgdfaaGreatDoor.DecA
end Go.Proofs.YthilcidoacgdfaaGreatDoor.DecA
namespace Go.Proofs.YthilcidoacgdfaaGreatDoor.DecE
end Go.Proofs.YthilcidoacgdfaaGreatDoor.DecE
namespace Go.Proofs.YthilcidoacgdfaaGreatDoor.DecG
end Go.Proofs.YthilcidoacgdfaaGreatDoor.DecG
namespace Go.Proofs.YthilcidoacgdfaaGreatDoor.FigA
end Go.Proofs.YthilcidoacgdfaaGreatDoor.FigA
namespace Go.Proofs.YthilcidoacgdfaaGreatDoor.FigD
end Go.Proofs.YthilcidoacgdfaaGreatDoor.FigD
namespace Go.Proofs.YthilcidoacgdfaaGreatDoor.FigG
end Go.Proofs.YthilcidoacgdfaaGreatDoor.FigG
namespace Go.Proofs.YthilcidoacgdfaaGreatDoor.FigH
end Go.Proofs.YthilcidoacgdfaaGreatDoor.FigH
namespace Go.Proofs.YthilcidoacgdfaaGreatDoor.FigI
end Go.Proofs.YthilcidoacgdfaaGreatDoor.FigI
namespace Go.Proofs.YthilcidoacgdfaaGreatDoor.SpanA
end Go.Proofs.YthilcidoacgdfaaGreatDoor.SpanA
namespace Go.Proofs.YthilcidoacgdfaaGreatDoor.ValA
end Go.Proofs.YthilcidoacgdfaaGreatDoor.ValA
namespace Go.Proofs.YthilcidoacgdfaaGreatDoor.ValB
end Go.Proofs.YthilcidoacgdfaaGreatDoor.ValB
namespace Go.Proofs.YthilcidoacgdfaaGreatDoor.ValC
end Go.Proofs.YthilcidoacgdfaaGreatDoor.ValC
namespace Go.Proofs.YthilcidoacgdfaaGreatDoor.ValD
end Go.Proofs.YthilcidoacgdfaaGreatDoor.ValD
namespace Go.Proofs.YthilcidoacgdfaaGreatDoorW.PrintLast
end Go.Proofs.YthilcidoacgdfaaGreatDoorW.PrintLast
namespace Go.Proofs.YthilcidoacgdfaaGreatDoorW.PrintMore
end Go.Proofs.YthilcidoacgdfaaGreatDoorW.PrintMore
namespace Go.Proofs.YthilcidoacgdfaaGreatDoorW.PrintWords
end Go.Proofs.YthilcidoacgdfaaGreatDoorW.PrintWords
namespace Go.Proofs.YthilcidoacgdfaaGreatDoor.CmpI
open Go.RowKit Go.Shelf Go.Proofs.YthilcidoacgdfaaGreatDoor.DecG Go.Proofs.YthilcidoacgdfaaGreatDoorW.PrintWords Go.Proofs.YthilcidoacgdfaaGreatDoorW.PrintLast Go.Proofs.YthilcidoacgdfaaGreatDoorW.PrintMore Go.Proofs.YthilcidoacgdfaaGreatDoor.CharB Go.Proofs.YthilcidoacgdfaaGreatDoor.CharF Go.Proofs.YthilcidoacgdfaaGreatDoor.SpanA Go.Proofs.YthilcidoacgdfaaGreatDoor.DecA Go.Proofs.YthilcidoacgdfaaGreatDoor.DecE Go.Proofs.YthilcidoacgdfaaGreatDoor.FigA Go.Proofs.YthilcidoacgdfaaGreatDoor.FigD Go.Proofs.YthilcidoacgdfaaGreatDoor.FigG Go.Proofs.YthilcidoacgdfaaGreatDoor.FigH Go.Proofs.YthilcidoacgdfaaGreatDoor.FigI Go.Proofs.YthilcidoacgdfaaGreatDoor.ValA Go.Proofs.YthilcidoacgdfaaGreatDoor.ValB Go.Proofs.YthilcidoacgdfaaGreatDoor.ValC Go.Proofs.YthilcidoacgdfaaGreatDoor.ValD Go.Proofs.YthilcidoacgdfaaGreatDoor.CmpA Go.Proofs.YthilcidoacgdfaaGreatDoor.CmpB Go.Proofs.YthilcidoacgdfaaGreatDoor.CmpG Go.Proofs.YthilcidoacgdfaaGreatDoor.CmpH
set_option linter.unusedVariables false
set_option linter.unusedSimpArgs false
set_option maxHeartbeats 4000000 in
set_option maxRecDepth 100000 in
theorem not_big (op T1 : Int) (A1 : Option Addr) (n1 k1 : Nat) (b1 : Bool) (t1 v1 : Int) (s1 : ByteArray) (T2 : Int) (A2 : Option Addr) (n2 k2 : Nat) (b2 : Bool) (t2 v2 : Int) (s2 : ByteArray) (w : World) (hT : Tabs w) (hsm : (decide ((s1.size : Int) ≤ 300) && decide ((s2.size : Int) ≤ 300) && decide ((n1 : Int) ≤ 40) && decide ((n2 : Int) ≤ 40)) = false) : Calls Tryz.prog 5 #[.agg #[.int .i64 op, .int .i64 T1, .slice A1 n1 k1, .bool b1, .int .i64 t1, .int .i64 v1, .string s1, .int .i64 T2, .slice A2 n2 k2, .bool b2, .int .i64 t2, .int .i64 v2, .string s2]] w fun e w' => e = .returned (.bool true) ∧ Below w.heap.size w w' := by
  have c1 := fun W => small_call op T1 A1 n1 k1 b1 t1 v1 s1 T2 A2 n2 k2 b2 t2 v2 s2 W
  rw [hsm] at c1
  have c5 : ∀ W, Below w.heap.size w W → _ := fun W hb => works17 W (tabs_below hT hb)
  have X0 := Aside0.mk (tbox_new op T1 A1 n1 k1 b1 t1 v1 s1 T2 A2 n2 k2 b2 t2 v2 s2 w)
  have B0 := Aside0.mk ((Below.refl w.heap.size w).alloc (Nat.le_refl _) (Obj.cells #[.int .i64 op, .int .i64 T1, .slice A1 n1 k1, .bool b1, .int .i64 t1, .int .i64 v1, .string s1, .int .i64 T2, .slice A2 n2 k2, .bool b2, .int .i64 t2, .int .i64 v2, .string s2] 45))
  have HC5 := Aside0.mk c5
  clear c5 hT hsm
  go_enter Tryz.func5, Tryz.ntmps5
  go_wp2_with fail
  refine (c1 _).mono ?_
  rintro e w1 ⟨rfl, b⟩
  have X1 := Aside0.mk (X0.out.below b)
  have B1 := Aside0.mk (chain B0.out (Nat.le_refl _) b)
  clear b X0
  have x0 := X1.out.cell 0 (.int .i64 op) rfl
  have x1 := X1.out.cell 1 (.int .i64 T1) rfl
  have x2 := X1.out.cell 2 (.slice A1 n1 k1) rfl
  have x3 := X1.out.cell 3 (.bool b1) rfl
  have x4 := X1.out.cell 4 (.int .i64 t1) rfl
  have x5 := X1.out.cell 5 (.int .i64 v1) rfl
  have x6 := X1.out.cell 6 (.string s1) rfl
  have x7 := X1.out.cell 7 (.int .i64 T2) rfl
  have x8 := X1.out.cell 8 (.slice A2 n2 k2) rfl
  have x9 := X1.out.cell 9 (.bool b2) rfl
  have x10 := X1.out.cell 10 (.int .i64 t2) rfl
  have x11 := X1.out.cell 11 (.int .i64 v2) rfl
  have x12 := X1.out.cell 12 (.string s2) rfl
  go_wp2_with fail
  refine (HC5.out _ B1.out).mono ?_
  rintro e w9 ⟨rfl, b⟩
  have BZ := Aside0.mk (chain B1.out (Nat.le_refl _) b)
  clear b
  go_wp2_with fail
  go_ret
  exact ⟨by first | rfl | (simp; done), BZ.out⟩
set_option maxHeartbeats 4000000 in
set_option maxRecDepth 100000 in
theorem not_a1 (op T1 : Int) (A1 : Option Addr) (n1 k1 : Nat) (b1 : Bool) (t1 v1 : Int) (s1 : ByteArray) (T2 : Int) (A2 : Option Addr) (n2 k2 : Nat) (b2 : Bool) (t2 v2 : Int) (s2 : ByteArray) (w : World) (hT : Tabs w) (hsm : (decide ((s1.size : Int) ≤ 300) && decide ((s2.size : Int) ≤ 300) && decide ((n1 : Int) ≤ 40) && decide ((n2 : Int) ≤ 40)) = true) (h : T1 < 2) : Calls Tryz.prog 5 #[.agg #[.int .i64 op, .int .i64 T1, .slice A1 n1 k1, .bool b1, .int .i64 t1, .int .i64 v1, .string s1, .int .i64 T2, .slice A2 n2 k2, .bool b2, .int .i64 t2, .int .i64 v2, .string s2]] w fun e w' => e = .returned (.bool true) ∧ Below w.heap.size w w' := by
  have d1 : decide (T1 < 2) = true := by simpa using h
  clear h
  have c1 := fun W => small_call op T1 A1 n1 k1 b1 t1 v1 s1 T2 A2 n2 k2 b2 t2 v2 s2 W
  rw [hsm] at c1
  have c5 : ∀ W, Below w.heap.size w W → _ := fun W hb => works17 W (tabs_below hT hb)
  have X0 := Aside0.mk (tbox_new op T1 A1 n1 k1 b1 t1 v1 s1 T2 A2 n2 k2 b2 t2 v2 s2 w)
  have B0 := Aside0.mk ((Below.refl w.heap.size w).alloc (Nat.le_refl _) (Obj.cells #[.int .i64 op, .int .i64 T1, .slice A1 n1 k1, .bool b1, .int .i64 t1, .int .i64 v1, .string s1, .int .i64 T2, .slice A2 n2 k2, .bool b2, .int .i64 t2, .int .i64 v2, .string s2] 45))
  have HC5 := Aside0.mk c5
  clear c5 hT hsm
  go_enter Tryz.func5, Tryz.ntmps5
  go_wp2_with fail
  refine (c1 _).mono ?_
  rintro e w1 ⟨rfl, b⟩
  have X1 := Aside0.mk (X0.out.below b)
  have B1 := Aside0.mk (chain B0.out (Nat.le_refl _) b)
  clear b X0
  have x0 := X1.out.cell 0 (.int .i64 op) rfl
  have x1 := X1.out.cell 1 (.int .i64 T1) rfl
  have x2 := X1.out.cell 2 (.slice A1 n1 k1) rfl
  have x3 := X1.out.cell 3 (.bool b1) rfl
  have x4 := X1.out.cell 4 (.int .i64 t1) rfl
  have x5 := X1.out.cell 5 (.int .i64 v1) rfl
  have x6 := X1.out.cell 6 (.string s1) rfl
  have x7 := X1.out.cell 7 (.int .i64 T2) rfl
  have x8 := X1.out.cell 8 (.slice A2 n2 k2) rfl
  have x9 := X1.out.cell 9 (.bool b2) rfl
  have x10 := X1.out.cell 10 (.int .i64 t2) rfl
  have x11 := X1.out.cell 11 (.int .i64 v2) rfl
  have x12 := X1.out.cell 12 (.string s2) rfl
  go_wp2_with fail
  refine (HC5.out _ B1.out).mono ?_
  rintro e w9 ⟨rfl, b⟩
  have BZ := Aside0.mk (chain B1.out (Nat.le_refl _) b)
  clear b
  go_wp2_with fail
  go_ret
  exact ⟨by first | rfl | (simp; done), BZ.out⟩
set_option maxHeartbeats 4000000 in
set_option maxRecDepth 100000 in
theorem not_a2 (op T1 : Int) (A1 : Option Addr) (n1 k1 : Nat) (b1 : Bool) (t1 v1 : Int) (s1 : ByteArray) (T2 : Int) (A2 : Option Addr) (n2 k2 : Nat) (b2 : Bool) (t2 v2 : Int) (s2 : ByteArray) (w : World) (hT : Tabs w) (hsm : (decide ((s1.size : Int) ≤ 300) && decide ((s2.size : Int) ≤ 300) && decide ((n1 : Int) ≤ 40) && decide ((n2 : Int) ≤ 40)) = true) (g : ¬ T1 < 2) (h : 4 < T1) : Calls Tryz.prog 5 #[.agg #[.int .i64 op, .int .i64 T1, .slice A1 n1 k1, .bool b1, .int .i64 t1, .int .i64 v1, .string s1, .int .i64 T2, .slice A2 n2 k2, .bool b2, .int .i64 t2, .int .i64 v2, .string s2]] w fun e w' => e = .returned (.bool true) ∧ Below w.heap.size w w' := by
  have d1 : decide (T1 < 2) = false := by simpa using g
  have d2 : decide (4 < T1) = true := by simpa using h
  have d2' : decide (T1 > 4) = true := by simpa using h
  clear g h
  have c1 := fun W => small_call op T1 A1 n1 k1 b1 t1 v1 s1 T2 A2 n2 k2 b2 t2 v2 s2 W
  rw [hsm] at c1
  have c5 : ∀ W, Below w.heap.size w W → _ := fun W hb => works17 W (tabs_below hT hb)
  have X0 := Aside0.mk (tbox_new op T1 A1 n1 k1 b1 t1 v1 s1 T2 A2 n2 k2 b2 t2 v2 s2 w)
  have B0 := Aside0.mk ((Below.refl w.heap.size w).alloc (Nat.le_refl _) (Obj.cells #[.int .i64 op, .int .i64 T1, .slice A1 n1 k1, .bool b1, .int .i64 t1, .int .i64 v1, .string s1, .int .i64 T2, .slice A2 n2 k2, .bool b2, .int .i64 t2, .int .i64 v2, .string s2] 45))
  have HC5 := Aside0.mk c5
  clear c5 hT hsm
  go_enter Tryz.func5, Tryz.ntmps5
  go_wp2_with fail
  refine (c1 _).mono ?_
  rintro e w1 ⟨rfl, b⟩
  have X1 := Aside0.mk (X0.out.below b)
  have B1 := Aside0.mk (chain B0.out (Nat.le_refl _) b)
  clear b X0
  have x0 := X1.out.cell 0 (.int .i64 op) rfl
  have x1 := X1.out.cell 1 (.int .i64 T1) rfl
  have x2 := X1.out.cell 2 (.slice A1 n1 k1) rfl
  have x3 := X1.out.cell 3 (.bool b1) rfl
  have x4 := X1.out.cell 4 (.int .i64 t1) rfl
  have x5 := X1.out.cell 5 (.int .i64 v1) rfl
  have x6 := X1.out.cell 6 (.string s1) rfl
  have x7 := X1.out.cell 7 (.int .i64 T2) rfl
  have x8 := X1.out.cell 8 (.slice A2 n2 k2) rfl
  have x9 := X1.out.cell 9 (.bool b2) rfl
  have x10 := X1.out.cell 10 (.int .i64 t2) rfl
  have x11 := X1.out.cell 11 (.int .i64 v2) rfl
  have x12 := X1.out.cell 12 (.string s2) rfl
  go_wp2_with fail
  refine (HC5.out _ B1.out).mono ?_
  rintro e w9 ⟨rfl, b⟩
  have BZ := Aside0.mk (chain B1.out (Nat.le_refl _) b)
  clear b
  go_wp2_with fail
  go_ret
  exact ⟨by first | rfl | (simp; done), BZ.out⟩
set_option maxHeartbeats 4000000 in
set_option maxRecDepth 100000 in
theorem not_b1 (op T1 : Int) (A1 : Option Addr) (n1 k1 : Nat) (b1 : Bool) (t1 v1 : Int) (s1 : ByteArray) (T2 : Int) (A2 : Option Addr) (n2 k2 : Nat) (b2 : Bool) (t2 v2 : Int) (s2 : ByteArray) (w : World) (hT : Tabs w) (hsm : (decide ((s1.size : Int) ≤ 300) && decide ((s2.size : Int) ≤ 300) && decide ((n1 : Int) ≤ 40) && decide ((n2 : Int) ≤ 40)) = true) (g : 2 ≤ T1 ∧ T1 ≤ 4) (h : T2 < 2) : Calls Tryz.prog 5 #[.agg #[.int .i64 op, .int .i64 T1, .slice A1 n1 k1, .bool b1, .int .i64 t1, .int .i64 v1, .string s1, .int .i64 T2, .slice A2 n2 k2, .bool b2, .int .i64 t2, .int .i64 v2, .string s2]] w fun e w' => e = .returned (.bool true) ∧ Below w.heap.size w w' := by
  have d1 : decide (T1 < 2) = false := by simp; omega
  have d2 : decide (4 < T1) = false := by simp; omega
  have d2' : decide (T1 > 4) = false := by simp; omega
  have d3 : decide (T2 < 2) = true := by simpa using h
  clear g h
  have c1 := fun W => small_call op T1 A1 n1 k1 b1 t1 v1 s1 T2 A2 n2 k2 b2 t2 v2 s2 W
  rw [hsm] at c1
  have c5 : ∀ W, Below w.heap.size w W → _ := fun W hb => works17 W (tabs_below hT hb)
  have X0 := Aside0.mk (tbox_new op T1 A1 n1 k1 b1 t1 v1 s1 T2 A2 n2 k2 b2 t2 v2 s2 w)
  have B0 := Aside0.mk ((Below.refl w.heap.size w).alloc (Nat.le_refl _) (Obj.cells #[.int .i64 op, .int .i64 T1, .slice A1 n1 k1, .bool b1, .int .i64 t1, .int .i64 v1, .string s1, .int .i64 T2, .slice A2 n2 k2, .bool b2, .int .i64 t2, .int .i64 v2, .string s2] 45))
  have HC5 := Aside0.mk c5
  clear c5 hT hsm
  go_enter Tryz.func5, Tryz.ntmps5
  go_wp2_with fail
  refine (c1 _).mono ?_
  rintro e w1 ⟨rfl, b⟩
  have X1 := Aside0.mk (X0.out.below b)
  have B1 := Aside0.mk (chain B0.out (Nat.le_refl _) b)
  clear b X0
  have x0 := X1.out.cell 0 (.int .i64 op) rfl
  have x1 := X1.out.cell 1 (.int .i64 T1) rfl
  have x2 := X1.out.cell 2 (.slice A1 n1 k1) rfl
  have x3 := X1.out.cell 3 (.bool b1) rfl
  have x4 := X1.out.cell 4 (.int .i64 t1) rfl
  have x5 := X1.out.cell 5 (.int .i64 v1) rfl
  have x6 := X1.out.cell 6 (.string s1) rfl
  have x7 := X1.out.cell 7 (.int .i64 T2) rfl
  have x8 := X1.out.cell 8 (.slice A2 n2 k2) rfl
  have x9 := X1.out.cell 9 (.bool b2) rfl
  have x10 := X1.out.cell 10 (.int .i64 t2) rfl
  have x11 := X1.out.cell 11 (.int .i64 v2) rfl
  have x12 := X1.out.cell 12 (.string s2) rfl
  go_wp2_with fail
  refine (HC5.out _ B1.out).mono ?_
  rintro e w9 ⟨rfl, b⟩
  have BZ := Aside0.mk (chain B1.out (Nat.le_refl _) b)
  clear b
  go_wp2_with fail
  go_ret
  exact ⟨by first | rfl | (simp; done), BZ.out⟩
set_option maxHeartbeats 4000000 in
set_option maxRecDepth 100000 in
theorem not_b2 (op T1 : Int) (A1 : Option Addr) (n1 k1 : Nat) (b1 : Bool) (t1 v1 : Int) (s1 : ByteArray) (T2 : Int) (A2 : Option Addr) (n2 k2 : Nat) (b2 : Bool) (t2 v2 : Int) (s2 : ByteArray) (w : World) (hT : Tabs w) (hsm : (decide ((s1.size : Int) ≤ 300) && decide ((s2.size : Int) ≤ 300) && decide ((n1 : Int) ≤ 40) && decide ((n2 : Int) ≤ 40)) = true) (g : 2 ≤ T1 ∧ T1 ≤ 4) (g2 : ¬ T2 < 2) (h : 4 < T2) : Calls Tryz.prog 5 #[.agg #[.int .i64 op, .int .i64 T1, .slice A1 n1 k1, .bool b1, .int .i64 t1, .int .i64 v1, .string s1, .int .i64 T2, .slice A2 n2 k2, .bool b2, .int .i64 t2, .int .i64 v2, .string s2]] w fun e w' => e = .returned (.bool true) ∧ Below w.heap.size w w' := by
  have d1 : decide (T1 < 2) = false := by simp; omega
  have d2 : decide (4 < T1) = false := by simp; omega
  have d2' : decide (T1 > 4) = false := by simp; omega
  have d3 : decide (T2 < 2) = false := by simpa using g2
  have d4 : decide (4 < T2) = true := by simpa using h
  have d4' : decide (T2 > 4) = true := by simpa using h
  clear g g2 h
  have c1 := fun W => small_call op T1 A1 n1 k1 b1 t1 v1 s1 T2 A2 n2 k2 b2 t2 v2 s2 W
  rw [hsm] at c1
  have c5 : ∀ W, Below w.heap.size w W → _ := fun W hb => works17 W (tabs_below hT hb)
  have X0 := Aside0.mk (tbox_new op T1 A1 n1 k1 b1 t1 v1 s1 T2 A2 n2 k2 b2 t2 v2 s2 w)
  have B0 := Aside0.mk ((Below.refl w.heap.size w).alloc (Nat.le_refl _) (Obj.cells #[.int .i64 op, .int .i64 T1, .slice A1 n1 k1, .bool b1, .int .i64 t1, .int .i64 v1, .string s1, .int .i64 T2, .slice A2 n2 k2, .bool b2, .int .i64 t2, .int .i64 v2, .string s2] 45))
  have HC5 := Aside0.mk c5
  clear c5 hT hsm
  go_enter Tryz.func5, Tryz.ntmps5
  go_wp2_with fail
  refine (c1 _).mono ?_
  rintro e w1 ⟨rfl, b⟩
  have X1 := Aside0.mk (X0.out.below b)
  have B1 := Aside0.mk (chain B0.out (Nat.le_refl _) b)
  clear b X0
  have x0 := X1.out.cell 0 (.int .i64 op) rfl
  have x1 := X1.out.cell 1 (.int .i64 T1) rfl
  have x2 := X1.out.cell 2 (.slice A1 n1 k1) rfl
  have x3 := X1.out.cell 3 (.bool b1) rfl
  have x4 := X1.out.cell 4 (.int .i64 t1) rfl
  have x5 := X1.out.cell 5 (.int .i64 v1) rfl
  have x6 := X1.out.cell 6 (.string s1) rfl
  have x7 := X1.out.cell 7 (.int .i64 T2) rfl
  have x8 := X1.out.cell 8 (.slice A2 n2 k2) rfl
  have x9 := X1.out.cell 9 (.bool b2) rfl
  have x10 := X1.out.cell 10 (.int .i64 t2) rfl
  have x11 := X1.out.cell 11 (.int .i64 v2) rfl
  have x12 := X1.out.cell 12 (.string s2) rfl
  go_wp2_with fail
  refine (HC5.out _ B1.out).mono ?_
  rintro e w9 ⟨rfl, b⟩
  have BZ := Aside0.mk (chain B1.out (Nat.le_refl _) b)
  clear b
  go_wp2_with fail
  go_ret
  exact ⟨by first | rfl | (simp; done), BZ.out⟩
set_option maxHeartbeats 4000000 in
set_option maxRecDepth 100000 in
theorem not_full_t (op T1 : Int) (A1 : Option Addr) (n1 k1 : Nat) (b1 : Bool) (t1 v1 : Int) (s1 : ByteArray) (T2 : Int) (A2 : Option Addr) (n2 k2 : Nat) (b2 : Bool) (t2 v2 : Int) (s2 : ByteArray) (w : World) (hT : Tabs w) (hsm : (decide ((s1.size : Int) ≤ 300) && decide ((s2.size : Int) ≤ 300) && decide ((n1 : Int) ≤ 40) && decide ((n2 : Int) ≤ 40)) = true) (h1 : 2 ≤ T1 ∧ T1 ≤ 4) (h2 : 2 ≤ T2 ∧ T2 ≤ 4) (hv1 : I64 v1) (hv2 : I64 v2) (hz3 : doB 3 T1 b1 t1 v1 s1 T2 b2 t2 v2 s2 = true) (hz4 : doB 4 T1 b1 t1 v1 s1 T2 b2 t2 v2 s2 = false) : Calls Tryz.prog 5 #[.agg #[.int .i64 op, .int .i64 T1, .slice A1 n1 k1, .bool b1, .int .i64 t1, .int .i64 v1, .string s1, .int .i64 T2, .slice A2 n2 k2, .bool b2, .int .i64 t2, .int .i64 v2, .string s2]] w fun e w' => e = .returned (.bool true) ∧ Below w.heap.size w w' := by
  have d1 : decide (T1 < 2) = false := by simp; omega
  have d2 : decide (4 < T1) = false := by simp; omega
  have d2' : decide (T1 > 4) = false := by simp; omega
  have d3 : decide (T2 < 2) = false := by simp; omega
  have d4 : decide (4 < T2) = false := by simp; omega
  have d4' : decide (T2 > 4) = false := by simp; omega
  have hl1 : s1.size ≤ 300 := by simp at hsm; omega
  have hl2 : s2.size ≤ 300 := by simp at hsm; omega
  have c1 := fun W => small_call op T1 A1 n1 k1 b1 t1 v1 s1 T2 A2 n2 k2 b2 t2 v2 s2 W
  rw [hsm] at c1
  have c5 : ∀ W, Below w.heap.size w W → _ := fun W hb => works17 W (tabs_below hT hb)
  have c3 : ∀ W, Below w.heap.size w W → _ := fun W hb => do_call 3 A1 n1 k1 b1 t1 v1 s1 A2 n2 k2 b2 t2 v2 s2 T1 T2 W (tabs_below hT hb) h1 h2 hv1 hv2 (by omega) (by omega) (by omega)
  have c4 : ∀ W, Below w.heap.size w W → _ := fun W hb => do_call 4 A1 n1 k1 b1 t1 v1 s1 A2 n2 k2 b2 t2 v2 s2 T1 T2 W (tabs_below hT hb) h1 h2 hv1 hv2 (by omega) (by omega) (by omega)
  rw [hz3] at c3
  rw [hz4] at c4
  clear hz3 hz4
  have HC3 := Aside0.mk c3
  have HC4 := Aside0.mk c4
  clear c3 c4 h1 h2 hv1 hv2 hl1 hl2
  have X0 := Aside0.mk (tbox_new op T1 A1 n1 k1 b1 t1 v1 s1 T2 A2 n2 k2 b2 t2 v2 s2 w)
  have B0 := Aside0.mk ((Below.refl w.heap.size w).alloc (Nat.le_refl _) (Obj.cells #[.int .i64 op, .int .i64 T1, .slice A1 n1 k1, .bool b1, .int .i64 t1, .int .i64 v1, .string s1, .int .i64 T2, .slice A2 n2 k2, .bool b2, .int .i64 t2, .int .i64 v2, .string s2] 45))
  have HC5 := Aside0.mk c5
  clear c5 hT hsm
  go_enter Tryz.func5, Tryz.ntmps5
  go_wp2_with fail
  refine (c1 _).mono ?_
  rintro e w1 ⟨rfl, b⟩
  have X1 := Aside0.mk (X0.out.below b)
  have B1 := Aside0.mk (chain B0.out (Nat.le_refl _) b)
  clear b X0
  have x0 := X1.out.cell 0 (.int .i64 op) rfl
  have x1 := X1.out.cell 1 (.int .i64 T1) rfl
  have x2 := X1.out.cell 2 (.slice A1 n1 k1) rfl
  have x3 := X1.out.cell 3 (.bool b1) rfl
  have x4 := X1.out.cell 4 (.int .i64 t1) rfl
  have x5 := X1.out.cell 5 (.int .i64 v1) rfl
  have x6 := X1.out.cell 6 (.string s1) rfl
  have x7 := X1.out.cell 7 (.int .i64 T2) rfl
  have x8 := X1.out.cell 8 (.slice A2 n2 k2) rfl
  have x9 := X1.out.cell 9 (.bool b2) rfl
  have x10 := X1.out.cell 10 (.int .i64 t2) rfl
  have x11 := X1.out.cell 11 (.int .i64 v2) rfl
  have x12 := X1.out.cell 12 (.string s2) rfl
  go_wp2_with fail
  clear x0 x1 x2 x3 x4 x5 x6 x7 x8 x9 x10 x11 x12
  have KS : Aside0 (∀ W W' : World, (W.cell? ⟨w.heap.size, 1, none⟩ = some (.int .i64 T1) ∧ W.cell? ⟨w.heap.size, 2, none⟩ = some (.slice A1 n1 k1) ∧ W.cell? ⟨w.heap.size, 3, none⟩ = some (.bool b1) ∧ W.cell? ⟨w.heap.size, 4, none⟩ = some (.int .i64 t1) ∧ W.cell? ⟨w.heap.size, 5, none⟩ = some (.int .i64 v1) ∧ W.cell? ⟨w.heap.size, 6, none⟩ = some (.string s1) ∧ W.cell? ⟨w.heap.size, 7, none⟩ = some (.int .i64 T2) ∧ W.cell? ⟨w.heap.size, 8, none⟩ = some (.slice A2 n2 k2) ∧ W.cell? ⟨w.heap.size, 9, none⟩ = some (.bool b2) ∧ W.cell? ⟨w.heap.size, 10, none⟩ = some (.int .i64 t2) ∧ W.cell? ⟨w.heap.size, 11, none⟩ = some (.int .i64 v2) ∧ W.cell? ⟨w.heap.size, 12, none⟩ = some (.string s2) ∧ TBox w.heap.size op T1 A1 n1 k1 b1 t1 v1 s1 T2 A2 n2 k2 b2 t2 v2 s2 W ∧ Below w.heap.size w W) → Below W.heap.size W W' → (W'.cell? ⟨w.heap.size, 1, none⟩ = some (.int .i64 T1) ∧ W'.cell? ⟨w.heap.size, 2, none⟩ = some (.slice A1 n1 k1) ∧ W'.cell? ⟨w.heap.size, 3, none⟩ = some (.bool b1) ∧ W'.cell? ⟨w.heap.size, 4, none⟩ = some (.int .i64 t1) ∧ W'.cell? ⟨w.heap.size, 5, none⟩ = some (.int .i64 v1) ∧ W'.cell? ⟨w.heap.size, 6, none⟩ = some (.string s1) ∧ W'.cell? ⟨w.heap.size, 7, none⟩ = some (.int .i64 T2) ∧ W'.cell? ⟨w.heap.size, 8, none⟩ = some (.slice A2 n2 k2) ∧ W'.cell? ⟨w.heap.size, 9, none⟩ = some (.bool b2) ∧ W'.cell? ⟨w.heap.size, 10, none⟩ = some (.int .i64 t2) ∧ W'.cell? ⟨w.heap.size, 11, none⟩ = some (.int .i64 v2) ∧ W'.cell? ⟨w.heap.size, 12, none⟩ = some (.string s2) ∧ TBox w.heap.size op T1 A1 n1 k1 b1 t1 v1 s1 T2 A2 n2 k2 b2 t2 v2 s2 W' ∧ Below w.heap.size w W')) := ⟨fun W W' h hb => by
    obtain ⟨_, _, _, _, _, _, _, _, _, _, _, _, hx, hw⟩ := h
    have hx' := hx.below hb
    exact ⟨hx'.cell 1 _ rfl, hx'.cell 2 _ rfl, hx'.cell 3 _ rfl, hx'.cell 4 _ rfl, hx'.cell 5 _ rfl, hx'.cell 6 _ rfl, hx'.cell 7 _ rfl, hx'.cell 8 _ rfl, hx'.cell 9 _ rfl, hx'.cell 10 _ rfl, hx'.cell 11 _ rfl, hx'.cell 12 _ rfl, hx', chain hw (Nat.le_refl _) hb⟩⟩
  have GS : Aside0 (∀ W : World, (W.cell? ⟨w.heap.size, 1, none⟩ = some (.int .i64 T1) ∧ W.cell? ⟨w.heap.size, 2, none⟩ = some (.slice A1 n1 k1) ∧ W.cell? ⟨w.heap.size, 3, none⟩ = some (.bool b1) ∧ W.cell? ⟨w.heap.size, 4, none⟩ = some (.int .i64 t1) ∧ W.cell? ⟨w.heap.size, 5, none⟩ = some (.int .i64 v1) ∧ W.cell? ⟨w.heap.size, 6, none⟩ = some (.string s1) ∧ W.cell? ⟨w.heap.size, 7, none⟩ = some (.int .i64 T2) ∧ W.cell? ⟨w.heap.size, 8, none⟩ = some (.slice A2 n2 k2) ∧ W.cell? ⟨w.heap.size, 9, none⟩ = some (.bool b2) ∧ W.cell? ⟨w.heap.size, 10, none⟩ = some (.int .i64 t2) ∧ W.cell? ⟨w.heap.size, 11, none⟩ = some (.int .i64 v2) ∧ W.cell? ⟨w.heap.size, 12, none⟩ = some (.string s2) ∧ TBox w.heap.size op T1 A1 n1 k1 b1 t1 v1 s1 T2 A2 n2 k2 b2 t2 v2 s2 W ∧ Below w.heap.size w W) → Below w.heap.size w W) := ⟨fun W h => h.2.2.2.2.2.2.2.2.2.2.2.2.2⟩
  have S0 : Aside0 (w1.drew.cell? ⟨w.heap.size, 1, none⟩ = some (.int .i64 T1) ∧ w1.drew.cell? ⟨w.heap.size, 2, none⟩ = some (.slice A1 n1 k1) ∧ w1.drew.cell? ⟨w.heap.size, 3, none⟩ = some (.bool b1) ∧ w1.drew.cell? ⟨w.heap.size, 4, none⟩ = some (.int .i64 t1) ∧ w1.drew.cell? ⟨w.heap.size, 5, none⟩ = some (.int .i64 v1) ∧ w1.drew.cell? ⟨w.heap.size, 6, none⟩ = some (.string s1) ∧ w1.drew.cell? ⟨w.heap.size, 7, none⟩ = some (.int .i64 T2) ∧ w1.drew.cell? ⟨w.heap.size, 8, none⟩ = some (.slice A2 n2 k2) ∧ w1.drew.cell? ⟨w.heap.size, 9, none⟩ = some (.bool b2) ∧ w1.drew.cell? ⟨w.heap.size, 10, none⟩ = some (.int .i64 t2) ∧ w1.drew.cell? ⟨w.heap.size, 11, none⟩ = some (.int .i64 v2) ∧ w1.drew.cell? ⟨w.heap.size, 12, none⟩ = some (.string s2) ∧ TBox w.heap.size op T1 A1 n1 k1 b1 t1 v1 s1 T2 A2 n2 k2 b2 t2 v2 s2 w1.drew ∧ Below w.heap.size w w1.drew) := ⟨⟨X1.out.cell 1 _ rfl, X1.out.cell 2 _ rfl, X1.out.cell 3 _ rfl, X1.out.cell 4 _ rfl, X1.out.cell 5 _ rfl, X1.out.cell 6 _ rfl, X1.out.cell 7 _ rfl, X1.out.cell 8 _ rfl, X1.out.cell 9 _ rfl, X1.out.cell 10 _ rfl, X1.out.cell 11 _ rfl, X1.out.cell 12 _ rfl, X1.out, Below.drew B1.out⟩⟩
  clear X1 B1
  first | (go_region_held3 (fun w' => w'.cell? ⟨w.heap.size, 1, none⟩ = some (.int .i64 T1) ∧ w'.cell? ⟨w.heap.size, 2, none⟩ = some (.slice A1 n1 k1) ∧ w'.cell? ⟨w.heap.size, 3, none⟩ = some (.bool b1) ∧ w'.cell? ⟨w.heap.size, 4, none⟩ = some (.int .i64 t1) ∧ w'.cell? ⟨w.heap.size, 5, none⟩ = some (.int .i64 v1) ∧ w'.cell? ⟨w.heap.size, 6, none⟩ = some (.string s1) ∧ w'.cell? ⟨w.heap.size, 7, none⟩ = some (.int .i64 T2) ∧ w'.cell? ⟨w.heap.size, 8, none⟩ = some (.slice A2 n2 k2) ∧ w'.cell? ⟨w.heap.size, 9, none⟩ = some (.bool b2) ∧ w'.cell? ⟨w.heap.size, 10, none⟩ = some (.int .i64 t2) ∧ w'.cell? ⟨w.heap.size, 11, none⟩ = some (.int .i64 v2) ∧ w'.cell? ⟨w.heap.size, 12, none⟩ = some (.string s2) ∧ TBox w.heap.size op T1 A1 n1 k1 b1 t1 v1 s1 T2 A2 n2 k2 b2 t2 v2 s2 w' ∧ Below w.heap.size w w') (first | with_reducible assumption | exact S0.out | exact KS.out _ _ (by with_reducible assumption) (by with_reducible assumption))
    (first | (go_at_call_of 21 (Value.int IntKind.i64 3); refine (HC3.out _ (GS.out _ (by with_reducible assumption))).mono ?_; rintro e w' ⟨rfl, hb⟩) | (go_at_call_of 21 (Value.int IntKind.i64 4); refine (HC4.out _ (GS.out _ (by with_reducible assumption))).mono ?_; rintro e w' ⟨rfl, hb⟩) | (go_at_call 20; refine (HC5.out _ (GS.out _ (by with_reducible assumption))).mono ?_; rintro e w' ⟨rfl, hb⟩))) | fail
  go_wp2_with fail
  have BZ := Aside0.mk (show Below w.heap.size w _ from by first | exact GS.out _ (by with_reducible assumption) | exact GS.out _ (KS.out _ _ (by with_reducible assumption) (by with_reducible assumption)))
  go_ret
  exact ⟨by first | rfl | (simp; done), BZ.out⟩
set_option maxHeartbeats 4000000 in
set_option maxRecDepth 100000 in
theorem not_full_f (op T1 : Int) (A1 : Option Addr) (n1 k1 : Nat) (b1 : Bool) (t1 v1 : Int) (s1 : ByteArray) (T2 : Int) (A2 : Option Addr) (n2 k2 : Nat) (b2 : Bool) (t2 v2 : Int) (s2 : ByteArray) (w : World) (hT : Tabs w) (hsm : (decide ((s1.size : Int) ≤ 300) && decide ((s2.size : Int) ≤ 300) && decide ((n1 : Int) ≤ 40) && decide ((n2 : Int) ≤ 40)) = true) (h1 : 2 ≤ T1 ∧ T1 ≤ 4) (h2 : 2 ≤ T2 ∧ T2 ≤ 4) (hv1 : I64 v1) (hv2 : I64 v2) (hz3 : doB 3 T1 b1 t1 v1 s1 T2 b2 t2 v2 s2 = false) (hz4 : doB 4 T1 b1 t1 v1 s1 T2 b2 t2 v2 s2 = true) : Calls Tryz.prog 5 #[.agg #[.int .i64 op, .int .i64 T1, .slice A1 n1 k1, .bool b1, .int .i64 t1, .int .i64 v1, .string s1, .int .i64 T2, .slice A2 n2 k2, .bool b2, .int .i64 t2, .int .i64 v2, .string s2]] w fun e w' => e = .returned (.bool true) ∧ Below w.heap.size w w' := by
  have d1 : decide (T1 < 2) = false := by simp; omega
  have d2 : decide (4 < T1) = false := by simp; omega
  have d2' : decide (T1 > 4) = false := by simp; omega
  have d3 : decide (T2 < 2) = false := by simp; omega
  have d4 : decide (4 < T2) = false := by simp; omega
  have d4' : decide (T2 > 4) = false := by simp; omega
  have hl1 : s1.size ≤ 300 := by simp at hsm; omega
  have hl2 : s2.size ≤ 300 := by simp at hsm; omega
  have c1 := fun W => small_call op T1 A1 n1 k1 b1 t1 v1 s1 T2 A2 n2 k2 b2 t2 v2 s2 W
  rw [hsm] at c1
  have c5 : ∀ W, Below w.heap.size w W → _ := fun W hb => works17 W (tabs_below hT hb)
  have c3 : ∀ W, Below w.heap.size w W → _ := fun W hb => do_call 3 A1 n1 k1 b1 t1 v1 s1 A2 n2 k2 b2 t2 v2 s2 T1 T2 W (tabs_below hT hb) h1 h2 hv1 hv2 (by omega) (by omega) (by omega)
  have c4 : ∀ W, Below w.heap.size w W → _ := fun W hb => do_call 4 A1 n1 k1 b1 t1 v1 s1 A2 n2 k2 b2 t2 v2 s2 T1 T2 W (tabs_below hT hb) h1 h2 hv1 hv2 (by omega) (by omega) (by omega)
  rw [hz3] at c3
  rw [hz4] at c4
  clear hz3 hz4
  have HC3 := Aside0.mk c3
  have HC4 := Aside0.mk c4
  clear c3 c4 h1 h2 hv1 hv2 hl1 hl2
  have X0 := Aside0.mk (tbox_new op T1 A1 n1 k1 b1 t1 v1 s1 T2 A2 n2 k2 b2 t2 v2 s2 w)
  have B0 := Aside0.mk ((Below.refl w.heap.size w).alloc (Nat.le_refl _) (Obj.cells #[.int .i64 op, .int .i64 T1, .slice A1 n1 k1, .bool b1, .int .i64 t1, .int .i64 v1, .string s1, .int .i64 T2, .slice A2 n2 k2, .bool b2, .int .i64 t2, .int .i64 v2, .string s2] 45))
  have HC5 := Aside0.mk c5
  clear c5 hT hsm
  go_enter Tryz.func5, Tryz.ntmps5
  go_wp2_with fail
  refine (c1 _).mono ?_
  rintro e w1 ⟨rfl, b⟩
  have X1 := Aside0.mk (X0.out.below b)
  have B1 := Aside0.mk (chain B0.out (Nat.le_refl _) b)
  clear b X0
  have x0 := X1.out.cell 0 (.int .i64 op) rfl
  have x1 := X1.out.cell 1 (.int .i64 T1) rfl
  have x2 := X1.out.cell 2 (.slice A1 n1 k1) rfl
  have x3 := X1.out.cell 3 (.bool b1) rfl
  have x4 := X1.out.cell 4 (.int .i64 t1) rfl
  have x5 := X1.out.cell 5 (.int .i64 v1) rfl
  have x6 := X1.out.cell 6 (.string s1) rfl
  have x7 := X1.out.cell 7 (.int .i64 T2) rfl
  have x8 := X1.out.cell 8 (.slice A2 n2 k2) rfl
  have x9 := X1.out.cell 9 (.bool b2) rfl
  have x10 := X1.out.cell 10 (.int .i64 t2) rfl
  have x11 := X1.out.cell 11 (.int .i64 v2) rfl
  have x12 := X1.out.cell 12 (.string s2) rfl
  go_wp2_with fail
  clear x0 x1 x2 x3 x4 x5 x6 x7 x8 x9 x10 x11 x12
  have KS : Aside0 (∀ W W' : World, (W.cell? ⟨w.heap.size, 1, none⟩ = some (.int .i64 T1) ∧ W.cell? ⟨w.heap.size, 2, none⟩ = some (.slice A1 n1 k1) ∧ W.cell? ⟨w.heap.size, 3, none⟩ = some (.bool b1) ∧ W.cell? ⟨w.heap.size, 4, none⟩ = some (.int .i64 t1) ∧ W.cell? ⟨w.heap.size, 5, none⟩ = some (.int .i64 v1) ∧ W.cell? ⟨w.heap.size, 6, none⟩ = some (.string s1) ∧ W.cell? ⟨w.heap.size, 7, none⟩ = some (.int .i64 T2) ∧ W.cell? ⟨w.heap.size, 8, none⟩ = some (.slice A2 n2 k2) ∧ W.cell? ⟨w.heap.size, 9, none⟩ = some (.bool b2) ∧ W.cell? ⟨w.heap.size, 10, none⟩ = some (.int .i64 t2) ∧ W.cell? ⟨w.heap.size, 11, none⟩ = some (.int .i64 v2) ∧ W.cell? ⟨w.heap.size, 12, none⟩ = some (.string s2) ∧ TBox w.heap.size op T1 A1 n1 k1 b1 t1 v1 s1 T2 A2 n2 k2 b2 t2 v2 s2 W ∧ Below w.heap.size w W) → Below W.heap.size W W' → (W'.cell? ⟨w.heap.size, 1, none⟩ = some (.int .i64 T1) ∧ W'.cell? ⟨w.heap.size, 2, none⟩ = some (.slice A1 n1 k1) ∧ W'.cell? ⟨w.heap.size, 3, none⟩ = some (.bool b1) ∧ W'.cell? ⟨w.heap.size, 4, none⟩ = some (.int .i64 t1) ∧ W'.cell? ⟨w.heap.size, 5, none⟩ = some (.int .i64 v1) ∧ W'.cell? ⟨w.heap.size, 6, none⟩ = some (.string s1) ∧ W'.cell? ⟨w.heap.size, 7, none⟩ = some (.int .i64 T2) ∧ W'.cell? ⟨w.heap.size, 8, none⟩ = some (.slice A2 n2 k2) ∧ W'.cell? ⟨w.heap.size, 9, none⟩ = some (.bool b2) ∧ W'.cell? ⟨w.heap.size, 10, none⟩ = some (.int .i64 t2) ∧ W'.cell? ⟨w.heap.size, 11, none⟩ = some (.int .i64 v2) ∧ W'.cell? ⟨w.heap.size, 12, none⟩ = some (.string s2) ∧ TBox w.heap.size op T1 A1 n1 k1 b1 t1 v1 s1 T2 A2 n2 k2 b2 t2 v2 s2 W' ∧ Below w.heap.size w W')) := ⟨fun W W' h hb => by
    obtain ⟨_, _, _, _, _, _, _, _, _, _, _, _, hx, hw⟩ := h
    have hx' := hx.below hb
    exact ⟨hx'.cell 1 _ rfl, hx'.cell 2 _ rfl, hx'.cell 3 _ rfl, hx'.cell 4 _ rfl, hx'.cell 5 _ rfl, hx'.cell 6 _ rfl, hx'.cell 7 _ rfl, hx'.cell 8 _ rfl, hx'.cell 9 _ rfl, hx'.cell 10 _ rfl, hx'.cell 11 _ rfl, hx'.cell 12 _ rfl, hx', chain hw (Nat.le_refl _) hb⟩⟩
  have GS : Aside0 (∀ W : World, (W.cell? ⟨w.heap.size, 1, none⟩ = some (.int .i64 T1) ∧ W.cell? ⟨w.heap.size, 2, none⟩ = some (.slice A1 n1 k1) ∧ W.cell? ⟨w.heap.size, 3, none⟩ = some (.bool b1) ∧ W.cell? ⟨w.heap.size, 4, none⟩ = some (.int .i64 t1) ∧ W.cell? ⟨w.heap.size, 5, none⟩ = some (.int .i64 v1) ∧ W.cell? ⟨w.heap.size, 6, none⟩ = some (.string s1) ∧ W.cell? ⟨w.heap.size, 7, none⟩ = some (.int .i64 T2) ∧ W.cell? ⟨w.heap.size, 8, none⟩ = some (.slice A2 n2 k2) ∧ W.cell? ⟨w.heap.size, 9, none⟩ = some (.bool b2) ∧ W.cell? ⟨w.heap.size, 10, none⟩ = some (.int .i64 t2) ∧ W.cell? ⟨w.heap.size, 11, none⟩ = some (.int .i64 v2) ∧ W.cell? ⟨w.heap.size, 12, none⟩ = some (.string s2) ∧ TBox w.heap.size op T1 A1 n1 k1 b1 t1 v1 s1 T2 A2 n2 k2 b2 t2 v2 s2 W ∧ Below w.heap.size w W) → Below w.heap.size w W) := ⟨fun W h => h.2.2.2.2.2.2.2.2.2.2.2.2.2⟩
  have S0 : Aside0 (w1.drew.cell? ⟨w.heap.size, 1, none⟩ = some (.int .i64 T1) ∧ w1.drew.cell? ⟨w.heap.size, 2, none⟩ = some (.slice A1 n1 k1) ∧ w1.drew.cell? ⟨w.heap.size, 3, none⟩ = some (.bool b1) ∧ w1.drew.cell? ⟨w.heap.size, 4, none⟩ = some (.int .i64 t1) ∧ w1.drew.cell? ⟨w.heap.size, 5, none⟩ = some (.int .i64 v1) ∧ w1.drew.cell? ⟨w.heap.size, 6, none⟩ = some (.string s1) ∧ w1.drew.cell? ⟨w.heap.size, 7, none⟩ = some (.int .i64 T2) ∧ w1.drew.cell? ⟨w.heap.size, 8, none⟩ = some (.slice A2 n2 k2) ∧ w1.drew.cell? ⟨w.heap.size, 9, none⟩ = some (.bool b2) ∧ w1.drew.cell? ⟨w.heap.size, 10, none⟩ = some (.int .i64 t2) ∧ w1.drew.cell? ⟨w.heap.size, 11, none⟩ = some (.int .i64 v2) ∧ w1.drew.cell? ⟨w.heap.size, 12, none⟩ = some (.string s2) ∧ TBox w.heap.size op T1 A1 n1 k1 b1 t1 v1 s1 T2 A2 n2 k2 b2 t2 v2 s2 w1.drew ∧ Below w.heap.size w w1.drew) := ⟨⟨X1.out.cell 1 _ rfl, X1.out.cell 2 _ rfl, X1.out.cell 3 _ rfl, X1.out.cell 4 _ rfl, X1.out.cell 5 _ rfl, X1.out.cell 6 _ rfl, X1.out.cell 7 _ rfl, X1.out.cell 8 _ rfl, X1.out.cell 9 _ rfl, X1.out.cell 10 _ rfl, X1.out.cell 11 _ rfl, X1.out.cell 12 _ rfl, X1.out, Below.drew B1.out⟩⟩
  clear X1 B1
  first | (go_region_held3 (fun w' => w'.cell? ⟨w.heap.size, 1, none⟩ = some (.int .i64 T1) ∧ w'.cell? ⟨w.heap.size, 2, none⟩ = some (.slice A1 n1 k1) ∧ w'.cell? ⟨w.heap.size, 3, none⟩ = some (.bool b1) ∧ w'.cell? ⟨w.heap.size, 4, none⟩ = some (.int .i64 t1) ∧ w'.cell? ⟨w.heap.size, 5, none⟩ = some (.int .i64 v1) ∧ w'.cell? ⟨w.heap.size, 6, none⟩ = some (.string s1) ∧ w'.cell? ⟨w.heap.size, 7, none⟩ = some (.int .i64 T2) ∧ w'.cell? ⟨w.heap.size, 8, none⟩ = some (.slice A2 n2 k2) ∧ w'.cell? ⟨w.heap.size, 9, none⟩ = some (.bool b2) ∧ w'.cell? ⟨w.heap.size, 10, none⟩ = some (.int .i64 t2) ∧ w'.cell? ⟨w.heap.size, 11, none⟩ = some (.int .i64 v2) ∧ w'.cell? ⟨w.heap.size, 12, none⟩ = some (.string s2) ∧ TBox w.heap.size op T1 A1 n1 k1 b1 t1 v1 s1 T2 A2 n2 k2 b2 t2 v2 s2 w' ∧ Below w.heap.size w w') (first | with_reducible assumption | exact S0.out | exact KS.out _ _ (by with_reducible assumption) (by with_reducible assumption))
    (first | (go_at_call_of 21 (Value.int IntKind.i64 3); refine (HC3.out _ (GS.out _ (by with_reducible assumption))).mono ?_; rintro e w' ⟨rfl, hb⟩) | (go_at_call_of 21 (Value.int IntKind.i64 4); refine (HC4.out _ (GS.out _ (by with_reducible assumption))).mono ?_; rintro e w' ⟨rfl, hb⟩) | (go_at_call 20; refine (HC5.out _ (GS.out _ (by with_reducible assumption))).mono ?_; rintro e w' ⟨rfl, hb⟩))) | fail
  go_wp2_with fail
  have BZ := Aside0.mk (show Below w.heap.size w _ from by first | exact GS.out _ (by with_reducible assumption) | exact GS.out _ (KS.out _ _ (by with_reducible assumption) (by with_reducible assumption)))
  go_ret
  exact ⟨by first | rfl | (simp; done), BZ.out⟩
theorem not_calls (op T1 : Int) (A1 : Option Addr) (n1 k1 : Nat) (b1 : Bool) (t1 v1 : Int) (s1 : ByteArray) (T2 : Int) (A2 : Option Addr) (n2 k2 : Nat) (b2 : Bool) (t2 v2 : Int) (s2 : ByteArray) (w : World) (hT : Tabs w) (hv1 : I64 v1) (hv2 : I64 v2) : Calls Tryz.prog 5 #[.agg #[.int .i64 op, .int .i64 T1, .slice A1 n1 k1, .bool b1, .int .i64 t1, .int .i64 v1, .string s1, .int .i64 T2, .slice A2 n2 k2, .bool b2, .int .i64 t2, .int .i64 v2, .string s2]] w fun e w' => e = .returned (.bool true) ∧ Below w.heap.size w w' := by
  cases hsm : (decide ((s1.size : Int) ≤ 300) && decide ((s2.size : Int) ≤ 300) && decide ((n1 : Int) ≤ 40) && decide ((n2 : Int) ≤ 40)) with
  | false => exact not_big op T1 A1 n1 k1 b1 t1 v1 s1 T2 A2 n2 k2 b2 t2 v2 s2 w hT hsm
  | true =>
    by_cases g1 : T1 < 2
    · exact not_a1 op T1 A1 n1 k1 b1 t1 v1 s1 T2 A2 n2 k2 b2 t2 v2 s2 w hT hsm g1
    by_cases g2 : 4 < T1
    · exact not_a2 op T1 A1 n1 k1 b1 t1 v1 s1 T2 A2 n2 k2 b2 t2 v2 s2 w hT hsm g1 g2
    by_cases g3 : T2 < 2
    · exact not_b1 op T1 A1 n1 k1 b1 t1 v1 s1 T2 A2 n2 k2 b2 t2 v2 s2 w hT hsm (by omega) g3
    by_cases g4 : 4 < T2
    · exact not_b2 op T1 A1 n1 k1 b1 t1 v1 s1 T2 A2 n2 k2 b2 t2 v2 s2 w hT hsm (by omega) g3 g4
    have hn := not_law T1 b1 t1 v1 s1 T2 b2 t2 v2 s2
    cases hz3 : doB 3 T1 b1 t1 v1 s1 T2 b2 t2 v2 s2 with
    | true =>
      cases hz4 : doB 4 T1 b1 t1 v1 s1 T2 b2 t2 v2 s2 with
      | true => rw [hz3, hz4] at hn; cases hn
      | false => exact not_full_t op T1 A1 n1 k1 b1 t1 v1 s1 T2 A2 n2 k2 b2 t2 v2 s2 w hT hsm (by omega) (by omega) hv1 hv2 hz3 hz4
    | false =>
      cases hz4 : doB 4 T1 b1 t1 v1 s1 T2 b2 t2 v2 s2 with
      | true => exact not_full_f op T1 A1 n1 k1 b1 t1 v1 s1 T2 A2 n2 k2 b2 t2 v2 s2 w hT hsm (by omega) (by omega) hv1 hv2 hz3 hz4
      | false => rw [hz3, hz4] at hn; cases hn
end Go.Proofs.YthilcidoacgdfaaGreatDoor.CmpI
