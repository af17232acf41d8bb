/- The law CompareSelf: its walk. -/
import Derived.Test.YthilcidoacgdfaaGreatDoorZcCmpH
namespace Go.Proofs.YthilcidoacgdfaaGreatDoor.CharB
end Go.Proofs.YthilcidoacgdfaaGreatDoor.CharB
namespace Go.Proofs.YthilcidoacgdfaaGreatDoor.CharF
end Go.Proofs.YthilcidoacgdfaaGreatDoor.CharF
namespace Go.Proofs.YthilcidoacgdfaaGreatDoor.CmpA
end Go.Proofs.YthilcidoacgdfaaGreatDoor.CmpA
namespace Go.Proofs.YthilcidoacgdfaaGreatDoor.CmpB
end Go.Proofs.YthilcidoacgdfaaGreatDoor.CmpB
namespace Go.Proofs.YthilcidoacgdfaaGreatDoor.CmpG
end Go.Proofs.YthilcidoacgdfaaGreatDoor.CmpG
namespace Go.Proofs.YthilcidoacgdfaaGreatDoor.CmpH
end Go.Proofs.YthilcidoacgdfaaGreatDoor.CmpH
namespace Go.Proofs.YthilcidoacgdfaaGreatDoor.DecA
end Go.Proofs.YthilcidoacgdfaaGreatDoor.DecA
namespace Go.Proofs.YthilcidoacgdfaaGreatDoor.DecE
end Go.Proofs.YthilcidoacgdfaaGreatDoor.DecE
namespace Go.Proofs.YthilcidoacgdfaaGreatDoor.DecG
end Go.Proofs.YthilcidoacgdfaaGreatDoor.DecG
namespace Go.Proofs.YthilcidoacgdfaaGreatDoor.FigA
end Go.Proofs.YthilcidoacgdfaaGreatDoor.FigA
namespace Go.Proofs.YthilcidoacgdfaaGreatDoor.FigD
end Go.Proofs.YthilcidoacgdfaaGreatDoor.FigD
namespace Go.Proofs.YthilcidoacgdfaaGreatDoor.FigG
end Go.Proofs.YthilcidoacgdfaaGreatDoor.FigG
namespace Go.Proofs.YthilcidoacgdfaaGreatDoor.FigH
end Go.Proofs.YthilcidoacgdfaaGreatDoor.FigH
namespace Go.Proofs.YthilcidoacgdfaaGreatDoor.FigI
end Go.Proofs.YthilcidoacgdfaaGreatDoor.FigI
namespace Go.Proofs.YthilcidoacgdfaaGreatDoor.SpanA
end Go.Proofs.YthilcidoacgdfaaGreatDoor.SpanA
namespace Go.Proofs.YthilcidoacgdfaaGreatDoor.ValA
end Go.Proofs.YthilcidoacgdfaaGreatDoor.ValA
namespace Go.Proofs.YthilcidoacgdfaaGreatDoor.ValB
end Go.Proofs.YthilcidoacgdfaaGreatDoor.ValB
namespace Go.Proofs.YthilcidoacgdfaaGreatDoor.ValC
end Go.Proofs.YthilcidoacgdfaaGreatDoor.ValC
namespace Go.Proofs.YthilcidoacgdfaaGreatDoor.ValD
end Go.Proofs.YthilcidoacgdfaaGreatDoor.ValD
namespace Go.Proofs.YthilcidoacgdfaaGreatDoorW.PrintLast
end Go.Proofs.YthilcidoacgdfaaGreatDoorW.PrintLast
namespace Go.Proofs.YthilcidoacgdfaaGreatDoorW.PrintMore
end Go.Proofs.YthilcidoacgdfaaGreatDoorW.PrintMore
namespace Go.Proofs.YthilcidoacgdfaaGreatDoorW.PrintWords
end Go.Proofs.YthilcidoacgdfaaGreatDoorW.PrintWords
namespace Go.Proofs.YthilcidoacgdfaaGreatDoor.CmpJ
open Go.RowKit Go.Shelf Go.Proofs.YthilcidoacgdfaaGreatDoor.DecG Go.Proofs.YthilcidoacgdfaaGreatDoorW.PrintWords Go.Proofs.YthilcidoacgdfaaGreatDoorW.PrintLast Go.Proofs.YthilcidoacgdfaaGreatDoorW.PrintMore Go.Proofs.YthilcidoacgdfaaGreatDoor.CharB Go.Proofs.YthilcidoacgdfaaGreatDoor.CharF Go.Proofs.YthilcidoacgdfaaGreatDoor.SpanA Go.Proofs.YthilcidoacgdfaaGreatDoor.DecA Go.Proofs.YthilcidoacgdfaaGreatDoor.DecE Go.Proofs.YthilcidoacgdfaaGreatDoor.FigA Go.Proofs.YthilcidoacgdfaaGreatDoor.FigD Go.Proofs.YthilcidoacgdfaaGreatDoor.FigG Go.Proofs.YthilcidoacgdfaaGreatDoor.FigH Go.Proofs.YthilcidoacgdfaaGreatDoor.FigI Go.Proofs.YthilcidoacgdfaaGreatDoor.ValA Go.Proofs.YthilcidoacgdfaaGreatDoor.ValB Go.Proofs.YthilcidoacgdfaaGreatDoor.ValC Go.Proofs.YthilcidoacgdfaaGreatDoor.ValD Go.Proofs.YthilcidoacgdfaaGreatDoor.CmpA Go.Proofs.YthilcidoacgdfaaGreatDoor.CmpB Go.Proofs.YthilcidoacgdfaaGreatDoor.CmpG Go.Proofs.YthilcidoacgdfaaGreatDoor.CmpH
set_option linter.unusedVariables false
set_option linter.unusedSimpArgs false
set_option maxHeartbeats 4000000 in
set_option maxRecDepth 100000 in
theorem self_big (T : Int) (A : Option Addr) (n k : Nat) (b : Bool) (t v : Int) (s : ByteArray) (w : World) (hT : Tabs w) (h : 300 < s.size) : Calls Tryz.prog 6 #[.agg #[.int .i64 T, .slice A n k, .bool b, .int .i64 t, .int .i64 v, .string s]] w fun e w' => e = .returned (.bool true) ∧ Below w.heap.size w w' := by
  have c5 : ∀ W, Below w.heap.size w W → _ := fun W hb => works17 W (tabs_below hT hb)
  have d1 : decide ((300 : Int) < (s.size : Int)) = true := by simp; omega
  have d1' : decide ((s.size : Int) > 300) = true := by simp; omega
  clear h
  have X0 := Aside0.mk (wbox_new T A n k b t v s w)
  have B0 := Aside0.mk ((Below.refl w.heap.size w).alloc (Nat.le_refl _) (Obj.cells #[.int .i64 T, .slice A n k, .bool b, .int .i64 t, .int .i64 v, .string s] 35))
  have HC5 := Aside0.mk c5
  clear c5 hT
  go_enter Tryz.func6, Tryz.ntmps6
  go_wp2_with fail
  refine (HC5.out _ B0.out).mono ?_
  rintro e w9 ⟨rfl, b⟩
  have BZ := Aside0.mk (chain B0.out (Nat.le_refl _) b)
  clear b
  go_wp2_with fail
  go_ret
  exact ⟨by first | rfl | (simp; done), BZ.out⟩
set_option maxHeartbeats 4000000 in
set_option maxRecDepth 100000 in
theorem self_low (T : Int) (A : Option Addr) (n k : Nat) (b : Bool) (t v : Int) (s : ByteArray) (w : World) (hT : Tabs w) (hs : s.size ≤ 300) (h : T < 2) : Calls Tryz.prog 6 #[.agg #[.int .i64 T, .slice A n k, .bool b, .int .i64 t, .int .i64 v, .string s]] w fun e w' => e = .returned (.bool true) ∧ Below w.heap.size w w' := by
  have c5 : ∀ W, Below w.heap.size w W → _ := fun W hb => works17 W (tabs_below hT hb)
  have d1 : decide ((300 : Int) < (s.size : Int)) = false := by simp; omega
  have d1' : decide ((s.size : Int) > 300) = false := by simp; omega
  have d2 : decide (T < 2) = true := by simpa using h
  clear h hs
  have X0 := Aside0.mk (wbox_new T A n k b t v s w)
  have B0 := Aside0.mk ((Below.refl w.heap.size w).alloc (Nat.le_refl _) (Obj.cells #[.int .i64 T, .slice A n k, .bool b, .int .i64 t, .int .i64 v, .string s] 35))
  have HC5 := Aside0.mk c5
  clear c5 hT
  go_enter Tryz.func6, Tryz.ntmps6
  go_wp2_with fail
  refine (HC5.out _ B0.out).mono ?_
  rintro e w9 ⟨rfl, b⟩
  have BZ := Aside0.mk (chain B0.out (Nat.le_refl _) b)
  clear b
  go_wp2_with fail
  go_ret
  exact ⟨by first | rfl | (simp; done), BZ.out⟩
set_option maxHeartbeats 4000000 in
set_option maxRecDepth 100000 in
theorem self_high (T : Int) (A : Option Addr) (n k : Nat) (b : Bool) (t v : Int) (s : ByteArray) (w : World) (hT : Tabs w) (hs : s.size ≤ 300) (g : ¬ T < 2) (h : 4 < T) : Calls Tryz.prog 6 #[.agg #[.int .i64 T, .slice A n k, .bool b, .int .i64 t, .int .i64 v, .string s]] w fun e w' => e = .returned (.bool true) ∧ Below w.heap.size w w' := by
  have c5 : ∀ W, Below w.heap.size w W → _ := fun W hb => works17 W (tabs_below hT hb)
  have d1 : decide ((300 : Int) < (s.size : Int)) = false := by simp; omega
  have d1' : decide ((s.size : Int) > 300) = false := by simp; omega
  have d2 : decide (T < 2) = false := by simpa using g
  have d3 : decide (4 < T) = true := by simpa using h
  have d3' : decide (T > 4) = true := by simpa using h
  clear g h hs
  have X0 := Aside0.mk (wbox_new T A n k b t v s w)
  have B0 := Aside0.mk ((Below.refl w.heap.size w).alloc (Nat.le_refl _) (Obj.cells #[.int .i64 T, .slice A n k, .bool b, .int .i64 t, .int .i64 v, .string s] 35))
  have HC5 := Aside0.mk c5
  clear c5 hT
  go_enter Tryz.func6, Tryz.ntmps6
  go_wp2_with fail
  refine (HC5.out _ B0.out).mono ?_
  rintro e w9 ⟨rfl, b⟩
  have BZ := Aside0.mk (chain B0.out (Nat.le_refl _) b)
  clear b
  go_wp2_with fail
  go_ret
  exact ⟨by first | rfl | (simp; done), BZ.out⟩
set_option maxHeartbeats 4000000 in
set_option maxRecDepth 100000 in
theorem self_other (T : Int) (A : Option Addr) (n k : Nat) (b : Bool) (t v : Int) (s : ByteArray) (w : World) (hT : Tabs w) (hs : s.size ≤ 300) (h1 : 2 ≤ T ∧ T ≤ 4) (hv : I64 v) (h3 : T ≠ 3) : Calls Tryz.prog 6 #[.agg #[.int .i64 T, .slice A n k, .bool b, .int .i64 t, .int .i64 v, .string s]] w fun e w' => e = .returned (.bool true) ∧ Below w.heap.size w w' := by
  have c5 : ∀ W, Below w.heap.size w W → _ := fun W hb => works17 W (tabs_below hT hb)
  have c13 : ∀ W, Below w.heap.size w W → _ := fun W hb => do_call 3 A n k b t v s A n k b t v s T T W (tabs_below hT hb) h1 h1 hv hv (by omega) (by omega) (by omega)
  have c15 : ∀ W, Below w.heap.size w W → _ := fun W hb => do_call 5 A n k b t v s A n k b t v s T T W (tabs_below hT hb) h1 h1 hv hv (by omega) (by omega) (by omega)
  have c17 : ∀ W, Below w.heap.size w W → _ := fun W hb => do_call 7 A n k b t v s A n k b t v s T T W (tabs_below hT hb) h1 h1 hv hv (by omega) (by omega) (by omega)
  rw [self_eq T h1] at c13
  rw [self_lt 5 (.inl rfl)] at c15
  rw [self_lt 7 (.inr rfl)] at c17
  rw [show (T != 3 || (rightB (t, v) && t != 1)) = true by rw [show (T != 3) = true by simpa using h3]; rfl] at c13
  have d1 : decide ((300 : Int) < (s.size : Int)) = false := by simp; omega
  have d1' : decide ((s.size : Int) > 300) = false := by simp; omega
  have d2 : decide (T < 2) = false := by simp; omega
  have d3 : decide (4 < T) = false := by simp; omega
  have d3' : decide (T > 4) = false := by simp; omega
  have d4 : (T != 3) = true := by simpa using h3
  clear h3
  have HC13 := Aside0.mk c13
  have HC15 := Aside0.mk c15
  have HC17 := Aside0.mk c17
  clear c13 c15 c17 h1 hv hs
  have X0 := Aside0.mk (wbox_new T A n k b t v s w)
  have B0 := Aside0.mk ((Below.refl w.heap.size w).alloc (Nat.le_refl _) (Obj.cells #[.int .i64 T, .slice A n k, .bool b, .int .i64 t, .int .i64 v, .string s] 35))
  have HC5 := Aside0.mk c5
  clear c5 hT
  go_enter Tryz.func6, Tryz.ntmps6
  go_wp2_with fail
  refine (HC13.out _ B0.out).mono ?_
  rintro e w1 ⟨rfl, b⟩
  have X1 := Aside0.mk (X0.out.below b)
  have B1 := Aside0.mk (chain B0.out (Nat.le_refl _) b)
  clear b X0
  have x0 := X1.out.cell 0 (.int .i64 T) rfl
  have x1 := X1.out.cell 1 (.slice A n k) rfl
  have x2 := X1.out.cell 2 (.bool b) rfl
  have x3 := X1.out.cell 3 (.int .i64 t) rfl
  have x4 := X1.out.cell 4 (.int .i64 v) rfl
  have x5 := X1.out.cell 5 (.string s) rfl
  go_wp2_with fail
  refine (HC15.out _ B1.out).mono ?_
  rintro e w2 ⟨rfl, b⟩
  have X2 := Aside0.mk (X1.out.below b)
  have B2 := Aside0.mk (chain B1.out (Nat.le_refl _) b)
  clear x0 x1 x2 x3 x4 x5
  clear b X1
  have x0 := X2.out.cell 0 (.int .i64 T) rfl
  have x1 := X2.out.cell 1 (.slice A n k) rfl
  have x2 := X2.out.cell 2 (.bool b) rfl
  have x3 := X2.out.cell 3 (.int .i64 t) rfl
  have x4 := X2.out.cell 4 (.int .i64 v) rfl
  have x5 := X2.out.cell 5 (.string s) rfl
  go_wp2_with fail
  refine (HC17.out _ B2.out).mono ?_
  rintro e w3 ⟨rfl, b⟩
  have X3 := Aside0.mk (X2.out.below b)
  have B3 := Aside0.mk (chain B2.out (Nat.le_refl _) b)
  clear x0 x1 x2 x3 x4 x5
  clear b X2
  have x0 := X3.out.cell 0 (.int .i64 T) rfl
  have x1 := X3.out.cell 1 (.slice A n k) rfl
  have x2 := X3.out.cell 2 (.bool b) rfl
  have x3 := X3.out.cell 3 (.int .i64 t) rfl
  have x4 := X3.out.cell 4 (.int .i64 v) rfl
  have x5 := X3.out.cell 5 (.string s) rfl
  go_wp2_with fail
  refine (HC5.out _ B3.out).mono ?_
  rintro e w4 ⟨rfl, b⟩
  have X4 := Aside0.mk (X3.out.below b)
  have B4 := Aside0.mk (chain B3.out (Nat.le_refl _) b)
  clear x0 x1 x2 x3 x4 x5
  clear b X3
  have x0 := X4.out.cell 0 (.int .i64 T) rfl
  have x1 := X4.out.cell 1 (.slice A n k) rfl
  have x2 := X4.out.cell 2 (.bool b) rfl
  have x3 := X4.out.cell 3 (.int .i64 t) rfl
  have x4 := X4.out.cell 4 (.int .i64 v) rfl
  have x5 := X4.out.cell 5 (.string s) rfl
  go_wp2_with fail
  go_ret
  exact ⟨by first | rfl | (simp; done), B4.out⟩
set_option maxHeartbeats 4000000 in
set_option maxRecDepth 100000 in
theorem self_bad (T : Int) (A : Option Addr) (n k : Nat) (b : Bool) (t v : Int) (s : ByteArray) (w : World) (hT : Tabs w) (hs : s.size ≤ 300) (h1 : 2 ≤ T ∧ T ≤ 4) (hv : I64 v) (h3 : T = 3) (hr : rightB (t, v) = false) : Calls Tryz.prog 6 #[.agg #[.int .i64 T, .slice A n k, .bool b, .int .i64 t, .int .i64 v, .string s]] w fun e w' => e = .returned (.bool true) ∧ Below w.heap.size w w' := by
  have c5 : ∀ W, Below w.heap.size w W → _ := fun W hb => works17 W (tabs_below hT hb)
  have c13 : ∀ W, Below w.heap.size w W → _ := fun W hb => do_call 3 A n k b t v s A n k b t v s T T W (tabs_below hT hb) h1 h1 hv hv (by omega) (by omega) (by omega)
  have c15 : ∀ W, Below w.heap.size w W → _ := fun W hb => do_call 5 A n k b t v s A n k b t v s T T W (tabs_below hT hb) h1 h1 hv hv (by omega) (by omega) (by omega)
  have c17 : ∀ W, Below w.heap.size w W → _ := fun W hb => do_call 7 A n k b t v s A n k b t v s T T W (tabs_below hT hb) h1 h1 hv hv (by omega) (by omega) (by omega)
  rw [self_eq T h1] at c13
  rw [self_lt 5 (.inl rfl)] at c15
  rw [self_lt 7 (.inr rfl)] at c17
  subst h3
  rw [show ((3 : Int) != 3 || (rightB (t, v) && t != 1)) = false from by rw [hr]; rfl] at c13
  have cr := fun W => right_call t v W
  rw [hr] at cr
  have d1 : decide ((300 : Int) < (s.size : Int)) = false := by simp; omega
  have d1' : decide ((s.size : Int) > 300) = false := by simp; omega
  clear hr
  have HC13 := Aside0.mk c13
  have HC15 := Aside0.mk c15
  have HC17 := Aside0.mk c17
  clear c13 c15 c17 h1 hv hs
  have X0 := Aside0.mk (wbox_new 3 A n k b t v s w)
  have B0 := Aside0.mk ((Below.refl w.heap.size w).alloc (Nat.le_refl _) (Obj.cells #[.int .i64 3, .slice A n k, .bool b, .int .i64 t, .int .i64 v, .string s] 35))
  have HC5 := Aside0.mk c5
  clear c5 hT
  go_enter Tryz.func6, Tryz.ntmps6
  go_wp2_with fail
  refine (cr _).mono ?_
  rintro e w1 ⟨rfl, b⟩
  have X1 := Aside0.mk (X0.out.below b)
  have B1 := Aside0.mk (chain B0.out (Nat.le_refl _) b)
  clear b X0
  have x0 := X1.out.cell 0 (.int .i64 3) rfl
  have x1 := X1.out.cell 1 (.slice A n k) rfl
  have x2 := X1.out.cell 2 (.bool b) rfl
  have x3 := X1.out.cell 3 (.int .i64 t) rfl
  have x4 := X1.out.cell 4 (.int .i64 v) rfl
  have x5 := X1.out.cell 5 (.string s) rfl
  go_wp2_with fail
  refine (HC13.out _ B1.out).mono ?_
  rintro e w2 ⟨rfl, b⟩
  have X2 := Aside0.mk (X1.out.below b)
  have B2 := Aside0.mk (chain B1.out (Nat.le_refl _) b)
  clear x0 x1 x2 x3 x4 x5
  clear b X1
  have x0 := X2.out.cell 0 (.int .i64 3) rfl
  have x1 := X2.out.cell 1 (.slice A n k) rfl
  have x2 := X2.out.cell 2 (.bool b) rfl
  have x3 := X2.out.cell 3 (.int .i64 t) rfl
  have x4 := X2.out.cell 4 (.int .i64 v) rfl
  have x5 := X2.out.cell 5 (.string s) rfl
  go_wp2_with fail
  refine (HC15.out _ B2.out).mono ?_
  rintro e w3 ⟨rfl, b⟩
  have X3 := Aside0.mk (X2.out.below b)
  have B3 := Aside0.mk (chain B2.out (Nat.le_refl _) b)
  clear x0 x1 x2 x3 x4 x5
  clear b X2
  have x0 := X3.out.cell 0 (.int .i64 3) rfl
  have x1 := X3.out.cell 1 (.slice A n k) rfl
  have x2 := X3.out.cell 2 (.bool b) rfl
  have x3 := X3.out.cell 3 (.int .i64 t) rfl
  have x4 := X3.out.cell 4 (.int .i64 v) rfl
  have x5 := X3.out.cell 5 (.string s) rfl
  go_wp2_with fail
  refine (HC17.out _ B3.out).mono ?_
  rintro e w4 ⟨rfl, b⟩
  have X4 := Aside0.mk (X3.out.below b)
  have B4 := Aside0.mk (chain B3.out (Nat.le_refl _) b)
  clear x0 x1 x2 x3 x4 x5
  clear b X3
  have x0 := X4.out.cell 0 (.int .i64 3) rfl
  have x1 := X4.out.cell 1 (.slice A n k) rfl
  have x2 := X4.out.cell 2 (.bool b) rfl
  have x3 := X4.out.cell 3 (.int .i64 t) rfl
  have x4 := X4.out.cell 4 (.int .i64 v) rfl
  have x5 := X4.out.cell 5 (.string s) rfl
  go_wp2_with fail
  refine (HC5.out _ B4.out).mono ?_
  rintro e w5 ⟨rfl, b⟩
  have X5 := Aside0.mk (X4.out.below b)
  have B5 := Aside0.mk (chain B4.out (Nat.le_refl _) b)
  clear x0 x1 x2 x3 x4 x5
  clear b X4
  have x0 := X5.out.cell 0 (.int .i64 3) rfl
  have x1 := X5.out.cell 1 (.slice A n k) rfl
  have x2 := X5.out.cell 2 (.bool b) rfl
  have x3 := X5.out.cell 3 (.int .i64 t) rfl
  have x4 := X5.out.cell 4 (.int .i64 v) rfl
  have x5 := X5.out.cell 5 (.string s) rfl
  go_wp2_with fail
  go_ret
  exact ⟨by first | rfl | (simp; done), B5.out⟩
set_option maxHeartbeats 4000000 in
set_option maxRecDepth 100000 in
theorem self_nan (T : Int) (A : Option Addr) (n k : Nat) (b : Bool) (t v : Int) (s : ByteArray) (w : World) (hT : Tabs w) (hs : s.size ≤ 300) (h1 : 2 ≤ T ∧ T ≤ 4) (hv : I64 v) (h3 : T = 3) (hr : rightB (t, v) = true) (ht : t = 1) : Calls Tryz.prog 6 #[.agg #[.int .i64 T, .slice A n k, .bool b, .int .i64 t, .int .i64 v, .string s]] w fun e w' => e = .returned (.bool true) ∧ Below w.heap.size w w' := by
  have c5 : ∀ W, Below w.heap.size w W → _ := fun W hb => works17 W (tabs_below hT hb)
  have c13 : ∀ W, Below w.heap.size w W → _ := fun W hb => do_call 3 A n k b t v s A n k b t v s T T W (tabs_below hT hb) h1 h1 hv hv (by omega) (by omega) (by omega)
  have c15 : ∀ W, Below w.heap.size w W → _ := fun W hb => do_call 5 A n k b t v s A n k b t v s T T W (tabs_below hT hb) h1 h1 hv hv (by omega) (by omega) (by omega)
  have c17 : ∀ W, Below w.heap.size w W → _ := fun W hb => do_call 7 A n k b t v s A n k b t v s T T W (tabs_below hT hb) h1 h1 hv hv (by omega) (by omega) (by omega)
  rw [self_eq T h1] at c13
  rw [self_lt 5 (.inl rfl)] at c15
  rw [self_lt 7 (.inr rfl)] at c17
  subst h3
  rw [show ((3 : Int) != 3 || (rightB (t, v) && t != 1)) = false from by subst ht; rw [hr]; rfl] at c13
  have cr := fun W => right_call t v W
  rw [hr] at cr
  have d1 : decide ((300 : Int) < (s.size : Int)) = false := by simp; omega
  have d1' : decide ((s.size : Int) > 300) = false := by simp; omega
  clear hr
  subst ht
  have HC13 := Aside0.mk c13
  have HC15 := Aside0.mk c15
  have HC17 := Aside0.mk c17
  clear c13 c15 c17 h1 hv hs
  have X0 := Aside0.mk (wbox_new 3 A n k b 1 v s w)
  have B0 := Aside0.mk ((Below.refl w.heap.size w).alloc (Nat.le_refl _) (Obj.cells #[.int .i64 3, .slice A n k, .bool b, .int .i64 1, .int .i64 v, .string s] 35))
  have HC5 := Aside0.mk c5
  clear c5 hT
  go_enter Tryz.func6, Tryz.ntmps6
  go_wp2_with fail
  refine (cr _).mono ?_
  rintro e w1 ⟨rfl, b⟩
  have X1 := Aside0.mk (X0.out.below b)
  have B1 := Aside0.mk (chain B0.out (Nat.le_refl _) b)
  clear b X0
  have x0 := X1.out.cell 0 (.int .i64 3) rfl
  have x1 := X1.out.cell 1 (.slice A n k) rfl
  have x2 := X1.out.cell 2 (.bool b) rfl
  have x3 := X1.out.cell 3 (.int .i64 1) rfl
  have x4 := X1.out.cell 4 (.int .i64 v) rfl
  have x5 := X1.out.cell 5 (.string s) rfl
  go_wp2_with fail
  refine (HC13.out _ B1.out).mono ?_
  rintro e w2 ⟨rfl, b⟩
  have X2 := Aside0.mk (X1.out.below b)
  have B2 := Aside0.mk (chain B1.out (Nat.le_refl _) b)
  clear x0 x1 x2 x3 x4 x5
  clear b X1
  have x0 := X2.out.cell 0 (.int .i64 3) rfl
  have x1 := X2.out.cell 1 (.slice A n k) rfl
  have x2 := X2.out.cell 2 (.bool b) rfl
  have x3 := X2.out.cell 3 (.int .i64 1) rfl
  have x4 := X2.out.cell 4 (.int .i64 v) rfl
  have x5 := X2.out.cell 5 (.string s) rfl
  go_wp2_with fail
  refine (HC15.out _ B2.out).mono ?_
  rintro e w3 ⟨rfl, b⟩
  have X3 := Aside0.mk (X2.out.below b)
  have B3 := Aside0.mk (chain B2.out (Nat.le_refl _) b)
  clear x0 x1 x2 x3 x4 x5
  clear b X2
  have x0 := X3.out.cell 0 (.int .i64 3) rfl
  have x1 := X3.out.cell 1 (.slice A n k) rfl
  have x2 := X3.out.cell 2 (.bool b) rfl
  have x3 := X3.out.cell 3 (.int .i64 1) rfl
  have x4 := X3.out.cell 4 (.int .i64 v) rfl
  have x5 := X3.out.cell 5 (.string s) rfl
  go_wp2_with fail
  refine (HC17.out _ B3.out).mono ?_
  rintro e w4 ⟨rfl, b⟩
  have X4 := Aside0.mk (X3.out.below b)
  have B4 := Aside0.mk (chain B3.out (Nat.le_refl _) b)
  clear x0 x1 x2 x3 x4 x5
  clear b X3
  have x0 := X4.out.cell 0 (.int .i64 3) rfl
  have x1 := X4.out.cell 1 (.slice A n k) rfl
  have x2 := X4.out.cell 2 (.bool b) rfl
  have x3 := X4.out.cell 3 (.int .i64 1) rfl
  have x4 := X4.out.cell 4 (.int .i64 v) rfl
  have x5 := X4.out.cell 5 (.string s) rfl
  go_wp2_with fail
  refine (HC5.out _ B4.out).mono ?_
  rintro e w5 ⟨rfl, b⟩
  have X5 := Aside0.mk (X4.out.below b)
  have B5 := Aside0.mk (chain B4.out (Nat.le_refl _) b)
  clear x0 x1 x2 x3 x4 x5
  clear b X4
  have x0 := X5.out.cell 0 (.int .i64 3) rfl
  have x1 := X5.out.cell 1 (.slice A n k) rfl
  have x2 := X5.out.cell 2 (.bool b) rfl
  have x3 := X5.out.cell 3 (.int .i64 1) rfl
  have x4 := X5.out.cell 4 (.int .i64 v) rfl
  have x5 := X5.out.cell 5 (.string s) rfl
  go_wp2_with fail
  go_ret
  exact ⟨by first | rfl | (simp; done), B5.out⟩
set_option maxHeartbeats 4000000 in
set_option maxRecDepth 100000 in
theorem self_good (T : Int) (A : Option Addr) (n k : Nat) (b : Bool) (t v : Int) (s : ByteArray) (w : World) (hT : Tabs w) (hs : s.size ≤ 300) (h1 : 2 ≤ T ∧ T ≤ 4) (hv : I64 v) (h3 : T = 3) (hr : rightB (t, v) = true) (ht : t ≠ 1) : Calls Tryz.prog 6 #[.agg #[.int .i64 T, .slice A n k, .bool b, .int .i64 t, .int .i64 v, .string s]] w fun e w' => e = .returned (.bool true) ∧ Below w.heap.size w w' := by
  have c5 : ∀ W, Below w.heap.size w W → _ := fun W hb => works17 W (tabs_below hT hb)
  have c13 : ∀ W, Below w.heap.size w W → _ := fun W hb => do_call 3 A n k b t v s A n k b t v s T T W (tabs_below hT hb) h1 h1 hv hv (by omega) (by omega) (by omega)
  have c15 : ∀ W, Below w.heap.size w W → _ := fun W hb => do_call 5 A n k b t v s A n k b t v s T T W (tabs_below hT hb) h1 h1 hv hv (by omega) (by omega) (by omega)
  have c17 : ∀ W, Below w.heap.size w W → _ := fun W hb => do_call 7 A n k b t v s A n k b t v s T T W (tabs_below hT hb) h1 h1 hv hv (by omega) (by omega) (by omega)
  rw [self_eq T h1] at c13
  rw [self_lt 5 (.inl rfl)] at c15
  rw [self_lt 7 (.inr rfl)] at c17
  subst h3
  rw [show ((3 : Int) != 3 || (rightB (t, v) && t != 1)) = true from by rw [hr, show (t != 1) = true by simpa using ht]; rfl] at c13
  have cr := fun W => right_call t v W
  rw [hr] at cr
  have d1 : decide ((300 : Int) < (s.size : Int)) = false := by simp; omega
  have d1' : decide ((s.size : Int) > 300) = false := by simp; omega
  have d5 : (t != 1) = true := by simpa using ht
  clear hr ht
  have HC13 := Aside0.mk c13
  have HC15 := Aside0.mk c15
  have HC17 := Aside0.mk c17
  clear c13 c15 c17 h1 hv hs
  have X0 := Aside0.mk (wbox_new 3 A n k b t v s w)
  have B0 := Aside0.mk ((Below.refl w.heap.size w).alloc (Nat.le_refl _) (Obj.cells #[.int .i64 3, .slice A n k, .bool b, .int .i64 t, .int .i64 v, .string s] 35))
  have HC5 := Aside0.mk c5
  clear c5 hT
  go_enter Tryz.func6, Tryz.ntmps6
  go_wp2_with fail
  refine (cr _).mono ?_
  rintro e w1 ⟨rfl, b⟩
  have X1 := Aside0.mk (X0.out.below b)
  have B1 := Aside0.mk (chain B0.out (Nat.le_refl _) b)
  clear b X0
  have x0 := X1.out.cell 0 (.int .i64 3) rfl
  have x1 := X1.out.cell 1 (.slice A n k) rfl
  have x2 := X1.out.cell 2 (.bool b) rfl
  have x3 := X1.out.cell 3 (.int .i64 t) rfl
  have x4 := X1.out.cell 4 (.int .i64 v) rfl
  have x5 := X1.out.cell 5 (.string s) rfl
  go_wp2_with fail
  refine (HC13.out _ B1.out).mono ?_
  rintro e w2 ⟨rfl, b⟩
  have X2 := Aside0.mk (X1.out.below b)
  have B2 := Aside0.mk (chain B1.out (Nat.le_refl _) b)
  clear x0 x1 x2 x3 x4 x5
  clear b X1
  have x0 := X2.out.cell 0 (.int .i64 3) rfl
  have x1 := X2.out.cell 1 (.slice A n k) rfl
  have x2 := X2.out.cell 2 (.bool b) rfl
  have x3 := X2.out.cell 3 (.int .i64 t) rfl
  have x4 := X2.out.cell 4 (.int .i64 v) rfl
  have x5 := X2.out.cell 5 (.string s) rfl
  go_wp2_with fail
  refine (HC15.out _ B2.out).mono ?_
  rintro e w3 ⟨rfl, b⟩
  have X3 := Aside0.mk (X2.out.below b)
  have B3 := Aside0.mk (chain B2.out (Nat.le_refl _) b)
  clear x0 x1 x2 x3 x4 x5
  clear b X2
  have x0 := X3.out.cell 0 (.int .i64 3) rfl
  have x1 := X3.out.cell 1 (.slice A n k) rfl
  have x2 := X3.out.cell 2 (.bool b) rfl
  have x3 := X3.out.cell 3 (.int .i64 t) rfl
  have x4 := X3.out.cell 4 (.int .i64 v) rfl
  have x5 := X3.out.cell 5 (.string s) rfl
  go_wp2_with fail
  refine (HC17.out _ B3.out).mono ?_
  rintro e w4 ⟨rfl, b⟩
  have X4 := Aside0.mk (X3.out.below b)
  have B4 := Aside0.mk (chain B3.out (Nat.le_refl _) b)
  clear x0 x1 x2 x3 x4 x5
  clear b X3
  have x0 := X4.out.cell 0 (.int .i64 3) rfl
  have x1 := X4.out.cell 1 (.slice A n k) rfl
  have x2 := X4.out.cell 2 (.bool b) rfl
  have x3 := X4.out.cell 3 (.int .i64 t) rfl
  have x4 := X4.out.cell 4 (.int .i64 v) rfl
  have x5 := X4.out.cell 5 (.string s) rfl
  go_wp2_with fail
  refine (HC5.out _ B4.out).mono ?_
  rintro e w5 ⟨rfl, b⟩
  have X5 := Aside0.mk (X4.out.below b)
  have B5 := Aside0.mk (chain B4.out (Nat.le_refl _) b)
  clear x0 x1 x2 x3 x4 x5
  clear b X4
  have x0 := X5.out.cell 0 (.int .i64 3) rfl
  have x1 := X5.out.cell 1 (.slice A n k) rfl
  have x2 := X5.out.cell 2 (.bool b) rfl
  have x3 := X5.out.cell 3 (.int .i64 t) rfl
  have x4 := X5.out.cell 4 (.int .i64 v) rfl
  have x5 := X5.out.cell 5 (.string s) rfl
  go_wp2_with fail
  go_ret
  exact ⟨by first | rfl | (simp; done), B5.out⟩
theorem self_calls (T : Int) (A : Option Addr) (n k : Nat) (b : Bool) (t v : Int) (s : ByteArray) (w : World) (hT : Tabs w) (hv : I64 v) : Calls Tryz.prog 6 #[.agg #[.int .i64 T, .slice A n k, .bool b, .int .i64 t, .int .i64 v, .string s]] w fun e w' => e = .returned (.bool true) ∧ Below w.heap.size w w' := by
  by_cases g0 : 300 < s.size
  · exact self_big T A n k b t v s w hT g0
  by_cases g1 : T < 2
  · exact self_low T A n k b t v s w hT (by omega) g1
  by_cases g2 : 4 < T
  · exact self_high T A n k b t v s w hT (by omega) g1 g2
  by_cases h3 : T = 3
  · cases hr : rightB (t, v) with
    | false => exact self_bad T A n k b t v s w hT (by omega) (by omega) hv h3 hr
    | true =>
      by_cases ht : t = 1
      · exact self_nan T A n k b t v s w hT (by omega) (by omega) hv h3 hr ht
      · exact self_good T A n k b t v s w hT (by omega) (by omega) hv h3 hr ht
  · exact self_other T A n k b t v s w hT (by omega) (by omega) hv h3
end Go.Proofs.YthilcidoacgdfaaGreatDoor.CmpJ
