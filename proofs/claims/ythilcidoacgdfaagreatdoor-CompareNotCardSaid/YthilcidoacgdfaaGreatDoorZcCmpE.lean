/- compare.Do, of values that are no nodes: more ways. -/
import Derived.Test.YthilcidoacgdfaaGreatDoorZcCmpB
namespace Go.Proofs.YthilcidoacgdfaaGreatDoor.CharB
end Go.Proofs.YthilcidoacgdfaaGreatDoor.CharB
namespace Go.Proofs.YthilcidoacgdfaaGreatDoor.CharF
end Go.Proofs.YthilcidoacgdfaaGreatDoor.CharF
namespace Go.Proofs.YthilcidoacgdfaaGreatDoor.CmpA
end Go.Proofs.YthilcidoacgdfaaGreatDoor.CmpA
namespace Go.Proofs.YthilcidoacgdfaaGreatDoor.CmpB
end Go.Proofs.YthilcidoacgdfaaGreatDoor.CmpB
namespace Go.Proofs.YthilcidoacgdfaaGreatDoor.DecA
end Go.Proofs.YthilcidoacgdfaaGreatDoor.DecA
namespace Go.Proofs.YthilcidoacgdfaaGreatDoor.DecE
end Go.Proofs.YthilcidoacgdfaaGreatDoor.DecE
namespace Go.Proofs.YthilcidoacgdfaaGreatDoor.DecG
end Go.Proofs.YthilcidoacgdfaaGreatDoor.DecG
namespace Go.Proofs.YthilcidoacgdfaaGreatDoor.FigA
end Go.Proofs.YthilcidoacgdfaaGreatDoor.FigA
namespace Go.Proofs.YthilcidoacgdfaaGreatDoor.FigD
end Go.Proofs.YthilcidoacgdfaaGreatDoor.FigD
namespace Go.Proofs.YthilcidoacgdfaaGreatDoor.FigG
end Go.Proofs.YthilcidoacgdfaaGreatDoor.FigG
namespace Go.Proofs.YthilcidoacgdfaaGreatDoor.FigH
end Go.Proofs.YthilcidoacgdfaaGreatDoor.FigH
namespace Go.Proofs.YthilcidoacgdfaaGreatDoor.FigI
end Go.Proofs.YthilcidoacgdfaaGreatDoor.FigI
namespace Go.Proofs.YthilcidoacgdfaaGreatDoor.SpanA
end Go.Proofs.YthilcidoacgdfaaGreatDoor.SpanA
namespace Go.Proofs.YthilcidoacgdfaaGreatDoor.ValA
end Go.Proofs.YthilcidoacgdfaaGreatDoor.ValA
namespace Go.Proofs.YthilcidoacgdfaaGreatDoor.ValB
end Go.Proofs.YthilcidoacgdfaaGreatDoor.ValB
namespace Go.Proofs.YthilcidoacgdfaaGreatDoor.ValC
end Go.Proofs.YthilcidoacgdfaaGreatDoor.ValC
namespace Go.Proofs.YthilcidoacgdfaaGreatDoor.ValD
end Go.Proofs.YthilcidoacgdfaaGreatDoor.ValD
namespace Go.Proofs.YthilcidoacgdfaaGreatDoorW.PrintLast
end Go.Proofs.YthilcidoacgdfaaGreatDoorW.PrintLast
namespace Go.Proofs.YthilcidoacgdfaaGreatDoorW.PrintMore
end Go.Proofs.YthilcidoacgdfaaGreatDoorW.PrintMore
namespace Go.Proofs.YthilcidoacgdfaaGreatDoorW.PrintWords
end Go.Proofs.YthilcidoacgdfaaGreatDoorW.PrintWords
namespace Go.Proofs.YthilcidoacgdfaaGreatDoor.CmpE
open Go.RowKit Go.Shelf Go.Proofs.YthilcidoacgdfaaGreatDoor.DecG Go.Proofs.YthilcidoacgdfaaGreatDoorW.PrintWords Go.Proofs.YthilcidoacgdfaaGreatDoorW.PrintLast Go.Proofs.YthilcidoacgdfaaGreatDoorW.PrintMore Go.Proofs.YthilcidoacgdfaaGreatDoor.CharB Go.Proofs.YthilcidoacgdfaaGreatDoor.CharF Go.Proofs.YthilcidoacgdfaaGreatDoor.SpanA Go.Proofs.YthilcidoacgdfaaGreatDoor.DecA Go.Proofs.YthilcidoacgdfaaGreatDoor.DecE Go.Proofs.YthilcidoacgdfaaGreatDoor.FigA Go.Proofs.YthilcidoacgdfaaGreatDoor.FigD Go.Proofs.YthilcidoacgdfaaGreatDoor.FigG Go.Proofs.YthilcidoacgdfaaGreatDoor.FigH Go.Proofs.YthilcidoacgdfaaGreatDoor.FigI Go.Proofs.YthilcidoacgdfaaGreatDoor.ValA Go.Proofs.YthilcidoacgdfaaGreatDoor.ValB Go.Proofs.YthilcidoacgdfaaGreatDoor.ValC Go.Proofs.YthilcidoacgdfaaGreatDoor.ValD Go.Proofs.YthilcidoacgdfaaGreatDoor.CmpA Go.Proofs.YthilcidoacgdfaaGreatDoor.CmpB
set_option linter.unusedVariables false
set_option linter.unusedSimpArgs false
set_option maxHeartbeats 4000000 in
set_option maxRecDepth 100000 in
theorem do_n1 (op : Int) (A1 : Option Addr) (n1 k1 : Nat) (b1 : Bool) (t1 v1 : Int) (s1 : ByteArray) (A2 : Option Addr) (n2 k2 : Nat) (b2 : Bool) (t2 v2 : Int) (s2 : ByteArray) (T1 T2 : Int) (w : World) (hT : Tabs w) (h1 : 2 ≤ T1 ∧ T1 ≤ 4) (h2 : 2 ≤ T2 ∧ T2 ≤ 4) (hv1 : I64 v1) (hv2 : I64 v2) (hs1 : s1.size ≤ 1000000000) (hs2 : s2.size ≤ 1000000000) (ho : op = 3 ∨ op = 4) (p1 : (T1 == 2) = false) (p2 : (T2 == 2) = false) (q1 : (T1 == 4) = false) : Calls Tryz.prog 21 #[.pointer none, .int .i64 op, .agg #[.int .i64 T1, .slice A1 n1 k1, .bool b1, .int .i64 t1, .int .i64 v1, .string s1], .agg #[.int .i64 T2, .slice A2 n2 k2, .bool b2, .int .i64 t2, .int .i64 v2, .string s2]] w fun e w' => e = .returned (.bool (cmpN op (nrm (toN T1 b1 t1 v1 s1)) (nrm (toN T2 b2 t2 v2 s2)))) ∧ Below w.heap.size w w' := by
  have d1 : decide (op < 3) = false := by simp; omega
  have d2 : decide (8 < op) = false := by simp; omega
  have d2' : decide (op > 8) = false := by simp; omega
  have d3 : (T1 == 1) = false := by simp; omega
  have d4 : (T2 == 1) = false := by simp; omega
  have cs := fun W => same_call op W
  rw [show (decide (op = 3) || op == 4) = true by rcases ho with rfl | rfl <;> rfl] at cs
  have cy1 := fun W => typed_call T1 A1 n1 k1 b1 t1 v1 s1 W (by omega)
  have cy2 := fun W => typed_call T2 A2 n2 k2 b2 t2 v2 s2 W (by omega)
  have cb1 : ∀ W, Below w.heap.size w W → _ := fun W hb => tonum_call T1 A1 n1 k1 b1 t1 v1 s1 W h1 hv1 hs1 (tabs_below hT hb)
  have cb2 : ∀ W, Below w.heap.size w W → _ := fun W hb => tonum_call T2 A2 n2 k2 b2 t2 v2 s2 W h2 hv2 hs2 (tabs_below hT hb)
  have cz := fun W => numbers_call op (toN T1 b1 t1 v1 s1).1 (toN T1 b1 t1 v1 s1).2 (toN T2 b2 t2 v2 s2).1 (toN T2 b2 t2 v2 s2).2 W
  generalize toN T1 b1 t1 v1 s1 = z1 at *
  generalize toN T2 b2 t2 v2 s2 = z2 at *
  obtain ⟨z1a, z1b⟩ := z1
  obtain ⟨z2a, z2b⟩ := z2
  simp only at cb1 cb2 cz
  have X0 := Aside0.mk ((wbox_new T1 A1 n1 k1 b1 t1 v1 s1 w).below ((Below.refl _ _).alloc (Nat.le_refl _) (Obj.cells #[.int .i64 T2, .slice A2 n2 k2, .bool b2, .int .i64 t2, .int .i64 v2, .string s2] 35)))
  have Y0 : Aside0 (WBox (w.heap.size + 1) T2 A2 n2 k2 b2 t2 v2 s2 ((w.alloc (Obj.cells #[.int .i64 T1, .slice A1 n1 k1, .bool b1, .int .i64 t1, .int .i64 v1, .string s1] 35)).alloc (Obj.cells #[.int .i64 T2, .slice A2 n2 k2, .bool b2, .int .i64 t2, .int .i64 v2, .string s2] 35))) := ⟨by have h := wbox_new T2 A2 n2 k2 b2 t2 v2 s2 (w.alloc (Obj.cells #[.int .i64 T1, .slice A1 n1 k1, .bool b1, .int .i64 t1, .int .i64 v1, .string s1] 35)); rwa [show (w.alloc (Obj.cells #[.int .i64 T1, .slice A1 n1 k1, .bool b1, .int .i64 t1, .int .i64 v1, .string s1] 35)).heap.size = w.heap.size + 1 from Array.size_push ..] at h⟩
  have B0 := Aside0.mk (((Below.refl w.heap.size w).alloc (Nat.le_refl _) (Obj.cells #[.int .i64 T1, .slice A1 n1 k1, .bool b1, .int .i64 t1, .int .i64 v1, .string s1] 35)).alloc (by rw [show (w.alloc (Obj.cells #[.int .i64 T1, .slice A1 n1 k1, .bool b1, .int .i64 t1, .int .i64 v1, .string s1] 35)).heap.size = w.heap.size + 1 from Array.size_push ..]; omega) (Obj.cells #[.int .i64 T2, .slice A2 n2 k2, .bool b2, .int .i64 t2, .int .i64 v2, .string s2] 35))
  clear h1 h2 hv1 hv2 hs1 hs2 ho
  have HC1 := Aside0.mk cb1
  have HC2 := Aside0.mk cb2
  clear cb1 cb2 hT
  go_enter Tryz.func21, Tryz.ntmps21
  go_wp2_with fail
  refine (cy1 _).mono ?_
  rintro e w1 ⟨rfl, b⟩
  have X1 := Aside0.mk (X0.out.below b)
  have Y1 := Aside0.mk (Y0.out.below b)
  have B1 := Aside0.mk (chain B0.out (Nat.le_refl _) b)
  clear b X0 Y0
  have x0 := X1.out.cell 0 (.int .i64 T1) rfl
  have y0 := Y1.out.cell 0 (.int .i64 T2) rfl
  have x1 := X1.out.cell 1 (.slice A1 n1 k1) rfl
  have y1 := Y1.out.cell 1 (.slice A2 n2 k2) rfl
  have x2 := X1.out.cell 2 (.bool b1) rfl
  have y2 := Y1.out.cell 2 (.bool b2) rfl
  have x3 := X1.out.cell 3 (.int .i64 t1) rfl
  have y3 := Y1.out.cell 3 (.int .i64 t2) rfl
  have x4 := X1.out.cell 4 (.int .i64 v1) rfl
  have y4 := Y1.out.cell 4 (.int .i64 v2) rfl
  have x5 := X1.out.cell 5 (.string s1) rfl
  have y5 := Y1.out.cell 5 (.string s2) rfl
  go_wp2_with fail
  refine (cy2 _).mono ?_
  rintro e w2 ⟨rfl, b⟩
  have X2 := Aside0.mk (X1.out.below b)
  have Y2 := Aside0.mk (Y1.out.below b)
  have B2 := Aside0.mk (chain B1.out (Nat.le_refl _) b)
  clear x0 x1 x2 x3 x4 x5 y0 y1 y2 y3 y4 y5
  clear b X1 Y1
  have x0 := X2.out.cell 0 (.int .i64 T1) rfl
  have y0 := Y2.out.cell 0 (.int .i64 T2) rfl
  have x1 := X2.out.cell 1 (.slice A1 n1 k1) rfl
  have y1 := Y2.out.cell 1 (.slice A2 n2 k2) rfl
  have x2 := X2.out.cell 2 (.bool b1) rfl
  have y2 := Y2.out.cell 2 (.bool b2) rfl
  have x3 := X2.out.cell 3 (.int .i64 t1) rfl
  have y3 := Y2.out.cell 3 (.int .i64 t2) rfl
  have x4 := X2.out.cell 4 (.int .i64 v1) rfl
  have y4 := Y2.out.cell 4 (.int .i64 v2) rfl
  have x5 := X2.out.cell 5 (.string s1) rfl
  have y5 := Y2.out.cell 5 (.string s2) rfl
  go_wp2_with fail
  refine (cs _).mono ?_
  rintro e w3 ⟨rfl, b⟩
  have X3 := Aside0.mk (X2.out.below b)
  have Y3 := Aside0.mk (Y2.out.below b)
  have B3 := Aside0.mk (chain B2.out (Nat.le_refl _) b)
  clear x0 x1 x2 x3 x4 x5 y0 y1 y2 y3 y4 y5
  clear b X2 Y2
  have x0 := X3.out.cell 0 (.int .i64 T1) rfl
  have y0 := Y3.out.cell 0 (.int .i64 T2) rfl
  have x1 := X3.out.cell 1 (.slice A1 n1 k1) rfl
  have y1 := Y3.out.cell 1 (.slice A2 n2 k2) rfl
  have x2 := X3.out.cell 2 (.bool b1) rfl
  have y2 := Y3.out.cell 2 (.bool b2) rfl
  have x3 := X3.out.cell 3 (.int .i64 t1) rfl
  have y3 := Y3.out.cell 3 (.int .i64 t2) rfl
  have x4 := X3.out.cell 4 (.int .i64 v1) rfl
  have y4 := Y3.out.cell 4 (.int .i64 v2) rfl
  have x5 := X3.out.cell 5 (.string s1) rfl
  have y5 := Y3.out.cell 5 (.string s2) rfl
  go_wp2_with fail
  refine (cs _).mono ?_
  rintro e w4 ⟨rfl, b⟩
  have X4 := Aside0.mk (X3.out.below b)
  have Y4 := Aside0.mk (Y3.out.below b)
  have B4 := Aside0.mk (chain B3.out (Nat.le_refl _) b)
  clear x0 x1 x2 x3 x4 x5 y0 y1 y2 y3 y4 y5
  clear b X3 Y3
  have x0 := X4.out.cell 0 (.int .i64 T1) rfl
  have y0 := Y4.out.cell 0 (.int .i64 T2) rfl
  have x1 := X4.out.cell 1 (.slice A1 n1 k1) rfl
  have y1 := Y4.out.cell 1 (.slice A2 n2 k2) rfl
  have x2 := X4.out.cell 2 (.bool b1) rfl
  have y2 := Y4.out.cell 2 (.bool b2) rfl
  have x3 := X4.out.cell 3 (.int .i64 t1) rfl
  have y3 := Y4.out.cell 3 (.int .i64 t2) rfl
  have x4 := X4.out.cell 4 (.int .i64 v1) rfl
  have y4 := Y4.out.cell 4 (.int .i64 v2) rfl
  have x5 := X4.out.cell 5 (.string s1) rfl
  have y5 := Y4.out.cell 5 (.string s2) rfl
  go_wp2_with fail
  have BD := Aside0.mk (Below.drew B4.out)
  clear B4
  have XD : Aside0 (WBox w.heap.size T1 A1 n1 k1 b1 t1 v1 s1 w4.drew) := ⟨X4.out⟩
  have YD : Aside0 (WBox (w.heap.size + 1) T2 A2 n2 k2 b2 t2 v2 s2 w4.drew) := ⟨Y4.out⟩
  clear X4 Y4
  go_region_with (first | (go_at_call_of 15 (Value.slice A1 n1 k1); refine (HC1.out _ BD.out).mono ?_; rintro e w' ⟨rfl, hb⟩; have BE := Aside0.mk (chain BD.out (Nat.le_refl _) hb); have hx := XD.out.below hb; have hy := YD.out.below hb; clear x0 x1 x2 x3 x4 x5 y0 y1 y2 y3 y4 y5; have x0 := hx.cell 0 (.int .i64 T1) rfl; have x1 := hx.cell 1 (.slice A1 n1 k1) rfl; have x2 := hx.cell 2 (.bool b1) rfl; have x3 := hx.cell 3 (.int .i64 t1) rfl; have x4 := hx.cell 4 (.int .i64 v1) rfl; have x5 := hx.cell 5 (.string s1) rfl; have y0 := hy.cell 0 (.int .i64 T2) rfl; have y1 := hy.cell 1 (.slice A2 n2 k2) rfl; have y2 := hy.cell 2 (.bool b2) rfl; have y3 := hy.cell 3 (.int .i64 t2) rfl; have y4 := hy.cell 4 (.int .i64 v2) rfl; have y5 := hy.cell 5 (.string s2) rfl; clear hx hy hb) | (go_at_call_of 15 (Value.slice A2 n2 k2); refine (HC2.out _ BE.out).mono ?_; rintro e w'' ⟨rfl, hb2⟩; have BF := Aside0.mk (chain BE.out (Nat.le_refl _) hb2); clear hb2) | (go_at_call 48; refine (cz _).mono ?_; rintro e w3' ⟨rfl, hb3⟩; have BG := Aside0.mk (chain BF.out (Nat.le_refl _) hb3); clear hb3))
  all_goals
    go_wp2_with fail
    go_ret
    exact ⟨by first | rfl | (simp; done), BG.out⟩
end Go.Proofs.YthilcidoacgdfaaGreatDoor.CmpE
