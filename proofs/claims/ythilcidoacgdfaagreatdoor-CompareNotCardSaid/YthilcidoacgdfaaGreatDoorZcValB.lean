/- value.ToNum and value.ToBool: what they compute, of truths, numbers and texts. -/
import Derived.Test.YthilcidoacgdfaaGreatDoorZcValA
namespace Go.Proofs.YthilcidoacgdfaaGreatDoor.CharB
end Go.Proofs.YthilcidoacgdfaaGreatDoor.CharB
namespace Go.Proofs.YthilcidoacgdfaaGreatDoor.CharF
end Go.Proofs.YthilcidoacgdfaaGreatDoor.CharF
namespace Go.Proofs.YthilcidoacgdfaaGreatDoor.DecA
end Go.Proofs.YthilcidoacgdfaaGreatDoor.DecA
namespace Go.Proofs.YthilcidoacgdfaaGreatDoor.DecE
end Go.Proofs.YthilcidoacgdfaaGreatDoor.DecE
namespace Go.Proofs.YthilcidoacgdfaaGreatDoor.FigA
end Go.Proofs.YthilcidoacgdfaaGreatDoor.FigA
namespace Go.Proofs.YthilcidoacgdfaaGreatDoor.FigD
end Go.Proofs.YthilcidoacgdfaaGreatDoor.FigD
namespace Go.Proofs.YthilcidoacgdfaaGreatDoor.FigG
end Go.Proofs.YthilcidoacgdfaaGreatDoor.FigG
namespace Go.Proofs.YthilcidoacgdfaaGreatDoor.FigH
end Go.Proofs.YthilcidoacgdfaaGreatDoor.FigH
namespace Go.Proofs.YthilcidoacgdfaaGreatDoor.FigI
end Go.Proofs.YthilcidoacgdfaaGreatDoor.FigI
namespace Go.Proofs.YthilcidoacgdfaaGreatDoor.SpanA
end Go.Proofs.YthilcidoacgdfaaGreatDoor.SpanA
namespace Go.Proofs.YthilcidoacgdfaaGreatDoor.ValA
end Go.Proofs.YthilcidoacgdfaaGreatDoor.ValA
namespace Go.Proofs.YthilcidoacgdfaaGreatDoorW.PrintLast
end Go.Proofs.YthilcidoacgdfaaGreatDoorW.PrintLast
namespace Go.Proofs.YthilcidoacgdfaaGreatDoorW.PrintMore
end Go.Proofs.YthilcidoacgdfaaGreatDoorW.PrintMore
namespace Go.Proofs.YthilcidoacgdfaaGreatDoorW.PrintWords
end Go.Proofs.YthilcidoacgdfaaGreatDoorW.PrintWords
namespace Go.Proofs.YthilcidoacgdfaaGreatDoor.ValB
open Go.RowKit Go.Shelf Go.Proofs.YthilcidoacgdfaaGreatDoorW.PrintWords Go.Proofs.YthilcidoacgdfaaGreatDoorW.PrintLast Go.Proofs.YthilcidoacgdfaaGreatDoorW.PrintMore Go.Proofs.YthilcidoacgdfaaGreatDoor.CharB Go.Proofs.YthilcidoacgdfaaGreatDoor.CharF Go.Proofs.YthilcidoacgdfaaGreatDoor.SpanA Go.Proofs.YthilcidoacgdfaaGreatDoor.DecA Go.Proofs.YthilcidoacgdfaaGreatDoor.DecE Go.Proofs.YthilcidoacgdfaaGreatDoor.FigA Go.Proofs.YthilcidoacgdfaaGreatDoor.FigD Go.Proofs.YthilcidoacgdfaaGreatDoor.FigG Go.Proofs.YthilcidoacgdfaaGreatDoor.FigH Go.Proofs.YthilcidoacgdfaaGreatDoor.FigI Go.Proofs.YthilcidoacgdfaaGreatDoor.ValA
set_option linter.unusedVariables false
set_option linter.unusedSimpArgs false
set_option maxHeartbeats 4000000 in
set_option maxRecDepth 100000 in
theorem tonum_bool_true (A : Option Addr) (n c : Nat) (t v : Int) (s : ByteArray) (w : World) : Calls Tryz.prog 15 #[.pointer none, .agg #[.int .i64 2, .slice A n c, .bool true, .int .i64 t, .int .i64 v, .string s]] w fun e w' => e = .returned (.agg #[.int .i64 0, .int .i64 1000000]) ∧ Below w.heap.size w w' := by
  have A0 := (Below.refl w.heap.size w).alloc (Nat.le_refl _) (Obj.cells #[.int .i64 2, .slice A n c, .bool true, .int .i64 t, .int .i64 v, .string s] 35)
  have hsz : (w.alloc (Obj.cells #[.int .i64 2, .slice A n c, .bool true, .int .i64 t, .int .i64 v, .string s] 35)).heap.size = w.heap.size + 1 := by simp
  have A1 := (Below.refl (w.alloc (Obj.cells #[.int .i64 2, .slice A n c, .bool true, .int .i64 t, .int .i64 v, .string s] 35)).heap.size (w.alloc (Obj.cells #[.int .i64 2, .slice A n c, .bool true, .int .i64 t, .int .i64 v, .string s] 35))).alloc (Nat.le_refl _) (Obj.cells #[.int .i64 0, .int .i64 0] 32)
  have B0 := Aside0.mk (chain A0 (Nat.le_refl _) A1)
  have hV := blk_below (blk_new w (Obj.cells #[.int .i64 2, .slice A n c, .bool true, .int .i64 t, .int .i64 v, .string s] 35)) A1
  have hZ := box_new 0 0 (w.alloc (Obj.cells #[.int .i64 2, .slice A n c, .bool true, .int .i64 t, .int .i64 v, .string s] 35))
  rw [hsz] at hZ
  have HV := Aside0.mk hV
  have HZ := Aside0.mk hZ
  clear A0 A1 hsz hV hZ
  have ho := fun W => of_bool A n c true t v s W
  have uo := fun W => ta_bo (.bool true) W
  have ub := fun W => ta_bb (.bool true) W
  have un := fun W => ta_bn (.bool true) W
  have us := fun W => ta_bs (.bool true) W
  have hi := fun W => int_call 1 (.inr rfl) W
  go_enter Tryz.func15, Tryz.ntmps15
  go_wp2_with fail
  refine (ho _).mono ?_
  rintro e w1 ⟨rfl, b1⟩
  have B1 := Aside0.mk (chain B0.out (Nat.le_refl _) b1)
  have hX := blk_below HV.out b1
  have hZ1 := HZ.out.below b1
  have HZ1 := Aside0.mk hZ1
  have z0 := hZ1.c0
  have z1 := hZ1.c1
  have zf0 := hZ1.fr 0
  have zf1 := hZ1.fr 1
  have y0 : w1.cell? ⟨w.heap.size, 0, none⟩ = some (.int .i64 2) := by rw [cell_h hX]; rfl
  have y1 : w1.cell? ⟨w.heap.size, 1, none⟩ = some (.slice A n c) := by rw [cell_h hX]; rfl
  have y2 : w1.cell? ⟨w.heap.size, 2, none⟩ = some (.bool true) := by rw [cell_h hX]; rfl
  have y3 : w1.cell? ⟨w.heap.size, 3, none⟩ = some (.int .i64 t) := by rw [cell_h hX]; rfl
  have y4 : w1.cell? ⟨w.heap.size, 4, none⟩ = some (.int .i64 v) := by rw [cell_h hX]; rfl
  have y5 : w1.cell? ⟨w.heap.size, 5, none⟩ = some (.string s) := by rw [cell_h hX]; rfl
  clear b1 hX hZ1
  go_wp2_with fail
  refine (hi _).mono ?_
  rintro e w2 ⟨rfl, b2⟩
  have B2 := Aside0.mk (chain B1.out (Nat.le_refl _) b2)
  have hZ2 := HZ1.out.below b2
  have HZ2 := Aside0.mk hZ2
  have g0 := hZ2.c0
  have g1 := hZ2.c1
  have gf0 := hZ2.fr 0
  have gf1 := hZ2.fr 1
  clear b2 hZ2 z0 z1 zf0 zf1
  go_wp2_with fail
  refine bodyPost_ret (results_cell_row rfl _ _ (w.heap.size + 1) 32 #[.int .i64 0, .int .i64 1000000] (0, 0) _ rfl (HZ2.out.put) Tryz.underlying32 rfl (by kernel_rfl)) rfl ?_
  exact ⟨rfl, (B2.out.setCell (p := ⟨w.heap.size + 1, 0, none⟩) (by simp) _).setCell (p := ⟨w.heap.size + 1, 1, none⟩) (by simp) _⟩
set_option maxHeartbeats 4000000 in
set_option maxRecDepth 100000 in
theorem tonum_bool_false (A : Option Addr) (n c : Nat) (t v : Int) (s : ByteArray) (w : World) : Calls Tryz.prog 15 #[.pointer none, .agg #[.int .i64 2, .slice A n c, .bool false, .int .i64 t, .int .i64 v, .string s]] w fun e w' => e = .returned (.agg #[.int .i64 0, .int .i64 0]) ∧ Below w.heap.size w w' := by
  have A0 := (Below.refl w.heap.size w).alloc (Nat.le_refl _) (Obj.cells #[.int .i64 2, .slice A n c, .bool false, .int .i64 t, .int .i64 v, .string s] 35)
  have hsz : (w.alloc (Obj.cells #[.int .i64 2, .slice A n c, .bool false, .int .i64 t, .int .i64 v, .string s] 35)).heap.size = w.heap.size + 1 := by simp
  have A1 := (Below.refl (w.alloc (Obj.cells #[.int .i64 2, .slice A n c, .bool false, .int .i64 t, .int .i64 v, .string s] 35)).heap.size (w.alloc (Obj.cells #[.int .i64 2, .slice A n c, .bool false, .int .i64 t, .int .i64 v, .string s] 35))).alloc (Nat.le_refl _) (Obj.cells #[.int .i64 0, .int .i64 0] 32)
  have B0 := Aside0.mk (chain A0 (Nat.le_refl _) A1)
  have hV := blk_below (blk_new w (Obj.cells #[.int .i64 2, .slice A n c, .bool false, .int .i64 t, .int .i64 v, .string s] 35)) A1
  have hZ := box_new 0 0 (w.alloc (Obj.cells #[.int .i64 2, .slice A n c, .bool false, .int .i64 t, .int .i64 v, .string s] 35))
  rw [hsz] at hZ
  have HV := Aside0.mk hV
  have HZ := Aside0.mk hZ
  clear A0 A1 hsz hV hZ
  have ho := fun W => of_bool A n c false t v s W
  have uo := fun W => ta_bo (.bool false) W
  have ub := fun W => ta_bb (.bool false) W
  have un := fun W => ta_bn (.bool false) W
  have us := fun W => ta_bs (.bool false) W
  have hi := fun W => int_call 0 (.inl rfl) W
  go_enter Tryz.func15, Tryz.ntmps15
  go_wp2_with fail
  refine (ho _).mono ?_
  rintro e w1 ⟨rfl, b1⟩
  have B1 := Aside0.mk (chain B0.out (Nat.le_refl _) b1)
  have hX := blk_below HV.out b1
  have hZ1 := HZ.out.below b1
  have HZ1 := Aside0.mk hZ1
  have z0 := hZ1.c0
  have z1 := hZ1.c1
  have zf0 := hZ1.fr 0
  have zf1 := hZ1.fr 1
  have y0 : w1.cell? ⟨w.heap.size, 0, none⟩ = some (.int .i64 2) := by rw [cell_h hX]; rfl
  have y1 : w1.cell? ⟨w.heap.size, 1, none⟩ = some (.slice A n c) := by rw [cell_h hX]; rfl
  have y2 : w1.cell? ⟨w.heap.size, 2, none⟩ = some (.bool false) := by rw [cell_h hX]; rfl
  have y3 : w1.cell? ⟨w.heap.size, 3, none⟩ = some (.int .i64 t) := by rw [cell_h hX]; rfl
  have y4 : w1.cell? ⟨w.heap.size, 4, none⟩ = some (.int .i64 v) := by rw [cell_h hX]; rfl
  have y5 : w1.cell? ⟨w.heap.size, 5, none⟩ = some (.string s) := by rw [cell_h hX]; rfl
  clear b1 hX hZ1
  go_wp2_with fail
  refine (hi _).mono ?_
  rintro e w2 ⟨rfl, b2⟩
  have B2 := Aside0.mk (chain B1.out (Nat.le_refl _) b2)
  have hZ2 := HZ1.out.below b2
  have HZ2 := Aside0.mk hZ2
  have g0 := hZ2.c0
  have g1 := hZ2.c1
  have gf0 := hZ2.fr 0
  have gf1 := hZ2.fr 1
  clear b2 hZ2 z0 z1 zf0 zf1
  go_wp2_with fail
  refine bodyPost_ret (results_cell_row rfl _ _ (w.heap.size + 1) 32 #[.int .i64 0, .int .i64 0] (0, 0) _ rfl (HZ2.out.put) Tryz.underlying32 rfl (by kernel_rfl)) rfl ?_
  exact ⟨rfl, (B2.out.setCell (p := ⟨w.heap.size + 1, 0, none⟩) (by simp) _).setCell (p := ⟨w.heap.size + 1, 1, none⟩) (by simp) _⟩
set_option maxHeartbeats 4000000 in
set_option maxRecDepth 100000 in
theorem tonum_num (A : Option Addr) (n c : Nat) (b : Bool) (t v : Int) (s : ByteArray) (w : World) (hv : I64 v) : Calls Tryz.prog 15 #[.pointer none, .agg #[.int .i64 3, .slice A n c, .bool b, .int .i64 t, .int .i64 v, .string s]] w fun e w' => e = .returned (.agg #[.int .i64 (nrm (t, v)).1, .int .i64 (nrm (t, v)).2]) ∧ Below w.heap.size w w' := by
  have A0 := (Below.refl w.heap.size w).alloc (Nat.le_refl _) (Obj.cells #[.int .i64 3, .slice A n c, .bool b, .int .i64 t, .int .i64 v, .string s] 35)
  have hsz : (w.alloc (Obj.cells #[.int .i64 3, .slice A n c, .bool b, .int .i64 t, .int .i64 v, .string s] 35)).heap.size = w.heap.size + 1 := by simp
  have A1 := (Below.refl (w.alloc (Obj.cells #[.int .i64 3, .slice A n c, .bool b, .int .i64 t, .int .i64 v, .string s] 35)).heap.size (w.alloc (Obj.cells #[.int .i64 3, .slice A n c, .bool b, .int .i64 t, .int .i64 v, .string s] 35))).alloc (Nat.le_refl _) (Obj.cells #[.int .i64 0, .int .i64 0] 32)
  have B0 := Aside0.mk (chain A0 (Nat.le_refl _) A1)
  have hV := blk_below (blk_new w (Obj.cells #[.int .i64 3, .slice A n c, .bool b, .int .i64 t, .int .i64 v, .string s] 35)) A1
  have hZ := box_new 0 0 (w.alloc (Obj.cells #[.int .i64 3, .slice A n c, .bool b, .int .i64 t, .int .i64 v, .string s] 35))
  rw [hsz] at hZ
  have HV := Aside0.mk hV
  have HZ := Aside0.mk hZ
  clear A0 A1 hsz hV hZ
  have ho := fun W => of_num A n c b t v s W
  generalize nrm (t, v) = q at *
  obtain ⟨q1, q2⟩ := q
  simp only at ho
  have uo := fun W => ta_no (.agg #[.int .i64 q1, .int .i64 q2]) W
  have ub := fun W => ta_nb (.agg #[.int .i64 q1, .int .i64 q2]) W
  have un := fun W => ta_nn (.agg #[.int .i64 q1, .int .i64 q2]) W
  have us := fun W => ta_ns (.agg #[.int .i64 q1, .int .i64 q2]) W
  go_enter Tryz.func15, Tryz.ntmps15
  go_wp2_with fail
  refine (ho _).mono ?_
  rintro e w1 ⟨rfl, b1⟩
  have B1 := Aside0.mk (chain B0.out (Nat.le_refl _) b1)
  have hX := blk_below HV.out b1
  have hZ1 := HZ.out.below b1
  have HZ1 := Aside0.mk hZ1
  have z0 := hZ1.c0
  have z1 := hZ1.c1
  have zf0 := hZ1.fr 0
  have zf1 := hZ1.fr 1
  have y0 : w1.cell? ⟨w.heap.size, 0, none⟩ = some (.int .i64 3) := by rw [cell_h hX]; rfl
  have y1 : w1.cell? ⟨w.heap.size, 1, none⟩ = some (.slice A n c) := by rw [cell_h hX]; rfl
  have y2 : w1.cell? ⟨w.heap.size, 2, none⟩ = some (.bool b) := by rw [cell_h hX]; rfl
  have y3 : w1.cell? ⟨w.heap.size, 3, none⟩ = some (.int .i64 t) := by rw [cell_h hX]; rfl
  have y4 : w1.cell? ⟨w.heap.size, 4, none⟩ = some (.int .i64 v) := by rw [cell_h hX]; rfl
  have y5 : w1.cell? ⟨w.heap.size, 5, none⟩ = some (.string s) := by rw [cell_h hX]; rfl
  clear b1 hX hZ1
  have al := (Below.refl w1.heap.size w1).alloc (Nat.le_refl _) (Obj.cells #[.int .i64 q1, .int .i64 q2] 67)
  have hZ2 := HZ1.out.below al
  have HZ2 := Aside0.mk hZ2
  have B2 := Aside0.mk (chain B1.out (Nat.le_refl _) al)
  have g0 := hZ2.c0
  have g1 := hZ2.c1
  have gf0 := hZ2.fr 0
  have gf1 := hZ2.fr 1
  have hQ := blk_new w1 (Obj.cells #[.int .i64 q1, .int .i64 q2] 67)
  have p0 : (w1.alloc (Obj.cells #[.int .i64 q1, .int .i64 q2] 67)).cell? ⟨w1.heap.size, 0, none⟩ = some (.int .i64 q1) := by rw [cell_h hQ]; rfl
  have p1 : (w1.alloc (Obj.cells #[.int .i64 q1, .int .i64 q2] 67)).cell? ⟨w1.heap.size, 1, none⟩ = some (.int .i64 q2) := by rw [cell_h hQ]; rfl
  clear al hZ2 z0 z1 zf0 zf1 hQ
  go_wp2_with fail
  refine bodyPost_ret (results_cell_row rfl _ _ (w.heap.size + 1) 32 #[.int .i64 q1, .int .i64 q2] (0, 0) _ rfl (HZ2.out.put) Tryz.underlying32 rfl (by kernel_rfl)) rfl ?_
  exact ⟨rfl, (B2.out.setCell (p := ⟨w.heap.size + 1, 0, none⟩) (by simp) _).setCell (p := ⟨w.heap.size + 1, 1, none⟩) (by simp) _⟩
set_option maxHeartbeats 4000000 in
set_option maxRecDepth 100000 in
theorem tonum_str (A : Option Addr) (n c : Nat) (b : Bool) (t v : Int) (s : ByteArray) (w : World) (hs : s.size ≤ 1000000000) (hT : Tabs w) : Calls Tryz.prog 15 #[.pointer none, .agg #[.int .i64 4, .slice A n c, .bool b, .int .i64 t, .int .i64 v, .string s]] w fun e w' => e = .returned (.agg #[.int .i64 (readS s.data.toList).1, .int .i64 (readS s.data.toList).2]) ∧ Below w.heap.size w w' := by
  have A0 := (Below.refl w.heap.size w).alloc (Nat.le_refl _) (Obj.cells #[.int .i64 4, .slice A n c, .bool b, .int .i64 t, .int .i64 v, .string s] 35)
  have hsz : (w.alloc (Obj.cells #[.int .i64 4, .slice A n c, .bool b, .int .i64 t, .int .i64 v, .string s] 35)).heap.size = w.heap.size + 1 := by simp
  have A1 := (Below.refl (w.alloc (Obj.cells #[.int .i64 4, .slice A n c, .bool b, .int .i64 t, .int .i64 v, .string s] 35)).heap.size (w.alloc (Obj.cells #[.int .i64 4, .slice A n c, .bool b, .int .i64 t, .int .i64 v, .string s] 35))).alloc (Nat.le_refl _) (Obj.cells #[.int .i64 0, .int .i64 0] 32)
  have B0 := Aside0.mk (chain A0 (Nat.le_refl _) A1)
  have hV := blk_below (blk_new w (Obj.cells #[.int .i64 4, .slice A n c, .bool b, .int .i64 t, .int .i64 v, .string s] 35)) A1
  have hZ := box_new 0 0 (w.alloc (Obj.cells #[.int .i64 4, .slice A n c, .bool b, .int .i64 t, .int .i64 v, .string s] 35))
  rw [hsz] at hZ
  have HV := Aside0.mk hV
  have HZ := Aside0.mk hZ
  clear A0 A1 hsz hV hZ
  have ho := fun W => of_str A n c b t v s W
  have uo := fun W => ta_so (.string s) W
  have ub := fun W => ta_sb (.string s) W
  have un := fun W => ta_sn (.string s) W
  have us := fun W => ta_ss (.string s) W
  have ht := fun W => tostr_str A n c b t v s W
  have hr : ∀ W, Below w.heap.size w W → _ := fun W hW => read_call s W hs (tabs_below hT hW)
  have HR := Aside0.mk hr
  clear hr hT
  generalize readS s.data.toList = q at *
  obtain ⟨q1, q2⟩ := q
  simp only at HR
  go_enter Tryz.func15, Tryz.ntmps15
  go_wp2_with fail
  refine (ho _).mono ?_
  rintro e w1 ⟨rfl, b1⟩
  have B1 := Aside0.mk (chain B0.out (Nat.le_refl _) b1)
  have hX := blk_below HV.out b1
  have hZ1 := HZ.out.below b1
  have HZ1 := Aside0.mk hZ1
  have z0 := hZ1.c0
  have z1 := hZ1.c1
  have zf0 := hZ1.fr 0
  have zf1 := hZ1.fr 1
  have y0 : w1.cell? ⟨w.heap.size, 0, none⟩ = some (.int .i64 4) := by rw [cell_h hX]; rfl
  have y1 : w1.cell? ⟨w.heap.size, 1, none⟩ = some (.slice A n c) := by rw [cell_h hX]; rfl
  have y2 : w1.cell? ⟨w.heap.size, 2, none⟩ = some (.bool b) := by rw [cell_h hX]; rfl
  have y3 : w1.cell? ⟨w.heap.size, 3, none⟩ = some (.int .i64 t) := by rw [cell_h hX]; rfl
  have y4 : w1.cell? ⟨w.heap.size, 4, none⟩ = some (.int .i64 v) := by rw [cell_h hX]; rfl
  have y5 : w1.cell? ⟨w.heap.size, 5, none⟩ = some (.string s) := by rw [cell_h hX]; rfl
  clear b1 hX hZ1
  go_wp2_with fail
  refine (ht _).mono ?_
  rintro e w2 ⟨rfl, b2⟩
  have b3 := chain B1.out (Nat.le_refl _) b2
  have hr := HR.out _ b3
  have B2 := Aside0.mk b3
  have HZ2 := Aside0.mk (HZ1.out.below b2)
  clear b2 b3
  go_wp2_with fail
  refine hr.mono ?_
  rintro e w3 ⟨rfl, b4⟩
  have B3 := Aside0.mk (chain B2.out (Nat.le_refl _) b4)
  have hZ3 := HZ2.out.below b4
  have HZ3 := Aside0.mk hZ3
  have g0 := hZ3.c0
  have g1 := hZ3.c1
  have gf0 := hZ3.fr 0
  have gf1 := hZ3.fr 1
  clear b4 hZ3 z0 z1 zf0 zf1
  go_wp2_with fail
  refine bodyPost_ret (results_cell_row rfl _ _ (w.heap.size + 1) 32 #[.int .i64 q1, .int .i64 q2] (0, 0) _ rfl (HZ3.out.put) Tryz.underlying32 rfl (by kernel_rfl)) rfl ?_
  exact ⟨rfl, (B3.out.setCell (p := ⟨w.heap.size + 1, 0, none⟩) (by simp) _).setCell (p := ⟨w.heap.size + 1, 1, none⟩) (by simp) _⟩
set_option maxHeartbeats 4000000 in
set_option maxRecDepth 100000 in
theorem tobool_bool (A : Option Addr) (n c : Nat) (b : Bool) (t v : Int) (s : ByteArray) (w : World) : Calls Tryz.prog 16 #[.agg #[.int .i64 2, .slice A n c, .bool b, .int .i64 t, .int .i64 v, .string s]] w fun e w' => e = .returned (.bool (b)) ∧ Below w.heap.size w w' := by
  have B0 := Aside0.mk ((Below.refl w.heap.size w).alloc (Nat.le_refl _) (Obj.cells #[.int .i64 2, .slice A n c, .bool b, .int .i64 t, .int .i64 v, .string s] 35))
  have ho := fun W => of_bool A n c b t v s W
  have uo := fun W => ta_bo (.bool b) W
  have ub := fun W => ta_bb (.bool b) W
  have un := fun W => ta_bn (.bool b) W
  have us := fun W => ta_bs (.bool b) W
  go_enter Tryz.func16, Tryz.ntmps16
  go_wp2_with fail
  refine (ho _).mono ?_
  rintro e w1 ⟨rfl, b1⟩
  have B1 := Aside0.mk (chain B0.out (Nat.le_refl _) b1)
  clear b1
  go_wp2_with fail
  go_ret
  exact ⟨rfl, B1.out⟩
set_option maxHeartbeats 4000000 in
set_option maxRecDepth 100000 in
theorem tobool_str (A : Option Addr) (n c : Nat) (b : Bool) (t v : Int) (s : ByteArray) (w : World) : Calls Tryz.prog 16 #[.agg #[.int .i64 4, .slice A n c, .bool b, .int .i64 t, .int .i64 v, .string s]] w fun e w' => e = .returned (.bool (!s.toList.isEmpty)) ∧ Below w.heap.size w w' := by
  have B0 := Aside0.mk ((Below.refl w.heap.size w).alloc (Nat.le_refl _) (Obj.cells #[.int .i64 4, .slice A n c, .bool b, .int .i64 t, .int .i64 v, .string s] 35))
  have ho := fun W => of_str A n c b t v s W
  have uo := fun W => ta_so (.string s) W
  have ub := fun W => ta_sb (.string s) W
  have un := fun W => ta_sn (.string s) W
  have us := fun W => ta_ss (.string s) W
  go_enter Tryz.func16, Tryz.ntmps16
  go_wp2_with fail
  refine (ho _).mono ?_
  rintro e w1 ⟨rfl, b1⟩
  have B1 := Aside0.mk (chain B0.out (Nat.le_refl _) b1)
  clear b1
  go_wp2_with fail
  go_ret
  exact ⟨by first | rfl | (simp; done), B1.out⟩
/-- Is a number a truth? -/
def trueN (q : Int × Int) : Bool := q.1 != 1 && !(q.1 == 0 && q.2 == 0)
set_option maxHeartbeats 4000000 in
set_option maxRecDepth 100000 in
theorem tobool_num (A : Option Addr) (n c : Nat) (b : Bool) (t v : Int) (s : ByteArray) (w : World) : Calls Tryz.prog 16 #[.agg #[.int .i64 3, .slice A n c, .bool b, .int .i64 t, .int .i64 v, .string s]] w fun e w' => e = .returned (.bool (trueN (nrm (t, v)))) ∧ Below w.heap.size w w' := by
  have B0 := Aside0.mk ((Below.refl w.heap.size w).alloc (Nat.le_refl _) (Obj.cells #[.int .i64 3, .slice A n c, .bool b, .int .i64 t, .int .i64 v, .string s] 35))
  have ho := fun W => of_num A n c b t v s W
  generalize nrm (t, v) = q at *
  obtain ⟨q1, q2⟩ := q
  simp only at ho
  have uo := fun W => ta_no (.agg #[.int .i64 q1, .int .i64 q2]) W
  have ub := fun W => ta_nb (.agg #[.int .i64 q1, .int .i64 q2]) W
  have un := fun W => ta_nn (.agg #[.int .i64 q1, .int .i64 q2]) W
  have us := fun W => ta_ns (.agg #[.int .i64 q1, .int .i64 q2]) W
  go_enter Tryz.func16, Tryz.ntmps16
  go_wp2_with fail
  refine (ho _).mono ?_
  rintro e w1 ⟨rfl, b1⟩
  have B1 := Aside0.mk (chain B0.out (Nat.le_refl _) b1)
  clear b1
  go_wp2_with fail
  all_goals
    go_ret
    refine ⟨congrArg (fun x => Ending.returned (Value.bool x)) ?_, B1.out.alloc B1.out.size _⟩
    unfold trueN
    simp [*]
end Go.Proofs.YthilcidoacgdfaaGreatDoor.ValB
