/- value: what its small functions compute, of truths, numbers and texts. -/
import Derived.Test.YthilcidoacgdfaaGreatDoorZcFigI
namespace Go.Proofs.YthilcidoacgdfaaGreatDoor.CharB
end Go.Proofs.YthilcidoacgdfaaGreatDoor.CharB
namespace Go.Proofs.YthilcidoacgdfaaGreatDoor.CharF
end Go.Proofs.YthilcidoacgdfaaGreatDoor.CharF
namespace Go.Proofs.YthilcidoacgdfaaGreatDoor.DecA
end Go.Proofs.YthilcidoacgdfaaGreatDoor.DecA
namespace Go.Proofs.YthilcidoacgdfaaGreatDoor.DecE
end Go.Proofs.YthilcidoacgdfaaGreatDoor.DecE
namespace Go.Proofs.YthilcidoacgdfaaGreatDoor.DecF
end Go.Proofs.YthilcidoacgdfaaGreatDoor.DecF
namespace Go.Proofs.YthilcidoacgdfaaGreatDoor.DecG
end Go.Proofs.YthilcidoacgdfaaGreatDoor.DecG
namespace Go.Proofs.YthilcidoacgdfaaGreatDoor.FigA
end Go.Proofs.YthilcidoacgdfaaGreatDoor.FigA
namespace Go.Proofs.YthilcidoacgdfaaGreatDoor.FigD
end Go.Proofs.YthilcidoacgdfaaGreatDoor.FigD
namespace Go.Proofs.YthilcidoacgdfaaGreatDoor.FigG
end Go.Proofs.YthilcidoacgdfaaGreatDoor.FigG
namespace Go.Proofs.YthilcidoacgdfaaGreatDoor.FigH
end Go.Proofs.YthilcidoacgdfaaGreatDoor.FigH
namespace Go.Proofs.YthilcidoacgdfaaGreatDoor.FigI
end Go.Proofs.YthilcidoacgdfaaGreatDoor.FigI
namespace Go.Proofs.YthilcidoacgdfaaGreatDoor.PF
end Go.Proofs.YthilcidoacgdfaaGreatDoor.PF
namespace Go.Proofs.YthilcidoacgdfaaGreatDoor.SpanA
end Go.Proofs.YthilcidoacgdfaaGreatDoor.SpanA
namespace Go.Proofs.YthilcidoacgdfaaGreatDoorW.PrintLast
end Go.Proofs.YthilcidoacgdfaaGreatDoorW.PrintLast
namespace Go.Proofs.YthilcidoacgdfaaGreatDoorW.PrintMore
end Go.Proofs.YthilcidoacgdfaaGreatDoorW.PrintMore
namespace Go.Proofs.YthilcidoacgdfaaGreatDoorW.PrintWords
end Go.Proofs.YthilcidoacgdfaaGreatDoorW.PrintWords
namespace Go.Proofs.YthilcidoacgdfaaGreatDoor.ValA
open Go.RowKit Go.Shelf Go.Proofs.YthilcidoacgdfaaGreatDoorW.PrintWords Go.Proofs.YthilcidoacgdfaaGreatDoorW.PrintLast Go.Proofs.YthilcidoacgdfaaGreatDoorW.PrintMore Go.Proofs.YthilcidoacgdfaaGreatDoor.CharB Go.Proofs.YthilcidoacgdfaaGreatDoor.CharF Go.Proofs.YthilcidoacgdfaaGreatDoor.SpanA Go.Proofs.YthilcidoacgdfaaGreatDoor.DecA Go.Proofs.YthilcidoacgdfaaGreatDoor.DecE Go.Proofs.YthilcidoacgdfaaGreatDoor.FigA Go.Proofs.YthilcidoacgdfaaGreatDoor.FigD Go.Proofs.YthilcidoacgdfaaGreatDoor.FigG Go.Proofs.YthilcidoacgdfaaGreatDoor.FigI
set_option linter.unusedVariables false
set_option linter.unusedSimpArgs false
open Go.Proofs.YthilcidoacgdfaaGreatDoor.DecF Go.Proofs.YthilcidoacgdfaaGreatDoor.DecG Go.Proofs.YthilcidoacgdfaaGreatDoor.FigH Go.Proofs.YthilcidoacgdfaaGreatDoor.PF
theorem right2_call (t v : Int) (w : World) : Calls Tryz.prog 72 #[.agg #[.int .i64 t, .int .i64 v]] w fun e w' => e = .returned (.agg #[.int .i64 (nrm (t, v)).1, .int .i64 (nrm (t, v)).2]) ∧ Below w.heap.size w w' := by
  refine value_right.calls t v _ _ w ?_
  unfold value_right.f nrm
  rw [dec_Right_f t v]
  show (if rightB (t, v) = true then _ else _) = _
  split <;> rfl
theorem int_call (k : Int) (h : k = 0 ∨ k = 1) (w : World) : Calls Tryz.prog 40 #[.int .i64 k] w fun z w' => z = .returned (.agg #[.int .i64 0, .int .i64 (k * 1000000)]) ∧ Below w.heap.size w w' := by
  refine PF.dec_Int.calls 41 k 0 (k * 1000000) w ?_
  rw [dec_Int_f (by omega) (by unfold I64; omega)]
  rcases h with rfl | rfl <;> rfl
theorem ta_bo (v : Value) (w : World) : (Instr.typeAssert (.iface 66 v) 60 62 true).run Tryz.prog w = .ok (.tuple #[.slice none 0 0, .bool false]) w := by kernel_rfl
theorem ta_bb (v : Value) (w : World) : (Instr.typeAssert (.iface 66 v) 60 66 true).run Tryz.prog w = .ok (.tuple #[v, .bool true]) w := by kernel_rfl
theorem ta_bn (v : Value) (w : World) : (Instr.typeAssert (.iface 66 v) 60 67 true).run Tryz.prog w = .ok (.tuple #[.agg #[.int .i64 0, .int .i64 0], .bool false]) w := by kernel_rfl
theorem ta_bs (v : Value) (w : World) : (Instr.typeAssert (.iface 66 v) 60 69 true).run Tryz.prog w = .ok (.tuple #[.string ⟨#[]⟩, .bool false]) w := by kernel_rfl
theorem ta_no (v : Value) (w : World) : (Instr.typeAssert (.iface 67 v) 60 62 true).run Tryz.prog w = .ok (.tuple #[.slice none 0 0, .bool false]) w := by kernel_rfl
theorem ta_nb (v : Value) (w : World) : (Instr.typeAssert (.iface 67 v) 60 66 true).run Tryz.prog w = .ok (.tuple #[.bool false, .bool false]) w := by kernel_rfl
theorem ta_nn (v : Value) (w : World) : (Instr.typeAssert (.iface 67 v) 60 67 true).run Tryz.prog w = .ok (.tuple #[v, .bool true]) w := by kernel_rfl
theorem ta_ns (v : Value) (w : World) : (Instr.typeAssert (.iface 67 v) 60 69 true).run Tryz.prog w = .ok (.tuple #[.string ⟨#[]⟩, .bool false]) w := by kernel_rfl
theorem ta_so (v : Value) (w : World) : (Instr.typeAssert (.iface 69 v) 60 62 true).run Tryz.prog w = .ok (.tuple #[.slice none 0 0, .bool false]) w := by kernel_rfl
theorem ta_sb (v : Value) (w : World) : (Instr.typeAssert (.iface 69 v) 60 66 true).run Tryz.prog w = .ok (.tuple #[.bool false, .bool false]) w := by kernel_rfl
theorem ta_sn (v : Value) (w : World) : (Instr.typeAssert (.iface 69 v) 60 67 true).run Tryz.prog w = .ok (.tuple #[.agg #[.int .i64 0, .int .i64 0], .bool false]) w := by kernel_rfl
theorem ta_ss (v : Value) (w : World) : (Instr.typeAssert (.iface 69 v) 60 69 true).run Tryz.prog w = .ok (.tuple #[v, .bool true]) w := by kernel_rfl
set_option maxHeartbeats 1600000 in
set_option maxRecDepth 100000 in
theorem of_bool (A : Option Addr) (n c : Nat) (b : Bool) (t v : Int) (s : ByteArray) (w : World) : Calls Tryz.prog 36 #[.agg #[.int .i64 2, .slice A n c, .bool b, .int .i64 t, .int .i64 v, .string s]] w fun e w' => e = .returned (.iface 66 (.bool b)) ∧ Below w.heap.size w w' := by
  have B0 := Aside0.mk ((Below.refl w.heap.size w).alloc (Nat.le_refl _) (Obj.cells #[.int .i64 2, .slice A n c, .bool b, .int .i64 t, .int .i64 v, .string s] 35))
  go_enter Tryz.func36, Tryz.ntmps36
  go_wp2_with fail
  go_ret
  exact ⟨rfl, B0.out⟩
set_option maxHeartbeats 1600000 in
set_option maxRecDepth 100000 in
theorem of_str (A : Option Addr) (n c : Nat) (b : Bool) (t v : Int) (s : ByteArray) (w : World) : Calls Tryz.prog 36 #[.agg #[.int .i64 4, .slice A n c, .bool b, .int .i64 t, .int .i64 v, .string s]] w fun e w' => e = .returned (.iface 69 (.string s)) ∧ Below w.heap.size w w' := by
  have B0 := Aside0.mk ((Below.refl w.heap.size w).alloc (Nat.le_refl _) (Obj.cells #[.int .i64 4, .slice A n c, .bool b, .int .i64 t, .int .i64 v, .string s] 35))
  go_enter Tryz.func36, Tryz.ntmps36
  go_wp2_with fail
  go_ret
  exact ⟨rfl, B0.out⟩
set_option maxHeartbeats 1600000 in
set_option maxRecDepth 100000 in
theorem of_num (A : Option Addr) (n c : Nat) (b : Bool) (t v : Int) (s : ByteArray) (w : World) : Calls Tryz.prog 36 #[.agg #[.int .i64 3, .slice A n c, .bool b, .int .i64 t, .int .i64 v, .string s]] w fun e w' => e = .returned (.iface 67 (.agg #[.int .i64 (nrm (t, v)).1, .int .i64 (nrm (t, v)).2])) ∧ Below w.heap.size w w' := by
  have B0 := Aside0.mk ((Below.refl w.heap.size w).alloc (Nat.le_refl _) (Obj.cells #[.int .i64 3, .slice A n c, .bool b, .int .i64 t, .int .i64 v, .string s] 35))
  have hr := fun W => right2_call t v W
  generalize nrm (t, v) = q at *
  go_enter Tryz.func36, Tryz.ntmps36
  go_wp2_with fail
  refine (hr _).mono ?_
  rintro e w1 ⟨rfl, b1⟩
  have B1 := Aside0.mk (chain B0.out (Nat.le_refl _) b1)
  clear b1
  go_wp2_with fail
  go_ret
  exact ⟨rfl, B1.out⟩
set_option maxHeartbeats 1600000 in
set_option maxRecDepth 100000 in
theorem tostr_str (A : Option Addr) (n c : Nat) (b : Bool) (t v : Int) (s : ByteArray) (w : World) : Calls Tryz.prog 12 #[.pointer none, .agg #[.int .i64 4, .slice A n c, .bool b, .int .i64 t, .int .i64 v, .string s]] w fun e w' => e = .returned (.string s) ∧ Below w.heap.size w w' := by
  have B0 := Aside0.mk ((Below.refl w.heap.size w).alloc (Nat.le_refl _) (Obj.cells #[.int .i64 4, .slice A n c, .bool b, .int .i64 t, .int .i64 v, .string s] 35))
  have ho := fun W => of_str A n c b t v s W
  have uo := fun W => ta_so (.string s) W
  have ub := fun W => ta_sb (.string s) W
  have un := fun W => ta_sn (.string s) W
  have us := fun W => ta_ss (.string s) W
  go_enter Tryz.func12, Tryz.ntmps12
  go_wp2_with fail
  refine (ho _).mono ?_
  rintro e w1 ⟨rfl, b1⟩
  have B1 := Aside0.mk (chain B0.out (Nat.le_refl _) b1)
  have hX := blk_below (blk_new w (Obj.cells #[.int .i64 4, .slice A n c, .bool b, .int .i64 t, .int .i64 v, .string s] 35)) b1
  have y0 : w1.cell? ⟨w.heap.size, 0, none⟩ = some (.int .i64 4) := by rw [cell_h hX]; rfl
  have y1 : w1.cell? ⟨w.heap.size, 1, none⟩ = some (.slice A n c) := by rw [cell_h hX]; rfl
  have y2 : w1.cell? ⟨w.heap.size, 2, none⟩ = some (.bool b) := by rw [cell_h hX]; rfl
  have y3 : w1.cell? ⟨w.heap.size, 3, none⟩ = some (.int .i64 t) := by rw [cell_h hX]; rfl
  have y4 : w1.cell? ⟨w.heap.size, 4, none⟩ = some (.int .i64 v) := by rw [cell_h hX]; rfl
  have y5 : w1.cell? ⟨w.heap.size, 5, none⟩ = some (.string s) := by rw [cell_h hX]; rfl
  clear b1 hX
  go_wp2_with fail
  go_ret
  exact ⟨rfl, B1.out⟩
end Go.Proofs.YthilcidoacgdfaaGreatDoor.ValA
