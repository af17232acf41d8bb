/- The law ValueBack: its walk. -/
import Derived.Test.YthilcidoacgdfaaGreatDoorZcValB
import Derived.Test.YthilcidoacgdfaaGreatDoorZcFigA
import Derived.Deep.RegionHeld3
import Derived.Test.YthilcidoacgdfaaGreatDoorZcSpanA
namespace Go.Proofs.YthilcidoacgdfaaGreatDoor.CharB
end Go.Proofs.YthilcidoacgdfaaGreatDoor.CharB
namespace Go.Proofs.YthilcidoacgdfaaGreatDoor.CharF
end Go.Proofs.YthilcidoacgdfaaGreatDoor.CharF
namespace Go.Proofs.YthilcidoacgdfaaGreatDoor.DecA
end Go.Proofs.YthilcidoacgdfaaGreatDoor.DecA
namespace Go.Proofs.YthilcidoacgdfaaGreatDoor.DecE
end Go.Proofs.YthilcidoacgdfaaGreatDoor.DecE
namespace Go.Proofs.YthilcidoacgdfaaGreatDoor.FigA
end Go.Proofs.YthilcidoacgdfaaGreatDoor.FigA
namespace Go.Proofs.YthilcidoacgdfaaGreatDoor.FigD
end Go.Proofs.YthilcidoacgdfaaGreatDoor.FigD
namespace Go.Proofs.YthilcidoacgdfaaGreatDoor.FigG
end Go.Proofs.YthilcidoacgdfaaGreatDoor.FigG
namespace Go.Proofs.YthilcidoacgdfaaGreatDoor.FigH
end Go.Proofs.YthilcidoacgdfaaGreatDoor.FigH
namespace Go.Proofs.YthilcidoacgdfaaGreatDoor.FigI
end Go.Proofs.YthilcidoacgdfaaGreatDoor.FigI
namespace Go.Proofs.YthilcidoacgdfaaGreatDoor.SpanA
end Go.Proofs.YthilcidoacgdfaaGreatDoor.SpanA
namespace Go.Proofs.YthilcidoacgdfaaGreatDoor.ValA
end Go.Proofs.YthilcidoacgdfaaGreatDoor.ValA
namespace Go.Proofs.YthilcidoacgdfaaGreatDoor.ValB
end Go.Proofs.YthilcidoacgdfaaGreatDoor.ValB
namespace Go.Proofs.YthilcidoacgdfaaGreatDoor.ValC
end Go.Proofs.YthilcidoacgdfaaGreatDoor.ValC
namespace Go.Proofs.YthilcidoacgdfaaGreatDoorW.PrintLast
end Go.Proofs.YthilcidoacgdfaaGreatDoorW.PrintLast
namespace Go.Proofs.YthilcidoacgdfaaGreatDoorW.PrintMore
end Go.Proofs.YthilcidoacgdfaaGreatDoorW.PrintMore
namespace Go.Proofs.YthilcidoacgdfaaGreatDoorW.PrintWords
end Go.Proofs.YthilcidoacgdfaaGreatDoorW.PrintWords
namespace Go.Proofs.YthilcidoacgdfaaGreatDoor.ValD
open Go.RowKit Go.Shelf Go.Proofs.YthilcidoacgdfaaGreatDoorW.PrintWords Go.Proofs.YthilcidoacgdfaaGreatDoorW.PrintLast Go.Proofs.YthilcidoacgdfaaGreatDoorW.PrintMore Go.Proofs.YthilcidoacgdfaaGreatDoor.CharB Go.Proofs.YthilcidoacgdfaaGreatDoor.CharF Go.Proofs.YthilcidoacgdfaaGreatDoor.SpanA Go.Proofs.YthilcidoacgdfaaGreatDoor.DecA Go.Proofs.YthilcidoacgdfaaGreatDoor.DecE Go.Proofs.YthilcidoacgdfaaGreatDoor.FigA Go.Proofs.YthilcidoacgdfaaGreatDoor.FigD Go.Proofs.YthilcidoacgdfaaGreatDoor.FigG Go.Proofs.YthilcidoacgdfaaGreatDoor.FigH Go.Proofs.YthilcidoacgdfaaGreatDoor.FigI Go.Proofs.YthilcidoacgdfaaGreatDoor.ValA Go.Proofs.YthilcidoacgdfaaGreatDoor.ValB Go.Proofs.YthilcidoacgdfaaGreatDoor.ValC
set_option linter.unusedVariables false
set_option linter.unusedSimpArgs false
theorem i64_of {n : Int} (h : (Lit.int .i64 n).wf = true) : I64 n := by
  have : -9223372036854775808 ≤ n ∧ n ≤ 9223372036854775807 := by simpa [Lit.wf, IntKind.min, IntKind.max, IntKind.bits, IntKind.signed] using h
  exact this
end Go.Proofs.YthilcidoacgdfaaGreatDoor.ValD
/- compare: typed, same, truths, texts. -/
namespace Go.Proofs.YthilcidoacgdfaaGreatDoor.CharB
end Go.Proofs.YthilcidoacgdfaaGreatDoor.CharB
namespace Go.Proofs.YthilcidoacgdfaaGreatDoor.CharF
end Go.Proofs.YthilcidoacgdfaaGreatDoor.CharF
namespace Go.Proofs.YthilcidoacgdfaaGreatDoor.DecA
end Go.Proofs.YthilcidoacgdfaaGreatDoor.DecA
namespace Go.Proofs.YthilcidoacgdfaaGreatDoor.DecE
end Go.Proofs.YthilcidoacgdfaaGreatDoor.DecE
namespace Go.Proofs.YthilcidoacgdfaaGreatDoor.DecG
end Go.Proofs.YthilcidoacgdfaaGreatDoor.DecG
namespace Go.Proofs.YthilcidoacgdfaaGreatDoor.FigA
end Go.Proofs.YthilcidoacgdfaaGreatDoor.FigA
namespace Go.Proofs.YthilcidoacgdfaaGreatDoor.FigD
end Go.Proofs.YthilcidoacgdfaaGreatDoor.FigD
namespace Go.Proofs.YthilcidoacgdfaaGreatDoor.FigG
end Go.Proofs.YthilcidoacgdfaaGreatDoor.FigG
namespace Go.Proofs.YthilcidoacgdfaaGreatDoor.FigH
end Go.Proofs.YthilcidoacgdfaaGreatDoor.FigH
namespace Go.Proofs.YthilcidoacgdfaaGreatDoor.FigI
end Go.Proofs.YthilcidoacgdfaaGreatDoor.FigI
namespace Go.Proofs.YthilcidoacgdfaaGreatDoor.SpanA
end Go.Proofs.YthilcidoacgdfaaGreatDoor.SpanA
namespace Go.Proofs.YthilcidoacgdfaaGreatDoor.ValA
end Go.Proofs.YthilcidoacgdfaaGreatDoor.ValA
namespace Go.Proofs.YthilcidoacgdfaaGreatDoor.ValB
end Go.Proofs.YthilcidoacgdfaaGreatDoor.ValB
namespace Go.Proofs.YthilcidoacgdfaaGreatDoor.ValC
end Go.Proofs.YthilcidoacgdfaaGreatDoor.ValC
namespace Go.Proofs.YthilcidoacgdfaaGreatDoor.ValD
end Go.Proofs.YthilcidoacgdfaaGreatDoor.ValD
namespace Go.Proofs.YthilcidoacgdfaaGreatDoorW.PrintLast
end Go.Proofs.YthilcidoacgdfaaGreatDoorW.PrintLast
namespace Go.Proofs.YthilcidoacgdfaaGreatDoorW.PrintMore
end Go.Proofs.YthilcidoacgdfaaGreatDoorW.PrintMore
namespace Go.Proofs.YthilcidoacgdfaaGreatDoorW.PrintWords
end Go.Proofs.YthilcidoacgdfaaGreatDoorW.PrintWords
namespace Go.Proofs.YthilcidoacgdfaaGreatDoor.CmpA
open Go.RowKit Go.Shelf Go.Proofs.YthilcidoacgdfaaGreatDoor.DecG Go.Proofs.YthilcidoacgdfaaGreatDoorW.PrintWords Go.Proofs.YthilcidoacgdfaaGreatDoorW.PrintLast Go.Proofs.YthilcidoacgdfaaGreatDoorW.PrintMore Go.Proofs.YthilcidoacgdfaaGreatDoor.CharB Go.Proofs.YthilcidoacgdfaaGreatDoor.CharF Go.Proofs.YthilcidoacgdfaaGreatDoor.SpanA Go.Proofs.YthilcidoacgdfaaGreatDoor.DecA Go.Proofs.YthilcidoacgdfaaGreatDoor.DecE Go.Proofs.YthilcidoacgdfaaGreatDoor.FigA Go.Proofs.YthilcidoacgdfaaGreatDoor.FigD Go.Proofs.YthilcidoacgdfaaGreatDoor.FigG Go.Proofs.YthilcidoacgdfaaGreatDoor.FigH Go.Proofs.YthilcidoacgdfaaGreatDoor.FigI Go.Proofs.YthilcidoacgdfaaGreatDoor.ValA Go.Proofs.YthilcidoacgdfaaGreatDoor.ValB Go.Proofs.YthilcidoacgdfaaGreatDoor.ValC Go.Proofs.YthilcidoacgdfaaGreatDoor.ValD
set_option linter.unusedVariables false
set_option linter.unusedSimpArgs false
theorem same_call (op : Int) (w : World) : Calls Tryz.prog 45 #[.int .i64 op] w fun e w' => e = .returned (.bool (decide (op = 3) || op == 4)) ∧ Below w.heap.size w w' :=
  (PF.compare_same.calls op _ w (by unfold PF.compare_same.f; by_cases h : op = 3 <;> simp [h])).mono (fun _ _ h => ⟨h.1, Drawn0.below h.2⟩)
set_option maxHeartbeats 4000000 in
set_option maxRecDepth 100000 in
theorem typed_call (T : Int) (A : Option Addr) (n c : Nat) (b : Bool) (t v : Int) (s : ByteArray) (w : World) (hT : 1 ≤ T ∧ T ≤ 4) : Calls Tryz.prog 42 #[.agg #[.int .i64 T, .slice A n c, .bool b, .int .i64 t, .int .i64 v, .string s]] w fun e w' => e = .returned (.bool true) ∧ Below w.heap.size w w' := by
  have h1 : decide (T ≥ 1) = true := by simp; omega
  have h2 : decide (T ≤ 4) = true := by simp; omega
  clear hT
  go_enter Tryz.func42, Tryz.ntmps42
  go_wp2_with fail
  go_ret
  refine ⟨rfl, ?_⟩
  exact (Below.refl w.heap.size w).alloc (Nat.le_refl _) _
set_option maxHeartbeats 4000000 in
set_option maxRecDepth 100000 in
theorem truths_call (op : Int) (ho : op = 3 ∨ op = 4) (x y : Bool) (w : World) : Calls Tryz.prog 46 #[.int .i64 op, .bool x, .bool y] w fun e w' => e = .returned (.bool ((x == y) == (op == 3))) ∧ Below w.heap.size w w' := by
  have c1 := fun W => same_call op W
  rw [show (decide (op = 3) || op == 4) = true by rcases ho with rfl | rfl <;> rfl] at c1
  clear ho
  go_enter Tryz.func46, Tryz.ntmps46
  go_wp2_with fail
  refine (c1 _).mono ?_
  rintro e w1 ⟨rfl, b1⟩
  go_wp2_with fail
  go_ret
  exact ⟨by first | rfl | (simp; done), b1⟩
set_option maxHeartbeats 4000000 in
set_option maxRecDepth 100000 in
theorem texts_call (op : Int) (ho : op = 3 ∨ op = 4) (x y : ByteArray) (w : World) : Calls Tryz.prog 47 #[.int .i64 op, .string x, .string y] w fun e w' => e = .returned (.bool ((x.toList == y.toList) == (op == 3))) ∧ Below w.heap.size w w' := by
  have c1 := fun W => same_call op W
  rw [show (decide (op = 3) || op == 4) = true by rcases ho with rfl | rfl <;> rfl] at c1
  clear ho
  go_enter Tryz.func47, Tryz.ntmps47
  go_wp2_with fail
  refine (c1 _).mono ?_
  rintro e w1 ⟨rfl, b1⟩
  go_wp2_with fail
  go_ret
  exact ⟨by first | rfl | (simp; done), b1⟩
/-- The comparison of two numbers as figures. -/
def cmpN (op : Int) (x y : Int × Int) : Bool :=
  let c := cmpS x y
  if op = 3 then (if c.2 = true then c.1 == 0 else false) else if op = 4 then (if c.2 = true then c.1 != 0 else true) else if op = 5 then (if c.2 = true then decide (c.1 < 0) else false)
  else if op = 6 then (if c.2 = true then decide (c.1 ≤ 0) else false) else if op = 7 then (if c.2 = true then decide (c.1 > 0) else false) else (if c.2 = true then decide (c.1 ≥ 0) else false)
theorem numbers_f (op t v t' v' : Int) : PF.compare_numbers.f op t v t' v' = some (cmpN op (nrm (t, v)) (nrm (t', v'))) := by
  unfold PF.compare_numbers.f
  rw [dec_Cmp_f]
  unfold cmpN
  generalize cmpS (nrm (t, v)) (nrm (t', v')) = c
  obtain ⟨c1, c2⟩ := c
  simp only [Option.bind_some]
  repeat' split
  all_goals rfl
theorem numbers_call (op t v t' v' : Int) (w : World) : Calls Tryz.prog 48 #[.int .i64 op, .agg #[.int .i64 t, .int .i64 v], .agg #[.int .i64 t', .int .i64 v']] w fun e w' => e = .returned (.bool (cmpN op (nrm (t, v)) (nrm (t', v')))) ∧ Below w.heap.size w w' :=
  PF.compare_numbers.calls op t v t' v' _ w (numbers_f op t v t' v')
end Go.Proofs.YthilcidoacgdfaaGreatDoor.CmpA
