/- The law ValueBack: its walk. -/
import Derived.Test.YthilcidoacgdfaaGreatDoorZvValB
import Derived.Test.YthilcidoacgdfaaGreatDoorZvFigA
import Derived.Deep.RegionHeld3
namespace Go.Proofs.YthilcidoacgdfaaGreatDoor.CharB
end Go.Proofs.YthilcidoacgdfaaGreatDoor.CharB
namespace Go.Proofs.YthilcidoacgdfaaGreatDoor.CharF
end Go.Proofs.YthilcidoacgdfaaGreatDoor.CharF
namespace Go.Proofs.YthilcidoacgdfaaGreatDoor.DecA
end Go.Proofs.YthilcidoacgdfaaGreatDoor.DecA
namespace Go.Proofs.YthilcidoacgdfaaGreatDoor.DecE
end Go.Proofs.YthilcidoacgdfaaGreatDoor.DecE
namespace Go.Proofs.YthilcidoacgdfaaGreatDoor.FigA
end Go.Proofs.YthilcidoacgdfaaGreatDoor.FigA
namespace Go.Proofs.YthilcidoacgdfaaGreatDoor.FigD
end Go.Proofs.YthilcidoacgdfaaGreatDoor.FigD
namespace Go.Proofs.YthilcidoacgdfaaGreatDoor.FigG
end Go.Proofs.YthilcidoacgdfaaGreatDoor.FigG
namespace Go.Proofs.YthilcidoacgdfaaGreatDoor.FigH
end Go.Proofs.YthilcidoacgdfaaGreatDoor.FigH
namespace Go.Proofs.YthilcidoacgdfaaGreatDoor.FigI
end Go.Proofs.YthilcidoacgdfaaGreatDoor.FigI
namespace Go.Proofs.YthilcidoacgdfaaGreatDoor.SpanA
end Go.Proofs.YthilcidoacgdfaaGreatDoor.SpanA
namespace Go.Proofs.YthilcidoacgdfaaGreatDoor.ValA
end Go.Proofs.YthilcidoacgdfaaGreatDoor.ValA
namespace Go.Proofs.YthilcidoacgdfaaGreatDoor.ValB
end Go.Proofs.YthilcidoacgdfaaGreatDoor.ValB
namespace Go.Proofs.YthilcidoacgdfaaGreatDoorW.PrintLast
end Go.Proofs.YthilcidoacgdfaaGreatDoorW.PrintLast
namespace Go.Proofs.YthilcidoacgdfaaGreatDoorW.PrintMore
end Go.Proofs.YthilcidoacgdfaaGreatDoorW.PrintMore
namespace Go.Proofs.YthilcidoacgdfaaGreatDoorW.PrintWords
end Go.Proofs.YthilcidoacgdfaaGreatDoorW.PrintWords
namespace Go.Proofs.YthilcidoacgdfaaGreatDoor.ValC
open Go.RowKit Go.Shelf Go.Proofs.YthilcidoacgdfaaGreatDoorW.PrintWords Go.Proofs.YthilcidoacgdfaaGreatDoorW.PrintLast Go.Proofs.YthilcidoacgdfaaGreatDoorW.PrintMore Go.Proofs.YthilcidoacgdfaaGreatDoor.CharB Go.Proofs.YthilcidoacgdfaaGreatDoor.CharF Go.Proofs.YthilcidoacgdfaaGreatDoor.SpanA Go.Proofs.YthilcidoacgdfaaGreatDoor.DecA Go.Proofs.YthilcidoacgdfaaGreatDoor.DecE Go.Proofs.YthilcidoacgdfaaGreatDoor.FigA Go.Proofs.YthilcidoacgdfaaGreatDoor.FigD Go.Proofs.YthilcidoacgdfaaGreatDoor.FigG Go.Proofs.YthilcidoacgdfaaGreatDoor.FigH Go.Proofs.YthilcidoacgdfaaGreatDoor.FigI Go.Proofs.YthilcidoacgdfaaGreatDoor.ValA Go.Proofs.YthilcidoacgdfaaGreatDoor.ValB
set_option linter.unusedVariables false
set_option linter.unusedSimpArgs false
theorem pad_one (k n d q : Nat) (h1 : n % 10 = d) (h2 : n / 10 = q) : padL (k + 1) (dg n) = (d : Int) :: padL k (dg q) := by rw [pad_step, h1, h2]
theorem wk_show : showS (0, 2500000) = [50, 46, 53] := by
  have e1 : decP 1 2 = [50] := by unfold decP; rw [pad_one 0 2 2 0 rfl rfl, dg_zero]; decide +kernel
  have e2 : decP 6 500000 = [53, 48, 48, 48, 48, 48] := by
    unfold decP
    rw [pad_one 5 500000 0 50000 rfl rfl, pad_one 4 50000 0 5000 rfl rfl, pad_one 3 5000 0 500 rfl rfl, pad_one 2 500 0 50 rfl rfl, pad_one 1 50 0 5 rfl rfl, pad_one 0 5 5 0 rfl rfl, dg_zero]
    decide +kernel
  have e3 : showN 2500000 = [50, 46, 53] := by
    unfold showN
    rw [show 2500000 / 1000000 = 2 from rfl, show 2500000 % 1000000 = 500000 from rfl, e1, e2]
    decide +kernel
  unfold showS
  rw [if_neg (by decide), if_neg (by decide), if_neg (by decide)]
  exact e3
theorem wk_read : readS [32, 55, 32] = (0, 7000000) := by decide +kernel
set_option maxHeartbeats 4000000 in
set_option maxRecDepth 100000 in
theorem works16 (w : World) (hT : Tabs w) : Calls Tryz.prog 18 #[] w fun e w' => e = .returned (.bool true) ∧ Below w.heap.size w w' := by
  have c1 := fun W => num_call 0 2500000 W
  have c2 := fun A c W => tostr_num A 0 c false 0 2500000 ⟨#[]⟩ W (by unfold I64; omega)
  rw [show nrm (0, 2500000) = (0, 2500000) from rfl, wk_show] at c2
  have c3 := fun W => str_call ⟨#[32, 55, 32]⟩ W
  have c4 : ∀ A c W, Below w.heap.size w W → _ := fun A c W hW => tonum_str A 0 c false 0 0 ⟨#[32, 55, 32]⟩ W (by show 3 ≤ _; omega) (tabs_below hT hW)
  rw [show (⟨#[32, 55, 32]⟩ : ByteArray).data.toList = [32, 55, 32] from rfl, wk_read] at c4
  have c5 := fun W => str_call ⟨#[97]⟩ W
  have c6 := fun A c W => tobool_str A 0 c false 0 0 ⟨#[97]⟩ W
  have e6 : (!(⟨#[97]⟩ : ByteArray).toList.isEmpty) = true := by rw [ByteArray.toList_eq]; rfl
  rw [e6] at c6
  have t1 : (ba [50, 46, 53]).toList = [50, 46, 53] := by rw [ByteArray.toList_eq]; rfl
  have HC4 := Aside0.mk c4
  have HC6 : Aside0 (∀ A c W, Calls Tryz.prog 16 #[.agg #[.int .i64 4, .slice A 0 c, .bool false, .int .i64 0, .int .i64 0, .string ⟨#[97]⟩]] W fun e w' => e = .returned (.bool true) ∧ Below W.heap.size W w') := ⟨c6⟩
  clear hT c4 c6
  go_enter Tryz.func18, Tryz.ntmps18
  go_wp2_with fail
  refine (c1 _).mono ?_
  rintro e w1 ⟨A1, k1, rfl, b1⟩
  have B1 := Aside0.mk b1
  clear b1
  go_wp2_with fail
  refine (c2 _ _ _).mono ?_
  rintro e w2 ⟨rfl, b2⟩
  have B2 := Aside0.mk (chain B1.out (Nat.le_refl _) b2)
  clear b2
  go_wp2_with fail
  refine (c3 _).mono ?_
  rintro e w3 ⟨A3, k3, rfl, b3⟩
  have b4 := chain B2.out (Nat.le_refl _) b3
  have hc := HC4.out A3 k3 _ b4
  have B3 := Aside0.mk b4
  clear b3 b4
  go_wp2_with fail
  refine hc.mono ?_
  rintro e w4 ⟨rfl, b5⟩
  have B4 := Aside0.mk (chain B3.out (Nat.le_refl _) b5)
  clear b5 hc
  go_wp2_with fail
  refine (c5 _).mono ?_
  rintro e w5 ⟨A5, k5, rfl, b6⟩
  have B5 := Aside0.mk (chain B4.out (Nat.le_refl _) b6)
  have hc := HC6.out A5 k5 w5
  clear b6
  go_wp2_with fail
  refine hc.mono ?_
  rintro e w6 ⟨rfl, b7⟩
  have B6 := Aside0.mk (chain B5.out (Nat.le_refl _) b7)
  clear b7
  go_wp2_with fail
  go_ret
  exact ⟨by first | rfl | (simp; done), B6.out⟩
end Go.Proofs.YthilcidoacgdfaaGreatDoor.ValC
