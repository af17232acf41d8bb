/- The laws of figure: their walks. -/
import Derived.Test.YthilcidoacgdfaaDoorKoFigI
import Derived.Test.YthilcidoacgdfaaDoorKoFigB
import Derived.Deep.RegionHeld3
namespace Go.Proofs.YthilcidoacgdfaaDoor.DecA
end Go.Proofs.YthilcidoacgdfaaDoor.DecA
namespace Go.Proofs.YthilcidoacgdfaaDoor.DecE
end Go.Proofs.YthilcidoacgdfaaDoor.DecE
namespace Go.Proofs.YthilcidoacgdfaaDoor.DecF
end Go.Proofs.YthilcidoacgdfaaDoor.DecF
namespace Go.Proofs.YthilcidoacgdfaaDoor.FigA
end Go.Proofs.YthilcidoacgdfaaDoor.FigA
namespace Go.Proofs.YthilcidoacgdfaaDoor.FigB
end Go.Proofs.YthilcidoacgdfaaDoor.FigB
namespace Go.Proofs.YthilcidoacgdfaaDoor.FigD
end Go.Proofs.YthilcidoacgdfaaDoor.FigD
namespace Go.Proofs.YthilcidoacgdfaaDoor.FigE
end Go.Proofs.YthilcidoacgdfaaDoor.FigE
namespace Go.Proofs.YthilcidoacgdfaaDoor.FigF
end Go.Proofs.YthilcidoacgdfaaDoor.FigF
namespace Go.Proofs.YthilcidoacgdfaaDoor.FigG
end Go.Proofs.YthilcidoacgdfaaDoor.FigG
namespace Go.Proofs.YthilcidoacgdfaaDoor.FigH
end Go.Proofs.YthilcidoacgdfaaDoor.FigH
namespace Go.Proofs.YthilcidoacgdfaaDoor.FigI
end Go.Proofs.YthilcidoacgdfaaDoor.FigI
namespace Go.Proofs.YthilcidoacgdfaaDoor.FigJ
end Go.Proofs.YthilcidoacgdfaaDoor.FigJ
namespace Go.Proofs.YthilcidoacgdfaaDoor.SpanA
end Go.Proofs.YthilcidoacgdfaaDoor.SpanA
namespace Go.Proofs.YthilcidoacgdfaaDoorW.PrintLast
end Go.Proofs.YthilcidoacgdfaaDoorW.PrintLast
namespace Go.Proofs.YthilcidoacgdfaaDoorW.PrintMore
end Go.Proofs.YthilcidoacgdfaaDoorW.PrintMore
namespace Go.Proofs.YthilcidoacgdfaaDoorW.PrintWords
end Go.Proofs.YthilcidoacgdfaaDoorW.PrintWords
namespace Go.Proofs.YthilcidoacgdfaaDoor.FigK
open Go.RowKit Go.Shelf Go.Proofs.YthilcidoacgdfaaDoorW.PrintWords Go.Proofs.YthilcidoacgdfaaDoorW.PrintLast Go.Proofs.YthilcidoacgdfaaDoorW.PrintMore Go.Proofs.YthilcidoacgdfaaDoor.SpanA Go.Proofs.YthilcidoacgdfaaDoor.DecA Go.Proofs.YthilcidoacgdfaaDoor.DecE Go.Proofs.YthilcidoacgdfaaDoor.DecF Go.Proofs.YthilcidoacgdfaaDoor.FigA Go.Proofs.YthilcidoacgdfaaDoor.FigB Go.Proofs.YthilcidoacgdfaaDoor.FigD Go.Proofs.YthilcidoacgdfaaDoor.FigE Go.Proofs.YthilcidoacgdfaaDoor.FigF Go.Proofs.YthilcidoacgdfaaDoor.FigG Go.Proofs.YthilcidoacgdfaaDoor.FigH Go.Proofs.YthilcidoacgdfaaDoor.FigI Go.Proofs.YthilcidoacgdfaaDoor.FigJ
set_option linter.unusedVariables false
set_option linter.unusedSimpArgs false
theorem pad_one (k n d q : Nat) (h1 : n % 10 = d) (h2 : n / 10 = q) : padL (k + 1) (dg n) = (d : Int) :: padL k (dg q) := by rw [pad_step, h1, h2]
theorem wk_show : showS (0, 2500000) = [50, 46, 53] := by
  have e1 : decP 1 2 = [50] := by unfold decP; rw [pad_one 0 2 2 0 rfl rfl, dg_zero]; decide +kernel
  have e2 : decP 6 500000 = [53, 48, 48, 48, 48, 48] := by
    unfold decP
    rw [pad_one 5 500000 0 50000 rfl rfl, pad_one 4 50000 0 5000 rfl rfl, pad_one 3 5000 0 500 rfl rfl, pad_one 2 500 0 50 rfl rfl, pad_one 1 50 0 5 rfl rfl, pad_one 0 5 5 0 rfl rfl, dg_zero]
    decide +kernel
  have e3 : showN 2500000 = [50, 46, 53] := by
    unfold showN
    rw [show 2500000 / 1000000 = 2 from rfl, show 2500000 % 1000000 = 500000 from rfl, e1, e2]
    decide +kernel
  unfold showS
  rw [if_neg (by decide), if_neg (by decide), if_neg (by decide)]
  exact e3
theorem wk_read : readS [32, 45, 49, 46, 53, 48, 32] = (0, -1500000) := by decide +kernel
set_option maxHeartbeats 4000000 in
set_option maxRecDepth 100000 in
theorem works_calls (w : World) (hT : Tabs w) : Calls Tryd.prog 13 #[] w fun e w' => e = .returned (.bool true) ∧ Below w.heap.size w w' := by
  have c1 := show_call 0 2500000 (by unfold I64; omega) w
  rw [wk_show] at c1
  have c2 : ∀ w', Below w.heap.size w w' → _ := fun w' hb => read_call ⟨#[32, 45, 49, 46, 53, 48, 32]⟩ w' (by show 7 ≤ _; omega) (tabs_below hT hb)
  rw [show (⟨#[32, 45, 49, 46, 53, 48, 32]⟩ : ByteArray).data.toList = [32, 45, 49, 46, 53, 48, 32] from rfl, wk_read] at c2
  have t1 : (ba [50, 46, 53]).toList = [50, 46, 53] := nil_of _
  clear hT
  go_enter Tryd.func13, Tryd.ntmps13
  go_wp2_with fail
  refine c1.mono ?_
  rintro e w1 ⟨rfl, b1⟩
  go_wp2_with fail
  refine (c2 w1 b1).mono ?_
  rintro e w2 ⟨rfl, b2⟩
  have B2 := chain b1 (Nat.le_refl _) b2
  go_wp2_with fail
  go_ret
  exact ⟨by first | rfl | (simp [t1]; done) | decide +kernel, B2⟩
end Go.Proofs.YthilcidoacgdfaaDoor.FigK
