/- The laws of figure: their walks. -/
import Derived.Test.YthilcidoacgdfaaDoorKrFigI
import Derived.Test.YthilcidoacgdfaaDoorKrFigJ
import Derived.Deep.RegionHeld3
namespace Go.Proofs.YthilcidoacgdfaaDoor.DecA
end Go.Proofs.YthilcidoacgdfaaDoor.DecA
namespace Go.Proofs.YthilcidoacgdfaaDoor.DecE
end Go.Proofs.YthilcidoacgdfaaDoor.DecE
namespace Go.Proofs.YthilcidoacgdfaaDoor.DecF
end Go.Proofs.YthilcidoacgdfaaDoor.DecF
namespace Go.Proofs.YthilcidoacgdfaaDoor.FigA
end Go.Proofs.YthilcidoacgdfaaDoor.FigA
namespace Go.Proofs.YthilcidoacgdfaaDoor.FigB
end Go.Proofs.YthilcidoacgdfaaDoor.FigB
namespace Go.Proofs.YthilcidoacgdfaaDoor.FigD
end Go.Proofs.YthilcidoacgdfaaDoor.FigD
namespace Go.Proofs.YthilcidoacgdfaaDoor.FigE
end Go.Proofs.YthilcidoacgdfaaDoor.FigE
namespace Go.Proofs.YthilcidoacgdfaaDoor.FigF
end Go.Proofs.YthilcidoacgdfaaDoor.FigF
namespace Go.Proofs.YthilcidoacgdfaaDoor.FigG
end Go.Proofs.YthilcidoacgdfaaDoor.FigG
namespace Go.Proofs.YthilcidoacgdfaaDoor.FigH
end Go.Proofs.YthilcidoacgdfaaDoor.FigH
namespace Go.Proofs.YthilcidoacgdfaaDoor.FigI
end Go.Proofs.YthilcidoacgdfaaDoor.FigI
namespace Go.Proofs.YthilcidoacgdfaaDoor.FigJ
end Go.Proofs.YthilcidoacgdfaaDoor.FigJ
namespace Go.Proofs.YthilcidoacgdfaaDoor.SpanA
end Go.Proofs.YthilcidoacgdfaaDoor.SpanA
namespace Go.Proofs.YthilcidoacgdfaaDoorW.PrintLast
end Go.Proofs.YthilcidoacgdfaaDoorW.PrintLast
namespace Go.Proofs.YthilcidoacgdfaaDoorW.PrintMore
end Go.Proofs.YthilcidoacgdfaaDoorW.PrintMore
namespace Go.Proofs.YthilcidoacgdfaaDoorW.PrintWords
end Go.Proofs.YthilcidoacgdfaaDoorW.PrintWords
namespace Go.Proofs.YthilcidoacgdfaaDoor.FigK
open Go.RowKit Go.Shelf Go.Proofs.YthilcidoacgdfaaDoorW.PrintWords Go.Proofs.YthilcidoacgdfaaDoorW.PrintLast Go.Proofs.YthilcidoacgdfaaDoorW.PrintMore Go.Proofs.YthilcidoacgdfaaDoor.SpanA Go.Proofs.YthilcidoacgdfaaDoor.DecA Go.Proofs.YthilcidoacgdfaaDoor.DecE Go.Proofs.YthilcidoacgdfaaDoor.DecF Go.Proofs.YthilcidoacgdfaaDoor.FigA Go.Proofs.YthilcidoacgdfaaDoor.FigB Go.Proofs.YthilcidoacgdfaaDoor.FigD Go.Proofs.YthilcidoacgdfaaDoor.FigE Go.Proofs.YthilcidoacgdfaaDoor.FigF Go.Proofs.YthilcidoacgdfaaDoor.FigG Go.Proofs.YthilcidoacgdfaaDoor.FigH Go.Proofs.YthilcidoacgdfaaDoor.FigI Go.Proofs.YthilcidoacgdfaaDoor.FigJ
set_option linter.unusedVariables false
set_option linter.unusedSimpArgs false
theorem rlit (s : ByteArray) (hs : s.size ≤ 600) (w : World) : Calls Tryd.prog 15 #[.string s] w fun e w' => e = .returned (.tuple #[.agg #[.int .i64 (litS s.data.toList).1.1, .int .i64 (litS s.data.toList).1.2], .bool (litS s.data.toList).2]) ∧ Below w.heap.size w w' := PF.breviaryref04_Lit.calls 6001 s _ _ _ w (ref_lit s.data.toList (by rw [← Lib.size_eq]; exact hs) _ (by omega))
theorem rread (s : ByteArray) (hs : s.size ≤ 600) (w : World) : Calls Tryd.prog 17 #[.string s] w fun e w' => e = .returned (.agg #[.int .i64 (readS s.data.toList).1, .int .i64 (readS s.data.toList).2]) ∧ Below w.heap.size w w' := PF.breviaryref04_Read.calls 8001 s _ _ w (ref_read s.data.toList (by rw [← Lib.size_eq]; exact hs) _ (by omega))
theorem pad_one (k n d q : Nat) (h1 : n % 10 = d) (h2 : n / 10 = q) : padL (k + 1) (dg n) = (d : Int) :: padL k (dg q) := by rw [pad_step, h1, h2]
theorem wk_show : showS (0, 2500000) = [50, 46, 53] := by
  have e1 : decP 1 2 = [50] := by unfold decP; rw [pad_one 0 2 2 0 rfl rfl, dg_zero]; decide +kernel
  have e2 : decP 6 500000 = [53, 48, 48, 48, 48, 48] := by
    unfold decP
    rw [pad_one 5 500000 0 50000 rfl rfl, pad_one 4 50000 0 5000 rfl rfl, pad_one 3 5000 0 500 rfl rfl, pad_one 2 500 0 50 rfl rfl, pad_one 1 50 0 5 rfl rfl, pad_one 0 5 5 0 rfl rfl, dg_zero]
    decide +kernel
  have e3 : showN 2500000 = [50, 46, 53] := by
    unfold showN
    rw [show 2500000 / 1000000 = 2 from rfl, show 2500000 % 1000000 = 500000 from rfl, e1, e2]
    decide +kernel
  unfold showS
  rw [if_neg (by decide), if_neg (by decide), if_neg (by decide)]
  exact e3
theorem wk_read : readS [32, 45, 49, 46, 53, 48, 32] = (0, -1500000) := by decide +kernel
set_option maxHeartbeats 4000000 in
set_option maxRecDepth 100000 in
theorem works_calls (w : World) (hT : Tabs w) : Calls Tryd.prog 13 #[] w fun e w' => e = .returned (.bool true) ∧ Below w.heap.size w w' := by
  have c1 := show_call 0 2500000 (by unfold I64; omega) w
  rw [wk_show] at c1
  have c2 : ∀ w', Below w.heap.size w w' → _ := fun w' hb => read_call ⟨#[32, 45, 49, 46, 53, 48, 32]⟩ w' (by show 7 ≤ _; omega) (tabs_below hT hb)
  rw [show (⟨#[32, 45, 49, 46, 53, 48, 32]⟩ : ByteArray).data.toList = [32, 45, 49, 46, 53, 48, 32] from rfl, wk_read] at c2
  have t1 : (ba [50, 46, 53]).toList = [50, 46, 53] := nil_of _
  clear hT
  go_enter Tryd.func13, Tryd.ntmps13
  go_wp2_with fail
  refine c1.mono ?_
  rintro e w1 ⟨rfl, b1⟩
  go_wp2_with fail
  refine (c2 w1 b1).mono ?_
  rintro e w2 ⟨rfl, b2⟩
  have B2 := chain b1 (Nat.le_refl _) b2
  go_wp2_with fail
  go_ret
  exact ⟨by first | rfl | (simp [t1]; done) | decide +kernel, B2⟩
set_option maxHeartbeats 4000000 in
set_option maxRecDepth 100000 in
theorem reads_calls (s : ByteArray) (w : World) (hT : Tabs w) (hs : s.size ≤ 9223372036854775807) : Calls Tryd.prog 4 #[.string s] w fun e w' => e = .returned (.bool true) ∧ Below w.heap.size w w' := by
  by_cases hl : s.size ≤ 500
  · have hlb : decide ((500 : Int) < (s.size : Int)) = false := by simp; omega
    have c1 := fun W => lit_call s W (by omega)
    have c2 := fun W => rlit s (by omega) W
    have c3 : ∀ w', Below w.heap.size w w' → _ := fun w' hb => read_call s w' (by omega) (tabs_below hT hb)
    have c4 := fun W => rread s (by omega) W
    have c5 : ∀ w', Below w.heap.size w w' → _ := fun w' hb => works_calls w' (tabs_below hT hb)
    generalize litS s.data.toList = z at *
    generalize readS s.data.toList = y at *
    obtain ⟨⟨z1, z2⟩, z3⟩ := z
    obtain ⟨y1, y2⟩ := y
    simp only at c1 c2 c3 c4
    clear hT
    go_enter Tryd.func4, Tryd.ntmps4
    go_wp2_with fail
    refine (c1 _).mono ?_
    rintro e w1 ⟨rfl, b1⟩
    have X1 := box_new z1 z2 w1
    have B1 := b1.alloc b1.size (Obj.cells #[.int .i64 z1, .int .i64 z2] 23)
    go_wp2_with fail
    refine (c2 _).mono ?_
    rintro e w2 ⟨rfl, b2⟩
    have X2 := X1.below b2
    have B2 := chain B1 (Nat.le_refl _) b2
    have Y2 := box_new z1 z2 w2
    have al := (Below.refl w2.heap.size w2).alloc (Nat.le_refl _) (Obj.cells #[.int .i64 z1, .int .i64 z2] 23)
    have X3 := X2.below al
    have B3 := chain B2 (Nat.le_refl _) al
    have HB3 := Aside0.mk B3
    clear X1 X2 b1 b2 B1 B2 al B3 c1 c2
    go_wp2_with fail
    refine (c3 _ HB3.out).mono ?_
    rintro e w3 ⟨rfl, b3⟩
    have X4 := X3.below b3
    have Y4 := Y2.below b3
    have B4 := chain HB3.out (Nat.le_refl _) b3
    clear X3 Y2 b3 HB3 c3
    go_wp2_with fail
    refine (c4 _).mono ?_
    rintro e w4 ⟨rfl, b4⟩
    have X5 := X4.below b4
    have Y5 := Y4.below b4
    have B5 := Aside0.mk (chain B4 (Nat.le_refl _) b4)
    have x0 := X5.c0
    have x1 := X5.c1
    have q0 := Y5.c0
    have q1 := Y5.c1
    clear X4 Y4 X5 Y5 B4 b4 c4
    go_wp2_with fail
    refine (c5 _ B5.out).mono ?_
    rintro e w5 ⟨rfl, b5⟩
    have B6 := Aside0.mk (chain B5.out (Nat.le_refl _) b5)
    clear b5
    go_wp2_with fail
    go_ret
    exact ⟨by first | rfl | (simp; done), B6.out⟩
  · have hlb : decide ((500 : Int) < (s.size : Int)) = true := by simp; omega
    have c5 := works_calls w hT
    clear hT
    go_enter Tryd.func4, Tryd.ntmps4
    go_wp2_with fail
    refine c5.mono ?_
    rintro e w5 ⟨rfl, b5⟩
    go_wp2_with fail
    go_ret
    exact ⟨rfl, b5⟩
end Go.Proofs.YthilcidoacgdfaaDoor.FigK
