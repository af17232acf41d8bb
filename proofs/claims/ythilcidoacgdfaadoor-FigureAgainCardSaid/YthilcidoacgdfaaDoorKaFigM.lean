/- The laws of figure: shown again, and one: their walks. -/
import Derived.Test.YthilcidoacgdfaaDoorKaFigK
namespace Go.Proofs.YthilcidoacgdfaaDoor.DecA
end Go.Proofs.YthilcidoacgdfaaDoor.DecA
namespace Go.Proofs.YthilcidoacgdfaaDoor.DecE
end Go.Proofs.YthilcidoacgdfaaDoor.DecE
namespace Go.Proofs.YthilcidoacgdfaaDoor.DecF
end Go.Proofs.YthilcidoacgdfaaDoor.DecF
namespace Go.Proofs.YthilcidoacgdfaaDoor.FigA
end Go.Proofs.YthilcidoacgdfaaDoor.FigA
namespace Go.Proofs.YthilcidoacgdfaaDoor.FigB
end Go.Proofs.YthilcidoacgdfaaDoor.FigB
namespace Go.Proofs.YthilcidoacgdfaaDoor.FigD
end Go.Proofs.YthilcidoacgdfaaDoor.FigD
namespace Go.Proofs.YthilcidoacgdfaaDoor.FigE
end Go.Proofs.YthilcidoacgdfaaDoor.FigE
namespace Go.Proofs.YthilcidoacgdfaaDoor.FigF
end Go.Proofs.YthilcidoacgdfaaDoor.FigF
namespace Go.Proofs.YthilcidoacgdfaaDoor.FigG
end Go.Proofs.YthilcidoacgdfaaDoor.FigG
namespace Go.Proofs.YthilcidoacgdfaaDoor.FigH
end Go.Proofs.YthilcidoacgdfaaDoor.FigH
namespace Go.Proofs.YthilcidoacgdfaaDoor.FigI
end Go.Proofs.YthilcidoacgdfaaDoor.FigI
namespace Go.Proofs.YthilcidoacgdfaaDoor.FigJ
end Go.Proofs.YthilcidoacgdfaaDoor.FigJ
namespace Go.Proofs.YthilcidoacgdfaaDoor.FigK
end Go.Proofs.YthilcidoacgdfaaDoor.FigK
namespace Go.Proofs.YthilcidoacgdfaaDoor.FigL
end Go.Proofs.YthilcidoacgdfaaDoor.FigL
namespace Go.Proofs.YthilcidoacgdfaaDoor.SpanA
end Go.Proofs.YthilcidoacgdfaaDoor.SpanA
namespace Go.Proofs.YthilcidoacgdfaaDoorW.PrintLast
end Go.Proofs.YthilcidoacgdfaaDoorW.PrintLast
namespace Go.Proofs.YthilcidoacgdfaaDoorW.PrintMore
end Go.Proofs.YthilcidoacgdfaaDoorW.PrintMore
namespace Go.Proofs.YthilcidoacgdfaaDoorW.PrintWords
end Go.Proofs.YthilcidoacgdfaaDoorW.PrintWords
namespace Go.Proofs.YthilcidoacgdfaaDoor.FigM
open Go.RowKit Go.Shelf Go.Proofs.YthilcidoacgdfaaDoorW.PrintWords Go.Proofs.YthilcidoacgdfaaDoorW.PrintLast Go.Proofs.YthilcidoacgdfaaDoorW.PrintMore Go.Proofs.YthilcidoacgdfaaDoor.SpanA Go.Proofs.YthilcidoacgdfaaDoor.DecA Go.Proofs.YthilcidoacgdfaaDoor.DecE Go.Proofs.YthilcidoacgdfaaDoor.DecF Go.Proofs.YthilcidoacgdfaaDoor.FigA Go.Proofs.YthilcidoacgdfaaDoor.FigB Go.Proofs.YthilcidoacgdfaaDoor.FigD Go.Proofs.YthilcidoacgdfaaDoor.FigE Go.Proofs.YthilcidoacgdfaaDoor.FigF Go.Proofs.YthilcidoacgdfaaDoor.FigG Go.Proofs.YthilcidoacgdfaaDoor.FigH Go.Proofs.YthilcidoacgdfaaDoor.FigI Go.Proofs.YthilcidoacgdfaaDoor.FigJ Go.Proofs.YthilcidoacgdfaaDoor.FigK Go.Proofs.YthilcidoacgdfaaDoor.FigL
set_option linter.unusedVariables false
set_option linter.unusedSimpArgs false
set_option maxHeartbeats 4000000 in
set_option maxRecDepth 100000 in
theorem again_calls (s : ByteArray) (w : World) (hT : Tabs w) (hs : s.size ≤ 9223372036854775807) : Calls Tryd.prog 6 #[.string s] w fun e w' => e = .returned (.bool true) ∧ Below w.heap.size w w' := by
  by_cases hl : s.size ≤ 500
  · have hlb : decide ((500 : Int) < (s.size : Int)) = false := by simp; omega
    have c1 := read_call s w (by omega) hT
    have c5 : ∀ w', Below w.heap.size w w' → _ := fun w' hb => works_calls w' (tabs_below hT hb)
    have hn := nm_read s.data.toList
    have ha := again s.data.toList
    generalize readS s.data.toList = y at *
    obtain ⟨t, v⟩ := y
    simp only at c1 hn ha
    by_cases h0 : t = 0
    · have ha := ha h0
      subst h0
      have hi : I64 v := nm_i64 hn
      have hz := show_len 0 v hi
      have c2 := fun W => show_call 0 v hi W
      have c3 : ∀ w', Below w.heap.size w w' → _ := fun w' hb => read_call (ba (showS (0, v))) w' (by rw [ba_size]; omega) (tabs_below hT hb)
      rw [ba_list, ha] at c3
      generalize showS (0, v) = z at *
      clear hT hn ha hz hi
      go_enter Tryd.func6, Tryd.ntmps6
      go_wp2_with fail
      refine c1.mono ?_
      rintro e w1 ⟨rfl, b1⟩
      have X0 := box_new 0 v w1
      have B0 := b1.alloc b1.size (Obj.cells #[.int .i64 0, .int .i64 v] 23)
      have x0 := X0.c0
      have x1 := X0.c1
      have keepS : ∀ W W' : World, (W.cell? ⟨w1.heap.size, 0, none⟩ = some (.int .i64 0) ∧ W.cell? ⟨w1.heap.size, 1, none⟩ = some (.int .i64 v) ∧ Box w1.heap.size 0 v W ∧ Below w.heap.size w W) → Below W.heap.size W W' → (W'.cell? ⟨w1.heap.size, 0, none⟩ = some (.int .i64 0) ∧ W'.cell? ⟨w1.heap.size, 1, none⟩ = some (.int .i64 v) ∧ Box w1.heap.size 0 v W' ∧ Below w.heap.size w W') := fun W W' h hb => ⟨(h.2.2.1.below hb).c0, (h.2.2.1.below hb).c1, h.2.2.1.below hb, chain h.2.2.2 (Nat.le_refl _) hb⟩
      have S0 := Aside0.mk (And.intro X0.c0 (And.intro X0.c1 (And.intro X0 B0)))
      have KS := Aside0.mk keepS
      have C5 : Aside0 (∀ W : World, (W.cell? ⟨w1.heap.size, 0, none⟩ = some (.int .i64 0) ∧ W.cell? ⟨w1.heap.size, 1, none⟩ = some (.int .i64 v) ∧ Box w1.heap.size 0 v W ∧ Below w.heap.size w W) → Calls Tryd.prog 13 #[] W fun e w' => e = .returned (.bool true) ∧ Below W.heap.size W w') := ⟨fun W h => c5 W h.2.2.2⟩
      have C3 : Aside0 (∀ W : World, (W.cell? ⟨w1.heap.size, 0, none⟩ = some (.int .i64 0) ∧ W.cell? ⟨w1.heap.size, 1, none⟩ = some (.int .i64 v) ∧ Box w1.heap.size 0 v W ∧ Below w.heap.size w W) → Calls Tryd.prog 16 #[.string (ba z)] W fun e w' => e = .returned (.agg #[.int .i64 0, .int .i64 v]) ∧ Below W.heap.size W w') := ⟨fun W h => c3 W h.2.2.2⟩
      clear keepS X0 B0 c5 c3 b1 c1
      go_wp2_with fail
      go_region_held3 (fun w' => w'.cell? ⟨w1.heap.size, 0, none⟩ = some (.int .i64 0) ∧ w'.cell? ⟨w1.heap.size, 1, none⟩ = some (.int .i64 v) ∧ Box w1.heap.size 0 v w' ∧ Below w.heap.size w w') (first | exact ⟨S0.out.1, S0.out.2.1, S0.out.2.2.1, Below.drew S0.out.2.2.2⟩ | exact KS.out _ _ (by assumption) (by assumption) | exact KS.out _ _ ⟨by assumption, by assumption, by assumption, by assumption⟩ (by assumption))
        (first | (go_at_call 11; refine (c2 _).mono ?_; rintro e w' ⟨rfl, hb⟩) | (go_at_call 16; refine (C3.out _ (by assumption)).mono ?_; rintro e w' ⟨rfl, hb⟩) | (go_at_call 13; refine (C5.out _ (by assumption)).mono ?_; rintro e w' ⟨rfl, hb⟩))
      go_wp2_with fail
      go_ret
      refine ⟨by first | rfl | (simp; done), ?_⟩
      have hS : ∀ W : World, (W.cell? ⟨w1.heap.size, 0, none⟩ = some (.int .i64 0) ∧ W.cell? ⟨w1.heap.size, 1, none⟩ = some (.int .i64 v) ∧ Box w1.heap.size 0 v W ∧ Below w.heap.size w W) → Below w.heap.size w W := fun W h => h.2.2.2
      first | assumption | exact hS _ (by assumption) | exact hS _ (KS.out _ _ (by assumption) (by assumption))
    · have ht2 : (t != 0) = true := by simpa using h0
      clear hT hn ha h0
      go_enter Tryd.func6, Tryd.ntmps6
      go_wp2_with fail
      refine c1.mono ?_
      rintro e w1 ⟨rfl, b1⟩
      have X0 := box_new t v w1
      have B0 := Aside0.mk (b1.alloc b1.size (Obj.cells #[.int .i64 t, .int .i64 v] 23))
      have x0 := X0.c0
      clear b1 X0
      go_wp2_with fail
      refine (c5 _ B0.out).mono ?_
      rintro e w5 ⟨rfl, b5⟩
      have B5 := Aside0.mk (chain B0.out (Nat.le_refl _) b5)
      clear b5
      go_wp2_with fail
      go_ret
      exact ⟨rfl, B5.out⟩
  · have hlb : decide ((500 : Int) < (s.size : Int)) = true := by simp; omega
    have c5 := works_calls w hT
    clear hT
    go_enter Tryd.func6, Tryd.ntmps6
    go_wp2_with fail
    refine c5.mono ?_
    rintro e w5 ⟨rfl, b5⟩
    go_wp2_with fail
    go_ret
    exact ⟨rfl, b5⟩
end Go.Proofs.YthilcidoacgdfaaDoor.FigM
