/- The laws of esc that put and get back, and that get one character: their walks. -/
import Derived.Test.YticpobgkbapdmaaDoorKbEscN
namespace Go.Proofs.YticpobgkbapdmaaDoor.CharA
end Go.Proofs.YticpobgkbapdmaaDoor.CharA
namespace Go.Proofs.YticpobgkbapdmaaDoor.CharB
end Go.Proofs.YticpobgkbapdmaaDoor.CharB
namespace Go.Proofs.YticpobgkbapdmaaDoor.CharC
end Go.Proofs.YticpobgkbapdmaaDoor.CharC
namespace Go.Proofs.YticpobgkbapdmaaDoor.CharD
end Go.Proofs.YticpobgkbapdmaaDoor.CharD
namespace Go.Proofs.YticpobgkbapdmaaDoor.CharE
end Go.Proofs.YticpobgkbapdmaaDoor.CharE
namespace Go.Proofs.YticpobgkbapdmaaDoor.CharF
end Go.Proofs.YticpobgkbapdmaaDoor.CharF
namespace Go.Proofs.YticpobgkbapdmaaDoor.CharH
end Go.Proofs.YticpobgkbapdmaaDoor.CharH
namespace Go.Proofs.YticpobgkbapdmaaDoor.EscA
end Go.Proofs.YticpobgkbapdmaaDoor.EscA
namespace Go.Proofs.YticpobgkbapdmaaDoor.EscB
end Go.Proofs.YticpobgkbapdmaaDoor.EscB
namespace Go.Proofs.YticpobgkbapdmaaDoor.EscC
end Go.Proofs.YticpobgkbapdmaaDoor.EscC
namespace Go.Proofs.YticpobgkbapdmaaDoor.EscD
end Go.Proofs.YticpobgkbapdmaaDoor.EscD
namespace Go.Proofs.YticpobgkbapdmaaDoor.EscF
end Go.Proofs.YticpobgkbapdmaaDoor.EscF
namespace Go.Proofs.YticpobgkbapdmaaDoor.EscG
end Go.Proofs.YticpobgkbapdmaaDoor.EscG
namespace Go.Proofs.YticpobgkbapdmaaDoor.EscI
end Go.Proofs.YticpobgkbapdmaaDoor.EscI
namespace Go.Proofs.YticpobgkbapdmaaDoor.EscJ
end Go.Proofs.YticpobgkbapdmaaDoor.EscJ
namespace Go.Proofs.YticpobgkbapdmaaDoor.EscK
end Go.Proofs.YticpobgkbapdmaaDoor.EscK
namespace Go.Proofs.YticpobgkbapdmaaDoor.EscL
end Go.Proofs.YticpobgkbapdmaaDoor.EscL
namespace Go.Proofs.YticpobgkbapdmaaDoor.EscM
end Go.Proofs.YticpobgkbapdmaaDoor.EscM
namespace Go.Proofs.YticpobgkbapdmaaDoor.EscN
end Go.Proofs.YticpobgkbapdmaaDoor.EscN
namespace Go.Proofs.YticpobgkbapdmaaDoor.SpanA
end Go.Proofs.YticpobgkbapdmaaDoor.SpanA
namespace Go.Proofs.YticpobgkbapdmaaDoor.SpanB
end Go.Proofs.YticpobgkbapdmaaDoor.SpanB
namespace Go.Proofs.YticpobgkbapdmaaDoor.SpanC
end Go.Proofs.YticpobgkbapdmaaDoor.SpanC
namespace Go.Proofs.YticpobgkbapdmaaDoor.SpanD
end Go.Proofs.YticpobgkbapdmaaDoor.SpanD
namespace Go.Proofs.YticpobgkbapdmaaDoor.SpanE
end Go.Proofs.YticpobgkbapdmaaDoor.SpanE
namespace Go.Proofs.YticpobgkbapdmaaDoor.SpanF
end Go.Proofs.YticpobgkbapdmaaDoor.SpanF
namespace Go.Proofs.YticpobgkbapdmaaDoorW.PrintLast
end Go.Proofs.YticpobgkbapdmaaDoorW.PrintLast
namespace Go.Proofs.YticpobgkbapdmaaDoorW.PrintMore
end Go.Proofs.YticpobgkbapdmaaDoorW.PrintMore
namespace Go.Proofs.YticpobgkbapdmaaDoorW.PrintWords
end Go.Proofs.YticpobgkbapdmaaDoorW.PrintWords
namespace Go.Proofs.YticpobgkbapdmaaDoor.EscO
open Go.RowKit Go.Shelf Go.Proofs.YticpobgkbapdmaaDoorW.PrintWords Go.Proofs.YticpobgkbapdmaaDoorW.PrintLast Go.Proofs.YticpobgkbapdmaaDoorW.PrintMore Go.Proofs.YticpobgkbapdmaaDoor.CharA Go.Proofs.YticpobgkbapdmaaDoor.CharB Go.Proofs.YticpobgkbapdmaaDoor.CharC Go.Proofs.YticpobgkbapdmaaDoor.CharD Go.Proofs.YticpobgkbapdmaaDoor.CharE Go.Proofs.YticpobgkbapdmaaDoor.CharF Go.Proofs.YticpobgkbapdmaaDoor.CharH Go.Proofs.YticpobgkbapdmaaDoor.SpanA Go.Proofs.YticpobgkbapdmaaDoor.SpanB Go.Proofs.YticpobgkbapdmaaDoor.SpanC Go.Proofs.YticpobgkbapdmaaDoor.SpanD Go.Proofs.YticpobgkbapdmaaDoor.SpanE Go.Proofs.YticpobgkbapdmaaDoor.SpanF Go.Proofs.YticpobgkbapdmaaDoor.EscA Go.Proofs.YticpobgkbapdmaaDoor.EscB Go.Proofs.YticpobgkbapdmaaDoor.EscC Go.Proofs.YticpobgkbapdmaaDoor.EscD Go.Proofs.YticpobgkbapdmaaDoor.EscF Go.Proofs.YticpobgkbapdmaaDoor.EscG Go.Proofs.YticpobgkbapdmaaDoor.EscI Go.Proofs.YticpobgkbapdmaaDoor.EscJ Go.Proofs.YticpobgkbapdmaaDoor.EscK Go.Proofs.YticpobgkbapdmaaDoor.EscL Go.Proofs.YticpobgkbapdmaaDoor.EscM Go.Proofs.YticpobgkbapdmaaDoor.EscN
set_option linter.unusedVariables false
set_option linter.unusedSimpArgs false
set_option maxHeartbeats 8000000 in
set_option maxRecDepth 100000 in
theorem back_calls (s : ByteArray) (w : World) (h : Fit w) (hs : s.size ≤ 9223372036854775807) :
    Calls Tryd.prog 16 #[.string s] w fun e w' => e = .returned (.bool true) ∧ Below w.heap.size w w' := by
  by_cases hl : s.size ≤ 2000
  · have hlb : decide ((2000 : Int) < (s.size : Int)) = false := by simp; omega
    have cw : ∀ w', Below w.heap.size w w' → _ := fun w' hb => works_calls w' (fit_below h hb)
    have l0 := (put_len false s.data.toList).2
    have l1 := (put_len true s.data.toList).2
    rw [← Lib.size_eq] at l0 l1
    have p0 := put_calls s (by omega) w
    have g0 : ∀ w', Below w.heap.size w w' → _ := fun w' hb => get0 (ba (putL false s.data.toList)) (by rw [ba_size]; omega) w' (fit_below h hb)
    have p1 := putAttr_calls s (by omega)
    have g1 : ∀ w', Below w.heap.size w w' → _ := fun w' hb => get1 (ba (putL true s.data.toList)) (by rw [ba_size]; omega) w' (fit_below h hb)
    have rt := rtext s (by omega)
    rw [get_put] at g0 g1
    generalize putL false s.data.toList = x at *
    generalize putL true s.data.toList = y at *
    clear h l0 l1
    cases ht : textB s with
    | false =>
      rw [ht] at g0 g1 rt
      simp only [Bool.false_eq_true, if_false] at g0 g1
      have t1 : (ba []).toList = [] := ba_tl _
      clear ht
      go_enter Tryd.func16, Tryd.ntmps16
      go_wp2_with fail
      refine p0.mono ?_
      rintro e w1 ⟨rfl, b1⟩
      go_wp2_with fail
      refine (g0 w1 b1).mono ?_
      rintro e w2 ⟨rfl, b2⟩
      have B2 := chain b1 (Nat.le_refl _) b2
      go_wp2_with fail
      refine (p1 w2).mono ?_
      rintro e w3 ⟨rfl, b3⟩
      have B3 := chain B2 (Nat.le_refl _) b3
      go_wp2_with fail
      refine (g1 w3 B3).mono ?_
      rintro e w4 ⟨rfl, b4⟩
      have B4 := chain B3 (Nat.le_refl _) b4
      go_wp2_with fail
      refine (rt w4).mono ?_
      rintro e w5 ⟨rfl, b5⟩
      have B5 := chain B4 (Nat.le_refl _) b5
      go_wp2_with fail
      refine (cw w5 B5).mono ?_
      rintro e w6 ⟨rfl, b6⟩
      have B6 := chain B5 (Nat.le_refl _) b6
      go_wp2_with fail
      go_ret
      exact ⟨by first | rfl | (simp [t1]; done), B6⟩
    | true =>
      rw [ht] at g0 g1 rt
      simp only [if_true] at g0 g1
      rw [ba_data] at g0 g1
      clear ht
      go_enter Tryd.func16, Tryd.ntmps16
      go_wp2_with fail
      refine p0.mono ?_
      rintro e w1 ⟨rfl, b1⟩
      go_wp2_with fail
      refine (g0 w1 b1).mono ?_
      rintro e w2 ⟨rfl, b2⟩
      have B2 := chain b1 (Nat.le_refl _) b2
      go_wp2_with fail
      refine (p1 w2).mono ?_
      rintro e w3 ⟨rfl, b3⟩
      have B3 := chain B2 (Nat.le_refl _) b3
      go_wp2_with fail
      refine (g1 w3 B3).mono ?_
      rintro e w4 ⟨rfl, b4⟩
      have B4 := chain B3 (Nat.le_refl _) b4
      go_wp2_with fail
      refine (rt w4).mono ?_
      rintro e w5 ⟨rfl, b5⟩
      have B5 := chain B4 (Nat.le_refl _) b5
      go_wp2_with fail
      refine (cw w5 B5).mono ?_
      rintro e w6 ⟨rfl, b6⟩
      have B6 := chain B5 (Nat.le_refl _) b6
      go_wp2_with fail
      go_ret
      exact ⟨rfl, B6⟩
  · have hlb : decide ((2000 : Int) < (s.size : Int)) = true := by simp; omega
    have c5 := works_calls w h
    clear h
    go_enter Tryd.func16, Tryd.ntmps16
    go_wp2_with fail
    refine c5.mono ?_
    rintro e w5 ⟨rfl, b5⟩
    go_wp2_with fail
    go_ret
    exact ⟨rfl, b5⟩
theorem fit_of (w : World) (hT : Tabs w) (hS : w.ShapedOpen Tryd.prog) : Fit w := by
  have hm := Tryd.laysM219.s1_3 w hS
  obtain ⟨m, hm⟩ := hm
  exact ⟨hT, ⟨m, hm⟩, World.block_lt_of_cell? w _ hm⟩
theorem backW (s : ByteArray) (w : World) (hT : Tabs w) (hS : w.ShapedOpen Tryd.prog) (hs : s.size ≤ 9223372036854775807) : Calls Tryd.prog 16 #[.string s] w fun e w' => e = .returned (.bool true) ∧ Below w.heap.size w w' := back_calls s w (fit_of w hT hS) hs
end Go.Proofs.YticpobgkbapdmaaDoor.EscO
