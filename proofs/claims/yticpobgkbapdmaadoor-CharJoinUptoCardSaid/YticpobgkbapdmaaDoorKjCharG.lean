/- The walk of CharJoin. -/
import Derived.Test.YticpobgkbapdmaaDoorKjCharE
import Derived.Test.YticpobgkbapdmaaDoorKjCharF
namespace Go.Proofs.YticpobgkbapdmaaDoor.CharA
end Go.Proofs.YticpobgkbapdmaaDoor.CharA
namespace Go.Proofs.YticpobgkbapdmaaDoor.CharB
end Go.Proofs.YticpobgkbapdmaaDoor.CharB
namespace Go.Proofs.YticpobgkbapdmaaDoor.CharC
end Go.Proofs.YticpobgkbapdmaaDoor.CharC
namespace Go.Proofs.YticpobgkbapdmaaDoor.CharD
end Go.Proofs.YticpobgkbapdmaaDoor.CharD
namespace Go.Proofs.YticpobgkbapdmaaDoor.CharE
end Go.Proofs.YticpobgkbapdmaaDoor.CharE
namespace Go.Proofs.YticpobgkbapdmaaDoor.CharF
end Go.Proofs.YticpobgkbapdmaaDoor.CharF
namespace Go.Proofs.YticpobgkbapdmaaDoorW.PrintLast
end Go.Proofs.YticpobgkbapdmaaDoorW.PrintLast
namespace Go.Proofs.YticpobgkbapdmaaDoorW.PrintMore
end Go.Proofs.YticpobgkbapdmaaDoorW.PrintMore
namespace Go.Proofs.YticpobgkbapdmaaDoorW.PrintWords
end Go.Proofs.YticpobgkbapdmaaDoorW.PrintWords
namespace Go.Proofs.YticpobgkbapdmaaDoor.CharG
open Go.RowKit Go.Proofs.YticpobgkbapdmaaDoorW.PrintWords Go.Proofs.YticpobgkbapdmaaDoorW.PrintLast Go.Proofs.YticpobgkbapdmaaDoorW.PrintMore Go.Proofs.YticpobgkbapdmaaDoor.CharA Go.Proofs.YticpobgkbapdmaaDoor.CharB Go.Proofs.YticpobgkbapdmaaDoor.CharC Go.Proofs.YticpobgkbapdmaaDoor.CharD Go.Proofs.YticpobgkbapdmaaDoor.CharE Go.Proofs.YticpobgkbapdmaaDoor.CharF
set_option linter.unusedVariables false
set_option linter.unusedSimpArgs false
set_option maxHeartbeats 8000000 in
set_option maxRecDepth 100000 in
theorem join_calls (a b : ByteArray) (w : World) (hT : Tabs w) (hs : a.size + b.size < 1000000000) : Calls Tryd.prog 7 #[.string a, .string b] w fun e w' => e = .returned (.bool true) ∧ Below w.heap.size w w' := by
  have c1 := blank_calls (a ++ b)
  rw [blank_app] at c1
  have c2 := blank_calls a
  have c3 := blank_calls b
  have c4 : ∀ w', Below w.heap.size w w' → _ := fun w' hb => text_calls a w' (by omega) (tabs_below hT hb)
  have c5 : ∀ w', Below w.heap.size w w' → _ := fun w' hb => text_calls (a ++ b) w' (by rw [app_size]; omega) (tabs_below hT hb)
  have c6 : ∀ w', Below w.heap.size w w' → _ := fun w' hb => text_calls b w' (by omega) (tabs_below hT hb)
  have c7 : ∀ w', Below w.heap.size w w' → _ := fun w' hb => works_calls w' (tabs_below hT hb)
  have ht := text_app a b
  generalize blankB a = x at *
  generalize blankB b = y at *
  generalize textB b = u at *
  generalize textB a = z at *
  generalize textB (a ++ b) = v at *
  clear hT
  have HB0 := Aside0.mk (Below.refl w.heap.size w)
  cases x <;> cases z
  · try obtain rfl := ht rfl
    go_enter Tryd.func7, Tryd.ntmps7
    go_wp2_with fail
    refine (c1 _).mono ?_
    rintro e w1 ⟨rfl, b1⟩
    have HB1 := Aside0.mk (chain HB0.out (Nat.le_refl _) b1)
    clear b1
    go_wp2_with fail
    refine (c2 _).mono ?_
    rintro e w2 ⟨rfl, b2⟩
    have HB2 := Aside0.mk (chain HB1.out (Nat.le_refl _) b2)
    clear b2
    go_wp2_with fail
    refine (c4 _ HB2.out).mono ?_
    rintro e w3 ⟨rfl, b3⟩
    have HB3 := Aside0.mk (chain HB2.out (Nat.le_refl _) b3)
    clear b3
    go_wp2_with fail
    refine (c7 _ HB3.out).mono ?_
    rintro e w4 ⟨rfl, b4⟩
    have HB4 := Aside0.mk (chain HB3.out (Nat.le_refl _) b4)
    clear b4
    go_wp2_with fail
    go_ret
    exact ⟨by first | rfl | simp, HB4.out⟩
  · try obtain rfl := ht rfl
    go_enter Tryd.func7, Tryd.ntmps7
    go_wp2_with fail
    refine (c1 _).mono ?_
    rintro e w1 ⟨rfl, b1⟩
    have HB1 := Aside0.mk (chain HB0.out (Nat.le_refl _) b1)
    clear b1
    go_wp2_with fail
    refine (c2 _).mono ?_
    rintro e w2 ⟨rfl, b2⟩
    have HB2 := Aside0.mk (chain HB1.out (Nat.le_refl _) b2)
    clear b2
    go_wp2_with fail
    refine (c4 _ HB2.out).mono ?_
    rintro e w3 ⟨rfl, b3⟩
    have HB3 := Aside0.mk (chain HB2.out (Nat.le_refl _) b3)
    clear b3
    go_wp2_with fail
    refine (c5 _ HB3.out).mono ?_
    rintro e w4 ⟨rfl, b4⟩
    have HB4 := Aside0.mk (chain HB3.out (Nat.le_refl _) b4)
    clear b4
    go_wp2_with fail
    refine (c6 _ HB4.out).mono ?_
    rintro e w5 ⟨rfl, b5⟩
    have HB5 := Aside0.mk (chain HB4.out (Nat.le_refl _) b5)
    clear b5
    go_wp2_with fail
    refine (c7 _ HB5.out).mono ?_
    rintro e w6 ⟨rfl, b6⟩
    have HB6 := Aside0.mk (chain HB5.out (Nat.le_refl _) b6)
    clear b6
    go_wp2_with fail
    go_ret
    exact ⟨by first | rfl | simp, HB6.out⟩
  · try obtain rfl := ht rfl
    go_enter Tryd.func7, Tryd.ntmps7
    go_wp2_with fail
    refine (c1 _).mono ?_
    rintro e w1 ⟨rfl, b1⟩
    have HB1 := Aside0.mk (chain HB0.out (Nat.le_refl _) b1)
    clear b1
    go_wp2_with fail
    refine (c2 _).mono ?_
    rintro e w2 ⟨rfl, b2⟩
    have HB2 := Aside0.mk (chain HB1.out (Nat.le_refl _) b2)
    clear b2
    go_wp2_with fail
    refine (c3 _).mono ?_
    rintro e w3 ⟨rfl, b3⟩
    have HB3 := Aside0.mk (chain HB2.out (Nat.le_refl _) b3)
    clear b3
    go_wp2_with fail
    refine (c4 _ HB3.out).mono ?_
    rintro e w4 ⟨rfl, b4⟩
    have HB4 := Aside0.mk (chain HB3.out (Nat.le_refl _) b4)
    clear b4
    go_wp2_with fail
    refine (c7 _ HB4.out).mono ?_
    rintro e w5 ⟨rfl, b5⟩
    have HB5 := Aside0.mk (chain HB4.out (Nat.le_refl _) b5)
    clear b5
    go_wp2_with fail
    go_ret
    exact ⟨by first | rfl | simp, HB5.out⟩
  · try obtain rfl := ht rfl
    go_enter Tryd.func7, Tryd.ntmps7
    go_wp2_with fail
    refine (c1 _).mono ?_
    rintro e w1 ⟨rfl, b1⟩
    have HB1 := Aside0.mk (chain HB0.out (Nat.le_refl _) b1)
    clear b1
    go_wp2_with fail
    refine (c2 _).mono ?_
    rintro e w2 ⟨rfl, b2⟩
    have HB2 := Aside0.mk (chain HB1.out (Nat.le_refl _) b2)
    clear b2
    go_wp2_with fail
    refine (c3 _).mono ?_
    rintro e w3 ⟨rfl, b3⟩
    have HB3 := Aside0.mk (chain HB2.out (Nat.le_refl _) b3)
    clear b3
    go_wp2_with fail
    refine (c4 _ HB3.out).mono ?_
    rintro e w4 ⟨rfl, b4⟩
    have HB4 := Aside0.mk (chain HB3.out (Nat.le_refl _) b4)
    clear b4
    go_wp2_with fail
    refine (c5 _ HB4.out).mono ?_
    rintro e w5 ⟨rfl, b5⟩
    have HB5 := Aside0.mk (chain HB4.out (Nat.le_refl _) b5)
    clear b5
    go_wp2_with fail
    refine (c6 _ HB5.out).mono ?_
    rintro e w6 ⟨rfl, b6⟩
    have HB6 := Aside0.mk (chain HB5.out (Nat.le_refl _) b6)
    clear b6
    go_wp2_with fail
    refine (c7 _ HB6.out).mono ?_
    rintro e w7 ⟨rfl, b7⟩
    have HB7 := Aside0.mk (chain HB6.out (Nat.le_refl _) b7)
    clear b7
    go_wp2_with fail
    go_ret
    exact ⟨by first | rfl | simp, HB7.out⟩
theorem joinW (a b : ByteArray) (w : World) (hT : Tabs w) (h1 : a.size < 500000000) (h2 : b.size < 500000000) : Calls Tryd.prog 7 #[.string a, .string b] w fun e w' => e = .returned (.bool true) ∧ Below w.heap.size w w' := join_calls a b w hT (by omega)
end Go.Proofs.YticpobgkbapdmaaDoor.CharG
