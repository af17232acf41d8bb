/- The walk of CharWithin. -/
import Derived.Test.YticpobgkbapdmaaDoorKwCharH
namespace Go.Proofs.YticpobgkbapdmaaDoor.CharA
end Go.Proofs.YticpobgkbapdmaaDoor.CharA
namespace Go.Proofs.YticpobgkbapdmaaDoor.CharB
end Go.Proofs.YticpobgkbapdmaaDoor.CharB
namespace Go.Proofs.YticpobgkbapdmaaDoor.CharC
end Go.Proofs.YticpobgkbapdmaaDoor.CharC
namespace Go.Proofs.YticpobgkbapdmaaDoor.CharD
end Go.Proofs.YticpobgkbapdmaaDoor.CharD
namespace Go.Proofs.YticpobgkbapdmaaDoor.CharE
end Go.Proofs.YticpobgkbapdmaaDoor.CharE
namespace Go.Proofs.YticpobgkbapdmaaDoor.CharF
end Go.Proofs.YticpobgkbapdmaaDoor.CharF
namespace Go.Proofs.YticpobgkbapdmaaDoor.CharH
end Go.Proofs.YticpobgkbapdmaaDoor.CharH
namespace Go.Proofs.YticpobgkbapdmaaDoorW.PrintLast
end Go.Proofs.YticpobgkbapdmaaDoorW.PrintLast
namespace Go.Proofs.YticpobgkbapdmaaDoorW.PrintMore
end Go.Proofs.YticpobgkbapdmaaDoorW.PrintMore
namespace Go.Proofs.YticpobgkbapdmaaDoorW.PrintWords
end Go.Proofs.YticpobgkbapdmaaDoorW.PrintWords
namespace Go.Proofs.YticpobgkbapdmaaDoor.CharI
open Go.RowKit Go.Proofs.YticpobgkbapdmaaDoorW.PrintWords Go.Proofs.YticpobgkbapdmaaDoorW.PrintLast Go.Proofs.YticpobgkbapdmaaDoorW.PrintMore Go.Proofs.YticpobgkbapdmaaDoor.CharA Go.Proofs.YticpobgkbapdmaaDoor.CharB Go.Proofs.YticpobgkbapdmaaDoor.CharC Go.Proofs.YticpobgkbapdmaaDoor.CharD Go.Proofs.YticpobgkbapdmaaDoor.CharE Go.Proofs.YticpobgkbapdmaaDoor.CharF Go.Proofs.YticpobgkbapdmaaDoor.CharH
set_option linter.unusedVariables false
set_option linter.unusedSimpArgs false
set_option maxHeartbeats 8000000 in
set_option maxRecDepth 100000 in
theorem w1 (r : Int) (s : ByteArray) (w : World) (hT : Tabs w) (h0 : -2147483648 ≤ r) (h1 : r ≤ 2147483647) (hx : startB r = true) (hy : partB r = true) (hz : isB r = true) (hu : spaceB r = false) (hn : nameB s = true) (hs : 28 < s.size) : Calls Tryd.prog 5 #[.int .i32 r, .string s] w fun e w' => e = .returned (.bool true) ∧ Below w.heap.size w w' := by
  have S := start_calls r
  have P := part_calls r
  have I := is_calls r
  have Z : ∀ w, Calls Tryd.prog 22 #[.int .i32 r] w fun e w' => e = .returned (.bool (spaceB r)) ∧ Below w.heap.size w w' := fun w => (space_calls r w).mono fun e w' h => ⟨h.1, h.2.below⟩
  have N : ∀ w', Below w.heap.size w w' → _ := fun w' hb => name_calls s w' (tabs_below hT hb)
  have W : ∀ w', Below w.heap.size w w' → _ := fun w' hb => works_calls w' (tabs_below hT hb)
  simp only [hx, hy, hz, hu, hn] at S P I Z N
  have hsb : decide ((28 : Int) < (s.size : Int)) = true := by simp; omega
  clear hT hx hy hz hu hn
  have HB0 := Aside0.mk (Below.refl w.heap.size w)
  go_enter Tryd.func5, Tryd.ntmps5
  go_wp2_with fail
  refine (S _).mono ?_
  rintro e w1 ⟨rfl, b1⟩
  have HB1 := Aside0.mk (chain HB0.out (Nat.le_refl _) b1)
  clear b1
  go_wp2_with fail
  refine (P _).mono ?_
  rintro e w2 ⟨rfl, b2⟩
  have HB2 := Aside0.mk (chain HB1.out (Nat.le_refl _) b2)
  clear b2
  go_wp2_with fail
  refine (P _).mono ?_
  rintro e w3 ⟨rfl, b3⟩
  have HB3 := Aside0.mk (chain HB2.out (Nat.le_refl _) b3)
  clear b3
  go_wp2_with fail
  refine (I _).mono ?_
  rintro e w4 ⟨rfl, b4⟩
  have HB4 := Aside0.mk (chain HB3.out (Nat.le_refl _) b4)
  clear b4
  go_wp2_with fail
  refine (Z _).mono ?_
  rintro e w5 ⟨rfl, b5⟩
  have HB5 := Aside0.mk (chain HB4.out (Nat.le_refl _) b5)
  clear b5
  go_wp2_with fail
  refine (Z _).mono ?_
  rintro e w6 ⟨rfl, b6⟩
  have HB6 := Aside0.mk (chain HB5.out (Nat.le_refl _) b6)
  clear b6
  go_wp2_with fail
  refine (N _ HB6.out).mono ?_
  rintro e w7 ⟨rfl, b7⟩
  have HB7 := Aside0.mk (chain HB6.out (Nat.le_refl _) b7)
  clear b7
  go_wp2_with fail
  refine (P _).mono ?_
  rintro e w8 ⟨rfl, b8⟩
  have HB8 := Aside0.mk (chain HB7.out (Nat.le_refl _) b8)
  clear b8
  go_wp2_with fail
  refine (W _ HB8.out).mono ?_
  rintro e w9 ⟨rfl, b9⟩
  have HB9 := Aside0.mk (chain HB8.out (Nat.le_refl _) b9)
  clear b9
  go_wp2_with fail
  go_ret
  exact ⟨by first | rfl | simp, HB9.out⟩
set_option maxHeartbeats 8000000 in
set_option maxRecDepth 100000 in
theorem w2 (r : Int) (s : ByteArray) (w : World) (hT : Tabs w) (h0 : -2147483648 ≤ r) (h1 : r ≤ 2147483647) (hx : startB r = true) (hy : partB r = true) (hz : isB r = true) (hu : spaceB r = false) (hn : nameB s = true) (hs : s.size ≤ 28) : Calls Tryd.prog 5 #[.int .i32 r, .string s] w fun e w' => e = .returned (.bool true) ∧ Below w.heap.size w w' := by
  have S := start_calls r
  have P := part_calls r
  have I := is_calls r
  have Z : ∀ w, Calls Tryd.prog 22 #[.int .i32 r] w fun e w' => e = .returned (.bool (spaceB r)) ∧ Below w.heap.size w w' := fun w => (space_calls r w).mono fun e w' h => ⟨h.1, h.2.below⟩
  have N : ∀ w', Below w.heap.size w w' → _ := fun w' hb => name_calls s w' (tabs_below hT hb)
  have W : ∀ w', Below w.heap.size w w' → _ := fun w' hb => works_calls w' (tabs_below hT hb)
  simp only [hx, hy, hz, hu, hn] at S P I Z N
  have M : ∀ w', Below w.heap.size w w' → _ := fun w' hb => name_calls (s ++ Utf8.encode r) w' (tabs_below hT hb)
  have hq := part_range r hy
  have hem : Utf8.encode r = enc r := enc_model r (by omega) (by omega) hq.2.2
  simp only [hem, name_more s r hn hy hs] at M
  have hes := enc_size r
  rw [← hem] at M hes
  clear hem
  have hcat : s.size + (Utf8.encode r).size < 1000000000 := by omega
  clear hq hes
  have hsb : decide ((28 : Int) < (s.size : Int)) = false := by simp; omega
  clear hT hx hy hz hu hn
  have HB0 := Aside0.mk (Below.refl w.heap.size w)
  go_enter Tryd.func5, Tryd.ntmps5
  go_wp2_with fail
  refine (S _).mono ?_
  rintro e w1 ⟨rfl, b1⟩
  have HB1 := Aside0.mk (chain HB0.out (Nat.le_refl _) b1)
  clear b1
  go_wp2_with fail
  refine (P _).mono ?_
  rintro e w2 ⟨rfl, b2⟩
  have HB2 := Aside0.mk (chain HB1.out (Nat.le_refl _) b2)
  clear b2
  go_wp2_with fail
  refine (P _).mono ?_
  rintro e w3 ⟨rfl, b3⟩
  have HB3 := Aside0.mk (chain HB2.out (Nat.le_refl _) b3)
  clear b3
  go_wp2_with fail
  refine (I _).mono ?_
  rintro e w4 ⟨rfl, b4⟩
  have HB4 := Aside0.mk (chain HB3.out (Nat.le_refl _) b4)
  clear b4
  go_wp2_with fail
  refine (Z _).mono ?_
  rintro e w5 ⟨rfl, b5⟩
  have HB5 := Aside0.mk (chain HB4.out (Nat.le_refl _) b5)
  clear b5
  go_wp2_with fail
  refine (Z _).mono ?_
  rintro e w6 ⟨rfl, b6⟩
  have HB6 := Aside0.mk (chain HB5.out (Nat.le_refl _) b6)
  clear b6
  go_wp2_with fail
  refine (N _ HB6.out).mono ?_
  rintro e w7 ⟨rfl, b7⟩
  have HB7 := Aside0.mk (chain HB6.out (Nat.le_refl _) b7)
  clear b7
  go_wp2_with fail
  refine (P _).mono ?_
  rintro e w8 ⟨rfl, b8⟩
  have HB8 := Aside0.mk (chain HB7.out (Nat.le_refl _) b8)
  clear b8
  go_wp2_with fail
  refine (M _ HB8.out).mono ?_
  rintro e w9 ⟨rfl, b9⟩
  have HB9 := Aside0.mk (chain HB8.out (Nat.le_refl _) b9)
  clear b9
  go_wp2_with fail
  refine (W _ HB9.out).mono ?_
  rintro e w10 ⟨rfl, b10⟩
  have HB10 := Aside0.mk (chain HB9.out (Nat.le_refl _) b10)
  clear b10
  go_wp2_with fail
  go_ret
  exact ⟨by first | rfl | simp, HB10.out⟩
set_option maxHeartbeats 8000000 in
set_option maxRecDepth 100000 in
theorem w3 (r : Int) (s : ByteArray) (w : World) (hT : Tabs w) (h0 : -2147483648 ≤ r) (h1 : r ≤ 2147483647) (hx : startB r = true) (hy : partB r = true) (hz : isB r = true) (hu : spaceB r = false) (hn : nameB s = false) : Calls Tryd.prog 5 #[.int .i32 r, .string s] w fun e w' => e = .returned (.bool true) ∧ Below w.heap.size w w' := by
  have S := start_calls r
  have P := part_calls r
  have I := is_calls r
  have Z : ∀ w, Calls Tryd.prog 22 #[.int .i32 r] w fun e w' => e = .returned (.bool (spaceB r)) ∧ Below w.heap.size w w' := fun w => (space_calls r w).mono fun e w' h => ⟨h.1, h.2.below⟩
  have N : ∀ w', Below w.heap.size w w' → _ := fun w' hb => name_calls s w' (tabs_below hT hb)
  have W : ∀ w', Below w.heap.size w w' → _ := fun w' hb => works_calls w' (tabs_below hT hb)
  simp only [hx, hy, hz, hu, hn] at S P I Z N
  clear hT hx hy hz hu hn
  have HB0 := Aside0.mk (Below.refl w.heap.size w)
  go_enter Tryd.func5, Tryd.ntmps5
  go_wp2_with fail
  refine (S _).mono ?_
  rintro e w1 ⟨rfl, b1⟩
  have HB1 := Aside0.mk (chain HB0.out (Nat.le_refl _) b1)
  clear b1
  go_wp2_with fail
  refine (P _).mono ?_
  rintro e w2 ⟨rfl, b2⟩
  have HB2 := Aside0.mk (chain HB1.out (Nat.le_refl _) b2)
  clear b2
  go_wp2_with fail
  refine (P _).mono ?_
  rintro e w3 ⟨rfl, b3⟩
  have HB3 := Aside0.mk (chain HB2.out (Nat.le_refl _) b3)
  clear b3
  go_wp2_with fail
  refine (I _).mono ?_
  rintro e w4 ⟨rfl, b4⟩
  have HB4 := Aside0.mk (chain HB3.out (Nat.le_refl _) b4)
  clear b4
  go_wp2_with fail
  refine (Z _).mono ?_
  rintro e w5 ⟨rfl, b5⟩
  have HB5 := Aside0.mk (chain HB4.out (Nat.le_refl _) b5)
  clear b5
  go_wp2_with fail
  refine (Z _).mono ?_
  rintro e w6 ⟨rfl, b6⟩
  have HB6 := Aside0.mk (chain HB5.out (Nat.le_refl _) b6)
  clear b6
  go_wp2_with fail
  refine (N _ HB6.out).mono ?_
  rintro e w7 ⟨rfl, b7⟩
  have HB7 := Aside0.mk (chain HB6.out (Nat.le_refl _) b7)
  clear b7
  go_wp2_with fail
  refine (W _ HB7.out).mono ?_
  rintro e w8 ⟨rfl, b8⟩
  have HB8 := Aside0.mk (chain HB7.out (Nat.le_refl _) b8)
  clear b8
  go_wp2_with fail
  go_ret
  exact ⟨by first | rfl | simp, HB8.out⟩
set_option maxHeartbeats 8000000 in
set_option maxRecDepth 100000 in
theorem w4 (r : Int) (s : ByteArray) (w : World) (hT : Tabs w) (h0 : -2147483648 ≤ r) (h1 : r ≤ 2147483647) (hx : startB r = false) (hy : partB r = true) (hz : isB r = true) (hu : spaceB r = false) (hn : nameB s = true) (hs : 28 < s.size) : Calls Tryd.prog 5 #[.int .i32 r, .string s] w fun e w' => e = .returned (.bool true) ∧ Below w.heap.size w w' := by
  have S := start_calls r
  have P := part_calls r
  have I := is_calls r
  have Z : ∀ w, Calls Tryd.prog 22 #[.int .i32 r] w fun e w' => e = .returned (.bool (spaceB r)) ∧ Below w.heap.size w w' := fun w => (space_calls r w).mono fun e w' h => ⟨h.1, h.2.below⟩
  have N : ∀ w', Below w.heap.size w w' → _ := fun w' hb => name_calls s w' (tabs_below hT hb)
  have W : ∀ w', Below w.heap.size w w' → _ := fun w' hb => works_calls w' (tabs_below hT hb)
  simp only [hx, hy, hz, hu, hn] at S P I Z N
  have hsb : decide ((28 : Int) < (s.size : Int)) = true := by simp; omega
  clear hT hx hy hz hu hn
  have HB0 := Aside0.mk (Below.refl w.heap.size w)
  go_enter Tryd.func5, Tryd.ntmps5
  go_wp2_with fail
  refine (S _).mono ?_
  rintro e w1 ⟨rfl, b1⟩
  have HB1 := Aside0.mk (chain HB0.out (Nat.le_refl _) b1)
  clear b1
  go_wp2_with fail
  refine (P _).mono ?_
  rintro e w2 ⟨rfl, b2⟩
  have HB2 := Aside0.mk (chain HB1.out (Nat.le_refl _) b2)
  clear b2
  go_wp2_with fail
  refine (I _).mono ?_
  rintro e w3 ⟨rfl, b3⟩
  have HB3 := Aside0.mk (chain HB2.out (Nat.le_refl _) b3)
  clear b3
  go_wp2_with fail
  refine (Z _).mono ?_
  rintro e w4 ⟨rfl, b4⟩
  have HB4 := Aside0.mk (chain HB3.out (Nat.le_refl _) b4)
  clear b4
  go_wp2_with fail
  refine (Z _).mono ?_
  rintro e w5 ⟨rfl, b5⟩
  have HB5 := Aside0.mk (chain HB4.out (Nat.le_refl _) b5)
  clear b5
  go_wp2_with fail
  refine (N _ HB5.out).mono ?_
  rintro e w6 ⟨rfl, b6⟩
  have HB6 := Aside0.mk (chain HB5.out (Nat.le_refl _) b6)
  clear b6
  go_wp2_with fail
  refine (P _).mono ?_
  rintro e w7 ⟨rfl, b7⟩
  have HB7 := Aside0.mk (chain HB6.out (Nat.le_refl _) b7)
  clear b7
  go_wp2_with fail
  refine (W _ HB7.out).mono ?_
  rintro e w8 ⟨rfl, b8⟩
  have HB8 := Aside0.mk (chain HB7.out (Nat.le_refl _) b8)
  clear b8
  go_wp2_with fail
  go_ret
  exact ⟨by first | rfl | simp, HB8.out⟩
set_option maxHeartbeats 8000000 in
set_option maxRecDepth 100000 in
theorem w5 (r : Int) (s : ByteArray) (w : World) (hT : Tabs w) (h0 : -2147483648 ≤ r) (h1 : r ≤ 2147483647) (hx : startB r = false) (hy : partB r = true) (hz : isB r = true) (hu : spaceB r = false) (hn : nameB s = true) (hs : s.size ≤ 28) : Calls Tryd.prog 5 #[.int .i32 r, .string s] w fun e w' => e = .returned (.bool true) ∧ Below w.heap.size w w' := by
  have S := start_calls r
  have P := part_calls r
  have I := is_calls r
  have Z : ∀ w, Calls Tryd.prog 22 #[.int .i32 r] w fun e w' => e = .returned (.bool (spaceB r)) ∧ Below w.heap.size w w' := fun w => (space_calls r w).mono fun e w' h => ⟨h.1, h.2.below⟩
  have N : ∀ w', Below w.heap.size w w' → _ := fun w' hb => name_calls s w' (tabs_below hT hb)
  have W : ∀ w', Below w.heap.size w w' → _ := fun w' hb => works_calls w' (tabs_below hT hb)
  simp only [hx, hy, hz, hu, hn] at S P I Z N
  have M : ∀ w', Below w.heap.size w w' → _ := fun w' hb => name_calls (s ++ Utf8.encode r) w' (tabs_below hT hb)
  have hq := part_range r hy
  have hem : Utf8.encode r = enc r := enc_model r (by omega) (by omega) hq.2.2
  simp only [hem, name_more s r hn hy hs] at M
  have hes := enc_size r
  rw [← hem] at M hes
  clear hem
  have hcat : s.size + (Utf8.encode r).size < 1000000000 := by omega
  clear hq hes
  have hsb : decide ((28 : Int) < (s.size : Int)) = false := by simp; omega
  clear hT hx hy hz hu hn
  have HB0 := Aside0.mk (Below.refl w.heap.size w)
  go_enter Tryd.func5, Tryd.ntmps5
  go_wp2_with fail
  refine (S _).mono ?_
  rintro e w1 ⟨rfl, b1⟩
  have HB1 := Aside0.mk (chain HB0.out (Nat.le_refl _) b1)
  clear b1
  go_wp2_with fail
  refine (P _).mono ?_
  rintro e w2 ⟨rfl, b2⟩
  have HB2 := Aside0.mk (chain HB1.out (Nat.le_refl _) b2)
  clear b2
  go_wp2_with fail
  refine (I _).mono ?_
  rintro e w3 ⟨rfl, b3⟩
  have HB3 := Aside0.mk (chain HB2.out (Nat.le_refl _) b3)
  clear b3
  go_wp2_with fail
  refine (Z _).mono ?_
  rintro e w4 ⟨rfl, b4⟩
  have HB4 := Aside0.mk (chain HB3.out (Nat.le_refl _) b4)
  clear b4
  go_wp2_with fail
  refine (Z _).mono ?_
  rintro e w5 ⟨rfl, b5⟩
  have HB5 := Aside0.mk (chain HB4.out (Nat.le_refl _) b5)
  clear b5
  go_wp2_with fail
  refine (N _ HB5.out).mono ?_
  rintro e w6 ⟨rfl, b6⟩
  have HB6 := Aside0.mk (chain HB5.out (Nat.le_refl _) b6)
  clear b6
  go_wp2_with fail
  refine (P _).mono ?_
  rintro e w7 ⟨rfl, b7⟩
  have HB7 := Aside0.mk (chain HB6.out (Nat.le_refl _) b7)
  clear b7
  go_wp2_with fail
  refine (M _ HB7.out).mono ?_
  rintro e w8 ⟨rfl, b8⟩
  have HB8 := Aside0.mk (chain HB7.out (Nat.le_refl _) b8)
  clear b8
  go_wp2_with fail
  refine (W _ HB8.out).mono ?_
  rintro e w9 ⟨rfl, b9⟩
  have HB9 := Aside0.mk (chain HB8.out (Nat.le_refl _) b9)
  clear b9
  go_wp2_with fail
  go_ret
  exact ⟨by first | rfl | simp, HB9.out⟩
set_option maxHeartbeats 8000000 in
set_option maxRecDepth 100000 in
theorem w6 (r : Int) (s : ByteArray) (w : World) (hT : Tabs w) (h0 : -2147483648 ≤ r) (h1 : r ≤ 2147483647) (hx : startB r = false) (hy : partB r = true) (hz : isB r = true) (hu : spaceB r = false) (hn : nameB s = false) : Calls Tryd.prog 5 #[.int .i32 r, .string s] w fun e w' => e = .returned (.bool true) ∧ Below w.heap.size w w' := by
  have S := start_calls r
  have P := part_calls r
  have I := is_calls r
  have Z : ∀ w, Calls Tryd.prog 22 #[.int .i32 r] w fun e w' => e = .returned (.bool (spaceB r)) ∧ Below w.heap.size w w' := fun w => (space_calls r w).mono fun e w' h => ⟨h.1, h.2.below⟩
  have N : ∀ w', Below w.heap.size w w' → _ := fun w' hb => name_calls s w' (tabs_below hT hb)
  have W : ∀ w', Below w.heap.size w w' → _ := fun w' hb => works_calls w' (tabs_below hT hb)
  simp only [hx, hy, hz, hu, hn] at S P I Z N
  clear hT hx hy hz hu hn
  have HB0 := Aside0.mk (Below.refl w.heap.size w)
  go_enter Tryd.func5, Tryd.ntmps5
  go_wp2_with fail
  refine (S _).mono ?_
  rintro e w1 ⟨rfl, b1⟩
  have HB1 := Aside0.mk (chain HB0.out (Nat.le_refl _) b1)
  clear b1
  go_wp2_with fail
  refine (P _).mono ?_
  rintro e w2 ⟨rfl, b2⟩
  have HB2 := Aside0.mk (chain HB1.out (Nat.le_refl _) b2)
  clear b2
  go_wp2_with fail
  refine (I _).mono ?_
  rintro e w3 ⟨rfl, b3⟩
  have HB3 := Aside0.mk (chain HB2.out (Nat.le_refl _) b3)
  clear b3
  go_wp2_with fail
  refine (Z _).mono ?_
  rintro e w4 ⟨rfl, b4⟩
  have HB4 := Aside0.mk (chain HB3.out (Nat.le_refl _) b4)
  clear b4
  go_wp2_with fail
  refine (Z _).mono ?_
  rintro e w5 ⟨rfl, b5⟩
  have HB5 := Aside0.mk (chain HB4.out (Nat.le_refl _) b5)
  clear b5
  go_wp2_with fail
  refine (N _ HB5.out).mono ?_
  rintro e w6 ⟨rfl, b6⟩
  have HB6 := Aside0.mk (chain HB5.out (Nat.le_refl _) b6)
  clear b6
  go_wp2_with fail
  refine (W _ HB6.out).mono ?_
  rintro e w7 ⟨rfl, b7⟩
  have HB7 := Aside0.mk (chain HB6.out (Nat.le_refl _) b7)
  clear b7
  go_wp2_with fail
  go_ret
  exact ⟨by first | rfl | simp, HB7.out⟩
set_option maxHeartbeats 8000000 in
set_option maxRecDepth 100000 in
theorem w7 (r : Int) (s : ByteArray) (w : World) (hT : Tabs w) (h0 : -2147483648 ≤ r) (h1 : r ≤ 2147483647) (hx : startB r = false) (hy : partB r = false) (hz : isB r = true) (hu : spaceB r = true) (hn : nameB s = true) : Calls Tryd.prog 5 #[.int .i32 r, .string s] w fun e w' => e = .returned (.bool true) ∧ Below w.heap.size w w' := by
  have S := start_calls r
  have P := part_calls r
  have I := is_calls r
  have Z : ∀ w, Calls Tryd.prog 22 #[.int .i32 r] w fun e w' => e = .returned (.bool (spaceB r)) ∧ Below w.heap.size w w' := fun w => (space_calls r w).mono fun e w' h => ⟨h.1, h.2.below⟩
  have N : ∀ w', Below w.heap.size w w' → _ := fun w' hb => name_calls s w' (tabs_below hT hb)
  have W : ∀ w', Below w.heap.size w w' → _ := fun w' hb => works_calls w' (tabs_below hT hb)
  simp only [hx, hy, hz, hu, hn] at S P I Z N
  clear hT hx hy hz hu hn
  have HB0 := Aside0.mk (Below.refl w.heap.size w)
  go_enter Tryd.func5, Tryd.ntmps5
  go_wp2_with fail
  refine (S _).mono ?_
  rintro e w1 ⟨rfl, b1⟩
  have HB1 := Aside0.mk (chain HB0.out (Nat.le_refl _) b1)
  clear b1
  go_wp2_with fail
  refine (P _).mono ?_
  rintro e w2 ⟨rfl, b2⟩
  have HB2 := Aside0.mk (chain HB1.out (Nat.le_refl _) b2)
  clear b2
  go_wp2_with fail
  refine (Z _).mono ?_
  rintro e w3 ⟨rfl, b3⟩
  have HB3 := Aside0.mk (chain HB2.out (Nat.le_refl _) b3)
  clear b3
  go_wp2_with fail
  refine (I _).mono ?_
  rintro e w4 ⟨rfl, b4⟩
  have HB4 := Aside0.mk (chain HB3.out (Nat.le_refl _) b4)
  clear b4
  go_wp2_with fail
  refine (N _ HB4.out).mono ?_
  rintro e w5 ⟨rfl, b5⟩
  have HB5 := Aside0.mk (chain HB4.out (Nat.le_refl _) b5)
  clear b5
  go_wp2_with fail
  refine (P _).mono ?_
  rintro e w6 ⟨rfl, b6⟩
  have HB6 := Aside0.mk (chain HB5.out (Nat.le_refl _) b6)
  clear b6
  go_wp2_with fail
  refine (W _ HB6.out).mono ?_
  rintro e w7 ⟨rfl, b7⟩
  have HB7 := Aside0.mk (chain HB6.out (Nat.le_refl _) b7)
  clear b7
  go_wp2_with fail
  go_ret
  exact ⟨by first | rfl | simp, HB7.out⟩
set_option maxHeartbeats 8000000 in
set_option maxRecDepth 100000 in
theorem w8 (r : Int) (s : ByteArray) (w : World) (hT : Tabs w) (h0 : -2147483648 ≤ r) (h1 : r ≤ 2147483647) (hx : startB r = false) (hy : partB r = false) (hz : isB r = true) (hu : spaceB r = true) (hn : nameB s = false) : Calls Tryd.prog 5 #[.int .i32 r, .string s] w fun e w' => e = .returned (.bool true) ∧ Below w.heap.size w w' := by
  have S := start_calls r
  have P := part_calls r
  have I := is_calls r
  have Z : ∀ w, Calls Tryd.prog 22 #[.int .i32 r] w fun e w' => e = .returned (.bool (spaceB r)) ∧ Below w.heap.size w w' := fun w => (space_calls r w).mono fun e w' h => ⟨h.1, h.2.below⟩
  have N : ∀ w', Below w.heap.size w w' → _ := fun w' hb => name_calls s w' (tabs_below hT hb)
  have W : ∀ w', Below w.heap.size w w' → _ := fun w' hb => works_calls w' (tabs_below hT hb)
  simp only [hx, hy, hz, hu, hn] at S P I Z N
  clear hT hx hy hz hu hn
  have HB0 := Aside0.mk (Below.refl w.heap.size w)
  go_enter Tryd.func5, Tryd.ntmps5
  go_wp2_with fail
  refine (S _).mono ?_
  rintro e w1 ⟨rfl, b1⟩
  have HB1 := Aside0.mk (chain HB0.out (Nat.le_refl _) b1)
  clear b1
  go_wp2_with fail
  refine (P _).mono ?_
  rintro e w2 ⟨rfl, b2⟩
  have HB2 := Aside0.mk (chain HB1.out (Nat.le_refl _) b2)
  clear b2
  go_wp2_with fail
  refine (Z _).mono ?_
  rintro e w3 ⟨rfl, b3⟩
  have HB3 := Aside0.mk (chain HB2.out (Nat.le_refl _) b3)
  clear b3
  go_wp2_with fail
  refine (I _).mono ?_
  rintro e w4 ⟨rfl, b4⟩
  have HB4 := Aside0.mk (chain HB3.out (Nat.le_refl _) b4)
  clear b4
  go_wp2_with fail
  refine (N _ HB4.out).mono ?_
  rintro e w5 ⟨rfl, b5⟩
  have HB5 := Aside0.mk (chain HB4.out (Nat.le_refl _) b5)
  clear b5
  go_wp2_with fail
  refine (W _ HB5.out).mono ?_
  rintro e w6 ⟨rfl, b6⟩
  have HB6 := Aside0.mk (chain HB5.out (Nat.le_refl _) b6)
  clear b6
  go_wp2_with fail
  go_ret
  exact ⟨by first | rfl | simp, HB6.out⟩
set_option maxHeartbeats 8000000 in
set_option maxRecDepth 100000 in
theorem w9 (r : Int) (s : ByteArray) (w : World) (hT : Tabs w) (h0 : -2147483648 ≤ r) (h1 : r ≤ 2147483647) (hx : startB r = false) (hy : partB r = false) (hz : isB r = true) (hu : spaceB r = false) (hn : nameB s = true) : Calls Tryd.prog 5 #[.int .i32 r, .string s] w fun e w' => e = .returned (.bool true) ∧ Below w.heap.size w w' := by
  have S := start_calls r
  have P := part_calls r
  have I := is_calls r
  have Z : ∀ w, Calls Tryd.prog 22 #[.int .i32 r] w fun e w' => e = .returned (.bool (spaceB r)) ∧ Below w.heap.size w w' := fun w => (space_calls r w).mono fun e w' h => ⟨h.1, h.2.below⟩
  have N : ∀ w', Below w.heap.size w w' → _ := fun w' hb => name_calls s w' (tabs_below hT hb)
  have W : ∀ w', Below w.heap.size w w' → _ := fun w' hb => works_calls w' (tabs_below hT hb)
  simp only [hx, hy, hz, hu, hn] at S P I Z N
  clear hT hx hy hz hu hn
  have HB0 := Aside0.mk (Below.refl w.heap.size w)
  go_enter Tryd.func5, Tryd.ntmps5
  go_wp2_with fail
  refine (S _).mono ?_
  rintro e w1 ⟨rfl, b1⟩
  have HB1 := Aside0.mk (chain HB0.out (Nat.le_refl _) b1)
  clear b1
  go_wp2_with fail
  refine (P _).mono ?_
  rintro e w2 ⟨rfl, b2⟩
  have HB2 := Aside0.mk (chain HB1.out (Nat.le_refl _) b2)
  clear b2
  go_wp2_with fail
  refine (Z _).mono ?_
  rintro e w3 ⟨rfl, b3⟩
  have HB3 := Aside0.mk (chain HB2.out (Nat.le_refl _) b3)
  clear b3
  go_wp2_with fail
  refine (N _ HB3.out).mono ?_
  rintro e w4 ⟨rfl, b4⟩
  have HB4 := Aside0.mk (chain HB3.out (Nat.le_refl _) b4)
  clear b4
  go_wp2_with fail
  refine (P _).mono ?_
  rintro e w5 ⟨rfl, b5⟩
  have HB5 := Aside0.mk (chain HB4.out (Nat.le_refl _) b5)
  clear b5
  go_wp2_with fail
  refine (W _ HB5.out).mono ?_
  rintro e w6 ⟨rfl, b6⟩
  have HB6 := Aside0.mk (chain HB5.out (Nat.le_refl _) b6)
  clear b6
  go_wp2_with fail
  go_ret
  exact ⟨by first | rfl | simp, HB6.out⟩
set_option maxHeartbeats 8000000 in
set_option maxRecDepth 100000 in
theorem w10 (r : Int) (s : ByteArray) (w : World) (hT : Tabs w) (h0 : -2147483648 ≤ r) (h1 : r ≤ 2147483647) (hx : startB r = false) (hy : partB r = false) (hz : isB r = true) (hu : spaceB r = false) (hn : nameB s = false) : Calls Tryd.prog 5 #[.int .i32 r, .string s] w fun e w' => e = .returned (.bool true) ∧ Below w.heap.size w w' := by
  have S := start_calls r
  have P := part_calls r
  have I := is_calls r
  have Z : ∀ w, Calls Tryd.prog 22 #[.int .i32 r] w fun e w' => e = .returned (.bool (spaceB r)) ∧ Below w.heap.size w w' := fun w => (space_calls r w).mono fun e w' h => ⟨h.1, h.2.below⟩
  have N : ∀ w', Below w.heap.size w w' → _ := fun w' hb => name_calls s w' (tabs_below hT hb)
  have W : ∀ w', Below w.heap.size w w' → _ := fun w' hb => works_calls w' (tabs_below hT hb)
  simp only [hx, hy, hz, hu, hn] at S P I Z N
  clear hT hx hy hz hu hn
  have HB0 := Aside0.mk (Below.refl w.heap.size w)
  go_enter Tryd.func5, Tryd.ntmps5
  go_wp2_with fail
  refine (S _).mono ?_
  rintro e w1 ⟨rfl, b1⟩
  have HB1 := Aside0.mk (chain HB0.out (Nat.le_refl _) b1)
  clear b1
  go_wp2_with fail
  refine (P _).mono ?_
  rintro e w2 ⟨rfl, b2⟩
  have HB2 := Aside0.mk (chain HB1.out (Nat.le_refl _) b2)
  clear b2
  go_wp2_with fail
  refine (Z _).mono ?_
  rintro e w3 ⟨rfl, b3⟩
  have HB3 := Aside0.mk (chain HB2.out (Nat.le_refl _) b3)
  clear b3
  go_wp2_with fail
  refine (N _ HB3.out).mono ?_
  rintro e w4 ⟨rfl, b4⟩
  have HB4 := Aside0.mk (chain HB3.out (Nat.le_refl _) b4)
  clear b4
  go_wp2_with fail
  refine (W _ HB4.out).mono ?_
  rintro e w5 ⟨rfl, b5⟩
  have HB5 := Aside0.mk (chain HB4.out (Nat.le_refl _) b5)
  clear b5
  go_wp2_with fail
  go_ret
  exact ⟨by first | rfl | simp, HB5.out⟩
set_option maxHeartbeats 8000000 in
set_option maxRecDepth 100000 in
theorem w11 (r : Int) (s : ByteArray) (w : World) (hT : Tabs w) (h0 : -2147483648 ≤ r) (h1 : r ≤ 2147483647) (hx : startB r = false) (hy : partB r = false) (hz : isB r = false) (hu : spaceB r = false) (hn : nameB s = true) : Calls Tryd.prog 5 #[.int .i32 r, .string s] w fun e w' => e = .returned (.bool true) ∧ Below w.heap.size w w' := by
  have S := start_calls r
  have P := part_calls r
  have I := is_calls r
  have Z : ∀ w, Calls Tryd.prog 22 #[.int .i32 r] w fun e w' => e = .returned (.bool (spaceB r)) ∧ Below w.heap.size w w' := fun w => (space_calls r w).mono fun e w' h => ⟨h.1, h.2.below⟩
  have N : ∀ w', Below w.heap.size w w' → _ := fun w' hb => name_calls s w' (tabs_below hT hb)
  have W : ∀ w', Below w.heap.size w w' → _ := fun w' hb => works_calls w' (tabs_below hT hb)
  simp only [hx, hy, hz, hu, hn] at S P I Z N
  clear hT hx hy hz hu hn
  have HB0 := Aside0.mk (Below.refl w.heap.size w)
  go_enter Tryd.func5, Tryd.ntmps5
  go_wp2_with fail
  refine (S _).mono ?_
  rintro e w1 ⟨rfl, b1⟩
  have HB1 := Aside0.mk (chain HB0.out (Nat.le_refl _) b1)
  clear b1
  go_wp2_with fail
  refine (P _).mono ?_
  rintro e w2 ⟨rfl, b2⟩
  have HB2 := Aside0.mk (chain HB1.out (Nat.le_refl _) b2)
  clear b2
  go_wp2_with fail
  refine (Z _).mono ?_
  rintro e w3 ⟨rfl, b3⟩
  have HB3 := Aside0.mk (chain HB2.out (Nat.le_refl _) b3)
  clear b3
  go_wp2_with fail
  refine (N _ HB3.out).mono ?_
  rintro e w4 ⟨rfl, b4⟩
  have HB4 := Aside0.mk (chain HB3.out (Nat.le_refl _) b4)
  clear b4
  go_wp2_with fail
  refine (P _).mono ?_
  rintro e w5 ⟨rfl, b5⟩
  have HB5 := Aside0.mk (chain HB4.out (Nat.le_refl _) b5)
  clear b5
  go_wp2_with fail
  refine (W _ HB5.out).mono ?_
  rintro e w6 ⟨rfl, b6⟩
  have HB6 := Aside0.mk (chain HB5.out (Nat.le_refl _) b6)
  clear b6
  go_wp2_with fail
  go_ret
  exact ⟨by first | rfl | simp, HB6.out⟩
set_option maxHeartbeats 8000000 in
set_option maxRecDepth 100000 in
theorem w12 (r : Int) (s : ByteArray) (w : World) (hT : Tabs w) (h0 : -2147483648 ≤ r) (h1 : r ≤ 2147483647) (hx : startB r = false) (hy : partB r = false) (hz : isB r = false) (hu : spaceB r = false) (hn : nameB s = false) : Calls Tryd.prog 5 #[.int .i32 r, .string s] w fun e w' => e = .returned (.bool true) ∧ Below w.heap.size w w' := by
  have S := start_calls r
  have P := part_calls r
  have I := is_calls r
  have Z : ∀ w, Calls Tryd.prog 22 #[.int .i32 r] w fun e w' => e = .returned (.bool (spaceB r)) ∧ Below w.heap.size w w' := fun w => (space_calls r w).mono fun e w' h => ⟨h.1, h.2.below⟩
  have N : ∀ w', Below w.heap.size w w' → _ := fun w' hb => name_calls s w' (tabs_below hT hb)
  have W : ∀ w', Below w.heap.size w w' → _ := fun w' hb => works_calls w' (tabs_below hT hb)
  simp only [hx, hy, hz, hu, hn] at S P I Z N
  clear hT hx hy hz hu hn
  have HB0 := Aside0.mk (Below.refl w.heap.size w)
  go_enter Tryd.func5, Tryd.ntmps5
  go_wp2_with fail
  refine (S _).mono ?_
  rintro e w1 ⟨rfl, b1⟩
  have HB1 := Aside0.mk (chain HB0.out (Nat.le_refl _) b1)
  clear b1
  go_wp2_with fail
  refine (P _).mono ?_
  rintro e w2 ⟨rfl, b2⟩
  have HB2 := Aside0.mk (chain HB1.out (Nat.le_refl _) b2)
  clear b2
  go_wp2_with fail
  refine (Z _).mono ?_
  rintro e w3 ⟨rfl, b3⟩
  have HB3 := Aside0.mk (chain HB2.out (Nat.le_refl _) b3)
  clear b3
  go_wp2_with fail
  refine (N _ HB3.out).mono ?_
  rintro e w4 ⟨rfl, b4⟩
  have HB4 := Aside0.mk (chain HB3.out (Nat.le_refl _) b4)
  clear b4
  go_wp2_with fail
  refine (W _ HB4.out).mono ?_
  rintro e w5 ⟨rfl, b5⟩
  have HB5 := Aside0.mk (chain HB4.out (Nat.le_refl _) b5)
  clear b5
  go_wp2_with fail
  go_ret
  exact ⟨by first | rfl | simp, HB5.out⟩
theorem within_calls (r : Int) (s : ByteArray) (w : World) (hT : Tabs w) (hw : (Lit.int .i32 r).wf = true) (hs : s.size ≤ 9223372036854775807) : Calls Tryd.prog 5 #[.int .i32 r, .string s] w fun e w' => e = .returned (.bool true) ∧ Below w.heap.size w w' := by
  have h : -2147483648 ≤ r ∧ r ≤ 2147483647 := by simpa [Lit.wf, IntKind.min, IntKind.max, IntKind.bits, IntKind.signed] using hw
  have k1 := start_part r
  have k2 := part_is r
  have k3 := part_nospace r
  have k4 := space_is r
  cases hx : startB r <;> cases hy : partB r <;> cases hz : isB r <;> cases hu : spaceB r <;> cases hn : nameB s <;> (try (rw [hx, hy] at k1; simp at k1; done)) <;> (try (rw [hy, hz] at k2; simp at k2; done)) <;> (try (rw [hy, hu] at k3; simp at k3; done)) <;> (try (rw [hu, hz] at k4; simp at k4; done))
  all_goals by_cases hb : s.size ≤ 28
  all_goals first
    | exact w1 r s w hT h.1 h.2 hx hy hz hu hn (by omega)
    | exact w2 r s w hT h.1 h.2 hx hy hz hu hn hb
    | exact w3 r s w hT h.1 h.2 hx hy hz hu hn
    | exact w4 r s w hT h.1 h.2 hx hy hz hu hn (by omega)
    | exact w5 r s w hT h.1 h.2 hx hy hz hu hn hb
    | exact w6 r s w hT h.1 h.2 hx hy hz hu hn
    | exact w7 r s w hT h.1 h.2 hx hy hz hu hn
    | exact w8 r s w hT h.1 h.2 hx hy hz hu hn
    | exact w9 r s w hT h.1 h.2 hx hy hz hu hn
    | exact w10 r s w hT h.1 h.2 hx hy hz hu hn
    | exact w11 r s w hT h.1 h.2 hx hy hz hu hn
    | exact w12 r s w hT h.1 h.2 hx hy hz hu hn
end Go.Proofs.YticpobgkbapdmaaDoor.CharI
