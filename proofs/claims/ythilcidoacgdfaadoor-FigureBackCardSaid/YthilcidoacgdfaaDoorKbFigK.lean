/- The laws of figure: their walks. -/
import Derived.Test.YthilcidoacgdfaaDoorKbFigI
import Derived.Test.YthilcidoacgdfaaDoorKbFigB
import Derived.Deep.RegionHeld3
namespace Go.Proofs.YthilcidoacgdfaaDoor.DecA
end Go.Proofs.YthilcidoacgdfaaDoor.DecA
namespace Go.Proofs.YthilcidoacgdfaaDoor.DecE
end Go.Proofs.YthilcidoacgdfaaDoor.DecE
namespace Go.Proofs.YthilcidoacgdfaaDoor.DecF
end Go.Proofs.YthilcidoacgdfaaDoor.DecF
namespace Go.Proofs.YthilcidoacgdfaaDoor.FigA
end Go.Proofs.YthilcidoacgdfaaDoor.FigA
namespace Go.Proofs.YthilcidoacgdfaaDoor.FigB
end Go.Proofs.YthilcidoacgdfaaDoor.FigB
namespace Go.Proofs.YthilcidoacgdfaaDoor.FigD
end Go.Proofs.YthilcidoacgdfaaDoor.FigD
namespace Go.Proofs.YthilcidoacgdfaaDoor.FigE
end Go.Proofs.YthilcidoacgdfaaDoor.FigE
namespace Go.Proofs.YthilcidoacgdfaaDoor.FigF
end Go.Proofs.YthilcidoacgdfaaDoor.FigF
namespace Go.Proofs.YthilcidoacgdfaaDoor.FigG
end Go.Proofs.YthilcidoacgdfaaDoor.FigG
namespace Go.Proofs.YthilcidoacgdfaaDoor.FigH
end Go.Proofs.YthilcidoacgdfaaDoor.FigH
namespace Go.Proofs.YthilcidoacgdfaaDoor.FigI
end Go.Proofs.YthilcidoacgdfaaDoor.FigI
namespace Go.Proofs.YthilcidoacgdfaaDoor.FigJ
end Go.Proofs.YthilcidoacgdfaaDoor.FigJ
namespace Go.Proofs.YthilcidoacgdfaaDoor.SpanA
end Go.Proofs.YthilcidoacgdfaaDoor.SpanA
namespace Go.Proofs.YthilcidoacgdfaaDoorW.PrintLast
end Go.Proofs.YthilcidoacgdfaaDoorW.PrintLast
namespace Go.Proofs.YthilcidoacgdfaaDoorW.PrintMore
end Go.Proofs.YthilcidoacgdfaaDoorW.PrintMore
namespace Go.Proofs.YthilcidoacgdfaaDoorW.PrintWords
end Go.Proofs.YthilcidoacgdfaaDoorW.PrintWords
namespace Go.Proofs.YthilcidoacgdfaaDoor.FigK
open Go.RowKit Go.Shelf Go.Proofs.YthilcidoacgdfaaDoorW.PrintWords Go.Proofs.YthilcidoacgdfaaDoorW.PrintLast Go.Proofs.YthilcidoacgdfaaDoorW.PrintMore Go.Proofs.YthilcidoacgdfaaDoor.SpanA Go.Proofs.YthilcidoacgdfaaDoor.DecA Go.Proofs.YthilcidoacgdfaaDoor.DecE Go.Proofs.YthilcidoacgdfaaDoor.DecF Go.Proofs.YthilcidoacgdfaaDoor.FigA Go.Proofs.YthilcidoacgdfaaDoor.FigB Go.Proofs.YthilcidoacgdfaaDoor.FigD Go.Proofs.YthilcidoacgdfaaDoor.FigE Go.Proofs.YthilcidoacgdfaaDoor.FigF Go.Proofs.YthilcidoacgdfaaDoor.FigG Go.Proofs.YthilcidoacgdfaaDoor.FigH Go.Proofs.YthilcidoacgdfaaDoor.FigI Go.Proofs.YthilcidoacgdfaaDoor.FigJ
set_option linter.unusedVariables false
set_option linter.unusedSimpArgs false
theorem pad_one (k n d q : Nat) (h1 : n % 10 = d) (h2 : n / 10 = q) : padL (k + 1) (dg n) = (d : Int) :: padL k (dg q) := by rw [pad_step, h1, h2]
theorem wk_show : showS (0, 2500000) = [50, 46, 53] := by
  have e1 : decP 1 2 = [50] := by unfold decP; rw [pad_one 0 2 2 0 rfl rfl, dg_zero]; decide +kernel
  have e2 : decP 6 500000 = [53, 48, 48, 48, 48, 48] := by
    unfold decP
    rw [pad_one 5 500000 0 50000 rfl rfl, pad_one 4 50000 0 5000 rfl rfl, pad_one 3 5000 0 500 rfl rfl, pad_one 2 500 0 50 rfl rfl, pad_one 1 50 0 5 rfl rfl, pad_one 0 5 5 0 rfl rfl, dg_zero]
    decide +kernel
  have e3 : showN 2500000 = [50, 46, 53] := by
    unfold showN
    rw [show 2500000 / 1000000 = 2 from rfl, show 2500000 % 1000000 = 500000 from rfl, e1, e2]
    decide +kernel
  unfold showS
  rw [if_neg (by decide), if_neg (by decide), if_neg (by decide)]
  exact e3
theorem wk_read : readS [32, 45, 49, 46, 53, 48, 32] = (0, -1500000) := by decide +kernel
set_option maxHeartbeats 4000000 in
set_option maxRecDepth 100000 in
theorem works_calls (w : World) (hT : Tabs w) : Calls Tryd.prog 13 #[] w fun e w' => e = .returned (.bool true) ∧ Below w.heap.size w w' := by
  have c1 := show_call 0 2500000 (by unfold I64; omega) w
  rw [wk_show] at c1
  have c2 : ∀ w', Below w.heap.size w w' → _ := fun w' hb => read_call ⟨#[32, 45, 49, 46, 53, 48, 32]⟩ w' (by show 7 ≤ _; omega) (tabs_below hT hb)
  rw [show (⟨#[32, 45, 49, 46, 53, 48, 32]⟩ : ByteArray).data.toList = [32, 45, 49, 46, 53, 48, 32] from rfl, wk_read] at c2
  have t1 : (ba [50, 46, 53]).toList = [50, 46, 53] := nil_of _
  clear hT
  go_enter Tryd.func13, Tryd.ntmps13
  go_wp2_with fail
  refine c1.mono ?_
  rintro e w1 ⟨rfl, b1⟩
  go_wp2_with fail
  refine (c2 w1 b1).mono ?_
  rintro e w2 ⟨rfl, b2⟩
  have B2 := chain b1 (Nat.le_refl _) b2
  go_wp2_with fail
  go_ret
  exact ⟨by first | rfl | (simp [t1]; done) | decide +kernel, B2⟩
theorem trimZ_len (z : List UInt8) : (trimZ z).length ≤ z.length := by
  obtain ⟨k, hk⟩ := trimZ_spec z
  have := congrArg List.length hk
  rw [List.length_append] at this
  omega
theorem show_len (t v : Int) (hv : I64 v) : (showS (t, v)).length ≤ 100 := by
  unfold showS
  split
  · simp
  split
  · simp
  split
  · simp
  · unfold I64 at hv
    have h1 : (ab v).toNat < 18446744073709551616 := by unfold ab; split <;> omega
    have h2 := decP_le 1 ((ab v).toNat / 1000000) (by omega) (by omega)
    have h3 := trimZ_len (decP 6 ((ab v).toNat % 1000000))
    rw [decP6_len] at h3
    unfold showN
    simp only [List.length_append]
    have h4 : ((if v < 0 then [45] else []) : List UInt8).length ≤ 1 := by split <;> simp
    have h5 : ((if trimZ (decP 6 ((ab v).toNat % 1000000)) = [] then [] else 46 :: trimZ (decP 6 ((ab v).toNat % 1000000))) : List UInt8).length ≤ 7 := by
      split
      · simp
      · simp; omega
    omega
set_option maxHeartbeats 4000000 in
set_option maxRecDepth 100000 in
theorem back_none_calls (t v : Int) (w : World) (hT : Tabs w) (hv : I64 v) (h : rightB (t, v) = false ∨ t ≠ 0) : Calls Tryd.prog 5 #[.agg #[.int .i64 t, .int .i64 v]] w fun e w' => e = .returned (.bool true) ∧ Below w.heap.size w w' := by
  have hr := back_none (t, v) h
  have hz := show_len t v hv
  have c1 := fun W => show_call t v hv W
  have c2 : ∀ w', Below w.heap.size w w' → _ := fun w' hb => read_call (ba (showS (t, v))) w' (by rw [ba_size]; omega) (tabs_below hT hb)
  rw [ba_list, hr] at c2
  have c3 := fun W => right_call t v W
  have c5 : ∀ w', Below w.heap.size w w' → _ := fun w' hb => works_calls w' (tabs_below hT hb)
  generalize showS (t, v) = z at *
  have X0 := Aside0.mk (box_new t v w)
  have B0 := Aside0.mk ((Below.refl w.heap.size w).alloc (Nat.le_refl _) (Obj.cells #[.int .i64 t, .int .i64 v] 23))
  clear hT hr hz
  cases hrb : rightB (t, v) with
  | false =>
    rw [hrb] at c3
    clear h hrb
    go_enter Tryd.func5, Tryd.ntmps5
    go_wp2_with fail
    refine (c1 _).mono ?_
    rintro e w1 ⟨rfl, b1⟩
    have B1 := Aside0.mk (chain B0.out (Nat.le_refl _) b1)
    have X1 := Aside0.mk (X0.out.below b1)
    clear b1
    go_wp2_with fail
    refine (c2 _ B1.out).mono ?_
    rintro e w2 ⟨rfl, b2⟩
    have al := (Below.refl w2.heap.size w2).alloc (Nat.le_refl _) (Obj.cells #[.int .i64 1, .int .i64 0] 23)
    have B2 := Aside0.mk (chain (chain B1.out (Nat.le_refl _) b2) (Nat.le_refl _) al)
    have X2 := (X1.out.below b2).below al
    have HX2 := Aside0.mk X2
    have HY2 := Aside0.mk (box_new 1 0 w2)
    have x0 := X2.c0
    have x1 := X2.c1
    clear b2 al X2 c2 c1
    go_wp2_with fail
    refine (c3 _).mono ?_
    rintro e w4 ⟨rfl, b4⟩
    have B4 := Aside0.mk (chain B2.out (Nat.le_refl _) b4)
    have X4 := HX2.out.below b4
    have Y4 := HY2.out.below b4
    have y0 := X4.c0
    have y1 := X4.c1
    have z0 := Y4.c0
    have z1 := Y4.c1
    clear b4 X4 Y4 c3 x0 x1
    go_wp2_with fail
    refine (c5 _ B4.out).mono ?_
    rintro e w5 ⟨rfl, b5⟩
    have B5 := Aside0.mk (chain B4.out (Nat.le_refl _) b5)
    clear b5
    go_wp2_with fail
    go_ret
    exact ⟨by first | rfl | (simp; done), B5.out⟩
  | true =>
    have ht : t ≠ 0 := h.resolve_left (by rw [hrb]; simp)
    have ht2 : (t != 0) = true := by simpa using ht
    rw [hrb] at c3
    clear h hrb ht
    go_enter Tryd.func5, Tryd.ntmps5
    go_wp2_with fail
    refine (c1 _).mono ?_
    rintro e w1 ⟨rfl, b1⟩
    have B1 := Aside0.mk (chain B0.out (Nat.le_refl _) b1)
    have X1 := Aside0.mk (X0.out.below b1)
    clear b1
    go_wp2_with fail
    refine (c2 _ B1.out).mono ?_
    rintro e w2 ⟨rfl, b2⟩
    have al := (Below.refl w2.heap.size w2).alloc (Nat.le_refl _) (Obj.cells #[.int .i64 1, .int .i64 0] 23)
    have B2 := Aside0.mk (chain (chain B1.out (Nat.le_refl _) b2) (Nat.le_refl _) al)
    have X2 := (X1.out.below b2).below al
    have HX2 := Aside0.mk X2
    have HY2 := Aside0.mk (box_new 1 0 w2)
    have x0 := X2.c0
    have x1 := X2.c1
    clear b2 al X2 c2 c1
    go_wp2_with fail
    refine (c3 _).mono ?_
    rintro e w4 ⟨rfl, b4⟩
    have B4 := Aside0.mk (chain B2.out (Nat.le_refl _) b4)
    have X4 := HX2.out.below b4
    have Y4 := HY2.out.below b4
    have y0 := X4.c0
    have y1 := X4.c1
    have z0 := Y4.c0
    have z1 := Y4.c1
    clear b4 X4 Y4 c3 x0 x1
    go_wp2_with fail
    refine (c5 _ B4.out).mono ?_
    rintro e w5 ⟨rfl, b5⟩
    have B5 := Aside0.mk (chain B4.out (Nat.le_refl _) b5)
    clear b5
    go_wp2_with fail
    go_ret
    exact ⟨by first | rfl | (simp; done), B5.out⟩
set_option maxHeartbeats 4000000 in
set_option maxRecDepth 100000 in
theorem back_num_calls (v : Int) (w : World) (hT : Tabs w) (hv : -9223372036854775807 ≤ v ∧ v ≤ 9223372036854775807) : Calls Tryd.prog 5 #[.agg #[.int .i64 0, .int .i64 v]] w fun e w' => e = .returned (.bool true) ∧ Below w.heap.size w w' := by
  have hr := back hv
  have hi : I64 v := by unfold I64; omega
  have hz := show_len 0 v hi
  have c1 := fun W => show_call 0 v hi W
  have c2 : ∀ w', Below w.heap.size w w' → _ := fun w' hb => read_call (ba (showS (0, v))) w' (by rw [ba_size]; omega) (tabs_below hT hb)
  rw [ba_list, hr] at c2
  have c3 := fun W => right_call 0 v W
  rw [show rightB (0, v) = true by unfold rightB; simp; omega] at c3
  have c5 : ∀ w', Below w.heap.size w w' → _ := fun w' hb => works_calls w' (tabs_below hT hb)
  generalize showS (0, v) = z at *
  have X0 := Aside0.mk (box_new 0 v w)
  have B0 := Aside0.mk ((Below.refl w.heap.size w).alloc (Nat.le_refl _) (Obj.cells #[.int .i64 0, .int .i64 v] 23))
  clear hT hr hz
  go_enter Tryd.func5, Tryd.ntmps5
  go_wp2_with fail
  refine (c1 _).mono ?_
  rintro e w1 ⟨rfl, b1⟩
  have B1 := Aside0.mk (chain B0.out (Nat.le_refl _) b1)
  have X1 := Aside0.mk (X0.out.below b1)
  clear b1
  go_wp2_with fail
  refine (c2 _ B1.out).mono ?_
  rintro e w2 ⟨rfl, b2⟩
  have al := (Below.refl w2.heap.size w2).alloc (Nat.le_refl _) (Obj.cells #[.int .i64 0, .int .i64 v] 23)
  have B2 := Aside0.mk (chain (chain B1.out (Nat.le_refl _) b2) (Nat.le_refl _) al)
  have X2 := (X1.out.below b2).below al
  have HX2 := Aside0.mk X2
  have HY2 := Aside0.mk (box_new 0 v w2)
  have x0 := X2.c0
  have x1 := X2.c1
  clear b2 al X2 c2 c1
  go_wp2_with fail
  refine (c3 _).mono ?_
  rintro e w4 ⟨rfl, b4⟩
  have B4 := Aside0.mk (chain B2.out (Nat.le_refl _) b4)
  have X4 := HX2.out.below b4
  have Y4 := HY2.out.below b4
  have y0 := X4.c0
  have y1 := X4.c1
  have z0 := Y4.c0
  have z1 := Y4.c1
  clear b4 X4 Y4 c3 x0 x1
  go_wp2_with fail
  refine (c5 _ B4.out).mono ?_
  rintro e w5 ⟨rfl, b5⟩
  have B5 := Aside0.mk (chain B4.out (Nat.le_refl _) b5)
  clear b5
  go_wp2_with fail
  go_ret
  exact ⟨by first | rfl | (simp; done), B5.out⟩
theorem back_calls (t v : Int) (w : World) (hT : Tabs w) (hv : I64 v) : Calls Tryd.prog 5 #[.agg #[.int .i64 t, .int .i64 v]] w fun e w' => e = .returned (.bool true) ∧ Below w.heap.size w w' := by
  by_cases h : rightB (t, v) = false ∨ t ≠ 0
  · exact back_none_calls t v w hT hv h
  · have h0 : t = 0 := by by_cases q : t = 0; exact q; exact absurd (.inr q) h
    subst h0
    have hr : rightB (0, v) = true := by cases q : rightB (0, v) with | true => rfl | false => exact absurd (.inl q) h
    refine back_num_calls v w hT ?_
    unfold I64 at hv
    unfold rightB at hr
    have : v ≠ -9223372036854775808 := by simpa using hr
    omega
end Go.Proofs.YthilcidoacgdfaaDoor.FigK
