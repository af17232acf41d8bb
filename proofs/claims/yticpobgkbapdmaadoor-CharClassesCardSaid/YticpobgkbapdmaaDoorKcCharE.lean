/- The walks of the laws of char. -/
import Derived.Test.YticpobgkbapdmaaDoorKcCharC
namespace Go.Proofs.YticpobgkbapdmaaDoor.CharA
end Go.Proofs.YticpobgkbapdmaaDoor.CharA
namespace Go.Proofs.YticpobgkbapdmaaDoor.CharB
end Go.Proofs.YticpobgkbapdmaaDoor.CharB
namespace Go.Proofs.YticpobgkbapdmaaDoor.CharC
end Go.Proofs.YticpobgkbapdmaaDoor.CharC
namespace Go.Proofs.YticpobgkbapdmaaDoor.CharD
end Go.Proofs.YticpobgkbapdmaaDoor.CharD
namespace Go.Proofs.YticpobgkbapdmaaDoorW.PrintLast
end Go.Proofs.YticpobgkbapdmaaDoorW.PrintLast
namespace Go.Proofs.YticpobgkbapdmaaDoorW.PrintMore
end Go.Proofs.YticpobgkbapdmaaDoorW.PrintMore
namespace Go.Proofs.YticpobgkbapdmaaDoorW.PrintWords
end Go.Proofs.YticpobgkbapdmaaDoorW.PrintWords
namespace Go.Proofs.YticpobgkbapdmaaDoor.CharE
open Go.RowKit Go.Proofs.YticpobgkbapdmaaDoorW.PrintWords Go.Proofs.YticpobgkbapdmaaDoorW.PrintLast Go.Proofs.YticpobgkbapdmaaDoorW.PrintMore Go.Proofs.YticpobgkbapdmaaDoor.CharA Go.Proofs.YticpobgkbapdmaaDoor.CharB Go.Proofs.YticpobgkbapdmaaDoor.CharC Go.Proofs.YticpobgkbapdmaaDoor.CharD
set_option linter.unusedVariables false
set_option linter.unusedSimpArgs false
abbrev Tabs (w : World) : Prop := Lib.Utf8Tabs 0 1 w
theorem tabs_below {w w' : World} (hT : Tabs w) (h : Below w.heap.size w w') : Tabs w' :=
  ⟨fun c hc => pw_cell_below h (hT.1 c hc), fun i hi => ⟨pw_cell_below h (hT.2 i hi).1, pw_cell_below h (hT.2 i hi).2⟩⟩
theorem chain {B : Nat} {a b c : World} (h : Below B a b) (hB : B ≤ a.heap.size) (h2 : Below b.heap.size b c) : Below B a c := h.trans (h2.mono (Nat.le_trans hB h.size))
theorem nameB_a1 : nameB ⟨#[97, 45, 49]⟩ = true := by kernel_rfl
theorem nameB_1a : nameB ⟨#[49, 97]⟩ = false := by kernel_rfl
theorem isB_97 : isB 97 = true := by kernel_rfl
theorem isB_0 : isB 0 = false := by kernel_rfl
set_option maxHeartbeats 8000000 in
set_option maxRecDepth 100000 in
theorem works_calls (w : World) (hT : Tabs w) : Calls Tryd.prog 19 #[] w fun e w' => e = .returned (.bool true) ∧ Below w.heap.size w w' := by
  have n1 := name_calls ⟨#[97, 45, 49]⟩ w hT
  rw [nameB_a1] at n1
  have n2 : ∀ w', Below w.heap.size w w' → _ := fun w' hb => name_calls ⟨#[49, 97]⟩ w' (tabs_below hT hb)
  simp only [nameB_1a] at n2
  have i1 := is_calls 97
  have i2 := is_calls 0
  rw [isB_97] at i1
  rw [isB_0] at i2
  go_enter Tryd.func19, Tryd.ntmps19
  go_wp2_with fail
  refine n1.mono ?_
  rintro e w1 ⟨rfl, b1⟩
  go_wp2_with fail
  refine (n2 w1 b1).mono ?_
  rintro e w2 ⟨rfl, b2⟩
  go_wp2_with fail
  refine (i1 w2).mono ?_
  rintro e w3 ⟨rfl, b3⟩
  go_wp2_with fail
  refine (i2 w3).mono ?_
  rintro e w4 ⟨rfl, b4⟩
  go_wp2_with fail
  go_ret
  exact ⟨rfl, chain (chain (chain b1 (Nat.le_refl _) b2) (Nat.le_refl _) b3) (Nat.le_refl _) b4⟩
set_option maxHeartbeats 8000000 in
set_option maxRecDepth 100000 in
theorem classes_calls (r : Int) (w : World) (hT : Tabs w) (h0 : -2147483648 ≤ r) (h1 : r ≤ 2147483647) : Calls Tryd.prog 4 #[.int .i32 r] w fun e w' => e = .returned (.bool true) ∧ Below w.heap.size w w' := by
  have c1 := is_calls r
  have c2 := fun w' => PR1.breviaryref01_Is.calls 31 r _ w' (ref_is 31 (by omega) r)
  have c3 := space_calls r
  have c4 := fun w' => PR1.breviaryref01_Space.calls r _ w' (ref_space r)
  have c5 := start_calls r
  have c6 := fun w' => PR1.breviaryref01_Start.calls 31 r _ w' (ref_start 31 (by omega) r)
  have c7 := part_calls r
  have c8 := fun w' => PR1.breviaryref01_Part.calls 31 r _ w' (ref_part 31 (by omega) r)
  generalize isB r = x at *
  generalize spaceB r = y at *
  generalize startB r = z at *
  generalize partB r = u at *
  have hw : wrap64 r = r := w64 (by omega) (by omega)
  go_enter Tryd.func4, Tryd.ntmps4
  go_wp2_with fail
  refine (c1 _).mono ?_
  rintro e w1 ⟨rfl, b1⟩
  go_wp2_with fail
  refine (c2 w1).mono ?_
  rintro e w2 ⟨rfl, b2⟩
  go_wp2_with fail
  refine (c3 w2).mono ?_
  rintro e w3 ⟨rfl, m3, rfl⟩
  go_wp2_with fail
  refine (c4 _).mono ?_
  rintro e w4 ⟨rfl, m4, rfl⟩
  have B := below_drewN (chain b1 (Nat.le_refl _) b2) (m3 + m4)
  have BB := Aside0.mk B
  clear b1 b2 B c1 c2 c3 c4
  go_wp2_with fail
  refine (c5 _).mono ?_
  rintro e w5 ⟨rfl, b5⟩
  go_wp2_with fail
  refine (c6 _).mono ?_
  rintro e w6 ⟨rfl, b6⟩
  go_wp2_with fail
  refine (c7 _).mono ?_
  rintro e w7 ⟨rfl, b7⟩
  go_wp2_with fail
  refine (c8 _).mono ?_
  rintro e w8 ⟨rfl, b8⟩
  have B8 := chain (chain (chain (chain BB.out (Nat.le_refl _) b5) (Nat.le_refl _) b6) (Nat.le_refl _) b7) (Nat.le_refl _) b8
  clear b5 b6 b7 b8 c5 c6 c7 c8
  go_wp2_with fail
  refine (works_calls _ (tabs_below hT B8)).mono ?_
  rintro e w9 ⟨rfl, b9⟩
  go_wp2_with fail
  go_ret
  exact ⟨rfl, chain B8 (Nat.le_refl _) b9⟩
theorem classesW (r : Int) (w : World) (hT : Tabs w) (hw : (Lit.int .i32 r).wf = true) : Calls Tryd.prog 4 #[.int .i32 r] w fun e w' => e = .returned (.bool true) ∧ Below w.heap.size w w' := by
  have h : -2147483648 ≤ r ∧ r ≤ 2147483647 := by simpa [Lit.wf, IntKind.min, IntKind.max, IntKind.bits, IntKind.signed] using hw
  exact classes_calls r w hT h.1 h.2
end Go.Proofs.YticpobgkbapdmaaDoor.CharE
