/- The walks of the laws of char. -/
import Derived.Test.YticpobgkbapdmaaDoorKwCharD
namespace Go.Proofs.YticpobgkbapdmaaDoor.CharA
end Go.Proofs.YticpobgkbapdmaaDoor.CharA
namespace Go.Proofs.YticpobgkbapdmaaDoor.CharB
end Go.Proofs.YticpobgkbapdmaaDoor.CharB
namespace Go.Proofs.YticpobgkbapdmaaDoor.CharC
end Go.Proofs.YticpobgkbapdmaaDoor.CharC
namespace Go.Proofs.YticpobgkbapdmaaDoor.CharD
end Go.Proofs.YticpobgkbapdmaaDoor.CharD
namespace Go.Proofs.YticpobgkbapdmaaDoorW.PrintLast
end Go.Proofs.YticpobgkbapdmaaDoorW.PrintLast
namespace Go.Proofs.YticpobgkbapdmaaDoorW.PrintMore
end Go.Proofs.YticpobgkbapdmaaDoorW.PrintMore
namespace Go.Proofs.YticpobgkbapdmaaDoorW.PrintWords
end Go.Proofs.YticpobgkbapdmaaDoorW.PrintWords
namespace Go.Proofs.YticpobgkbapdmaaDoor.CharE
open Go.RowKit Go.Proofs.YticpobgkbapdmaaDoorW.PrintWords Go.Proofs.YticpobgkbapdmaaDoorW.PrintLast Go.Proofs.YticpobgkbapdmaaDoorW.PrintMore Go.Proofs.YticpobgkbapdmaaDoor.CharA Go.Proofs.YticpobgkbapdmaaDoor.CharB Go.Proofs.YticpobgkbapdmaaDoor.CharC Go.Proofs.YticpobgkbapdmaaDoor.CharD
set_option linter.unusedVariables false
set_option linter.unusedSimpArgs false
abbrev Tabs (w : World) : Prop := Lib.Utf8Tabs 0 1 w
theorem tabs_below {w w' : World} (hT : Tabs w) (h : Below w.heap.size w w') : Tabs w' :=
  ⟨fun c hc => pw_cell_below h (hT.1 c hc), fun i hi => ⟨pw_cell_below h (hT.2 i hi).1, pw_cell_below h (hT.2 i hi).2⟩⟩
theorem chain {B : Nat} {a b c : World} (h : Below B a b) (hB : B ≤ a.heap.size) (h2 : Below b.heap.size b c) : Below B a c := h.trans (h2.mono (Nat.le_trans hB h.size))
theorem nameB_a1 : nameB ⟨#[97, 45, 49]⟩ = true := by kernel_rfl
theorem nameB_1a : nameB ⟨#[49, 97]⟩ = false := by kernel_rfl
theorem isB_97 : isB 97 = true := by kernel_rfl
theorem isB_0 : isB 0 = false := by kernel_rfl
set_option maxHeartbeats 8000000 in
set_option maxRecDepth 100000 in
theorem works_calls (w : World) (hT : Tabs w) : Calls Tryd.prog 19 #[] w fun e w' => e = .returned (.bool true) ∧ Below w.heap.size w w' := by
  have n1 := name_calls ⟨#[97, 45, 49]⟩ w hT
  rw [nameB_a1] at n1
  have n2 : ∀ w', Below w.heap.size w w' → _ := fun w' hb => name_calls ⟨#[49, 97]⟩ w' (tabs_below hT hb)
  simp only [nameB_1a] at n2
  have i1 := is_calls 97
  have i2 := is_calls 0
  rw [isB_97] at i1
  rw [isB_0] at i2
  go_enter Tryd.func19, Tryd.ntmps19
  go_wp2_with fail
  refine n1.mono ?_
  rintro e w1 ⟨rfl, b1⟩
  go_wp2_with fail
  refine (n2 w1 b1).mono ?_
  rintro e w2 ⟨rfl, b2⟩
  go_wp2_with fail
  refine (i1 w2).mono ?_
  rintro e w3 ⟨rfl, b3⟩
  go_wp2_with fail
  refine (i2 w3).mono ?_
  rintro e w4 ⟨rfl, b4⟩
  go_wp2_with fail
  go_ret
  exact ⟨rfl, chain (chain (chain b1 (Nat.le_refl _) b2) (Nat.le_refl _) b3) (Nat.le_refl _) b4⟩
end Go.Proofs.YticpobgkbapdmaaDoor.CharE
