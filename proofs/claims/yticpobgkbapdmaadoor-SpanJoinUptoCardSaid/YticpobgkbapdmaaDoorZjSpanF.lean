/- span.Norm, Has, Before, After, and the laws' works: what they compute. -/
import Derived.Lib.FieldsP
import Derived.Lib.SpaceUEq
import Derived.Test.YticpobgkbapdmaaDoorZjSpanD
namespace Go.Proofs.YticpobgkbapdmaaDoor.CharA
end Go.Proofs.YticpobgkbapdmaaDoor.CharA
namespace Go.Proofs.YticpobgkbapdmaaDoor.CharB
end Go.Proofs.YticpobgkbapdmaaDoor.CharB
namespace Go.Proofs.YticpobgkbapdmaaDoor.CharC
end Go.Proofs.YticpobgkbapdmaaDoor.CharC
namespace Go.Proofs.YticpobgkbapdmaaDoor.CharD
end Go.Proofs.YticpobgkbapdmaaDoor.CharD
namespace Go.Proofs.YticpobgkbapdmaaDoor.CharE
end Go.Proofs.YticpobgkbapdmaaDoor.CharE
namespace Go.Proofs.YticpobgkbapdmaaDoor.CharF
end Go.Proofs.YticpobgkbapdmaaDoor.CharF
namespace Go.Proofs.YticpobgkbapdmaaDoor.SpanA
end Go.Proofs.YticpobgkbapdmaaDoor.SpanA
namespace Go.Proofs.YticpobgkbapdmaaDoor.SpanB
end Go.Proofs.YticpobgkbapdmaaDoor.SpanB
namespace Go.Proofs.YticpobgkbapdmaaDoor.SpanC
end Go.Proofs.YticpobgkbapdmaaDoor.SpanC
namespace Go.Proofs.YticpobgkbapdmaaDoor.SpanD
end Go.Proofs.YticpobgkbapdmaaDoor.SpanD
namespace Go.Proofs.YticpobgkbapdmaaDoor.SpanE
end Go.Proofs.YticpobgkbapdmaaDoor.SpanE
namespace Go.Proofs.YticpobgkbapdmaaDoorW.PrintLast
end Go.Proofs.YticpobgkbapdmaaDoorW.PrintLast
namespace Go.Proofs.YticpobgkbapdmaaDoorW.PrintMore
end Go.Proofs.YticpobgkbapdmaaDoorW.PrintMore
namespace Go.Proofs.YticpobgkbapdmaaDoorW.PrintWords
end Go.Proofs.YticpobgkbapdmaaDoorW.PrintWords
namespace Go.Proofs.YticpobgkbapdmaaDoor.SpanF
open Go.RowKit Go.Shelf Go.Proofs.YticpobgkbapdmaaDoorW.PrintWords Go.Proofs.YticpobgkbapdmaaDoorW.PrintLast Go.Proofs.YticpobgkbapdmaaDoorW.PrintMore Go.Proofs.YticpobgkbapdmaaDoor.CharA Go.Proofs.YticpobgkbapdmaaDoor.CharB Go.Proofs.YticpobgkbapdmaaDoor.CharC Go.Proofs.YticpobgkbapdmaaDoor.CharD Go.Proofs.YticpobgkbapdmaaDoor.CharE Go.Proofs.YticpobgkbapdmaaDoor.CharF Go.Proofs.YticpobgkbapdmaaDoor.SpanA Go.Proofs.YticpobgkbapdmaaDoor.SpanB Go.Proofs.YticpobgkbapdmaaDoor.SpanC Go.Proofs.YticpobgkbapdmaaDoor.SpanD Go.Proofs.YticpobgkbapdmaaDoor.SpanE
set_option linter.unusedVariables false
set_option linter.unusedSimpArgs false
theorem ba_tl (l : List UInt8) : (ba l).toList = l := by rw [tl, ba_list]
/-! ### works -/
theorem w_len : (pieces ⟨#[230, 151, 165, 230, 156, 172]⟩).length = 2 := by kernel_rfl
theorem w_cut : cutB ⟨#[97, 98, 99, 100]⟩ 1 2 = [98, 99] := by kernel_rfl
theorem w_map : mapB ⟨#[98, 97, 114]⟩ ⟨#[97, 98, 99]⟩ ⟨#[65, 66]⟩ = [66, 65, 114] := by kernel_rfl
set_option maxHeartbeats 8000000 in
set_option maxRecDepth 100000 in
theorem works_calls (w : World) (hT : Tabs w) (h2 : 2 ≤ w.heap.size) : Calls Tryd.prog 32 #[] w fun e w' => e = .returned (.bool true) ∧ Below w.heap.size w w' := by
  have c1 := len_calls ⟨#[230, 151, 165, 230, 156, 172]⟩ w (by show 6 < _; omega)
  rw [w_len] at c1
  have c2 : ∀ w', Below w.heap.size w w' → _ := fun w' hb => cut_calls ⟨#[97, 98, 99, 100]⟩ 1 2 w' (by show 4 < _; omega) (tabs_below hT hb) (Nat.le_trans h2 hb.size) (by omega) (by omega) (by omega) (by omega)
  have c3 : ∀ w', Below w.heap.size w w' → _ := fun w' hb => map_calls ⟨#[98, 97, 114]⟩ ⟨#[97, 98, 99]⟩ ⟨#[65, 66]⟩ w' (by show 3 < _; omega) (by show 3 < _; omega) (by show 2 < _; omega) (tabs_below hT hb) (Nat.le_trans h2 hb.size)
  simp only [w_cut, w_map] at c2 c3
  have t1 : (ba [98, 99]).toList = [98, 99] := ba_tl _
  have t2 : (ba [66, 65, 114]).toList = [66, 65, 114] := ba_tl _
  clear hT
  go_enter Tryd.func32, Tryd.ntmps32
  go_wp2_with fail
  refine c1.mono ?_
  rintro e w1 ⟨rfl, b1⟩
  go_wp2_with fail
  refine (c2 w1 b1).mono ?_
  rintro e w2 ⟨rfl, b2⟩
  have b12 := chain b1 (Nat.le_refl _) b2
  go_wp2_with fail
  refine (c3 w2 b12).mono ?_
  rintro e w3 ⟨rfl, b3⟩
  have b13 := chain b12 (Nat.le_refl _) b3
  clear c1 c2 c3 b1 b2 b3 b12
  go_wp2_with fail
  go_ret
  exact ⟨by first | rfl | decide +kernel | (simp [t2]; done), b13⟩
/-! ### the laws -/
end Go.Proofs.YticpobgkbapdmaaDoor.SpanF
