/- The laws of esc: their walks. -/
import Derived.Test.YticpobgkbapdmaaDoorKoEscL
import Derived.Test.YticpobgkbapdmaaDoorKoEscM
namespace Go.Proofs.YticpobgkbapdmaaDoor.CharA
end Go.Proofs.YticpobgkbapdmaaDoor.CharA
namespace Go.Proofs.YticpobgkbapdmaaDoor.CharB
end Go.Proofs.YticpobgkbapdmaaDoor.CharB
namespace Go.Proofs.YticpobgkbapdmaaDoor.CharC
end Go.Proofs.YticpobgkbapdmaaDoor.CharC
namespace Go.Proofs.YticpobgkbapdmaaDoor.CharD
end Go.Proofs.YticpobgkbapdmaaDoor.CharD
namespace Go.Proofs.YticpobgkbapdmaaDoor.CharE
end Go.Proofs.YticpobgkbapdmaaDoor.CharE
namespace Go.Proofs.YticpobgkbapdmaaDoor.CharF
end Go.Proofs.YticpobgkbapdmaaDoor.CharF
namespace Go.Proofs.YticpobgkbapdmaaDoor.CharH
end Go.Proofs.YticpobgkbapdmaaDoor.CharH
namespace Go.Proofs.YticpobgkbapdmaaDoor.EscA
end Go.Proofs.YticpobgkbapdmaaDoor.EscA
namespace Go.Proofs.YticpobgkbapdmaaDoor.EscB
end Go.Proofs.YticpobgkbapdmaaDoor.EscB
namespace Go.Proofs.YticpobgkbapdmaaDoor.EscC
end Go.Proofs.YticpobgkbapdmaaDoor.EscC
namespace Go.Proofs.YticpobgkbapdmaaDoor.EscD
end Go.Proofs.YticpobgkbapdmaaDoor.EscD
namespace Go.Proofs.YticpobgkbapdmaaDoor.EscF
end Go.Proofs.YticpobgkbapdmaaDoor.EscF
namespace Go.Proofs.YticpobgkbapdmaaDoor.EscG
end Go.Proofs.YticpobgkbapdmaaDoor.EscG
namespace Go.Proofs.YticpobgkbapdmaaDoor.EscI
end Go.Proofs.YticpobgkbapdmaaDoor.EscI
namespace Go.Proofs.YticpobgkbapdmaaDoor.EscJ
end Go.Proofs.YticpobgkbapdmaaDoor.EscJ
namespace Go.Proofs.YticpobgkbapdmaaDoor.EscK
end Go.Proofs.YticpobgkbapdmaaDoor.EscK
namespace Go.Proofs.YticpobgkbapdmaaDoor.EscL
end Go.Proofs.YticpobgkbapdmaaDoor.EscL
namespace Go.Proofs.YticpobgkbapdmaaDoor.EscM
end Go.Proofs.YticpobgkbapdmaaDoor.EscM
namespace Go.Proofs.YticpobgkbapdmaaDoor.SpanA
end Go.Proofs.YticpobgkbapdmaaDoor.SpanA
namespace Go.Proofs.YticpobgkbapdmaaDoor.SpanB
end Go.Proofs.YticpobgkbapdmaaDoor.SpanB
namespace Go.Proofs.YticpobgkbapdmaaDoor.SpanC
end Go.Proofs.YticpobgkbapdmaaDoor.SpanC
namespace Go.Proofs.YticpobgkbapdmaaDoor.SpanD
end Go.Proofs.YticpobgkbapdmaaDoor.SpanD
namespace Go.Proofs.YticpobgkbapdmaaDoor.SpanE
end Go.Proofs.YticpobgkbapdmaaDoor.SpanE
namespace Go.Proofs.YticpobgkbapdmaaDoor.SpanF
end Go.Proofs.YticpobgkbapdmaaDoor.SpanF
namespace Go.Proofs.YticpobgkbapdmaaDoorW.PrintLast
end Go.Proofs.YticpobgkbapdmaaDoorW.PrintLast
namespace Go.Proofs.YticpobgkbapdmaaDoorW.PrintMore
end Go.Proofs.YticpobgkbapdmaaDoorW.PrintMore
namespace Go.Proofs.YticpobgkbapdmaaDoorW.PrintWords
end Go.Proofs.YticpobgkbapdmaaDoorW.PrintWords
namespace Go.Proofs.YticpobgkbapdmaaDoor.EscN
open Go.RowKit Go.Shelf Go.Proofs.YticpobgkbapdmaaDoorW.PrintWords Go.Proofs.YticpobgkbapdmaaDoorW.PrintLast Go.Proofs.YticpobgkbapdmaaDoorW.PrintMore Go.Proofs.YticpobgkbapdmaaDoor.CharA Go.Proofs.YticpobgkbapdmaaDoor.CharB Go.Proofs.YticpobgkbapdmaaDoor.CharC Go.Proofs.YticpobgkbapdmaaDoor.CharD Go.Proofs.YticpobgkbapdmaaDoor.CharE Go.Proofs.YticpobgkbapdmaaDoor.CharF Go.Proofs.YticpobgkbapdmaaDoor.CharH Go.Proofs.YticpobgkbapdmaaDoor.SpanA Go.Proofs.YticpobgkbapdmaaDoor.SpanB Go.Proofs.YticpobgkbapdmaaDoor.SpanC Go.Proofs.YticpobgkbapdmaaDoor.SpanD Go.Proofs.YticpobgkbapdmaaDoor.SpanE Go.Proofs.YticpobgkbapdmaaDoor.SpanF Go.Proofs.YticpobgkbapdmaaDoor.EscA Go.Proofs.YticpobgkbapdmaaDoor.EscB Go.Proofs.YticpobgkbapdmaaDoor.EscC Go.Proofs.YticpobgkbapdmaaDoor.EscD Go.Proofs.YticpobgkbapdmaaDoor.EscF Go.Proofs.YticpobgkbapdmaaDoor.EscG Go.Proofs.YticpobgkbapdmaaDoor.EscI Go.Proofs.YticpobgkbapdmaaDoor.EscJ Go.Proofs.YticpobgkbapdmaaDoor.EscK Go.Proofs.YticpobgkbapdmaaDoor.EscL Go.Proofs.YticpobgkbapdmaaDoor.EscM
set_option linter.unusedVariables false
set_option linter.unusedSimpArgs false
/-- What the laws ask of memory: the two tables, and bytealg's number. -/
def Fit (w : World) : Prop := Tabs w ∧ MaxL w ∧ 2 < w.heap.size
theorem fit_below {w w' : World} (h : Fit w) (hb : Below w.heap.size w w') : Fit w' := ⟨tabs_below h.1 hb, maxL_below h.2.1 hb, Nat.lt_of_lt_of_le h.2.2 hb.size⟩
theorem get0 (s : ByteArray) (hs : s.size ≤ 1000000000) (w : World) (h : Fit w) : Calls Tryd.prog 47 #[.string s] w fun e w' => e = .returned (.tuple #[.string (ba (getB false s).1), .int .i64 (getB false s).2]) ∧ Below w.heap.size w w' := get_calls s w h.1 h.2.1 h.2.2 hs
theorem ris (n : Int) (w : World) : Calls Tryd.prog 21 #[.int .i64 n] w fun e w' => e = .returned (.bool (isB n)) ∧ Below w.heap.size w w' :=
  PR1.breviaryref01_Is.calls 31 n _ w (ref_is 31 (by omega) n)
theorem rdigits (n : Nat) (hn : n < 4294967296) (w : World) : Calls Tryd.prog 46 #[.int .u64 (n : Int)] w fun e w' => e = .returned (.string (ba (decL n))) ∧ Below w.heap.size w w' := by
  refine (PR1.breviarylaw05_digits.calls 61 _ _ w (digits_f n hn _ (by omega))).mono ?_
  rintro e w' ⟨rfl, m, rfl⟩
  exact ⟨rfl, drewN_below w m⟩
theorem wk1 : getB false ⟨#[38, 35, 54, 53, 59, 38, 35, 120, 52, 50, 59, 38, 108, 116, 59]⟩ = ([65, 66, 60], 0) := by decide +kernel
theorem wk2 : putL false [97, 60, 98] = [97, 38, 108, 116, 59, 98] := by decide +kernel
set_option maxHeartbeats 8000000 in
set_option maxRecDepth 100000 in
theorem works_calls (w : World) (h : Fit w) : Calls Tryd.prog 48 #[] w fun e w' => e = .returned (.bool true) ∧ Below w.heap.size w w' := by
  have c1 := get0 ⟨#[38, 35, 54, 53, 59, 38, 35, 120, 52, 50, 59, 38, 108, 116, 59]⟩ (by show 15 ≤ _; omega) w h
  have c2 := put_calls ⟨#[97, 60, 98]⟩ (by show 3 < _; omega)
  rw [wk1] at c1
  simp only [show (⟨#[97, 60, 98]⟩ : ByteArray).data.toList = [97, 60, 98] from rfl, wk2] at c2
  have t1 : (ba [65, 66, 60]).toList = [65, 66, 60] := ba_tl _
  have t2 : (ba [97, 38, 108, 116, 59, 98]).toList = [97, 38, 108, 116, 59, 98] := ba_tl _
  clear h
  go_enter Tryd.func48, Tryd.ntmps48
  go_wp2_with fail
  refine (c1).mono ?_
  rintro e w1 ⟨rfl, b1⟩
  have B1 := b1
  go_wp2_with fail
  refine (c2 w1).mono ?_
  rintro e w2 ⟨rfl, b2⟩
  have B2 := chain B1 (Nat.le_refl _) b2
  go_wp2_with fail
  go_ret
  exact ⟨by first | rfl | decide +kernel | (simp [t2]; done), B2⟩
end Go.Proofs.YticpobgkbapdmaaDoor.EscN
