/- esc.character and the reader's reference: what they compute. -/
import Derived.Test.YticpobgkbapdmaaDoorKoEscD
namespace Go.Proofs.YticpobgkbapdmaaDoor.CharA
end Go.Proofs.YticpobgkbapdmaaDoor.CharA
namespace Go.Proofs.YticpobgkbapdmaaDoor.CharB
end Go.Proofs.YticpobgkbapdmaaDoor.CharB
namespace Go.Proofs.YticpobgkbapdmaaDoor.CharC
end Go.Proofs.YticpobgkbapdmaaDoor.CharC
namespace Go.Proofs.YticpobgkbapdmaaDoor.CharD
end Go.Proofs.YticpobgkbapdmaaDoor.CharD
namespace Go.Proofs.YticpobgkbapdmaaDoor.CharE
end Go.Proofs.YticpobgkbapdmaaDoor.CharE
namespace Go.Proofs.YticpobgkbapdmaaDoor.CharH
end Go.Proofs.YticpobgkbapdmaaDoor.CharH
namespace Go.Proofs.YticpobgkbapdmaaDoor.EscA
end Go.Proofs.YticpobgkbapdmaaDoor.EscA
namespace Go.Proofs.YticpobgkbapdmaaDoor.EscB
end Go.Proofs.YticpobgkbapdmaaDoor.EscB
namespace Go.Proofs.YticpobgkbapdmaaDoor.EscC
end Go.Proofs.YticpobgkbapdmaaDoor.EscC
namespace Go.Proofs.YticpobgkbapdmaaDoor.EscD
end Go.Proofs.YticpobgkbapdmaaDoor.EscD
namespace Go.Proofs.YticpobgkbapdmaaDoor.PR1
end Go.Proofs.YticpobgkbapdmaaDoor.PR1
namespace Go.Proofs.YticpobgkbapdmaaDoor.SpanA
end Go.Proofs.YticpobgkbapdmaaDoor.SpanA
namespace Go.Proofs.YticpobgkbapdmaaDoor.SpanB
end Go.Proofs.YticpobgkbapdmaaDoor.SpanB
namespace Go.Proofs.YticpobgkbapdmaaDoor.SpanC
end Go.Proofs.YticpobgkbapdmaaDoor.SpanC
namespace Go.Proofs.YticpobgkbapdmaaDoor.SpanD
end Go.Proofs.YticpobgkbapdmaaDoor.SpanD
namespace Go.Proofs.YticpobgkbapdmaaDoor.SpanF
end Go.Proofs.YticpobgkbapdmaaDoor.SpanF
namespace Go.Proofs.YticpobgkbapdmaaDoorW.PrintLast
end Go.Proofs.YticpobgkbapdmaaDoorW.PrintLast
namespace Go.Proofs.YticpobgkbapdmaaDoorW.PrintMore
end Go.Proofs.YticpobgkbapdmaaDoorW.PrintMore
namespace Go.Proofs.YticpobgkbapdmaaDoorW.PrintWords
end Go.Proofs.YticpobgkbapdmaaDoorW.PrintWords
namespace Go.Proofs.YticpobgkbapdmaaDoor.EscE
open Go.RowKit Go.Shelf Go.Proofs.YticpobgkbapdmaaDoorW.PrintWords Go.Proofs.YticpobgkbapdmaaDoorW.PrintLast Go.Proofs.YticpobgkbapdmaaDoorW.PrintMore Go.Proofs.YticpobgkbapdmaaDoor.CharA Go.Proofs.YticpobgkbapdmaaDoor.CharB Go.Proofs.YticpobgkbapdmaaDoor.CharC Go.Proofs.YticpobgkbapdmaaDoor.CharD Go.Proofs.YticpobgkbapdmaaDoor.CharE Go.Proofs.YticpobgkbapdmaaDoor.CharH Go.Proofs.YticpobgkbapdmaaDoor.SpanA Go.Proofs.YticpobgkbapdmaaDoor.SpanB Go.Proofs.YticpobgkbapdmaaDoor.SpanC Go.Proofs.YticpobgkbapdmaaDoor.SpanD Go.Proofs.YticpobgkbapdmaaDoor.SpanF Go.Proofs.YticpobgkbapdmaaDoor.EscA Go.Proofs.YticpobgkbapdmaaDoor.EscB Go.Proofs.YticpobgkbapdmaaDoor.EscC Go.Proofs.YticpobgkbapdmaaDoor.EscD Go.Proofs.YticpobgkbapdmaaDoor.PR1
set_option linter.unusedVariables false
set_option linter.unusedSimpArgs false
theorem cutP (s p : ByteArray) (w : World) : Calls Tryd.prog 92 #[.string s, .string p] w fun e w' => e = .returned (.tuple #[.string (ba (if p.data.toList.isPrefixOf s.data.toList then s.data.toList.drop p.data.toList.length else s.data.toList)), .bool (p.data.toList.isPrefixOf s.data.toList)]) ∧ w' = w :=
  Tryd.strings_CutPrefix s p w
theorem cut16 (s : ByteArray) (w : World) : Calls Tryd.prog 92 #[.string s, .string ⟨#[35, 120]⟩] w fun e w' => e = .returned (.tuple #[.string (ba (if ([35, 120] : List UInt8).isPrefixOf s.data.toList then s.data.toList.drop 2 else s.data.toList)), .bool (([35, 120] : List UInt8).isPrefixOf s.data.toList)]) ∧ w' = w := cutP s ⟨#[35, 120]⟩ w
theorem cut10 (s : ByteArray) (w : World) : Calls Tryd.prog 92 #[.string s, .string ⟨#[35]⟩] w fun e w' => e = .returned (.tuple #[.string (ba (if ([35] : List UInt8).isPrefixOf s.data.toList then s.data.toList.tail else s.data.toList)), .bool (([35] : List UInt8).isPrefixOf s.data.toList)]) ∧ w' = w := by
  have := cutP s ⟨#[35]⟩ w
  rw [show (⟨#[35]⟩ : ByteArray).data.toList = [35] from rfl, show ([35] : List UInt8).length = 1 from rfl, List.drop_one] at this
  exact this
theorem num_calls (l : List UInt8) (hs : l.length < 1000000000000) (base : Int) (hb : base = 10 ∨ base = 16) (w : World) : Calls Tryd.prog 93 #[.string (ba l), .int .i64 base] w fun e w' => e = .returned (.int .i64 (numB base l)) ∧ Below w.heap.size w w' :=
  esc_number.calls (l.length + 11) (ba l) base _ w (number_f (ba l) (by rw [ba_size]; omega) base hb _ (by rw [ba_size]; omega))
theorem chr_neg {l : List UInt8} (c0 : l ≠ [97, 109, 112]) (c1 : l ≠ [108, 116]) (c2 : l ≠ [103, 116]) (c3 : l ≠ [113, 117, 111, 116]) (c4 : l ≠ [97, 112, 111, 115]) : chr l = if refN l < 0 then none else if isB (refN l) then some (enc (refN l)).data.toList else none := by
  unfold chr
  rw [if_neg c0, if_neg c1, if_neg c2, if_neg c3, if_neg c4]
theorem w32 {n : Int} (h0 : -1 ≤ n) (h1 : n ≤ 1114112) : IntKind.i32.wrap n = n := by unfold IntKind.wrap; simp [IntKind.bits, IntKind.signed]; omega
set_option maxHeartbeats 800000 in
set_option maxRecDepth 100000 in
theorem character_n0 (s : ByteArray) (w : World) (h : s.data.toList = [97, 109, 112]) : Calls Tryd.prog 85 #[.string s] w fun e w' => e = .returned (.tuple #[.string (ba ((chr s.data.toList).getD [])), .bool (chr s.data.toList).isSome]) ∧ Below w.heap.size w w' := by
  have d0 : (s.toList == ([97, 109, 112] : List UInt8)) = true := by rw [tl, h]; rfl
  have HC : chr s.data.toList = some [38] := by rw [h]; rfl
  rw [HC]
  clear HC h
  have HB := Below.refl w.heap.size w
  go_enter Tryd.func85, Tryd.ntmps85
  go_wp2_with fail
  go_ret2
  exact ⟨rfl, HB⟩
set_option maxHeartbeats 800000 in
set_option maxRecDepth 100000 in
theorem character_n1 (s : ByteArray) (w : World) (h : s.data.toList = [108, 116]) : Calls Tryd.prog 85 #[.string s] w fun e w' => e = .returned (.tuple #[.string (ba ((chr s.data.toList).getD [])), .bool (chr s.data.toList).isSome]) ∧ Below w.heap.size w w' := by
  have d0 : (s.toList == ([97, 109, 112] : List UInt8)) = false := by rw [tl, h]; rfl
  have d1 : (s.toList == ([108, 116] : List UInt8)) = true := by rw [tl, h]; rfl
  have HC : chr s.data.toList = some [60] := by rw [h]; rfl
  rw [HC]
  clear HC h
  have HB := Below.refl w.heap.size w
  go_enter Tryd.func85, Tryd.ntmps85
  go_wp2_with fail
  go_ret2
  exact ⟨rfl, HB⟩
set_option maxHeartbeats 800000 in
set_option maxRecDepth 100000 in
theorem character_n2 (s : ByteArray) (w : World) (h : s.data.toList = [103, 116]) : Calls Tryd.prog 85 #[.string s] w fun e w' => e = .returned (.tuple #[.string (ba ((chr s.data.toList).getD [])), .bool (chr s.data.toList).isSome]) ∧ Below w.heap.size w w' := by
  have d0 : (s.toList == ([97, 109, 112] : List UInt8)) = false := by rw [tl, h]; rfl
  have d1 : (s.toList == ([108, 116] : List UInt8)) = false := by rw [tl, h]; rfl
  have d2 : (s.toList == ([103, 116] : List UInt8)) = true := by rw [tl, h]; rfl
  have HC : chr s.data.toList = some [62] := by rw [h]; rfl
  rw [HC]
  clear HC h
  have HB := Below.refl w.heap.size w
  go_enter Tryd.func85, Tryd.ntmps85
  go_wp2_with fail
  go_ret2
  exact ⟨rfl, HB⟩
set_option maxHeartbeats 800000 in
set_option maxRecDepth 100000 in
theorem character_n3 (s : ByteArray) (w : World) (h : s.data.toList = [113, 117, 111, 116]) : Calls Tryd.prog 85 #[.string s] w fun e w' => e = .returned (.tuple #[.string (ba ((chr s.data.toList).getD [])), .bool (chr s.data.toList).isSome]) ∧ Below w.heap.size w w' := by
  have d0 : (s.toList == ([97, 109, 112] : List UInt8)) = false := by rw [tl, h]; rfl
  have d1 : (s.toList == ([108, 116] : List UInt8)) = false := by rw [tl, h]; rfl
  have d2 : (s.toList == ([103, 116] : List UInt8)) = false := by rw [tl, h]; rfl
  have d3 : (s.toList == ([113, 117, 111, 116] : List UInt8)) = true := by rw [tl, h]; rfl
  have HC : chr s.data.toList = some [34] := by rw [h]; rfl
  rw [HC]
  clear HC h
  have HB := Below.refl w.heap.size w
  go_enter Tryd.func85, Tryd.ntmps85
  go_wp2_with fail
  go_ret2
  exact ⟨rfl, HB⟩
set_option maxHeartbeats 800000 in
set_option maxRecDepth 100000 in
theorem character_n4 (s : ByteArray) (w : World) (h : s.data.toList = [97, 112, 111, 115]) : Calls Tryd.prog 85 #[.string s] w fun e w' => e = .returned (.tuple #[.string (ba ((chr s.data.toList).getD [])), .bool (chr s.data.toList).isSome]) ∧ Below w.heap.size w w' := by
  have d0 : (s.toList == ([97, 109, 112] : List UInt8)) = false := by rw [tl, h]; rfl
  have d1 : (s.toList == ([108, 116] : List UInt8)) = false := by rw [tl, h]; rfl
  have d2 : (s.toList == ([103, 116] : List UInt8)) = false := by rw [tl, h]; rfl
  have d3 : (s.toList == ([113, 117, 111, 116] : List UInt8)) = false := by rw [tl, h]; rfl
  have d4 : (s.toList == ([97, 112, 111, 115] : List UInt8)) = true := by rw [tl, h]; rfl
  have HC : chr s.data.toList = some [39] := by rw [h]; rfl
  rw [HC]
  clear HC h
  have HB := Below.refl w.heap.size w
  go_enter Tryd.func85, Tryd.ntmps85
  go_wp2_with fail
  go_ret2
  exact ⟨rfl, HB⟩
set_option maxHeartbeats 800000 in
set_option maxRecDepth 100000 in
theorem character_p16_neg (s : ByteArray) (hs : s.size < 1000000000000) (w : World) (c0 : s.data.toList ≠ [97, 109, 112]) (c1 : s.data.toList ≠ [108, 116]) (c2 : s.data.toList ≠ [103, 116]) (c3 : s.data.toList ≠ [113, 117, 111, 116]) (c4 : s.data.toList ≠ [97, 112, 111, 115])
    (hp : ([35, 120] : List UInt8).isPrefixOf s.data.toList = true) (hn : refN s.data.toList < 0) : Calls Tryd.prog 85 #[.string s] w fun e w' => e = .returned (.tuple #[.string (ba ((chr s.data.toList).getD [])), .bool (chr s.data.toList).isSome]) ∧ Below w.heap.size w w' := by
  have HC : chr s.data.toList = none := by
    rw [chr_neg c0 c1 c2 c3 c4]
    rw [if_pos hn]
  rw [HC]
  clear HC
  have hr := refN_range s.data.toList
  have d0 : (s.toList == ([97, 109, 112] : List UInt8)) = false := by rw [tl]; exact beq_eq_false_iff_ne.mpr c0
  have d1 : (s.toList == ([108, 116] : List UInt8)) = false := by rw [tl]; exact beq_eq_false_iff_ne.mpr c1
  have d2 : (s.toList == ([103, 116] : List UInt8)) = false := by rw [tl]; exact beq_eq_false_iff_ne.mpr c2
  have d3 : (s.toList == ([113, 117, 111, 116] : List UInt8)) = false := by rw [tl]; exact beq_eq_false_iff_ne.mpr c3
  have d4 : (s.toList == ([97, 112, 111, 115] : List UInt8)) = false := by rw [tl]; exact beq_eq_false_iff_ne.mpr c4
  have hA := cut16 s
  have eA : ([35, 120] : List UInt8).isPrefixOf s.data.toList = true := hp
  simp only [eA, if_true] at hA
  have hN := num_calls (s.data.toList.drop 2) (by rw [List.length_drop, ← Lib.size_eq]; omega) 16 (.inr rfl)
  have eN : numB 16 (s.data.toList.drop 2) = refN s.data.toList := by unfold refN; rw [if_pos hp]
  rw [eN] at hN
  generalize refN s.data.toList = n at *
  clear eN
  clear c0 c1 c2 c3 c4
  have hnb : decide (n < 0) = true := decide_eq_true hn
  clear hp
  go_enter Tryd.func85, Tryd.ntmps85
  go_wp2_with fail
  refine (hA _).mono ?_
  rintro e w1 ⟨rfl, rfl⟩
  go_wp2_with fail
  refine (hN _).mono ?_
  rintro e w1 ⟨rfl, hb1⟩
  go_wp2_with fail
  go_ret2
  exact ⟨rfl, hb1⟩
set_option maxHeartbeats 800000 in
set_option maxRecDepth 100000 in
theorem character_p16_not (s : ByteArray) (hs : s.size < 1000000000000) (w : World) (c0 : s.data.toList ≠ [97, 109, 112]) (c1 : s.data.toList ≠ [108, 116]) (c2 : s.data.toList ≠ [103, 116]) (c3 : s.data.toList ≠ [113, 117, 111, 116]) (c4 : s.data.toList ≠ [97, 112, 111, 115])
    (hp : ([35, 120] : List UInt8).isPrefixOf s.data.toList = true) (hn : ¬ refN s.data.toList < 0) (hi : isB (refN s.data.toList) = false) : Calls Tryd.prog 85 #[.string s] w fun e w' => e = .returned (.tuple #[.string (ba ((chr s.data.toList).getD [])), .bool (chr s.data.toList).isSome]) ∧ Below w.heap.size w w' := by
  have HC : chr s.data.toList = none := by
    rw [chr_neg c0 c1 c2 c3 c4]
    rw [if_neg hn, hi]; rfl
  rw [HC]
  clear HC
  have hr := refN_range s.data.toList
  have d0 : (s.toList == ([97, 109, 112] : List UInt8)) = false := by rw [tl]; exact beq_eq_false_iff_ne.mpr c0
  have d1 : (s.toList == ([108, 116] : List UInt8)) = false := by rw [tl]; exact beq_eq_false_iff_ne.mpr c1
  have d2 : (s.toList == ([103, 116] : List UInt8)) = false := by rw [tl]; exact beq_eq_false_iff_ne.mpr c2
  have d3 : (s.toList == ([113, 117, 111, 116] : List UInt8)) = false := by rw [tl]; exact beq_eq_false_iff_ne.mpr c3
  have d4 : (s.toList == ([97, 112, 111, 115] : List UInt8)) = false := by rw [tl]; exact beq_eq_false_iff_ne.mpr c4
  have hA := cut16 s
  have eA : ([35, 120] : List UInt8).isPrefixOf s.data.toList = true := hp
  simp only [eA, if_true] at hA
  have hN := num_calls (s.data.toList.drop 2) (by rw [List.length_drop, ← Lib.size_eq]; omega) 16 (.inr rfl)
  have eN : numB 16 (s.data.toList.drop 2) = refN s.data.toList := by unfold refN; rw [if_pos hp]
  rw [eN] at hN
  generalize refN s.data.toList = n at *
  clear eN
  clear c0 c1 c2 c3 c4
  have hnb : decide (n < 0) = false := decide_eq_false hn
  have e32 := w32 (n := n) hr.1 hr.2
  have hI : ∀ W, Calls Tryd.prog 20 #[.int .i32 n] W fun e w' => e = .returned (.bool false) ∧ Below W.heap.size W w' := fun W => by have := is_calls n W; rw [hi] at this; exact this
  clear hp
  go_enter Tryd.func85, Tryd.ntmps85
  go_wp2_with fail
  refine (hA _).mono ?_
  rintro e w1 ⟨rfl, rfl⟩
  go_wp2_with fail
  refine (hN _).mono ?_
  rintro e w1 ⟨rfl, hb1⟩
  go_wp2_with fail
  refine (hI _).mono ?_
  rintro e w2 ⟨rfl, hb2⟩
  go_wp2_with fail
  go_ret2
  exact ⟨rfl, (hb1.trans (hb2.mono hb1.size))⟩
set_option maxHeartbeats 800000 in
set_option maxRecDepth 100000 in
theorem character_p16_is (s : ByteArray) (hs : s.size < 1000000000000) (w : World) (c0 : s.data.toList ≠ [97, 109, 112]) (c1 : s.data.toList ≠ [108, 116]) (c2 : s.data.toList ≠ [103, 116]) (c3 : s.data.toList ≠ [113, 117, 111, 116]) (c4 : s.data.toList ≠ [97, 112, 111, 115])
    (hp : ([35, 120] : List UInt8).isPrefixOf s.data.toList = true) (hn : ¬ refN s.data.toList < 0) (hi : isB (refN s.data.toList) = true) : Calls Tryd.prog 85 #[.string s] w fun e w' => e = .returned (.tuple #[.string (ba ((chr s.data.toList).getD [])), .bool (chr s.data.toList).isSome]) ∧ Below w.heap.size w w' := by
  have HC : chr s.data.toList = some (enc (refN s.data.toList)).data.toList := by
    rw [chr_neg c0 c1 c2 c3 c4]
    rw [if_neg hn, hi]; rfl
  rw [HC]
  clear HC
  have hr := refN_range s.data.toList
  have d0 : (s.toList == ([97, 109, 112] : List UInt8)) = false := by rw [tl]; exact beq_eq_false_iff_ne.mpr c0
  have d1 : (s.toList == ([108, 116] : List UInt8)) = false := by rw [tl]; exact beq_eq_false_iff_ne.mpr c1
  have d2 : (s.toList == ([103, 116] : List UInt8)) = false := by rw [tl]; exact beq_eq_false_iff_ne.mpr c2
  have d3 : (s.toList == ([113, 117, 111, 116] : List UInt8)) = false := by rw [tl]; exact beq_eq_false_iff_ne.mpr c3
  have d4 : (s.toList == ([97, 112, 111, 115] : List UInt8)) = false := by rw [tl]; exact beq_eq_false_iff_ne.mpr c4
  have hA := cut16 s
  have eA : ([35, 120] : List UInt8).isPrefixOf s.data.toList = true := hp
  simp only [eA, if_true] at hA
  have hN := num_calls (s.data.toList.drop 2) (by rw [List.length_drop, ← Lib.size_eq]; omega) 16 (.inr rfl)
  have eN : numB 16 (s.data.toList.drop 2) = refN s.data.toList := by unfold refN; rw [if_pos hp]
  rw [eN] at hN
  generalize refN s.data.toList = n at *
  clear eN
  clear c0 c1 c2 c3 c4
  have hnb : decide (n < 0) = false := decide_eq_false hn
  have e32 := w32 (n := n) hr.1 hr.2
  have hI : ∀ W, Calls Tryd.prog 20 #[.int .i32 n] W fun e w' => e = .returned (.bool true) ∧ Below W.heap.size W w' := fun W => by have := is_calls n W; rw [hi] at this; exact this
  have hrr := isB_range n hi
  have hem : Utf8.encode n = enc n := enc_model n (by omega) (by omega) hrr.2.2
  clear hp
  go_enter Tryd.func85, Tryd.ntmps85
  go_wp2_with fail
  refine (hA _).mono ?_
  rintro e w1 ⟨rfl, rfl⟩
  go_wp2_with fail
  refine (hN _).mono ?_
  rintro e w1 ⟨rfl, hb1⟩
  go_wp2_with fail
  refine (hI _).mono ?_
  rintro e w2 ⟨rfl, hb2⟩
  go_wp2_with fail
  go_ret2
  exact ⟨by first | rfl | (rw [hem]; rfl) | (simp [hem]; rfl), (hb1.trans (hb2.mono hb1.size))⟩
set_option maxHeartbeats 800000 in
set_option maxRecDepth 100000 in
theorem character_p10_neg (s : ByteArray) (hs : s.size < 1000000000000) (w : World) (c0 : s.data.toList ≠ [97, 109, 112]) (c1 : s.data.toList ≠ [108, 116]) (c2 : s.data.toList ≠ [103, 116]) (c3 : s.data.toList ≠ [113, 117, 111, 116]) (c4 : s.data.toList ≠ [97, 112, 111, 115])
    (hq : ([35, 120] : List UInt8).isPrefixOf s.data.toList = false) (hp : ([35] : List UInt8).isPrefixOf s.data.toList = true) (hn : refN s.data.toList < 0) : Calls Tryd.prog 85 #[.string s] w fun e w' => e = .returned (.tuple #[.string (ba ((chr s.data.toList).getD [])), .bool (chr s.data.toList).isSome]) ∧ Below w.heap.size w w' := by
  have HC : chr s.data.toList = none := by
    rw [chr_neg c0 c1 c2 c3 c4]
    rw [if_pos hn]
  rw [HC]
  clear HC
  have hr := refN_range s.data.toList
  have d0 : (s.toList == ([97, 109, 112] : List UInt8)) = false := by rw [tl]; exact beq_eq_false_iff_ne.mpr c0
  have d1 : (s.toList == ([108, 116] : List UInt8)) = false := by rw [tl]; exact beq_eq_false_iff_ne.mpr c1
  have d2 : (s.toList == ([103, 116] : List UInt8)) = false := by rw [tl]; exact beq_eq_false_iff_ne.mpr c2
  have d3 : (s.toList == ([113, 117, 111, 116] : List UInt8)) = false := by rw [tl]; exact beq_eq_false_iff_ne.mpr c3
  have d4 : (s.toList == ([97, 112, 111, 115] : List UInt8)) = false := by rw [tl]; exact beq_eq_false_iff_ne.mpr c4
  have hA := cut16 s
  have eA : ([35, 120] : List UInt8).isPrefixOf s.data.toList = false := hq
  simp only [eA, Bool.false_eq_true, if_false] at hA
  have hB := cut10 s
  have eB : ([35] : List UInt8).isPrefixOf s.data.toList = true := hp
  simp only [eB, if_true] at hB
  have hN := num_calls s.data.toList.tail (by rw [List.length_tail, ← Lib.size_eq]; omega) 10 (.inl rfl)
  have eN : numB 10 s.data.toList.tail = refN s.data.toList := by unfold refN; rw [if_neg (by rw [hq]; decide), if_pos hp, List.drop_one]
  rw [eN] at hN
  generalize refN s.data.toList = n at *
  clear eN
  clear c0 c1 c2 c3 c4
  have hnb : decide (n < 0) = true := decide_eq_true hn
  clear hp hq
  go_enter Tryd.func85, Tryd.ntmps85
  go_wp2_with fail
  refine (hA _).mono ?_
  rintro e w1 ⟨rfl, rfl⟩
  go_wp2_with fail
  refine (hB _).mono ?_
  rintro e w1 ⟨rfl, rfl⟩
  go_wp2_with fail
  refine (hN _).mono ?_
  rintro e w1 ⟨rfl, hb1⟩
  go_wp2_with fail
  go_ret2
  exact ⟨rfl, hb1⟩
set_option maxHeartbeats 800000 in
set_option maxRecDepth 100000 in
theorem character_p10_not (s : ByteArray) (hs : s.size < 1000000000000) (w : World) (c0 : s.data.toList ≠ [97, 109, 112]) (c1 : s.data.toList ≠ [108, 116]) (c2 : s.data.toList ≠ [103, 116]) (c3 : s.data.toList ≠ [113, 117, 111, 116]) (c4 : s.data.toList ≠ [97, 112, 111, 115])
    (hq : ([35, 120] : List UInt8).isPrefixOf s.data.toList = false) (hp : ([35] : List UInt8).isPrefixOf s.data.toList = true) (hn : ¬ refN s.data.toList < 0) (hi : isB (refN s.data.toList) = false) : Calls Tryd.prog 85 #[.string s] w fun e w' => e = .returned (.tuple #[.string (ba ((chr s.data.toList).getD [])), .bool (chr s.data.toList).isSome]) ∧ Below w.heap.size w w' := by
  have HC : chr s.data.toList = none := by
    rw [chr_neg c0 c1 c2 c3 c4]
    rw [if_neg hn, hi]; rfl
  rw [HC]
  clear HC
  have hr := refN_range s.data.toList
  have d0 : (s.toList == ([97, 109, 112] : List UInt8)) = false := by rw [tl]; exact beq_eq_false_iff_ne.mpr c0
  have d1 : (s.toList == ([108, 116] : List UInt8)) = false := by rw [tl]; exact beq_eq_false_iff_ne.mpr c1
  have d2 : (s.toList == ([103, 116] : List UInt8)) = false := by rw [tl]; exact beq_eq_false_iff_ne.mpr c2
  have d3 : (s.toList == ([113, 117, 111, 116] : List UInt8)) = false := by rw [tl]; exact beq_eq_false_iff_ne.mpr c3
  have d4 : (s.toList == ([97, 112, 111, 115] : List UInt8)) = false := by rw [tl]; exact beq_eq_false_iff_ne.mpr c4
  have hA := cut16 s
  have eA : ([35, 120] : List UInt8).isPrefixOf s.data.toList = false := hq
  simp only [eA, Bool.false_eq_true, if_false] at hA
  have hB := cut10 s
  have eB : ([35] : List UInt8).isPrefixOf s.data.toList = true := hp
  simp only [eB, if_true] at hB
  have hN := num_calls s.data.toList.tail (by rw [List.length_tail, ← Lib.size_eq]; omega) 10 (.inl rfl)
  have eN : numB 10 s.data.toList.tail = refN s.data.toList := by unfold refN; rw [if_neg (by rw [hq]; decide), if_pos hp, List.drop_one]
  rw [eN] at hN
  generalize refN s.data.toList = n at *
  clear eN
  clear c0 c1 c2 c3 c4
  have hnb : decide (n < 0) = false := decide_eq_false hn
  have e32 := w32 (n := n) hr.1 hr.2
  have hI : ∀ W, Calls Tryd.prog 20 #[.int .i32 n] W fun e w' => e = .returned (.bool false) ∧ Below W.heap.size W w' := fun W => by have := is_calls n W; rw [hi] at this; exact this
  clear hp hq
  go_enter Tryd.func85, Tryd.ntmps85
  go_wp2_with fail
  refine (hA _).mono ?_
  rintro e w1 ⟨rfl, rfl⟩
  go_wp2_with fail
  refine (hB _).mono ?_
  rintro e w1 ⟨rfl, rfl⟩
  go_wp2_with fail
  refine (hN _).mono ?_
  rintro e w1 ⟨rfl, hb1⟩
  go_wp2_with fail
  refine (hI _).mono ?_
  rintro e w2 ⟨rfl, hb2⟩
  go_wp2_with fail
  go_ret2
  exact ⟨rfl, (hb1.trans (hb2.mono hb1.size))⟩
set_option maxHeartbeats 800000 in
set_option maxRecDepth 100000 in
theorem character_p10_is (s : ByteArray) (hs : s.size < 1000000000000) (w : World) (c0 : s.data.toList ≠ [97, 109, 112]) (c1 : s.data.toList ≠ [108, 116]) (c2 : s.data.toList ≠ [103, 116]) (c3 : s.data.toList ≠ [113, 117, 111, 116]) (c4 : s.data.toList ≠ [97, 112, 111, 115])
    (hq : ([35, 120] : List UInt8).isPrefixOf s.data.toList = false) (hp : ([35] : List UInt8).isPrefixOf s.data.toList = true) (hn : ¬ refN s.data.toList < 0) (hi : isB (refN s.data.toList) = true) : Calls Tryd.prog 85 #[.string s] w fun e w' => e = .returned (.tuple #[.string (ba ((chr s.data.toList).getD [])), .bool (chr s.data.toList).isSome]) ∧ Below w.heap.size w w' := by
  have HC : chr s.data.toList = some (enc (refN s.data.toList)).data.toList := by
    rw [chr_neg c0 c1 c2 c3 c4]
    rw [if_neg hn, hi]; rfl
  rw [HC]
  clear HC
  have hr := refN_range s.data.toList
  have d0 : (s.toList == ([97, 109, 112] : List UInt8)) = false := by rw [tl]; exact beq_eq_false_iff_ne.mpr c0
  have d1 : (s.toList == ([108, 116] : List UInt8)) = false := by rw [tl]; exact beq_eq_false_iff_ne.mpr c1
  have d2 : (s.toList == ([103, 116] : List UInt8)) = false := by rw [tl]; exact beq_eq_false_iff_ne.mpr c2
  have d3 : (s.toList == ([113, 117, 111, 116] : List UInt8)) = false := by rw [tl]; exact beq_eq_false_iff_ne.mpr c3
  have d4 : (s.toList == ([97, 112, 111, 115] : List UInt8)) = false := by rw [tl]; exact beq_eq_false_iff_ne.mpr c4
  have hA := cut16 s
  have eA : ([35, 120] : List UInt8).isPrefixOf s.data.toList = false := hq
  simp only [eA, Bool.false_eq_true, if_false] at hA
  have hB := cut10 s
  have eB : ([35] : List UInt8).isPrefixOf s.data.toList = true := hp
  simp only [eB, if_true] at hB
  have hN := num_calls s.data.toList.tail (by rw [List.length_tail, ← Lib.size_eq]; omega) 10 (.inl rfl)
  have eN : numB 10 s.data.toList.tail = refN s.data.toList := by unfold refN; rw [if_neg (by rw [hq]; decide), if_pos hp, List.drop_one]
  rw [eN] at hN
  generalize refN s.data.toList = n at *
  clear eN
  clear c0 c1 c2 c3 c4
  have hnb : decide (n < 0) = false := decide_eq_false hn
  have e32 := w32 (n := n) hr.1 hr.2
  have hI : ∀ W, Calls Tryd.prog 20 #[.int .i32 n] W fun e w' => e = .returned (.bool true) ∧ Below W.heap.size W w' := fun W => by have := is_calls n W; rw [hi] at this; exact this
  have hrr := isB_range n hi
  have hem : Utf8.encode n = enc n := enc_model n (by omega) (by omega) hrr.2.2
  clear hp hq
  go_enter Tryd.func85, Tryd.ntmps85
  go_wp2_with fail
  refine (hA _).mono ?_
  rintro e w1 ⟨rfl, rfl⟩
  go_wp2_with fail
  refine (hB _).mono ?_
  rintro e w1 ⟨rfl, rfl⟩
  go_wp2_with fail
  refine (hN _).mono ?_
  rintro e w1 ⟨rfl, hb1⟩
  go_wp2_with fail
  refine (hI _).mono ?_
  rintro e w2 ⟨rfl, hb2⟩
  go_wp2_with fail
  go_ret2
  exact ⟨by first | rfl | (rw [hem]; rfl) | (simp [hem]; rfl), (hb1.trans (hb2.mono hb1.size))⟩
set_option maxHeartbeats 800000 in
set_option maxRecDepth 100000 in
theorem character_p0_neg (s : ByteArray) (hs : s.size < 1000000000000) (w : World) (c0 : s.data.toList ≠ [97, 109, 112]) (c1 : s.data.toList ≠ [108, 116]) (c2 : s.data.toList ≠ [103, 116]) (c3 : s.data.toList ≠ [113, 117, 111, 116]) (c4 : s.data.toList ≠ [97, 112, 111, 115])
    (hq : ([35, 120] : List UInt8).isPrefixOf s.data.toList = false) (hp : ([35] : List UInt8).isPrefixOf s.data.toList = false) (hn : refN s.data.toList < 0) : Calls Tryd.prog 85 #[.string s] w fun e w' => e = .returned (.tuple #[.string (ba ((chr s.data.toList).getD [])), .bool (chr s.data.toList).isSome]) ∧ Below w.heap.size w w' := by
  have HC : chr s.data.toList = none := by
    rw [chr_neg c0 c1 c2 c3 c4]
    rw [if_pos hn]
  rw [HC]
  clear HC
  have hr := refN_range s.data.toList
  have d0 : (s.toList == ([97, 109, 112] : List UInt8)) = false := by rw [tl]; exact beq_eq_false_iff_ne.mpr c0
  have d1 : (s.toList == ([108, 116] : List UInt8)) = false := by rw [tl]; exact beq_eq_false_iff_ne.mpr c1
  have d2 : (s.toList == ([103, 116] : List UInt8)) = false := by rw [tl]; exact beq_eq_false_iff_ne.mpr c2
  have d3 : (s.toList == ([113, 117, 111, 116] : List UInt8)) = false := by rw [tl]; exact beq_eq_false_iff_ne.mpr c3
  have d4 : (s.toList == ([97, 112, 111, 115] : List UInt8)) = false := by rw [tl]; exact beq_eq_false_iff_ne.mpr c4
  have hA := cut16 s
  have eA : ([35, 120] : List UInt8).isPrefixOf s.data.toList = false := hq
  simp only [eA, Bool.false_eq_true, if_false] at hA
  have hB := cut10 s
  have eB : ([35] : List UInt8).isPrefixOf s.data.toList = false := hp
  simp only [eB, Bool.false_eq_true, if_false] at hB
  clear c0 c1 c2 c3 c4
  clear hp hq
  go_enter Tryd.func85, Tryd.ntmps85
  go_wp2_with fail
  refine (hA _).mono ?_
  rintro e w1 ⟨rfl, rfl⟩
  go_wp2_with fail
  refine (hB _).mono ?_
  rintro e w1 ⟨rfl, rfl⟩
  go_wp2_with fail
  go_ret2
  exact ⟨rfl, Below.refl _ _⟩
theorem character_calls (s : ByteArray) (hs : s.size < 1000000000000) (w : World) : Calls Tryd.prog 85 #[.string s] w fun e w' => e = .returned (.tuple #[.string (ba ((chr s.data.toList).getD [])), .bool (chr s.data.toList).isSome]) ∧ Below w.heap.size w w' := by
  by_cases c0 : s.data.toList = [97, 109, 112]
  · exact character_n0 s w c0
  by_cases c1 : s.data.toList = [108, 116]
  · exact character_n1 s w c1
  by_cases c2 : s.data.toList = [103, 116]
  · exact character_n2 s w c2
  by_cases c3 : s.data.toList = [113, 117, 111, 116]
  · exact character_n3 s w c3
  by_cases c4 : s.data.toList = [97, 112, 111, 115]
  · exact character_n4 s w c4
  by_cases hp : ([35, 120] : List UInt8).isPrefixOf s.data.toList = true
  · by_cases hn : refN s.data.toList < 0
    · exact character_p16_neg s hs w c0 c1 c2 c3 c4 hp hn
    · cases hi : isB (refN s.data.toList) with
      | false => exact character_p16_not s hs w c0 c1 c2 c3 c4 hp hn hi
      | true => exact character_p16_is s hs w c0 c1 c2 c3 c4 hp hn hi
  · have hq := (Bool.eq_false_iff.mpr hp)
    by_cases hp : ([35] : List UInt8).isPrefixOf s.data.toList = true
    · by_cases hn : refN s.data.toList < 0
      · exact character_p10_neg s hs w c0 c1 c2 c3 c4 hq hp hn
      · cases hi : isB (refN s.data.toList) with
        | false => exact character_p10_not s hs w c0 c1 c2 c3 c4 hq hp hn hi
        | true => exact character_p10_is s hs w c0 c1 c2 c3 c4 hq hp hn hi
    · exact character_p0_neg s hs w c0 c1 c2 c3 c4 hq ((Bool.eq_false_iff.mpr hp)) (by unfold refN; rw [if_neg (by rw [hq]; decide), if_neg hp]; decide)
end Go.Proofs.YticpobgkbapdmaaDoor.EscE
