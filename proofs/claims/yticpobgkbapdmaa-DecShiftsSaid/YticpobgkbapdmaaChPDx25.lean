/- What the proof of this claim uses of PDx25: 7 declarations. -/
import Derived.Test.YticpobgkbapdmaaProg
import Derived.Below
import Derived.Deep.Draws
import Derived.Deep.AppendLies
import Derived.Maps.AppendAt
import Derived.OwnWalk
import Derived.Laws.BytesArg
import Derived.Laws.MakeOwn
import Derived.Laws.OwnMore
import Derived.Deep.OwnRows
import Derived.Tactics
import Derived.Lib.ConvBytes
import Derived.Laws.Slices
import Derived.WalkKit
import Derived.KernelRfl
import Derived.RowKit3
import Derived.Deep.LoopGhost
import Derived.Deep.QuietTactic
import Derived.BigQuiet
import Derived.WideLaws
import Derived.Deep.DeepCutAuto
import Derived.Deep.CutBlock
import Derived.Deep.RegionHeld3
import Derived.Laws.Rows
import Derived.Lib.AppendStr
import Derived.ArgAppend
import Derived.Laws.IdiomCopy
import Derived.OrdersHeld
import Derived.Laws.BitsLemmas
import Derived.RowKit
import Derived.Test.YticpobgkbapdmaaChMine
import Derived.Test.YticpobgkbapdmaaChShelf
import Derived.RegionTactic
import Derived.ChangeAlike
import Derived.BigRegion
import Derived.Great.BuildSlice
import Derived.Deep.WholeRow
import Derived.Test.YticpobgkbapdmaaChWWords
import Derived.Test.YticpobgkbapdmaaChWLast
import Derived.Test.YticpobgkbapdmaaChWTab
import Derived.Test.YticpobgkbapdmaaChWEqStruct
import Derived.Test.YticpobgkbapdmaaChWMore
import Derived.Test.YticpobgkbapdmaaChPDx1
import Derived.Test.YticpobgkbapdmaaChPDx2
import Derived.Test.YticpobgkbapdmaaChPDx11
import Derived.Test.YticpobgkbapdmaaChPDx14
import Derived.Test.YticpobgkbapdmaaChPDx17
import Derived.Test.YticpobgkbapdmaaChPDx22
import Derived.Test.YticpobgkbapdmaaChPDx23
namespace Go.Proofs.YticpobgkbapdmaaW.PrintLast
end Go.Proofs.YticpobgkbapdmaaW.PrintLast
namespace Go.Proofs.YticpobgkbapdmaaW.PrintMore
end Go.Proofs.YticpobgkbapdmaaW.PrintMore
namespace Go.Proofs.YticpobgkbapdmaaW.PrintWords
end Go.Proofs.YticpobgkbapdmaaW.PrintWords
namespace Go.Proofs.Yticpobgkbapdmaa.PD
open Go.RowKit Go.Proofs.YticpobgkbapdmaaW.PrintWords Go.Proofs.YticpobgkbapdmaaW.PrintLast Go.Proofs.YticpobgkbapdmaaW.PrintMore

set_option linter.unusedVariables false
set_option linter.unusedSimpArgs false

attribute [local go_sem high] eqA23
/-! ### breviarylaw03_DecShifts: function 11 -/
def breviarylaw03_DecShifts.j0 : Nat → Int → Bool → Int → Int → Option (Bool)
  | 0, _, _, _, _ => none
  | k + 1, x5, x27, x736000, x736001 => if x27 = true then ((breviarylaw03_works.f k).bind fun t737 => (some t737)) else ((dec_Int.f k x5).bind fun bt738 => ((dec_Add.f k x736000 x736001 bt738.1 bt738.2).bind fun bt740 => ((dec_Floor.f k bt740.1 bt740.2).bind fun bt743 => ((dec_Floor.f k x736000 x736001).bind fun bt745 => ((dec_Int.f k x5).bind fun bt747 => ((dec_Add.f k bt745.1 bt745.2 bt747.1 bt747.2).bind fun bt749 => (if (bt743.1 == bt749.1 && (bt743.2 == bt749.2)) = true then ((dec_Ceil.f k bt740.1 bt740.2).bind fun bt751 => ((dec_Ceil.f k x736000 x736001).bind fun bt753 => ((dec_Int.f k x5).bind fun bt755 => ((dec_Add.f k bt753.1 bt753.2 bt755.1 bt755.2).bind fun bt757 => (if (bt751.1 == bt757.1 && (bt751.2 == bt757.2)) = true then ((dec_Round.f k bt740.1 bt740.2).bind fun bt759 => ((dec_Round.f k x736000 x736001).bind fun bt761 => ((dec_Int.f k x5).bind fun bt763 => ((dec_Add.f k bt761.1 bt761.2 bt763.1 bt763.2).bind fun bt765 => (if (bt759.1 == bt765.1 && (bt759.2 == bt765.2)) = true then ((breviarylaw03_works.f k).bind fun t767 => (some t767)) else (none)))))) else (none)))))) else (none))))))))
def breviarylaw03_DecShifts.f (k : Nat) (a0_0 : Int) (a0_1 : Int) (a1 : Int) : Option (Bool) := (dec_Right.f a0_0 a0_1).bind fun t736 => (if t736 = true then (if a0_0 = 0 then (if a0_1 > 9000000000000 then (breviarylaw03_DecShifts.j0 k (wrap64 (Int.tmod a1 1000000)) true a0_0 a0_1) else (breviarylaw03_DecShifts.j0 k (wrap64 (Int.tmod a1 1000000)) (decide (a0_1 < (-9000000000000))) a0_0 a0_1)) else (breviarylaw03_DecShifts.j0 k (wrap64 (Int.tmod a1 1000000)) true a0_0 a0_1)) else (breviarylaw03_DecShifts.j0 k (wrap64 (Int.tmod a1 1000000)) true a0_0 a0_1))
def breviarylaw03_DecShifts.T5 : Bool × List (List Nat × List Nat) := (true, [([], []), ([0], [0]), ([], []), ([2, 1], [2]), ([], []), ([4, 3], [4]), ([3, 5, 5], [3, 5]), ([1, 6], [1, 6]), ([7, 6], [7]), ([8], [8]), ([9, 8, 8], [8, 9]), ([8], [8]), ([11, 10, 8], [8, 11]), ([8], [8]), ([13, 12, 8], [8, 13]), ([12, 14, 14, 8], [8, 12, 14]), ([10, 15, 8], [8, 10, 15]), ([8, 16], [8, 16]), ([17, 15], [17]), ([18], [18]), ([19, 18, 18], [18, 19]), ([18], [18]), ([21, 20, 18], [18, 21]), ([18], [18]), ([23, 22, 18], [18, 23]), ([22, 24, 24, 18], [18, 22, 24]), ([20, 25, 18], [18, 20, 25]), ([18, 26], [18, 26]), ([27, 25], [27]), ([28, 28], [28]), ([28, 29], [28, 29]), ([30, 29, 0, 1, 2, 3, 4, 5, 6, 7, 8, 9, 10, 11, 12, 13, 14, 15, 16, 17, 18, 19, 20, 21, 22, 23, 24, 25, 26, 27, 28, 29, 30], [30])])
def breviarylaw03_DecShifts.B5 : List Nat := [0, 1, 0, 7, 0, 31, 63, 127, 255, 511, 1023, 511, 4095, 511, 16383, 32767, 65535, 131071, 262143, 524287, 1048575, 524287, 4194303, 524287, 16777215, 33554431, 67108863, 134217727, 268435455, 536870911, 1073741823, 2147483647]
theorem breviarylaw03_DecShifts.tab5 : rtab .any (opsOf Try.f11 5) = breviarylaw03_DecShifts.T5 := by kernel_rfl
theorem breviarylaw03_DecShifts.bits5 : waitsOk breviarylaw03_DecShifts.T5.2 breviarylaw03_DecShifts.B5 = true := by kernel_rfl
set_option maxHeartbeats 8000000 in
set_option maxRecDepth 100000 in
theorem breviarylaw03_DecShifts.calls (k : Nat) (a0_0 : Int) (a0_1 : Int) (a1 : Int) (r : Bool) (w : World) (h : breviarylaw03_DecShifts.f k a0_0 a0_1 a1 = some r) :
    Calls Try.prog 11 #[.agg #[.int .i64 a0_0, .int .i64 a0_1], .int .i32 a1] w fun e w' => e = .returned (.bool r) ∧ Below w.heap.size w w' := by
  have hu23 := Try.underlying23
  have HB := Aside0.mk (Below.refl w.heap.size w)
  have H : ((dec_Right.f a0_0 a0_1).bind fun t736 => (if t736 = true then (if a0_0 = 0 then (if a0_1 > 9000000000000 then (breviarylaw03_DecShifts.j0 k (wrap64 (Int.tmod a1 1000000)) true a0_0 a0_1) else (breviarylaw03_DecShifts.j0 k (wrap64 (Int.tmod a1 1000000)) (decide (a0_1 < (-9000000000000))) a0_0 a0_1)) else (breviarylaw03_DecShifts.j0 k (wrap64 (Int.tmod a1 1000000)) true a0_0 a0_1)) else (breviarylaw03_DecShifts.j0 k (wrap64 (Int.tmod a1 1000000)) true a0_0 a0_1))) = some r := h
  clear h
  have HC3 := Aside0.mk H
  clear H
  go_enter Try.func11, Try.ntmps11
  go_upto_region 2 with (first | ((with_reducible refine gate_dst (N := 2) rfl ?_); refine box_event ?hg (N := 2) ?hd (cs := #[.int .i64 a0_0, .int .i64 a0_1]) (t := 23) ?hr ?_; (case hd => rfl); (case hg => rfl); (case hr => first | (go_simp; done) | (go_simp; rfl)); intro gb735 hg w4 hbox hb; have n0_ := Aside0.mk (below_step (by repeat (first | (with_reducible first | exact HB.out | apply below_alloc | apply pw_below_drewN | apply below_drew1) | exact HB.out)) hb); have n1_ := Aside0.mk (hbox); have n2_ := Aside0.mk ((by rw [hg]; exact (below_size (by repeat (first | (with_reducible first | exact HB.out | apply below_alloc | apply pw_below_drewN | apply below_drew1) | exact HB.out))) : w.heap.size ≤ gb735)); have n3_ := Aside0.mk ((by rw [hg]; exact (below_size (by repeat (first | (with_reducible first | exact HB.out | apply below_alloc | apply pw_below_drewN | apply below_drew1) | exact HB.out))) : w.heap.size ≤ gb735)); clear HB; have HB := n0_; have BK735 := n1_; have GW735 := n2_; have GE735 := n3_; clear n0_ n1_ n2_ n3_; clear hb hbox hg))
  (try simp only [Act.put, List.setIfInBounds_toArray, List.set_cons_zero, List.set_cons_succ])
  go_cut [27] (fun v27 wc => ∃ (kq : Nat) (x27_2 : Bool), v27 = .bool x27_2 ∧ Aside0 (breviarylaw03_DecShifts.j0 kq (wrap64 (Int.tmod a1 1000000)) x27_2 a0_0 a0_1 = some r) ∧ Aside0 (kq ≤ k) ∧ Aside0 (wc.heap[gb735]? = some (.cells #[.int .i64 a0_0, .int .i64 a0_1] 23 (0, 0))) ∧ Aside0 (Below w.heap.size w wc))
  case first =>
    have H := HC3.out
    clear HC3
    replace H := Option.bind_eq_some_iff.mp H
    obtain ⟨t736, A50, H⟩ := H
    replace H : (if t736 = true then (if a0_0 = 0 then (if a0_1 > 9000000000000 then (breviarylaw03_DecShifts.j0 k (wrap64 (Int.tmod a1 1000000)) true a0_0 a0_1) else (breviarylaw03_DecShifts.j0 k (wrap64 (Int.tmod a1 1000000)) (decide (a0_1 < (-9000000000000))) a0_0 a0_1)) else (breviarylaw03_DecShifts.j0 k (wrap64 (Int.tmod a1 1000000)) true a0_0 a0_1)) else (breviarylaw03_DecShifts.j0 k (wrap64 (Int.tmod a1 1000000)) true a0_0 a0_1)) = some r := H
    have A5 := Aside0.mk A50
    clear A50
    by_cases c6 : t736 = true
    · subst c6
      have H1 : (if a0_0 = 0 then (if a0_1 > 9000000000000 then (breviarylaw03_DecShifts.j0 k (wrap64 (Int.tmod a1 1000000)) true a0_0 a0_1) else (breviarylaw03_DecShifts.j0 k (wrap64 (Int.tmod a1 1000000)) (decide (a0_1 < (-9000000000000))) a0_0 a0_1)) else (breviarylaw03_DecShifts.j0 k (wrap64 (Int.tmod a1 1000000)) true a0_0 a0_1)) = some r := by rw [if_pos rfl] at H; exact H
      clear H
      have H := H1
      clear H1
      by_cases c7 : a0_0 = 0
      · rw [if_pos c7] at H
        have c7b0 : (a0_0 == 0) = true := beq_iff_eq.mpr c7
        have c7b1 : (a0_0 != 0) = false := bne_eq_false_iff_eq.mpr c7
        clear c7
        (first | rw [c7b0] | (simp only [i64_w]; rw [c7b0]) | skip)
        by_cases c8 : a0_1 > 9000000000000
        · rw [if_pos c8] at H
          have c8b0 : decide (9000000000000 < a0_1) = true := decide_eq_true c8
          clear c8
          have H' := Aside0.mk H
          clear H
          have hcz9_0 : w4.cell? ⟨gb735, 0, none⟩ = some (.int .i64 a0_0) := (blk_cell BK735.out 0).trans rfl
          have hcz9_1 : w4.cell? ⟨gb735, 1, none⟩ = some (.int .i64 a0_1) := (blk_cell BK735.out 1).trans rfl
          have hfz9_0 := blk_frozen BK735.out 0
          have hfz9_1 := blk_frozen BK735.out 1
          go_wp2_with (first | ((with_reducible refine gate_callee (f := 24) rfl ?_); refine goesL_ (some 11) rfl rfl Try.func24 (by kernel_rfl) rfl #[.agg #[.int .i64 a0_0, .int .i64 a0_1]] rfl (by (try simp only [List.map_toArray, List.map_cons, List.map_nil]); first | done | rfl | (simp only [List.length_drop, List.length_take]; rfl)) ?_; (with_reducible refine (dec_Right.calls a0_0 a0_1 true _ A5.out).mono ?_); rintro e w10 ⟨rfl, hb⟩; refine ⟨_, rfl, ?_⟩; have n0_ := Aside0.mk (blk_below (g := gb735) (o := .cells #[.int .i64 a0_0, .int .i64 a0_1] 23 (0, 0)) (by (with_reducible repeat (first | refine blk_drewN ?_ _ | refine blk_drew ?_ | refine blk_alloc ?_ _)); exact BK735.out) hb); have n1_ := Aside0.mk (below_step (by repeat (first | (with_reducible first | exact HB.out | apply below_alloc | apply pw_below_drewN | apply below_drew1 | refine below_set ?_ GE735.out) | exact HB.out)) hb); clear BK735; clear HB; have BK735 := n0_; have HB := n1_; clear n0_ n1_; (try clear hb); (try clear hb2); (try clear hk); (try clear hi); have hcz11_0 : w10.cell? ⟨gb735, 0, none⟩ = some (.int .i64 a0_0) := (blk_cell BK735.out 0).trans rfl; have hcz11_1 : w10.cell? ⟨gb735, 1, none⟩ = some (.int .i64 a0_1) := (blk_cell BK735.out 1).trans rfl; have hfz11_0 := blk_frozen BK735.out 0; have hfz11_1 := blk_frozen BK735.out 1))
          go_meet
          case rel => exact ⟨_, (true), (by first | rfl | (simp; done) | (simp [*]; done)), H', ⟨by first | omega | exact Nat.le_refl _⟩, ⟨by (with_reducible repeat (first | refine blk_drewN ?_ _ | refine blk_drew ?_ | refine blk_alloc ?_ _)); exact BK735.out⟩, ⟨by repeat (first | (with_reducible first | exact HB.out | apply below_alloc | apply pw_below_drewN | apply below_drew1 | refine below_set ?_ GE735.out) | exact HB.out)⟩⟩
        · rw [if_neg c8] at H
          have c8b0 : decide (9000000000000 < a0_1) = false := decide_eq_false c8
          clear c8
          have H' := Aside0.mk H
          clear H
          have hcz12_0 : w4.cell? ⟨gb735, 0, none⟩ = some (.int .i64 a0_0) := (blk_cell BK735.out 0).trans rfl
          have hcz12_1 : w4.cell? ⟨gb735, 1, none⟩ = some (.int .i64 a0_1) := (blk_cell BK735.out 1).trans rfl
          have hfz12_0 := blk_frozen BK735.out 0
          have hfz12_1 := blk_frozen BK735.out 1
          go_wp2_with (first | ((with_reducible refine gate_callee (f := 24) rfl ?_); refine goesL_ (some 11) rfl rfl Try.func24 (by kernel_rfl) rfl #[.agg #[.int .i64 a0_0, .int .i64 a0_1]] rfl (by (try simp only [List.map_toArray, List.map_cons, List.map_nil]); first | done | rfl | (simp only [List.length_drop, List.length_take]; rfl)) ?_; (with_reducible refine (dec_Right.calls a0_0 a0_1 true _ A5.out).mono ?_); rintro e w13 ⟨rfl, hb⟩; refine ⟨_, rfl, ?_⟩; have n0_ := Aside0.mk (blk_below (g := gb735) (o := .cells #[.int .i64 a0_0, .int .i64 a0_1] 23 (0, 0)) (by (with_reducible repeat (first | refine blk_drewN ?_ _ | refine blk_drew ?_ | refine blk_alloc ?_ _)); exact BK735.out) hb); have n1_ := Aside0.mk (below_step (by repeat (first | (with_reducible first | exact HB.out | apply below_alloc | apply pw_below_drewN | apply below_drew1 | refine below_set ?_ GE735.out) | exact HB.out)) hb); clear BK735; clear HB; have BK735 := n0_; have HB := n1_; clear n0_ n1_; (try clear hb); (try clear hb2); (try clear hk); (try clear hi); have hcz14_0 : w13.cell? ⟨gb735, 0, none⟩ = some (.int .i64 a0_0) := (blk_cell BK735.out 0).trans rfl; have hcz14_1 : w13.cell? ⟨gb735, 1, none⟩ = some (.int .i64 a0_1) := (blk_cell BK735.out 1).trans rfl; have hfz14_0 := blk_frozen BK735.out 0; have hfz14_1 := blk_frozen BK735.out 1))
          go_meet
          case rel => exact ⟨_, (decide (a0_1 < (-9000000000000))), (by first | rfl | (simp; done) | (simp [*]; done)), H', ⟨by first | omega | exact Nat.le_refl _⟩, ⟨by (with_reducible repeat (first | refine blk_drewN ?_ _ | refine blk_drew ?_ | refine blk_alloc ?_ _)); exact BK735.out⟩, ⟨by repeat (first | (with_reducible first | exact HB.out | apply below_alloc | apply pw_below_drewN | apply below_drew1 | refine below_set ?_ GE735.out) | exact HB.out)⟩⟩
      · rw [if_neg c7] at H
        have c7b0 : (a0_0 == 0) = false := beq_eq_false_iff_ne.mpr c7
        have c7b1 : (a0_0 != 0) = true := bne_iff_ne.mpr c7
        (first | rw [c7b0] | (simp only [i64_w]; rw [c7b0]) | skip)
        have H' := Aside0.mk H
        clear H
        have hcz15_0 : w4.cell? ⟨gb735, 0, none⟩ = some (.int .i64 a0_0) := (blk_cell BK735.out 0).trans rfl
        have hcz15_1 : w4.cell? ⟨gb735, 1, none⟩ = some (.int .i64 a0_1) := (blk_cell BK735.out 1).trans rfl
        have hfz15_0 := blk_frozen BK735.out 0
        have hfz15_1 := blk_frozen BK735.out 1
        go_wp2_with (first | ((with_reducible refine gate_callee (f := 24) rfl ?_); refine goesL_ (some 11) rfl rfl Try.func24 (by kernel_rfl) rfl #[.agg #[.int .i64 a0_0, .int .i64 a0_1]] rfl (by (try simp only [List.map_toArray, List.map_cons, List.map_nil]); first | done | rfl | (simp only [List.length_drop, List.length_take]; rfl)) ?_; (with_reducible refine (dec_Right.calls a0_0 a0_1 true _ A5.out).mono ?_); rintro e w16 ⟨rfl, hb⟩; refine ⟨_, rfl, ?_⟩; have n0_ := Aside0.mk (blk_below (g := gb735) (o := .cells #[.int .i64 a0_0, .int .i64 a0_1] 23 (0, 0)) (by (with_reducible repeat (first | refine blk_drewN ?_ _ | refine blk_drew ?_ | refine blk_alloc ?_ _)); exact BK735.out) hb); have n1_ := Aside0.mk (below_step (by repeat (first | (with_reducible first | exact HB.out | apply below_alloc | apply pw_below_drewN | apply below_drew1 | refine below_set ?_ GE735.out) | exact HB.out)) hb); clear BK735; clear HB; have BK735 := n0_; have HB := n1_; clear n0_ n1_; (try clear hb); (try clear hb2); (try clear hk); (try clear hi); have hcz17_0 : w16.cell? ⟨gb735, 0, none⟩ = some (.int .i64 a0_0) := (blk_cell BK735.out 0).trans rfl; have hcz17_1 : w16.cell? ⟨gb735, 1, none⟩ = some (.int .i64 a0_1) := (blk_cell BK735.out 1).trans rfl; have hfz17_0 := blk_frozen BK735.out 0; have hfz17_1 := blk_frozen BK735.out 1))
        go_meet
        case rel => exact ⟨_, (true), (by first | rfl | (simp; done) | (simp [*]; done)), H', ⟨by first | omega | exact Nat.le_refl _⟩, ⟨by (with_reducible repeat (first | refine blk_drewN ?_ _ | refine blk_drew ?_ | refine blk_alloc ?_ _)); exact BK735.out⟩, ⟨by repeat (first | (with_reducible first | exact HB.out | apply below_alloc | apply pw_below_drewN | apply below_drew1 | refine below_set ?_ GE735.out) | exact HB.out)⟩⟩
    · replace c6 := Bool.eq_false_iff.mpr c6
      subst c6
      have H1 : (breviarylaw03_DecShifts.j0 k (wrap64 (Int.tmod a1 1000000)) true a0_0 a0_1) = some r := by rw [if_neg (show ¬ (false = true) by decide)] at H; exact H
      clear H
      have H := H1
      clear H1
      have H' := Aside0.mk H
      clear H
      have hcz18_0 : w4.cell? ⟨gb735, 0, none⟩ = some (.int .i64 a0_0) := (blk_cell BK735.out 0).trans rfl
      have hcz18_1 : w4.cell? ⟨gb735, 1, none⟩ = some (.int .i64 a0_1) := (blk_cell BK735.out 1).trans rfl
      have hfz18_0 := blk_frozen BK735.out 0
      have hfz18_1 := blk_frozen BK735.out 1
      go_wp2_with (first | ((with_reducible refine gate_callee (f := 24) rfl ?_); refine goesL_ (some 11) rfl rfl Try.func24 (by kernel_rfl) rfl #[.agg #[.int .i64 a0_0, .int .i64 a0_1]] rfl (by (try simp only [List.map_toArray, List.map_cons, List.map_nil]); first | done | rfl | (simp only [List.length_drop, List.length_take]; rfl)) ?_; (with_reducible refine (dec_Right.calls a0_0 a0_1 false _ A5.out).mono ?_); rintro e w19 ⟨rfl, hb⟩; refine ⟨_, rfl, ?_⟩; have n0_ := Aside0.mk (blk_below (g := gb735) (o := .cells #[.int .i64 a0_0, .int .i64 a0_1] 23 (0, 0)) (by (with_reducible repeat (first | refine blk_drewN ?_ _ | refine blk_drew ?_ | refine blk_alloc ?_ _)); exact BK735.out) hb); have n1_ := Aside0.mk (below_step (by repeat (first | (with_reducible first | exact HB.out | apply below_alloc | apply pw_below_drewN | apply below_drew1 | refine below_set ?_ GE735.out) | exact HB.out)) hb); clear BK735; clear HB; have BK735 := n0_; have HB := n1_; clear n0_ n1_; (try clear hb); (try clear hb2); (try clear hk); (try clear hi)))
      go_meet
      case rel => exact ⟨_, (true), (by first | rfl | (simp; done) | (simp [*]; done)), H', ⟨by first | omega | exact Nat.le_refl _⟩, ⟨by (with_reducible repeat (first | refine blk_drewN ?_ _ | refine blk_drew ?_ | refine blk_alloc ?_ _)); exact BK735.out⟩, ⟨by repeat (first | (with_reducible first | exact HB.out | apply below_alloc | apply pw_below_drewN | apply below_drew1 | refine below_set ?_ GE735.out) | exact HB.out)⟩⟩
  case rest =>
    clear HC3
    try clear c1
    try clear c2
    try clear p2
    try clear c6
    try clear p6
    try clear c7
    try clear c7b0
    try clear c7b1
    try clear c8
    try clear c8b0
    try clear c11
    try clear hcz11_0
    try clear hcz11_1
    try clear hcz12_0
    try clear hcz12_1
    try clear hcz14_0
    try clear hcz14_1
    try clear hcz15_0
    try clear hcz15_1
    try clear hcz17_0
    try clear hcz17_1
    try clear hcz18_0
    try clear hcz18_1
    try clear hcz9_0
    try clear hcz9_1
    try clear hfz11_0
    try clear hfz11_1
    try clear hfz12_0
    try clear hfz12_1
    try clear hfz14_0
    try clear hfz14_1
    try clear hfz15_0
    try clear hfz15_1
    try clear hfz17_0
    try clear hfz17_1
    try clear hfz18_0
    try clear hfz18_1
    try clear hfz9_0
    try clear hfz9_1
    obtain ⟨kq, x27_2, rfl, HA, HJ2, BK735, HB⟩ := hcut
    cases kq with
    | zero => exact absurd HA.out (by simp [breviarylaw03_DecShifts.j0])
    | succ kj2 =>
      have H := HA.out
      clear HA
      simp only [breviarylaw03_DecShifts.j0] at H
      by_cases c20 : x27_2 = true
      · subst c20
        have H1 : ((breviarylaw03_works.f kj2).bind fun t737 => (some t737)) = some r := by rw [if_pos rfl] at H; exact H
        clear H
        have H := H1
        clear H1
        replace H := Option.bind_eq_some_iff.mp H
        obtain ⟨t737, A210, H⟩ := H
        replace H : (some t737) = some r := H
        have A21 := Aside0.mk A210
        clear A210
        obtain rfl := Option.some.inj H
        go_wp2_with (first | ((with_reducible refine gate_callee (f := 18) rfl ?_); refine goesL_ (some 28) rfl rfl Try.func18 (by kernel_rfl) rfl #[] rfl (by (try simp only [List.map_toArray, List.map_cons, List.map_nil]); first | done | rfl | (simp only [List.length_drop, List.length_take]; rfl)) ?_; (with_reducible refine (breviarylaw03_works.calls kj2  t737 _ A21.out).mono ?_); rintro e w22 ⟨rfl, hb⟩; refine ⟨_, rfl, ?_⟩; have n0_ := Aside0.mk (blk_below (g := gb735) (o := .cells #[.int .i64 a0_0, .int .i64 a0_1] 23 (0, 0)) (by (with_reducible repeat (first | refine blk_drewN ?_ _ | refine blk_drew ?_ | refine blk_alloc ?_ _)); exact BK735.out) hb); have n1_ := Aside0.mk (below_step (by repeat (first | (with_reducible first | exact HB.out | apply below_alloc | apply pw_below_drewN | apply below_drew1 | refine below_set ?_ GE735.out) | exact HB.out)) hb); clear BK735; clear HB; have BK735 := n0_; have HB := n1_; clear n0_ n1_; (try clear hb); (try clear hb2); (try clear hk); (try clear hi)))
        go_ret
        exact ⟨by first | rfl | (simp [ ] <;> rfl) | (simp [*] <;> rfl), by repeat (first | (with_reducible first | exact HB.out | apply below_alloc | apply pw_below_drewN | apply below_drew1 | refine below_set ?_ GE735.out) | exact HB.out)⟩
      · replace c20 := Bool.eq_false_iff.mpr c20
        subst c20
        have H1 : ((dec_Int.f kj2 (wrap64 (Int.tmod a1 1000000))).bind fun bt738 => ((dec_Add.f kj2 a0_0 a0_1 bt738.1 bt738.2).bind fun bt740 => ((dec_Floor.f kj2 bt740.1 bt740.2).bind fun bt743 => ((dec_Floor.f kj2 a0_0 a0_1).bind fun bt745 => ((dec_Int.f kj2 (wrap64 (Int.tmod a1 1000000))).bind fun bt747 => ((dec_Add.f kj2 bt745.1 bt745.2 bt747.1 bt747.2).bind fun bt749 => (if (bt743.1 == bt749.1 && (bt743.2 == bt749.2)) = true then ((dec_Ceil.f kj2 bt740.1 bt740.2).bind fun bt751 => ((dec_Ceil.f kj2 a0_0 a0_1).bind fun bt753 => ((dec_Int.f kj2 (wrap64 (Int.tmod a1 1000000))).bind fun bt755 => ((dec_Add.f kj2 bt753.1 bt753.2 bt755.1 bt755.2).bind fun bt757 => (if (bt751.1 == bt757.1 && (bt751.2 == bt757.2)) = true then ((dec_Round.f kj2 bt740.1 bt740.2).bind fun bt759 => ((dec_Round.f kj2 a0_0 a0_1).bind fun bt761 => ((dec_Int.f kj2 (wrap64 (Int.tmod a1 1000000))).bind fun bt763 => ((dec_Add.f kj2 bt761.1 bt761.2 bt763.1 bt763.2).bind fun bt765 => (if (bt759.1 == bt765.1 && (bt759.2 == bt765.2)) = true then ((breviarylaw03_works.f kj2).bind fun t767 => (some t767)) else (none)))))) else (none)))))) else (none)))))))) = some r := by rw [if_neg (show ¬ (false = true) by decide)] at H; exact H
        clear H
        have H := H1
        clear H1
        replace H := Option.bind_eq_some_iff.mp H
        obtain ⟨⟨t738, t739⟩, A230, H⟩ := H
        replace H : ((dec_Add.f kj2 a0_0 a0_1 t738 t739).bind fun bt740 => ((dec_Floor.f kj2 bt740.1 bt740.2).bind fun bt743 => ((dec_Floor.f kj2 a0_0 a0_1).bind fun bt745 => ((dec_Int.f kj2 (wrap64 (Int.tmod a1 1000000))).bind fun bt747 => ((dec_Add.f kj2 bt745.1 bt745.2 bt747.1 bt747.2).bind fun bt749 => (if (bt743.1 == bt749.1 && (bt743.2 == bt749.2)) = true then ((dec_Ceil.f kj2 bt740.1 bt740.2).bind fun bt751 => ((dec_Ceil.f kj2 a0_0 a0_1).bind fun bt753 => ((dec_Int.f kj2 (wrap64 (Int.tmod a1 1000000))).bind fun bt755 => ((dec_Add.f kj2 bt753.1 bt753.2 bt755.1 bt755.2).bind fun bt757 => (if (bt751.1 == bt757.1 && (bt751.2 == bt757.2)) = true then ((dec_Round.f kj2 bt740.1 bt740.2).bind fun bt759 => ((dec_Round.f kj2 a0_0 a0_1).bind fun bt761 => ((dec_Int.f kj2 (wrap64 (Int.tmod a1 1000000))).bind fun bt763 => ((dec_Add.f kj2 bt761.1 bt761.2 bt763.1 bt763.2).bind fun bt765 => (if (bt759.1 == bt765.1 && (bt759.2 == bt765.2)) = true then ((breviarylaw03_works.f kj2).bind fun t767 => (some t767)) else (none)))))) else (none)))))) else (none))))))) = some r := H
        have A23 := Aside0.mk A230
        clear A230
        replace H := Option.bind_eq_some_iff.mp H
        obtain ⟨⟨t740, t741⟩, A240, H⟩ := H
        replace H : ((dec_Floor.f kj2 t740 t741).bind fun bt743 => ((dec_Floor.f kj2 a0_0 a0_1).bind fun bt745 => ((dec_Int.f kj2 (wrap64 (Int.tmod a1 1000000))).bind fun bt747 => ((dec_Add.f kj2 bt745.1 bt745.2 bt747.1 bt747.2).bind fun bt749 => (if (bt743.1 == bt749.1 && (bt743.2 == bt749.2)) = true then ((dec_Ceil.f kj2 t740 t741).bind fun bt751 => ((dec_Ceil.f kj2 a0_0 a0_1).bind fun bt753 => ((dec_Int.f kj2 (wrap64 (Int.tmod a1 1000000))).bind fun bt755 => ((dec_Add.f kj2 bt753.1 bt753.2 bt755.1 bt755.2).bind fun bt757 => (if (bt751.1 == bt757.1 && (bt751.2 == bt757.2)) = true then ((dec_Round.f kj2 t740 t741).bind fun bt759 => ((dec_Round.f kj2 a0_0 a0_1).bind fun bt761 => ((dec_Int.f kj2 (wrap64 (Int.tmod a1 1000000))).bind fun bt763 => ((dec_Add.f kj2 bt761.1 bt761.2 bt763.1 bt763.2).bind fun bt765 => (if (bt759.1 == bt765.1 && (bt759.2 == bt765.2)) = true then ((breviarylaw03_works.f kj2).bind fun t767 => (some t767)) else (none)))))) else (none)))))) else (none)))))) = some r := H
        have A24 := Aside0.mk A240
        clear A240
        replace H := Option.bind_eq_some_iff.mp H
        obtain ⟨⟨t743, t744⟩, A250, H⟩ := H
        replace H : ((dec_Floor.f kj2 a0_0 a0_1).bind fun bt745 => ((dec_Int.f kj2 (wrap64 (Int.tmod a1 1000000))).bind fun bt747 => ((dec_Add.f kj2 bt745.1 bt745.2 bt747.1 bt747.2).bind fun bt749 => (if (t743 == bt749.1 && (t744 == bt749.2)) = true then ((dec_Ceil.f kj2 t740 t741).bind fun bt751 => ((dec_Ceil.f kj2 a0_0 a0_1).bind fun bt753 => ((dec_Int.f kj2 (wrap64 (Int.tmod a1 1000000))).bind fun bt755 => ((dec_Add.f kj2 bt753.1 bt753.2 bt755.1 bt755.2).bind fun bt757 => (if (bt751.1 == bt757.1 && (bt751.2 == bt757.2)) = true then ((dec_Round.f kj2 t740 t741).bind fun bt759 => ((dec_Round.f kj2 a0_0 a0_1).bind fun bt761 => ((dec_Int.f kj2 (wrap64 (Int.tmod a1 1000000))).bind fun bt763 => ((dec_Add.f kj2 bt761.1 bt761.2 bt763.1 bt763.2).bind fun bt765 => (if (bt759.1 == bt765.1 && (bt759.2 == bt765.2)) = true then ((breviarylaw03_works.f kj2).bind fun t767 => (some t767)) else (none)))))) else (none)))))) else (none))))) = some r := H
        have A25 := Aside0.mk A250
        clear A250
        replace H := Option.bind_eq_some_iff.mp H
        obtain ⟨⟨t745, t746⟩, A260, H⟩ := H
        replace H : ((dec_Int.f kj2 (wrap64 (Int.tmod a1 1000000))).bind fun bt747 => ((dec_Add.f kj2 t745 t746 bt747.1 bt747.2).bind fun bt749 => (if (t743 == bt749.1 && (t744 == bt749.2)) = true then ((dec_Ceil.f kj2 t740 t741).bind fun bt751 => ((dec_Ceil.f kj2 a0_0 a0_1).bind fun bt753 => ((dec_Int.f kj2 (wrap64 (Int.tmod a1 1000000))).bind fun bt755 => ((dec_Add.f kj2 bt753.1 bt753.2 bt755.1 bt755.2).bind fun bt757 => (if (bt751.1 == bt757.1 && (bt751.2 == bt757.2)) = true then ((dec_Round.f kj2 t740 t741).bind fun bt759 => ((dec_Round.f kj2 a0_0 a0_1).bind fun bt761 => ((dec_Int.f kj2 (wrap64 (Int.tmod a1 1000000))).bind fun bt763 => ((dec_Add.f kj2 bt761.1 bt761.2 bt763.1 bt763.2).bind fun bt765 => (if (bt759.1 == bt765.1 && (bt759.2 == bt765.2)) = true then ((breviarylaw03_works.f kj2).bind fun t767 => (some t767)) else (none)))))) else (none)))))) else (none)))) = some r := H
        have A26 := Aside0.mk A260
        clear A260
        replace H := Option.bind_eq_some_iff.mp H
        obtain ⟨⟨t747, t748⟩, A270, H⟩ := H
        replace H : ((dec_Add.f kj2 t745 t746 t747 t748).bind fun bt749 => (if (t743 == bt749.1 && (t744 == bt749.2)) = true then ((dec_Ceil.f kj2 t740 t741).bind fun bt751 => ((dec_Ceil.f kj2 a0_0 a0_1).bind fun bt753 => ((dec_Int.f kj2 (wrap64 (Int.tmod a1 1000000))).bind fun bt755 => ((dec_Add.f kj2 bt753.1 bt753.2 bt755.1 bt755.2).bind fun bt757 => (if (bt751.1 == bt757.1 && (bt751.2 == bt757.2)) = true then ((dec_Round.f kj2 t740 t741).bind fun bt759 => ((dec_Round.f kj2 a0_0 a0_1).bind fun bt761 => ((dec_Int.f kj2 (wrap64 (Int.tmod a1 1000000))).bind fun bt763 => ((dec_Add.f kj2 bt761.1 bt761.2 bt763.1 bt763.2).bind fun bt765 => (if (bt759.1 == bt765.1 && (bt759.2 == bt765.2)) = true then ((breviarylaw03_works.f kj2).bind fun t767 => (some t767)) else (none)))))) else (none)))))) else (none))) = some r := H
        have A27 := Aside0.mk A270
        clear A270
        replace H := Option.bind_eq_some_iff.mp H
        obtain ⟨⟨t749, t750⟩, A280, H⟩ := H
        replace H : (if (t743 == t749 && (t744 == t750)) = true then ((dec_Ceil.f kj2 t740 t741).bind fun bt751 => ((dec_Ceil.f kj2 a0_0 a0_1).bind fun bt753 => ((dec_Int.f kj2 (wrap64 (Int.tmod a1 1000000))).bind fun bt755 => ((dec_Add.f kj2 bt753.1 bt753.2 bt755.1 bt755.2).bind fun bt757 => (if (bt751.1 == bt757.1 && (bt751.2 == bt757.2)) = true then ((dec_Round.f kj2 t740 t741).bind fun bt759 => ((dec_Round.f kj2 a0_0 a0_1).bind fun bt761 => ((dec_Int.f kj2 (wrap64 (Int.tmod a1 1000000))).bind fun bt763 => ((dec_Add.f kj2 bt761.1 bt761.2 bt763.1 bt763.2).bind fun bt765 => (if (bt759.1 == bt765.1 && (bt759.2 == bt765.2)) = true then ((breviarylaw03_works.f kj2).bind fun t767 => (some t767)) else (none)))))) else (none)))))) else (none)) = some r := H
        have A28 := Aside0.mk A280
        clear A280
        by_cases c29 : (t743 == t749 && (t744 == t750)) = true
        · rw [if_pos c29] at H
          have c29b0 : (t743 == t749 && (t744 == t750)) = true := c29
          (try (have c29b1 : decide (t743 = t749 && (t744 == t750)) = true := by simpa using c29))
          (try (have c29b2 : (t743 == t749 && (t744 == t750)) = true := by simpa using c29))
          clear c29
          replace H := Option.bind_eq_some_iff.mp H
          obtain ⟨⟨t751, t752⟩, A300, H⟩ := H
          replace H : ((dec_Ceil.f kj2 a0_0 a0_1).bind fun bt753 => ((dec_Int.f kj2 (wrap64 (Int.tmod a1 1000000))).bind fun bt755 => ((dec_Add.f kj2 bt753.1 bt753.2 bt755.1 bt755.2).bind fun bt757 => (if (t751 == bt757.1 && (t752 == bt757.2)) = true then ((dec_Round.f kj2 t740 t741).bind fun bt759 => ((dec_Round.f kj2 a0_0 a0_1).bind fun bt761 => ((dec_Int.f kj2 (wrap64 (Int.tmod a1 1000000))).bind fun bt763 => ((dec_Add.f kj2 bt761.1 bt761.2 bt763.1 bt763.2).bind fun bt765 => (if (bt759.1 == bt765.1 && (bt759.2 == bt765.2)) = true then ((breviarylaw03_works.f kj2).bind fun t767 => (some t767)) else (none)))))) else (none))))) = some r := H
          have A30 := Aside0.mk A300
          clear A300
          replace H := Option.bind_eq_some_iff.mp H
          obtain ⟨⟨t753, t754⟩, A310, H⟩ := H
          replace H : ((dec_Int.f kj2 (wrap64 (Int.tmod a1 1000000))).bind fun bt755 => ((dec_Add.f kj2 t753 t754 bt755.1 bt755.2).bind fun bt757 => (if (t751 == bt757.1 && (t752 == bt757.2)) = true then ((dec_Round.f kj2 t740 t741).bind fun bt759 => ((dec_Round.f kj2 a0_0 a0_1).bind fun bt761 => ((dec_Int.f kj2 (wrap64 (Int.tmod a1 1000000))).bind fun bt763 => ((dec_Add.f kj2 bt761.1 bt761.2 bt763.1 bt763.2).bind fun bt765 => (if (bt759.1 == bt765.1 && (bt759.2 == bt765.2)) = true then ((breviarylaw03_works.f kj2).bind fun t767 => (some t767)) else (none)))))) else (none)))) = some r := H
          have A31 := Aside0.mk A310
          clear A310
          replace H := Option.bind_eq_some_iff.mp H
          obtain ⟨⟨t755, t756⟩, A320, H⟩ := H
          replace H : ((dec_Add.f kj2 t753 t754 t755 t756).bind fun bt757 => (if (t751 == bt757.1 && (t752 == bt757.2)) = true then ((dec_Round.f kj2 t740 t741).bind fun bt759 => ((dec_Round.f kj2 a0_0 a0_1).bind fun bt761 => ((dec_Int.f kj2 (wrap64 (Int.tmod a1 1000000))).bind fun bt763 => ((dec_Add.f kj2 bt761.1 bt761.2 bt763.1 bt763.2).bind fun bt765 => (if (bt759.1 == bt765.1 && (bt759.2 == bt765.2)) = true then ((breviarylaw03_works.f kj2).bind fun t767 => (some t767)) else (none)))))) else (none))) = some r := H
          have A32 := Aside0.mk A320
          clear A320
          replace H := Option.bind_eq_some_iff.mp H
          obtain ⟨⟨t757, t758⟩, A330, H⟩ := H
          replace H : (if (t751 == t757 && (t752 == t758)) = true then ((dec_Round.f kj2 t740 t741).bind fun bt759 => ((dec_Round.f kj2 a0_0 a0_1).bind fun bt761 => ((dec_Int.f kj2 (wrap64 (Int.tmod a1 1000000))).bind fun bt763 => ((dec_Add.f kj2 bt761.1 bt761.2 bt763.1 bt763.2).bind fun bt765 => (if (bt759.1 == bt765.1 && (bt759.2 == bt765.2)) = true then ((breviarylaw03_works.f kj2).bind fun t767 => (some t767)) else (none)))))) else (none)) = some r := H
          have A33 := Aside0.mk A330
          clear A330
          by_cases c34 : (t751 == t757 && (t752 == t758)) = true
          · rw [if_pos c34] at H
            have c34b0 : (t751 == t757 && (t752 == t758)) = true := c34
            (try (have c34b1 : decide (t751 = t757 && (t752 == t758)) = true := by simpa using c34))
            (try (have c34b2 : (t751 == t757 && (t752 == t758)) = true := by simpa using c34))
            clear c34
            replace H := Option.bind_eq_some_iff.mp H
            obtain ⟨⟨t759, t760⟩, A350, H⟩ := H
            replace H : ((dec_Round.f kj2 a0_0 a0_1).bind fun bt761 => ((dec_Int.f kj2 (wrap64 (Int.tmod a1 1000000))).bind fun bt763 => ((dec_Add.f kj2 bt761.1 bt761.2 bt763.1 bt763.2).bind fun bt765 => (if (t759 == bt765.1 && (t760 == bt765.2)) = true then ((breviarylaw03_works.f kj2).bind fun t767 => (some t767)) else (none))))) = some r := H
            have A35 := Aside0.mk A350
            clear A350
            replace H := Option.bind_eq_some_iff.mp H
            obtain ⟨⟨t761, t762⟩, A360, H⟩ := H
            replace H : ((dec_Int.f kj2 (wrap64 (Int.tmod a1 1000000))).bind fun bt763 => ((dec_Add.f kj2 t761 t762 bt763.1 bt763.2).bind fun bt765 => (if (t759 == bt765.1 && (t760 == bt765.2)) = true then ((breviarylaw03_works.f kj2).bind fun t767 => (some t767)) else (none)))) = some r := H
            have A36 := Aside0.mk A360
            clear A360
            replace H := Option.bind_eq_some_iff.mp H
            obtain ⟨⟨t763, t764⟩, A370, H⟩ := H
            replace H : ((dec_Add.f kj2 t761 t762 t763 t764).bind fun bt765 => (if (t759 == bt765.1 && (t760 == bt765.2)) = true then ((breviarylaw03_works.f kj2).bind fun t767 => (some t767)) else (none))) = some r := H
            have A37 := Aside0.mk A370
            clear A370
            replace H := Option.bind_eq_some_iff.mp H
            obtain ⟨⟨t765, t766⟩, A380, H⟩ := H
            replace H : (if (t759 == t765 && (t760 == t766)) = true then ((breviarylaw03_works.f kj2).bind fun t767 => (some t767)) else (none)) = some r := H
            have A38 := Aside0.mk A380
            clear A380
            by_cases c39 : (t759 == t765 && (t760 == t766)) = true
            · rw [if_pos c39] at H
              have c39b0 : (t759 == t765 && (t760 == t766)) = true := c39
              (try (have c39b1 : decide (t759 = t765 && (t760 == t766)) = true := by simpa using c39))
              (try (have c39b2 : (t759 == t765 && (t760 == t766)) = true := by simpa using c39))
              clear c39
              replace H := Option.bind_eq_some_iff.mp H
              obtain ⟨t767, A400, H⟩ := H
              replace H : (some t767) = some r := H
              have A40 := Aside0.mk A400
              clear A400
              obtain rfl := Option.some.inj H
              try go_wp2
              have n0_ := Aside0.mk (blk_drew BK735.out)
              have n1_ := Aside0.mk (below_drew1 HB.out)
              clear BK735
              clear HB
              have BK735 := n0_
              have HB := n1_
              clear n0_ n1_
              refine start_ (n := 6) (S := fun w' => w'.cell? ⟨gb735, 0, none⟩ = some (.int .i64 a0_0) ∧ w'.cell? ⟨gb735, 1, none⟩ = some (.int .i64 a0_1)) (ds := []) #[false, false, false, false, false, false] (by kernel_rfl) rfl rfl ⟨(blk_cell BK735.out 0).trans rfl, (blk_cell BK735.out 1).trans rfl⟩ (fun hHeld => ?_)
              generalize wc.drew = w41 at BK735 HB hHeld ⊢
              refine pure_ (i := 1) (N := some 30) (v := ?_) (a' := ?_) #[false, true, false, false, false, false] rfl rfl (by kernel_rfl) (fun _ _ _ h => h) (Or.inl ⟨by rfl, ?_⟩) ?_ ?_
              rotate_left
              · intro w'
                go_simp
                with_reducible rfl
              rotate_left
              · simp only [Act.put, List.setIfInBounds_toArray, List.set_cons_zero, List.set_cons_succ, i64_w]
                rfl
              refine take_ (i := 0) (N := some 29) (v := ?_) (a' := ?_) #[true, true, false, false, false, false] rfl rfl (by kernel_rfl) (fun _ _ _ h => h) (Or.inl ⟨by rfl, ?_⟩) hHeld ?_ ?_
              rotate_left
              · rintro w' ⟨s0, s1⟩
                go_simp
                with_reducible rfl
              rotate_left
              · simp only [Act.put, List.setIfInBounds_toArray, List.set_cons_zero, List.set_cons_succ, i64_w]
                rfl
              refine join_ (σ := Nat) 1 #[true, true, true, true, true, false] (fun s_ => [(31, .agg #[.int .i64 t738, .int .i64 t739]), (32, .agg #[.int .i64 t740, .int .i64 t741]), (6, .pointer (some ⟨s_, 0, none⟩))]) (fun s_ w' => (w'.cell? ⟨gb735, 0, none⟩ = some (.int .i64 a0_0) ∧ w'.cell? ⟨gb735, 1, none⟩ = some (.int .i64 a0_1)) ∧ (w'.heap[gb735]? = some (.cells #[.int .i64 a0_0, .int .i64 a0_1] 23 (0, 0))) ∧ (w'.heap[s_]? = some (.cells #[.int .i64 0, .int .i64 0] 23 (0, 0))) ∧ (w.heap.size ≤ s_) ∧ (w.heap.size ≤ s_) ∧ (gb735 ≠ s_) ∧ (s_ ≠ gb735) ∧ (Below w.heap.size w w')) ?_ ?_
              rotate_left
              · intro hCont
                refine two_ (i := 2) (j := 4) (Ni := some 31) (Nj := some 6) #[true, true, true, false, false, false] #[true, true, false, false, true, false] rfl rfl rfl rfl (by kernel_rfl) (by decide) (by decide) (fun K hK => ?_) (fun K hK => ?_)
                · skip
                  refine goes_ Try.func21 (by kernel_rfl) rfl #[.int .i64 (wrap64 (Int.tmod a1 1000000))] (by rfl) rfl rfl (by (try simp only [List.map_toArray, List.map_cons, List.map_nil]); first | done | rfl | (simp only [List.length_drop, List.length_take]; rfl)) ?_
                  with_reducible refine (dec_Int.calls kj2 (wrap64 (Int.tmod a1 1000000)) t738 t739 _ A23.out).mono ?_
                  rintro e w42 ⟨rfl, hb⟩
                  refine ⟨_, rfl, ?_⟩
                  have n0_ := Aside0.mk (blk_below (g := gb735) (o := .cells #[.int .i64 a0_0, .int .i64 a0_1] 23 (0, 0)) (by (with_reducible repeat (first | refine blk_drewN ?_ _ | refine blk_drew ?_ | refine blk_alloc ?_ _)); exact BK735.out) hb)
                  have n1_ := Aside0.mk (below_step (by repeat (first | (with_reducible first | exact HB.out | apply below_alloc | apply pw_below_drewN | apply below_drew1 | refine below_set ?_ GE735.out) | exact HB.out)) hb)
                  clear BK735
                  clear HB
                  have BK735 := n0_
                  have HB := n1_
                  clear n0_ n1_
                  (try clear hb)
                  (try clear hb2)
                  (try clear hk)
                  (try clear hi)
                  refine hK.out _ _ ⟨(blk_cell BK735.out 0).trans rfl, (blk_cell BK735.out 1).trans rfl⟩ (fun hHeld => ?_)
                  clear hK K
                  refine norm_ (a' := ?_) ?_ ?_
                  rotate_left
                  · show Act.put _ (some 31) _ = _
                    simp only [Act.put, List.setIfInBounds_toArray, List.set_cons_zero, List.set_cons_succ, i64_w]
                    rfl
                  refine two_ (i := 3) (j := 4) (Ni := some 32) (Nj := some 6) #[true, true, true, true, false, false] #[true, true, true, false, true, false] rfl rfl rfl rfl (by kernel_rfl) (by decide) (by decide) (fun K hK => ?_) (fun K hK => ?_)
                  · skip
                    refine goes_ Try.func26 (by kernel_rfl) rfl #[.agg #[.int .i64 a0_0, .int .i64 a0_1], .agg #[.int .i64 t738, .int .i64 t739]] (by rfl) rfl rfl (by (try simp only [List.map_toArray, List.map_cons, List.map_nil]); first | done | rfl | (simp only [List.length_drop, List.length_take]; rfl)) ?_
                    with_reducible refine (dec_Add.calls kj2 a0_0 a0_1 t738 t739 t740 t741 _ A24.out).mono ?_
                    rintro e w43 ⟨rfl, hb⟩
                    refine ⟨_, rfl, ?_⟩
                    have n0_ := Aside0.mk (blk_below (g := gb735) (o := .cells #[.int .i64 a0_0, .int .i64 a0_1] 23 (0, 0)) (by (with_reducible repeat (first | refine blk_drewN ?_ _ | refine blk_drew ?_ | refine blk_alloc ?_ _)); exact BK735.out) hb)
                    have n1_ := Aside0.mk (below_step (by repeat (first | (with_reducible first | exact HB.out | apply below_alloc | apply pw_below_drewN | apply below_drew1 | refine below_set ?_ GE735.out) | exact HB.out)) hb)
                    clear BK735
                    clear HB
                    have BK735 := n0_
                    have HB := n1_
                    clear n0_ n1_
                    (try clear hb)
                    (try clear hb2)
                    (try clear hk)
                    (try clear hi)
                    refine hK.out _ _ ⟨(blk_cell BK735.out 0).trans rfl, (blk_cell BK735.out 1).trans rfl⟩ (fun hHeld => ?_)
                    clear hK K
                    refine norm_ (a' := ?_) ?_ ?_
                    rotate_left
                    · show Act.put _ (some 32) _ = _
                      simp only [Act.put, List.setIfInBounds_toArray, List.set_cons_zero, List.set_cons_succ, i64_w]
                      rfl
                    refine one_ (i := 4) (N := some 6) #[true, true, true, true, true, false] rfl rfl (by kernel_rfl) (by decide) (fun K hK => ?_)
                    refine box_step ?hg (N := 6) ?hd (cs := #[.int .i64 0, .int .i64 0]) (t := 23) ?hr ?_; (case hd => rfl); (case hg => rfl); (case hr => first | (go_simp; done) | (go_simp; rfl))
                    intro gb742 hg w44 hbox hb
                    have n0_ := Aside0.mk (blk_below (g := gb735) (o := .cells #[.int .i64 a0_0, .int .i64 a0_1] 23 (0, 0)) (by (with_reducible repeat (first | refine blk_drewN ?_ _ | refine blk_drew ?_ | refine blk_alloc ?_ _)); exact BK735.out) hb)
                    have n1_ := Aside0.mk (below_step (by repeat (first | (with_reducible first | exact HB.out | apply below_alloc | apply pw_below_drewN | apply below_drew1 | refine below_set ?_ GE735.out) | exact HB.out)) hb)
                    have n2_ := Aside0.mk (hbox)
                    have n3_ := Aside0.mk ((by rw [hg]; exact (below_size (by repeat (first | (with_reducible first | exact HB.out | apply below_alloc | apply pw_below_drewN | apply below_drew1 | refine below_set ?_ GE735.out) | exact HB.out))) : w.heap.size ≤ gb742))
                    have n4_ := Aside0.mk ((by rw [hg]; exact (below_size (by repeat (first | (with_reducible first | exact HB.out | apply below_alloc | apply pw_below_drewN | apply below_drew1 | refine below_set ?_ GE735.out) | exact HB.out))) : w.heap.size ≤ gb742))
                    have n5_ := Aside0.mk ((by rw [hg]; exact Nat.ne_of_lt (blk_lt (g := gb735) (o := .cells #[.int .i64 a0_0, .int .i64 a0_1] 23 (0, 0)) (by (with_reducible repeat (first | refine blk_drewN ?_ _ | refine blk_drew ?_ | refine blk_alloc ?_ _)); exact BK735.out)) : gb735 ≠ gb742))
                    have n6_ := Aside0.mk ((by rw [hg]; exact Nat.ne_of_gt (blk_lt (g := gb735) (o := .cells #[.int .i64 a0_0, .int .i64 a0_1] 23 (0, 0)) (by (with_reducible repeat (first | refine blk_drewN ?_ _ | refine blk_drew ?_ | refine blk_alloc ?_ _)); exact BK735.out)) : gb742 ≠ gb735))
                    clear BK735
                    clear HB
                    have BK735 := n0_
                    have HB := n1_
                    have BK742 := n2_
                    have GW742 := n3_
                    have GE742 := n4_
                    have NB735_742 := n5_
                    have NB742_735 := n6_
                    clear n0_ n1_ n2_ n3_ n4_ n5_ n6_
                    clear hb hbox hg
                    refine hK.out _ _ ⟨(blk_cell BK735.out 0).trans rfl, (blk_cell BK735.out 1).trans rfl⟩ (fun hHeld => ?_)
                    clear hK K
                    refine norm_ (a' := ?_) ?_ ?_
                    rotate_left
                    · show Act.put _ (some 6) _ = _
                      simp only [Act.put, List.setIfInBounds_toArray, List.set_cons_zero, List.set_cons_succ, i64_w]
                      rfl
                    exact norm_ (by simp only [putAll, Act.put, List.setIfInBounds_toArray, List.set_cons_zero, List.set_cons_succ]) (hCont (gb742) _ ⟨hHeld, (by (with_reducible repeat (first | refine blk_drewN ?_ _ | refine blk_drew ?_ | refine blk_alloc ?_ _)); exact BK735.out), (by (with_reducible repeat (first | refine blk_drewN ?_ _ | refine blk_drew ?_ | refine blk_alloc ?_ _)); exact BK742.out), GW742.out, GE742.out, NB735_742.out, NB742_735.out, (by repeat (first | (with_reducible first | exact HB.out | apply below_alloc | apply pw_below_drewN | apply below_drew1 | refine below_set ?_ GE735.out | refine below_set ?_ GE742.out) | exact HB.out))⟩)
                  · skip
                    refine box_step ?hg (N := 6) ?hd (cs := #[.int .i64 0, .int .i64 0]) (t := 23) ?hr ?_; (case hd => rfl); (case hg => rfl); (case hr => first | (go_simp; done) | (go_simp; rfl))
                    intro gb742 hg w43 hbox hb
                    have n0_ := Aside0.mk (blk_below (g := gb735) (o := .cells #[.int .i64 a0_0, .int .i64 a0_1] 23 (0, 0)) (by (with_reducible repeat (first | refine blk_drewN ?_ _ | refine blk_drew ?_ | refine blk_alloc ?_ _)); exact BK735.out) hb)
                    have n1_ := Aside0.mk (below_step (by repeat (first | (with_reducible first | exact HB.out | apply below_alloc | apply pw_below_drewN | apply below_drew1 | refine below_set ?_ GE735.out) | exact HB.out)) hb)
                    have n2_ := Aside0.mk (hbox)
                    have n3_ := Aside0.mk ((by rw [hg]; exact (below_size (by repeat (first | (with_reducible first | exact HB.out | apply below_alloc | apply pw_below_drewN | apply below_drew1 | refine below_set ?_ GE735.out) | exact HB.out))) : w.heap.size ≤ gb742))
                    have n4_ := Aside0.mk ((by rw [hg]; exact (below_size (by repeat (first | (with_reducible first | exact HB.out | apply below_alloc | apply pw_below_drewN | apply below_drew1 | refine below_set ?_ GE735.out) | exact HB.out))) : w.heap.size ≤ gb742))
                    have n5_ := Aside0.mk ((by rw [hg]; exact Nat.ne_of_lt (blk_lt (g := gb735) (o := .cells #[.int .i64 a0_0, .int .i64 a0_1] 23 (0, 0)) (by (with_reducible repeat (first | refine blk_drewN ?_ _ | refine blk_drew ?_ | refine blk_alloc ?_ _)); exact BK735.out)) : gb735 ≠ gb742))
                    have n6_ := Aside0.mk ((by rw [hg]; exact Nat.ne_of_gt (blk_lt (g := gb735) (o := .cells #[.int .i64 a0_0, .int .i64 a0_1] 23 (0, 0)) (by (with_reducible repeat (first | refine blk_drewN ?_ _ | refine blk_drew ?_ | refine blk_alloc ?_ _)); exact BK735.out)) : gb742 ≠ gb735))
                    clear BK735
                    clear HB
                    have BK735 := n0_
                    have HB := n1_
                    have BK742 := n2_
                    have GW742 := n3_
                    have GE742 := n4_
                    have NB735_742 := n5_
                    have NB742_735 := n6_
                    clear n0_ n1_ n2_ n3_ n4_ n5_ n6_
                    clear hb hbox hg
                    refine hK.out _ _ ⟨(blk_cell BK735.out 0).trans rfl, (blk_cell BK735.out 1).trans rfl⟩ (fun hHeld => ?_)
                    clear hK K
                    refine norm_ (a' := ?_) ?_ ?_
                    rotate_left
                    · show Act.put _ (some 6) _ = _
                      simp only [Act.put, List.setIfInBounds_toArray, List.set_cons_zero, List.set_cons_succ, i64_w]
                      rfl
                    refine one_ (i := 3) (N := some 32) #[true, true, true, true, true, false] rfl rfl (by kernel_rfl) (by decide) (fun K hK => ?_)
                    refine goes_ Try.func26 (by kernel_rfl) rfl #[.agg #[.int .i64 a0_0, .int .i64 a0_1], .agg #[.int .i64 t738, .int .i64 t739]] (by rfl) rfl rfl (by (try simp only [List.map_toArray, List.map_cons, List.map_nil]); first | done | rfl | (simp only [List.length_drop, List.length_take]; rfl)) ?_
                    with_reducible refine (dec_Add.calls kj2 a0_0 a0_1 t738 t739 t740 t741 _ A24.out).mono ?_
                    rintro e w44 ⟨rfl, hb⟩
                    refine ⟨_, rfl, ?_⟩
                    have n0_ := Aside0.mk (blk_below (g := gb735) (o := .cells #[.int .i64 a0_0, .int .i64 a0_1] 23 (0, 0)) (by (with_reducible repeat (first | refine blk_drewN ?_ _ | refine blk_drew ?_ | refine blk_alloc ?_ _)); exact BK735.out) hb)
                    have n1_ := Aside0.mk (blk_below (g := gb742) (o := .cells #[.int .i64 0, .int .i64 0] 23 (0, 0)) (by (with_reducible repeat (first | refine blk_drewN ?_ _ | refine blk_drew ?_ | refine blk_alloc ?_ _)); exact BK742.out) hb)
                    have n2_ := Aside0.mk (below_step (by repeat (first | (with_reducible first | exact HB.out | apply below_alloc | apply pw_below_drewN | apply below_drew1 | refine below_set ?_ GE735.out | refine below_set ?_ GE742.out) | exact HB.out)) hb)
                    clear BK735
                    clear BK742
                    clear HB
                    have BK735 := n0_
                    have BK742 := n1_
                    have HB := n2_
                    clear n0_ n1_ n2_
                    (try clear hb)
                    (try clear hb2)
                    (try clear hk)
                    (try clear hi)
                    refine hK.out _ _ ⟨(blk_cell BK735.out 0).trans rfl, (blk_cell BK735.out 1).trans rfl⟩ (fun hHeld => ?_)
                    clear hK K
                    refine norm_ (a' := ?_) ?_ ?_
                    rotate_left
                    · show Act.put _ (some 32) _ = _
                      simp only [Act.put, List.setIfInBounds_toArray, List.set_cons_zero, List.set_cons_succ, i64_w]
                      rfl
                    exact norm_ (by simp only [putAll, Act.put, List.setIfInBounds_toArray, List.set_cons_zero, List.set_cons_succ]) (hCont (gb742) _ ⟨hHeld, (by (with_reducible repeat (first | refine blk_drewN ?_ _ | refine blk_drew ?_ | refine blk_alloc ?_ _)); exact BK735.out), (by (with_reducible repeat (first | refine blk_drewN ?_ _ | refine blk_drew ?_ | refine blk_alloc ?_ _)); exact BK742.out), GW742.out, GE742.out, NB735_742.out, NB742_735.out, (by repeat (first | (with_reducible first | exact HB.out | apply below_alloc | apply pw_below_drewN | apply below_drew1 | refine below_set ?_ GE735.out | refine below_set ?_ GE742.out) | exact HB.out))⟩)
                · skip
                  refine box_step ?hg (N := 6) ?hd (cs := #[.int .i64 0, .int .i64 0]) (t := 23) ?hr ?_; (case hd => rfl); (case hg => rfl); (case hr => first | (go_simp; done) | (go_simp; rfl))
                  intro gb742 hg w42 hbox hb
                  have n0_ := Aside0.mk (blk_below (g := gb735) (o := .cells #[.int .i64 a0_0, .int .i64 a0_1] 23 (0, 0)) (by (with_reducible repeat (first | refine blk_drewN ?_ _ | refine blk_drew ?_ | refine blk_alloc ?_ _)); exact BK735.out) hb)
                  have n1_ := Aside0.mk (below_step (by repeat (first | (with_reducible first | exact HB.out | apply below_alloc | apply pw_below_drewN | apply below_drew1 | refine below_set ?_ GE735.out) | exact HB.out)) hb)
                  have n2_ := Aside0.mk (hbox)
                  have n3_ := Aside0.mk ((by rw [hg]; exact (below_size (by repeat (first | (with_reducible first | exact HB.out | apply below_alloc | apply pw_below_drewN | apply below_drew1 | refine below_set ?_ GE735.out) | exact HB.out))) : w.heap.size ≤ gb742))
                  have n4_ := Aside0.mk ((by rw [hg]; exact (below_size (by repeat (first | (with_reducible first | exact HB.out | apply below_alloc | apply pw_below_drewN | apply below_drew1 | refine below_set ?_ GE735.out) | exact HB.out))) : w.heap.size ≤ gb742))
                  have n5_ := Aside0.mk ((by rw [hg]; exact Nat.ne_of_lt (blk_lt (g := gb735) (o := .cells #[.int .i64 a0_0, .int .i64 a0_1] 23 (0, 0)) (by (with_reducible repeat (first | refine blk_drewN ?_ _ | refine blk_drew ?_ | refine blk_alloc ?_ _)); exact BK735.out)) : gb735 ≠ gb742))
                  have n6_ := Aside0.mk ((by rw [hg]; exact Nat.ne_of_gt (blk_lt (g := gb735) (o := .cells #[.int .i64 a0_0, .int .i64 a0_1] 23 (0, 0)) (by (with_reducible repeat (first | refine blk_drewN ?_ _ | refine blk_drew ?_ | refine blk_alloc ?_ _)); exact BK735.out)) : gb742 ≠ gb735))
                  clear BK735
                  clear HB
                  have BK735 := n0_
                  have HB := n1_
                  have BK742 := n2_
                  have GW742 := n3_
                  have GE742 := n4_
                  have NB735_742 := n5_
                  have NB742_735 := n6_
                  clear n0_ n1_ n2_ n3_ n4_ n5_ n6_
                  clear hb hbox hg
                  refine hK.out _ _ ⟨(blk_cell BK735.out 0).trans rfl, (blk_cell BK735.out 1).trans rfl⟩ (fun hHeld => ?_)
                  clear hK K
                  refine norm_ (a' := ?_) ?_ ?_
                  rotate_left
                  · show Act.put _ (some 6) _ = _
                    simp only [Act.put, List.setIfInBounds_toArray, List.set_cons_zero, List.set_cons_succ, i64_w]
                    rfl
                  refine one_ (i := 2) (N := some 31) #[true, true, true, false, true, false] rfl rfl (by kernel_rfl) (by decide) (fun K hK => ?_)
                  refine goes_ Try.func21 (by kernel_rfl) rfl #[.int .i64 (wrap64 (Int.tmod a1 1000000))] (by rfl) rfl rfl (by (try simp only [List.map_toArray, List.map_cons, List.map_nil]); first | done | rfl | (simp only [List.length_drop, List.length_take]; rfl)) ?_
                  with_reducible refine (dec_Int.calls kj2 (wrap64 (Int.tmod a1 1000000)) t738 t739 _ A23.out).mono ?_
                  rintro e w43 ⟨rfl, hb⟩
                  refine ⟨_, rfl, ?_⟩
                  have n0_ := Aside0.mk (blk_below (g := gb735) (o := .cells #[.int .i64 a0_0, .int .i64 a0_1] 23 (0, 0)) (by (with_reducible repeat (first | refine blk_drewN ?_ _ | refine blk_drew ?_ | refine blk_alloc ?_ _)); exact BK735.out) hb)
                  have n1_ := Aside0.mk (blk_below (g := gb742) (o := .cells #[.int .i64 0, .int .i64 0] 23 (0, 0)) (by (with_reducible repeat (first | refine blk_drewN ?_ _ | refine blk_drew ?_ | refine blk_alloc ?_ _)); exact BK742.out) hb)
                  have n2_ := Aside0.mk (below_step (by repeat (first | (with_reducible first | exact HB.out | apply below_alloc | apply pw_below_drewN | apply below_drew1 | refine below_set ?_ GE735.out | refine below_set ?_ GE742.out) | exact HB.out)) hb)
                  clear BK735
                  clear BK742
                  clear HB
                  have BK735 := n0_
                  have BK742 := n1_
                  have HB := n2_
                  clear n0_ n1_ n2_
                  (try clear hb)
                  (try clear hb2)
                  (try clear hk)
                  (try clear hi)
                  refine hK.out _ _ ⟨(blk_cell BK735.out 0).trans rfl, (blk_cell BK735.out 1).trans rfl⟩ (fun hHeld => ?_)
                  clear hK K
                  refine norm_ (a' := ?_) ?_ ?_
                  rotate_left
                  · show Act.put _ (some 31) _ = _
                    simp only [Act.put, List.setIfInBounds_toArray, List.set_cons_zero, List.set_cons_succ, i64_w]
                    rfl
                  refine one_ (i := 3) (N := some 32) #[true, true, true, true, true, false] rfl rfl (by kernel_rfl) (by decide) (fun K hK => ?_)
                  refine goes_ Try.func26 (by kernel_rfl) rfl #[.agg #[.int .i64 a0_0, .int .i64 a0_1], .agg #[.int .i64 t738, .int .i64 t739]] (by rfl) rfl rfl (by (try simp only [List.map_toArray, List.map_cons, List.map_nil]); first | done | rfl | (simp only [List.length_drop, List.length_take]; rfl)) ?_
                  with_reducible refine (dec_Add.calls kj2 a0_0 a0_1 t738 t739 t740 t741 _ A24.out).mono ?_
                  rintro e w44 ⟨rfl, hb⟩
                  refine ⟨_, rfl, ?_⟩
                  have n0_ := Aside0.mk (blk_below (g := gb735) (o := .cells #[.int .i64 a0_0, .int .i64 a0_1] 23 (0, 0)) (by (with_reducible repeat (first | refine blk_drewN ?_ _ | refine blk_drew ?_ | refine blk_alloc ?_ _)); exact BK735.out) hb)
                  have n1_ := Aside0.mk (blk_below (g := gb742) (o := .cells #[.int .i64 0, .int .i64 0] 23 (0, 0)) (by (with_reducible repeat (first | refine blk_drewN ?_ _ | refine blk_drew ?_ | refine blk_alloc ?_ _)); exact BK742.out) hb)
                  have n2_ := Aside0.mk (below_step (by repeat (first | (with_reducible first | exact HB.out | apply below_alloc | apply pw_below_drewN | apply below_drew1 | refine below_set ?_ GE735.out | refine below_set ?_ GE742.out) | exact HB.out)) hb)
                  clear BK735
                  clear BK742
                  clear HB
                  have BK735 := n0_
                  have BK742 := n1_
                  have HB := n2_
                  clear n0_ n1_ n2_
                  (try clear hb)
                  (try clear hb2)
                  (try clear hk)
                  (try clear hi)
                  refine hK.out _ _ ⟨(blk_cell BK735.out 0).trans rfl, (blk_cell BK735.out 1).trans rfl⟩ (fun hHeld => ?_)
                  clear hK K
                  refine norm_ (a' := ?_) ?_ ?_
                  rotate_left
                  · show Act.put _ (some 32) _ = _
                    simp only [Act.put, List.setIfInBounds_toArray, List.set_cons_zero, List.set_cons_succ, i64_w]
                    rfl
                  exact norm_ (by simp only [putAll, Act.put, List.setIfInBounds_toArray, List.set_cons_zero, List.set_cons_succ]) (hCont (gb742) _ ⟨hHeld, (by (with_reducible repeat (first | refine blk_drewN ?_ _ | refine blk_drew ?_ | refine blk_alloc ?_ _)); exact BK735.out), (by (with_reducible repeat (first | refine blk_drewN ?_ _ | refine blk_drew ?_ | refine blk_alloc ?_ _)); exact BK742.out), GW742.out, GE742.out, NB735_742.out, NB742_735.out, (by repeat (first | (with_reducible first | exact HB.out | apply below_alloc | apply pw_below_drewN | apply below_drew1 | refine below_set ?_ GE735.out | refine below_set ?_ GE742.out) | exact HB.out))⟩)
              rintro gb742 w45 ⟨hS_, h0_, h1_, h2_, h3_, h4_, h5_, h6_⟩
              have n0_ : Aside0 (w45.heap[gb735]? = some (.cells #[.int .i64 a0_0, .int .i64 a0_1] 23 (0, 0))) := ⟨h0_⟩
              have n1_ : Aside0 (w45.heap[gb742]? = some (.cells #[.int .i64 0, .int .i64 0] 23 (0, 0))) := ⟨h1_⟩
              have n2_ : Aside0 (w.heap.size ≤ gb742) := ⟨h2_⟩
              have n3_ : Aside0 (w.heap.size ≤ gb742) := ⟨h3_⟩
              have n4_ : Aside0 (gb735 ≠ gb742) := ⟨h4_⟩
              have n5_ : Aside0 (gb742 ≠ gb735) := ⟨h5_⟩
              have n6_ : Aside0 (Below w.heap.size w w45) := ⟨h6_⟩
              clear BK735
              clear HB
              clear h0_ h1_ h2_ h3_ h4_ h5_ h6_
              have BK735 := n0_
              have BK742 := n1_
              have GW742 := n2_
              have GE742 := n3_
              have NB735_742 := n4_
              have NB742_735 := n5_
              have HB := n6_
              clear n0_ n1_ n2_ n3_ n4_ n5_ n6_
              have hHeld : w45.cell? ⟨gb735, 0, none⟩ = some (.int .i64 a0_0) ∧ w45.cell? ⟨gb735, 1, none⟩ = some (.int .i64 a0_1) := hS_
              refine norm_ (a' := ?_) ?_ ?_
              rotate_left
              · simp only [putAll, Act.put, List.setIfInBounds_toArray, List.set_cons_zero, List.set_cons_succ]
                rfl
              refine one_ (i := 5) (N := none) #[true, true, true, true, true, true] rfl rfl (by kernel_rfl) (by decide) (fun K hK => ?_)
              have hs46 : w45.cell? ⟨gb742, 0, none⟩ = some (.int .i64 0) := (blk_cell BK742.out 0).trans rfl
              have hfs46 := blk_frozen BK742.out 0
              have hns46_0 := NB735_742.out
              have hms46_0 := NB742_735.out
              have hs47 : w45.cell? ⟨gb742, 1, none⟩ = some (.int .i64 0) := (blk_cell BK742.out 1).trans rfl
              have hfs47 := blk_frozen BK742.out 1
              have hns47_0 := NB735_742.out
              have hms47_0 := NB742_735.out
              refine skip_ (w1 := ?_) (by rfl) rfl ?_ ?_
              rotate_left
              · go_simp
                rfl
              refine hK.out _ _ ⟨((cell_far (p := ⟨gb742, _, none⟩) NB735_742.out _).trans (((cell_far (p := ⟨gb742, _, none⟩) NB735_742.out _).trans (hHeld.1)))), ((cell_far (p := ⟨gb742, _, none⟩) NB735_742.out _).trans (((cell_far (p := ⟨gb742, _, none⟩) NB735_742.out _).trans (hHeld.2))))⟩ (fun hHeld => ?_)
              clear hK K
              refine done_ (by kernel_rfl) ?_
              try go_wp2
              have n0_ : Aside0 (((w45.setCell ⟨gb742, 0, none⟩ (.int .i64 t740)).setCell ⟨gb742, 1, none⟩ (.int .i64 t741)).heap[gb735]? = some (.cells #[.int .i64 a0_0, .int .i64 a0_1] 23 (0, 0))) := ⟨by (with_reducible repeat (first | refine blk_drewN ?_ _ | refine blk_drew ?_ | refine blk_alloc ?_ _)); refine blk_far ?_ NB735_742.out _; (with_reducible repeat (first | refine blk_drewN ?_ _ | refine blk_drew ?_ | refine blk_alloc ?_ _)); refine blk_far ?_ NB735_742.out _; (with_reducible repeat (first | refine blk_drewN ?_ _ | refine blk_drew ?_ | refine blk_alloc ?_ _)); exact BK735.out⟩
              have n1_ : Aside0 (((w45.setCell ⟨gb742, 0, none⟩ (.int .i64 t740)).setCell ⟨gb742, 1, none⟩ (.int .i64 t741)).heap[gb742]? = some (.cells #[.int .i64 t740, .int .i64 t741] 23 (0, 0))) := ⟨by (with_reducible repeat (first | refine blk_drewN ?_ _ | refine blk_drew ?_ | refine blk_alloc ?_ _)); refine blk_put (cs := #[.int .i64 t740, .int .i64 0]) ?_ 1 _ rfl; (with_reducible repeat (first | refine blk_drewN ?_ _ | refine blk_drew ?_ | refine blk_alloc ?_ _)); refine blk_put (cs := #[.int .i64 0, .int .i64 0]) ?_ 0 _ rfl; (with_reducible repeat (first | refine blk_drewN ?_ _ | refine blk_drew ?_ | refine blk_alloc ?_ _)); exact BK742.out⟩
              have n2_ : Aside0 (Below w.heap.size w ((w45.setCell ⟨gb742, 0, none⟩ (.int .i64 t740)).setCell ⟨gb742, 1, none⟩ (.int .i64 t741))) := ⟨by repeat (first | (with_reducible first | exact HB.out | apply below_alloc | apply pw_below_drewN | apply below_drew1 | refine below_set ?_ GE735.out | refine below_set ?_ GE742.out) | exact HB.out)⟩
              (try clear BK735)
              (try clear BK742)
              (try clear HB)
              generalize ((w45.setCell ⟨gb742, 0, none⟩ (.int .i64 t740)).setCell ⟨gb742, 1, none⟩ (.int .i64 t741)) = w48 at n0_ n1_ n2_ ⊢
              have BK735 := n0_
              have BK742 := n1_
              have HB := n2_
              clear n0_ n1_ n2_
              have n0_ := Aside0.mk (blk_drew BK735.out)
              have n1_ := Aside0.mk (blk_drew BK742.out)
              have n2_ := Aside0.mk (below_drew1 HB.out)
              clear BK735
              clear BK742
              clear HB
              have BK735 := n0_
              have BK742 := n1_
              have HB := n2_
              clear n0_ n1_ n2_
              refine start_ (n := 32) (S := fun w' => w'.cell? ⟨gb742, 0, none⟩ = some (.int .i64 t740) ∧ w'.cell? ⟨gb742, 1, none⟩ = some (.int .i64 t741) ∧ w'.cell? ⟨gb735, 0, none⟩ = some (.int .i64 a0_0) ∧ w'.cell? ⟨gb735, 1, none⟩ = some (.int .i64 a0_1)) (ds := []) #[false, false, false, false, false, false, false, false, false, false, false, false, false, false, false, false, false, false, false, false, false, false, false, false, false, false, false, false, false, false, false, false] (by kernel_rfl) rfl rfl ⟨(blk_cell BK742.out 0).trans rfl, (blk_cell BK742.out 1).trans rfl, (blk_cell BK735.out 0).trans rfl, (blk_cell BK735.out 1).trans rfl⟩ (fun hHeld => ?_); refine with_tabW breviarylaw03_DecShifts.tab5 breviarylaw03_DecShifts.bits5 (fun HT_ HW_ => ?_)
              generalize w48.drew = w49 at BK735 BK742 HB hHeld ⊢
              refine pure_ (i := 4) (N := some 37) (v := ?_) (a' := ?_) #[false, false, false, false, true, false, false, false, false, false, false, false, false, false, false, false, false, false, false, false, false, false, false, false, false, false, false, false, false, false, false, false] rfl rfl (any_of HT_.out (by kernel_rfl)) (fun _ _ _ h => h) (Or.inl ⟨by rfl, ?_⟩) ?_ ?_
              rotate_left
              · intro w'
                go_simp
                with_reducible rfl
              rotate_left
              · simp only [Act.put, List.setIfInBounds_toArray, List.set_cons_zero, List.set_cons_succ, i64_w]
                rfl
              refine take_ (i := 0) (N := some 33) (v := ?_) (a' := ?_) #[true, false, false, false, true, false, false, false, false, false, false, false, false, false, false, false, false, false, false, false, false, false, false, false, false, false, false, false, false, false, false, false] rfl rfl (take_ofW HT_.out HW_.out (by kernel_rfl)) (fun _ _ _ h => h) (Or.inl ⟨by rfl, ?_⟩) hHeld ?_ ?_
              rotate_left
              · rintro w' ⟨s0, s1, s2, s3⟩
                go_simp
                with_reducible rfl
              rotate_left
              · simp only [Act.put, List.setIfInBounds_toArray, List.set_cons_zero, List.set_cons_succ, i64_w]
                rfl
              refine take_ (i := 2) (N := some 35) (v := ?_) (a' := ?_) #[true, false, true, false, true, false, false, false, false, false, false, false, false, false, false, false, false, false, false, false, false, false, false, false, false, false, false, false, false, false, false, false] rfl rfl (take_ofW HT_.out HW_.out (by kernel_rfl)) (fun _ _ _ h => h) (Or.inl ⟨by rfl, ?_⟩) hHeld ?_ ?_
              rotate_left
              · rintro w' ⟨s0, s1, s2, s3⟩
                go_simp
                with_reducible rfl
              rotate_left
              · simp only [Act.put, List.setIfInBounds_toArray, List.set_cons_zero, List.set_cons_succ, i64_w]
                rfl
              refine one_ (i := 1) (N := some 34) #[true, true, true, false, true, false, false, false, false, false, false, false, false, false, false, false, false, false, false, false, false, false, false, false, false, false, false, false, false, false, false, false] rfl rfl (one_of HT_.out (by kernel_rfl)) (by decide) (fun K hK => ?_)
              refine goes_ Try.func33 (by kernel_rfl) rfl #[.agg #[.int .i64 t740, .int .i64 t741]] (by rfl) rfl rfl (by (try simp only [List.map_toArray, List.map_cons, List.map_nil]); first | done | rfl | (simp only [List.length_drop, List.length_take]; rfl)) ?_
              with_reducible refine (dec_Floor.calls kj2 t740 t741 t743 t744 _ A25.out).mono ?_
              rintro e w50 ⟨rfl, hb⟩
              refine ⟨_, rfl, ?_⟩
              have n0_ := Aside0.mk (blk_below (g := gb735) (o := .cells #[.int .i64 a0_0, .int .i64 a0_1] 23 (0, 0)) (by (with_reducible repeat (first | refine blk_drewN ?_ _ | refine blk_drew ?_ | refine blk_alloc ?_ _)); exact BK735.out) hb)
              have n1_ := Aside0.mk (blk_below (g := gb742) (o := .cells #[.int .i64 t740, .int .i64 t741] 23 (0, 0)) (by (with_reducible repeat (first | refine blk_drewN ?_ _ | refine blk_drew ?_ | refine blk_alloc ?_ _)); exact BK742.out) hb)
              have n2_ := Aside0.mk (below_step (by repeat (first | (with_reducible first | exact HB.out | apply below_alloc | apply pw_below_drewN | apply below_drew1 | refine below_set ?_ GE735.out | refine below_set ?_ GE742.out) | exact HB.out)) hb)
              clear BK735
              clear BK742
              clear HB
              have BK735 := n0_
              have BK742 := n1_
              have HB := n2_
              clear n0_ n1_ n2_
              (try clear hb)
              (try clear hb2)
              (try clear hk)
              (try clear hi)
              refine hK.out _ _ ⟨(blk_cell BK742.out 0).trans rfl, (blk_cell BK742.out 1).trans rfl, (blk_cell BK735.out 0).trans rfl, (blk_cell BK735.out 1).trans rfl⟩ (fun hHeld => ?_)
              clear hK K
              refine norm_ (a' := ?_) ?_ ?_
              rotate_left
              · show Act.put _ (some 34) _ = _
                simp only [Act.put, List.setIfInBounds_toArray, List.set_cons_zero, List.set_cons_succ, i64_w]
                rfl
              refine one_ (i := 3) (N := some 36) #[true, true, true, true, true, false, false, false, false, false, false, false, false, false, false, false, false, false, false, false, false, false, false, false, false, false, false, false, false, false, false, false] rfl rfl (one_of HT_.out (by kernel_rfl)) (by decide) (fun K hK => ?_)
              refine goes_ Try.func33 (by kernel_rfl) rfl #[.agg #[.int .i64 a0_0, .int .i64 a0_1]] (by rfl) rfl rfl (by (try simp only [List.map_toArray, List.map_cons, List.map_nil]); first | done | rfl | (simp only [List.length_drop, List.length_take]; rfl)) ?_
              with_reducible refine (dec_Floor.calls kj2 a0_0 a0_1 t745 t746 _ A26.out).mono ?_
              rintro e w51 ⟨rfl, hb⟩
              refine ⟨_, rfl, ?_⟩
              have n0_ := Aside0.mk (blk_below (g := gb735) (o := .cells #[.int .i64 a0_0, .int .i64 a0_1] 23 (0, 0)) (by (with_reducible repeat (first | refine blk_drewN ?_ _ | refine blk_drew ?_ | refine blk_alloc ?_ _)); exact BK735.out) hb)
              have n1_ := Aside0.mk (blk_below (g := gb742) (o := .cells #[.int .i64 t740, .int .i64 t741] 23 (0, 0)) (by (with_reducible repeat (first | refine blk_drewN ?_ _ | refine blk_drew ?_ | refine blk_alloc ?_ _)); exact BK742.out) hb)
              have n2_ := Aside0.mk (below_step (by repeat (first | (with_reducible first | exact HB.out | apply below_alloc | apply pw_below_drewN | apply below_drew1 | refine below_set ?_ GE735.out | refine below_set ?_ GE742.out) | exact HB.out)) hb)
              clear BK735
              clear BK742
              clear HB
              have BK735 := n0_
              have BK742 := n1_
              have HB := n2_
              clear n0_ n1_ n2_
              (try clear hb)
              (try clear hb2)
              (try clear hk)
              (try clear hi)
              refine hK.out _ _ ⟨(blk_cell BK742.out 0).trans rfl, (blk_cell BK742.out 1).trans rfl, (blk_cell BK735.out 0).trans rfl, (blk_cell BK735.out 1).trans rfl⟩ (fun hHeld => ?_)
              clear hK K
              refine norm_ (a' := ?_) ?_ ?_
              rotate_left
              · show Act.put _ (some 36) _ = _
                simp only [Act.put, List.setIfInBounds_toArray, List.set_cons_zero, List.set_cons_succ, i64_w]
                rfl
              refine one_ (i := 5) (N := some 38) #[true, true, true, true, true, true, false, false, false, false, false, false, false, false, false, false, false, false, false, false, false, false, false, false, false, false, false, false, false, false, false, false] rfl rfl (one_of HT_.out (by kernel_rfl)) (by decide) (fun K hK => ?_)
              refine goes_ Try.func21 (by kernel_rfl) rfl #[.int .i64 (wrap64 (Int.tmod a1 1000000))] (by rfl) rfl rfl (by (try simp only [List.map_toArray, List.map_cons, List.map_nil]); first | done | rfl | (simp only [List.length_drop, List.length_take]; rfl)) ?_
              with_reducible refine (dec_Int.calls kj2 (wrap64 (Int.tmod a1 1000000)) t747 t748 _ A27.out).mono ?_
              rintro e w52 ⟨rfl, hb⟩
              refine ⟨_, rfl, ?_⟩
              have n0_ := Aside0.mk (blk_below (g := gb735) (o := .cells #[.int .i64 a0_0, .int .i64 a0_1] 23 (0, 0)) (by (with_reducible repeat (first | refine blk_drewN ?_ _ | refine blk_drew ?_ | refine blk_alloc ?_ _)); exact BK735.out) hb)
              have n1_ := Aside0.mk (blk_below (g := gb742) (o := .cells #[.int .i64 t740, .int .i64 t741] 23 (0, 0)) (by (with_reducible repeat (first | refine blk_drewN ?_ _ | refine blk_drew ?_ | refine blk_alloc ?_ _)); exact BK742.out) hb)
              have n2_ := Aside0.mk (below_step (by repeat (first | (with_reducible first | exact HB.out | apply below_alloc | apply pw_below_drewN | apply below_drew1 | refine below_set ?_ GE735.out | refine below_set ?_ GE742.out) | exact HB.out)) hb)
              clear BK735
              clear BK742
              clear HB
              have BK735 := n0_
              have BK742 := n1_
              have HB := n2_
              clear n0_ n1_ n2_
              (try clear hb)
              (try clear hb2)
              (try clear hk)
              (try clear hi)
              refine hK.out _ _ ⟨(blk_cell BK742.out 0).trans rfl, (blk_cell BK742.out 1).trans rfl, (blk_cell BK735.out 0).trans rfl, (blk_cell BK735.out 1).trans rfl⟩ (fun hHeld => ?_)
              clear hK K
              refine norm_ (a' := ?_) ?_ ?_
              rotate_left
              · show Act.put _ (some 38) _ = _
                simp only [Act.put, List.setIfInBounds_toArray, List.set_cons_zero, List.set_cons_succ, i64_w]
                rfl
              refine one_ (i := 6) (N := some 39) #[true, true, true, true, true, true, true, false, false, false, false, false, false, false, false, false, false, false, false, false, false, false, false, false, false, false, false, false, false, false, false, false] rfl rfl (one_of HT_.out (by kernel_rfl)) (by decide) (fun K hK => ?_)
              refine goes_ Try.func26 (by kernel_rfl) rfl #[.agg #[.int .i64 t745, .int .i64 t746], .agg #[.int .i64 t747, .int .i64 t748]] (by rfl) rfl rfl (by (try simp only [List.map_toArray, List.map_cons, List.map_nil]); first | done | rfl | (simp only [List.length_drop, List.length_take]; rfl)) ?_
              with_reducible refine (dec_Add.calls kj2 t745 t746 t747 t748 t749 t750 _ A28.out).mono ?_
              rintro e w53 ⟨rfl, hb⟩
              refine ⟨_, rfl, ?_⟩
              have n0_ := Aside0.mk (blk_below (g := gb735) (o := .cells #[.int .i64 a0_0, .int .i64 a0_1] 23 (0, 0)) (by (with_reducible repeat (first | refine blk_drewN ?_ _ | refine blk_drew ?_ | refine blk_alloc ?_ _)); exact BK735.out) hb)
              have n1_ := Aside0.mk (blk_below (g := gb742) (o := .cells #[.int .i64 t740, .int .i64 t741] 23 (0, 0)) (by (with_reducible repeat (first | refine blk_drewN ?_ _ | refine blk_drew ?_ | refine blk_alloc ?_ _)); exact BK742.out) hb)
              have n2_ := Aside0.mk (below_step (by repeat (first | (with_reducible first | exact HB.out | apply below_alloc | apply pw_below_drewN | apply below_drew1 | refine below_set ?_ GE735.out | refine below_set ?_ GE742.out) | exact HB.out)) hb)
              clear BK735
              clear BK742
              clear HB
              have BK735 := n0_
              have BK742 := n1_
              have HB := n2_
              clear n0_ n1_ n2_
              (try clear hb)
              (try clear hb2)
              (try clear hk)
              (try clear hi)
              refine hK.out _ _ ⟨(blk_cell BK742.out 0).trans rfl, (blk_cell BK742.out 1).trans rfl, (blk_cell BK735.out 0).trans rfl, (blk_cell BK735.out 1).trans rfl⟩ (fun hHeld => ?_)
              clear hK K
              refine norm_ (a' := ?_) ?_ ?_
              rotate_left
              · show Act.put _ (some 39) _ = _
                simp only [Act.put, List.setIfInBounds_toArray, List.set_cons_zero, List.set_cons_succ, i64_w]
                rfl
              refine pure_ (i := 7) (N := some 40) (v := ?_) (a' := ?_) #[true, true, true, true, true, true, true, true, false, false, false, false, false, false, false, false, false, false, false, false, false, false, false, false, false, false, false, false, false, false, false, false] rfl rfl (any_of HT_.out (by kernel_rfl)) (fun _ _ _ h => h) (Or.inl ⟨by rfl, ?_⟩) ?_ ?_
              rotate_left
              · intro w'
                go_simp
                with_reducible rfl
              rotate_left
              · simp only [Act.put, List.setIfInBounds_toArray, List.set_cons_zero, List.set_cons_succ, i64_w]
                rfl
              refine pure_ (i := 8) (N := some 41) (v := ?_) (a' := ?_) #[true, true, true, true, true, true, true, true, true, false, false, false, false, false, false, false, false, false, false, false, false, false, false, false, false, false, false, false, false, false, false, false] rfl rfl (any_of HT_.out (by kernel_rfl)) (fun _ _ _ h => h) (Or.inl ⟨by rfl, ?_⟩) ?_ ?_
              rotate_left
              · intro w'
                go_simp
                with_reducible rfl
              rotate_left
              · simp only [Act.put, List.setIfInBounds_toArray, List.set_cons_zero, List.set_cons_succ, i64_w]
                rfl
              refine pure_ (i := 13) (N := some 46) (v := ?_) (a' := ?_) #[true, true, true, true, true, true, true, true, true, false, false, false, false, true, false, false, false, false, false, false, false, false, false, false, false, false, false, false, false, false, false, false] rfl rfl (any_of HT_.out (by kernel_rfl)) (fun _ _ _ h => h) (Or.inl ⟨by rfl, ?_⟩) ?_ ?_
              rotate_left
              · intro w'
                go_simp
                with_reducible rfl
              rotate_left
              · simp only [Act.put, List.setIfInBounds_toArray, List.set_cons_zero, List.set_cons_succ, i64_w]
                rfl
              refine take_ (i := 9) (N := some 42) (v := ?_) (a' := ?_) #[true, true, true, true, true, true, true, true, true, true, false, false, false, true, false, false, false, false, false, false, false, false, false, false, false, false, false, false, false, false, false, false] rfl rfl (take_ofW HT_.out HW_.out (by kernel_rfl)) (fun _ _ _ h => h) (Or.inl ⟨by rfl, ?_⟩) hHeld ?_ ?_
              rotate_left
              · rintro w' ⟨s0, s1, s2, s3⟩
                go_simp
                with_reducible rfl
              rotate_left
              · simp only [Act.put, List.setIfInBounds_toArray, List.set_cons_zero, List.set_cons_succ, i64_w]
                rfl
              refine take_ (i := 11) (N := some 44) (v := ?_) (a' := ?_) #[true, true, true, true, true, true, true, true, true, true, false, true, false, true, false, false, false, false, false, false, false, false, false, false, false, false, false, false, false, false, false, false] rfl rfl (take_ofW HT_.out HW_.out (by kernel_rfl)) (fun _ _ _ h => h) (Or.inl ⟨by rfl, ?_⟩) hHeld ?_ ?_
              rotate_left
              · rintro w' ⟨s0, s1, s2, s3⟩
                go_simp
                with_reducible rfl
              rotate_left
              · simp only [Act.put, List.setIfInBounds_toArray, List.set_cons_zero, List.set_cons_succ, i64_w]
                rfl
              refine one_ (i := 10) (N := some 43) #[true, true, true, true, true, true, true, true, true, true, true, true, false, true, false, false, false, false, false, false, false, false, false, false, false, false, false, false, false, false, false, false] rfl rfl (one_of HT_.out (by kernel_rfl)) (by decide) (fun K hK => ?_)
              refine goes_ Try.func34 (by kernel_rfl) rfl #[.agg #[.int .i64 t740, .int .i64 t741]] (by rfl) rfl rfl (by (try simp only [List.map_toArray, List.map_cons, List.map_nil]); first | done | rfl | (simp only [List.length_drop, List.length_take]; rfl)) ?_
              with_reducible refine (dec_Ceil.calls kj2 t740 t741 t751 t752 _ A30.out).mono ?_
              rintro e w54 ⟨rfl, hb⟩
              refine ⟨_, rfl, ?_⟩
              have n0_ := Aside0.mk (blk_below (g := gb735) (o := .cells #[.int .i64 a0_0, .int .i64 a0_1] 23 (0, 0)) (by (with_reducible repeat (first | refine blk_drewN ?_ _ | refine blk_drew ?_ | refine blk_alloc ?_ _)); exact BK735.out) hb)
              have n1_ := Aside0.mk (blk_below (g := gb742) (o := .cells #[.int .i64 t740, .int .i64 t741] 23 (0, 0)) (by (with_reducible repeat (first | refine blk_drewN ?_ _ | refine blk_drew ?_ | refine blk_alloc ?_ _)); exact BK742.out) hb)
              have n2_ := Aside0.mk (below_step (by repeat (first | (with_reducible first | exact HB.out | apply below_alloc | apply pw_below_drewN | apply below_drew1 | refine below_set ?_ GE735.out | refine below_set ?_ GE742.out) | exact HB.out)) hb)
              clear BK735
              clear BK742
              clear HB
              have BK735 := n0_
              have BK742 := n1_
              have HB := n2_
              clear n0_ n1_ n2_
              (try clear hb)
              (try clear hb2)
              (try clear hk)
              (try clear hi)
              refine hK.out _ _ ⟨(blk_cell BK742.out 0).trans rfl, (blk_cell BK742.out 1).trans rfl, (blk_cell BK735.out 0).trans rfl, (blk_cell BK735.out 1).trans rfl⟩ (fun hHeld => ?_)
              clear hK K
              refine norm_ (a' := ?_) ?_ ?_
              rotate_left
              · show Act.put _ (some 43) _ = _
                simp only [Act.put, List.setIfInBounds_toArray, List.set_cons_zero, List.set_cons_succ, i64_w]
                rfl
              refine one_ (i := 12) (N := some 45) #[true, true, true, true, true, true, true, true, true, true, true, true, true, true, false, false, false, false, false, false, false, false, false, false, false, false, false, false, false, false, false, false] rfl rfl (one_of HT_.out (by kernel_rfl)) (by decide) (fun K hK => ?_)
              refine goes_ Try.func34 (by kernel_rfl) rfl #[.agg #[.int .i64 a0_0, .int .i64 a0_1]] (by rfl) rfl rfl (by (try simp only [List.map_toArray, List.map_cons, List.map_nil]); first | done | rfl | (simp only [List.length_drop, List.length_take]; rfl)) ?_
              with_reducible refine (dec_Ceil.calls kj2 a0_0 a0_1 t753 t754 _ A31.out).mono ?_
              rintro e w55 ⟨rfl, hb⟩
              refine ⟨_, rfl, ?_⟩
              have n0_ := Aside0.mk (blk_below (g := gb735) (o := .cells #[.int .i64 a0_0, .int .i64 a0_1] 23 (0, 0)) (by (with_reducible repeat (first | refine blk_drewN ?_ _ | refine blk_drew ?_ | refine blk_alloc ?_ _)); exact BK735.out) hb)
              have n1_ := Aside0.mk (blk_below (g := gb742) (o := .cells #[.int .i64 t740, .int .i64 t741] 23 (0, 0)) (by (with_reducible repeat (first | refine blk_drewN ?_ _ | refine blk_drew ?_ | refine blk_alloc ?_ _)); exact BK742.out) hb)
              have n2_ := Aside0.mk (below_step (by repeat (first | (with_reducible first | exact HB.out | apply below_alloc | apply pw_below_drewN | apply below_drew1 | refine below_set ?_ GE735.out | refine below_set ?_ GE742.out) | exact HB.out)) hb)
              clear BK735
              clear BK742
              clear HB
              have BK735 := n0_
              have BK742 := n1_
              have HB := n2_
              clear n0_ n1_ n2_
              (try clear hb)
              (try clear hb2)
              (try clear hk)
              (try clear hi)
              refine hK.out _ _ ⟨(blk_cell BK742.out 0).trans rfl, (blk_cell BK742.out 1).trans rfl, (blk_cell BK735.out 0).trans rfl, (blk_cell BK735.out 1).trans rfl⟩ (fun hHeld => ?_)
              clear hK K
              refine norm_ (a' := ?_) ?_ ?_
              rotate_left
              · show Act.put _ (some 45) _ = _
                simp only [Act.put, List.setIfInBounds_toArray, List.set_cons_zero, List.set_cons_succ, i64_w]
                rfl
              refine one_ (i := 14) (N := some 47) #[true, true, true, true, true, true, true, true, true, true, true, true, true, true, true, false, false, false, false, false, false, false, false, false, false, false, false, false, false, false, false, false] rfl rfl (one_of HT_.out (by kernel_rfl)) (by decide) (fun K hK => ?_)
              refine goes_ Try.func21 (by kernel_rfl) rfl #[.int .i64 (wrap64 (Int.tmod a1 1000000))] (by rfl) rfl rfl (by (try simp only [List.map_toArray, List.map_cons, List.map_nil]); first | done | rfl | (simp only [List.length_drop, List.length_take]; rfl)) ?_
              with_reducible refine (dec_Int.calls kj2 (wrap64 (Int.tmod a1 1000000)) t755 t756 _ A32.out).mono ?_
              rintro e w56 ⟨rfl, hb⟩
              refine ⟨_, rfl, ?_⟩
              have n0_ := Aside0.mk (blk_below (g := gb735) (o := .cells #[.int .i64 a0_0, .int .i64 a0_1] 23 (0, 0)) (by (with_reducible repeat (first | refine blk_drewN ?_ _ | refine blk_drew ?_ | refine blk_alloc ?_ _)); exact BK735.out) hb)
              have n1_ := Aside0.mk (blk_below (g := gb742) (o := .cells #[.int .i64 t740, .int .i64 t741] 23 (0, 0)) (by (with_reducible repeat (first | refine blk_drewN ?_ _ | refine blk_drew ?_ | refine blk_alloc ?_ _)); exact BK742.out) hb)
              have n2_ := Aside0.mk (below_step (by repeat (first | (with_reducible first | exact HB.out | apply below_alloc | apply pw_below_drewN | apply below_drew1 | refine below_set ?_ GE735.out | refine below_set ?_ GE742.out) | exact HB.out)) hb)
              clear BK735
              clear BK742
              clear HB
              have BK735 := n0_
              have BK742 := n1_
              have HB := n2_
              clear n0_ n1_ n2_
              (try clear hb)
              (try clear hb2)
              (try clear hk)
              (try clear hi)
              refine hK.out _ _ ⟨(blk_cell BK742.out 0).trans rfl, (blk_cell BK742.out 1).trans rfl, (blk_cell BK735.out 0).trans rfl, (blk_cell BK735.out 1).trans rfl⟩ (fun hHeld => ?_)
              clear hK K
              refine norm_ (a' := ?_) ?_ ?_
              rotate_left
              · show Act.put _ (some 47) _ = _
                simp only [Act.put, List.setIfInBounds_toArray, List.set_cons_zero, List.set_cons_succ, i64_w]
                rfl
              refine one_ (i := 15) (N := some 48) #[true, true, true, true, true, true, true, true, true, true, true, true, true, true, true, true, false, false, false, false, false, false, false, false, false, false, false, false, false, false, false, false] rfl rfl (one_of HT_.out (by kernel_rfl)) (by decide) (fun K hK => ?_)
              refine goes_ Try.func26 (by kernel_rfl) rfl #[.agg #[.int .i64 t753, .int .i64 t754], .agg #[.int .i64 t755, .int .i64 t756]] (by rfl) rfl rfl (by (try simp only [List.map_toArray, List.map_cons, List.map_nil]); first | done | rfl | (simp only [List.length_drop, List.length_take]; rfl)) ?_
              with_reducible refine (dec_Add.calls kj2 t753 t754 t755 t756 t757 t758 _ A33.out).mono ?_
              rintro e w57 ⟨rfl, hb⟩
              refine ⟨_, rfl, ?_⟩
              have n0_ := Aside0.mk (blk_below (g := gb735) (o := .cells #[.int .i64 a0_0, .int .i64 a0_1] 23 (0, 0)) (by (with_reducible repeat (first | refine blk_drewN ?_ _ | refine blk_drew ?_ | refine blk_alloc ?_ _)); exact BK735.out) hb)
              have n1_ := Aside0.mk (blk_below (g := gb742) (o := .cells #[.int .i64 t740, .int .i64 t741] 23 (0, 0)) (by (with_reducible repeat (first | refine blk_drewN ?_ _ | refine blk_drew ?_ | refine blk_alloc ?_ _)); exact BK742.out) hb)
              have n2_ := Aside0.mk (below_step (by repeat (first | (with_reducible first | exact HB.out | apply below_alloc | apply pw_below_drewN | apply below_drew1 | refine below_set ?_ GE735.out | refine below_set ?_ GE742.out) | exact HB.out)) hb)
              clear BK735
              clear BK742
              clear HB
              have BK735 := n0_
              have BK742 := n1_
              have HB := n2_
              clear n0_ n1_ n2_
              (try clear hb)
              (try clear hb2)
              (try clear hk)
              (try clear hi)
              refine hK.out _ _ ⟨(blk_cell BK742.out 0).trans rfl, (blk_cell BK742.out 1).trans rfl, (blk_cell BK735.out 0).trans rfl, (blk_cell BK735.out 1).trans rfl⟩ (fun hHeld => ?_)
              clear hK K
              refine norm_ (a' := ?_) ?_ ?_
              rotate_left
              · show Act.put _ (some 48) _ = _
                simp only [Act.put, List.setIfInBounds_toArray, List.set_cons_zero, List.set_cons_succ, i64_w]
                rfl
              refine pure_ (i := 16) (N := some 49) (v := ?_) (a' := ?_) #[true, true, true, true, true, true, true, true, true, true, true, true, true, true, true, true, true, false, false, false, false, false, false, false, false, false, false, false, false, false, false, false] rfl rfl (any_of HT_.out (by kernel_rfl)) (fun _ _ _ h => h) (Or.inl ⟨by rfl, ?_⟩) ?_ ?_
              rotate_left
              · intro w'
                go_simp
                with_reducible rfl
              rotate_left
              · simp only [Act.put, List.setIfInBounds_toArray, List.set_cons_zero, List.set_cons_succ, i64_w]
                rfl
              refine pure_ (i := 17) (N := some 50) (v := ?_) (a' := ?_) #[true, true, true, true, true, true, true, true, true, true, true, true, true, true, true, true, true, true, false, false, false, false, false, false, false, false, false, false, false, false, false, false] rfl rfl (any_of HT_.out (by kernel_rfl)) (fun _ _ _ h => h) (Or.inl ⟨by rfl, ?_⟩) ?_ ?_
              rotate_left
              · intro w'
                go_simp
                with_reducible rfl
              rotate_left
              · simp only [Act.put, List.setIfInBounds_toArray, List.set_cons_zero, List.set_cons_succ, i64_w]
                rfl
              refine pure_ (i := 18) (N := some 51) (v := ?_) (a' := ?_) #[true, true, true, true, true, true, true, true, true, true, true, true, true, true, true, true, true, true, true, false, false, false, false, false, false, false, false, false, false, false, false, false] rfl rfl (any_of HT_.out (by kernel_rfl)) (fun _ _ _ h => h) (Or.inl ⟨by rfl, ?_⟩) ?_ ?_
              rotate_left
              · intro w'
                go_simp
                with_reducible rfl
              rotate_left
              · simp only [Act.put, List.setIfInBounds_toArray, List.set_cons_zero, List.set_cons_succ, i64_w]
                rfl
              refine pure_ (i := 23) (N := some 56) (v := ?_) (a' := ?_) #[true, true, true, true, true, true, true, true, true, true, true, true, true, true, true, true, true, true, true, false, false, false, false, true, false, false, false, false, false, false, false, false] rfl rfl (any_of HT_.out (by kernel_rfl)) (fun _ _ _ h => h) (Or.inl ⟨by rfl, ?_⟩) ?_ ?_
              rotate_left
              · intro w'
                go_simp
                with_reducible rfl
              rotate_left
              · simp only [Act.put, List.setIfInBounds_toArray, List.set_cons_zero, List.set_cons_succ, i64_w]
                rfl
              refine take_ (i := 19) (N := some 52) (v := ?_) (a' := ?_) #[true, true, true, true, true, true, true, true, true, true, true, true, true, true, true, true, true, true, true, true, false, false, false, true, false, false, false, false, false, false, false, false] rfl rfl (take_ofW HT_.out HW_.out (by kernel_rfl)) (fun _ _ _ h => h) (Or.inl ⟨by rfl, ?_⟩) hHeld ?_ ?_
              rotate_left
              · rintro w' ⟨s0, s1, s2, s3⟩
                go_simp
                with_reducible rfl
              rotate_left
              · simp only [Act.put, List.setIfInBounds_toArray, List.set_cons_zero, List.set_cons_succ, i64_w]
                rfl
              refine take_ (i := 21) (N := some 54) (v := ?_) (a' := ?_) #[true, true, true, true, true, true, true, true, true, true, true, true, true, true, true, true, true, true, true, true, false, true, false, true, false, false, false, false, false, false, false, false] rfl rfl (take_ofW HT_.out HW_.out (by kernel_rfl)) (fun _ _ _ h => h) (Or.inl ⟨by rfl, ?_⟩) hHeld ?_ ?_
              rotate_left
              · rintro w' ⟨s0, s1, s2, s3⟩
                go_simp
                with_reducible rfl
              rotate_left
              · simp only [Act.put, List.setIfInBounds_toArray, List.set_cons_zero, List.set_cons_succ, i64_w]
                rfl
              refine one_ (i := 20) (N := some 53) #[true, true, true, true, true, true, true, true, true, true, true, true, true, true, true, true, true, true, true, true, true, true, false, true, false, false, false, false, false, false, false, false] rfl rfl (one_of HT_.out (by kernel_rfl)) (by decide) (fun K hK => ?_)
              refine goes_ Try.func35 (by kernel_rfl) rfl #[.agg #[.int .i64 t740, .int .i64 t741]] (by rfl) rfl rfl (by (try simp only [List.map_toArray, List.map_cons, List.map_nil]); first | done | rfl | (simp only [List.length_drop, List.length_take]; rfl)) ?_
              with_reducible refine (dec_Round.calls kj2 t740 t741 t759 t760 _ A35.out).mono ?_
              rintro e w58 ⟨rfl, hb⟩
              refine ⟨_, rfl, ?_⟩
              have n0_ := Aside0.mk (blk_below (g := gb735) (o := .cells #[.int .i64 a0_0, .int .i64 a0_1] 23 (0, 0)) (by (with_reducible repeat (first | refine blk_drewN ?_ _ | refine blk_drew ?_ | refine blk_alloc ?_ _)); exact BK735.out) hb)
              have n1_ := Aside0.mk (blk_below (g := gb742) (o := .cells #[.int .i64 t740, .int .i64 t741] 23 (0, 0)) (by (with_reducible repeat (first | refine blk_drewN ?_ _ | refine blk_drew ?_ | refine blk_alloc ?_ _)); exact BK742.out) hb)
              have n2_ := Aside0.mk (below_step (by repeat (first | (with_reducible first | exact HB.out | apply below_alloc | apply pw_below_drewN | apply below_drew1 | refine below_set ?_ GE735.out | refine below_set ?_ GE742.out) | exact HB.out)) hb)
              clear BK735
              clear BK742
              clear HB
              have BK735 := n0_
              have BK742 := n1_
              have HB := n2_
              clear n0_ n1_ n2_
              (try clear hb)
              (try clear hb2)
              (try clear hk)
              (try clear hi)
              refine hK.out _ _ ⟨(blk_cell BK742.out 0).trans rfl, (blk_cell BK742.out 1).trans rfl, (blk_cell BK735.out 0).trans rfl, (blk_cell BK735.out 1).trans rfl⟩ (fun hHeld => ?_)
              clear hK K
              refine norm_ (a' := ?_) ?_ ?_
              rotate_left
              · show Act.put _ (some 53) _ = _
                simp only [Act.put, List.setIfInBounds_toArray, List.set_cons_zero, List.set_cons_succ, i64_w]
                rfl
              refine one_ (i := 22) (N := some 55) #[true, true, true, true, true, true, true, true, true, true, true, true, true, true, true, true, true, true, true, true, true, true, true, true, false, false, false, false, false, false, false, false] rfl rfl (one_of HT_.out (by kernel_rfl)) (by decide) (fun K hK => ?_)
              refine goes_ Try.func35 (by kernel_rfl) rfl #[.agg #[.int .i64 a0_0, .int .i64 a0_1]] (by rfl) rfl rfl (by (try simp only [List.map_toArray, List.map_cons, List.map_nil]); first | done | rfl | (simp only [List.length_drop, List.length_take]; rfl)) ?_
              with_reducible refine (dec_Round.calls kj2 a0_0 a0_1 t761 t762 _ A36.out).mono ?_
              rintro e w59 ⟨rfl, hb⟩
              refine ⟨_, rfl, ?_⟩
              have n0_ := Aside0.mk (blk_below (g := gb735) (o := .cells #[.int .i64 a0_0, .int .i64 a0_1] 23 (0, 0)) (by (with_reducible repeat (first | refine blk_drewN ?_ _ | refine blk_drew ?_ | refine blk_alloc ?_ _)); exact BK735.out) hb)
              have n1_ := Aside0.mk (blk_below (g := gb742) (o := .cells #[.int .i64 t740, .int .i64 t741] 23 (0, 0)) (by (with_reducible repeat (first | refine blk_drewN ?_ _ | refine blk_drew ?_ | refine blk_alloc ?_ _)); exact BK742.out) hb)
              have n2_ := Aside0.mk (below_step (by repeat (first | (with_reducible first | exact HB.out | apply below_alloc | apply pw_below_drewN | apply below_drew1 | refine below_set ?_ GE735.out | refine below_set ?_ GE742.out) | exact HB.out)) hb)
              clear BK735
              clear BK742
              clear HB
              have BK735 := n0_
              have BK742 := n1_
              have HB := n2_
              clear n0_ n1_ n2_
              (try clear hb)
              (try clear hb2)
              (try clear hk)
              (try clear hi)
              refine hK.out _ _ ⟨(blk_cell BK742.out 0).trans rfl, (blk_cell BK742.out 1).trans rfl, (blk_cell BK735.out 0).trans rfl, (blk_cell BK735.out 1).trans rfl⟩ (fun hHeld => ?_)
              clear hK K
              refine norm_ (a' := ?_) ?_ ?_
              rotate_left
              · show Act.put _ (some 55) _ = _
                simp only [Act.put, List.setIfInBounds_toArray, List.set_cons_zero, List.set_cons_succ, i64_w]
                rfl
              refine one_ (i := 24) (N := some 57) #[true, true, true, true, true, true, true, true, true, true, true, true, true, true, true, true, true, true, true, true, true, true, true, true, true, false, false, false, false, false, false, false] rfl rfl (one_of HT_.out (by kernel_rfl)) (by decide) (fun K hK => ?_)
              refine goes_ Try.func21 (by kernel_rfl) rfl #[.int .i64 (wrap64 (Int.tmod a1 1000000))] (by rfl) rfl rfl (by (try simp only [List.map_toArray, List.map_cons, List.map_nil]); first | done | rfl | (simp only [List.length_drop, List.length_take]; rfl)) ?_
              with_reducible refine (dec_Int.calls kj2 (wrap64 (Int.tmod a1 1000000)) t763 t764 _ A37.out).mono ?_
              rintro e w60 ⟨rfl, hb⟩
              refine ⟨_, rfl, ?_⟩
              have n0_ := Aside0.mk (blk_below (g := gb735) (o := .cells #[.int .i64 a0_0, .int .i64 a0_1] 23 (0, 0)) (by (with_reducible repeat (first | refine blk_drewN ?_ _ | refine blk_drew ?_ | refine blk_alloc ?_ _)); exact BK735.out) hb)
              have n1_ := Aside0.mk (blk_below (g := gb742) (o := .cells #[.int .i64 t740, .int .i64 t741] 23 (0, 0)) (by (with_reducible repeat (first | refine blk_drewN ?_ _ | refine blk_drew ?_ | refine blk_alloc ?_ _)); exact BK742.out) hb)
              have n2_ := Aside0.mk (below_step (by repeat (first | (with_reducible first | exact HB.out | apply below_alloc | apply pw_below_drewN | apply below_drew1 | refine below_set ?_ GE735.out | refine below_set ?_ GE742.out) | exact HB.out)) hb)
              clear BK735
              clear BK742
              clear HB
              have BK735 := n0_
              have BK742 := n1_
              have HB := n2_
              clear n0_ n1_ n2_
              (try clear hb)
              (try clear hb2)
              (try clear hk)
              (try clear hi)
              refine hK.out _ _ ⟨(blk_cell BK742.out 0).trans rfl, (blk_cell BK742.out 1).trans rfl, (blk_cell BK735.out 0).trans rfl, (blk_cell BK735.out 1).trans rfl⟩ (fun hHeld => ?_)
              clear hK K
              refine norm_ (a' := ?_) ?_ ?_
              rotate_left
              · show Act.put _ (some 57) _ = _
                simp only [Act.put, List.setIfInBounds_toArray, List.set_cons_zero, List.set_cons_succ, i64_w]
                rfl
              refine one_ (i := 25) (N := some 58) #[true, true, true, true, true, true, true, true, true, true, true, true, true, true, true, true, true, true, true, true, true, true, true, true, true, true, false, false, false, false, false, false] rfl rfl (one_of HT_.out (by kernel_rfl)) (by decide) (fun K hK => ?_)
              refine goes_ Try.func26 (by kernel_rfl) rfl #[.agg #[.int .i64 t761, .int .i64 t762], .agg #[.int .i64 t763, .int .i64 t764]] (by rfl) rfl rfl (by (try simp only [List.map_toArray, List.map_cons, List.map_nil]); first | done | rfl | (simp only [List.length_drop, List.length_take]; rfl)) ?_
              with_reducible refine (dec_Add.calls kj2 t761 t762 t763 t764 t765 t766 _ A38.out).mono ?_
              rintro e w61 ⟨rfl, hb⟩
              refine ⟨_, rfl, ?_⟩
              have n0_ := Aside0.mk (blk_below (g := gb735) (o := .cells #[.int .i64 a0_0, .int .i64 a0_1] 23 (0, 0)) (by (with_reducible repeat (first | refine blk_drewN ?_ _ | refine blk_drew ?_ | refine blk_alloc ?_ _)); exact BK735.out) hb)
              have n1_ := Aside0.mk (blk_below (g := gb742) (o := .cells #[.int .i64 t740, .int .i64 t741] 23 (0, 0)) (by (with_reducible repeat (first | refine blk_drewN ?_ _ | refine blk_drew ?_ | refine blk_alloc ?_ _)); exact BK742.out) hb)
              have n2_ := Aside0.mk (below_step (by repeat (first | (with_reducible first | exact HB.out | apply below_alloc | apply pw_below_drewN | apply below_drew1 | refine below_set ?_ GE735.out | refine below_set ?_ GE742.out) | exact HB.out)) hb)
              clear BK735
              clear BK742
              clear HB
              have BK735 := n0_
              have BK742 := n1_
              have HB := n2_
              clear n0_ n1_ n2_
              (try clear hb)
              (try clear hb2)
              (try clear hk)
              (try clear hi)
              refine hK.out _ _ ⟨(blk_cell BK742.out 0).trans rfl, (blk_cell BK742.out 1).trans rfl, (blk_cell BK735.out 0).trans rfl, (blk_cell BK735.out 1).trans rfl⟩ (fun hHeld => ?_)
              clear hK K
              refine norm_ (a' := ?_) ?_ ?_
              rotate_left
              · show Act.put _ (some 58) _ = _
                simp only [Act.put, List.setIfInBounds_toArray, List.set_cons_zero, List.set_cons_succ, i64_w]
                rfl
              refine pure_ (i := 26) (N := some 59) (v := ?_) (a' := ?_) #[true, true, true, true, true, true, true, true, true, true, true, true, true, true, true, true, true, true, true, true, true, true, true, true, true, true, true, false, false, false, false, false] rfl rfl (any_of HT_.out (by kernel_rfl)) (fun _ _ _ h => h) (Or.inl ⟨by rfl, ?_⟩) ?_ ?_
              rotate_left
              · intro w'
                go_simp
                with_reducible rfl
              rotate_left
              · simp only [Act.put, List.setIfInBounds_toArray, List.set_cons_zero, List.set_cons_succ, i64_w]
                rfl
              refine pure_ (i := 27) (N := some 60) (v := ?_) (a' := ?_) #[true, true, true, true, true, true, true, true, true, true, true, true, true, true, true, true, true, true, true, true, true, true, true, true, true, true, true, true, false, false, false, false] rfl rfl (any_of HT_.out (by kernel_rfl)) (fun _ _ _ h => h) (Or.inl ⟨by rfl, ?_⟩) ?_ ?_
              rotate_left
              · intro w'
                go_simp
                with_reducible rfl
              rotate_left
              · simp only [Act.put, List.setIfInBounds_toArray, List.set_cons_zero, List.set_cons_succ, i64_w]
                rfl
              refine pure_ (i := 28) (N := some 61) (v := ?_) (a' := ?_) #[true, true, true, true, true, true, true, true, true, true, true, true, true, true, true, true, true, true, true, true, true, true, true, true, true, true, true, true, true, false, false, false] rfl rfl (any_of HT_.out (by kernel_rfl)) (fun _ _ _ h => h) (Or.inl ⟨by rfl, ?_⟩) ?_ ?_
              rotate_left
              · intro w'
                go_simp
                with_reducible rfl
              rotate_left
              · simp only [Act.put, List.setIfInBounds_toArray, List.set_cons_zero, List.set_cons_succ, i64_w]
                rfl
              refine one_ (i := 29) (N := some 62) #[true, true, true, true, true, true, true, true, true, true, true, true, true, true, true, true, true, true, true, true, true, true, true, true, true, true, true, true, true, true, false, false] rfl rfl (one_of HT_.out (by kernel_rfl)) (by decide) (fun K hK => ?_)
              refine goes_ Try.func18 (by kernel_rfl) rfl #[] (by rfl) rfl rfl (by (try simp only [List.map_toArray, List.map_cons, List.map_nil]); first | done | rfl | (simp only [List.length_drop, List.length_take]; rfl)) ?_
              with_reducible refine (breviarylaw03_works.calls kj2  t767 _ A40.out).mono ?_
              rintro e w62 ⟨rfl, hb⟩
              refine ⟨_, rfl, ?_⟩
              have n0_ := Aside0.mk (blk_below (g := gb735) (o := .cells #[.int .i64 a0_0, .int .i64 a0_1] 23 (0, 0)) (by (with_reducible repeat (first | refine blk_drewN ?_ _ | refine blk_drew ?_ | refine blk_alloc ?_ _)); exact BK735.out) hb)
              have n1_ := Aside0.mk (blk_below (g := gb742) (o := .cells #[.int .i64 t740, .int .i64 t741] 23 (0, 0)) (by (with_reducible repeat (first | refine blk_drewN ?_ _ | refine blk_drew ?_ | refine blk_alloc ?_ _)); exact BK742.out) hb)
              have n2_ := Aside0.mk (below_step (by repeat (first | (with_reducible first | exact HB.out | apply below_alloc | apply pw_below_drewN | apply below_drew1 | refine below_set ?_ GE735.out | refine below_set ?_ GE742.out) | exact HB.out)) hb)
              clear BK735
              clear BK742
              clear HB
              have BK735 := n0_
              have BK742 := n1_
              have HB := n2_
              clear n0_ n1_ n2_
              (try clear hb)
              (try clear hb2)
              (try clear hk)
              (try clear hi)
              refine hK.out _ _ ⟨(blk_cell BK742.out 0).trans rfl, (blk_cell BK742.out 1).trans rfl, (blk_cell BK735.out 0).trans rfl, (blk_cell BK735.out 1).trans rfl⟩ (fun hHeld => ?_)
              clear hK K
              refine norm_ (a' := ?_) ?_ ?_
              rotate_left
              · show Act.put _ (some 62) _ = _
                simp only [Act.put, List.setIfInBounds_toArray, List.set_cons_zero, List.set_cons_succ, i64_w]
                rfl
              refine pure_ (i := 30) (N := some 63) (v := ?_) (a' := ?_) #[true, true, true, true, true, true, true, true, true, true, true, true, true, true, true, true, true, true, true, true, true, true, true, true, true, true, true, true, true, true, true, false] rfl rfl (any_of HT_.out (by kernel_rfl)) (fun _ _ _ h => h) (Or.inl ⟨by rfl, ?_⟩) ?_ ?_
              rotate_left
              · intro w'
                go_simp
                with_reducible rfl
              rotate_left
              · simp only [Act.put, List.setIfInBounds_toArray, List.set_cons_zero, List.set_cons_succ, i64_w]
                rfl
              refine pure_ (i := 31) (N := some 4) (v := ?_) (a' := ?_) #[true, true, true, true, true, true, true, true, true, true, true, true, true, true, true, true, true, true, true, true, true, true, true, true, true, true, true, true, true, true, true, true] rfl rfl (any_of HT_.out (by kernel_rfl)) (fun _ _ _ h => h) (Or.inl ⟨by rfl, ?_⟩) ?_ ?_
              rotate_left
              · intro w'
                go_simp
                with_reducible rfl
              rotate_left
              · simp only [Act.put, List.setIfInBounds_toArray, List.set_cons_zero, List.set_cons_succ, i64_w]
                rfl
              refine done_ (done_of HT_.out (by kernel_rfl)) ?_
              try go_wp2
              go_ret
              exact ⟨by first | rfl | (simp [ ] <;> rfl) | (simp [*] <;> rfl), by repeat (first | (with_reducible first | exact HB.out | apply below_alloc | apply pw_below_drewN | apply below_drew1 | refine below_set ?_ GE735.out | refine below_set ?_ GE742.out) | exact HB.out)⟩
            · rw [if_neg c39] at H
              have c39b0 : (t759 == t765 && (t760 == t766)) = false := by simpa using c39
              (try (have c39b1 : decide (t759 = t765 && (t760 == t766)) = false := by simpa using c39))
              (try (have c39b2 : (t759 == t765 && (t760 == t766)) = false := by simpa using c39))
              (try (have c39b3 : ¬ (t759 = t765 && (t760 == t766)) := by simpa using c39))
              clear c39
              exact absurd H (by simp)
          · rw [if_neg c34] at H
            have c34b0 : (t751 == t757 && (t752 == t758)) = false := by simpa using c34
            (try (have c34b1 : decide (t751 = t757 && (t752 == t758)) = false := by simpa using c34))
            (try (have c34b2 : (t751 == t757 && (t752 == t758)) = false := by simpa using c34))
            (try (have c34b3 : ¬ (t751 = t757 && (t752 == t758)) := by simpa using c34))
            clear c34
            exact absurd H (by simp)
        · rw [if_neg c29] at H
          have c29b0 : (t743 == t749 && (t744 == t750)) = false := by simpa using c29
          (try (have c29b1 : decide (t743 = t749 && (t744 == t750)) = false := by simpa using c29))
          (try (have c29b2 : (t743 == t749 && (t744 == t750)) = false := by simpa using c29))
          (try (have c29b3 : ¬ (t743 = t749 && (t744 == t750)) := by simpa using c29))
          clear c29
          exact absurd H (by simp)

end Go.Proofs.Yticpobgkbapdmaa.PD
