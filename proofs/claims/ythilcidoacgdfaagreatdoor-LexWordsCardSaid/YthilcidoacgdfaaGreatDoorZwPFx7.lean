import Derived.Test.YthilcidoacgdfaaGreatDoorZwPFx3
import Derived.Test.YthilcidoacgdfaaGreatDoorZwPFx6
set_option maxHeartbeats 8000000
set_option maxRecDepth 100000
namespace Go.Proofs.YthilcidoacgdfaaGreatDoorW.PrintLast
end Go.Proofs.YthilcidoacgdfaaGreatDoorW.PrintLast
namespace Go.Proofs.YthilcidoacgdfaaGreatDoorW.PrintMore
end Go.Proofs.YthilcidoacgdfaaGreatDoorW.PrintMore
namespace Go.Proofs.YthilcidoacgdfaaGreatDoorW.PrintWords
end Go.Proofs.YthilcidoacgdfaaGreatDoorW.PrintWords
namespace Go.Proofs.YthilcidoacgdfaaGreatDoor.PF
open Go.RowKit YthilcidoacgdfaaGreatDoorW.PrintWords YthilcidoacgdfaaGreatDoorW.PrintLast YthilcidoacgdfaaGreatDoorW.PrintMore

set_option linter.unusedVariables false
set_option linter.unusedSimpArgs false

mutual
def breviaryref04_Lit.l0 : Nat → ByteArray → List Int → Int → Int → Int → Int → Option (Int × Int × Bool)
 | 0, _, _, _, _, _, _ => none
 | k + 1, x0, x4, x5, x6, x7, x8 => if x8 < (x0.size : Int) then (if 0 ≤ x8 then (if (bt x0 x8) = 46 then (breviaryref04_Lit.l0 k x0 x4 (wrap64 (x5 + 1)) x6 x7 (wrap64 (x8 + 1))) else (if (bt x0 x8) < 48 then (breviaryref04_Lit.j1 k x0 x4 x5 x6 x7 x8 true) else (breviaryref04_Lit.j1 k x0 x4 x5 x6 x7 x8 (decide ((bt x0 x8) > 57))))) else (none)) else (if x5 > 1 then (breviaryref04_Lit.j2 k x4 x7 true) else (breviaryref04_Lit.j2 k x4 x7 (x6 == 0)))
def breviaryref04_Lit.j1 : Nat → ByteArray → List Int → Int → Int → Int → Int → Bool → Option (Int × Int × Bool)
 | 0, _, _, _, _, _, _, _ => none
 | k + 1, x0, x4, x5, x6, x7, x8, x33 => if x33 = true then (some (0, 0, false)) else (if x5 > 0 then (if (wrap64 (x7 + 1)) ≤ 6 then (if 0 ≤ x8 then (if x8 < (x0.size : Int) then (if x4.length < 17592186044416 then (breviaryref04_Lit.l0 k x0 (x4 ++ [wrap64 ((wrap64 (bt x0 x8)) - 48)]) x5 (wrap64 (x6 + 1)) (wrap64 (x7 + 1)) (wrap64 (x8 + 1))) else (none)) else (none)) else (none)) else (breviaryref04_Lit.l0 k x0 x4 x5 (wrap64 (x6 + 1)) (wrap64 (x7 + 1)) (wrap64 (x8 + 1)))) else (if x7 ≤ 6 then (if 0 ≤ x8 then (if x8 < (x0.size : Int) then (if x4.length < 17592186044416 then (breviaryref04_Lit.l0 k x0 (x4 ++ [wrap64 ((wrap64 (bt x0 x8)) - 48)]) x5 (wrap64 (x6 + 1)) x7 (wrap64 (x8 + 1))) else (none)) else (none)) else (none)) else (breviaryref04_Lit.l0 k x0 x4 x5 (wrap64 (x6 + 1)) x7 (wrap64 (x8 + 1)))))
def breviaryref04_Lit.j2 : Nat → List Int → Int → Bool → Option (Int × Int × Bool)
 | 0, _, _, _ => none
 | k + 1, x4, x7, x56 => if x56 = true then (some (0, 0, false)) else (breviaryref04_Lit.l1 k x4 x7)
def breviaryref04_Lit.l1 : Nat → List Int → Int → Option (Int × Int × Bool)
 | 0, _, _ => none
 | k + 1, x4, x9 => if x9 < 6 then (if x4.length < 17592186044416 then (breviaryref04_Lit.l1 k (x4 ++ [0]) (wrap64 (x9 + 1))) else (none)) else (breviaryref04_Lit.l2 k x4 ([] : List Int) (wrap64 ((x4.length : Int) - 1)))
def breviaryref04_Lit.l2 : Nat → List Int → List Int → Int → Option (Int × Int × Bool)
 | 0, _, _, _ => none
 | k + 1, x4, x10, x11 => if x11 ≥ 0 then (if 0 ≤ x11 then (if x11 < (x4.length : Int) then (if x10.length < 17592186044416 then (breviaryref04_Lit.l2 k x4 (x10 ++ [rd x4 x11]) (wrap64 (x11 - 1))) else (none)) else (none)) else (none)) else ((breviaryref03_Made.f k false x10).bind fun bt165 => (some (bt165.1, bt165.2, true)))
end
def breviaryref04_Lit.f (k : Nat) (a0 : ByteArray) : Option (Int × Int × Bool) := breviaryref04_Lit.l0 k a0 ([] : List Int) 0 0 0 0
theorem breviaryref04_Lit.calls (k : Nat) (a0 : ByteArray) (r1 : Int) (r2 : Int) (r3 : Bool) (w : World) (h : breviaryref04_Lit.f k a0 = some (r1, r2, r3)) :
  Calls Tryz.prog 66 #[.string a0] w fun e w' => e = .returned (.tuple #[.agg #[.int .i64 r1, .int .i64 r2], .bool r3]) ∧ Below w.heap.size w w' := by
 have hu32 := Tryz.underlying32
 have HB := Aside0.mk (Below.refl w.heap.size w)
 have H : (breviaryref04_Lit.l0 k a0 ([] : List Int) 0 0 0 0) = some (r1, r2, r3) := h
 clear h
 have H' := Aside0.mk H
 clear H
 go_enter Tryz.func66, Tryz.ntmps66
 go_wp2_with (first | ((with_reducible refine qo (N := 2) rfl ?_); refine qp ?hg (N := 2) ?hd (cs := #[.int .i64 0, .int .i64 0]) (t := 32) ?hr ?_; (case hd => rfl); (case hg => rfl); (case hr => first | (go_simp; done) | (go_simp; rfl)); intro gb151 hg w2 hbox hb; have n0_ := Aside0.mk (qj (by repeat (first | (with_reducible first | exact HB.out | apply qb | apply qa | apply qc) | exact HB.out)) hb); have n1_ := Aside0.mk (hbox); have n2_ := Aside0.mk ((by rw [hg]; exact (qk (by repeat (first | (with_reducible first | exact HB.out | apply qb | apply qa | apply qc) | exact HB.out))) : w.heap.size ≤ gb151)); have n3_ := Aside0.mk ((by rw [hg]; exact (qk (by repeat (first | (with_reducible first | exact HB.out | apply qb | apply qa | apply qc) | exact HB.out))) : w.heap.size ≤ gb151)); clear HB; have HB := n0_; have BK151 := n1_; have GW151 := n2_; have GE151 := n3_; clear n0_ n1_ n2_ n3_; clear hb hbox hg))
 go_loopg [4, 5, 6, 7, 8] k (fun kq v4 v5 v6 v7 v8 w' => ∃ (x4_1 : List Int) (x5_1 : Int) (x6_1 : Int) (x7_1 : Int) (x8_1 : Int) (x152000_1 : Int) (x152001_1 : Int), v5 = .int .i64 x5_1 ∧ v6 = .int .i64 x6_1 ∧ v7 = .int .i64 x7_1 ∧ v8 = .int .i64 x8_1 ∧ Aside0 (breviaryref04_Lit.l0 kq a0 x4_1 x5_1 x6_1 x7_1 x8_1 = some (r1, r2, r3)) ∧ Aside0 (kq ≤ k) ∧ Aside0 (Kd.R (Kd.int .i64) 3 w' w.heap.size (fun _ => True) v4 x4_1) ∧ Aside0 (w'.heap[gb151]? = some (.cells #[.int .i64 x152000_1, .int .i64 x152001_1] 32 (0, 0))) ∧ Aside0 (Below w.heap.size w w'))
 case atStart => exact ⟨(([] : List Int)), (0), (0), (0), (0), (0), (0), (by first | rfl | (simp; done) | (simp [*]; done)), (by first | rfl | (simp; done) | (simp [*]; done)), (by first | rfl | (simp; done) | (simp [*]; done)), (by first | rfl | (simp; done) | (simp [*]; done)), H', ⟨Nat.le_refl _⟩, ⟨by first | exact Kd.R_nil _ _ _ _ _ | exact Kd.N_nil _ _ _ _ _ | exact Kd.V_nil _ _ _ _ _ | exact Kd.Q_nil _ _ _ _ _ | exact Kd.S_nil _ _ _ _ _⟩, ⟨by (with_reducible repeat (first | refine qe ?_ _ | refine qf ?_ | refine qd ?_ _)); exact BK151.out⟩, ⟨by repeat (first | (with_reducible first | exact HB.out | apply qb | apply qa | apply qc | refine qg ?_ GE151.out) | exact HB.out)⟩⟩
 case round =>
  clear H'
  try clear p2
  obtain ⟨x4_1, x5_1, x6_1, x7_1, x8_1, x152000_1, x152001_1, rfl, rfl, rfl, rfl, HA, HK1, HO_4, BK151, HB⟩ := hrel
  cases gk with
  | zero => exact absurd HA.out (by simp [breviaryref04_Lit.l0])
  | succ k1 =>
   have H := HA.out
   clear HA
   simp only [breviaryref04_Lit.l0] at H
   by_cases c3 : x8_1 < (a0.size : Int)
   ·rw [if_pos c3] at H
    have c3b0 : decide (x8_1 < (a0.size : Int)) = true := decide_eq_true c3
    clear c3
    by_cases c4 : 0 ≤ x8_1
    ·rw [if_pos c4] at H
     have c4b0 : decide (0 ≤ x8_1) = true := decide_eq_true c4
     clear c4
     by_cases c6 : (bt a0 x8_1) = 46
     ·rw [if_pos c6] at H
      have c6b0 : ((bt a0 x8_1) == 46) = true := beq_iff_eq.mpr c6
      have c6b1 : ((bt a0 x8_1) != 46) = false := bne_eq_false_iff_eq.mpr c6
      clear c6
      have H' := Aside0.mk H
      clear H
      have p5 : 0 ≤ (x8_1 : Int) := of_decide_eq_true (by first | (with_reducible assumption) | assumption)
      have q5 : x8_1 < (a0.size : Int) := of_decide_eq_true (by first | (with_reducible assumption) | assumption)
      have hx5 := bt_at a0 x8_1
      replace p5 := eq_true p5
      replace q5 := eq_true q5
      go_wp2
      go_roundg k1
      case measure => have := HK1.out; omega
      case rel => exact ⟨(x4_1), (wrap64 (x5_1 + 1)), (x6_1), (x7_1), (wrap64 (x8_1 + 1)), (x152000_1), (x152001_1), (by first | rfl | (simp; done) | (simp [*]; done)), (by first | rfl | (simp; done) | (simp [*]; done)), (by first | rfl | (simp; done) | (simp [*]; done)), (by first | rfl | (simp; done) | (simp [*]; done)), H', ⟨by have := HK1.out; omega⟩, ⟨by (with_reducible repeat (first | apply Kd.R_alloc | apply Kd.R_drewN | apply Kd.R_drew)); exact HO_4.out⟩, ⟨by (with_reducible repeat (first | refine qe ?_ _ | refine qf ?_ | refine qd ?_ _)); exact BK151.out⟩, ⟨by repeat (first | (with_reducible first | exact HB.out | apply qb | apply qa | apply qc | refine qg ?_ GE151.out) | exact HB.out)⟩⟩
     ·rw [if_neg c6] at H
      have c6b0 : ((bt a0 x8_1) == 46) = false := beq_eq_false_iff_ne.mpr c6
      have c6b1 : ((bt a0 x8_1) != 46) = true := bne_iff_ne.mpr c6
      have HC7 := Aside0.mk H
      clear H
      have p5 : 0 ≤ (x8_1 : Int) := of_decide_eq_true (by first | (with_reducible assumption) | assumption)
      have q5 : x8_1 < (a0.size : Int) := of_decide_eq_true (by first | (with_reducible assumption) | assumption)
      have hx5 := bt_at a0 x8_1
      replace p5 := eq_true p5
      replace q5 := eq_true q5
      go_upto_region 8 with (fail)
      go_cut [33] (fun v33 wc => ∃ (kq : Nat) (x33_6 : Bool), v33 = .bool x33_6 ∧ Aside0 (breviaryref04_Lit.j1 kq a0 x4_1 x5_1 x6_1 x7_1 x8_1 x33_6 = some (r1, r2, r3)) ∧ Aside0 (kq ≤ k1) ∧ Aside0 (Kd.R (Kd.int .i64) 3 wc w.heap.size (fun _ => True) u4 x4_1) ∧ Aside0 (wc.heap[gb151]? = some (.cells #[.int .i64 x152000_1, .int .i64 x152001_1] 32 (0, 0))) ∧ Aside0 (Below w.heap.size w wc))
      case first =>
       have H := HC7.out
       clear HC7
       by_cases c9 : (bt a0 x8_1) < 48
       ·rw [if_pos c9] at H
        have c9b0 : decide ((bt a0 x8_1) < 48) = true := decide_eq_true c9
        clear c9
        (first | rw [c9b0] | (simp only [i64_w]; rw [c9b0]) | skip)
        have H' := Aside0.mk H
        clear H
        have p8 : 0 ≤ (x8_1 : Int) := of_decide_eq_true (by first | (with_reducible assumption) | assumption)
        have q8 : x8_1 < (a0.size : Int) := of_decide_eq_true (by first | (with_reducible assumption) | assumption)
        have hx8 := bt_at a0 x8_1
        replace p8 := eq_true p8
        replace q8 := eq_true q8
        go_wp2
        go_meet
        case rel => exact ⟨_, (true), (by first | rfl | (simp; done) | (simp [*]; done)), H', ⟨by have := HK1.out; first | omega | exact Nat.le_refl _⟩, ⟨by (with_reducible repeat (first | apply Kd.R_alloc | apply Kd.R_drewN | apply Kd.R_drew)); exact HO_4.out⟩, ⟨by (with_reducible repeat (first | refine qe ?_ _ | refine qf ?_ | refine qd ?_ _)); exact BK151.out⟩, ⟨by repeat (first | (with_reducible first | exact HB.out | apply qb | apply qa | apply qc | refine qg ?_ GE151.out) | exact HB.out)⟩⟩
       ·rw [if_neg c9] at H
        have c9b0 : decide ((bt a0 x8_1) < 48) = false := decide_eq_false c9
        clear c9
        (first | rw [c9b0] | (simp only [i64_w]; rw [c9b0]) | skip)
        have H' := Aside0.mk H
        clear H
        have p8 : 0 ≤ (x8_1 : Int) := of_decide_eq_true (by first | (with_reducible assumption) | assumption)
        have q8 : x8_1 < (a0.size : Int) := of_decide_eq_true (by first | (with_reducible assumption) | assumption)
        have hx8 := bt_at a0 x8_1
        replace p8 := eq_true p8
        replace q8 := eq_true q8
        have p10 : 0 ≤ (x8_1 : Int) := of_decide_eq_true (by first | (with_reducible assumption) | assumption)
        have q10 : x8_1 < (a0.size : Int) := of_decide_eq_true (by first | (with_reducible assumption) | assumption)
        have hx10 := bt_at a0 x8_1
        replace p10 := eq_true p10
        replace q10 := eq_true q10
        go_wp2
        go_meet
        case rel => exact ⟨_, (decide ((bt a0 x8_1) > 57)), (by first | rfl | (simp; done) | (simp [*]; done)), H', ⟨by have := HK1.out; first | omega | exact Nat.le_refl _⟩, ⟨by (with_reducible repeat (first | apply Kd.R_alloc | apply Kd.R_drewN | apply Kd.R_drew)); exact HO_4.out⟩, ⟨by (with_reducible repeat (first | refine qe ?_ _ | refine qf ?_ | refine qd ?_ _)); exact BK151.out⟩, ⟨by repeat (first | (with_reducible first | exact HB.out | apply qb | apply qa | apply qc | refine qg ?_ GE151.out) | exact HB.out)⟩⟩
      case rest =>
       clear HC7
       try clear p1
       try clear q1
       try clear hx1
       try clear p2
       try clear c3
       try clear c3b0
       try clear c4
       try clear c4b0
       try clear p5
       try clear q5
       try clear hx5
       try clear c6
       try clear c6b0
       try clear c6b1
       try clear p6
       try clear p8
       try clear q8
       try clear hx8
       try clear c9
       try clear c9b0
       try clear p10
       try clear q10
       try clear hx10
       try clear p10
       try clear p2
       try clear p5
       try clear p8
       try clear q10
       try clear q5
       try clear q8
       obtain ⟨kq, x33_6, rfl, HA, HJ6, HO_4, BK151, HB⟩ := hcut
       cases kq with
       | zero => exact absurd HA.out (by simp [breviaryref04_Lit.j1])
       | succ kj6 =>
        have H := HA.out
        clear HA
        simp only [breviaryref04_Lit.j1] at H
        by_cases c11 : x33_6 = true
        ·subst c11
         have H1 : (some (0, 0, false)) = some (r1, r2, r3) := by rw [if_pos rfl] at H; exact H
         clear H
         have H := H1
         clear H1
         simp only [Option.some.injEq, Prod.mk.injEq] at H
         obtain ⟨rfl, rfl, rfl⟩ := H
         have hcz12_0 : wc.cell? ⟨gb151, 0, none⟩ = some (.int .i64 x152000_1) := (qh BK151.out 0).trans rfl
         have hcz12_1 : wc.cell? ⟨gb151, 1, none⟩ = some (.int .i64 x152001_1) := (qh BK151.out 1).trans rfl
         have hfz12_0 := qi BK151.out 0
         have hfz12_1 := qi BK151.out 1
         go_wp2
         refine bodyPost_ret (qz rfl _ _ gb151 32 #[.int .i64 0, .int .i64 0] (0, 0) _ rfl (by (with_reducible repeat (first | refine qe ?_ _ | refine qf ?_ | refine qd ?_ _)); refine qm (cs := #[.int .i64 0, .int .i64 x152001_1]) ?_ 1 _ rfl; (with_reducible repeat (first | refine qe ?_ _ | refine qf ?_ | refine qd ?_ _)); refine qm (cs := #[.int .i64 x152000_1, .int .i64 x152001_1]) ?_ 0 _ rfl; (with_reducible repeat (first | refine qe ?_ _ | refine qf ?_ | refine qd ?_ _)); exact BK151.out) Tryz.underlying32 rfl (by kernel_rfl)) rfl ?_
         exact ⟨by first | rfl | (simp [ ] <;> rfl) | (simp [*] <;> rfl), by repeat (first | (with_reducible first | exact HB.out | apply qb | apply qa | apply qc | refine qg ?_ GE151.out) | exact HB.out)⟩
        ·replace c11 := Bool.eq_false_iff.mpr c11
         subst c11
         have H1 : (if x5_1 > 0 then (if (wrap64 (x7_1 + 1)) ≤ 6 then (if 0 ≤ x8_1 then (if x8_1 < (a0.size : Int) then (if x4_1.length < 17592186044416 then (breviaryref04_Lit.l0 kj6 a0 (x4_1 ++ [wrap64 ((wrap64 (bt a0 x8_1)) - 48)]) x5_1 (wrap64 (x6_1 + 1)) (wrap64 (x7_1 + 1)) (wrap64 (x8_1 + 1))) else (none)) else (none)) else (none)) else (breviaryref04_Lit.l0 kj6 a0 x4_1 x5_1 (wrap64 (x6_1 + 1)) (wrap64 (x7_1 + 1)) (wrap64 (x8_1 + 1)))) else (if x7_1 ≤ 6 then (if 0 ≤ x8_1 then (if x8_1 < (a0.size : Int) then (if x4_1.length < 17592186044416 then (breviaryref04_Lit.l0 kj6 a0 (x4_1 ++ [wrap64 ((wrap64 (bt a0 x8_1)) - 48)]) x5_1 (wrap64 (x6_1 + 1)) x7_1 (wrap64 (x8_1 + 1))) else (none)) else (none)) else (none)) else (breviaryref04_Lit.l0 kj6 a0 x4_1 x5_1 (wrap64 (x6_1 + 1)) x7_1 (wrap64 (x8_1 + 1))))) = some (r1, r2, r3) := by rw [if_neg (show ¬ (false = true) by decide)] at H; exact H
         clear H
         have H := H1
         clear H1
         by_cases c13 : x5_1 > 0
         ·rw [if_pos c13] at H
          have c13b0 : decide (0 < x5_1) = true := decide_eq_true c13
          clear c13
          by_cases c14 : (wrap64 (x7_1 + 1)) ≤ 6
          ·rw [if_pos c14] at H
           have c14b0 : decide ((wrap64 (x7_1 + 1)) ≤ 6) = true := decide_eq_true c14
           clear c14
           by_cases c15 : 0 ≤ x8_1
           ·rw [if_pos c15] at H
            have c15b0 : decide (0 ≤ x8_1) = true := decide_eq_true c15
            clear c15
            by_cases c16 : x8_1 < (a0.size : Int)
            ·rw [if_pos c16] at H
             have c16b0 : decide (x8_1 < (a0.size : Int)) = true := decide_eq_true c16
             clear c16
             by_cases c18 : x4_1.length < 17592186044416
             ·rw [if_pos c18] at H
              have LMc18 := Aside0.mk c18
              clear c18
              obtain ⟨y152, hy152⟩ : ∃ y_ : List Int, y_ = (x4_1 ++ [wrap64 ((wrap64 (bt a0 x8_1)) - 48)]) := ⟨_, rfl⟩
              replace H : (breviaryref04_Lit.l0 kj6 a0 y152 x5_1 (wrap64 (x6_1 + 1)) (wrap64 (x7_1 + 1)) (wrap64 (x8_1 + 1))) = some (r1, r2, r3) := by first | (rw [hy152]; with_reducible exact H) | (have H2_ := (Option.bind_some _ _).symm.trans H; rw [hy152]; with_reducible exact H2_) | (have H2_ := (Option.bind_some _ _).symm.trans H; with_reducible exact H2_) | with_reducible exact H | (rw [hy152]; exact H) | exact H
              have Ny152 := Aside0.mk hy152
              clear hy152
              have H' := Aside0.mk H
              clear H
              have p17 : 0 ≤ (x8_1 : Int) := of_decide_eq_true (by first | (with_reducible assumption) | assumption)
              have q17 : x8_1 < (a0.size : Int) := of_decide_eq_true (by first | (with_reducible assumption) | assumption)
              have hx17 := bt_at a0 x8_1
              replace p17 := eq_true p17
              replace q17 := eq_true q17
              go_wp2_with (first | ((with_reducible refine qj1 (b := .append) (xs := #[.tmp 43, .tmp 49]) rfl ?_); at_builtin; refine Kd.R_append (Kd.int .i64) (w0 := w) w.heap.size rfl (.tmp 43) (.tmp 49) 33 3 (.int .i64 0) 8 rfl Tryz.underlying33 info3 rfl (by decide) (by omega) u4 x4_1 (wrap64 ((wrap64 (bt a0 x8_1)) - 48)) [.int .i64 (wrap64 ((wrap64 (bt a0 x8_1)) - 48))] (fun _ => True) (fun _ => False) rfl rfl ?aP (fun _ hk => hk.elim) ?aF ?aO ?aB ?aS ?aL ?_; (case aP => exact rfl); (case aB => exact (by repeat (first | (with_reducible first | exact HB.out | apply qb | apply qa | apply qc | refine qg ?_ GE151.out) | exact HB.out))); (case aF => exact (fun _ _ => trivial)); (case aO => exact (by (with_reducible repeat (first | apply Kd.R_alloc | apply Kd.R_drewN | apply Kd.R_drew)); exact HO_4.out)); (case aS => exact (qk (by repeat (first | (with_reducible first | exact HB.out | apply qb | apply qa | apply qc | refine qg ?_ GE151.out) | exact HB.out)))); (case aL => have := LMc18.out; omega); intro v153 w19 ho hb hg hat; rw [← Ny152.out] at ho; have n0_ := Aside0.mk (blk_grown (g := gb151) (o := .cells #[.int .i64 x152000_1, .int .i64 x152001_1] 32 (0, 0)) (by (with_reducible repeat (first | refine qe ?_ _ | refine qf ?_ | refine qd ?_ _)); exact BK151.out) hg (Kd.R_ne HO_4.out BK151.out (by decide))); have n1_ := Aside0.mk (hb); have n2_ := Aside0.mk (ho); clear BK151; clear HB; clear HO_4; have BK151 := n0_; have HB := n1_; have HO154 := n2_; clear n0_ n1_ n2_; clear ho hb hg hat))
              go_roundg kj6
              case measure => have := HK1.out; have := HJ6.out; omega
              case rel => exact ⟨(y152), (x5_1), (wrap64 (x6_1 + 1)), (wrap64 (x7_1 + 1)), (wrap64 (x8_1 + 1)), (x152000_1), (x152001_1), (by first | rfl | (simp; done) | (simp [*]; done)), (by first | rfl | (simp; done) | (simp [*]; done)), (by first | rfl | (simp; done) | (simp [*]; done)), (by first | rfl | (simp; done) | (simp [*]; done)), H', ⟨by have := HK1.out; have := HJ6.out; omega⟩, ⟨by (with_reducible repeat (first | apply Kd.R_alloc | apply Kd.R_drewN | apply Kd.R_drew)); exact HO154.out⟩, ⟨by (with_reducible repeat (first | refine qe ?_ _ | refine qf ?_ | refine qd ?_ _)); exact BK151.out⟩, ⟨by repeat (first | (with_reducible first | exact HB.out | apply qb | apply qa | apply qc | refine qg ?_ GE151.out) | exact HB.out)⟩⟩
             ·rw [if_neg c18] at H
              exact absurd H (by simp)
            ·rw [if_neg c16] at H
             exact absurd H (by simp)
           ·rw [if_neg c15] at H
            exact absurd H (by simp)
          ·rw [if_neg c14] at H
           have c14b0 : decide ((wrap64 (x7_1 + 1)) ≤ 6) = false := decide_eq_false c14
           clear c14
           have H' := Aside0.mk H
           clear H
           go_wp2
           go_roundg kj6
           case measure => have := HK1.out; have := HJ6.out; omega
           case rel => exact ⟨(x4_1), (x5_1), (wrap64 (x6_1 + 1)), (wrap64 (x7_1 + 1)), (wrap64 (x8_1 + 1)), (x152000_1), (x152001_1), (by first | rfl | (simp; done) | (simp [*]; done)), (by first | rfl | (simp; done) | (simp [*]; done)), (by first | rfl | (simp; done) | (simp [*]; done)), (by first | rfl | (simp; done) | (simp [*]; done)), H', ⟨by have := HK1.out; have := HJ6.out; omega⟩, ⟨by (with_reducible repeat (first | apply Kd.R_alloc | apply Kd.R_drewN | apply Kd.R_drew)); exact HO_4.out⟩, ⟨by (with_reducible repeat (first | refine qe ?_ _ | refine qf ?_ | refine qd ?_ _)); exact BK151.out⟩, ⟨by repeat (first | (with_reducible first | exact HB.out | apply qb | apply qa | apply qc | refine qg ?_ GE151.out) | exact HB.out)⟩⟩
         ·rw [if_neg c13] at H
          have c13b0 : decide (0 < x5_1) = false := decide_eq_false c13
          clear c13
          by_cases c20 : x7_1 ≤ 6
          ·rw [if_pos c20] at H
           have c20b0 : decide (x7_1 ≤ 6) = true := decide_eq_true c20
           clear c20
           by_cases c21 : 0 ≤ x8_1
           ·rw [if_pos c21] at H
            have c21b0 : decide (0 ≤ x8_1) = true := decide_eq_true c21
            clear c21
            by_cases c22 : x8_1 < (a0.size : Int)
            ·rw [if_pos c22] at H
             have c22b0 : decide (x8_1 < (a0.size : Int)) = true := decide_eq_true c22
             clear c22
             by_cases c24 : x4_1.length < 17592186044416
             ·rw [if_pos c24] at H
              have LMc24 := Aside0.mk c24
              clear c24
              obtain ⟨y155, hy155⟩ : ∃ y_ : List Int, y_ = (x4_1 ++ [wrap64 ((wrap64 (bt a0 x8_1)) - 48)]) := ⟨_, rfl⟩
              replace H : (breviaryref04_Lit.l0 kj6 a0 y155 x5_1 (wrap64 (x6_1 + 1)) x7_1 (wrap64 (x8_1 + 1))) = some (r1, r2, r3) := by first | (rw [hy155]; with_reducible exact H) | (have H2_ := (Option.bind_some _ _).symm.trans H; rw [hy155]; with_reducible exact H2_) | (have H2_ := (Option.bind_some _ _).symm.trans H; with_reducible exact H2_) | with_reducible exact H | (rw [hy155]; exact H) | exact H
              have Ny155 := Aside0.mk hy155
              clear hy155
              have H' := Aside0.mk H
              clear H
              have p23 : 0 ≤ (x8_1 : Int) := of_decide_eq_true (by first | (with_reducible assumption) | assumption)
              have q23 : x8_1 < (a0.size : Int) := of_decide_eq_true (by first | (with_reducible assumption) | assumption)
              have hx23 := bt_at a0 x8_1
              replace p23 := eq_true p23
              replace q23 := eq_true q23
              go_wp2_with (first | ((with_reducible refine qj1 (b := .append) (xs := #[.tmp 43, .tmp 49]) rfl ?_); at_builtin; refine Kd.R_append (Kd.int .i64) (w0 := w) w.heap.size rfl (.tmp 43) (.tmp 49) 33 3 (.int .i64 0) 8 rfl Tryz.underlying33 info3 rfl (by decide) (by omega) u4 x4_1 (wrap64 ((wrap64 (bt a0 x8_1)) - 48)) [.int .i64 (wrap64 ((wrap64 (bt a0 x8_1)) - 48))] (fun _ => True) (fun _ => False) rfl rfl ?aP (fun _ hk => hk.elim) ?aF ?aO ?aB ?aS ?aL ?_; (case aP => exact rfl); (case aB => exact (by repeat (first | (with_reducible first | exact HB.out | apply qb | apply qa | apply qc | refine qg ?_ GE151.out) | exact HB.out))); (case aF => exact (fun _ _ => trivial)); (case aO => exact (by (with_reducible repeat (first | apply Kd.R_alloc | apply Kd.R_drewN | apply Kd.R_drew)); exact HO_4.out)); (case aS => exact (qk (by repeat (first | (with_reducible first | exact HB.out | apply qb | apply qa | apply qc | refine qg ?_ GE151.out) | exact HB.out)))); (case aL => have := LMc24.out; omega); intro v156 w25 ho hb hg hat; rw [← Ny155.out] at ho; have n0_ := Aside0.mk (blk_grown (g := gb151) (o := .cells #[.int .i64 x152000_1, .int .i64 x152001_1] 32 (0, 0)) (by (with_reducible repeat (first | refine qe ?_ _ | refine qf ?_ | refine qd ?_ _)); exact BK151.out) hg (Kd.R_ne HO_4.out BK151.out (by decide))); have n1_ := Aside0.mk (hb); have n2_ := Aside0.mk (ho); clear BK151; clear HB; clear HO_4; have BK151 := n0_; have HB := n1_; have HO157 := n2_; clear n0_ n1_ n2_; clear ho hb hg hat))
              go_roundg kj6
              case measure => have := HK1.out; have := HJ6.out; omega
              case rel => exact ⟨(y155), (x5_1), (wrap64 (x6_1 + 1)), (x7_1), (wrap64 (x8_1 + 1)), (x152000_1), (x152001_1), (by first | rfl | (simp; done) | (simp [*]; done)), (by first | rfl | (simp; done) | (simp [*]; done)), (by first | rfl | (simp; done) | (simp [*]; done)), (by first | rfl | (simp; done) | (simp [*]; done)), H', ⟨by have := HK1.out; have := HJ6.out; omega⟩, ⟨by (with_reducible repeat (first | apply Kd.R_alloc | apply Kd.R_drewN | apply Kd.R_drew)); exact HO157.out⟩, ⟨by (with_reducible repeat (first | refine qe ?_ _ | refine qf ?_ | refine qd ?_ _)); exact BK151.out⟩, ⟨by repeat (first | (with_reducible first | exact HB.out | apply qb | apply qa | apply qc | refine qg ?_ GE151.out) | exact HB.out)⟩⟩
             ·rw [if_neg c24] at H
              exact absurd H (by simp)
            ·rw [if_neg c22] at H
             exact absurd H (by simp)
           ·rw [if_neg c21] at H
            exact absurd H (by simp)
          ·rw [if_neg c20] at H
           have c20b0 : decide (x7_1 ≤ 6) = false := decide_eq_false c20
           clear c20
           have H' := Aside0.mk H
           clear H
           go_wp2
           go_roundg kj6
           case measure => have := HK1.out; have := HJ6.out; omega
           case rel => exact ⟨(x4_1), (x5_1), (wrap64 (x6_1 + 1)), (x7_1), (wrap64 (x8_1 + 1)), (x152000_1), (x152001_1), (by first | rfl | (simp; done) | (simp [*]; done)), (by first | rfl | (simp; done) | (simp [*]; done)), (by first | rfl | (simp; done) | (simp [*]; done)), (by first | rfl | (simp; done) | (simp [*]; done)), H', ⟨by have := HK1.out; have := HJ6.out; omega⟩, ⟨by (with_reducible repeat (first | apply Kd.R_alloc | apply Kd.R_drewN | apply Kd.R_drew)); exact HO_4.out⟩, ⟨by (with_reducible repeat (first | refine qe ?_ _ | refine qf ?_ | refine qd ?_ _)); exact BK151.out⟩, ⟨by repeat (first | (with_reducible first | exact HB.out | apply qb | apply qa | apply qc | refine qg ?_ GE151.out) | exact HB.out)⟩⟩
    ·rw [if_neg c4] at H
     exact absurd H (by simp)
   ·rw [if_neg c3] at H
    have c3b0 : decide (x8_1 < (a0.size : Int)) = false := decide_eq_false c3
    clear c3
    have HC26 := Aside0.mk H
    clear H
    go_upto_region 15 with (fail)
    go_cut [56] (fun v56 wc => ∃ (kq : Nat) (x56_25 : Bool), v56 = .bool x56_25 ∧ Aside0 (breviaryref04_Lit.j2 kq x4_1 x7_1 x56_25 = some (r1, r2, r3)) ∧ Aside0 (kq ≤ k1) ∧ Aside0 (Kd.R (Kd.int .i64) 3 wc w.heap.size (fun _ => True) u4 x4_1) ∧ Aside0 (wc.heap[gb151]? = some (.cells #[.int .i64 x152000_1, .int .i64 x152001_1] 32 (0, 0))) ∧ Aside0 (Below w.heap.size w wc))
    case first =>
     have H := HC26.out
     clear HC26
     by_cases c27 : x5_1 > 1
     ·rw [if_pos c27] at H
      have c27b0 : decide (1 < x5_1) = true := decide_eq_true c27
      clear c27
      (first | rw [c27b0] | (simp only [i64_w]; rw [c27b0]) | skip)
      have H' := Aside0.mk H
      clear H
      go_wp2
      go_meet
      case rel => exact ⟨_, (true), (by first | rfl | (simp; done) | (simp [*]; done)), H', ⟨by have := HK1.out; first | omega | exact Nat.le_refl _⟩, ⟨by (with_reducible repeat (first | apply Kd.R_alloc | apply Kd.R_drewN | apply Kd.R_drew)); exact HO_4.out⟩, ⟨by (with_reducible repeat (first | refine qe ?_ _ | refine qf ?_ | refine qd ?_ _)); exact BK151.out⟩, ⟨by repeat (first | (with_reducible first | exact HB.out | apply qb | apply qa | apply qc | refine qg ?_ GE151.out) | exact HB.out)⟩⟩
     ·rw [if_neg c27] at H
      have c27b0 : decide (1 < x5_1) = false := decide_eq_false c27
      clear c27
      (first | rw [c27b0] | (simp only [i64_w]; rw [c27b0]) | skip)
      have H' := Aside0.mk H
      clear H
      go_wp2
      go_meet
      case rel => exact ⟨_, ((x6_1 == 0)), (by first | rfl | (simp; done) | (simp [*]; done)), H', ⟨by have := HK1.out; first | omega | exact Nat.le_refl _⟩, ⟨by (with_reducible repeat (first | apply Kd.R_alloc | apply Kd.R_drewN | apply Kd.R_drew)); exact HO_4.out⟩, ⟨by (with_reducible repeat (first | refine qe ?_ _ | refine qf ?_ | refine qd ?_ _)); exact BK151.out⟩, ⟨by repeat (first | (with_reducible first | exact HB.out | apply qb | apply qa | apply qc | refine qg ?_ GE151.out) | exact HB.out)⟩⟩
    case rest =>
     clear HC26
     try clear c1
     try clear p1
     try clear q1
     try clear hx1
     try clear c2
     try clear p2
     try clear q2
     try clear hx2
     try clear c3
     try clear c3b0
     try clear c4
     try clear c4b0
     try clear p5
     try clear q5
     try clear hx5
     try clear c6
     try clear c6b0
     try clear c6b1
     try clear p6
     try clear p8
     try clear q8
     try clear hx8
     try clear c9
     try clear c9b0
     try clear p10
     try clear q10
     try clear hx10
     try clear c11
     try clear c13
     try clear c13b0
     try clear c14
     try clear c14b0
     try clear c15
     try clear c15b0
     try clear c16
     try clear c16b0
     try clear p17
     try clear q17
     try clear hx17
     try clear c18
     try clear c20
     try clear c20b0
     try clear c21
     try clear c21b0
     try clear c22
     try clear c22b0
     try clear p23
     try clear q23
     try clear hx23
     try clear c24
     try clear c27
     try clear c27b0
     try clear hcz12_0
     try clear hcz12_1
     try clear hfz12_0
     try clear hfz12_1
     try clear p1
     try clear p10
     try clear p17
     try clear p2
     try clear p23
     try clear p5
     try clear p6
     try clear p8
     try clear q1
     try clear q10
     try clear q17
     try clear q23
     try clear q5
     try clear q8
     obtain ⟨kq, x56_25, rfl, HA, HJ25, HO_4, BK151, HB⟩ := hcut
     cases kq with
     | zero => exact absurd HA.out (by simp [breviaryref04_Lit.j2])
     | succ kj25 =>
      have H := HA.out
      clear HA
      simp only [breviaryref04_Lit.j2] at H
      by_cases c28 : x56_25 = true
      ·subst c28
       have H1 : (some (0, 0, false)) = some (r1, r2, r3) := by rw [if_pos rfl] at H; exact H
       clear H
       have H := H1
       clear H1
       simp only [Option.some.injEq, Prod.mk.injEq] at H
       obtain ⟨rfl, rfl, rfl⟩ := H
       have hcz29_0 : wc.cell? ⟨gb151, 0, none⟩ = some (.int .i64 x152000_1) := (qh BK151.out 0).trans rfl
       have hcz29_1 : wc.cell? ⟨gb151, 1, none⟩ = some (.int .i64 x152001_1) := (qh BK151.out 1).trans rfl
       have hfz29_0 := qi BK151.out 0
       have hfz29_1 := qi BK151.out 1
       go_wp2
       refine bodyPost_ret (qz rfl _ _ gb151 32 #[.int .i64 0, .int .i64 0] (0, 0) _ rfl (by (with_reducible repeat (first | refine qe ?_ _ | refine qf ?_ | refine qd ?_ _)); refine qm (cs := #[.int .i64 0, .int .i64 x152001_1]) ?_ 1 _ rfl; (with_reducible repeat (first | refine qe ?_ _ | refine qf ?_ | refine qd ?_ _)); refine qm (cs := #[.int .i64 x152000_1, .int .i64 x152001_1]) ?_ 0 _ rfl; (with_reducible repeat (first | refine qe ?_ _ | refine qf ?_ | refine qd ?_ _)); exact BK151.out) Tryz.underlying32 rfl (by kernel_rfl)) rfl ?_
       exact ⟨by first | rfl | (simp [ ] <;> rfl) | (simp [*] <;> rfl), by repeat (first | (with_reducible first | exact HB.out | apply qb | apply qa | apply qc | refine qg ?_ GE151.out) | exact HB.out)⟩
      ·replace c28 := Bool.eq_false_iff.mpr c28
       subst c28
       have H1 : (breviaryref04_Lit.l1 kj25 x4_1 x7_1) = some (r1, r2, r3) := by rw [if_neg (show ¬ (false = true) by decide)] at H; exact H
       clear H
       have H := H1
       clear H1
       have H' := Aside0.mk H
       clear H
       go_wp2
       go_loopg [4, 9] kj25 (fun kq v4 v9 w' => ∃ (x4_3 : List Int) (x9_3 : Int), v9 = .int .i64 x9_3 ∧ Aside0 (breviaryref04_Lit.l1 kq x4_3 x9_3 = some (r1, r2, r3)) ∧ Aside0 (kq ≤ kj25) ∧ Aside0 (Kd.R (Kd.int .i64) 3 w' w.heap.size (fun _ => True) v4 x4_3) ∧ Aside0 (w'.heap[gb151]? = some (.cells #[.int .i64 x152000_1, .int .i64 x152001_1] 32 (0, 0))) ∧ Aside0 (Below w.heap.size w w'))
       case atStart => exact ⟨(x4_1), (x7_1), (by first | rfl | (simp; done) | (simp [*]; done)), H', ⟨Nat.le_refl _⟩, ⟨by (with_reducible repeat (first | apply Kd.R_alloc | apply Kd.R_drewN | apply Kd.R_drew)); exact HO_4.out⟩, ⟨by (with_reducible repeat (first | refine qe ?_ _ | refine qf ?_ | refine qd ?_ _)); exact BK151.out⟩, ⟨by repeat (first | (with_reducible first | exact HB.out | apply qb | apply qa | apply qc | refine qg ?_ GE151.out) | exact HB.out)⟩⟩
       case round =>
        clear H'
        try clear c1
        try clear p1
        try clear q1
        try clear hx1
        try clear c2
        try clear p2
        try clear q2
        try clear hx2
        try clear c3
        try clear c3b0
        try clear c4
        try clear c4b0
        try clear p5
        try clear q5
        try clear hx5
        try clear c6
        try clear c6b0
        try clear c6b1
        try clear p6
        try clear p8
        try clear q8
        try clear hx8
        try clear c9
        try clear c9b0
        try clear p10
        try clear q10
        try clear hx10
        try clear c11
        try clear c13
        try clear c13b0
        try clear c14
        try clear c14b0
        try clear c15
        try clear c15b0
        try clear c16
        try clear c16b0
        try clear p17
        try clear q17
        try clear hx17
        try clear c18
        try clear c20
        try clear c20b0
        try clear c21
        try clear c21b0
        try clear c22
        try clear c22b0
        try clear p23
        try clear q23
        try clear hx23
        try clear c24
        try clear c27
        try clear c27b0
        try clear c28
        try clear hcz12_0
        try clear hcz12_1
        try clear hcz29_0
        try clear hcz29_1
        try clear hfz12_0
        try clear hfz12_1
        try clear hfz29_0
        try clear hfz29_1
        try clear p1
        try clear p10
        try clear p17
        try clear p2
        try clear p23
        try clear p5
        try clear p6
        try clear p8
        try clear q1
        try clear q10
        try clear q17
        try clear q2
        try clear q23
        try clear q5
        try clear q8
        obtain ⟨x4_3, x9_3, rfl, HA, HK3, HO_4, BK151, HB⟩ := hrel
        cases gk with
        | zero => exact absurd HA.out (by simp [breviaryref04_Lit.l1])
        | succ k3 =>
         have H := HA.out
         clear HA
         simp only [breviaryref04_Lit.l1] at H
         by_cases c30 : x9_3 < 6
         ·rw [if_pos c30] at H
          have c30b0 : decide (x9_3 < 6) = true := decide_eq_true c30
          clear c30
          by_cases c31 : x4_3.length < 17592186044416
          ·rw [if_pos c31] at H
           have LMc31 := Aside0.mk c31
           clear c31
           obtain ⟨y158, hy158⟩ : ∃ y_ : List Int, y_ = (x4_3 ++ [0]) := ⟨_, rfl⟩
           replace H : (breviaryref04_Lit.l1 k3 y158 (wrap64 (x9_3 + 1))) = some (r1, r2, r3) := by first | (rw [hy158]; with_reducible exact H) | (have H2_ := (Option.bind_some _ _).symm.trans H; rw [hy158]; with_reducible exact H2_) | (have H2_ := (Option.bind_some _ _).symm.trans H; with_reducible exact H2_) | with_reducible exact H | (rw [hy158]; exact H) | exact H
           have Ny158 := Aside0.mk hy158
           clear hy158
           have H' := Aside0.mk H
           clear H
           go_wp2_with (first | ((with_reducible refine qj1 (b := .append) (xs := #[.tmp 63, .tmp 64]) rfl ?_); at_builtin; refine Kd.R_append (Kd.int .i64) (w0 := w) w.heap.size rfl (.tmp 63) (.tmp 64) 33 3 (.int .i64 0) 8 rfl Tryz.underlying33 info3 rfl (by decide) (by omega) u4 x4_3 0 [.int .i64 0] (fun _ => True) (fun _ => False) rfl rfl ?aP (fun _ hk => hk.elim) ?aF ?aO ?aB ?aS ?aL ?_; (case aP => exact rfl); (case aB => exact (by repeat (first | (with_reducible first | exact HB.out | apply qb | apply qa | apply qc | refine qg ?_ GE151.out) | exact HB.out))); (case aF => exact (fun _ _ => trivial)); (case aO => exact (by (with_reducible repeat (first | apply Kd.R_alloc | apply Kd.R_drewN | apply Kd.R_drew)); exact HO_4.out)); (case aS => exact (qk (by repeat (first | (with_reducible first | exact HB.out | apply qb | apply qa | apply qc | refine qg ?_ GE151.out) | exact HB.out)))); (case aL => have := LMc31.out; omega); intro v159 w32 ho hb hg hat; rw [← Ny158.out] at ho; have n0_ := Aside0.mk (blk_grown (g := gb151) (o := .cells #[.int .i64 x152000_1, .int .i64 x152001_1] 32 (0, 0)) (by (with_reducible repeat (first | refine qe ?_ _ | refine qf ?_ | refine qd ?_ _)); exact BK151.out) hg (Kd.R_ne HO_4.out BK151.out (by decide))); have n1_ := Aside0.mk (hb); have n2_ := Aside0.mk (ho); clear BK151; clear HB; clear HO_4; have BK151 := n0_; have HB := n1_; have HO160 := n2_; clear n0_ n1_ n2_; clear ho hb hg hat))
           go_roundg k3
           case measure => have := HK1.out; have := HJ25.out; have := HK3.out; omega
           case rel => exact ⟨(y158), (wrap64 (x9_3 + 1)), (by first | rfl | (simp; done) | (simp [*]; done)), H', ⟨by have := HK1.out; have := HJ25.out; have := HK3.out; omega⟩, ⟨by (with_reducible repeat (first | apply Kd.R_alloc | apply Kd.R_drewN | apply Kd.R_drew)); exact HO160.out⟩, ⟨by (with_reducible repeat (first | refine qe ?_ _ | refine qf ?_ | refine qd ?_ _)); exact BK151.out⟩, ⟨by repeat (first | (with_reducible first | exact HB.out | apply qb | apply qa | apply qc | refine qg ?_ GE151.out) | exact HB.out)⟩⟩
          ·rw [if_neg c31] at H
           exact absurd H (by simp)
         ·rw [if_neg c30] at H
          have c30b0 : decide (x9_3 < 6) = false := decide_eq_false c30
          clear c30
          have H' := Aside0.mk H
          clear H
          obtain ⟨Ao33, co33, eo33⟩ := Kd.R_slice HO_4.out
          subst eo33
          go_wp2
          go_loopg [10, 11] k3 (fun kq v10 v11 w' => ∃ (x10_4 : List Int) (x11_4 : Int), v11 = .int .i64 x11_4 ∧ Aside0 (breviaryref04_Lit.l2 kq x4_3 x10_4 x11_4 = some (r1, r2, r3)) ∧ Aside0 (kq ≤ k3) ∧ Aside0 (Kd.R (Kd.int .i64) 3 w' w.heap.size (fun k_ => some k_ ≠ (v10 : Value).ownBlock) (.slice Ao33 x4_3.length co33) x4_3) ∧ Aside0 (Kd.R (Kd.int .i64) 3 w' w.heap.size (fun k_ => some k_ ≠ ((.slice Ao33 x4_3.length co33) : Value).ownBlock) v10 x10_4) ∧ Aside0 (w'.heap[gb151]? = some (.cells #[.int .i64 x152000_1, .int .i64 x152001_1] 32 (0, 0))) ∧ Aside0 (Below w.heap.size w w'))
          case atStart => exact ⟨(([] : List Int)), (wrap64 ((x4_3.length : Int) - 1)), (by first | rfl | (simp; done) | (simp [*]; done)), H', ⟨Nat.le_refl _⟩, ⟨by (with_reducible repeat (first | apply Kd.R_alloc | apply Kd.R_drewN | apply Kd.R_drew)); exact Kd.R_mono HO_4.out (fun _ hk => (by simp [Value.ownBlock]))⟩, ⟨by first | exact Kd.R_nil _ _ _ _ _ | exact Kd.N_nil _ _ _ _ _ | exact Kd.V_nil _ _ _ _ _ | exact Kd.Q_nil _ _ _ _ _ | exact Kd.S_nil _ _ _ _ _⟩, ⟨by (with_reducible repeat (first | refine qe ?_ _ | refine qf ?_ | refine qd ?_ _)); exact BK151.out⟩, ⟨by repeat (first | (with_reducible first | exact HB.out | apply qb | apply qa | apply qc | refine qg ?_ GE151.out) | exact HB.out)⟩⟩
          case round =>
           clear H'
           try clear c1
           try clear p1
           try clear q1
           try clear hx1
           try clear c2
           try clear p2
           try clear q2
           try clear hx2
           try clear c3
           try clear c3b0
           try clear c4
           try clear c4b0
           try clear p5
           try clear q5
           try clear hx5
           try clear c6
           try clear c6b0
           try clear c6b1
           try clear p6
           try clear p8
           try clear q8
           try clear hx8
           try clear c9
           try clear c9b0
           try clear p10
           try clear q10
           try clear hx10
           try clear c11
           try clear c13
           try clear c13b0
           try clear c14
           try clear c14b0
           try clear c15
           try clear c15b0
           try clear c16
           try clear c16b0
           try clear p17
           try clear q17
           try clear hx17
           try clear c18
           try clear c20
           try clear c20b0
           try clear c21
           try clear c21b0
           try clear c22
           try clear c22b0
           try clear p23
           try clear q23
           try clear hx23
           try clear c24
           try clear c27
           try clear c27b0
           try clear c28
           try clear c30
           try clear c30b0
           try clear c31
           try clear hcz12_0
           try clear hcz12_1
           try clear hcz29_0
           try clear hcz29_1
           try clear hfz12_0
           try clear hfz12_1
           try clear hfz29_0
           try clear hfz29_1
           try clear p1
           try clear p10
           try clear p17
           try clear p2
           try clear p23
           try clear p5
           try clear p6
           try clear p8
           try clear q1
           try clear q10
           try clear q17
           try clear q2
           try clear q23
           try clear q5
           try clear q8
           obtain ⟨x10_4, x11_4, rfl, HA, HK4, HO_4, HO_10, BK151, HB⟩ := hrel
           cases gk with
           | zero => exact absurd HA.out (by simp [breviaryref04_Lit.l2])
           | succ k4 =>
            have H := HA.out
            clear HA
            simp only [breviaryref04_Lit.l2] at H
            by_cases c34 : x11_4 ≥ 0
            ·rw [if_pos c34] at H
             have c34b0 : decide (0 ≤ x11_4) = true := decide_eq_true c34
             clear c34
             by_cases c35 : 0 ≤ x11_4
             ·rw [if_pos c35] at H
              have c35b0 : decide (0 ≤ x11_4) = true := decide_eq_true c35
              clear c35
              by_cases c36 : x11_4 < (x4_3.length : Int)
              ·rw [if_pos c36] at H
               have c36b0 : decide (x11_4 < (x4_3.length : Int)) = true := decide_eq_true c36
               clear c36
               by_cases c37 : x10_4.length < 17592186044416
               ·rw [if_pos c37] at H
                have LMc37 := Aside0.mk c37
                clear c37
                obtain ⟨y162, hy162⟩ : ∃ y_ : List Int, y_ = (x10_4 ++ [rd x4_3 x11_4]) := ⟨_, rfl⟩
                replace H : (breviaryref04_Lit.l2 k4 x4_3 y162 (wrap64 (x11_4 - 1))) = some (r1, r2, r3) := by first | (rw [hy162]; with_reducible exact H) | (have H2_ := (Option.bind_some _ _).symm.trans H; rw [hy162]; with_reducible exact H2_) | (have H2_ := (Option.bind_some _ _).symm.trans H; with_reducible exact H2_) | with_reducible exact H | (rw [hy162]; exact H) | exact H
                have Ny162 := Aside0.mk hy162
                clear hy162
                have H' := Aside0.mk H
                clear H
                have p161 : 0 ≤ (x11_4 : Int) := of_decide_eq_true (by first | (with_reducible assumption) | assumption)
                have q161 : x11_4 < (x4_3.length : Int) := of_decide_eq_true (by first | (with_reducible assumption) | assumption)
                obtain ⟨ad161, e161, hx161_0⟩ := Kd.at_int (Kd.R_reads' HO_4.out).2.2 x11_4 p161 q161
                cases e161
                replace p161 := eq_true p161
                replace q161 := eq_true q161
                go_wp2_with (first | ((with_reducible refine qj1 (b := .append) (xs := #[.tmp 73, .tmp 78]) rfl ?_); at_builtin; refine Kd.R_append (Kd.int .i64) (w0 := w) w.heap.size rfl (.tmp 73) (.tmp 78) 33 3 (.int .i64 0) 8 rfl Tryz.underlying33 info3 rfl (by decide) (by omega) u10 x10_4 (rd x4_3 x11_4) [.int .i64 (rd x4_3 x11_4)] (fun k_ => some k_ ≠ (.slice (some ad161) x4_3.length co33 : Value).ownBlock) (fun _ => False) rfl rfl ?aP (fun _ hk => hk.elim) ?aF ?aO ?aB ?aS ?aL ?_; (case aP => exact rfl); (case aB => exact (by repeat (first | (with_reducible first | exact HB.out | apply qb | apply qa | apply qc | refine qg ?_ GE151.out) | exact HB.out))); (case aF => exact (fun k_ hk => Kd.fresh' (Kd.R_lt (by (with_reducible repeat (first | apply Kd.R_alloc | apply Kd.R_drewN | apply Kd.R_drew)); exact HO_4.out)) k_ hk)); (case aO => exact (by (with_reducible repeat (first | apply Kd.R_alloc | apply Kd.R_drewN | apply Kd.R_drew)); exact HO_10.out)); (case aS => exact (qk (by repeat (first | (with_reducible first | exact HB.out | apply qb | apply qa | apply qc | refine qg ?_ GE151.out) | exact HB.out)))); (case aL => have := LMc37.out; omega); intro v163 w38 ho hb hg hat; rw [← Ny162.out] at ho; have n0_ := Aside0.mk (Kd.R_after (ok := (fun _ => True)) (by (with_reducible repeat (first | apply Kd.R_alloc | apply Kd.R_drewN | apply Kd.R_drew)); exact Kd.R_mono HO_4.out (fun _ hk => ⟨trivial, hk⟩)) hg hat); have n1_ := Aside0.mk (blk_grown (g := gb151) (o := .cells #[.int .i64 x152000_1, .int .i64 x152001_1] 32 (0, 0)) (by (with_reducible repeat (first | refine qe ?_ _ | refine qf ?_ | refine qd ?_ _)); exact BK151.out) hg (Kd.R_ne HO_10.out BK151.out (by decide))); have n2_ := Aside0.mk (hb); have n3_ := Aside0.mk (ho); clear HO_4; clear BK151; clear HB; clear HO_10; have HO_4 := n0_; have BK151 := n1_; have HB := n2_; have HO164 := n3_; clear n0_ n1_ n2_ n3_; clear ho hb hg hat))
                go_roundg k4
                case measure => have := HK1.out; have := HJ25.out; have := HK3.out; have := HK4.out; omega
                case rel => exact ⟨(y162), (wrap64 (x11_4 - 1)), (by first | rfl | (simp; done) | (simp [*]; done)), H', ⟨by have := HK1.out; have := HJ25.out; have := HK3.out; have := HK4.out; omega⟩, ⟨by (with_reducible repeat (first | apply Kd.R_alloc | apply Kd.R_drewN | apply Kd.R_drew)); exact Kd.R_mono HO_4.out (fun _ hk => hk.2)⟩, ⟨by (with_reducible repeat (first | apply Kd.R_alloc | apply Kd.R_drewN | apply Kd.R_drew)); exact HO164.out⟩, ⟨by (with_reducible repeat (first | refine qe ?_ _ | refine qf ?_ | refine qd ?_ _)); exact BK151.out⟩, ⟨by repeat (first | (with_reducible first | exact HB.out | apply qb | apply qa | apply qc | refine qg ?_ GE151.out) | exact HB.out)⟩⟩
               ·rw [if_neg c37] at H
                exact absurd H (by simp)
              ·rw [if_neg c36] at H
               exact absurd H (by simp)
             ·rw [if_neg c35] at H
              exact absurd H (by simp)
            ·rw [if_neg c34] at H
             have c34b0 : decide (0 ≤ x11_4) = false := decide_eq_false c34
             clear c34
             replace H := Option.bind_eq_some_iff.mp H
             obtain ⟨⟨t165, t166⟩, A390, H⟩ := H
             replace H : (some (t165, t166, true)) = some (r1, r2, r3) := H
             have A39 := Aside0.mk A390
             clear A390
             simp only [Option.some.injEq, Prod.mk.injEq] at H
             obtain ⟨rfl, rfl, rfl⟩ := H
             obtain ⟨Ao40, co40, eo40⟩ := Kd.R_slice HO_10.out
             subst eo40
             go_wp2_with (first | ((with_reducible refine qn (f := 107) rfl ?_); refine qs (some 81) rfl rfl Tryz.func107 (by kernel_rfl) rfl #[.bool false, .slice Ao40 x10_4.length co40] rfl (by (try simp only [List.map_toArray, List.map_cons, List.map_nil]); first | done | rfl | (simp only [List.length_drop, List.length_take]; rfl)) ?_; (with_reducible refine (breviaryref03_Made.calls k4 false _ _ x10_4 t165 t166 _ ?side1 ?side2 A39.out).mono ?_); (case side1 => repeat (first | exact (Kd.R_reads' HO_10.out).2.2 | (with_reducible refine Kd.C_alloc ?_ _) | (with_reducible refine Kd.C_drewN ?_ _) | (with_reducible refine Kd.C_drew ?_))); (case side2 => exact (Kd.R_reads' HO_10.out).2.1); rintro e w41 ⟨rfl, hb⟩; refine ⟨_, rfl, ?_⟩; have n0_ := Aside0.mk (Kd.R_below (by (with_reducible repeat (first | apply Kd.R_alloc | apply Kd.R_drewN | apply Kd.R_drew)); exact HO_4.out) hb); have n1_ := Aside0.mk (Kd.R_below (by (with_reducible repeat (first | apply Kd.R_alloc | apply Kd.R_drewN | apply Kd.R_drew)); exact HO_10.out) hb); have n2_ := Aside0.mk (ql (g := gb151) (o := .cells #[.int .i64 x152000_1, .int .i64 x152001_1] 32 (0, 0)) (by (with_reducible repeat (first | refine qe ?_ _ | refine qf ?_ | refine qd ?_ _)); exact BK151.out) hb); have n3_ := Aside0.mk (qj (by repeat (first | (with_reducible first | exact HB.out | apply qb | apply qa | apply qc | refine qg ?_ GE151.out) | exact HB.out)) hb); clear HO_4; clear HO_10; clear BK151; clear HB; have HO_4 := n0_; have HO_10 := n1_; have BK151 := n2_; have HB := n3_; clear n0_ n1_ n2_ n3_; (try clear hb); (try clear hb2); (try clear hk); (try clear hi); have hcz42_0 : w41.cell? ⟨gb151, 0, none⟩ = some (.int .i64 x152000_1) := (qh BK151.out 0).trans rfl; have hcz42_1 : w41.cell? ⟨gb151, 1, none⟩ = some (.int .i64 x152001_1) := (qh BK151.out 1).trans rfl; have hfz42_0 := qi BK151.out 0; have hfz42_1 := qi BK151.out 1))
             refine bodyPost_ret (qz rfl _ _ gb151 32 #[.int .i64 t165, .int .i64 t166] (0, 0) _ rfl (by (with_reducible repeat (first | refine qe ?_ _ | refine qf ?_ | refine qd ?_ _)); refine qm (cs := #[.int .i64 t165, .int .i64 x152001_1]) ?_ 1 _ rfl; (with_reducible repeat (first | refine qe ?_ _ | refine qf ?_ | refine qd ?_ _)); refine qm (cs := #[.int .i64 x152000_1, .int .i64 x152001_1]) ?_ 0 _ rfl; (with_reducible repeat (first | refine qe ?_ _ | refine qf ?_ | refine qd ?_ _)); exact BK151.out) Tryz.underlying32 rfl (by kernel_rfl)) rfl ?_
             exact ⟨by first | rfl | (simp [ ] <;> rfl) | (simp [*] <;> rfl), by repeat (first | (with_reducible first | exact HB.out | apply qb | apply qa | apply qc | refine qg ?_ GE151.out) | exact HB.out)⟩

def breviaryref12_begins.f (a0 : ByteArray) (a1 : Int) (a2 : ByteArray) : Option (Bool) := if (wrap64 (a1 + (a2.size : Int))) ≤ (a0.size : Int) then (if 0 ≤ a1 then (if a1 ≤ (wrap64 (a1 + (a2.size : Int))) then (some ((a0.extract (a1 : Int).toNat ((wrap64 (a1 + (a2.size : Int))) : Int).toNat).toList == a2.toList)) else (none)) else (none)) else (some false)
theorem breviaryref12_begins.calls (a0 : ByteArray) (a1 : Int) (a2 : ByteArray) (r : Bool) (w : World) (h : breviaryref12_begins.f a0 a1 a2 = some r) :
  Calls Tryz.prog 108 #[.string a0, .int .i64 a1, .string a2] w fun e w' => e = .returned (.bool r) ∧ Drawn0 w w' := by
 have H : (if (wrap64 (a1 + (a2.size : Int))) ≤ (a0.size : Int) then (if 0 ≤ a1 then (if a1 ≤ (wrap64 (a1 + (a2.size : Int))) then (some ((a0.extract (a1 : Int).toNat ((wrap64 (a1 + (a2.size : Int))) : Int).toNat).toList == a2.toList)) else (none)) else (none)) else (some false)) = some r := h
 clear h
 by_cases c4 : (wrap64 (a1 + (a2.size : Int))) ≤ (a0.size : Int)
 ·rw [if_pos c4] at H
  have c4b0 : decide ((wrap64 (a1 + (a2.size : Int))) ≤ (a0.size : Int)) = true := decide_eq_true c4
  clear c4
  by_cases c5 : 0 ≤ a1
  ·rw [if_pos c5] at H
   have c5b0 := eq_true c5
   have c5b1 : decide (0 ≤ a1) = true := decide_eq_true c5
   clear c5
   by_cases c6 : a1 ≤ (wrap64 (a1 + (a2.size : Int)))
   ·rw [if_pos c6] at H
    have c6b0 := eq_true c6
    have c6b1 : decide (a1 ≤ (wrap64 (a1 + (a2.size : Int)))) = true := decide_eq_true c6
    have c7b0 := eq_true (of_decide_eq_true (by first | (with_reducible assumption) | assumption) : (wrap64 (a1 + (a2.size : Int))) ≤ (a0.size : Int))
    obtain rfl := Option.some.inj H
    go_enter Tryz.func108, Tryz.ntmps108
    go_wp2
    go_ret
    exact ⟨by first | rfl | (simp; done) | (simp [*]; done), by repeat (first | exact Drawn0.refl _ | apply Drawn0.step)⟩
   ·rw [if_neg c6] at H
    exact absurd H (by simp)
  ·rw [if_neg c5] at H
   exact absurd H (by simp)
 ·rw [if_neg c4] at H
  have c4b0 : decide ((wrap64 (a1 + (a2.size : Int))) ≤ (a0.size : Int)) = false := decide_eq_false c4
  clear c4
  obtain rfl := Option.some.inj H
  go_enter Tryz.func108, Tryz.ntmps108
  go_wp2
  go_ret
  exact ⟨by first | rfl | (simp; done) | (simp [*]; done), by repeat (first | exact Drawn0.refl _ | apply Drawn0.step)⟩

end Go.Proofs.YthilcidoacgdfaaGreatDoor.PF
