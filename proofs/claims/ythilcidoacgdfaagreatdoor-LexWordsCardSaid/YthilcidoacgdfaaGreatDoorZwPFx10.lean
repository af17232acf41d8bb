import Derived.Test.YthilcidoacgdfaaGreatDoorZwPFx3
import Derived.Test.YthilcidoacgdfaaGreatDoorZwPFx5
import Derived.Test.YthilcidoacgdfaaGreatDoorZwPFx7
import Derived.Test.YthilcidoacgdfaaGreatDoorZwPFx8
import Derived.Test.YthilcidoacgdfaaGreatDoorZwPFx9
set_option maxHeartbeats 8000000
set_option maxRecDepth 100000
namespace Go.Proofs.YthilcidoacgdfaaGreatDoorW.PrintLast
end Go.Proofs.YthilcidoacgdfaaGreatDoorW.PrintLast
namespace Go.Proofs.YthilcidoacgdfaaGreatDoorW.PrintMore
end Go.Proofs.YthilcidoacgdfaaGreatDoorW.PrintMore
namespace Go.Proofs.YthilcidoacgdfaaGreatDoorW.PrintWords
end Go.Proofs.YthilcidoacgdfaaGreatDoorW.PrintWords
namespace Go.Proofs.YthilcidoacgdfaaGreatDoor.PF
open Go.RowKit YthilcidoacgdfaaGreatDoorW.PrintWords YthilcidoacgdfaaGreatDoorW.PrintLast YthilcidoacgdfaaGreatDoorW.PrintMore

set_option linter.unusedVariables false
set_option linter.unusedSimpArgs false

mutual
def breviaryref12_one.j0 : Nat → ByteArray → Int → List (S49) → Int → Bool → Option (Int × ByteArray × Int × Int × Int)
 | 0, _, _, _, _, _ => none
 | k + 1, x0, x1, x2, x8, x27 => if x27 = true then (if 0 ≤ x1 then (if x1 ≤ (wrap64 (x1 + 1)) then (if (wrap64 (x1 + 1)) ≤ (x0.size : Int) then ((breviaryref06_Find.f k x0 (wrap64 (x1 + 1)) (x0.extract (x1 : Int).toNat ((wrap64 (x1 + 1)) : Int).toNat)).bind fun t223 => (if t223 < 0 then (some (0, (⟨#[]⟩ : ByteArray), 0, 0, 0)) else (if 0 ≤ (wrap64 (x1 + 1)) then (if (wrap64 (x1 + 1)) ≤ t223 then (if t223 ≤ (x0.size : Int) then (some (8, x0.extract ((wrap64 (x1 + 1)) : Int).toNat (t223 : Int).toNat, 0, 0, wrap64 (t223 + 1))) else (none)) else (none)) else (none)))) else (none)) else (none)) else (none)) else ((breviaryref12_digits.f k x0 x1).bind fun t224 => (if t224 > x1 then (breviaryref12_one.j1 k x0 x1 x2 x8 t224 true) else (if x8 = 46 then ((breviaryref12_digits.f k x0 (wrap64 (x1 + 1))).bind fun t225 => (breviaryref12_one.j1 k x0 x1 x2 x8 t224 (decide (t225 > (wrap64 (x1 + 1)))))) else (breviaryref12_one.j1 k x0 x1 x2 x8 t224 false))))
def breviaryref12_one.j1 : Nat → ByteArray → Int → List (S49) → Int → Int → Bool → Option (Int × ByteArray × Int × Int × Int)
 | 0, _, _, _, _, _, _ => none
 | k + 1, x0, x1, x2, x8, x10, x66 => if x66 = true then (if x10 < (x0.size : Int) then (if 0 ≤ x10 then (breviaryref12_one.j2 k x0 x1 x10 ((bt x0 x10) == 46)) else (none)) else (breviaryref12_one.j2 k x0 x1 x10 false)) else ((breviaryref12_sign.f k x0 x1).bind fun bt235 => (if bt235.1 > 0 then (some (bt235.1, bt235.2, 0, 0, wrap64 (x1 + (bt235.2.size : Int)))) else (if x8 = 42 then ((breviaryref12_ends.f k x2).bind fun t237 => (if t237 = true then (some (5, (⟨#[42]⟩ : ByteArray), 0, 0, wrap64 (x1 + 1))) else (some (3, (⟨#[42]⟩ : ByteArray), 0, 0, wrap64 (x1 + 1))))) else (if x8 = 36 then ((breviaryref06_Run.f k x0 (wrap64 (x1 + 1))).bind fun t238 => (if 0 ≤ (wrap64 (x1 + 1)) then (if (wrap64 (x1 + 1)) ≤ t238 then (if t238 ≤ (x0.size : Int) then ((breviaryref01_Name.f k (x0.extract ((wrap64 (x1 + 1)) : Int).toNat (t238 : Int).toNat)).bind fun t239 => (if t239 = true then (some (10, x0.extract ((wrap64 (x1 + 1)) : Int).toNat (t238 : Int).toNat, 0, 0, t238)) else (some (0, (⟨#[]⟩ : ByteArray), 0, 0, 0)))) else (none)) else (none)) else (none))) else ((breviaryref06_Run.f k x0 x1).bind fun t240 => ((breviaryref12_named.f k x0 x1 t240 x2).bind fun bt241 => (if bt241.2.2.2.2 = true then (some (bt241.1, bt241.2.1, bt241.2.2.1, bt241.2.2.2.1, t240)) else (some (0, (⟨#[]⟩ : ByteArray), 0, 0, 0)))))))))
def breviaryref12_one.j2 : Nat → ByteArray → Int → Int → Bool → Option (Int × ByteArray × Int × Int × Int)
 | 0, _, _, _, _ => none
 | k + 1, x0, x1, x10, x76 => if x76 = true then ((breviaryref12_digits.f k x0 (wrap64 (x10 + 1))).bind fun t226 => (if 0 ≤ x1 then (if x1 ≤ t226 then (if t226 ≤ (x0.size : Int) then ((breviaryref04_Lit.f k (x0.extract (x1 : Int).toNat (t226 : Int).toNat)).bind fun bt227 => (if bt227.2.2 = true then (if bt227.1 = 0 then (some (9, x0.extract (x1 : Int).toNat (t226 : Int).toNat, bt227.1, bt227.2.1, t226)) else (some (0, (⟨#[]⟩ : ByteArray), 0, 0, 0))) else (some (0, (⟨#[]⟩ : ByteArray), 0, 0, 0)))) else (none)) else (none)) else (none))) else (if 0 ≤ x1 then (if x1 ≤ x10 then (if x10 ≤ (x0.size : Int) then ((breviaryref04_Lit.f k (x0.extract (x1 : Int).toNat (x10 : Int).toNat)).bind fun bt231 => (if bt231.2.2 = true then (if bt231.1 = 0 then (some (9, x0.extract (x1 : Int).toNat (x10 : Int).toNat, bt231.1, bt231.2.1, x10)) else (some (0, (⟨#[]⟩ : ByteArray), 0, 0, 0))) else (some (0, (⟨#[]⟩ : ByteArray), 0, 0, 0)))) else (none)) else (none)) else (none))
end
def breviaryref12_one.f (k : Nat) (a0 : ByteArray) (a1 : Int) (l2 : List (S49)) : Option (Int × ByteArray × Int × Int × Int) := if 0 ≤ a1 then (if a1 < (a0.size : Int) then (if (bt a0 a1) = 34 then (breviaryref12_one.j0 k a0 a1 l2 (bt a0 a1) true) else (breviaryref12_one.j0 k a0 a1 l2 (bt a0 a1) ((bt a0 a1) == 39))) else (none)) else (none)
def breviaryref12_one.T14 : Bool × List (List Nat × List Nat) := (true, [([], []), ([], []), ([], []), ([0, 1, 2], [0, 1, 2]), ([], []), ([3, 4], [3, 4]), ([], []), ([5, 0, 1, 2, 3, 4, 5], [5]), ([6, 7, 0, 1, 2, 3, 4, 5, 6, 7], [6])])
def breviaryref12_one.B14 : List Nat := [0, 0, 0, 7, 0, 31, 0, 63, 255]
theorem breviaryref12_one.tab14 : rtab .any (opsOf Tryz.f35 14) = breviaryref12_one.T14 := by kernel_rfl
theorem breviaryref12_one.bits14 : waitsOk breviaryref12_one.T14.2 breviaryref12_one.B14 = true := by kernel_rfl
theorem breviaryref12_one.calls (k : Nat) (a0 : ByteArray) (a1 : Int) (A2 : Option Addr) (c2 : Nat) (l2 : List (S49)) (r1 : Int) (r2 : ByteArray) (r3 : Int) (r4 : Int) (r5 : Int) (w : World) (hr2 : Kd.C k49 w A2 l2.length l2) (hc2 : l2.length ≤ c2) (h : breviaryref12_one.f k a0 a1 l2 = some (r1, r2, r3, r4, r5)) :
  Calls Tryz.prog 35 #[.string a0, .int .i64 a1, .slice A2 l2.length c2] w fun e w' => e = .returned (.tuple #[.agg #[.int .i64 r1, .string r2, .int .i64 r3, .int .i64 r4], .int .i64 r5]) ∧ Below w.heap.size w w' := by
 have hu49 := Tryz.underlying49
 have hu32 := Tryz.underlying32
 have HR2 := Aside0.mk hr2
 have HC2 := Aside0.mk hc2
 clear hr2 hc2
 have HB := Aside0.mk (Below.refl w.heap.size w)
 have H : (if 0 ≤ a1 then (if a1 < (a0.size : Int) then (if (bt a0 a1) = 34 then (breviaryref12_one.j0 k a0 a1 l2 (bt a0 a1) true) else (breviaryref12_one.j0 k a0 a1 l2 (bt a0 a1) ((bt a0 a1) == 39))) else (none)) else (none)) = some (r1, r2, r3, r4, r5) := h
 clear h
 by_cases c4 : 0 ≤ a1
 ·rw [if_pos c4] at H
  have c4b0 : decide (0 ≤ a1) = true := decide_eq_true c4
  clear c4
  by_cases c5 : a1 < (a0.size : Int)
  ·rw [if_pos c5] at H
   have c5b0 : decide (a1 < (a0.size : Int)) = true := decide_eq_true c5
   clear c5
   have HC7 := Aside0.mk H
   clear H
   go_enter Tryz.func35, Tryz.ntmps35
   go_upto_region 2 with (first | ((with_reducible refine qo (N := 6) rfl ?_); refine qp ?hg (N := 6) ?hd (cs := #[.int .i64 0, .string (⟨#[]⟩ : ByteArray), .int .i64 0, .int .i64 0]) (t := 49) ?hr ?_; (case hd => rfl); (case hg => rfl); (case hr => first | (go_simp; done) | (go_simp; rfl)); intro gb222 hg w8 hbox hb; have n0_ := Aside0.mk (qj (by repeat (first | (with_reducible first | exact HB.out | apply qb | apply qa | apply qc) | exact HB.out)) hb); have n1_ := Aside0.mk (hbox); have n2_ := Aside0.mk ((by rw [hg]; exact (qk (by repeat (first | (with_reducible first | exact HB.out | apply qb | apply qa | apply qc) | exact HB.out))) : w.heap.size ≤ gb222)); have n3_ := Aside0.mk ((by rw [hg]; exact (qk (by repeat (first | (with_reducible first | exact HB.out | apply qb | apply qa | apply qc) | exact HB.out))) : w.heap.size ≤ gb222)); clear HB; have HB := n0_; have BK222 := n1_; have GW222 := n2_; have GE222 := n3_; clear n0_ n1_ n2_ n3_; clear hb hbox hg; have p6 : 0 ≤ (a1 : Int) := of_decide_eq_true (by first | (with_reducible assumption) | assumption); have q6 : a1 < (a0.size : Int) := of_decide_eq_true (by first | (with_reducible assumption) | assumption); have hx6 := bt_at a0 a1; replace p6 := eq_true p6; replace q6 := eq_true q6))
   (try simp only [Act.put, List.setIfInBounds_toArray, List.set_cons_zero, List.set_cons_succ])
   go_cut [27] (fun v27 wc => ∃ (kq : Nat) (x27_6 : Bool), v27 = .bool x27_6 ∧ Aside0 (breviaryref12_one.j0 kq a0 a1 l2 (bt a0 a1) x27_6 = some (r1, r2, r3, r4, r5)) ∧ Aside0 (kq ≤ k) ∧ Aside0 (wc.heap[gb222]? = some (.cells #[.int .i64 0, .string (⟨#[]⟩ : ByteArray), .int .i64 0, .int .i64 0] 49 (0, 0))) ∧ Aside0 (Below w.heap.size w wc))
   case first =>
    have H := HC7.out
    clear HC7
    by_cases c9 : (bt a0 a1) = 34
    ·rw [if_pos c9] at H
     have c9b0 : ((bt a0 a1) == 34) = true := beq_iff_eq.mpr c9
     have c9b1 : ((bt a0 a1) != 34) = false := bne_eq_false_iff_eq.mpr c9
     clear c9
     (first | rw [c9b0] | (simp only [i64_w]; rw [c9b0]) | skip)
     have H' := Aside0.mk H
     clear H
     go_wp2
     go_meet
     case rel => exact ⟨_, (true), (by first | rfl | (simp; done) | (simp [*]; done)), H', ⟨by first | omega | exact Nat.le_refl _⟩, ⟨by (with_reducible repeat (first | refine qe ?_ _ | refine qf ?_ | refine qd ?_ _)); exact BK222.out⟩, ⟨by repeat (first | (with_reducible first | exact HB.out | apply qb | apply qa | apply qc | refine qg ?_ GE222.out) | exact HB.out)⟩⟩
    ·rw [if_neg c9] at H
     have c9b0 : ((bt a0 a1) == 34) = false := beq_eq_false_iff_ne.mpr c9
     have c9b1 : ((bt a0 a1) != 34) = true := bne_iff_ne.mpr c9
     (first | rw [c9b0] | (simp only [i64_w]; rw [c9b0]) | skip)
     have H' := Aside0.mk H
     clear H
     go_wp2
     go_meet
     case rel => exact ⟨_, (((bt a0 a1) == 39)), (by first | rfl | (simp; done) | (simp [*]; done)), H', ⟨by first | omega | exact Nat.le_refl _⟩, ⟨by (with_reducible repeat (first | refine qe ?_ _ | refine qf ?_ | refine qd ?_ _)); exact BK222.out⟩, ⟨by repeat (first | (with_reducible first | exact HB.out | apply qb | apply qa | apply qc | refine qg ?_ GE222.out) | exact HB.out)⟩⟩
   case rest =>
    clear HC7
    try clear c2
    try clear p2
    try clear c3
    try clear c4
    try clear c4b0
    try clear c5
    try clear c5b0
    try clear p6
    try clear q6
    try clear hx6
    try clear c9
    try clear c9b0
    try clear c9b1
    try clear p6
    try clear q6
    obtain ⟨kq, x27_6, rfl, HA, HJ6, BK222, HB⟩ := hcut
    cases kq with
    | zero => exact absurd HA.out (by simp [breviaryref12_one.j0])
    | succ kj6 =>
     have H := HA.out
     clear HA
     simp only [breviaryref12_one.j0] at H
     by_cases c10 : x27_6 = true
     ·subst c10
      have H1 : (if 0 ≤ a1 then (if a1 ≤ (wrap64 (a1 + 1)) then (if (wrap64 (a1 + 1)) ≤ (a0.size : Int) then ((breviaryref06_Find.f kj6 a0 (wrap64 (a1 + 1)) (a0.extract (a1 : Int).toNat ((wrap64 (a1 + 1)) : Int).toNat)).bind fun t223 => (if t223 < 0 then (some (0, (⟨#[]⟩ : ByteArray), 0, 0, 0)) else (if 0 ≤ (wrap64 (a1 + 1)) then (if (wrap64 (a1 + 1)) ≤ t223 then (if t223 ≤ (a0.size : Int) then (some (8, a0.extract ((wrap64 (a1 + 1)) : Int).toNat (t223 : Int).toNat, 0, 0, wrap64 (t223 + 1))) else (none)) else (none)) else (none)))) else (none)) else (none)) else (none)) = some (r1, r2, r3, r4, r5) := by rw [if_pos rfl] at H; exact H
      clear H
      have H := H1
      clear H1
      by_cases c11 : 0 ≤ a1
      ·rw [if_pos c11] at H
       have c11b0 := eq_true c11
       have c11b1 : decide (0 ≤ a1) = true := decide_eq_true c11
       clear c11
       by_cases c12 : a1 ≤ (wrap64 (a1 + 1))
       ·rw [if_pos c12] at H
        have c12b0 := eq_true c12
        have c12b1 : decide (a1 ≤ (wrap64 (a1 + 1))) = true := decide_eq_true c12
        by_cases c13 : (wrap64 (a1 + 1)) ≤ (a0.size : Int)
        ·rw [if_pos c13] at H
         have c13b0 := eq_true c13
         have c13b1 : decide ((wrap64 (a1 + 1)) ≤ (a0.size : Int)) = true := decide_eq_true c13
         replace H := Option.bind_eq_some_iff.mp H
         obtain ⟨t223, A140, H⟩ := H
         replace H : (if t223 < 0 then (some (0, (⟨#[]⟩ : ByteArray), 0, 0, 0)) else (if 0 ≤ (wrap64 (a1 + 1)) then (if (wrap64 (a1 + 1)) ≤ t223 then (if t223 ≤ (a0.size : Int) then (some (8, a0.extract ((wrap64 (a1 + 1)) : Int).toNat (t223 : Int).toNat, 0, 0, wrap64 (t223 + 1))) else (none)) else (none)) else (none))) = some (r1, r2, r3, r4, r5) := H
         have A14 := Aside0.mk A140
         clear A140
         by_cases c15 : t223 < 0
         ·rw [if_pos c15] at H
          have c15b0 : decide (t223 < 0) = true := decide_eq_true c15
          clear c15
          simp only [Option.some.injEq, Prod.mk.injEq] at H
          obtain ⟨rfl, rfl, rfl, rfl, rfl⟩ := H
          go_wp2_with (first | ((with_reducible refine qn (f := 64) rfl ?_); refine qs (some 36) rfl rfl Tryz.func64 (by kernel_rfl) rfl #[.string a0, .int .i64 (wrap64 (a1 + 1)), .string (a0.extract (a1 : Int).toNat ((wrap64 (a1 + 1)) : Int).toNat)] rfl (by (try simp only [List.map_toArray, List.map_cons, List.map_nil]); first | done | rfl | (simp only [List.length_drop, List.length_take]; rfl)) ?_; (with_reducible refine (breviaryref06_Find.calls kj6 a0 (wrap64 (a1 + 1)) (a0.extract (a1 : Int).toNat ((wrap64 (a1 + 1)) : Int).toNat) t223 _ A14.out).mono ?_); rintro e w' ⟨rfl, ⟨nd, rfl⟩⟩; refine ⟨_, rfl, ?_⟩; (try (rw [qf1 wc]; generalize hq_ : World.drewN wc _ = wc; have n0_ : Aside0 (wc.heap[gb222]? = some (.cells #[.int .i64 0, .string (⟨#[]⟩ : ByteArray), .int .i64 0, .int .i64 0] 49 (0, 0))) := ⟨by rw [← hq_]; exact (by (with_reducible repeat (first | refine qe ?_ _ | refine qf ?_ | refine qd ?_ _)); exact BK222.out)⟩; have n1_ : Aside0 (Below w.heap.size w wc) := ⟨by rw [← hq_]; exact (by repeat (first | (with_reducible first | exact HB.out | apply qb | apply qa | apply qc | refine qg ?_ GE222.out) | exact HB.out))⟩; clear BK222 HB hq_; have BK222 := n0_; have HB := n1_; clear n0_ n1_)); have hcz16_0 : wc.cell? ⟨gb222, 0, none⟩ = some (.int .i64 0) := (qh BK222.out 0).trans rfl; have hcz16_1 : wc.cell? ⟨gb222, 1, none⟩ = some (.string (⟨#[]⟩ : ByteArray)) := (qh BK222.out 1).trans rfl; have hcz16_2 : wc.cell? ⟨gb222, 2, none⟩ = some (.int .i64 0) := (qh BK222.out 2).trans rfl; have hcz16_3 : wc.cell? ⟨gb222, 3, none⟩ = some (.int .i64 0) := (qh BK222.out 3).trans rfl; have hfz16_0 := qi BK222.out 0; have hfz16_1 := qi BK222.out 1; have hfz16_2 := qi BK222.out 2; have hfz16_3 := qi BK222.out 3))
          refine bodyPost_ret (qz rfl _ _ gb222 49 #[.int .i64 0, .string (⟨#[]⟩ : ByteArray), .int .i64 0, .int .i64 0] (0, 0) _ rfl (by (with_reducible repeat (first | refine qe ?_ _ | refine qf ?_ | refine qd ?_ _)); refine qm (cs := #[.int .i64 0, .string (⟨#[]⟩ : ByteArray), .int .i64 0, .int .i64 0]) ?_ 3 _ rfl; (with_reducible repeat (first | refine qe ?_ _ | refine qf ?_ | refine qd ?_ _)); refine qm (cs := #[.int .i64 0, .string (⟨#[]⟩ : ByteArray), .int .i64 0, .int .i64 0]) ?_ 2 _ rfl; (with_reducible repeat (first | refine qe ?_ _ | refine qf ?_ | refine qd ?_ _)); refine qm (cs := #[.int .i64 0, .string (⟨#[]⟩ : ByteArray), .int .i64 0, .int .i64 0]) ?_ 1 _ rfl; (with_reducible repeat (first | refine qe ?_ _ | refine qf ?_ | refine qd ?_ _)); refine qm (cs := #[.int .i64 0, .string (⟨#[]⟩ : ByteArray), .int .i64 0, .int .i64 0]) ?_ 0 _ rfl; (with_reducible repeat (first | refine qe ?_ _ | refine qf ?_ | refine qd ?_ _)); exact BK222.out) Tryz.underlying49 rfl (by kernel_rfl)) rfl ?_
          exact ⟨by first | rfl | (simp [ ] <;> rfl) | (simp [*] <;> rfl), by repeat (first | (with_reducible first | exact HB.out | apply qb | apply qa | apply qc | refine qg ?_ GE222.out) | exact HB.out)⟩
         ·rw [if_neg c15] at H
          have c15b0 : decide (t223 < 0) = false := decide_eq_false c15
          clear c15
          obtain ⟨ji17, hji17⟩ : ∃ j_ : Int, (wrap64 (a1 + 1)) = j_ := ⟨_, rfl⟩
          replace H : (if 0 ≤ (ji17) then (if (ji17) ≤ t223 then (if t223 ≤ (a0.size : Int) then (some (8, a0.extract ((ji17) : Int).toNat (t223 : Int).toNat, 0, 0, wrap64 (t223 + 1))) else (none)) else (none)) else (none)) = some (r1, r2, r3, r4, r5) := by first | (rw [hji17] at H; exact H) | (simp only [hji17] at H ⊢; exact H)
          (try rw [hji17] at c12b0)
          (try rw [hji17] at c12b1)
          (try rw [hji17] at c12)
          (try rw [hji17] at c13b0)
          (try rw [hji17] at c13b1)
          (try rw [hji17] at c13)
          (try rw [hji17] at A14)
          have hji17w : (IntKind.i64.wrap (a1 + 1)) = ji17 := (i64_w _).trans hji17
          by_cases c18 : 0 ≤ (ji17)
          ·rw [if_pos c18] at H
           have c18b0 := eq_true c18
           have c18b1 : decide (0 ≤ (ji17)) = true := decide_eq_true c18
           clear c18
           by_cases c19 : (ji17) ≤ t223
           ·rw [if_pos c19] at H
            have c19b0 := eq_true c19
            have c19b1 : decide ((ji17) ≤ t223) = true := decide_eq_true c19
            clear c19
            by_cases c20 : t223 ≤ (a0.size : Int)
            ·rw [if_pos c20] at H
             have c20b0 := eq_true c20
             have c20b1 : decide (t223 ≤ (a0.size : Int)) = true := decide_eq_true c20
             clear c20
             simp only [Option.some.injEq, Prod.mk.injEq] at H
             obtain ⟨rfl, rfl, rfl, rfl, rfl⟩ := H
             go_wp2_with (first | ((with_reducible refine qn (f := 64) rfl ?_); refine qs (some 36) rfl rfl Tryz.func64 (by kernel_rfl) rfl #[.string a0, .int .i64 ji17, .string (a0.extract (a1 : Int).toNat ((ji17) : Int).toNat)] rfl (by (try simp only [List.map_toArray, List.map_cons, List.map_nil]); first | done | (simp only [hji17]; rfl) | rfl | (simp only [List.length_drop, List.length_take]; rfl)) ?_; (with_reducible refine (breviaryref06_Find.calls kj6 a0 ji17 (a0.extract (a1 : Int).toNat ((ji17) : Int).toNat) t223 _ A14.out).mono ?_); rintro e w' ⟨rfl, ⟨nd, rfl⟩⟩; refine ⟨_, rfl, ?_⟩; (try (rw [qf1 wc]; generalize hq_ : World.drewN wc _ = wc; have n0_ : Aside0 (wc.heap[gb222]? = some (.cells #[.int .i64 0, .string (⟨#[]⟩ : ByteArray), .int .i64 0, .int .i64 0] 49 (0, 0))) := ⟨by rw [← hq_]; exact (by (with_reducible repeat (first | refine qe ?_ _ | refine qf ?_ | refine qd ?_ _)); exact BK222.out)⟩; have n1_ : Aside0 (Below w.heap.size w wc) := ⟨by rw [← hq_]; exact (by repeat (first | (with_reducible first | exact HB.out | apply qb | apply qa | apply qc | refine qg ?_ GE222.out) | exact HB.out))⟩; clear BK222 HB hq_; have BK222 := n0_; have HB := n1_; clear n0_ n1_)); have hcz21_0 : wc.cell? ⟨gb222, 0, none⟩ = some (.int .i64 0) := (qh BK222.out 0).trans rfl; have hcz21_1 : wc.cell? ⟨gb222, 1, none⟩ = some (.string (⟨#[]⟩ : ByteArray)) := (qh BK222.out 1).trans rfl; have hcz21_2 : wc.cell? ⟨gb222, 2, none⟩ = some (.int .i64 0) := (qh BK222.out 2).trans rfl; have hcz21_3 : wc.cell? ⟨gb222, 3, none⟩ = some (.int .i64 0) := (qh BK222.out 3).trans rfl; have hfz21_0 := qi BK222.out 0; have hfz21_1 := qi BK222.out 1; have hfz21_2 := qi BK222.out 2; have hfz21_3 := qi BK222.out 3))
             refine bodyPost_ret (qz rfl _ _ gb222 49 #[.int .i64 8, .string (a0.extract ((ji17) : Int).toNat (t223 : Int).toNat), .int .i64 0, .int .i64 0] (0, 0) _ rfl (by (with_reducible repeat (first | refine qe ?_ _ | refine qf ?_ | refine qd ?_ _)); refine qm (cs := #[.int .i64 8, .string (a0.extract ((ji17) : Int).toNat (t223 : Int).toNat), .int .i64 0, .int .i64 0]) ?_ 3 _ rfl; (with_reducible repeat (first | refine qe ?_ _ | refine qf ?_ | refine qd ?_ _)); refine qm (cs := #[.int .i64 8, .string (a0.extract ((ji17) : Int).toNat (t223 : Int).toNat), .int .i64 0, .int .i64 0]) ?_ 2 _ rfl; (with_reducible repeat (first | refine qe ?_ _ | refine qf ?_ | refine qd ?_ _)); refine qm (cs := #[.int .i64 8, .string (⟨#[]⟩ : ByteArray), .int .i64 0, .int .i64 0]) ?_ 1 _ rfl; (with_reducible repeat (first | refine qe ?_ _ | refine qf ?_ | refine qd ?_ _)); refine qm (cs := #[.int .i64 0, .string (⟨#[]⟩ : ByteArray), .int .i64 0, .int .i64 0]) ?_ 0 _ rfl; (with_reducible repeat (first | refine qe ?_ _ | refine qf ?_ | refine qd ?_ _)); exact BK222.out) Tryz.underlying49 rfl (by kernel_rfl)) rfl ?_
             exact ⟨by first | rfl | (simp [ ] <;> rfl) | (simp only [← hji17]; first | rfl | (simp [ ] <;> rfl)) | (simp [*] <;> rfl), by repeat (first | (with_reducible first | exact HB.out | apply qb | apply qa | apply qc | refine qg ?_ GE222.out) | exact HB.out)⟩
            ·rw [if_neg c20] at H
             exact absurd H (by simp)
           ·rw [if_neg c19] at H
            exact absurd H (by simp)
          ·rw [if_neg c18] at H
           exact absurd H (by simp)
        ·rw [if_neg c13] at H
         exact absurd H (by simp)
       ·rw [if_neg c12] at H
        exact absurd H (by simp)
      ·rw [if_neg c11] at H
       exact absurd H (by simp)
     ·replace c10 := Bool.eq_false_iff.mpr c10
      subst c10
      have H1 : ((breviaryref12_digits.f kj6 a0 a1).bind fun t224 => (if t224 > a1 then (breviaryref12_one.j1 kj6 a0 a1 l2 (bt a0 a1) t224 true) else (if (bt a0 a1) = 46 then ((breviaryref12_digits.f kj6 a0 (wrap64 (a1 + 1))).bind fun t225 => (breviaryref12_one.j1 kj6 a0 a1 l2 (bt a0 a1) t224 (decide (t225 > (wrap64 (a1 + 1)))))) else (breviaryref12_one.j1 kj6 a0 a1 l2 (bt a0 a1) t224 false)))) = some (r1, r2, r3, r4, r5) := by rw [if_neg (show ¬ (false = true) by decide)] at H; exact H
      clear H
      have H := H1
      clear H1
      replace H := Option.bind_eq_some_iff.mp H
      obtain ⟨t224, A220, H⟩ := H
      replace H : (if t224 > a1 then (breviaryref12_one.j1 kj6 a0 a1 l2 (bt a0 a1) t224 true) else (if (bt a0 a1) = 46 then ((breviaryref12_digits.f kj6 a0 (wrap64 (a1 + 1))).bind fun t225 => (breviaryref12_one.j1 kj6 a0 a1 l2 (bt a0 a1) t224 (decide (t225 > (wrap64 (a1 + 1)))))) else (breviaryref12_one.j1 kj6 a0 a1 l2 (bt a0 a1) t224 false))) = some (r1, r2, r3, r4, r5) := H
      have A22 := Aside0.mk A220
      clear A220
      have HC23 := Aside0.mk H
      clear H
      go_upto_region 8 with (first | ((with_reducible refine qn (f := 65) rfl ?_); refine qs (some 50) rfl rfl Tryz.func65 (by kernel_rfl) rfl #[.string a0, .int .i64 a1] rfl (by (try simp only [List.map_toArray, List.map_cons, List.map_nil]); first | done | rfl | (simp only [List.length_drop, List.length_take]; rfl)) ?_; (with_reducible refine (breviaryref12_digits.calls kj6 a0 a1 t224 _ A22.out).mono ?_); rintro e w' ⟨rfl, ⟨nd, rfl⟩⟩; refine ⟨_, rfl, ?_⟩))
      (try simp only [Act.put, List.setIfInBounds_toArray, List.set_cons_zero, List.set_cons_succ])
      go_cut [66] (fun v66 wc => ∃ (kq : Nat) (x66_22 : Bool), v66 = .bool x66_22 ∧ Aside0 (breviaryref12_one.j1 kq a0 a1 l2 (bt a0 a1) t224 x66_22 = some (r1, r2, r3, r4, r5)) ∧ Aside0 (kq ≤ kj6) ∧ Aside0 (wc.heap[gb222]? = some (.cells #[.int .i64 0, .string (⟨#[]⟩ : ByteArray), .int .i64 0, .int .i64 0] 49 (0, 0))) ∧ Aside0 (Below w.heap.size w wc))
      case first =>
       have H := HC23.out
       clear HC23
       by_cases c24 : t224 > a1
       ·rw [if_pos c24] at H
        have c24b0 : decide (a1 < t224) = true := decide_eq_true c24
        clear c24
        (first | rw [c24b0] | (simp only [i64_w]; rw [c24b0]) | skip)
        have H' := Aside0.mk H
        clear H
        go_wp2
        go_meet
        case rel => exact ⟨_, (true), (by first | rfl | (simp; done) | (simp [*]; done)), H', ⟨by have := HJ6.out; first | omega | exact Nat.le_refl _⟩, ⟨by (with_reducible repeat (first | refine qe ?_ _ | refine qf ?_ | refine qd ?_ _)); exact BK222.out⟩, ⟨by repeat (first | (with_reducible first | exact HB.out | apply qb | apply qa | apply qc | refine qg ?_ GE222.out) | exact HB.out)⟩⟩
       ·rw [if_neg c24] at H
        have c24b0 : decide (a1 < t224) = false := decide_eq_false c24
        clear c24
        (first | rw [c24b0] | (simp only [i64_w]; rw [c24b0]) | skip)
        by_cases c25 : (bt a0 a1) = 46
        ·rw [if_pos c25] at H
         have c25b0 : ((bt a0 a1) == 46) = true := beq_iff_eq.mpr c25
         have c25b1 : ((bt a0 a1) != 46) = false := bne_eq_false_iff_eq.mpr c25
         clear c25
         replace H := Option.bind_eq_some_iff.mp H
         obtain ⟨t225, A260, H⟩ := H
         replace H : (breviaryref12_one.j1 kj6 a0 a1 l2 (bt a0 a1) t224 (decide (t225 > (wrap64 (a1 + 1))))) = some (r1, r2, r3, r4, r5) := H
         have A26 := Aside0.mk A260
         clear A260
         have H' := Aside0.mk H
         clear H
         go_wp2_with (first | (go_at_call 65; (with_reducible refine (breviaryref12_digits.calls kj6 a0 (wrap64 (a1 + 1)) t225 _ A26.out).mono ?_); rintro e w' ⟨rfl, ⟨nd, rfl⟩⟩))
         go_meet
         case rel => exact ⟨_, (decide (t225 > (wrap64 (a1 + 1)))), (by first | rfl | (simp; done) | (simp [*]; done)), H', ⟨by have := HJ6.out; first | omega | exact Nat.le_refl _⟩, ⟨by (with_reducible repeat (first | refine qe ?_ _ | refine qf ?_ | refine qd ?_ _)); exact BK222.out⟩, ⟨by repeat (first | (with_reducible first | exact HB.out | apply qb | apply qa | apply qc | refine qg ?_ GE222.out) | exact HB.out)⟩⟩
        ·rw [if_neg c25] at H
         have c25b0 : ((bt a0 a1) == 46) = false := beq_eq_false_iff_ne.mpr c25
         have c25b1 : ((bt a0 a1) != 46) = true := bne_iff_ne.mpr c25
         have H' := Aside0.mk H
         clear H
         go_wp2
         go_meet
         case rel => exact ⟨_, (false), (by first | rfl | (simp; done) | (simp [*]; done)), H', ⟨by have := HJ6.out; first | omega | exact Nat.le_refl _⟩, ⟨by (with_reducible repeat (first | refine qe ?_ _ | refine qf ?_ | refine qd ?_ _)); exact BK222.out⟩, ⟨by repeat (first | (with_reducible first | exact HB.out | apply qb | apply qa | apply qc | refine qg ?_ GE222.out) | exact HB.out)⟩⟩
      case rest =>
       clear HC23
       try clear c1
       try clear c2
       try clear p2
       try clear c3
       try clear c4
       try clear c4b0
       try clear c5
       try clear c5b0
       try clear c6
       try clear p6
       try clear q6
       try clear hx6
       try clear c9
       try clear c9b0
       try clear c9b1
       try clear c10
       try clear c11
       try clear c11b0
       try clear c11b1
       try clear c12
       try clear c12b0
       try clear c12b1
       try clear c13
       try clear c13b0
       try clear c13b1
       try clear c15
       try clear c15b0
       try clear c18
       try clear c18b0
       try clear c18b1
       try clear c19
       try clear c19b0
       try clear c19b1
       try clear c20
       try clear c20b0
       try clear c20b1
       try clear c24
       try clear c24b0
       try clear c25
       try clear c25b0
       try clear c25b1
       try clear hcz16_0
       try clear hcz16_1
       try clear hcz16_2
       try clear hcz16_3
       try clear hcz21_0
       try clear hcz21_1
       try clear hcz21_2
       try clear hcz21_3
       try clear hfz16_0
       try clear hfz16_1
       try clear hfz16_2
       try clear hfz16_3
       try clear hfz21_0
       try clear hfz21_1
       try clear hfz21_2
       try clear hfz21_3
       try clear p2
       try clear p6
       try clear q6
       obtain ⟨kq, x66_22, rfl, HA, HJ22, BK222, HB⟩ := hcut
       cases kq with
       | zero => exact absurd HA.out (by simp [breviaryref12_one.j1])
       | succ kj22 =>
        have H := HA.out
        clear HA
        simp only [breviaryref12_one.j1] at H
        by_cases c27 : x66_22 = true
        ·subst c27
         have H1 : (if t224 < (a0.size : Int) then (if 0 ≤ t224 then (breviaryref12_one.j2 kj22 a0 a1 t224 ((bt a0 t224) == 46)) else (none)) else (breviaryref12_one.j2 kj22 a0 a1 t224 false)) = some (r1, r2, r3, r4, r5) := by rw [if_pos rfl] at H; exact H
         clear H
         have H := H1
         clear H1
         have HC28 := Aside0.mk H
         clear H
         go_upto_region 9 with (fail)
         go_cut [76] (fun v76 wc => ∃ (kq : Nat) (x76_27 : Bool), v76 = .bool x76_27 ∧ Aside0 (breviaryref12_one.j2 kq a0 a1 t224 x76_27 = some (r1, r2, r3, r4, r5)) ∧ Aside0 (kq ≤ kj22) ∧ Aside0 (wc.heap[gb222]? = some (.cells #[.int .i64 0, .string (⟨#[]⟩ : ByteArray), .int .i64 0, .int .i64 0] 49 (0, 0))) ∧ Aside0 (Below w.heap.size w wc))
         case first =>
          have H := HC28.out
          clear HC28
          by_cases c29 : t224 < (a0.size : Int)
          ·rw [if_pos c29] at H
           have c29b0 : decide (t224 < (a0.size : Int)) = true := decide_eq_true c29
           clear c29
           (first | rw [c29b0] | (simp only [i64_w]; rw [c29b0]) | skip)
           by_cases c30 : 0 ≤ t224
           ·rw [if_pos c30] at H
            have c30b0 : decide (0 ≤ t224) = true := decide_eq_true c30
            clear c30
            have H' := Aside0.mk H
            clear H
            have p31 : 0 ≤ (t224 : Int) := of_decide_eq_true (by first | (with_reducible assumption) | assumption)
            have q31 : t224 < (a0.size : Int) := of_decide_eq_true (by first | (with_reducible assumption) | assumption)
            have hx31 := bt_at a0 t224
            replace p31 := eq_true p31
            replace q31 := eq_true q31
            go_wp2
            go_meet
            case rel => exact ⟨_, (((bt a0 t224) == 46)), (by first | rfl | (simp; done) | (simp [*]; done)), H', ⟨by have := HJ6.out; have := HJ22.out; first | omega | exact Nat.le_refl _⟩, ⟨by (with_reducible repeat (first | refine qe ?_ _ | refine qf ?_ | refine qd ?_ _)); exact BK222.out⟩, ⟨by repeat (first | (with_reducible first | exact HB.out | apply qb | apply qa | apply qc | refine qg ?_ GE222.out) | exact HB.out)⟩⟩
           ·rw [if_neg c30] at H
            exact absurd H (by simp)
          ·rw [if_neg c29] at H
           have c29b0 : decide (t224 < (a0.size : Int)) = false := decide_eq_false c29
           clear c29
           (first | rw [c29b0] | (simp only [i64_w]; rw [c29b0]) | skip)
           have H' := Aside0.mk H
           clear H
           go_wp2
           go_meet
           case rel => exact ⟨_, (false), (by first | rfl | (simp; done) | (simp [*]; done)), H', ⟨by have := HJ6.out; have := HJ22.out; first | omega | exact Nat.le_refl _⟩, ⟨by (with_reducible repeat (first | refine qe ?_ _ | refine qf ?_ | refine qd ?_ _)); exact BK222.out⟩, ⟨by repeat (first | (with_reducible first | exact HB.out | apply qb | apply qa | apply qc | refine qg ?_ GE222.out) | exact HB.out)⟩⟩
         case rest =>
          clear HC28
          try clear c1
          try clear c2
          try clear p2
          try clear c3
          try clear p3
          try clear q3
          try clear hx3
          try clear c4
          try clear c4b0
          try clear c5
          try clear c5b0
          try clear c6
          try clear p6
          try clear q6
          try clear hx6
          try clear c9
          try clear c9b0
          try clear c9b1
          try clear c10
          try clear c11
          try clear c11b0
          try clear c11b1
          try clear c12
          try clear c12b0
          try clear c12b1
          try clear c13
          try clear c13b0
          try clear c13b1
          try clear c15
          try clear c15b0
          try clear c18
          try clear c18b0
          try clear c18b1
          try clear c19
          try clear c19b0
          try clear c19b1
          try clear c20
          try clear c20b0
          try clear c20b1
          try clear c24
          try clear c24b0
          try clear c25
          try clear c25b0
          try clear c25b1
          try clear c27
          try clear c29
          try clear c29b0
          try clear c30
          try clear c30b0
          try clear p31
          try clear q31
          try clear hx31
          try clear hcz16_0
          try clear hcz16_1
          try clear hcz16_2
          try clear hcz16_3
          try clear hcz21_0
          try clear hcz21_1
          try clear hcz21_2
          try clear hcz21_3
          try clear hfz16_0
          try clear hfz16_1
          try clear hfz16_2
          try clear hfz16_3
          try clear hfz21_0
          try clear hfz21_1
          try clear hfz21_2
          try clear hfz21_3
          try clear p2
          try clear p31
          try clear p6
          try clear q31
          try clear q6
          obtain ⟨kq, x76_27, rfl, HA, HJ27, BK222, HB⟩ := hcut
          cases kq with
          | zero => exact absurd HA.out (by simp [breviaryref12_one.j2])
          | succ kj27 =>
           have H := HA.out
           clear HA
           simp only [breviaryref12_one.j2] at H
           by_cases c32 : x76_27 = true
           ·subst c32
            have H1 : ((breviaryref12_digits.f kj27 a0 (wrap64 (t224 + 1))).bind fun t226 => (if 0 ≤ a1 then (if a1 ≤ t226 then (if t226 ≤ (a0.size : Int) then ((breviaryref04_Lit.f kj27 (a0.extract (a1 : Int).toNat (t226 : Int).toNat)).bind fun bt227 => (if bt227.2.2 = true then (if bt227.1 = 0 then (some (9, a0.extract (a1 : Int).toNat (t226 : Int).toNat, bt227.1, bt227.2.1, t226)) else (some (0, (⟨#[]⟩ : ByteArray), 0, 0, 0))) else (some (0, (⟨#[]⟩ : ByteArray), 0, 0, 0)))) else (none)) else (none)) else (none))) = some (r1, r2, r3, r4, r5) := by rw [if_pos rfl] at H; exact H
            clear H
            have H := H1
            clear H1
            replace H := Option.bind_eq_some_iff.mp H
            obtain ⟨t226, A330, H⟩ := H
            replace H : (if 0 ≤ a1 then (if a1 ≤ t226 then (if t226 ≤ (a0.size : Int) then ((breviaryref04_Lit.f kj27 (a0.extract (a1 : Int).toNat (t226 : Int).toNat)).bind fun bt227 => (if bt227.2.2 = true then (if bt227.1 = 0 then (some (9, a0.extract (a1 : Int).toNat (t226 : Int).toNat, bt227.1, bt227.2.1, t226)) else (some (0, (⟨#[]⟩ : ByteArray), 0, 0, 0))) else (some (0, (⟨#[]⟩ : ByteArray), 0, 0, 0)))) else (none)) else (none)) else (none)) = some (r1, r2, r3, r4, r5) := H
            have A33 := Aside0.mk A330
            clear A330
            by_cases c34 : 0 ≤ a1
            ·rw [if_pos c34] at H
             have c34b0 := eq_true c34
             have c34b1 : decide (0 ≤ a1) = true := decide_eq_true c34
             clear c34
             by_cases c35 : a1 ≤ t226
             ·rw [if_pos c35] at H
              have c35b0 := eq_true c35
              have c35b1 : decide (a1 ≤ t226) = true := decide_eq_true c35
              clear c35
              by_cases c36 : t226 ≤ (a0.size : Int)
              ·rw [if_pos c36] at H
               have c36b0 := eq_true c36
               have c36b1 : decide (t226 ≤ (a0.size : Int)) = true := decide_eq_true c36
               clear c36
               replace H := Option.bind_eq_some_iff.mp H
               obtain ⟨⟨t227, t228, t229⟩, A370, H⟩ := H
               replace H : (if t229 = true then (if t227 = 0 then (some (9, a0.extract (a1 : Int).toNat (t226 : Int).toNat, t227, t228, t226)) else (some (0, (⟨#[]⟩ : ByteArray), 0, 0, 0))) else (some (0, (⟨#[]⟩ : ByteArray), 0, 0, 0))) = some (r1, r2, r3, r4, r5) := H
               have A37 := Aside0.mk A370
               clear A370
               by_cases c38 : t229 = true
               ·subst c38
                have H1 : (if t227 = 0 then (some (9, a0.extract (a1 : Int).toNat (t226 : Int).toNat, t227, t228, t226)) else (some (0, (⟨#[]⟩ : ByteArray), 0, 0, 0))) = some (r1, r2, r3, r4, r5) := by rw [if_pos rfl] at H; exact H
                clear H
                have H := H1
                clear H1
                by_cases c39 : t227 = 0
                ·rw [if_pos c39] at H
                 have c39b0 : (t227 == 0) = true := beq_iff_eq.mpr c39
                 have c39b1 : (t227 != 0) = false := bne_eq_false_iff_eq.mpr c39
                 clear c39
                 have c40b0 := eq_true (of_decide_eq_true (by first | (with_reducible assumption) | assumption) : 0 ≤ a1)
                 have c41b0 := eq_true (of_decide_eq_true (by first | (with_reducible assumption) | assumption) : a1 ≤ t226)
                 have c42b0 := eq_true (of_decide_eq_true (by first | (with_reducible assumption) | assumption) : t226 ≤ (a0.size : Int))
                 simp only [Option.some.injEq, Prod.mk.injEq] at H
                 obtain ⟨rfl, rfl, rfl, rfl, rfl⟩ := H
                 try go_wp2_with (first | ((with_reducible refine qn (f := 65) rfl ?_); refine qs (some 80) rfl rfl Tryz.func65 (by kernel_rfl) rfl #[.string a0, .int .i64 (wrap64 (t224 + 1))] rfl (by (try simp only [List.map_toArray, List.map_cons, List.map_nil]); first | done | rfl | (simp only [List.length_drop, List.length_take]; rfl)) ?_; (with_reducible refine (breviaryref12_digits.calls kj27 a0 (wrap64 (t224 + 1)) t226 _ A33.out).mono ?_); rintro e w' ⟨rfl, ⟨nd, rfl⟩⟩; refine ⟨_, rfl, ?_⟩; (try (rw [qf1 wc]; generalize hq_ : World.drewN wc _ = wc; have n0_ : Aside0 (wc.heap[gb222]? = some (.cells #[.int .i64 0, .string (⟨#[]⟩ : ByteArray), .int .i64 0, .int .i64 0] 49 (0, 0))) := ⟨by rw [← hq_]; exact (by (with_reducible repeat (first | refine qe ?_ _ | refine qf ?_ | refine qd ?_ _)); exact BK222.out)⟩; have n1_ : Aside0 (Below w.heap.size w wc) := ⟨by rw [← hq_]; exact (by repeat (first | (with_reducible first | exact HB.out | apply qb | apply qa | apply qc | refine qg ?_ GE222.out) | exact HB.out))⟩; clear BK222 HB hq_; have BK222 := n0_; have HB := n1_; clear n0_ n1_))) | ((with_reducible refine qn (f := 66) rfl ?_); refine qs (some 86) rfl rfl Tryz.func66 (by kernel_rfl) rfl #[.string (a0.extract (a1 : Int).toNat (t226 : Int).toNat)] rfl (by (try simp only [List.map_toArray, List.map_cons, List.map_nil]); first | done | rfl | (simp only [List.length_drop, List.length_take]; rfl)) ?_; (with_reducible refine (breviaryref04_Lit.calls kj27 (a0.extract (a1 : Int).toNat (t226 : Int).toNat) t227 t228 true _ A37.out).mono ?_); rintro e w43 ⟨rfl, hb⟩; refine ⟨_, rfl, ?_⟩; have n0_ := Aside0.mk (ql (g := gb222) (o := .cells #[.int .i64 0, .string (⟨#[]⟩ : ByteArray), .int .i64 0, .int .i64 0] 49 (0, 0)) (by (with_reducible repeat (first | refine qe ?_ _ | refine qf ?_ | refine qd ?_ _)); exact BK222.out) hb); have n1_ := Aside0.mk (qj (by repeat (first | (with_reducible first | exact HB.out | apply qb | apply qa | apply qc | refine qg ?_ GE222.out) | exact HB.out)) hb); clear BK222; clear HB; have BK222 := n0_; have HB := n1_; clear n0_ n1_; (try clear hb); (try clear hb2); (try clear hk); (try clear hi)) | ((with_reducible refine qo (N := 11) rfl ?_); refine qp ?hg (N := 11) ?hd (cs := #[.int .i64 0, .int .i64 0]) (t := 32) ?hr ?_; (case hd => rfl); (case hg => rfl); (case hr => first | (go_simp; done) | (go_simp; rfl)); intro gb230 hg w44 hbox hb; have n0_ := Aside0.mk (ql (g := gb222) (o := .cells #[.int .i64 0, .string (⟨#[]⟩ : ByteArray), .int .i64 0, .int .i64 0] 49 (0, 0)) (by (with_reducible repeat (first | refine qe ?_ _ | refine qf ?_ | refine qd ?_ _)); exact BK222.out) hb); have n1_ := Aside0.mk (qj (by repeat (first | (with_reducible first | exact HB.out | apply qb | apply qa | apply qc | refine qg ?_ GE222.out) | exact HB.out)) hb); have n2_ := Aside0.mk (hbox); have n3_ := Aside0.mk ((by rw [hg]; exact (qk (by repeat (first | (with_reducible first | exact HB.out | apply qb | apply qa | apply qc | refine qg ?_ GE222.out) | exact HB.out))) : w.heap.size ≤ gb230)); have n4_ := Aside0.mk ((by rw [hg]; exact (qk (by repeat (first | (with_reducible first | exact HB.out | apply qb | apply qa | apply qc | refine qg ?_ GE222.out) | exact HB.out))) : w.heap.size ≤ gb230)); have n5_ := Aside0.mk ((by rw [hg]; exact Nat.ne_of_lt (qx (g := gb222) (o := .cells #[.int .i64 0, .string (⟨#[]⟩ : ByteArray), .int .i64 0, .int .i64 0] 49 (0, 0)) (by (with_reducible repeat (first | refine qe ?_ _ | refine qf ?_ | refine qd ?_ _)); exact BK222.out)) : gb222 ≠ gb230)); have n6_ := Aside0.mk ((by rw [hg]; exact Nat.ne_of_gt (qx (g := gb222) (o := .cells #[.int .i64 0, .string (⟨#[]⟩ : ByteArray), .int .i64 0, .int .i64 0] 49 (0, 0)) (by (with_reducible repeat (first | refine qe ?_ _ | refine qf ?_ | refine qd ?_ _)); exact BK222.out)) : gb230 ≠ gb222)); clear BK222; clear HB; have BK222 := n0_; have HB := n1_; have BK230 := n2_; have GW230 := n3_; have GE230 := n4_; have NB222_230 := n5_; have NB230_222 := n6_; clear n0_ n1_ n2_ n3_ n4_ n5_ n6_; clear hb hbox hg; have hnb45 := NB230_222.out; have hnc45 := NB222_230.out; have hcz46_0 : w44.cell? ⟨gb230, 0, none⟩ = some (.int .i64 0) := (qh BK230.out 0).trans rfl; have hcz46_1 : w44.cell? ⟨gb230, 1, none⟩ = some (.int .i64 0) := (qh BK230.out 1).trans rfl; have hfz46_0 := qi BK230.out 0; have hfz46_1 := qi BK230.out 1))
                 have n0_ : Aside0 (((w44.setCell ⟨gb230, 0, none⟩ (.int .i64 t227)).setCell ⟨gb230, 1, none⟩ (.int .i64 t228)).heap[gb222]? = some (.cells #[.int .i64 0, .string (⟨#[]⟩ : ByteArray), .int .i64 0, .int .i64 0] 49 (0, 0))) := ⟨by (with_reducible repeat (first | refine qe ?_ _ | refine qf ?_ | refine qd ?_ _)); refine qr ?_ NB222_230.out _; (with_reducible repeat (first | refine qe ?_ _ | refine qf ?_ | refine qd ?_ _)); refine qr ?_ NB222_230.out _; (with_reducible repeat (first | refine qe ?_ _ | refine qf ?_ | refine qd ?_ _)); exact BK222.out⟩
                 have n1_ : Aside0 (((w44.setCell ⟨gb230, 0, none⟩ (.int .i64 t227)).setCell ⟨gb230, 1, none⟩ (.int .i64 t228)).heap[gb230]? = some (.cells #[.int .i64 t227, .int .i64 t228] 32 (0, 0))) := ⟨by (with_reducible repeat (first | refine qe ?_ _ | refine qf ?_ | refine qd ?_ _)); refine qm (cs := #[.int .i64 t227, .int .i64 0]) ?_ 1 _ rfl; (with_reducible repeat (first | refine qe ?_ _ | refine qf ?_ | refine qd ?_ _)); refine qm (cs := #[.int .i64 0, .int .i64 0]) ?_ 0 _ rfl; (with_reducible repeat (first | refine qe ?_ _ | refine qf ?_ | refine qd ?_ _)); exact BK230.out⟩
                 have n2_ : Aside0 (Below w.heap.size w ((w44.setCell ⟨gb230, 0, none⟩ (.int .i64 t227)).setCell ⟨gb230, 1, none⟩ (.int .i64 t228))) := ⟨by repeat (first | (with_reducible first | exact HB.out | apply qb | apply qa | apply qc | refine qg ?_ GE222.out | refine qg ?_ GE230.out) | exact HB.out)⟩
                 (try clear BK222)
                 (try clear BK230)
                 (try clear HB)
                 generalize ((w44.setCell ⟨gb230, 0, none⟩ (.int .i64 t227)).setCell ⟨gb230, 1, none⟩ (.int .i64 t228)) = w47 at n0_ n1_ n2_ ⊢
                 have BK222 := n0_
                 have BK230 := n1_
                 have HB := n2_
                 clear n0_ n1_ n2_
                 have n0_ := Aside0.mk (qf BK222.out)
                 have n1_ := Aside0.mk (qf BK230.out)
                 have n2_ := Aside0.mk (qc HB.out)
                 clear BK222
                 clear BK230
                 clear HB
                 have BK222 := n0_
                 have BK230 := n1_
                 have HB := n2_
                 clear n0_ n1_ n2_
                 refine start_ (n := 9) (S := fun w' => w'.cell? ⟨gb230, 0, none⟩ = some (.int .i64 t227) ∧ w'.cell? ⟨gb230, 1, none⟩ = some (.int .i64 t228)) (ds := []) #[false, false, false, false, false, false, false, false, false] (by kernel_rfl) rfl rfl ⟨(qh BK230.out 0).trans rfl, (qh BK230.out 1).trans rfl⟩ (fun hHeld => ?_); refine with_tabW breviaryref12_one.tab14 breviaryref12_one.bits14 (fun HT_ HW_ => ?_)
                 generalize w47.drew = w48 at BK222 BK230 HB hHeld ⊢
                 refine pure_ (i := 0) (N := some 97) (v := ?_) (a' := ?_) #[true, false, false, false, false, false, false, false, false] rfl rfl (qp1 HT_.out (by kernel_rfl)) (fun _ _ _ h => h) (Or.inl ⟨by rfl, ?_⟩) ?_ ?_
                 rotate_left
                 ·intro w'
                  go_simp
                  with_reducible rfl
                 rotate_left
                 ·simp only [Act.put, List.setIfInBounds_toArray, List.set_cons_zero, List.set_cons_succ, i64_w]
                  rfl
                 refine pure_ (i := 1) (N := some 98) (v := ?_) (a' := ?_) #[true, true, false, false, false, false, false, false, false] rfl rfl (qp1 HT_.out (by kernel_rfl)) (fun _ _ _ h => h) (Or.inl ⟨by rfl, ?_⟩) ?_ ?_
                 rotate_left
                 ·intro w'
                  go_simp
                  with_reducible rfl
                 rotate_left
                 ·simp only [Act.put, List.setIfInBounds_toArray, List.set_cons_zero, List.set_cons_succ, i64_w]
                  rfl
                 refine pure_ (i := 2) (N := some 99) (v := ?_) (a' := ?_) #[true, true, true, false, false, false, false, false, false] rfl rfl (qp1 HT_.out (by kernel_rfl)) (fun _ _ _ h => h) (Or.inl ⟨by rfl, ?_⟩) ?_ ?_
                 rotate_left
                 ·intro w'
                  go_simp
                  with_reducible rfl
                 rotate_left
                 ·simp only [Act.put, List.setIfInBounds_toArray, List.set_cons_zero, List.set_cons_succ, i64_w]
                  rfl
                 refine pure_ (i := 3) (N := some 100) (v := ?_) (a' := ?_) #[true, true, true, true, false, false, false, false, false] rfl rfl (qp1 HT_.out (by kernel_rfl)) (fun _ _ _ h => h) (Or.inl ⟨by rfl, ?_⟩) ?_ ?_
                 rotate_left
                 ·intro w'
                  go_simp
                  with_reducible rfl
                 rotate_left
                 ·simp only [Act.put, List.setIfInBounds_toArray, List.set_cons_zero, List.set_cons_succ, i64_w]
                  rfl
                 refine pure_ (i := 6) (N := some 103) (v := ?_) (a' := ?_) #[true, true, true, true, false, false, true, false, false] rfl rfl (qp1 HT_.out (by kernel_rfl)) (fun _ _ _ h => h) (Or.inl ⟨by rfl, ?_⟩) ?_ ?_
                 rotate_left
                 ·intro w'
                  go_simp
                  with_reducible rfl
                 rotate_left
                 ·simp only [Act.put, List.setIfInBounds_toArray, List.set_cons_zero, List.set_cons_succ, i64_w]
                  rfl
                 refine take_ (i := 4) (N := some 101) (v := ?_) (a' := ?_) #[true, true, true, true, true, false, true, false, false] rfl rfl (take_ofW HT_.out HW_.out (by kernel_rfl)) (fun _ _ _ h => h) (Or.inl ⟨by rfl, ?_⟩) hHeld ?_ ?_
                 rotate_left
                 ·rintro w' ⟨s0, s1⟩
                  go_simp
                  with_reducible rfl
                 rotate_left
                 ·simp only [Act.put, List.setIfInBounds_toArray, List.set_cons_zero, List.set_cons_succ, i64_w]
                  rfl
                 refine pure_ (i := 5) (N := some 102) (v := ?_) (a' := ?_) #[true, true, true, true, true, true, true, false, false] rfl rfl (qp1 HT_.out (by kernel_rfl)) (fun _ _ _ h => h) (Or.inl ⟨by rfl, ?_⟩) ?_ ?_
                 rotate_left
                 ·intro w'
                  go_simp
                  with_reducible rfl
                 rotate_left
                 ·simp only [Act.put, List.setIfInBounds_toArray, List.set_cons_zero, List.set_cons_succ, i64_w]
                  rfl
                 refine one_ (i := 7) (N := none) #[true, true, true, true, true, true, true, true, false] rfl rfl (one_of HT_.out (by kernel_rfl)) (by decide) (fun K hK => ?_)
                 have hs49 : w48.cell? ⟨gb222, 0, none⟩ = some (.int .i64 0) := (qh BK222.out 0).trans rfl
                 have hfs49 := qi BK222.out 0
                 have hns49_1 := NB230_222.out
                 have hms49_1 := NB222_230.out
                 have hs50 : w48.cell? ⟨gb222, 1, none⟩ = some (.string (⟨#[]⟩ : ByteArray)) := (qh BK222.out 1).trans rfl
                 have hfs50 := qi BK222.out 1
                 have hns50_1 := NB230_222.out
                 have hms50_1 := NB222_230.out
                 have hs51 : w48.cell? ⟨gb222, 2, none⟩ = some (.int .i64 0) := (qh BK222.out 2).trans rfl
                 have hfs51 := qi BK222.out 2
                 have hns51_1 := NB230_222.out
                 have hms51_1 := NB222_230.out
                 have hs52 : w48.cell? ⟨gb222, 3, none⟩ = some (.int .i64 0) := (qh BK222.out 3).trans rfl
                 have hfs52 := qi BK222.out 3
                 have hns52_1 := NB230_222.out
                 have hms52_1 := NB222_230.out
                 refine skip_ (w1 := ?_) (by rfl) rfl ?_ ?_
                 rotate_left
                 ·go_simp
                  rfl
                 refine hK.out _ _ ⟨((qe1 (p := ⟨gb222, _, none⟩) NB230_222.out _).trans (((qe1 (p := ⟨gb222, _, none⟩) NB230_222.out _).trans (((qe1 (p := ⟨gb222, _, none⟩) NB230_222.out _).trans (((qe1 (p := ⟨gb222, _, none⟩) NB230_222.out _).trans (hHeld.1)))))))), ((qe1 (p := ⟨gb222, _, none⟩) NB230_222.out _).trans (((qe1 (p := ⟨gb222, _, none⟩) NB230_222.out _).trans (((qe1 (p := ⟨gb222, _, none⟩) NB230_222.out _).trans (((qe1 (p := ⟨gb222, _, none⟩) NB230_222.out _).trans (hHeld.2))))))))⟩ (fun hHeld => ?_)
                 clear hK K
                 refine pure_ (i := 8) (N := some 7) (v := ?_) (a' := ?_) #[true, true, true, true, true, true, true, true, true] rfl rfl (qp1 HT_.out (by kernel_rfl)) (fun _ _ _ h => h) (Or.inl ⟨by rfl, ?_⟩) ?_ ?_
                 rotate_left
                 ·intro w'
                  go_simp
                  with_reducible rfl
                 rotate_left
                 ·simp only [Act.put, List.setIfInBounds_toArray, List.set_cons_zero, List.set_cons_succ, i64_w]
                  rfl
                 refine done_ (done_of HT_.out (by kernel_rfl)) ?_
                 try go_wp2
                 refine bodyPost_ret (qz rfl _ _ gb222 49 #[.int .i64 9, .string (a0.extract (a1 : Int).toNat (t226 : Int).toNat), .int .i64 t227, .int .i64 t228] (0, 0) _ rfl (by (with_reducible repeat (first | refine qe ?_ _ | refine qf ?_ | refine qd ?_ _)); refine qm (cs := #[.int .i64 9, .string (a0.extract (a1 : Int).toNat (t226 : Int).toNat), .int .i64 t227, .int .i64 0]) ?_ 3 _ rfl; (with_reducible repeat (first | refine qe ?_ _ | refine qf ?_ | refine qd ?_ _)); refine qm (cs := #[.int .i64 9, .string (a0.extract (a1 : Int).toNat (t226 : Int).toNat), .int .i64 0, .int .i64 0]) ?_ 2 _ rfl; (with_reducible repeat (first | refine qe ?_ _ | refine qf ?_ | refine qd ?_ _)); refine qm (cs := #[.int .i64 9, .string (⟨#[]⟩ : ByteArray), .int .i64 0, .int .i64 0]) ?_ 1 _ rfl; (with_reducible repeat (first | refine qe ?_ _ | refine qf ?_ | refine qd ?_ _)); refine qm (cs := #[.int .i64 0, .string (⟨#[]⟩ : ByteArray), .int .i64 0, .int .i64 0]) ?_ 0 _ rfl; (with_reducible repeat (first | refine qe ?_ _ | refine qf ?_ | refine qd ?_ _)); exact BK222.out) Tryz.underlying49 rfl (by kernel_rfl)) rfl ?_
                 exact ⟨by first | rfl | (simp [ ] <;> rfl) | (simp [*] <;> rfl), by repeat (first | (with_reducible first | exact HB.out | apply qb | apply qa | apply qc | refine qg ?_ GE222.out | refine qg ?_ GE230.out) | exact HB.out)⟩
                ·rw [if_neg c39] at H
                 have c39b0 : (t227 == 0) = false := beq_eq_false_iff_ne.mpr c39
                 have c39b1 : (t227 != 0) = true := bne_iff_ne.mpr c39
                 simp only [Option.some.injEq, Prod.mk.injEq] at H
                 obtain ⟨rfl, rfl, rfl, rfl, rfl⟩ := H
                 go_wp2_with (first | ((with_reducible refine qn (f := 65) rfl ?_); refine qs (some 80) rfl rfl Tryz.func65 (by kernel_rfl) rfl #[.string a0, .int .i64 (wrap64 (t224 + 1))] rfl (by (try simp only [List.map_toArray, List.map_cons, List.map_nil]); first | done | rfl | (simp only [List.length_drop, List.length_take]; rfl)) ?_; (with_reducible refine (breviaryref12_digits.calls kj27 a0 (wrap64 (t224 + 1)) t226 _ A33.out).mono ?_); rintro e w' ⟨rfl, ⟨nd, rfl⟩⟩; refine ⟨_, rfl, ?_⟩; (try (rw [qf1 wc]; generalize hq_ : World.drewN wc _ = wc; have n0_ : Aside0 (wc.heap[gb222]? = some (.cells #[.int .i64 0, .string (⟨#[]⟩ : ByteArray), .int .i64 0, .int .i64 0] 49 (0, 0))) := ⟨by rw [← hq_]; exact (by (with_reducible repeat (first | refine qe ?_ _ | refine qf ?_ | refine qd ?_ _)); exact BK222.out)⟩; have n1_ : Aside0 (Below w.heap.size w wc) := ⟨by rw [← hq_]; exact (by repeat (first | (with_reducible first | exact HB.out | apply qb | apply qa | apply qc | refine qg ?_ GE222.out) | exact HB.out))⟩; clear BK222 HB hq_; have BK222 := n0_; have HB := n1_; clear n0_ n1_))) | ((with_reducible refine qn (f := 66) rfl ?_); refine qs (some 86) rfl rfl Tryz.func66 (by kernel_rfl) rfl #[.string (a0.extract (a1 : Int).toNat (t226 : Int).toNat)] rfl (by (try simp only [List.map_toArray, List.map_cons, List.map_nil]); first | done | rfl | (simp only [List.length_drop, List.length_take]; rfl)) ?_; (with_reducible refine (breviaryref04_Lit.calls kj27 (a0.extract (a1 : Int).toNat (t226 : Int).toNat) t227 t228 true _ A37.out).mono ?_); rintro e w53 ⟨rfl, hb⟩; refine ⟨_, rfl, ?_⟩; have n0_ := Aside0.mk (ql (g := gb222) (o := .cells #[.int .i64 0, .string (⟨#[]⟩ : ByteArray), .int .i64 0, .int .i64 0] 49 (0, 0)) (by (with_reducible repeat (first | refine qe ?_ _ | refine qf ?_ | refine qd ?_ _)); exact BK222.out) hb); have n1_ := Aside0.mk (qj (by repeat (first | (with_reducible first | exact HB.out | apply qb | apply qa | apply qc | refine qg ?_ GE222.out) | exact HB.out)) hb); clear BK222; clear HB; have BK222 := n0_; have HB := n1_; clear n0_ n1_; (try clear hb); (try clear hb2); (try clear hk); (try clear hi)) | ((with_reducible refine qo (N := 11) rfl ?_); refine qp ?hg (N := 11) ?hd (cs := #[.int .i64 0, .int .i64 0]) (t := 32) ?hr ?_; (case hd => rfl); (case hg => rfl); (case hr => first | (go_simp; done) | (go_simp; rfl)); intro gb230 hg w54 hbox hb; have n0_ := Aside0.mk (ql (g := gb222) (o := .cells #[.int .i64 0, .string (⟨#[]⟩ : ByteArray), .int .i64 0, .int .i64 0] 49 (0, 0)) (by (with_reducible repeat (first | refine qe ?_ _ | refine qf ?_ | refine qd ?_ _)); exact BK222.out) hb); have n1_ := Aside0.mk (qj (by repeat (first | (with_reducible first | exact HB.out | apply qb | apply qa | apply qc | refine qg ?_ GE222.out) | exact HB.out)) hb); have n2_ := Aside0.mk (hbox); have n3_ := Aside0.mk ((by rw [hg]; exact (qk (by repeat (first | (with_reducible first | exact HB.out | apply qb | apply qa | apply qc | refine qg ?_ GE222.out) | exact HB.out))) : w.heap.size ≤ gb230)); have n4_ := Aside0.mk ((by rw [hg]; exact (qk (by repeat (first | (with_reducible first | exact HB.out | apply qb | apply qa | apply qc | refine qg ?_ GE222.out) | exact HB.out))) : w.heap.size ≤ gb230)); have n5_ := Aside0.mk ((by rw [hg]; exact Nat.ne_of_lt (qx (g := gb222) (o := .cells #[.int .i64 0, .string (⟨#[]⟩ : ByteArray), .int .i64 0, .int .i64 0] 49 (0, 0)) (by (with_reducible repeat (first | refine qe ?_ _ | refine qf ?_ | refine qd ?_ _)); exact BK222.out)) : gb222 ≠ gb230)); have n6_ := Aside0.mk ((by rw [hg]; exact Nat.ne_of_gt (qx (g := gb222) (o := .cells #[.int .i64 0, .string (⟨#[]⟩ : ByteArray), .int .i64 0, .int .i64 0] 49 (0, 0)) (by (with_reducible repeat (first | refine qe ?_ _ | refine qf ?_ | refine qd ?_ _)); exact BK222.out)) : gb230 ≠ gb222)); clear BK222; clear HB; have BK222 := n0_; have HB := n1_; have BK230 := n2_; have GW230 := n3_; have GE230 := n4_; have NB222_230 := n5_; have NB230_222 := n6_; clear n0_ n1_ n2_ n3_ n4_ n5_ n6_; clear hb hbox hg; have hnb55 := NB230_222.out; have hnc55 := NB222_230.out; have hcz56_0 : w54.cell? ⟨gb230, 0, none⟩ = some (.int .i64 0) := (qh BK230.out 0).trans rfl; have hcz56_1 : w54.cell? ⟨gb230, 1, none⟩ = some (.int .i64 0) := (qh BK230.out 1).trans rfl; have hfz56_0 := qi BK230.out 0; have hfz56_1 := qi BK230.out 1; have hcz57_0 : w54.cell? ⟨gb222, 0, none⟩ = some (.int .i64 0) := (qh BK222.out 0).trans rfl; have hcz57_1 : w54.cell? ⟨gb222, 1, none⟩ = some (.string (⟨#[]⟩ : ByteArray)) := (qh BK222.out 1).trans rfl; have hcz57_2 : w54.cell? ⟨gb222, 2, none⟩ = some (.int .i64 0) := (qh BK222.out 2).trans rfl; have hcz57_3 : w54.cell? ⟨gb222, 3, none⟩ = some (.int .i64 0) := (qh BK222.out 3).trans rfl; have hfz57_0 := qi BK222.out 0; have hfz57_1 := qi BK222.out 1; have hfz57_2 := qi BK222.out 2; have hfz57_3 := qi BK222.out 3))
                 refine bodyPost_ret (qz rfl _ _ gb222 49 #[.int .i64 0, .string (⟨#[]⟩ : ByteArray), .int .i64 0, .int .i64 0] (0, 0) _ rfl (by (with_reducible repeat (first | refine qe ?_ _ | refine qf ?_ | refine qd ?_ _)); refine qm (cs := #[.int .i64 0, .string (⟨#[]⟩ : ByteArray), .int .i64 0, .int .i64 0]) ?_ 3 _ rfl; (with_reducible repeat (first | refine qe ?_ _ | refine qf ?_ | refine qd ?_ _)); refine qm (cs := #[.int .i64 0, .string (⟨#[]⟩ : ByteArray), .int .i64 0, .int .i64 0]) ?_ 2 _ rfl; (with_reducible repeat (first | refine qe ?_ _ | refine qf ?_ | refine qd ?_ _)); refine qm (cs := #[.int .i64 0, .string (⟨#[]⟩ : ByteArray), .int .i64 0, .int .i64 0]) ?_ 1 _ rfl; (with_reducible repeat (first | refine qe ?_ _ | refine qf ?_ | refine qd ?_ _)); refine qm (cs := #[.int .i64 0, .string (⟨#[]⟩ : ByteArray), .int .i64 0, .int .i64 0]) ?_ 0 _ rfl; (with_reducible repeat (first | refine qe ?_ _ | refine qf ?_ | refine qd ?_ _)); refine qr ?_ NB222_230.out _; (with_reducible repeat (first | refine qe ?_ _ | refine qf ?_ | refine qd ?_ _)); refine qr ?_ NB222_230.out _; (with_reducible repeat (first | refine qe ?_ _ | refine qf ?_ | refine qd ?_ _)); exact BK222.out) Tryz.underlying49 rfl (by kernel_rfl)) rfl ?_
                 exact ⟨by first | rfl | (simp [ ] <;> rfl) | (simp [*] <;> rfl), by repeat (first | (with_reducible first | exact HB.out | apply qb | apply qa | apply qc | refine qg ?_ GE222.out | refine qg ?_ GE230.out) | exact HB.out)⟩
               ·replace c38 := Bool.eq_false_iff.mpr c38
                subst c38
                have H1 : (some (0, (⟨#[]⟩ : ByteArray), 0, 0, 0)) = some (r1, r2, r3, r4, r5) := by rw [if_neg (show ¬ (false = true) by decide)] at H; exact H
                clear H
                have H := H1
                clear H1
                simp only [Option.some.injEq, Prod.mk.injEq] at H
                obtain ⟨rfl, rfl, rfl, rfl, rfl⟩ := H
                go_wp2_with (first | ((with_reducible refine qn (f := 65) rfl ?_); refine qs (some 80) rfl rfl Tryz.func65 (by kernel_rfl) rfl #[.string a0, .int .i64 (wrap64 (t224 + 1))] rfl (by (try simp only [List.map_toArray, List.map_cons, List.map_nil]); first | done | rfl | (simp only [List.length_drop, List.length_take]; rfl)) ?_; (with_reducible refine (breviaryref12_digits.calls kj27 a0 (wrap64 (t224 + 1)) t226 _ A33.out).mono ?_); rintro e w' ⟨rfl, ⟨nd, rfl⟩⟩; refine ⟨_, rfl, ?_⟩; (try (rw [qf1 wc]; generalize hq_ : World.drewN wc _ = wc; have n0_ : Aside0 (wc.heap[gb222]? = some (.cells #[.int .i64 0, .string (⟨#[]⟩ : ByteArray), .int .i64 0, .int .i64 0] 49 (0, 0))) := ⟨by rw [← hq_]; exact (by (with_reducible repeat (first | refine qe ?_ _ | refine qf ?_ | refine qd ?_ _)); exact BK222.out)⟩; have n1_ : Aside0 (Below w.heap.size w wc) := ⟨by rw [← hq_]; exact (by repeat (first | (with_reducible first | exact HB.out | apply qb | apply qa | apply qc | refine qg ?_ GE222.out) | exact HB.out))⟩; clear BK222 HB hq_; have BK222 := n0_; have HB := n1_; clear n0_ n1_))) | ((with_reducible refine qn (f := 66) rfl ?_); refine qs (some 86) rfl rfl Tryz.func66 (by kernel_rfl) rfl #[.string (a0.extract (a1 : Int).toNat (t226 : Int).toNat)] rfl (by (try simp only [List.map_toArray, List.map_cons, List.map_nil]); first | done | rfl | (simp only [List.length_drop, List.length_take]; rfl)) ?_; (with_reducible refine (breviaryref04_Lit.calls kj27 (a0.extract (a1 : Int).toNat (t226 : Int).toNat) t227 t228 false _ A37.out).mono ?_); rintro e w58 ⟨rfl, hb⟩; refine ⟨_, rfl, ?_⟩; have n0_ := Aside0.mk (ql (g := gb222) (o := .cells #[.int .i64 0, .string (⟨#[]⟩ : ByteArray), .int .i64 0, .int .i64 0] 49 (0, 0)) (by (with_reducible repeat (first | refine qe ?_ _ | refine qf ?_ | refine qd ?_ _)); exact BK222.out) hb); have n1_ := Aside0.mk (qj (by repeat (first | (with_reducible first | exact HB.out | apply qb | apply qa | apply qc | refine qg ?_ GE222.out) | exact HB.out)) hb); clear BK222; clear HB; have BK222 := n0_; have HB := n1_; clear n0_ n1_; (try clear hb); (try clear hb2); (try clear hk); (try clear hi)) | ((with_reducible refine qo (N := 11) rfl ?_); refine qp ?hg (N := 11) ?hd (cs := #[.int .i64 0, .int .i64 0]) (t := 32) ?hr ?_; (case hd => rfl); (case hg => rfl); (case hr => first | (go_simp; done) | (go_simp; rfl)); intro gb230 hg w59 hbox hb; have n0_ := Aside0.mk (ql (g := gb222) (o := .cells #[.int .i64 0, .string (⟨#[]⟩ : ByteArray), .int .i64 0, .int .i64 0] 49 (0, 0)) (by (with_reducible repeat (first | refine qe ?_ _ | refine qf ?_ | refine qd ?_ _)); exact BK222.out) hb); have n1_ := Aside0.mk (qj (by repeat (first | (with_reducible first | exact HB.out | apply qb | apply qa | apply qc | refine qg ?_ GE222.out) | exact HB.out)) hb); have n2_ := Aside0.mk (hbox); have n3_ := Aside0.mk ((by rw [hg]; exact (qk (by repeat (first | (with_reducible first | exact HB.out | apply qb | apply qa | apply qc | refine qg ?_ GE222.out) | exact HB.out))) : w.heap.size ≤ gb230)); have n4_ := Aside0.mk ((by rw [hg]; exact (qk (by repeat (first | (with_reducible first | exact HB.out | apply qb | apply qa | apply qc | refine qg ?_ GE222.out) | exact HB.out))) : w.heap.size ≤ gb230)); have n5_ := Aside0.mk ((by rw [hg]; exact Nat.ne_of_lt (qx (g := gb222) (o := .cells #[.int .i64 0, .string (⟨#[]⟩ : ByteArray), .int .i64 0, .int .i64 0] 49 (0, 0)) (by (with_reducible repeat (first | refine qe ?_ _ | refine qf ?_ | refine qd ?_ _)); exact BK222.out)) : gb222 ≠ gb230)); have n6_ := Aside0.mk ((by rw [hg]; exact Nat.ne_of_gt (qx (g := gb222) (o := .cells #[.int .i64 0, .string (⟨#[]⟩ : ByteArray), .int .i64 0, .int .i64 0] 49 (0, 0)) (by (with_reducible repeat (first | refine qe ?_ _ | refine qf ?_ | refine qd ?_ _)); exact BK222.out)) : gb230 ≠ gb222)); clear BK222; clear HB; have BK222 := n0_; have HB := n1_; have BK230 := n2_; have GW230 := n3_; have GE230 := n4_; have NB222_230 := n5_; have NB230_222 := n6_; clear n0_ n1_ n2_ n3_ n4_ n5_ n6_; clear hb hbox hg; have hnb60 := NB230_222.out; have hnc60 := NB222_230.out; have hcz61_0 : w59.cell? ⟨gb230, 0, none⟩ = some (.int .i64 0) := (qh BK230.out 0).trans rfl; have hcz61_1 : w59.cell? ⟨gb230, 1, none⟩ = some (.int .i64 0) := (qh BK230.out 1).trans rfl; have hfz61_0 := qi BK230.out 0; have hfz61_1 := qi BK230.out 1; have hcz62_0 : w59.cell? ⟨gb222, 0, none⟩ = some (.int .i64 0) := (qh BK222.out 0).trans rfl; have hcz62_1 : w59.cell? ⟨gb222, 1, none⟩ = some (.string (⟨#[]⟩ : ByteArray)) := (qh BK222.out 1).trans rfl; have hcz62_2 : w59.cell? ⟨gb222, 2, none⟩ = some (.int .i64 0) := (qh BK222.out 2).trans rfl; have hcz62_3 : w59.cell? ⟨gb222, 3, none⟩ = some (.int .i64 0) := (qh BK222.out 3).trans rfl; have hfz62_0 := qi BK222.out 0; have hfz62_1 := qi BK222.out 1; have hfz62_2 := qi BK222.out 2; have hfz62_3 := qi BK222.out 3))
                refine bodyPost_ret (qz rfl _ _ gb222 49 #[.int .i64 0, .string (⟨#[]⟩ : ByteArray), .int .i64 0, .int .i64 0] (0, 0) _ rfl (by (with_reducible repeat (first | refine qe ?_ _ | refine qf ?_ | refine qd ?_ _)); refine qm (cs := #[.int .i64 0, .string (⟨#[]⟩ : ByteArray), .int .i64 0, .int .i64 0]) ?_ 3 _ rfl; (with_reducible repeat (first | refine qe ?_ _ | refine qf ?_ | refine qd ?_ _)); refine qm (cs := #[.int .i64 0, .string (⟨#[]⟩ : ByteArray), .int .i64 0, .int .i64 0]) ?_ 2 _ rfl; (with_reducible repeat (first | refine qe ?_ _ | refine qf ?_ | refine qd ?_ _)); refine qm (cs := #[.int .i64 0, .string (⟨#[]⟩ : ByteArray), .int .i64 0, .int .i64 0]) ?_ 1 _ rfl; (with_reducible repeat (first | refine qe ?_ _ | refine qf ?_ | refine qd ?_ _)); refine qm (cs := #[.int .i64 0, .string (⟨#[]⟩ : ByteArray), .int .i64 0, .int .i64 0]) ?_ 0 _ rfl; (with_reducible repeat (first | refine qe ?_ _ | refine qf ?_ | refine qd ?_ _)); refine qr ?_ NB222_230.out _; (with_reducible repeat (first | refine qe ?_ _ | refine qf ?_ | refine qd ?_ _)); refine qr ?_ NB222_230.out _; (with_reducible repeat (first | refine qe ?_ _ | refine qf ?_ | refine qd ?_ _)); exact BK222.out) Tryz.underlying49 rfl (by kernel_rfl)) rfl ?_
                exact ⟨by first | rfl | (simp [ ] <;> rfl) | (simp [*] <;> rfl), by repeat (first | (with_reducible first | exact HB.out | apply qb | apply qa | apply qc | refine qg ?_ GE222.out | refine qg ?_ GE230.out) | exact HB.out)⟩
              ·rw [if_neg c36] at H
               exact absurd H (by simp)
             ·rw [if_neg c35] at H
              exact absurd H (by simp)
            ·rw [if_neg c34] at H
             exact absurd H (by simp)
           ·replace c32 := Bool.eq_false_iff.mpr c32
            subst c32
            have H1 : (if 0 ≤ a1 then (if a1 ≤ t224 then (if t224 ≤ (a0.size : Int) then ((breviaryref04_Lit.f kj27 (a0.extract (a1 : Int).toNat (t224 : Int).toNat)).bind fun bt231 => (if bt231.2.2 = true then (if bt231.1 = 0 then (some (9, a0.extract (a1 : Int).toNat (t224 : Int).toNat, bt231.1, bt231.2.1, t224)) else (some (0, (⟨#[]⟩ : ByteArray), 0, 0, 0))) else (some (0, (⟨#[]⟩ : ByteArray), 0, 0, 0)))) else (none)) else (none)) else (none)) = some (r1, r2, r3, r4, r5) := by rw [if_neg (show ¬ (false = true) by decide)] at H; exact H
            clear H
            have H := H1
            clear H1
            by_cases c63 : 0 ≤ a1
            ·rw [if_pos c63] at H
             have c63b0 := eq_true c63
             have c63b1 : decide (0 ≤ a1) = true := decide_eq_true c63
             clear c63
             by_cases c64 : a1 ≤ t224
             ·rw [if_pos c64] at H
              have c64b0 := eq_true c64
              have c64b1 : decide (a1 ≤ t224) = true := decide_eq_true c64
              clear c64
              by_cases c65 : t224 ≤ (a0.size : Int)
              ·rw [if_pos c65] at H
               have c65b0 := eq_true c65
               have c65b1 : decide (t224 ≤ (a0.size : Int)) = true := decide_eq_true c65
               clear c65
               replace H := Option.bind_eq_some_iff.mp H
               obtain ⟨⟨t231, t232, t233⟩, A660, H⟩ := H
               replace H : (if t233 = true then (if t231 = 0 then (some (9, a0.extract (a1 : Int).toNat (t224 : Int).toNat, t231, t232, t224)) else (some (0, (⟨#[]⟩ : ByteArray), 0, 0, 0))) else (some (0, (⟨#[]⟩ : ByteArray), 0, 0, 0))) = some (r1, r2, r3, r4, r5) := H
               have A66 := Aside0.mk A660
               clear A660
               by_cases c67 : t233 = true
               ·subst c67
                have H1 : (if t231 = 0 then (some (9, a0.extract (a1 : Int).toNat (t224 : Int).toNat, t231, t232, t224)) else (some (0, (⟨#[]⟩ : ByteArray), 0, 0, 0))) = some (r1, r2, r3, r4, r5) := by rw [if_pos rfl] at H; exact H
                clear H
                have H := H1
                clear H1
                by_cases c68 : t231 = 0
                ·rw [if_pos c68] at H
                 have c68b0 : (t231 == 0) = true := beq_iff_eq.mpr c68
                 have c68b1 : (t231 != 0) = false := bne_eq_false_iff_eq.mpr c68
                 clear c68
                 have c69b0 := eq_true (of_decide_eq_true (by first | (with_reducible assumption) | assumption) : 0 ≤ a1)
                 have c70b0 := eq_true (of_decide_eq_true (by first | (with_reducible assumption) | assumption) : a1 ≤ t224)
                 have c71b0 := eq_true (of_decide_eq_true (by first | (with_reducible assumption) | assumption) : t224 ≤ (a0.size : Int))
                 simp only [Option.some.injEq, Prod.mk.injEq] at H
                 obtain ⟨rfl, rfl, rfl, rfl, rfl⟩ := H
                 try go_wp2_with (first | ((with_reducible refine qn (f := 66) rfl ?_); refine qs (some 86) rfl rfl Tryz.func66 (by kernel_rfl) rfl #[.string (a0.extract (a1 : Int).toNat (t224 : Int).toNat)] rfl (by (try simp only [List.map_toArray, List.map_cons, List.map_nil]); first | done | rfl | (simp only [List.length_drop, List.length_take]; rfl)) ?_; (with_reducible refine (breviaryref04_Lit.calls kj27 (a0.extract (a1 : Int).toNat (t224 : Int).toNat) t231 t232 true _ A66.out).mono ?_); rintro e w72 ⟨rfl, hb⟩; refine ⟨_, rfl, ?_⟩; have n0_ := Aside0.mk (ql (g := gb222) (o := .cells #[.int .i64 0, .string (⟨#[]⟩ : ByteArray), .int .i64 0, .int .i64 0] 49 (0, 0)) (by (with_reducible repeat (first | refine qe ?_ _ | refine qf ?_ | refine qd ?_ _)); exact BK222.out) hb); have n1_ := Aside0.mk (qj (by repeat (first | (with_reducible first | exact HB.out | apply qb | apply qa | apply qc | refine qg ?_ GE222.out) | exact HB.out)) hb); clear BK222; clear HB; have BK222 := n0_; have HB := n1_; clear n0_ n1_; (try clear hb); (try clear hb2); (try clear hk); (try clear hi)) | ((with_reducible refine qo (N := 11) rfl ?_); refine qp ?hg (N := 11) ?hd (cs := #[.int .i64 0, .int .i64 0]) (t := 32) ?hr ?_; (case hd => rfl); (case hg => rfl); (case hr => first | (go_simp; done) | (go_simp; rfl)); intro gb234 hg w73 hbox hb; have n0_ := Aside0.mk (ql (g := gb222) (o := .cells #[.int .i64 0, .string (⟨#[]⟩ : ByteArray), .int .i64 0, .int .i64 0] 49 (0, 0)) (by (with_reducible repeat (first | refine qe ?_ _ | refine qf ?_ | refine qd ?_ _)); exact BK222.out) hb); have n1_ := Aside0.mk (qj (by repeat (first | (with_reducible first | exact HB.out | apply qb | apply qa | apply qc | refine qg ?_ GE222.out) | exact HB.out)) hb); have n2_ := Aside0.mk (hbox); have n3_ := Aside0.mk ((by rw [hg]; exact (qk (by repeat (first | (with_reducible first | exact HB.out | apply qb | apply qa | apply qc | refine qg ?_ GE222.out) | exact HB.out))) : w.heap.size ≤ gb234)); have n4_ := Aside0.mk ((by rw [hg]; exact (qk (by repeat (first | (with_reducible first | exact HB.out | apply qb | apply qa | apply qc | refine qg ?_ GE222.out) | exact HB.out))) : w.heap.size ≤ gb234)); have n5_ := Aside0.mk ((by rw [hg]; exact Nat.ne_of_lt (qx (g := gb222) (o := .cells #[.int .i64 0, .string (⟨#[]⟩ : ByteArray), .int .i64 0, .int .i64 0] 49 (0, 0)) (by (with_reducible repeat (first | refine qe ?_ _ | refine qf ?_ | refine qd ?_ _)); exact BK222.out)) : gb222 ≠ gb234)); have n6_ := Aside0.mk ((by rw [hg]; exact Nat.ne_of_gt (qx (g := gb222) (o := .cells #[.int .i64 0, .string (⟨#[]⟩ : ByteArray), .int .i64 0, .int .i64 0] 49 (0, 0)) (by (with_reducible repeat (first | refine qe ?_ _ | refine qf ?_ | refine qd ?_ _)); exact BK222.out)) : gb234 ≠ gb222)); clear BK222; clear HB; have BK222 := n0_; have HB := n1_; have BK234 := n2_; have GW234 := n3_; have GE234 := n4_; have NB222_234 := n5_; have NB234_222 := n6_; clear n0_ n1_ n2_ n3_ n4_ n5_ n6_; clear hb hbox hg; have hnb74 := NB234_222.out; have hnc74 := NB222_234.out; have hcz75_0 : w73.cell? ⟨gb234, 0, none⟩ = some (.int .i64 0) := (qh BK234.out 0).trans rfl; have hcz75_1 : w73.cell? ⟨gb234, 1, none⟩ = some (.int .i64 0) := (qh BK234.out 1).trans rfl; have hfz75_0 := qi BK234.out 0; have hfz75_1 := qi BK234.out 1))
                 have n0_ : Aside0 (((w73.setCell ⟨gb234, 0, none⟩ (.int .i64 t231)).setCell ⟨gb234, 1, none⟩ (.int .i64 t232)).heap[gb222]? = some (.cells #[.int .i64 0, .string (⟨#[]⟩ : ByteArray), .int .i64 0, .int .i64 0] 49 (0, 0))) := ⟨by (with_reducible repeat (first | refine qe ?_ _ | refine qf ?_ | refine qd ?_ _)); refine qr ?_ NB222_234.out _; (with_reducible repeat (first | refine qe ?_ _ | refine qf ?_ | refine qd ?_ _)); refine qr ?_ NB222_234.out _; (with_reducible repeat (first | refine qe ?_ _ | refine qf ?_ | refine qd ?_ _)); exact BK222.out⟩
                 have n1_ : Aside0 (((w73.setCell ⟨gb234, 0, none⟩ (.int .i64 t231)).setCell ⟨gb234, 1, none⟩ (.int .i64 t232)).heap[gb234]? = some (.cells #[.int .i64 t231, .int .i64 t232] 32 (0, 0))) := ⟨by (with_reducible repeat (first | refine qe ?_ _ | refine qf ?_ | refine qd ?_ _)); refine qm (cs := #[.int .i64 t231, .int .i64 0]) ?_ 1 _ rfl; (with_reducible repeat (first | refine qe ?_ _ | refine qf ?_ | refine qd ?_ _)); refine qm (cs := #[.int .i64 0, .int .i64 0]) ?_ 0 _ rfl; (with_reducible repeat (first | refine qe ?_ _ | refine qf ?_ | refine qd ?_ _)); exact BK234.out⟩
                 have n2_ : Aside0 (Below w.heap.size w ((w73.setCell ⟨gb234, 0, none⟩ (.int .i64 t231)).setCell ⟨gb234, 1, none⟩ (.int .i64 t232))) := ⟨by repeat (first | (with_reducible first | exact HB.out | apply qb | apply qa | apply qc | refine qg ?_ GE222.out | refine qg ?_ GE234.out) | exact HB.out)⟩
                 (try clear BK222)
                 (try clear BK234)
                 (try clear HB)
                 generalize ((w73.setCell ⟨gb234, 0, none⟩ (.int .i64 t231)).setCell ⟨gb234, 1, none⟩ (.int .i64 t232)) = w76 at n0_ n1_ n2_ ⊢
                 have BK222 := n0_
                 have BK234 := n1_
                 have HB := n2_
                 clear n0_ n1_ n2_
                 have n0_ := Aside0.mk (qf BK222.out)
                 have n1_ := Aside0.mk (qf BK234.out)
                 have n2_ := Aside0.mk (qc HB.out)
                 clear BK222
                 clear BK234
                 clear HB
                 have BK222 := n0_
                 have BK234 := n1_
                 have HB := n2_
                 clear n0_ n1_ n2_
                 refine start_ (n := 9) (S := fun w' => w'.cell? ⟨gb234, 0, none⟩ = some (.int .i64 t231) ∧ w'.cell? ⟨gb234, 1, none⟩ = some (.int .i64 t232)) (ds := []) #[false, false, false, false, false, false, false, false, false] (by kernel_rfl) rfl rfl ⟨(qh BK234.out 0).trans rfl, (qh BK234.out 1).trans rfl⟩ (fun hHeld => ?_); refine with_tabW breviaryref12_one.tab14 breviaryref12_one.bits14 (fun HT_ HW_ => ?_)
                 generalize w76.drew = w77 at BK222 BK234 HB hHeld ⊢
                 refine pure_ (i := 0) (N := some 97) (v := ?_) (a' := ?_) #[true, false, false, false, false, false, false, false, false] rfl rfl (qp1 HT_.out (by kernel_rfl)) (fun _ _ _ h => h) (Or.inl ⟨by rfl, ?_⟩) ?_ ?_
                 rotate_left
                 ·intro w'
                  go_simp
                  with_reducible rfl
                 rotate_left
                 ·simp only [Act.put, List.setIfInBounds_toArray, List.set_cons_zero, List.set_cons_succ, i64_w]
                  rfl
                 refine pure_ (i := 1) (N := some 98) (v := ?_) (a' := ?_) #[true, true, false, false, false, false, false, false, false] rfl rfl (qp1 HT_.out (by kernel_rfl)) (fun _ _ _ h => h) (Or.inl ⟨by rfl, ?_⟩) ?_ ?_
                 rotate_left
                 ·intro w'
                  go_simp
                  with_reducible rfl
                 rotate_left
                 ·simp only [Act.put, List.setIfInBounds_toArray, List.set_cons_zero, List.set_cons_succ, i64_w]
                  rfl
                 refine pure_ (i := 2) (N := some 99) (v := ?_) (a' := ?_) #[true, true, true, false, false, false, false, false, false] rfl rfl (qp1 HT_.out (by kernel_rfl)) (fun _ _ _ h => h) (Or.inl ⟨by rfl, ?_⟩) ?_ ?_
                 rotate_left
                 ·intro w'
                  go_simp
                  with_reducible rfl
                 rotate_left
                 ·simp only [Act.put, List.setIfInBounds_toArray, List.set_cons_zero, List.set_cons_succ, i64_w]
                  rfl
                 refine pure_ (i := 3) (N := some 100) (v := ?_) (a' := ?_) #[true, true, true, true, false, false, false, false, false] rfl rfl (qp1 HT_.out (by kernel_rfl)) (fun _ _ _ h => h) (Or.inl ⟨by rfl, ?_⟩) ?_ ?_
                 rotate_left
                 ·intro w'
                  go_simp
                  with_reducible rfl
                 rotate_left
                 ·simp only [Act.put, List.setIfInBounds_toArray, List.set_cons_zero, List.set_cons_succ, i64_w]
                  rfl
                 refine pure_ (i := 6) (N := some 103) (v := ?_) (a' := ?_) #[true, true, true, true, false, false, true, false, false] rfl rfl (qp1 HT_.out (by kernel_rfl)) (fun _ _ _ h => h) (Or.inl ⟨by rfl, ?_⟩) ?_ ?_
                 rotate_left
                 ·intro w'
                  go_simp
                  with_reducible rfl
                 rotate_left
                 ·simp only [Act.put, List.setIfInBounds_toArray, List.set_cons_zero, List.set_cons_succ, i64_w]
                  rfl
                 refine take_ (i := 4) (N := some 101) (v := ?_) (a' := ?_) #[true, true, true, true, true, false, true, false, false] rfl rfl (take_ofW HT_.out HW_.out (by kernel_rfl)) (fun _ _ _ h => h) (Or.inl ⟨by rfl, ?_⟩) hHeld ?_ ?_
                 rotate_left
                 ·rintro w' ⟨s0, s1⟩
                  go_simp
                  with_reducible rfl
                 rotate_left
                 ·simp only [Act.put, List.setIfInBounds_toArray, List.set_cons_zero, List.set_cons_succ, i64_w]
                  rfl
                 refine pure_ (i := 5) (N := some 102) (v := ?_) (a' := ?_) #[true, true, true, true, true, true, true, false, false] rfl rfl (qp1 HT_.out (by kernel_rfl)) (fun _ _ _ h => h) (Or.inl ⟨by rfl, ?_⟩) ?_ ?_
                 rotate_left
                 ·intro w'
                  go_simp
                  with_reducible rfl
                 rotate_left
                 ·simp only [Act.put, List.setIfInBounds_toArray, List.set_cons_zero, List.set_cons_succ, i64_w]
                  rfl
                 refine one_ (i := 7) (N := none) #[true, true, true, true, true, true, true, true, false] rfl rfl (one_of HT_.out (by kernel_rfl)) (by decide) (fun K hK => ?_)
                 have hs78 : w77.cell? ⟨gb222, 0, none⟩ = some (.int .i64 0) := (qh BK222.out 0).trans rfl
                 have hfs78 := qi BK222.out 0
                 have hns78_1 := NB234_222.out
                 have hms78_1 := NB222_234.out
                 have hs79 : w77.cell? ⟨gb222, 1, none⟩ = some (.string (⟨#[]⟩ : ByteArray)) := (qh BK222.out 1).trans rfl
                 have hfs79 := qi BK222.out 1
                 have hns79_1 := NB234_222.out
                 have hms79_1 := NB222_234.out
                 have hs80 : w77.cell? ⟨gb222, 2, none⟩ = some (.int .i64 0) := (qh BK222.out 2).trans rfl
                 have hfs80 := qi BK222.out 2
                 have hns80_1 := NB234_222.out
                 have hms80_1 := NB222_234.out
                 have hs81 : w77.cell? ⟨gb222, 3, none⟩ = some (.int .i64 0) := (qh BK222.out 3).trans rfl
                 have hfs81 := qi BK222.out 3
                 have hns81_1 := NB234_222.out
                 have hms81_1 := NB222_234.out
                 refine skip_ (w1 := ?_) (by rfl) rfl ?_ ?_
                 rotate_left
                 ·go_simp
                  rfl
                 refine hK.out _ _ ⟨((qe1 (p := ⟨gb222, _, none⟩) NB234_222.out _).trans (((qe1 (p := ⟨gb222, _, none⟩) NB234_222.out _).trans (((qe1 (p := ⟨gb222, _, none⟩) NB234_222.out _).trans (((qe1 (p := ⟨gb222, _, none⟩) NB234_222.out _).trans (hHeld.1)))))))), ((qe1 (p := ⟨gb222, _, none⟩) NB234_222.out _).trans (((qe1 (p := ⟨gb222, _, none⟩) NB234_222.out _).trans (((qe1 (p := ⟨gb222, _, none⟩) NB234_222.out _).trans (((qe1 (p := ⟨gb222, _, none⟩) NB234_222.out _).trans (hHeld.2))))))))⟩ (fun hHeld => ?_)
                 clear hK K
                 refine pure_ (i := 8) (N := some 7) (v := ?_) (a' := ?_) #[true, true, true, true, true, true, true, true, true] rfl rfl (qp1 HT_.out (by kernel_rfl)) (fun _ _ _ h => h) (Or.inl ⟨by rfl, ?_⟩) ?_ ?_
                 rotate_left
                 ·intro w'
                  go_simp
                  with_reducible rfl
                 rotate_left
                 ·simp only [Act.put, List.setIfInBounds_toArray, List.set_cons_zero, List.set_cons_succ, i64_w]
                  rfl
                 refine done_ (done_of HT_.out (by kernel_rfl)) ?_
                 try go_wp2
                 refine bodyPost_ret (qz rfl _ _ gb222 49 #[.int .i64 9, .string (a0.extract (a1 : Int).toNat (t224 : Int).toNat), .int .i64 t231, .int .i64 t232] (0, 0) _ rfl (by (with_reducible repeat (first | refine qe ?_ _ | refine qf ?_ | refine qd ?_ _)); refine qm (cs := #[.int .i64 9, .string (a0.extract (a1 : Int).toNat (t224 : Int).toNat), .int .i64 t231, .int .i64 0]) ?_ 3 _ rfl; (with_reducible repeat (first | refine qe ?_ _ | refine qf ?_ | refine qd ?_ _)); refine qm (cs := #[.int .i64 9, .string (a0.extract (a1 : Int).toNat (t224 : Int).toNat), .int .i64 0, .int .i64 0]) ?_ 2 _ rfl; (with_reducible repeat (first | refine qe ?_ _ | refine qf ?_ | refine qd ?_ _)); refine qm (cs := #[.int .i64 9, .string (⟨#[]⟩ : ByteArray), .int .i64 0, .int .i64 0]) ?_ 1 _ rfl; (with_reducible repeat (first | refine qe ?_ _ | refine qf ?_ | refine qd ?_ _)); refine qm (cs := #[.int .i64 0, .string (⟨#[]⟩ : ByteArray), .int .i64 0, .int .i64 0]) ?_ 0 _ rfl; (with_reducible repeat (first | refine qe ?_ _ | refine qf ?_ | refine qd ?_ _)); exact BK222.out) Tryz.underlying49 rfl (by kernel_rfl)) rfl ?_
                 exact ⟨by first | rfl | (simp [ ] <;> rfl) | (simp [*] <;> rfl), by repeat (first | (with_reducible first | exact HB.out | apply qb | apply qa | apply qc | refine qg ?_ GE222.out | refine qg ?_ GE234.out) | exact HB.out)⟩
                ·rw [if_neg c68] at H
                 have c68b0 : (t231 == 0) = false := beq_eq_false_iff_ne.mpr c68
                 have c68b1 : (t231 != 0) = true := bne_iff_ne.mpr c68
                 simp only [Option.some.injEq, Prod.mk.injEq] at H
                 obtain ⟨rfl, rfl, rfl, rfl, rfl⟩ := H
                 go_wp2_with (first | ((with_reducible refine qn (f := 66) rfl ?_); refine qs (some 86) rfl rfl Tryz.func66 (by kernel_rfl) rfl #[.string (a0.extract (a1 : Int).toNat (t224 : Int).toNat)] rfl (by (try simp only [List.map_toArray, List.map_cons, List.map_nil]); first | done | rfl | (simp only [List.length_drop, List.length_take]; rfl)) ?_; (with_reducible refine (breviaryref04_Lit.calls kj27 (a0.extract (a1 : Int).toNat (t224 : Int).toNat) t231 t232 true _ A66.out).mono ?_); rintro e w82 ⟨rfl, hb⟩; refine ⟨_, rfl, ?_⟩; have n0_ := Aside0.mk (ql (g := gb222) (o := .cells #[.int .i64 0, .string (⟨#[]⟩ : ByteArray), .int .i64 0, .int .i64 0] 49 (0, 0)) (by (with_reducible repeat (first | refine qe ?_ _ | refine qf ?_ | refine qd ?_ _)); exact BK222.out) hb); have n1_ := Aside0.mk (qj (by repeat (first | (with_reducible first | exact HB.out | apply qb | apply qa | apply qc | refine qg ?_ GE222.out) | exact HB.out)) hb); clear BK222; clear HB; have BK222 := n0_; have HB := n1_; clear n0_ n1_; (try clear hb); (try clear hb2); (try clear hk); (try clear hi)) | ((with_reducible refine qo (N := 11) rfl ?_); refine qp ?hg (N := 11) ?hd (cs := #[.int .i64 0, .int .i64 0]) (t := 32) ?hr ?_; (case hd => rfl); (case hg => rfl); (case hr => first | (go_simp; done) | (go_simp; rfl)); intro gb234 hg w83 hbox hb; have n0_ := Aside0.mk (ql (g := gb222) (o := .cells #[.int .i64 0, .string (⟨#[]⟩ : ByteArray), .int .i64 0, .int .i64 0] 49 (0, 0)) (by (with_reducible repeat (first | refine qe ?_ _ | refine qf ?_ | refine qd ?_ _)); exact BK222.out) hb); have n1_ := Aside0.mk (qj (by repeat (first | (with_reducible first | exact HB.out | apply qb | apply qa | apply qc | refine qg ?_ GE222.out) | exact HB.out)) hb); have n2_ := Aside0.mk (hbox); have n3_ := Aside0.mk ((by rw [hg]; exact (qk (by repeat (first | (with_reducible first | exact HB.out | apply qb | apply qa | apply qc | refine qg ?_ GE222.out) | exact HB.out))) : w.heap.size ≤ gb234)); have n4_ := Aside0.mk ((by rw [hg]; exact (qk (by repeat (first | (with_reducible first | exact HB.out | apply qb | apply qa | apply qc | refine qg ?_ GE222.out) | exact HB.out))) : w.heap.size ≤ gb234)); have n5_ := Aside0.mk ((by rw [hg]; exact Nat.ne_of_lt (qx (g := gb222) (o := .cells #[.int .i64 0, .string (⟨#[]⟩ : ByteArray), .int .i64 0, .int .i64 0] 49 (0, 0)) (by (with_reducible repeat (first | refine qe ?_ _ | refine qf ?_ | refine qd ?_ _)); exact BK222.out)) : gb222 ≠ gb234)); have n6_ := Aside0.mk ((by rw [hg]; exact Nat.ne_of_gt (qx (g := gb222) (o := .cells #[.int .i64 0, .string (⟨#[]⟩ : ByteArray), .int .i64 0, .int .i64 0] 49 (0, 0)) (by (with_reducible repeat (first | refine qe ?_ _ | refine qf ?_ | refine qd ?_ _)); exact BK222.out)) : gb234 ≠ gb222)); clear BK222; clear HB; have BK222 := n0_; have HB := n1_; have BK234 := n2_; have GW234 := n3_; have GE234 := n4_; have NB222_234 := n5_; have NB234_222 := n6_; clear n0_ n1_ n2_ n3_ n4_ n5_ n6_; clear hb hbox hg; have hnb84 := NB234_222.out; have hnc84 := NB222_234.out; have hcz85_0 : w83.cell? ⟨gb234, 0, none⟩ = some (.int .i64 0) := (qh BK234.out 0).trans rfl; have hcz85_1 : w83.cell? ⟨gb234, 1, none⟩ = some (.int .i64 0) := (qh BK234.out 1).trans rfl; have hfz85_0 := qi BK234.out 0; have hfz85_1 := qi BK234.out 1; have hcz86_0 : w83.cell? ⟨gb222, 0, none⟩ = some (.int .i64 0) := (qh BK222.out 0).trans rfl; have hcz86_1 : w83.cell? ⟨gb222, 1, none⟩ = some (.string (⟨#[]⟩ : ByteArray)) := (qh BK222.out 1).trans rfl; have hcz86_2 : w83.cell? ⟨gb222, 2, none⟩ = some (.int .i64 0) := (qh BK222.out 2).trans rfl; have hcz86_3 : w83.cell? ⟨gb222, 3, none⟩ = some (.int .i64 0) := (qh BK222.out 3).trans rfl; have hfz86_0 := qi BK222.out 0; have hfz86_1 := qi BK222.out 1; have hfz86_2 := qi BK222.out 2; have hfz86_3 := qi BK222.out 3))
                 refine bodyPost_ret (qz rfl _ _ gb222 49 #[.int .i64 0, .string (⟨#[]⟩ : ByteArray), .int .i64 0, .int .i64 0] (0, 0) _ rfl (by (with_reducible repeat (first | refine qe ?_ _ | refine qf ?_ | refine qd ?_ _)); refine qm (cs := #[.int .i64 0, .string (⟨#[]⟩ : ByteArray), .int .i64 0, .int .i64 0]) ?_ 3 _ rfl; (with_reducible repeat (first | refine qe ?_ _ | refine qf ?_ | refine qd ?_ _)); refine qm (cs := #[.int .i64 0, .string (⟨#[]⟩ : ByteArray), .int .i64 0, .int .i64 0]) ?_ 2 _ rfl; (with_reducible repeat (first | refine qe ?_ _ | refine qf ?_ | refine qd ?_ _)); refine qm (cs := #[.int .i64 0, .string (⟨#[]⟩ : ByteArray), .int .i64 0, .int .i64 0]) ?_ 1 _ rfl; (with_reducible repeat (first | refine qe ?_ _ | refine qf ?_ | refine qd ?_ _)); refine qm (cs := #[.int .i64 0, .string (⟨#[]⟩ : ByteArray), .int .i64 0, .int .i64 0]) ?_ 0 _ rfl; (with_reducible repeat (first | refine qe ?_ _ | refine qf ?_ | refine qd ?_ _)); refine qr ?_ NB222_234.out _; (with_reducible repeat (first | refine qe ?_ _ | refine qf ?_ | refine qd ?_ _)); refine qr ?_ NB222_234.out _; (with_reducible repeat (first | refine qe ?_ _ | refine qf ?_ | refine qd ?_ _)); exact BK222.out) Tryz.underlying49 rfl (by kernel_rfl)) rfl ?_
                 exact ⟨by first | rfl | (simp [ ] <;> rfl) | (simp [*] <;> rfl), by repeat (first | (with_reducible first | exact HB.out | apply qb | apply qa | apply qc | refine qg ?_ GE222.out | refine qg ?_ GE234.out) | exact HB.out)⟩
               ·replace c67 := Bool.eq_false_iff.mpr c67
                subst c67
                have H1 : (some (0, (⟨#[]⟩ : ByteArray), 0, 0, 0)) = some (r1, r2, r3, r4, r5) := by rw [if_neg (show ¬ (false = true) by decide)] at H; exact H
                clear H
                have H := H1
                clear H1
                simp only [Option.some.injEq, Prod.mk.injEq] at H
                obtain ⟨rfl, rfl, rfl, rfl, rfl⟩ := H
                go_wp2_with (first | ((with_reducible refine qn (f := 66) rfl ?_); refine qs (some 86) rfl rfl Tryz.func66 (by kernel_rfl) rfl #[.string (a0.extract (a1 : Int).toNat (t224 : Int).toNat)] rfl (by (try simp only [List.map_toArray, List.map_cons, List.map_nil]); first | done | rfl | (simp only [List.length_drop, List.length_take]; rfl)) ?_; (with_reducible refine (breviaryref04_Lit.calls kj27 (a0.extract (a1 : Int).toNat (t224 : Int).toNat) t231 t232 false _ A66.out).mono ?_); rintro e w87 ⟨rfl, hb⟩; refine ⟨_, rfl, ?_⟩; have n0_ := Aside0.mk (ql (g := gb222) (o := .cells #[.int .i64 0, .string (⟨#[]⟩ : ByteArray), .int .i64 0, .int .i64 0] 49 (0, 0)) (by (with_reducible repeat (first | refine qe ?_ _ | refine qf ?_ | refine qd ?_ _)); exact BK222.out) hb); have n1_ := Aside0.mk (qj (by repeat (first | (with_reducible first | exact HB.out | apply qb | apply qa | apply qc | refine qg ?_ GE222.out) | exact HB.out)) hb); clear BK222; clear HB; have BK222 := n0_; have HB := n1_; clear n0_ n1_; (try clear hb); (try clear hb2); (try clear hk); (try clear hi)) | ((with_reducible refine qo (N := 11) rfl ?_); refine qp ?hg (N := 11) ?hd (cs := #[.int .i64 0, .int .i64 0]) (t := 32) ?hr ?_; (case hd => rfl); (case hg => rfl); (case hr => first | (go_simp; done) | (go_simp; rfl)); intro gb234 hg w88 hbox hb; have n0_ := Aside0.mk (ql (g := gb222) (o := .cells #[.int .i64 0, .string (⟨#[]⟩ : ByteArray), .int .i64 0, .int .i64 0] 49 (0, 0)) (by (with_reducible repeat (first | refine qe ?_ _ | refine qf ?_ | refine qd ?_ _)); exact BK222.out) hb); have n1_ := Aside0.mk (qj (by repeat (first | (with_reducible first | exact HB.out | apply qb | apply qa | apply qc | refine qg ?_ GE222.out) | exact HB.out)) hb); have n2_ := Aside0.mk (hbox); have n3_ := Aside0.mk ((by rw [hg]; exact (qk (by repeat (first | (with_reducible first | exact HB.out | apply qb | apply qa | apply qc | refine qg ?_ GE222.out) | exact HB.out))) : w.heap.size ≤ gb234)); have n4_ := Aside0.mk ((by rw [hg]; exact (qk (by repeat (first | (with_reducible first | exact HB.out | apply qb | apply qa | apply qc | refine qg ?_ GE222.out) | exact HB.out))) : w.heap.size ≤ gb234)); have n5_ := Aside0.mk ((by rw [hg]; exact Nat.ne_of_lt (qx (g := gb222) (o := .cells #[.int .i64 0, .string (⟨#[]⟩ : ByteArray), .int .i64 0, .int .i64 0] 49 (0, 0)) (by (with_reducible repeat (first | refine qe ?_ _ | refine qf ?_ | refine qd ?_ _)); exact BK222.out)) : gb222 ≠ gb234)); have n6_ := Aside0.mk ((by rw [hg]; exact Nat.ne_of_gt (qx (g := gb222) (o := .cells #[.int .i64 0, .string (⟨#[]⟩ : ByteArray), .int .i64 0, .int .i64 0] 49 (0, 0)) (by (with_reducible repeat (first | refine qe ?_ _ | refine qf ?_ | refine qd ?_ _)); exact BK222.out)) : gb234 ≠ gb222)); clear BK222; clear HB; have BK222 := n0_; have HB := n1_; have BK234 := n2_; have GW234 := n3_; have GE234 := n4_; have NB222_234 := n5_; have NB234_222 := n6_; clear n0_ n1_ n2_ n3_ n4_ n5_ n6_; clear hb hbox hg; have hnb89 := NB234_222.out; have hnc89 := NB222_234.out; have hcz90_0 : w88.cell? ⟨gb234, 0, none⟩ = some (.int .i64 0) := (qh BK234.out 0).trans rfl; have hcz90_1 : w88.cell? ⟨gb234, 1, none⟩ = some (.int .i64 0) := (qh BK234.out 1).trans rfl; have hfz90_0 := qi BK234.out 0; have hfz90_1 := qi BK234.out 1; have hcz91_0 : w88.cell? ⟨gb222, 0, none⟩ = some (.int .i64 0) := (qh BK222.out 0).trans rfl; have hcz91_1 : w88.cell? ⟨gb222, 1, none⟩ = some (.string (⟨#[]⟩ : ByteArray)) := (qh BK222.out 1).trans rfl; have hcz91_2 : w88.cell? ⟨gb222, 2, none⟩ = some (.int .i64 0) := (qh BK222.out 2).trans rfl; have hcz91_3 : w88.cell? ⟨gb222, 3, none⟩ = some (.int .i64 0) := (qh BK222.out 3).trans rfl; have hfz91_0 := qi BK222.out 0; have hfz91_1 := qi BK222.out 1; have hfz91_2 := qi BK222.out 2; have hfz91_3 := qi BK222.out 3))
                refine bodyPost_ret (qz rfl _ _ gb222 49 #[.int .i64 0, .string (⟨#[]⟩ : ByteArray), .int .i64 0, .int .i64 0] (0, 0) _ rfl (by (with_reducible repeat (first | refine qe ?_ _ | refine qf ?_ | refine qd ?_ _)); refine qm (cs := #[.int .i64 0, .string (⟨#[]⟩ : ByteArray), .int .i64 0, .int .i64 0]) ?_ 3 _ rfl; (with_reducible repeat (first | refine qe ?_ _ | refine qf ?_ | refine qd ?_ _)); refine qm (cs := #[.int .i64 0, .string (⟨#[]⟩ : ByteArray), .int .i64 0, .int .i64 0]) ?_ 2 _ rfl; (with_reducible repeat (first | refine qe ?_ _ | refine qf ?_ | refine qd ?_ _)); refine qm (cs := #[.int .i64 0, .string (⟨#[]⟩ : ByteArray), .int .i64 0, .int .i64 0]) ?_ 1 _ rfl; (with_reducible repeat (first | refine qe ?_ _ | refine qf ?_ | refine qd ?_ _)); refine qm (cs := #[.int .i64 0, .string (⟨#[]⟩ : ByteArray), .int .i64 0, .int .i64 0]) ?_ 0 _ rfl; (with_reducible repeat (first | refine qe ?_ _ | refine qf ?_ | refine qd ?_ _)); refine qr ?_ NB222_234.out _; (with_reducible repeat (first | refine qe ?_ _ | refine qf ?_ | refine qd ?_ _)); refine qr ?_ NB222_234.out _; (with_reducible repeat (first | refine qe ?_ _ | refine qf ?_ | refine qd ?_ _)); exact BK222.out) Tryz.underlying49 rfl (by kernel_rfl)) rfl ?_
                exact ⟨by first | rfl | (simp [ ] <;> rfl) | (simp [*] <;> rfl), by repeat (first | (with_reducible first | exact HB.out | apply qb | apply qa | apply qc | refine qg ?_ GE222.out | refine qg ?_ GE234.out) | exact HB.out)⟩
              ·rw [if_neg c65] at H
               exact absurd H (by simp)
             ·rw [if_neg c64] at H
              exact absurd H (by simp)
            ·rw [if_neg c63] at H
             exact absurd H (by simp)
        ·replace c27 := Bool.eq_false_iff.mpr c27
         subst c27
         have H1 : ((breviaryref12_sign.f kj22 a0 a1).bind fun bt235 => (if bt235.1 > 0 then (some (bt235.1, bt235.2, 0, 0, wrap64 (a1 + (bt235.2.size : Int)))) else (if (bt a0 a1) = 42 then ((breviaryref12_ends.f kj22 l2).bind fun t237 => (if t237 = true then (some (5, (⟨#[42]⟩ : ByteArray), 0, 0, wrap64 (a1 + 1))) else (some (3, (⟨#[42]⟩ : ByteArray), 0, 0, wrap64 (a1 + 1))))) else (if (bt a0 a1) = 36 then ((breviaryref06_Run.f kj22 a0 (wrap64 (a1 + 1))).bind fun t238 => (if 0 ≤ (wrap64 (a1 + 1)) then (if (wrap64 (a1 + 1)) ≤ t238 then (if t238 ≤ (a0.size : Int) then ((breviaryref01_Name.f kj22 (a0.extract ((wrap64 (a1 + 1)) : Int).toNat (t238 : Int).toNat)).bind fun t239 => (if t239 = true then (some (10, a0.extract ((wrap64 (a1 + 1)) : Int).toNat (t238 : Int).toNat, 0, 0, t238)) else (some (0, (⟨#[]⟩ : ByteArray), 0, 0, 0)))) else (none)) else (none)) else (none))) else ((breviaryref06_Run.f kj22 a0 a1).bind fun t240 => ((breviaryref12_named.f kj22 a0 a1 t240 l2).bind fun bt241 => (if bt241.2.2.2.2 = true then (some (bt241.1, bt241.2.1, bt241.2.2.1, bt241.2.2.2.1, t240)) else (some (0, (⟨#[]⟩ : ByteArray), 0, 0, 0))))))))) = some (r1, r2, r3, r4, r5) := by rw [if_neg (show ¬ (false = true) by decide)] at H; exact H
         clear H
         have H := H1
         clear H1
         replace H := Option.bind_eq_some_iff.mp H
         obtain ⟨⟨t235, t236⟩, A920, H⟩ := H
         replace H : (if t235 > 0 then (some (t235, t236, 0, 0, wrap64 (a1 + (t236.size : Int)))) else (if (bt a0 a1) = 42 then ((breviaryref12_ends.f kj22 l2).bind fun t237 => (if t237 = true then (some (5, (⟨#[42]⟩ : ByteArray), 0, 0, wrap64 (a1 + 1))) else (some (3, (⟨#[42]⟩ : ByteArray), 0, 0, wrap64 (a1 + 1))))) else (if (bt a0 a1) = 36 then ((breviaryref06_Run.f kj22 a0 (wrap64 (a1 + 1))).bind fun t238 => (if 0 ≤ (wrap64 (a1 + 1)) then (if (wrap64 (a1 + 1)) ≤ t238 then (if t238 ≤ (a0.size : Int) then ((breviaryref01_Name.f kj22 (a0.extract ((wrap64 (a1 + 1)) : Int).toNat (t238 : Int).toNat)).bind fun t239 => (if t239 = true then (some (10, a0.extract ((wrap64 (a1 + 1)) : Int).toNat (t238 : Int).toNat, 0, 0, t238)) else (some (0, (⟨#[]⟩ : ByteArray), 0, 0, 0)))) else (none)) else (none)) else (none))) else ((breviaryref06_Run.f kj22 a0 a1).bind fun t240 => ((breviaryref12_named.f kj22 a0 a1 t240 l2).bind fun bt241 => (if bt241.2.2.2.2 = true then (some (bt241.1, bt241.2.1, bt241.2.2.1, bt241.2.2.2.1, t240)) else (some (0, (⟨#[]⟩ : ByteArray), 0, 0, 0)))))))) = some (r1, r2, r3, r4, r5) := H
         have A92 := Aside0.mk A920
         clear A920
         by_cases c93 : t235 > 0
         ·rw [if_pos c93] at H
          have c93b0 : decide (0 < t235) = true := decide_eq_true c93
          clear c93
          simp only [Option.some.injEq, Prod.mk.injEq] at H
          obtain ⟨rfl, rfl, rfl, rfl, rfl⟩ := H
          go_wp2_with (first | ((with_reducible refine qn (f := 67) rfl ?_); refine qs (some 107) rfl rfl Tryz.func67 (by kernel_rfl) rfl #[.string a0, .int .i64 a1] rfl (by (try simp only [List.map_toArray, List.map_cons, List.map_nil]); first | done | rfl | (simp only [List.length_drop, List.length_take]; rfl)) ?_; (with_reducible refine (breviaryref12_sign.calls kj22 a0 a1 t235 t236 _ A92.out).mono ?_); rintro e w94 ⟨rfl, hb⟩; refine ⟨_, rfl, ?_⟩; have n0_ := Aside0.mk (ql (g := gb222) (o := .cells #[.int .i64 0, .string (⟨#[]⟩ : ByteArray), .int .i64 0, .int .i64 0] 49 (0, 0)) (by (with_reducible repeat (first | refine qe ?_ _ | refine qf ?_ | refine qd ?_ _)); exact BK222.out) hb); have n1_ := Aside0.mk (qj (by repeat (first | (with_reducible first | exact HB.out | apply qb | apply qa | apply qc | refine qg ?_ GE222.out) | exact HB.out)) hb); clear BK222; clear HB; have BK222 := n0_; have HB := n1_; clear n0_ n1_; (try clear hb); (try clear hb2); (try clear hk); (try clear hi); have hcz95_0 : w94.cell? ⟨gb222, 0, none⟩ = some (.int .i64 0) := (qh BK222.out 0).trans rfl; have hcz95_1 : w94.cell? ⟨gb222, 1, none⟩ = some (.string (⟨#[]⟩ : ByteArray)) := (qh BK222.out 1).trans rfl; have hcz95_2 : w94.cell? ⟨gb222, 2, none⟩ = some (.int .i64 0) := (qh BK222.out 2).trans rfl; have hcz95_3 : w94.cell? ⟨gb222, 3, none⟩ = some (.int .i64 0) := (qh BK222.out 3).trans rfl; have hfz95_0 := qi BK222.out 0; have hfz95_1 := qi BK222.out 1; have hfz95_2 := qi BK222.out 2; have hfz95_3 := qi BK222.out 3))
          refine bodyPost_ret (qz rfl _ _ gb222 49 #[.int .i64 t235, .string t236, .int .i64 0, .int .i64 0] (0, 0) _ rfl (by (with_reducible repeat (first | refine qe ?_ _ | refine qf ?_ | refine qd ?_ _)); refine qm (cs := #[.int .i64 t235, .string t236, .int .i64 0, .int .i64 0]) ?_ 3 _ rfl; (with_reducible repeat (first | refine qe ?_ _ | refine qf ?_ | refine qd ?_ _)); refine qm (cs := #[.int .i64 t235, .string t236, .int .i64 0, .int .i64 0]) ?_ 2 _ rfl; (with_reducible repeat (first | refine qe ?_ _ | refine qf ?_ | refine qd ?_ _)); refine qm (cs := #[.int .i64 t235, .string (⟨#[]⟩ : ByteArray), .int .i64 0, .int .i64 0]) ?_ 1 _ rfl; (with_reducible repeat (first | refine qe ?_ _ | refine qf ?_ | refine qd ?_ _)); refine qm (cs := #[.int .i64 0, .string (⟨#[]⟩ : ByteArray), .int .i64 0, .int .i64 0]) ?_ 0 _ rfl; (with_reducible repeat (first | refine qe ?_ _ | refine qf ?_ | refine qd ?_ _)); exact BK222.out) Tryz.underlying49 rfl (by kernel_rfl)) rfl ?_
          exact ⟨by first | rfl | (simp [ ] <;> rfl) | (simp [*] <;> rfl), by repeat (first | (with_reducible first | exact HB.out | apply qb | apply qa | apply qc | refine qg ?_ GE222.out) | exact HB.out)⟩
         ·rw [if_neg c93] at H
          have c93b0 : decide (0 < t235) = false := decide_eq_false c93
          clear c93
          by_cases c96 : (bt a0 a1) = 42
          ·rw [if_pos c96] at H
           have c96b0 : ((bt a0 a1) == 42) = true := beq_iff_eq.mpr c96
           have c96b1 : ((bt a0 a1) != 42) = false := bne_eq_false_iff_eq.mpr c96
           clear c96
           replace H := Option.bind_eq_some_iff.mp H
           obtain ⟨t237, A970, H⟩ := H
           replace H : (if t237 = true then (some (5, (⟨#[42]⟩ : ByteArray), 0, 0, wrap64 (a1 + 1))) else (some (3, (⟨#[42]⟩ : ByteArray), 0, 0, wrap64 (a1 + 1)))) = some (r1, r2, r3, r4, r5) := H
           have A97 := Aside0.mk A970
           clear A970
           by_cases c98 : t237 = true
           ·subst c98
            have H1 : (some (5, (⟨#[42]⟩ : ByteArray), 0, 0, wrap64 (a1 + 1))) = some (r1, r2, r3, r4, r5) := by rw [if_pos rfl] at H; exact H
            clear H
            have H := H1
            clear H1
            simp only [Option.some.injEq, Prod.mk.injEq] at H
            obtain ⟨rfl, rfl, rfl, rfl, rfl⟩ := H
            go_wp2_with (first | ((with_reducible refine qn (f := 67) rfl ?_); refine qs (some 107) rfl rfl Tryz.func67 (by kernel_rfl) rfl #[.string a0, .int .i64 a1] rfl (by (try simp only [List.map_toArray, List.map_cons, List.map_nil]); first | done | rfl | (simp only [List.length_drop, List.length_take]; rfl)) ?_; (with_reducible refine (breviaryref12_sign.calls kj22 a0 a1 t235 t236 _ A92.out).mono ?_); rintro e w99 ⟨rfl, hb⟩; refine ⟨_, rfl, ?_⟩; have n0_ := Aside0.mk (ql (g := gb222) (o := .cells #[.int .i64 0, .string (⟨#[]⟩ : ByteArray), .int .i64 0, .int .i64 0] 49 (0, 0)) (by (with_reducible repeat (first | refine qe ?_ _ | refine qf ?_ | refine qd ?_ _)); exact BK222.out) hb); have n1_ := Aside0.mk (qj (by repeat (first | (with_reducible first | exact HB.out | apply qb | apply qa | apply qc | refine qg ?_ GE222.out) | exact HB.out)) hb); clear BK222; clear HB; have BK222 := n0_; have HB := n1_; clear n0_ n1_; (try clear hb); (try clear hb2); (try clear hk); (try clear hi)) | ((with_reducible refine qn (f := 68) rfl ?_); refine qs (some 122) rfl rfl Tryz.func68 (by kernel_rfl) rfl #[.slice A2 l2.length c2] rfl (by (try simp only [List.map_toArray, List.map_cons, List.map_nil]); first | done | rfl | (simp only [List.length_drop, List.length_take]; rfl)) ?_; (with_reducible refine (breviaryref12_ends.calls kj22 _ _ l2 true _ ?side1 ?side2 A97.out).mono ?_); (case side1 => repeat (first | exact (Kd.C_below HR2.out HB.out) | (with_reducible refine Kd.C_alloc ?_ _) | (with_reducible refine Kd.C_drewN ?_ _) | (with_reducible refine Kd.C_drew ?_))); (case side2 => exact HC2.out); rintro e w100 ⟨rfl, hb⟩; refine ⟨_, rfl, ?_⟩; have n0_ := Aside0.mk (ql (g := gb222) (o := .cells #[.int .i64 0, .string (⟨#[]⟩ : ByteArray), .int .i64 0, .int .i64 0] 49 (0, 0)) (by (with_reducible repeat (first | refine qe ?_ _ | refine qf ?_ | refine qd ?_ _)); exact BK222.out) hb); have n1_ := Aside0.mk (qj (by repeat (first | (with_reducible first | exact HB.out | apply qb | apply qa | apply qc | refine qg ?_ GE222.out) | exact HB.out)) hb); clear BK222; clear HB; have BK222 := n0_; have HB := n1_; clear n0_ n1_; (try clear hb); (try clear hb2); (try clear hk); (try clear hi); have hcz101_0 : w100.cell? ⟨gb222, 0, none⟩ = some (.int .i64 0) := (qh BK222.out 0).trans rfl; have hcz101_1 : w100.cell? ⟨gb222, 1, none⟩ = some (.string (⟨#[]⟩ : ByteArray)) := (qh BK222.out 1).trans rfl; have hcz101_2 : w100.cell? ⟨gb222, 2, none⟩ = some (.int .i64 0) := (qh BK222.out 2).trans rfl; have hcz101_3 : w100.cell? ⟨gb222, 3, none⟩ = some (.int .i64 0) := (qh BK222.out 3).trans rfl; have hfz101_0 := qi BK222.out 0; have hfz101_1 := qi BK222.out 1; have hfz101_2 := qi BK222.out 2; have hfz101_3 := qi BK222.out 3))
            refine bodyPost_ret (qz rfl _ _ gb222 49 #[.int .i64 5, .string (⟨#[42]⟩ : ByteArray), .int .i64 0, .int .i64 0] (0, 0) _ rfl (by (with_reducible repeat (first | refine qe ?_ _ | refine qf ?_ | refine qd ?_ _)); refine qm (cs := #[.int .i64 5, .string (⟨#[42]⟩ : ByteArray), .int .i64 0, .int .i64 0]) ?_ 3 _ rfl; (with_reducible repeat (first | refine qe ?_ _ | refine qf ?_ | refine qd ?_ _)); refine qm (cs := #[.int .i64 5, .string (⟨#[42]⟩ : ByteArray), .int .i64 0, .int .i64 0]) ?_ 2 _ rfl; (with_reducible repeat (first | refine qe ?_ _ | refine qf ?_ | refine qd ?_ _)); refine qm (cs := #[.int .i64 5, .string (⟨#[]⟩ : ByteArray), .int .i64 0, .int .i64 0]) ?_ 1 _ rfl; (with_reducible repeat (first | refine qe ?_ _ | refine qf ?_ | refine qd ?_ _)); refine qm (cs := #[.int .i64 0, .string (⟨#[]⟩ : ByteArray), .int .i64 0, .int .i64 0]) ?_ 0 _ rfl; (with_reducible repeat (first | refine qe ?_ _ | refine qf ?_ | refine qd ?_ _)); exact BK222.out) Tryz.underlying49 rfl (by kernel_rfl)) rfl ?_
            exact ⟨by first | rfl | (simp [ ] <;> rfl) | (simp [*] <;> rfl), by repeat (first | (with_reducible first | exact HB.out | apply qb | apply qa | apply qc | refine qg ?_ GE222.out) | exact HB.out)⟩
           ·replace c98 := Bool.eq_false_iff.mpr c98
            subst c98
            have H1 : (some (3, (⟨#[42]⟩ : ByteArray), 0, 0, wrap64 (a1 + 1))) = some (r1, r2, r3, r4, r5) := by rw [if_neg (show ¬ (false = true) by decide)] at H; exact H
            clear H
            have H := H1
            clear H1
            simp only [Option.some.injEq, Prod.mk.injEq] at H
            obtain ⟨rfl, rfl, rfl, rfl, rfl⟩ := H
            go_wp2_with (first | ((with_reducible refine qn (f := 67) rfl ?_); refine qs (some 107) rfl rfl Tryz.func67 (by kernel_rfl) rfl #[.string a0, .int .i64 a1] rfl (by (try simp only [List.map_toArray, List.map_cons, List.map_nil]); first | done | rfl | (simp only [List.length_drop, List.length_take]; rfl)) ?_; (with_reducible refine (breviaryref12_sign.calls kj22 a0 a1 t235 t236 _ A92.out).mono ?_); rintro e w102 ⟨rfl, hb⟩; refine ⟨_, rfl, ?_⟩; have n0_ := Aside0.mk (ql (g := gb222) (o := .cells #[.int .i64 0, .string (⟨#[]⟩ : ByteArray), .int .i64 0, .int .i64 0] 49 (0, 0)) (by (with_reducible repeat (first | refine qe ?_ _ | refine qf ?_ | refine qd ?_ _)); exact BK222.out) hb); have n1_ := Aside0.mk (qj (by repeat (first | (with_reducible first | exact HB.out | apply qb | apply qa | apply qc | refine qg ?_ GE222.out) | exact HB.out)) hb); clear BK222; clear HB; have BK222 := n0_; have HB := n1_; clear n0_ n1_; (try clear hb); (try clear hb2); (try clear hk); (try clear hi)) | ((with_reducible refine qn (f := 68) rfl ?_); refine qs (some 122) rfl rfl Tryz.func68 (by kernel_rfl) rfl #[.slice A2 l2.length c2] rfl (by (try simp only [List.map_toArray, List.map_cons, List.map_nil]); first | done | rfl | (simp only [List.length_drop, List.length_take]; rfl)) ?_; (with_reducible refine (breviaryref12_ends.calls kj22 _ _ l2 false _ ?side1 ?side2 A97.out).mono ?_); (case side1 => repeat (first | exact (Kd.C_below HR2.out HB.out) | (with_reducible refine Kd.C_alloc ?_ _) | (with_reducible refine Kd.C_drewN ?_ _) | (with_reducible refine Kd.C_drew ?_))); (case side2 => exact HC2.out); rintro e w103 ⟨rfl, hb⟩; refine ⟨_, rfl, ?_⟩; have n0_ := Aside0.mk (ql (g := gb222) (o := .cells #[.int .i64 0, .string (⟨#[]⟩ : ByteArray), .int .i64 0, .int .i64 0] 49 (0, 0)) (by (with_reducible repeat (first | refine qe ?_ _ | refine qf ?_ | refine qd ?_ _)); exact BK222.out) hb); have n1_ := Aside0.mk (qj (by repeat (first | (with_reducible first | exact HB.out | apply qb | apply qa | apply qc | refine qg ?_ GE222.out) | exact HB.out)) hb); clear BK222; clear HB; have BK222 := n0_; have HB := n1_; clear n0_ n1_; (try clear hb); (try clear hb2); (try clear hk); (try clear hi); have hcz104_0 : w103.cell? ⟨gb222, 0, none⟩ = some (.int .i64 0) := (qh BK222.out 0).trans rfl; have hcz104_1 : w103.cell? ⟨gb222, 1, none⟩ = some (.string (⟨#[]⟩ : ByteArray)) := (qh BK222.out 1).trans rfl; have hcz104_2 : w103.cell? ⟨gb222, 2, none⟩ = some (.int .i64 0) := (qh BK222.out 2).trans rfl; have hcz104_3 : w103.cell? ⟨gb222, 3, none⟩ = some (.int .i64 0) := (qh BK222.out 3).trans rfl; have hfz104_0 := qi BK222.out 0; have hfz104_1 := qi BK222.out 1; have hfz104_2 := qi BK222.out 2; have hfz104_3 := qi BK222.out 3))
            refine bodyPost_ret (qz rfl _ _ gb222 49 #[.int .i64 3, .string (⟨#[42]⟩ : ByteArray), .int .i64 0, .int .i64 0] (0, 0) _ rfl (by (with_reducible repeat (first | refine qe ?_ _ | refine qf ?_ | refine qd ?_ _)); refine qm (cs := #[.int .i64 3, .string (⟨#[42]⟩ : ByteArray), .int .i64 0, .int .i64 0]) ?_ 3 _ rfl; (with_reducible repeat (first | refine qe ?_ _ | refine qf ?_ | refine qd ?_ _)); refine qm (cs := #[.int .i64 3, .string (⟨#[42]⟩ : ByteArray), .int .i64 0, .int .i64 0]) ?_ 2 _ rfl; (with_reducible repeat (first | refine qe ?_ _ | refine qf ?_ | refine qd ?_ _)); refine qm (cs := #[.int .i64 3, .string (⟨#[]⟩ : ByteArray), .int .i64 0, .int .i64 0]) ?_ 1 _ rfl; (with_reducible repeat (first | refine qe ?_ _ | refine qf ?_ | refine qd ?_ _)); refine qm (cs := #[.int .i64 0, .string (⟨#[]⟩ : ByteArray), .int .i64 0, .int .i64 0]) ?_ 0 _ rfl; (with_reducible repeat (first | refine qe ?_ _ | refine qf ?_ | refine qd ?_ _)); exact BK222.out) Tryz.underlying49 rfl (by kernel_rfl)) rfl ?_
            exact ⟨by first | rfl | (simp [ ] <;> rfl) | (simp [*] <;> rfl), by repeat (first | (with_reducible first | exact HB.out | apply qb | apply qa | apply qc | refine qg ?_ GE222.out) | exact HB.out)⟩
          ·rw [if_neg c96] at H
           have c96b0 : ((bt a0 a1) == 42) = false := beq_eq_false_iff_ne.mpr c96
           have c96b1 : ((bt a0 a1) != 42) = true := bne_iff_ne.mpr c96
           by_cases c105 : (bt a0 a1) = 36
           ·rw [if_pos c105] at H
            have c105b0 : ((bt a0 a1) == 36) = true := beq_iff_eq.mpr c105
            have c105b1 : ((bt a0 a1) != 36) = false := bne_eq_false_iff_eq.mpr c105
            clear c105
            replace H := Option.bind_eq_some_iff.mp H
            obtain ⟨t238, A1060, H⟩ := H
            replace H : (if 0 ≤ (wrap64 (a1 + 1)) then (if (wrap64 (a1 + 1)) ≤ t238 then (if t238 ≤ (a0.size : Int) then ((breviaryref01_Name.f kj22 (a0.extract ((wrap64 (a1 + 1)) : Int).toNat (t238 : Int).toNat)).bind fun t239 => (if t239 = true then (some (10, a0.extract ((wrap64 (a1 + 1)) : Int).toNat (t238 : Int).toNat, 0, 0, t238)) else (some (0, (⟨#[]⟩ : ByteArray), 0, 0, 0)))) else (none)) else (none)) else (none)) = some (r1, r2, r3, r4, r5) := H
            have A106 := Aside0.mk A1060
            clear A1060
            obtain ⟨ji107, hji107⟩ : ∃ j_ : Int, (wrap64 (a1 + 1)) = j_ := ⟨_, rfl⟩
            replace H : (if 0 ≤ (ji107) then (if (ji107) ≤ t238 then (if t238 ≤ (a0.size : Int) then ((breviaryref01_Name.f kj22 (a0.extract ((ji107) : Int).toNat (t238 : Int).toNat)).bind fun t239 => (if t239 = true then (some (10, a0.extract ((ji107) : Int).toNat (t238 : Int).toNat, 0, 0, t238)) else (some (0, (⟨#[]⟩ : ByteArray), 0, 0, 0)))) else (none)) else (none)) else (none)) = some (r1, r2, r3, r4, r5) := by first | (rw [hji107] at H; exact H) | (simp only [hji107] at H ⊢; exact H)
            (try rw [hji107] at A92)
            (try rw [hji107] at A106)
            have hji107w : (IntKind.i64.wrap (a1 + 1)) = ji107 := (i64_w _).trans hji107
            by_cases c108 : 0 ≤ (ji107)
            ·rw [if_pos c108] at H
             have c108b0 := eq_true c108
             have c108b1 : decide (0 ≤ (ji107)) = true := decide_eq_true c108
             clear c108
             by_cases c109 : (ji107) ≤ t238
             ·rw [if_pos c109] at H
              have c109b0 := eq_true c109
              have c109b1 : decide ((ji107) ≤ t238) = true := decide_eq_true c109
              clear c109
              by_cases c110 : t238 ≤ (a0.size : Int)
              ·rw [if_pos c110] at H
               have c110b0 := eq_true c110
               have c110b1 : decide (t238 ≤ (a0.size : Int)) = true := decide_eq_true c110
               clear c110
               replace H := Option.bind_eq_some_iff.mp H
               obtain ⟨t239, A1110, H⟩ := H
               replace H : (if t239 = true then (some (10, a0.extract ((ji107) : Int).toNat (t238 : Int).toNat, 0, 0, t238)) else (some (0, (⟨#[]⟩ : ByteArray), 0, 0, 0))) = some (r1, r2, r3, r4, r5) := H
               have A111 := Aside0.mk A1110
               clear A1110
               by_cases c112 : t239 = true
               ·subst c112
                have H1 : (some (10, a0.extract ((ji107) : Int).toNat (t238 : Int).toNat, 0, 0, t238)) = some (r1, r2, r3, r4, r5) := by rw [if_pos rfl] at H; exact H
                clear H
                have H := H1
                clear H1
                have c113b0 := eq_true (of_decide_eq_true (by first | (with_reducible assumption) | assumption) : 0 ≤ (ji107))
                have c114b0 := eq_true (of_decide_eq_true (by first | (with_reducible assumption) | assumption) : (ji107) ≤ t238)
                have c115b0 := eq_true (of_decide_eq_true (by first | (with_reducible assumption) | assumption) : t238 ≤ (a0.size : Int))
                simp only [Option.some.injEq, Prod.mk.injEq] at H
                obtain ⟨rfl, rfl, rfl, rfl, rfl⟩ := H
                go_wp2_with (first | ((with_reducible refine qn (f := 67) rfl ?_); refine qs (some 107) rfl rfl Tryz.func67 (by kernel_rfl) rfl #[.string a0, .int .i64 a1] rfl (by (try simp only [List.map_toArray, List.map_cons, List.map_nil]); first | done | rfl | (simp only [List.length_drop, List.length_take]; rfl)) ?_; (with_reducible refine (breviaryref12_sign.calls kj22 a0 a1 t235 t236 _ A92.out).mono ?_); rintro e w116 ⟨rfl, hb⟩; refine ⟨_, rfl, ?_⟩; have n0_ := Aside0.mk (ql (g := gb222) (o := .cells #[.int .i64 0, .string (⟨#[]⟩ : ByteArray), .int .i64 0, .int .i64 0] 49 (0, 0)) (by (with_reducible repeat (first | refine qe ?_ _ | refine qf ?_ | refine qd ?_ _)); exact BK222.out) hb); have n1_ := Aside0.mk (qj (by repeat (first | (with_reducible first | exact HB.out | apply qb | apply qa | apply qc | refine qg ?_ GE222.out) | exact HB.out)) hb); clear BK222; clear HB; have BK222 := n0_; have HB := n1_; clear n0_ n1_; (try clear hb); (try clear hb2); (try clear hk); (try clear hi)) | ((with_reducible refine qn (f := 69) rfl ?_); refine qs (some 134) rfl rfl Tryz.func69 (by kernel_rfl) rfl #[.string a0, .int .i64 ji107] rfl (by (try simp only [List.map_toArray, List.map_cons, List.map_nil]); first | done | (simp only [hji107]; rfl) | rfl | (simp only [List.length_drop, List.length_take]; rfl)) ?_; (with_reducible refine (breviaryref06_Run.calls kj22 a0 ji107 t238 _ A106.out).mono ?_); rintro e w117 ⟨rfl, hb⟩; refine ⟨_, rfl, ?_⟩; have n0_ := Aside0.mk (ql (g := gb222) (o := .cells #[.int .i64 0, .string (⟨#[]⟩ : ByteArray), .int .i64 0, .int .i64 0] 49 (0, 0)) (by (with_reducible repeat (first | refine qe ?_ _ | refine qf ?_ | refine qd ?_ _)); exact BK222.out) hb); have n1_ := Aside0.mk (qj (by repeat (first | (with_reducible first | exact HB.out | apply qb | apply qa | apply qc | refine qg ?_ GE222.out) | exact HB.out)) hb); clear BK222; clear HB; have BK222 := n0_; have HB := n1_; clear n0_ n1_; (try clear hb); (try clear hb2); (try clear hk); (try clear hi)) | ((with_reducible refine qn (f := 70) rfl ?_); refine qs (some 140) rfl rfl Tryz.func70 (by kernel_rfl) rfl #[.string (a0.extract ((ji107) : Int).toNat (t238 : Int).toNat)] rfl (by (try simp only [List.map_toArray, List.map_cons, List.map_nil]); first | done | (simp only [hji107]; rfl) | rfl | (simp only [List.length_drop, List.length_take]; rfl)) ?_; (with_reducible refine (breviaryref01_Name.calls kj22 (a0.extract ((ji107) : Int).toNat (t238 : Int).toNat) true _ A111.out).mono ?_); rintro e w118 ⟨rfl, hb⟩; refine ⟨_, rfl, ?_⟩; have n0_ := Aside0.mk (ql (g := gb222) (o := .cells #[.int .i64 0, .string (⟨#[]⟩ : ByteArray), .int .i64 0, .int .i64 0] 49 (0, 0)) (by (with_reducible repeat (first | refine qe ?_ _ | refine qf ?_ | refine qd ?_ _)); exact BK222.out) hb); have n1_ := Aside0.mk (qj (by repeat (first | (with_reducible first | exact HB.out | apply qb | apply qa | apply qc | refine qg ?_ GE222.out) | exact HB.out)) hb); clear BK222; clear HB; have BK222 := n0_; have HB := n1_; clear n0_ n1_; (try clear hb); (try clear hb2); (try clear hk); (try clear hi); have hcz119_0 : w118.cell? ⟨gb222, 0, none⟩ = some (.int .i64 0) := (qh BK222.out 0).trans rfl; have hcz119_1 : w118.cell? ⟨gb222, 1, none⟩ = some (.string (⟨#[]⟩ : ByteArray)) := (qh BK222.out 1).trans rfl; have hcz119_2 : w118.cell? ⟨gb222, 2, none⟩ = some (.int .i64 0) := (qh BK222.out 2).trans rfl; have hcz119_3 : w118.cell? ⟨gb222, 3, none⟩ = some (.int .i64 0) := (qh BK222.out 3).trans rfl; have hfz119_0 := qi BK222.out 0; have hfz119_1 := qi BK222.out 1; have hfz119_2 := qi BK222.out 2; have hfz119_3 := qi BK222.out 3))
                refine bodyPost_ret (qz rfl _ _ gb222 49 #[.int .i64 10, .string (a0.extract ((ji107) : Int).toNat (t238 : Int).toNat), .int .i64 0, .int .i64 0] (0, 0) _ rfl (by (with_reducible repeat (first | refine qe ?_ _ | refine qf ?_ | refine qd ?_ _)); refine qm (cs := #[.int .i64 10, .string (a0.extract ((ji107) : Int).toNat (t238 : Int).toNat), .int .i64 0, .int .i64 0]) ?_ 3 _ rfl; (with_reducible repeat (first | refine qe ?_ _ | refine qf ?_ | refine qd ?_ _)); refine qm (cs := #[.int .i64 10, .string (a0.extract ((ji107) : Int).toNat (t238 : Int).toNat), .int .i64 0, .int .i64 0]) ?_ 2 _ rfl; (with_reducible repeat (first | refine qe ?_ _ | refine qf ?_ | refine qd ?_ _)); refine qm (cs := #[.int .i64 10, .string (⟨#[]⟩ : ByteArray), .int .i64 0, .int .i64 0]) ?_ 1 _ rfl; (with_reducible repeat (first | refine qe ?_ _ | refine qf ?_ | refine qd ?_ _)); refine qm (cs := #[.int .i64 0, .string (⟨#[]⟩ : ByteArray), .int .i64 0, .int .i64 0]) ?_ 0 _ rfl; (with_reducible repeat (first | refine qe ?_ _ | refine qf ?_ | refine qd ?_ _)); exact BK222.out) Tryz.underlying49 rfl (by kernel_rfl)) rfl ?_
                exact ⟨by first | rfl | (simp [ ] <;> rfl) | (simp only [← hji107]; first | rfl | (simp [ ] <;> rfl)) | (simp [*] <;> rfl), by repeat (first | (with_reducible first | exact HB.out | apply qb | apply qa | apply qc | refine qg ?_ GE222.out) | exact HB.out)⟩
               ·replace c112 := Bool.eq_false_iff.mpr c112
                subst c112
                have H1 : (some (0, (⟨#[]⟩ : ByteArray), 0, 0, 0)) = some (r1, r2, r3, r4, r5) := by rw [if_neg (show ¬ (false = true) by decide)] at H; exact H
                clear H
                have H := H1
                clear H1
                simp only [Option.some.injEq, Prod.mk.injEq] at H
                obtain ⟨rfl, rfl, rfl, rfl, rfl⟩ := H
                go_wp2_with (first | ((with_reducible refine qn (f := 67) rfl ?_); refine qs (some 107) rfl rfl Tryz.func67 (by kernel_rfl) rfl #[.string a0, .int .i64 a1] rfl (by (try simp only [List.map_toArray, List.map_cons, List.map_nil]); first | done | rfl | (simp only [List.length_drop, List.length_take]; rfl)) ?_; (with_reducible refine (breviaryref12_sign.calls kj22 a0 a1 t235 t236 _ A92.out).mono ?_); rintro e w120 ⟨rfl, hb⟩; refine ⟨_, rfl, ?_⟩; have n0_ := Aside0.mk (ql (g := gb222) (o := .cells #[.int .i64 0, .string (⟨#[]⟩ : ByteArray), .int .i64 0, .int .i64 0] 49 (0, 0)) (by (with_reducible repeat (first | refine qe ?_ _ | refine qf ?_ | refine qd ?_ _)); exact BK222.out) hb); have n1_ := Aside0.mk (qj (by repeat (first | (with_reducible first | exact HB.out | apply qb | apply qa | apply qc | refine qg ?_ GE222.out) | exact HB.out)) hb); clear BK222; clear HB; have BK222 := n0_; have HB := n1_; clear n0_ n1_; (try clear hb); (try clear hb2); (try clear hk); (try clear hi)) | ((with_reducible refine qn (f := 69) rfl ?_); refine qs (some 134) rfl rfl Tryz.func69 (by kernel_rfl) rfl #[.string a0, .int .i64 ji107] rfl (by (try simp only [List.map_toArray, List.map_cons, List.map_nil]); first | done | (simp only [hji107]; rfl) | rfl | (simp only [List.length_drop, List.length_take]; rfl)) ?_; (with_reducible refine (breviaryref06_Run.calls kj22 a0 ji107 t238 _ A106.out).mono ?_); rintro e w121 ⟨rfl, hb⟩; refine ⟨_, rfl, ?_⟩; have n0_ := Aside0.mk (ql (g := gb222) (o := .cells #[.int .i64 0, .string (⟨#[]⟩ : ByteArray), .int .i64 0, .int .i64 0] 49 (0, 0)) (by (with_reducible repeat (first | refine qe ?_ _ | refine qf ?_ | refine qd ?_ _)); exact BK222.out) hb); have n1_ := Aside0.mk (qj (by repeat (first | (with_reducible first | exact HB.out | apply qb | apply qa | apply qc | refine qg ?_ GE222.out) | exact HB.out)) hb); clear BK222; clear HB; have BK222 := n0_; have HB := n1_; clear n0_ n1_; (try clear hb); (try clear hb2); (try clear hk); (try clear hi)) | ((with_reducible refine qn (f := 70) rfl ?_); refine qs (some 140) rfl rfl Tryz.func70 (by kernel_rfl) rfl #[.string (a0.extract ((ji107) : Int).toNat (t238 : Int).toNat)] rfl (by (try simp only [List.map_toArray, List.map_cons, List.map_nil]); first | done | (simp only [hji107]; rfl) | rfl | (simp only [List.length_drop, List.length_take]; rfl)) ?_; (with_reducible refine (breviaryref01_Name.calls kj22 (a0.extract ((ji107) : Int).toNat (t238 : Int).toNat) false _ A111.out).mono ?_); rintro e w122 ⟨rfl, hb⟩; refine ⟨_, rfl, ?_⟩; have n0_ := Aside0.mk (ql (g := gb222) (o := .cells #[.int .i64 0, .string (⟨#[]⟩ : ByteArray), .int .i64 0, .int .i64 0] 49 (0, 0)) (by (with_reducible repeat (first | refine qe ?_ _ | refine qf ?_ | refine qd ?_ _)); exact BK222.out) hb); have n1_ := Aside0.mk (qj (by repeat (first | (with_reducible first | exact HB.out | apply qb | apply qa | apply qc | refine qg ?_ GE222.out) | exact HB.out)) hb); clear BK222; clear HB; have BK222 := n0_; have HB := n1_; clear n0_ n1_; (try clear hb); (try clear hb2); (try clear hk); (try clear hi); have hcz123_0 : w122.cell? ⟨gb222, 0, none⟩ = some (.int .i64 0) := (qh BK222.out 0).trans rfl; have hcz123_1 : w122.cell? ⟨gb222, 1, none⟩ = some (.string (⟨#[]⟩ : ByteArray)) := (qh BK222.out 1).trans rfl; have hcz123_2 : w122.cell? ⟨gb222, 2, none⟩ = some (.int .i64 0) := (qh BK222.out 2).trans rfl; have hcz123_3 : w122.cell? ⟨gb222, 3, none⟩ = some (.int .i64 0) := (qh BK222.out 3).trans rfl; have hfz123_0 := qi BK222.out 0; have hfz123_1 := qi BK222.out 1; have hfz123_2 := qi BK222.out 2; have hfz123_3 := qi BK222.out 3))
                refine bodyPost_ret (qz rfl _ _ gb222 49 #[.int .i64 0, .string (⟨#[]⟩ : ByteArray), .int .i64 0, .int .i64 0] (0, 0) _ rfl (by (with_reducible repeat (first | refine qe ?_ _ | refine qf ?_ | refine qd ?_ _)); refine qm (cs := #[.int .i64 0, .string (⟨#[]⟩ : ByteArray), .int .i64 0, .int .i64 0]) ?_ 3 _ rfl; (with_reducible repeat (first | refine qe ?_ _ | refine qf ?_ | refine qd ?_ _)); refine qm (cs := #[.int .i64 0, .string (⟨#[]⟩ : ByteArray), .int .i64 0, .int .i64 0]) ?_ 2 _ rfl; (with_reducible repeat (first | refine qe ?_ _ | refine qf ?_ | refine qd ?_ _)); refine qm (cs := #[.int .i64 0, .string (⟨#[]⟩ : ByteArray), .int .i64 0, .int .i64 0]) ?_ 1 _ rfl; (with_reducible repeat (first | refine qe ?_ _ | refine qf ?_ | refine qd ?_ _)); refine qm (cs := #[.int .i64 0, .string (⟨#[]⟩ : ByteArray), .int .i64 0, .int .i64 0]) ?_ 0 _ rfl; (with_reducible repeat (first | refine qe ?_ _ | refine qf ?_ | refine qd ?_ _)); exact BK222.out) Tryz.underlying49 rfl (by kernel_rfl)) rfl ?_
                exact ⟨by first | rfl | (simp [ ] <;> rfl) | (simp only [← hji107]; first | rfl | (simp [ ] <;> rfl)) | (simp [*] <;> rfl), by repeat (first | (with_reducible first | exact HB.out | apply qb | apply qa | apply qc | refine qg ?_ GE222.out) | exact HB.out)⟩
              ·rw [if_neg c110] at H
               exact absurd H (by simp)
             ·rw [if_neg c109] at H
              exact absurd H (by simp)
            ·rw [if_neg c108] at H
             exact absurd H (by simp)
           ·rw [if_neg c105] at H
            have c105b0 : ((bt a0 a1) == 36) = false := beq_eq_false_iff_ne.mpr c105
            have c105b1 : ((bt a0 a1) != 36) = true := bne_iff_ne.mpr c105
            replace H := Option.bind_eq_some_iff.mp H
            obtain ⟨t240, A1240, H⟩ := H
            replace H : ((breviaryref12_named.f kj22 a0 a1 t240 l2).bind fun bt241 => (if bt241.2.2.2.2 = true then (some (bt241.1, bt241.2.1, bt241.2.2.1, bt241.2.2.2.1, t240)) else (some (0, (⟨#[]⟩ : ByteArray), 0, 0, 0)))) = some (r1, r2, r3, r4, r5) := H
            have A124 := Aside0.mk A1240
            clear A1240
            replace H := Option.bind_eq_some_iff.mp H
            obtain ⟨⟨t241, t242, t243, t244, t245⟩, A1250, H⟩ := H
            replace H : (if t245 = true then (some (t241, t242, t243, t244, t240)) else (some (0, (⟨#[]⟩ : ByteArray), 0, 0, 0))) = some (r1, r2, r3, r4, r5) := H
            have A125 := Aside0.mk A1250
            clear A1250
            by_cases c126 : t245 = true
            ·subst c126
             have H1 : (some (t241, t242, t243, t244, t240)) = some (r1, r2, r3, r4, r5) := by rw [if_pos rfl] at H; exact H
             clear H
             have H := H1
             clear H1
             simp only [Option.some.injEq, Prod.mk.injEq] at H
             obtain ⟨rfl, rfl, rfl, rfl, rfl⟩ := H
             go_wp2_with (first | ((with_reducible refine qn (f := 67) rfl ?_); refine qs (some 107) rfl rfl Tryz.func67 (by kernel_rfl) rfl #[.string a0, .int .i64 a1] rfl (by (try simp only [List.map_toArray, List.map_cons, List.map_nil]); first | done | rfl | (simp only [List.length_drop, List.length_take]; rfl)) ?_; (with_reducible refine (breviaryref12_sign.calls kj22 a0 a1 t235 t236 _ A92.out).mono ?_); rintro e w127 ⟨rfl, hb⟩; refine ⟨_, rfl, ?_⟩; have n0_ := Aside0.mk (ql (g := gb222) (o := .cells #[.int .i64 0, .string (⟨#[]⟩ : ByteArray), .int .i64 0, .int .i64 0] 49 (0, 0)) (by (with_reducible repeat (first | refine qe ?_ _ | refine qf ?_ | refine qd ?_ _)); exact BK222.out) hb); have n1_ := Aside0.mk (qj (by repeat (first | (with_reducible first | exact HB.out | apply qb | apply qa | apply qc | refine qg ?_ GE222.out) | exact HB.out)) hb); clear BK222; clear HB; have BK222 := n0_; have HB := n1_; clear n0_ n1_; (try clear hb); (try clear hb2); (try clear hk); (try clear hi)) | ((with_reducible refine qn (f := 69) rfl ?_); refine qs (some 152) rfl rfl Tryz.func69 (by kernel_rfl) rfl #[.string a0, .int .i64 a1] rfl (by (try simp only [List.map_toArray, List.map_cons, List.map_nil]); first | done | rfl | (simp only [List.length_drop, List.length_take]; rfl)) ?_; (with_reducible refine (breviaryref06_Run.calls kj22 a0 a1 t240 _ A124.out).mono ?_); rintro e w128 ⟨rfl, hb⟩; refine ⟨_, rfl, ?_⟩; have n0_ := Aside0.mk (ql (g := gb222) (o := .cells #[.int .i64 0, .string (⟨#[]⟩ : ByteArray), .int .i64 0, .int .i64 0] 49 (0, 0)) (by (with_reducible repeat (first | refine qe ?_ _ | refine qf ?_ | refine qd ?_ _)); exact BK222.out) hb); have n1_ := Aside0.mk (qj (by repeat (first | (with_reducible first | exact HB.out | apply qb | apply qa | apply qc | refine qg ?_ GE222.out) | exact HB.out)) hb); clear BK222; clear HB; have BK222 := n0_; have HB := n1_; clear n0_ n1_; (try clear hb); (try clear hb2); (try clear hk); (try clear hi)) | ((with_reducible refine qn (f := 71) rfl ?_); refine qs (some 158) rfl rfl Tryz.func71 (by kernel_rfl) rfl #[.string a0, .int .i64 a1, .int .i64 t240, .slice A2 l2.length c2] rfl (by (try simp only [List.map_toArray, List.map_cons, List.map_nil]); first | done | rfl | (simp only [List.length_drop, List.length_take]; rfl)) ?_; (with_reducible refine (breviaryref12_named.calls kj22 a0 a1 t240 _ _ l2 t241 t242 t243 t244 true _ ?side1 ?side2 A125.out).mono ?_); (case side1 => repeat (first | exact (Kd.C_below HR2.out HB.out) | (with_reducible refine Kd.C_alloc ?_ _) | (with_reducible refine Kd.C_drewN ?_ _) | (with_reducible refine Kd.C_drew ?_))); (case side2 => exact HC2.out); rintro e w129 ⟨rfl, hb⟩; refine ⟨_, rfl, ?_⟩; have n0_ := Aside0.mk (ql (g := gb222) (o := .cells #[.int .i64 0, .string (⟨#[]⟩ : ByteArray), .int .i64 0, .int .i64 0] 49 (0, 0)) (by (with_reducible repeat (first | refine qe ?_ _ | refine qf ?_ | refine qd ?_ _)); exact BK222.out) hb); have n1_ := Aside0.mk (qj (by repeat (first | (with_reducible first | exact HB.out | apply qb | apply qa | apply qc | refine qg ?_ GE222.out) | exact HB.out)) hb); clear BK222; clear HB; have BK222 := n0_; have HB := n1_; clear n0_ n1_; (try clear hb); (try clear hb2); (try clear hk); (try clear hi)) | ((with_reducible refine qo (N := 17) rfl ?_); refine qp ?hg (N := 17) ?hd (cs := #[.int .i64 0, .string (⟨#[]⟩ : ByteArray), .int .i64 0, .int .i64 0]) (t := 49) ?hr ?_; (case hd => rfl); (case hg => rfl); (case hr => first | (go_simp; done) | (go_simp; rfl)); intro gb246 hg w130 hbox hb; have n0_ := Aside0.mk (ql (g := gb222) (o := .cells #[.int .i64 0, .string (⟨#[]⟩ : ByteArray), .int .i64 0, .int .i64 0] 49 (0, 0)) (by (with_reducible repeat (first | refine qe ?_ _ | refine qf ?_ | refine qd ?_ _)); exact BK222.out) hb); have n1_ := Aside0.mk (qj (by repeat (first | (with_reducible first | exact HB.out | apply qb | apply qa | apply qc | refine qg ?_ GE222.out) | exact HB.out)) hb); have n2_ := Aside0.mk (hbox); have n3_ := Aside0.mk ((by rw [hg]; exact (qk (by repeat (first | (with_reducible first | exact HB.out | apply qb | apply qa | apply qc | refine qg ?_ GE222.out) | exact HB.out))) : w.heap.size ≤ gb246)); have n4_ := Aside0.mk ((by rw [hg]; exact (qk (by repeat (first | (with_reducible first | exact HB.out | apply qb | apply qa | apply qc | refine qg ?_ GE222.out) | exact HB.out))) : w.heap.size ≤ gb246)); have n5_ := Aside0.mk ((by rw [hg]; exact Nat.ne_of_lt (qx (g := gb222) (o := .cells #[.int .i64 0, .string (⟨#[]⟩ : ByteArray), .int .i64 0, .int .i64 0] 49 (0, 0)) (by (with_reducible repeat (first | refine qe ?_ _ | refine qf ?_ | refine qd ?_ _)); exact BK222.out)) : gb222 ≠ gb246)); have n6_ := Aside0.mk ((by rw [hg]; exact Nat.ne_of_gt (qx (g := gb222) (o := .cells #[.int .i64 0, .string (⟨#[]⟩ : ByteArray), .int .i64 0, .int .i64 0] 49 (0, 0)) (by (with_reducible repeat (first | refine qe ?_ _ | refine qf ?_ | refine qd ?_ _)); exact BK222.out)) : gb246 ≠ gb222)); clear BK222; clear HB; have BK222 := n0_; have HB := n1_; have BK246 := n2_; have GW246 := n3_; have GE246 := n4_; have NB222_246 := n5_; have NB246_222 := n6_; clear n0_ n1_ n2_ n3_ n4_ n5_ n6_; clear hb hbox hg; have hnb131 := NB246_222.out; have hnc131 := NB222_246.out; have hcz132_0 : w130.cell? ⟨gb246, 0, none⟩ = some (.int .i64 0) := (qh BK246.out 0).trans rfl; have hcz132_1 : w130.cell? ⟨gb246, 1, none⟩ = some (.string (⟨#[]⟩ : ByteArray)) := (qh BK246.out 1).trans rfl; have hcz132_2 : w130.cell? ⟨gb246, 2, none⟩ = some (.int .i64 0) := (qh BK246.out 2).trans rfl; have hcz132_3 : w130.cell? ⟨gb246, 3, none⟩ = some (.int .i64 0) := (qh BK246.out 3).trans rfl; have hfz132_0 := qi BK246.out 0; have hfz132_1 := qi BK246.out 1; have hfz132_2 := qi BK246.out 2; have hfz132_3 := qi BK246.out 3; have hcz133_0 : w130.cell? ⟨gb222, 0, none⟩ = some (.int .i64 0) := (qh BK222.out 0).trans rfl; have hcz133_1 : w130.cell? ⟨gb222, 1, none⟩ = some (.string (⟨#[]⟩ : ByteArray)) := (qh BK222.out 1).trans rfl; have hcz133_2 : w130.cell? ⟨gb222, 2, none⟩ = some (.int .i64 0) := (qh BK222.out 2).trans rfl; have hcz133_3 : w130.cell? ⟨gb222, 3, none⟩ = some (.int .i64 0) := (qh BK222.out 3).trans rfl; have hfz133_0 := qi BK222.out 0; have hfz133_1 := qi BK222.out 1; have hfz133_2 := qi BK222.out 2; have hfz133_3 := qi BK222.out 3))
             refine bodyPost_ret (qz rfl _ _ gb222 49 #[.int .i64 t241, .string t242, .int .i64 t243, .int .i64 t244] (0, 0) _ rfl (by (with_reducible repeat (first | refine qe ?_ _ | refine qf ?_ | refine qd ?_ _)); refine qm (cs := #[.int .i64 t241, .string t242, .int .i64 t243, .int .i64 0]) ?_ 3 _ rfl; (with_reducible repeat (first | refine qe ?_ _ | refine qf ?_ | refine qd ?_ _)); refine qm (cs := #[.int .i64 t241, .string t242, .int .i64 0, .int .i64 0]) ?_ 2 _ rfl; (with_reducible repeat (first | refine qe ?_ _ | refine qf ?_ | refine qd ?_ _)); refine qm (cs := #[.int .i64 t241, .string (⟨#[]⟩ : ByteArray), .int .i64 0, .int .i64 0]) ?_ 1 _ rfl; (with_reducible repeat (first | refine qe ?_ _ | refine qf ?_ | refine qd ?_ _)); refine qm (cs := #[.int .i64 0, .string (⟨#[]⟩ : ByteArray), .int .i64 0, .int .i64 0]) ?_ 0 _ rfl; (with_reducible repeat (first | refine qe ?_ _ | refine qf ?_ | refine qd ?_ _)); refine qr ?_ NB222_246.out _; (with_reducible repeat (first | refine qe ?_ _ | refine qf ?_ | refine qd ?_ _)); refine qr ?_ NB222_246.out _; (with_reducible repeat (first | refine qe ?_ _ | refine qf ?_ | refine qd ?_ _)); refine qr ?_ NB222_246.out _; (with_reducible repeat (first | refine qe ?_ _ | refine qf ?_ | refine qd ?_ _)); refine qr ?_ NB222_246.out _; (with_reducible repeat (first | refine qe ?_ _ | refine qf ?_ | refine qd ?_ _)); exact BK222.out) Tryz.underlying49 rfl (by kernel_rfl)) rfl ?_
             exact ⟨by first | rfl | (simp [ ] <;> rfl) | (simp [*] <;> rfl), by repeat (first | (with_reducible first | exact HB.out | apply qb | apply qa | apply qc | refine qg ?_ GE222.out | refine qg ?_ GE246.out) | exact HB.out)⟩
            ·replace c126 := Bool.eq_false_iff.mpr c126
             subst c126
             have H1 : (some (0, (⟨#[]⟩ : ByteArray), 0, 0, 0)) = some (r1, r2, r3, r4, r5) := by rw [if_neg (show ¬ (false = true) by decide)] at H; exact H
             clear H
             have H := H1
             clear H1
             simp only [Option.some.injEq, Prod.mk.injEq] at H
             obtain ⟨rfl, rfl, rfl, rfl, rfl⟩ := H
             go_wp2_with (first | ((with_reducible refine qn (f := 67) rfl ?_); refine qs (some 107) rfl rfl Tryz.func67 (by kernel_rfl) rfl #[.string a0, .int .i64 a1] rfl (by (try simp only [List.map_toArray, List.map_cons, List.map_nil]); first | done | rfl | (simp only [List.length_drop, List.length_take]; rfl)) ?_; (with_reducible refine (breviaryref12_sign.calls kj22 a0 a1 t235 t236 _ A92.out).mono ?_); rintro e w134 ⟨rfl, hb⟩; refine ⟨_, rfl, ?_⟩; have n0_ := Aside0.mk (ql (g := gb222) (o := .cells #[.int .i64 0, .string (⟨#[]⟩ : ByteArray), .int .i64 0, .int .i64 0] 49 (0, 0)) (by (with_reducible repeat (first | refine qe ?_ _ | refine qf ?_ | refine qd ?_ _)); exact BK222.out) hb); have n1_ := Aside0.mk (qj (by repeat (first | (with_reducible first | exact HB.out | apply qb | apply qa | apply qc | refine qg ?_ GE222.out) | exact HB.out)) hb); clear BK222; clear HB; have BK222 := n0_; have HB := n1_; clear n0_ n1_; (try clear hb); (try clear hb2); (try clear hk); (try clear hi)) | ((with_reducible refine qn (f := 69) rfl ?_); refine qs (some 152) rfl rfl Tryz.func69 (by kernel_rfl) rfl #[.string a0, .int .i64 a1] rfl (by (try simp only [List.map_toArray, List.map_cons, List.map_nil]); first | done | rfl | (simp only [List.length_drop, List.length_take]; rfl)) ?_; (with_reducible refine (breviaryref06_Run.calls kj22 a0 a1 t240 _ A124.out).mono ?_); rintro e w135 ⟨rfl, hb⟩; refine ⟨_, rfl, ?_⟩; have n0_ := Aside0.mk (ql (g := gb222) (o := .cells #[.int .i64 0, .string (⟨#[]⟩ : ByteArray), .int .i64 0, .int .i64 0] 49 (0, 0)) (by (with_reducible repeat (first | refine qe ?_ _ | refine qf ?_ | refine qd ?_ _)); exact BK222.out) hb); have n1_ := Aside0.mk (qj (by repeat (first | (with_reducible first | exact HB.out | apply qb | apply qa | apply qc | refine qg ?_ GE222.out) | exact HB.out)) hb); clear BK222; clear HB; have BK222 := n0_; have HB := n1_; clear n0_ n1_; (try clear hb); (try clear hb2); (try clear hk); (try clear hi)) | ((with_reducible refine qn (f := 71) rfl ?_); refine qs (some 158) rfl rfl Tryz.func71 (by kernel_rfl) rfl #[.string a0, .int .i64 a1, .int .i64 t240, .slice A2 l2.length c2] rfl (by (try simp only [List.map_toArray, List.map_cons, List.map_nil]); first | done | rfl | (simp only [List.length_drop, List.length_take]; rfl)) ?_; (with_reducible refine (breviaryref12_named.calls kj22 a0 a1 t240 _ _ l2 t241 t242 t243 t244 false _ ?side1 ?side2 A125.out).mono ?_); (case side1 => repeat (first | exact (Kd.C_below HR2.out HB.out) | (with_reducible refine Kd.C_alloc ?_ _) | (with_reducible refine Kd.C_drewN ?_ _) | (with_reducible refine Kd.C_drew ?_))); (case side2 => exact HC2.out); rintro e w136 ⟨rfl, hb⟩; refine ⟨_, rfl, ?_⟩; have n0_ := Aside0.mk (ql (g := gb222) (o := .cells #[.int .i64 0, .string (⟨#[]⟩ : ByteArray), .int .i64 0, .int .i64 0] 49 (0, 0)) (by (with_reducible repeat (first | refine qe ?_ _ | refine qf ?_ | refine qd ?_ _)); exact BK222.out) hb); have n1_ := Aside0.mk (qj (by repeat (first | (with_reducible first | exact HB.out | apply qb | apply qa | apply qc | refine qg ?_ GE222.out) | exact HB.out)) hb); clear BK222; clear HB; have BK222 := n0_; have HB := n1_; clear n0_ n1_; (try clear hb); (try clear hb2); (try clear hk); (try clear hi)) | ((with_reducible refine qo (N := 17) rfl ?_); refine qp ?hg (N := 17) ?hd (cs := #[.int .i64 0, .string (⟨#[]⟩ : ByteArray), .int .i64 0, .int .i64 0]) (t := 49) ?hr ?_; (case hd => rfl); (case hg => rfl); (case hr => first | (go_simp; done) | (go_simp; rfl)); intro gb246 hg w137 hbox hb; have n0_ := Aside0.mk (ql (g := gb222) (o := .cells #[.int .i64 0, .string (⟨#[]⟩ : ByteArray), .int .i64 0, .int .i64 0] 49 (0, 0)) (by (with_reducible repeat (first | refine qe ?_ _ | refine qf ?_ | refine qd ?_ _)); exact BK222.out) hb); have n1_ := Aside0.mk (qj (by repeat (first | (with_reducible first | exact HB.out | apply qb | apply qa | apply qc | refine qg ?_ GE222.out) | exact HB.out)) hb); have n2_ := Aside0.mk (hbox); have n3_ := Aside0.mk ((by rw [hg]; exact (qk (by repeat (first | (with_reducible first | exact HB.out | apply qb | apply qa | apply qc | refine qg ?_ GE222.out) | exact HB.out))) : w.heap.size ≤ gb246)); have n4_ := Aside0.mk ((by rw [hg]; exact (qk (by repeat (first | (with_reducible first | exact HB.out | apply qb | apply qa | apply qc | refine qg ?_ GE222.out) | exact HB.out))) : w.heap.size ≤ gb246)); have n5_ := Aside0.mk ((by rw [hg]; exact Nat.ne_of_lt (qx (g := gb222) (o := .cells #[.int .i64 0, .string (⟨#[]⟩ : ByteArray), .int .i64 0, .int .i64 0] 49 (0, 0)) (by (with_reducible repeat (first | refine qe ?_ _ | refine qf ?_ | refine qd ?_ _)); exact BK222.out)) : gb222 ≠ gb246)); have n6_ := Aside0.mk ((by rw [hg]; exact Nat.ne_of_gt (qx (g := gb222) (o := .cells #[.int .i64 0, .string (⟨#[]⟩ : ByteArray), .int .i64 0, .int .i64 0] 49 (0, 0)) (by (with_reducible repeat (first | refine qe ?_ _ | refine qf ?_ | refine qd ?_ _)); exact BK222.out)) : gb246 ≠ gb222)); clear BK222; clear HB; have BK222 := n0_; have HB := n1_; have BK246 := n2_; have GW246 := n3_; have GE246 := n4_; have NB222_246 := n5_; have NB246_222 := n6_; clear n0_ n1_ n2_ n3_ n4_ n5_ n6_; clear hb hbox hg; have hnb138 := NB246_222.out; have hnc138 := NB222_246.out; have hcz139_0 : w137.cell? ⟨gb246, 0, none⟩ = some (.int .i64 0) := (qh BK246.out 0).trans rfl; have hcz139_1 : w137.cell? ⟨gb246, 1, none⟩ = some (.string (⟨#[]⟩ : ByteArray)) := (qh BK246.out 1).trans rfl; have hcz139_2 : w137.cell? ⟨gb246, 2, none⟩ = some (.int .i64 0) := (qh BK246.out 2).trans rfl; have hcz139_3 : w137.cell? ⟨gb246, 3, none⟩ = some (.int .i64 0) := (qh BK246.out 3).trans rfl; have hfz139_0 := qi BK246.out 0; have hfz139_1 := qi BK246.out 1; have hfz139_2 := qi BK246.out 2; have hfz139_3 := qi BK246.out 3; have hcz140_0 : w137.cell? ⟨gb222, 0, none⟩ = some (.int .i64 0) := (qh BK222.out 0).trans rfl; have hcz140_1 : w137.cell? ⟨gb222, 1, none⟩ = some (.string (⟨#[]⟩ : ByteArray)) := (qh BK222.out 1).trans rfl; have hcz140_2 : w137.cell? ⟨gb222, 2, none⟩ = some (.int .i64 0) := (qh BK222.out 2).trans rfl; have hcz140_3 : w137.cell? ⟨gb222, 3, none⟩ = some (.int .i64 0) := (qh BK222.out 3).trans rfl; have hfz140_0 := qi BK222.out 0; have hfz140_1 := qi BK222.out 1; have hfz140_2 := qi BK222.out 2; have hfz140_3 := qi BK222.out 3))
             refine bodyPost_ret (qz rfl _ _ gb222 49 #[.int .i64 0, .string (⟨#[]⟩ : ByteArray), .int .i64 0, .int .i64 0] (0, 0) _ rfl (by (with_reducible repeat (first | refine qe ?_ _ | refine qf ?_ | refine qd ?_ _)); refine qm (cs := #[.int .i64 0, .string (⟨#[]⟩ : ByteArray), .int .i64 0, .int .i64 0]) ?_ 3 _ rfl; (with_reducible repeat (first | refine qe ?_ _ | refine qf ?_ | refine qd ?_ _)); refine qm (cs := #[.int .i64 0, .string (⟨#[]⟩ : ByteArray), .int .i64 0, .int .i64 0]) ?_ 2 _ rfl; (with_reducible repeat (first | refine qe ?_ _ | refine qf ?_ | refine qd ?_ _)); refine qm (cs := #[.int .i64 0, .string (⟨#[]⟩ : ByteArray), .int .i64 0, .int .i64 0]) ?_ 1 _ rfl; (with_reducible repeat (first | refine qe ?_ _ | refine qf ?_ | refine qd ?_ _)); refine qm (cs := #[.int .i64 0, .string (⟨#[]⟩ : ByteArray), .int .i64 0, .int .i64 0]) ?_ 0 _ rfl; (with_reducible repeat (first | refine qe ?_ _ | refine qf ?_ | refine qd ?_ _)); refine qr ?_ NB222_246.out _; (with_reducible repeat (first | refine qe ?_ _ | refine qf ?_ | refine qd ?_ _)); refine qr ?_ NB222_246.out _; (with_reducible repeat (first | refine qe ?_ _ | refine qf ?_ | refine qd ?_ _)); refine qr ?_ NB222_246.out _; (with_reducible repeat (first | refine qe ?_ _ | refine qf ?_ | refine qd ?_ _)); refine qr ?_ NB222_246.out _; (with_reducible repeat (first | refine qe ?_ _ | refine qf ?_ | refine qd ?_ _)); exact BK222.out) Tryz.underlying49 rfl (by kernel_rfl)) rfl ?_
             exact ⟨by first | rfl | (simp [ ] <;> rfl) | (simp [*] <;> rfl), by repeat (first | (with_reducible first | exact HB.out | apply qb | apply qa | apply qc | refine qg ?_ GE222.out | refine qg ?_ GE246.out) | exact HB.out)⟩
  ·rw [if_neg c5] at H
   exact absurd H (by simp)
 ·rw [if_neg c4] at H
  exact absurd H (by simp)

end Go.Proofs.YthilcidoacgdfaaGreatDoor.PF
