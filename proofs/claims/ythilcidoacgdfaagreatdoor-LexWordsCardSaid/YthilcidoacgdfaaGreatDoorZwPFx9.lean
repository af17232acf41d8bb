import Derived.Test.YthilcidoacgdfaaGreatDoorZwPFx3
import Derived.Test.YthilcidoacgdfaaGreatDoorZwPFx5
import Derived.Test.YthilcidoacgdfaaGreatDoorZwPFx7
import Derived.Test.YthilcidoacgdfaaGreatDoorZwPFx8
set_option maxHeartbeats 8000000
set_option maxRecDepth 100000
namespace Go.Proofs.YthilcidoacgdfaaGreatDoorW.PrintLast
end Go.Proofs.YthilcidoacgdfaaGreatDoorW.PrintLast
namespace Go.Proofs.YthilcidoacgdfaaGreatDoorW.PrintMore
end Go.Proofs.YthilcidoacgdfaaGreatDoorW.PrintMore
namespace Go.Proofs.YthilcidoacgdfaaGreatDoorW.PrintWords
end Go.Proofs.YthilcidoacgdfaaGreatDoorW.PrintWords
namespace Go.Proofs.YthilcidoacgdfaaGreatDoor.PF
open Go.RowKit YthilcidoacgdfaaGreatDoorW.PrintWords YthilcidoacgdfaaGreatDoorW.PrintLast YthilcidoacgdfaaGreatDoorW.PrintMore

set_option linter.unusedVariables false
set_option linter.unusedSimpArgs false

mutual
def breviaryref01_Name.j0 : Nat → List Int → Bool → Option (Bool)
 | 0, _, _ => none
 | k + 1, x3, x29 => if x29 = true then (some false) else (breviaryref01_Name.l0 k x3 0)
def breviaryref01_Name.l0 : Nat → List Int → Int → Option (Bool)
 | 0, _, _ => none
 | k + 1, x3, x5 => if x5 < (x3.length : Int) then (if 0 ≤ x5 then ((breviaryref01_Part.f k (rd x3 x5)).bind fun t206 => (if t206 = true then (breviaryref01_Name.l0 k x3 (wrap64 (x5 + 1))) else (some false))) else (none)) else (some true)
end
def breviaryref01_Name.f (k : Nat) (a0 : ByteArray) : Option (Bool) := (breviaryref01_Chars.f k a0).bind fun bt199 => (if bt199.2 = true then (if (a0.size : Int) < 1 then (breviaryref01_Name.j0 k bt199.1 true) else (if (a0.size : Int) > 32 then (breviaryref01_Name.j0 k bt199.1 true) else (if 0 < (bt199.1.length : Int) then ((breviaryref01_Start.f k (rd bt199.1 0)).bind fun t204 => (breviaryref01_Name.j0 k bt199.1 (!t204))) else (none)))) else (breviaryref01_Name.j0 k bt199.1 true))
theorem breviaryref01_Name.calls (k : Nat) (a0 : ByteArray) (r : Bool) (w : World) (h : breviaryref01_Name.f k a0 = some r) :
  Calls Tryz.prog 70 #[.string a0] w fun e w' => e = .returned (.bool r) ∧ Below w.heap.size w w' := by
 have HB := Aside0.mk (Below.refl w.heap.size w)
 have H : ((breviaryref01_Chars.f k a0).bind fun bt199 => (if bt199.2 = true then (if (a0.size : Int) < 1 then (breviaryref01_Name.j0 k bt199.1 true) else (if (a0.size : Int) > 32 then (breviaryref01_Name.j0 k bt199.1 true) else (if 0 < (bt199.1.length : Int) then ((breviaryref01_Start.f k (rd bt199.1 0)).bind fun t204 => (breviaryref01_Name.j0 k bt199.1 (!t204))) else (none)))) else (breviaryref01_Name.j0 k bt199.1 true))) = some r := h
 clear h
 replace H := Option.bind_eq_some_iff.mp H
 obtain ⟨⟨t199, t200⟩, A20, H⟩ := H
 replace H : (if t200 = true then (if (a0.size : Int) < 1 then (breviaryref01_Name.j0 k t199 true) else (if (a0.size : Int) > 32 then (breviaryref01_Name.j0 k t199 true) else (if 0 < (t199.length : Int) then ((breviaryref01_Start.f k (rd t199 0)).bind fun t204 => (breviaryref01_Name.j0 k t199 (!t204))) else (none)))) else (breviaryref01_Name.j0 k t199 true)) = some r := H
 have A2 := Aside0.mk A20
 clear A20
 have HC3 := Aside0.mk H
 clear H
 go_enter Tryz.func70, Tryz.ntmps70
 go_upto_region 2 with (first | ((with_reducible refine qn (f := 61) rfl ?_); refine qs (some 8) rfl rfl Tryz.func61 (by kernel_rfl) rfl #[.string a0] rfl (by (try simp only [List.map_toArray, List.map_cons, List.map_nil]); first | done | rfl | (simp only [List.length_drop, List.length_take]; rfl)) ?_; (with_reducible refine (breviaryref01_Chars.calls k a0 t199 t200 _ A2.out).mono ?_); rintro e w4 ⟨v201, rfl, ho0, hb⟩; refine ⟨_, rfl, ?_⟩; have n0_ := Aside0.mk (Kd.R_lower ho0 (qk (by repeat (first | (with_reducible first | exact HB.out | apply qb | apply qa | apply qc) | exact HB.out)))); have n1_ := Aside0.mk (qj (by repeat (first | (with_reducible first | exact HB.out | apply qb | apply qa | apply qc) | exact HB.out)) hb); clear HB; have HO202 := n0_; have HB := n1_; clear n0_ n1_; (try clear hb); (try clear hb2); (try clear hk); (try clear hi); (try clear ho0)))
 (try simp only [Act.put, List.setIfInBounds_toArray, List.set_cons_zero, List.set_cons_succ])
 go_cut [29] (fun v29 wc => ∃ (kq : Nat) (x29_2 : Bool), v29 = .bool x29_2 ∧ Aside0 (breviaryref01_Name.j0 kq t199 x29_2 = some r) ∧ Aside0 (kq ≤ k) ∧ Aside0 (Kd.R (Kd.int .i64) 3 wc w.heap.size (fun _ => True) v201 t199) ∧ Aside0 (Below w.heap.size w wc))
 case first =>
  have H := HC3.out
  clear HC3
  by_cases c5 : t200 = true
  ·subst c5
   have H1 : (if (a0.size : Int) < 1 then (breviaryref01_Name.j0 k t199 true) else (if (a0.size : Int) > 32 then (breviaryref01_Name.j0 k t199 true) else (if 0 < (t199.length : Int) then ((breviaryref01_Start.f k (rd t199 0)).bind fun t204 => (breviaryref01_Name.j0 k t199 (!t204))) else (none)))) = some r := by rw [if_pos rfl] at H; exact H
   clear H
   have H := H1
   clear H1
   by_cases c6 : (a0.size : Int) < 1
   ·rw [if_pos c6] at H
    have c6b0 : decide ((a0.size : Int) < 1) = true := decide_eq_true c6
    have c6b1 : decide (a0.size < 1) = true := decide_eq_true (by omega)
    clear c6
    (first | rw [c6b0] | (simp only [i64_w]; rw [c6b0]) | skip)
    have H' := Aside0.mk H
    clear H
    go_wp2
    go_meet
    case rel => exact ⟨_, (true), (by first | rfl | (simp; done) | (simp [*]; done)), H', ⟨by first | omega | exact Nat.le_refl _⟩, ⟨by (with_reducible repeat (first | apply Kd.R_alloc | apply Kd.R_drewN | apply Kd.R_drew)); exact HO202.out⟩, ⟨by repeat (first | (with_reducible first | exact HB.out | apply qb | apply qa | apply qc) | exact HB.out)⟩⟩
   ·rw [if_neg c6] at H
    have c6b0 : decide ((a0.size : Int) < 1) = false := decide_eq_false c6
    have c6b1 : decide (a0.size < 1) = false := decide_eq_false (by omega)
    clear c6
    (first | rw [c6b0] | (simp only [i64_w]; rw [c6b0]) | skip)
    by_cases c7 : (a0.size : Int) > 32
    ·rw [if_pos c7] at H
     have c7b0 : decide (32 < (a0.size : Int)) = true := decide_eq_true c7
     have c7b1 : decide (32 < a0.size) = true := decide_eq_true (by omega)
     clear c7
     have H' := Aside0.mk H
     clear H
     go_wp2
     go_meet
     case rel => exact ⟨_, (true), (by first | rfl | (simp; done) | (simp [*]; done)), H', ⟨by first | omega | exact Nat.le_refl _⟩, ⟨by (with_reducible repeat (first | apply Kd.R_alloc | apply Kd.R_drewN | apply Kd.R_drew)); exact HO202.out⟩, ⟨by repeat (first | (with_reducible first | exact HB.out | apply qb | apply qa | apply qc) | exact HB.out)⟩⟩
    ·rw [if_neg c7] at H
     have c7b0 : decide (32 < (a0.size : Int)) = false := decide_eq_false c7
     have c7b1 : decide (32 < a0.size) = false := decide_eq_false (by omega)
     clear c7
     by_cases c8 : 0 < (t199.length : Int)
     ·rw [if_pos c8] at H
      have c8b0 : decide (0 < (t199.length : Int)) = true := decide_eq_true c8
      have c8b1 : decide (0 < t199.length) = true := decide_eq_true (by omega)
      clear c8
      replace H := Option.bind_eq_some_iff.mp H
      obtain ⟨t204, A90, H⟩ := H
      replace H : (breviaryref01_Name.j0 k t199 (!t204)) = some r := H
      have A9 := Aside0.mk A90
      clear A90
      have H' := Aside0.mk H
      clear H
      obtain ⟨Ao10, co10, eo10⟩ := Kd.R_slice HO202.out
      subst eo10
      have p203 : 0 ≤ (0 : Int) := (by omega)
      have q203 : 0 < (t199.length : Int) := of_decide_eq_true (by first | (with_reducible assumption) | assumption)
      obtain ⟨ad203, e203, hx203_0⟩ := Kd.at_int (Kd.R_reads' HO202.out).2.2 0 p203 q203
      cases e203
      have qi203 : (0 < t199.length) = True := eq_true (by omega)
      (try rw [show ((0 : Int)).toNat = 0 from rfl] at hx203_0)
      (try rw [Addr.add_zero'] at hx203_0)
      replace p203 := eq_true p203
      replace q203 := eq_true q203
      go_wp2_with (first | (go_at_call 111; (with_reducible refine (breviaryref01_Start.calls k (rd t199 0) t204 _ A9.out).mono ?_); rintro e w11 ⟨rfl, hb⟩; have n0_ := Aside0.mk (Kd.R_below (by (with_reducible repeat (first | apply Kd.R_alloc | apply Kd.R_drewN | apply Kd.R_drew)); exact HO202.out) hb); have n1_ := Aside0.mk (qj (by repeat (first | (with_reducible first | exact HB.out | apply qb | apply qa | apply qc) | exact HB.out)) hb); clear HO202; clear HB; have HO202 := n0_; have HB := n1_; clear n0_ n1_; (try clear hb); (try clear hb2); (try clear hk); (try clear hi)))
      go_meet
      case rel => exact ⟨_, (!t204), (by first | rfl | (simp; done) | (simp [*]; done)), H', ⟨by first | omega | exact Nat.le_refl _⟩, ⟨by (with_reducible repeat (first | apply Kd.R_alloc | apply Kd.R_drewN | apply Kd.R_drew)); exact HO202.out⟩, ⟨by repeat (first | (with_reducible first | exact HB.out | apply qb | apply qa | apply qc) | exact HB.out)⟩⟩
     ·rw [if_neg c8] at H
      exact absurd H (by simp)
  ·replace c5 := Bool.eq_false_iff.mpr c5
   subst c5
   have H1 : (breviaryref01_Name.j0 k t199 true) = some r := by rw [if_neg (show ¬ (false = true) by decide)] at H; exact H
   clear H
   have H := H1
   clear H1
   have H' := Aside0.mk H
   clear H
   go_wp2
   go_meet
   case rel => exact ⟨_, (true), (by first | rfl | (simp; done) | (simp [*]; done)), H', ⟨by first | omega | exact Nat.le_refl _⟩, ⟨by (with_reducible repeat (first | apply Kd.R_alloc | apply Kd.R_drewN | apply Kd.R_drew)); exact HO202.out⟩, ⟨by repeat (first | (with_reducible first | exact HB.out | apply qb | apply qa | apply qc) | exact HB.out)⟩⟩
 case rest =>
  clear HC3
  try clear p2
  try clear q2
  try clear hx2
  try clear qi2
  try clear c5
  try clear c6
  try clear c6b0
  try clear c6b1
  try clear c7
  try clear c7b0
  try clear c7b1
  try clear c8
  try clear c8b0
  try clear c8b1
  try clear hx203_0
  try clear p203
  try clear q203
  obtain ⟨kq, x29_2, rfl, HA, HJ2, HO_3, HB⟩ := hcut
  cases kq with
  | zero => exact absurd HA.out (by simp [breviaryref01_Name.j0])
  | succ kj2 =>
   have H := HA.out
   clear HA
   simp only [breviaryref01_Name.j0] at H
   by_cases c12 : x29_2 = true
   ·subst c12
    have H1 : (some false) = some r := by rw [if_pos rfl] at H; exact H
    clear H
    have H := H1
    clear H1
    obtain rfl := Option.some.inj H
    go_wp2
    go_ret
    exact ⟨by first | rfl | (simp [ ] <;> rfl) | (simp [*] <;> rfl), by repeat (first | (with_reducible first | exact HB.out | apply qb | apply qa | apply qc) | exact HB.out)⟩
   ·replace c12 := Bool.eq_false_iff.mpr c12
    subst c12
    have H1 : (breviaryref01_Name.l0 kj2 t199 0) = some r := by rw [if_neg (show ¬ (false = true) by decide)] at H; exact H
    clear H
    have H := H1
    clear H1
    have H' := Aside0.mk H
    clear H
    go_wp2
    go_loopg [5] kj2 (fun kq v5 w' => ∃ (x5_2 : Int), v5 = .int .i64 x5_2 ∧ Aside0 (breviaryref01_Name.l0 kq t199 x5_2 = some r) ∧ Aside0 (kq ≤ kj2) ∧ Aside0 (Kd.R (Kd.int .i64) 3 w' w.heap.size (fun _ => True) v201 t199) ∧ Aside0 (Below w.heap.size w w'))
    case atStart => exact ⟨(0), (by first | rfl | (simp; done) | (simp [*]; done)), H', ⟨Nat.le_refl _⟩, ⟨by (with_reducible repeat (first | apply Kd.R_alloc | apply Kd.R_drewN | apply Kd.R_drew)); exact HO_3.out⟩, ⟨by repeat (first | (with_reducible first | exact HB.out | apply qb | apply qa | apply qc) | exact HB.out)⟩⟩
    case round =>
     clear H'
     try clear c1
     try clear p2
     try clear q2
     try clear hx2
     try clear qi2
     try clear c5
     try clear c6
     try clear c6b0
     try clear c6b1
     try clear c7
     try clear c7b0
     try clear c7b1
     try clear c8
     try clear c8b0
     try clear c8b1
     try clear c12
     try clear hx203_0
     try clear p2
     try clear p203
     try clear q2
     try clear q203
     obtain ⟨x5_2, rfl, HA, HK2, HO_3, HB⟩ := hrel
     cases gk with
     | zero => exact absurd HA.out (by simp [breviaryref01_Name.l0])
     | succ k2 =>
      have H := HA.out
      clear HA
      simp only [breviaryref01_Name.l0] at H
      by_cases c13 : x5_2 < (t199.length : Int)
      ·rw [if_pos c13] at H
       have c13b0 : decide (x5_2 < (t199.length : Int)) = true := decide_eq_true c13
       clear c13
       by_cases c14 : 0 ≤ x5_2
       ·rw [if_pos c14] at H
        have c14b0 : decide (0 ≤ x5_2) = true := decide_eq_true c14
        clear c14
        replace H := Option.bind_eq_some_iff.mp H
        obtain ⟨t206, A150, H⟩ := H
        replace H : (if t206 = true then (breviaryref01_Name.l0 k2 t199 (wrap64 (x5_2 + 1))) else (some false)) = some r := H
        have A15 := Aside0.mk A150
        clear A150
        by_cases c16 : t206 = true
        ·subst c16
         have H1 : (breviaryref01_Name.l0 k2 t199 (wrap64 (x5_2 + 1))) = some r := by rw [if_pos rfl] at H; exact H
         clear H
         have H := H1
         clear H1
         have H' := Aside0.mk H
         clear H
         obtain ⟨Ao17, co17, eo17⟩ := Kd.R_slice HO_3.out
         subst eo17
         have p205 : 0 ≤ (x5_2 : Int) := of_decide_eq_true (by first | (with_reducible assumption) | assumption)
         have q205 : x5_2 < (t199.length : Int) := of_decide_eq_true (by first | (with_reducible assumption) | assumption)
         obtain ⟨ad205, e205, hx205_0⟩ := Kd.at_int (Kd.R_reads' HO_3.out).2.2 x5_2 p205 q205
         cases e205
         replace p205 := eq_true p205
         replace q205 := eq_true q205
         go_wp2_with (first | ((with_reducible refine qn (f := 110) rfl ?_); refine qs (some 40) rfl rfl Tryz.func110 (by kernel_rfl) rfl #[.int .i64 (rd t199 x5_2)] rfl (by (try simp only [List.map_toArray, List.map_cons, List.map_nil]); first | done | rfl | (simp only [List.length_drop, List.length_take]; rfl)) ?_; (with_reducible refine (breviaryref01_Part.calls k2 (rd t199 x5_2) true _ A15.out).mono ?_); rintro e w18 ⟨rfl, hb⟩; refine ⟨_, rfl, ?_⟩; have n0_ := Aside0.mk (Kd.R_below (by (with_reducible repeat (first | apply Kd.R_alloc | apply Kd.R_drewN | apply Kd.R_drew)); exact HO_3.out) hb); have n1_ := Aside0.mk (qj (by repeat (first | (with_reducible first | exact HB.out | apply qb | apply qa | apply qc) | exact HB.out)) hb); clear HO_3; clear HB; have HO_3 := n0_; have HB := n1_; clear n0_ n1_; (try clear hb); (try clear hb2); (try clear hk); (try clear hi)))
         go_roundg k2
         case measure => have := HJ2.out; have := HK2.out; omega
         case rel => exact ⟨(wrap64 (x5_2 + 1)), (by first | rfl | (simp; done) | (simp [*]; done)), H', ⟨by have := HJ2.out; have := HK2.out; omega⟩, ⟨by (with_reducible repeat (first | apply Kd.R_alloc | apply Kd.R_drewN | apply Kd.R_drew)); exact HO_3.out⟩, ⟨by repeat (first | (with_reducible first | exact HB.out | apply qb | apply qa | apply qc) | exact HB.out)⟩⟩
        ·replace c16 := Bool.eq_false_iff.mpr c16
         subst c16
         have H1 : (some false) = some r := by rw [if_neg (show ¬ (false = true) by decide)] at H; exact H
         clear H
         have H := H1
         clear H1
         obtain rfl := Option.some.inj H
         obtain ⟨Ao19, co19, eo19⟩ := Kd.R_slice HO_3.out
         subst eo19
         have p205 : 0 ≤ (x5_2 : Int) := of_decide_eq_true (by first | (with_reducible assumption) | assumption)
         have q205 : x5_2 < (t199.length : Int) := of_decide_eq_true (by first | (with_reducible assumption) | assumption)
         obtain ⟨ad205, e205, hx205_0⟩ := Kd.at_int (Kd.R_reads' HO_3.out).2.2 x5_2 p205 q205
         cases e205
         replace p205 := eq_true p205
         replace q205 := eq_true q205
         go_wp2_with (first | ((with_reducible refine qn (f := 110) rfl ?_); refine qs (some 40) rfl rfl Tryz.func110 (by kernel_rfl) rfl #[.int .i64 (rd t199 x5_2)] rfl (by (try simp only [List.map_toArray, List.map_cons, List.map_nil]); first | done | rfl | (simp only [List.length_drop, List.length_take]; rfl)) ?_; (with_reducible refine (breviaryref01_Part.calls k2 (rd t199 x5_2) false _ A15.out).mono ?_); rintro e w20 ⟨rfl, hb⟩; refine ⟨_, rfl, ?_⟩; have n0_ := Aside0.mk (Kd.R_below (by (with_reducible repeat (first | apply Kd.R_alloc | apply Kd.R_drewN | apply Kd.R_drew)); exact HO_3.out) hb); have n1_ := Aside0.mk (qj (by repeat (first | (with_reducible first | exact HB.out | apply qb | apply qa | apply qc) | exact HB.out)) hb); clear HO_3; clear HB; have HO_3 := n0_; have HB := n1_; clear n0_ n1_; (try clear hb); (try clear hb2); (try clear hk); (try clear hi)))
         go_ret
         exact ⟨by first | rfl | (simp [ ] <;> rfl) | (simp [*] <;> rfl), by repeat (first | (with_reducible first | exact HB.out | apply qb | apply qa | apply qc) | exact HB.out)⟩
       ·rw [if_neg c14] at H
        exact absurd H (by simp)
      ·rw [if_neg c13] at H
       have c13b0 : decide (x5_2 < (t199.length : Int)) = false := decide_eq_false c13
       clear c13
       obtain rfl := Option.some.inj H
       obtain ⟨Ao21, co21, eo21⟩ := Kd.R_slice HO_3.out
       subst eo21
       go_wp2
       go_ret
       exact ⟨by first | rfl | (simp [ ] <;> rfl) | (simp [*] <;> rfl), by repeat (first | (with_reducible first | exact HB.out | apply qb | apply qa | apply qc) | exact HB.out)⟩

def breviaryref12_named.j0 : Nat → ByteArray → ByteArray → Int → Int → ByteArray → Int → Int → Option (Int × ByteArray × Int × Int × Bool)
 | 0, _, _, _, _, _, _, _ => none
 | k + 1, x0, x10, x11, x216000, x216001, x216002, x216003 => (breviaryref12_begins.f x0 x11 (⟨#[40]⟩ : ByteArray)).bind fun t217 => (if t217 = true then ((breviaryref12_in.f k x10 (([(⟨#[99, 111, 109, 109, 101, 110, 116]⟩ : ByteArray), (⟨#[116, 101, 120, 116]⟩ : ByteArray), (⟨#[112, 114, 111, 99, 101, 115, 115, 105, 110, 103, 45, 105, 110, 115, 116, 114, 117, 99, 116, 105, 111, 110]⟩ : ByteArray), (⟨#[110, 111, 100, 101]⟩ : ByteArray)] : List ByteArray))).bind fun t221 => (if t221 = true then (some (4, x216001, x216002, x216003, true)) else (some (6, x216001, x216002, x216003, true)))) else (some (x216000, x216001, x216002, x216003, true)))
def breviaryref12_named.f (k : Nat) (a0 : ByteArray) (a1 : Int) (a2 : Int) (l3 : List (S49)) : Option (Int × ByteArray × Int × Int × Bool) := if 0 ≤ a1 then (if a1 ≤ a2 then (if a2 ≤ (a0.size : Int) then ((breviaryref01_Name.f k (a0.extract (a1 : Int).toNat (a2 : Int).toNat)).bind fun t208 => (if t208 = true then ((breviaryref12_ends.f k l3).bind fun t209 => (if t209 = true then ((breviaryref12_in.f k (a0.extract (a1 : Int).toNat (a2 : Int).toNat) (([(⟨#[97, 110, 100]⟩ : ByteArray), (⟨#[111, 114]⟩ : ByteArray), (⟨#[109, 111, 100]⟩ : ByteArray), (⟨#[100, 105, 118]⟩ : ByteArray)] : List ByteArray))).bind fun t213 => (some (5, a0.extract (a1 : Int).toNat (a2 : Int).toNat, 0, 0, t213))) else ((breviaryref06_Spaces.f k a0 a2).bind fun t214 => ((breviaryref12_begins.f a0 t214 (⟨#[58, 58]⟩ : ByteArray)).bind fun t216 => (if t216 = true then (breviaryref12_named.j0 k a0 (a0.extract (a1 : Int).toNat (a2 : Int).toNat) t214 7 (a0.extract (a1 : Int).toNat (a2 : Int).toNat) 0 0) else (breviaryref12_named.j0 k a0 (a0.extract (a1 : Int).toNat (a2 : Int).toNat) t214 2 (a0.extract (a1 : Int).toNat (a2 : Int).toNat) 0 0)))))) else (some (0, (⟨#[]⟩ : ByteArray), 0, 0, false)))) else (none)) else (none)) else (none)
theorem breviaryref12_named.calls (k : Nat) (a0 : ByteArray) (a1 : Int) (a2 : Int) (A3 : Option Addr) (c3 : Nat) (l3 : List (S49)) (r1 : Int) (r2 : ByteArray) (r3 : Int) (r4 : Int) (r5 : Bool) (w : World) (hr3 : Kd.C k49 w A3 l3.length l3) (hc3 : l3.length ≤ c3) (h : breviaryref12_named.f k a0 a1 a2 l3 = some (r1, r2, r3, r4, r5)) :
  Calls Tryz.prog 71 #[.string a0, .int .i64 a1, .int .i64 a2, .slice A3 l3.length c3] w fun e w' => e = .returned (.tuple #[.agg #[.int .i64 r1, .string r2, .int .i64 r3, .int .i64 r4], .bool r5]) ∧ Below w.heap.size w w' := by
 have hu49 := Tryz.underlying49
 have HR3 := Aside0.mk hr3
 have HC3 := Aside0.mk hc3
 clear hr3 hc3
 have HB := Aside0.mk (Below.refl w.heap.size w)
 have H : (if 0 ≤ a1 then (if a1 ≤ a2 then (if a2 ≤ (a0.size : Int) then ((breviaryref01_Name.f k (a0.extract (a1 : Int).toNat (a2 : Int).toNat)).bind fun t208 => (if t208 = true then ((breviaryref12_ends.f k l3).bind fun t209 => (if t209 = true then ((breviaryref12_in.f k (a0.extract (a1 : Int).toNat (a2 : Int).toNat) (([(⟨#[97, 110, 100]⟩ : ByteArray), (⟨#[111, 114]⟩ : ByteArray), (⟨#[109, 111, 100]⟩ : ByteArray), (⟨#[100, 105, 118]⟩ : ByteArray)] : List ByteArray))).bind fun t213 => (some (5, a0.extract (a1 : Int).toNat (a2 : Int).toNat, 0, 0, t213))) else ((breviaryref06_Spaces.f k a0 a2).bind fun t214 => ((breviaryref12_begins.f a0 t214 (⟨#[58, 58]⟩ : ByteArray)).bind fun t216 => (if t216 = true then (breviaryref12_named.j0 k a0 (a0.extract (a1 : Int).toNat (a2 : Int).toNat) t214 7 (a0.extract (a1 : Int).toNat (a2 : Int).toNat) 0 0) else (breviaryref12_named.j0 k a0 (a0.extract (a1 : Int).toNat (a2 : Int).toNat) t214 2 (a0.extract (a1 : Int).toNat (a2 : Int).toNat) 0 0)))))) else (some (0, (⟨#[]⟩ : ByteArray), 0, 0, false)))) else (none)) else (none)) else (none)) = some (r1, r2, r3, r4, r5) := h
 clear h
 by_cases c5 : 0 ≤ a1
 ·rw [if_pos c5] at H
  have c5b0 := eq_true c5
  have c5b1 : decide (0 ≤ a1) = true := decide_eq_true c5
  clear c5
  by_cases c6 : a1 ≤ a2
  ·rw [if_pos c6] at H
   have c6b0 := eq_true c6
   have c6b1 : decide (a1 ≤ a2) = true := decide_eq_true c6
   clear c6
   by_cases c7 : a2 ≤ (a0.size : Int)
   ·rw [if_pos c7] at H
    have c7b0 := eq_true c7
    have c7b1 : decide (a2 ≤ (a0.size : Int)) = true := decide_eq_true c7
    clear c7
    replace H := Option.bind_eq_some_iff.mp H
    obtain ⟨t208, A80, H⟩ := H
    replace H : (if t208 = true then ((breviaryref12_ends.f k l3).bind fun t209 => (if t209 = true then ((breviaryref12_in.f k (a0.extract (a1 : Int).toNat (a2 : Int).toNat) (([(⟨#[97, 110, 100]⟩ : ByteArray), (⟨#[111, 114]⟩ : ByteArray), (⟨#[109, 111, 100]⟩ : ByteArray), (⟨#[100, 105, 118]⟩ : ByteArray)] : List ByteArray))).bind fun t213 => (some (5, a0.extract (a1 : Int).toNat (a2 : Int).toNat, 0, 0, t213))) else ((breviaryref06_Spaces.f k a0 a2).bind fun t214 => ((breviaryref12_begins.f a0 t214 (⟨#[58, 58]⟩ : ByteArray)).bind fun t216 => (if t216 = true then (breviaryref12_named.j0 k a0 (a0.extract (a1 : Int).toNat (a2 : Int).toNat) t214 7 (a0.extract (a1 : Int).toNat (a2 : Int).toNat) 0 0) else (breviaryref12_named.j0 k a0 (a0.extract (a1 : Int).toNat (a2 : Int).toNat) t214 2 (a0.extract (a1 : Int).toNat (a2 : Int).toNat) 0 0)))))) else (some (0, (⟨#[]⟩ : ByteArray), 0, 0, false))) = some (r1, r2, r3, r4, r5) := H
    have A8 := Aside0.mk A80
    clear A80
    by_cases c9 : t208 = true
    ·subst c9
     have H1 : ((breviaryref12_ends.f k l3).bind fun t209 => (if t209 = true then ((breviaryref12_in.f k (a0.extract (a1 : Int).toNat (a2 : Int).toNat) (([(⟨#[97, 110, 100]⟩ : ByteArray), (⟨#[111, 114]⟩ : ByteArray), (⟨#[109, 111, 100]⟩ : ByteArray), (⟨#[100, 105, 118]⟩ : ByteArray)] : List ByteArray))).bind fun t213 => (some (5, a0.extract (a1 : Int).toNat (a2 : Int).toNat, 0, 0, t213))) else ((breviaryref06_Spaces.f k a0 a2).bind fun t214 => ((breviaryref12_begins.f a0 t214 (⟨#[58, 58]⟩ : ByteArray)).bind fun t216 => (if t216 = true then (breviaryref12_named.j0 k a0 (a0.extract (a1 : Int).toNat (a2 : Int).toNat) t214 7 (a0.extract (a1 : Int).toNat (a2 : Int).toNat) 0 0) else (breviaryref12_named.j0 k a0 (a0.extract (a1 : Int).toNat (a2 : Int).toNat) t214 2 (a0.extract (a1 : Int).toNat (a2 : Int).toNat) 0 0)))))) = some (r1, r2, r3, r4, r5) := by rw [if_pos rfl] at H; exact H
     clear H
     have H := H1
     clear H1
     replace H := Option.bind_eq_some_iff.mp H
     obtain ⟨t209, A100, H⟩ := H
     replace H : (if t209 = true then ((breviaryref12_in.f k (a0.extract (a1 : Int).toNat (a2 : Int).toNat) (([(⟨#[97, 110, 100]⟩ : ByteArray), (⟨#[111, 114]⟩ : ByteArray), (⟨#[109, 111, 100]⟩ : ByteArray), (⟨#[100, 105, 118]⟩ : ByteArray)] : List ByteArray))).bind fun t213 => (some (5, a0.extract (a1 : Int).toNat (a2 : Int).toNat, 0, 0, t213))) else ((breviaryref06_Spaces.f k a0 a2).bind fun t214 => ((breviaryref12_begins.f a0 t214 (⟨#[58, 58]⟩ : ByteArray)).bind fun t216 => (if t216 = true then (breviaryref12_named.j0 k a0 (a0.extract (a1 : Int).toNat (a2 : Int).toNat) t214 7 (a0.extract (a1 : Int).toNat (a2 : Int).toNat) 0 0) else (breviaryref12_named.j0 k a0 (a0.extract (a1 : Int).toNat (a2 : Int).toNat) t214 2 (a0.extract (a1 : Int).toNat (a2 : Int).toNat) 0 0))))) = some (r1, r2, r3, r4, r5) := H
     have A10 := Aside0.mk A100
     clear A100
     by_cases c11 : t209 = true
     ·subst c11
      have H1 : ((breviaryref12_in.f k (a0.extract (a1 : Int).toNat (a2 : Int).toNat) (([(⟨#[97, 110, 100]⟩ : ByteArray), (⟨#[111, 114]⟩ : ByteArray), (⟨#[109, 111, 100]⟩ : ByteArray), (⟨#[100, 105, 118]⟩ : ByteArray)] : List ByteArray))).bind fun t213 => (some (5, a0.extract (a1 : Int).toNat (a2 : Int).toNat, 0, 0, t213))) = some (r1, r2, r3, r4, r5) := by rw [if_pos rfl] at H; exact H
      clear H
      have H := H1
      clear H1
      obtain ⟨y210, hy210⟩ : ∃ y_ : List ByteArray, y_ = (([(⟨#[97, 110, 100]⟩ : ByteArray), (⟨#[111, 114]⟩ : ByteArray), (⟨#[109, 111, 100]⟩ : ByteArray), (⟨#[100, 105, 118]⟩ : ByteArray)] : List ByteArray)) := ⟨_, rfl⟩
      replace H : ((breviaryref12_in.f k (a0.extract (a1 : Int).toNat (a2 : Int).toNat) y210).bind fun t213 => (some (5, a0.extract (a1 : Int).toNat (a2 : Int).toNat, 0, 0, t213))) = some (r1, r2, r3, r4, r5) := by first | (rw [hy210]; with_reducible exact H) | (have H2_ := (Option.bind_some _ _).symm.trans H; rw [hy210]; with_reducible exact H2_) | (have H2_ := (Option.bind_some _ _).symm.trans H; with_reducible exact H2_) | with_reducible exact H | (rw [hy210]; exact H) | exact H
      have Ny210 := Aside0.mk hy210
      clear hy210
      replace H := Option.bind_eq_some_iff.mp H
      obtain ⟨t213, A120, H⟩ := H
      replace H : (some (5, a0.extract (a1 : Int).toNat (a2 : Int).toNat, 0, 0, t213)) = some (r1, r2, r3, r4, r5) := H
      have A12 := Aside0.mk A120
      clear A120
      simp only [Option.some.injEq, Prod.mk.injEq] at H
      obtain ⟨rfl, rfl, rfl, rfl, rfl⟩ := H
      go_enter Tryz.func71, Tryz.ntmps71
      go_wp2_with (first | ((with_reducible refine qo (N := 8) rfl ?_); refine qp ?hg (N := 8) ?hd (cs := #[.int .i64 0, .string (⟨#[]⟩ : ByteArray), .int .i64 0, .int .i64 0]) (t := 49) ?hr ?_; (case hd => rfl); (case hg => rfl); (case hr => first | (go_simp; done) | (go_simp; rfl)); intro gb207 hg w13 hbox hb; have n0_ := Aside0.mk (qj (by repeat (first | (with_reducible first | exact HB.out | apply qb | apply qa | apply qc) | exact HB.out)) hb); have n1_ := Aside0.mk (hbox); have n2_ := Aside0.mk ((by rw [hg]; exact (qk (by repeat (first | (with_reducible first | exact HB.out | apply qb | apply qa | apply qc) | exact HB.out))) : w.heap.size ≤ gb207)); have n3_ := Aside0.mk ((by rw [hg]; exact (qk (by repeat (first | (with_reducible first | exact HB.out | apply qb | apply qa | apply qc) | exact HB.out))) : w.heap.size ≤ gb207)); clear HB; have HB := n0_; have BK207 := n1_; have GW207 := n2_; have GE207 := n3_; clear n0_ n1_ n2_ n3_; clear hb hbox hg) | ((with_reducible refine qn (f := 70) rfl ?_); refine qs (some 18) rfl rfl Tryz.func70 (by kernel_rfl) rfl #[.string (a0.extract (a1 : Int).toNat (a2 : Int).toNat)] rfl (by (try simp only [List.map_toArray, List.map_cons, List.map_nil]); first | done | rfl | (simp only [List.length_drop, List.length_take]; rfl)) ?_; (with_reducible refine (breviaryref01_Name.calls k (a0.extract (a1 : Int).toNat (a2 : Int).toNat) true _ A8.out).mono ?_); rintro e w14 ⟨rfl, hb⟩; refine ⟨_, rfl, ?_⟩; have n0_ := Aside0.mk (ql (g := gb207) (o := .cells #[.int .i64 0, .string (⟨#[]⟩ : ByteArray), .int .i64 0, .int .i64 0] 49 (0, 0)) (by (with_reducible repeat (first | refine qe ?_ _ | refine qf ?_ | refine qd ?_ _)); exact BK207.out) hb); have n1_ := Aside0.mk (qj (by repeat (first | (with_reducible first | exact HB.out | apply qb | apply qa | apply qc | refine qg ?_ GE207.out) | exact HB.out)) hb); clear BK207; clear HB; have BK207 := n0_; have HB := n1_; clear n0_ n1_; (try clear hb); (try clear hb2); (try clear hk); (try clear hi)) | ((with_reducible refine qn (f := 68) rfl ?_); refine qs (some 22) rfl rfl Tryz.func68 (by kernel_rfl) rfl #[.slice A3 l3.length c3] rfl (by (try simp only [List.map_toArray, List.map_cons, List.map_nil]); first | done | rfl | (simp only [List.length_drop, List.length_take]; rfl)) ?_; (with_reducible refine (breviaryref12_ends.calls k _ _ l3 true _ ?side1 ?side2 A10.out).mono ?_); (case side1 => repeat (first | exact (Kd.C_below HR3.out HB.out) | (with_reducible refine Kd.C_alloc ?_ _) | (with_reducible refine Kd.C_drewN ?_ _) | (with_reducible refine Kd.C_drew ?_))); (case side2 => exact HC3.out); rintro e w15 ⟨rfl, hb⟩; refine ⟨_, rfl, ?_⟩; have n0_ := Aside0.mk (ql (g := gb207) (o := .cells #[.int .i64 0, .string (⟨#[]⟩ : ByteArray), .int .i64 0, .int .i64 0] 49 (0, 0)) (by (with_reducible repeat (first | refine qe ?_ _ | refine qf ?_ | refine qd ?_ _)); exact BK207.out) hb); have n1_ := Aside0.mk (qj (by repeat (first | (with_reducible first | exact HB.out | apply qb | apply qa | apply qc | refine qg ?_ GE207.out) | exact HB.out)) hb); clear BK207; clear HB; have BK207 := n0_; have HB := n1_; clear n0_ n1_; (try clear hb); (try clear hb2); (try clear hk); (try clear hi)) | ((with_reducible refine qo (N := 26) rfl ?_); refine Kd.R_lit Kd.string _ 9 ?hg (N := 26) ?hd (xs := ([(⟨#[97, 110, 100]⟩ : ByteArray), (⟨#[111, 114]⟩ : ByteArray), (⟨#[109, 111, 100]⟩ : ByteArray), (⟨#[100, 105, 118]⟩ : ByteArray)] : List ByteArray)) (inner := [.string (⟨#[97, 110, 100]⟩ : ByteArray), .string (⟨#[111, 114]⟩ : ByteArray), .string (⟨#[109, 111, 100]⟩ : ByteArray), .string (⟨#[100, 105, 118]⟩ : ByteArray)]) (ok := fun _ => True) (okp := fun _ => True) ?hr ?hp (fun _ hk => hk) trivial (Below.refl _ _) (Nat.le_refl _) (by simp) ?_; (case hd => rfl); (case hg => rfl); (case hr => first | (go_simp; done) | (go_simp; rfl)); (case hp => exact (Reps.one (show Kd.M Kd.string _ _ _ (⟨#[97, 110, 100]⟩ : ByteArray) [.string (⟨#[97, 110, 100]⟩ : ByteArray)] from rfl) (Reps.one (show Kd.M Kd.string _ _ _ (⟨#[111, 114]⟩ : ByteArray) [.string (⟨#[111, 114]⟩ : ByteArray)] from rfl) (Reps.one (show Kd.M Kd.string _ _ _ (⟨#[109, 111, 100]⟩ : ByteArray) [.string (⟨#[109, 111, 100]⟩ : ByteArray)] from rfl) (Reps.one (show Kd.M Kd.string _ _ _ (⟨#[100, 105, 118]⟩ : ByteArray) [.string (⟨#[100, 105, 118]⟩ : ByteArray)] from rfl) (Reps.none _ _)))))); intro v211 w16 ho17 hb hg_ hnew_; clear hg_ hnew_; (first | rw [← Ny210.out] at ho17 | (simp only [Int.reduceToNat] at ho17; rw [← Ny210.out] at ho17)); have n0_ := Aside0.mk (Kd.R_lower ho17 (qk (by repeat (first | (with_reducible first | exact HB.out | apply qb | apply qa | apply qc | refine qg ?_ GE207.out) | exact HB.out)))); have n1_ := Aside0.mk (ql (g := gb207) (o := .cells #[.int .i64 0, .string (⟨#[]⟩ : ByteArray), .int .i64 0, .int .i64 0] 49 (0, 0)) (by (with_reducible repeat (first | refine qe ?_ _ | refine qf ?_ | refine qd ?_ _)); exact BK207.out) hb); have n2_ := Aside0.mk (qj (by repeat (first | (with_reducible first | exact HB.out | apply qb | apply qa | apply qc | refine qg ?_ GE207.out) | exact HB.out)) hb); clear BK207; clear HB; have HO212 := n0_; have BK207 := n1_; have HB := n2_; clear n0_ n1_ n2_; clear hb ho17; obtain ⟨Ao18, co18, eo18⟩ := Kd.R_slice HO212.out; subst eo18) | ((with_reducible refine qn (f := 109) rfl ?_); refine qs (some 27) rfl rfl Tryz.func109 (by kernel_rfl) rfl #[.string (a0.extract (a1 : Int).toNat (a2 : Int).toNat), .slice Ao18 y210.length co18] rfl (by (try simp only [List.map_toArray, List.map_cons, List.map_nil]); first | done | rfl | (simp only [List.length_drop, List.length_take]; rfl)) ?_; (with_reducible refine (breviaryref12_in.calls k (a0.extract (a1 : Int).toNat (a2 : Int).toNat) _ _ y210 t213 _ ?side1 ?side2 A12.out).mono ?_); (case side1 => repeat (first | exact (Kd.R_reads' HO212.out).2.2 | (with_reducible refine Kd.C_alloc ?_ _) | (with_reducible refine Kd.C_drewN ?_ _) | (with_reducible refine Kd.C_drew ?_))); (case side2 => exact (Kd.R_reads' HO212.out).2.1); rintro e w' ⟨rfl, ⟨nd, rfl⟩⟩; refine ⟨_, rfl, ?_⟩; (try (rw [qf1 w16]; generalize hq_ : World.drewN w16 _ = w16; have n0_ : Aside0 (Kd.R Kd.string 9 w16 w.heap.size (fun _ => True) (.slice Ao18 y210.length co18) y210) := ⟨by rw [← hq_]; exact (by (with_reducible repeat (first | apply Kd.R_alloc | apply Kd.R_drewN | apply Kd.R_drew)); exact HO212.out)⟩; have n1_ : Aside0 (w16.heap[gb207]? = some (.cells #[.int .i64 0, .string (⟨#[]⟩ : ByteArray), .int .i64 0, .int .i64 0] 49 (0, 0))) := ⟨by rw [← hq_]; exact (by (with_reducible repeat (first | refine qe ?_ _ | refine qf ?_ | refine qd ?_ _)); exact BK207.out)⟩; have n2_ : Aside0 (Below w.heap.size w w16) := ⟨by rw [← hq_]; exact (by repeat (first | (with_reducible first | exact HB.out | apply qb | apply qa | apply qc | refine qg ?_ GE207.out) | exact HB.out))⟩; clear HO212 BK207 HB hq_; have HO212 := n0_; have BK207 := n1_; have HB := n2_; clear n0_ n1_ n2_)); have hcz19_0 : w16.cell? ⟨gb207, 0, none⟩ = some (.int .i64 0) := (qh BK207.out 0).trans rfl; have hcz19_1 : w16.cell? ⟨gb207, 1, none⟩ = some (.string (⟨#[]⟩ : ByteArray)) := (qh BK207.out 1).trans rfl; have hcz19_2 : w16.cell? ⟨gb207, 2, none⟩ = some (.int .i64 0) := (qh BK207.out 2).trans rfl; have hcz19_3 : w16.cell? ⟨gb207, 3, none⟩ = some (.int .i64 0) := (qh BK207.out 3).trans rfl; have hfz19_0 := qi BK207.out 0; have hfz19_1 := qi BK207.out 1; have hfz19_2 := qi BK207.out 2; have hfz19_3 := qi BK207.out 3))
      refine bodyPost_ret (qz rfl _ _ gb207 49 #[.int .i64 5, .string (a0.extract (a1 : Int).toNat (a2 : Int).toNat), .int .i64 0, .int .i64 0] (0, 0) _ rfl (by (with_reducible repeat (first | refine qe ?_ _ | refine qf ?_ | refine qd ?_ _)); refine qm (cs := #[.int .i64 5, .string (a0.extract (a1 : Int).toNat (a2 : Int).toNat), .int .i64 0, .int .i64 0]) ?_ 3 _ rfl; (with_reducible repeat (first | refine qe ?_ _ | refine qf ?_ | refine qd ?_ _)); refine qm (cs := #[.int .i64 5, .string (a0.extract (a1 : Int).toNat (a2 : Int).toNat), .int .i64 0, .int .i64 0]) ?_ 2 _ rfl; (with_reducible repeat (first | refine qe ?_ _ | refine qf ?_ | refine qd ?_ _)); refine qm (cs := #[.int .i64 5, .string (⟨#[]⟩ : ByteArray), .int .i64 0, .int .i64 0]) ?_ 1 _ rfl; (with_reducible repeat (first | refine qe ?_ _ | refine qf ?_ | refine qd ?_ _)); refine qm (cs := #[.int .i64 0, .string (⟨#[]⟩ : ByteArray), .int .i64 0, .int .i64 0]) ?_ 0 _ rfl; (with_reducible repeat (first | refine qe ?_ _ | refine qf ?_ | refine qd ?_ _)); exact BK207.out) Tryz.underlying49 rfl (by kernel_rfl)) rfl ?_
      exact ⟨by first | rfl | (simp [ ] <;> rfl) | (simp [*] <;> rfl), by repeat (first | (with_reducible first | exact HB.out | apply qb | apply qa | apply qc | refine qg ?_ GE207.out) | exact HB.out)⟩
     ·replace c11 := Bool.eq_false_iff.mpr c11
      subst c11
      have H1 : ((breviaryref06_Spaces.f k a0 a2).bind fun t214 => ((breviaryref12_begins.f a0 t214 (⟨#[58, 58]⟩ : ByteArray)).bind fun t216 => (if t216 = true then (breviaryref12_named.j0 k a0 (a0.extract (a1 : Int).toNat (a2 : Int).toNat) t214 7 (a0.extract (a1 : Int).toNat (a2 : Int).toNat) 0 0) else (breviaryref12_named.j0 k a0 (a0.extract (a1 : Int).toNat (a2 : Int).toNat) t214 2 (a0.extract (a1 : Int).toNat (a2 : Int).toNat) 0 0)))) = some (r1, r2, r3, r4, r5) := by rw [if_neg (show ¬ (false = true) by decide)] at H; exact H
      clear H
      have H := H1
      clear H1
      replace H := Option.bind_eq_some_iff.mp H
      obtain ⟨t214, A200, H⟩ := H
      replace H : ((breviaryref12_begins.f a0 t214 (⟨#[58, 58]⟩ : ByteArray)).bind fun t216 => (if t216 = true then (breviaryref12_named.j0 k a0 (a0.extract (a1 : Int).toNat (a2 : Int).toNat) t214 7 (a0.extract (a1 : Int).toNat (a2 : Int).toNat) 0 0) else (breviaryref12_named.j0 k a0 (a0.extract (a1 : Int).toNat (a2 : Int).toNat) t214 2 (a0.extract (a1 : Int).toNat (a2 : Int).toNat) 0 0))) = some (r1, r2, r3, r4, r5) := H
      have A20 := Aside0.mk A200
      clear A200
      replace H := Option.bind_eq_some_iff.mp H
      obtain ⟨t216, A210, H⟩ := H
      replace H : (if t216 = true then (breviaryref12_named.j0 k a0 (a0.extract (a1 : Int).toNat (a2 : Int).toNat) t214 7 (a0.extract (a1 : Int).toNat (a2 : Int).toNat) 0 0) else (breviaryref12_named.j0 k a0 (a0.extract (a1 : Int).toNat (a2 : Int).toNat) t214 2 (a0.extract (a1 : Int).toNat (a2 : Int).toNat) 0 0)) = some (r1, r2, r3, r4, r5) := H
      have A21 := Aside0.mk A210
      clear A210
      have HC22 := Aside0.mk H
      clear H
      go_enter Tryz.func71, Tryz.ntmps71
      go_upto_if 35 with (first | ((with_reducible refine qo (N := 8) rfl ?_); refine qp ?hg (N := 8) ?hd (cs := #[.int .i64 0, .string (⟨#[]⟩ : ByteArray), .int .i64 0, .int .i64 0]) (t := 49) ?hr ?_; (case hd => rfl); (case hg => rfl); (case hr => first | (go_simp; done) | (go_simp; rfl)); intro gb207 hg w23 hbox hb; have n0_ := Aside0.mk (qj (by repeat (first | (with_reducible first | exact HB.out | apply qb | apply qa | apply qc) | exact HB.out)) hb); have n1_ := Aside0.mk (hbox); have n2_ := Aside0.mk ((by rw [hg]; exact (qk (by repeat (first | (with_reducible first | exact HB.out | apply qb | apply qa | apply qc) | exact HB.out))) : w.heap.size ≤ gb207)); have n3_ := Aside0.mk ((by rw [hg]; exact (qk (by repeat (first | (with_reducible first | exact HB.out | apply qb | apply qa | apply qc) | exact HB.out))) : w.heap.size ≤ gb207)); clear HB; have HB := n0_; have BK207 := n1_; have GW207 := n2_; have GE207 := n3_; clear n0_ n1_ n2_ n3_; clear hb hbox hg) | ((with_reducible refine qn (f := 70) rfl ?_); refine qs (some 18) rfl rfl Tryz.func70 (by kernel_rfl) rfl #[.string (a0.extract (a1 : Int).toNat (a2 : Int).toNat)] rfl (by (try simp only [List.map_toArray, List.map_cons, List.map_nil]); first | done | rfl | (simp only [List.length_drop, List.length_take]; rfl)) ?_; (with_reducible refine (breviaryref01_Name.calls k (a0.extract (a1 : Int).toNat (a2 : Int).toNat) true _ A8.out).mono ?_); rintro e w24 ⟨rfl, hb⟩; refine ⟨_, rfl, ?_⟩; have n0_ := Aside0.mk (ql (g := gb207) (o := .cells #[.int .i64 0, .string (⟨#[]⟩ : ByteArray), .int .i64 0, .int .i64 0] 49 (0, 0)) (by (with_reducible repeat (first | refine qe ?_ _ | refine qf ?_ | refine qd ?_ _)); exact BK207.out) hb); have n1_ := Aside0.mk (qj (by repeat (first | (with_reducible first | exact HB.out | apply qb | apply qa | apply qc | refine qg ?_ GE207.out) | exact HB.out)) hb); clear BK207; clear HB; have BK207 := n0_; have HB := n1_; clear n0_ n1_; (try clear hb); (try clear hb2); (try clear hk); (try clear hi)) | ((with_reducible refine qn (f := 68) rfl ?_); refine qs (some 22) rfl rfl Tryz.func68 (by kernel_rfl) rfl #[.slice A3 l3.length c3] rfl (by (try simp only [List.map_toArray, List.map_cons, List.map_nil]); first | done | rfl | (simp only [List.length_drop, List.length_take]; rfl)) ?_; (with_reducible refine (breviaryref12_ends.calls k _ _ l3 false _ ?side1 ?side2 A10.out).mono ?_); (case side1 => repeat (first | exact (Kd.C_below HR3.out HB.out) | (with_reducible refine Kd.C_alloc ?_ _) | (with_reducible refine Kd.C_drewN ?_ _) | (with_reducible refine Kd.C_drew ?_))); (case side2 => exact HC3.out); rintro e w25 ⟨rfl, hb⟩; refine ⟨_, rfl, ?_⟩; have n0_ := Aside0.mk (ql (g := gb207) (o := .cells #[.int .i64 0, .string (⟨#[]⟩ : ByteArray), .int .i64 0, .int .i64 0] 49 (0, 0)) (by (with_reducible repeat (first | refine qe ?_ _ | refine qf ?_ | refine qd ?_ _)); exact BK207.out) hb); have n1_ := Aside0.mk (qj (by repeat (first | (with_reducible first | exact HB.out | apply qb | apply qa | apply qc | refine qg ?_ GE207.out) | exact HB.out)) hb); clear BK207; clear HB; have BK207 := n0_; have HB := n1_; clear n0_ n1_; (try clear hb); (try clear hb2); (try clear hk); (try clear hi)) | ((with_reducible refine qn (f := 34) rfl ?_); refine qs (some 30) rfl rfl Tryz.func34 (by kernel_rfl) rfl #[.string a0, .int .i64 a2] rfl (by (try simp only [List.map_toArray, List.map_cons, List.map_nil]); first | done | rfl | (simp only [List.length_drop, List.length_take]; rfl)) ?_; (with_reducible refine (breviaryref06_Spaces.calls k a0 a2 t214 _ A20.out).mono ?_); rintro e w' ⟨rfl, ⟨nd, rfl⟩⟩; refine ⟨_, rfl, ?_⟩; (try (rw [qf1 w25]; generalize hq_ : World.drewN w25 _ = w25; have n0_ : Aside0 (w25.heap[gb207]? = some (.cells #[.int .i64 0, .string (⟨#[]⟩ : ByteArray), .int .i64 0, .int .i64 0] 49 (0, 0))) := ⟨by rw [← hq_]; exact (by (with_reducible repeat (first | refine qe ?_ _ | refine qf ?_ | refine qd ?_ _)); exact BK207.out)⟩; have n1_ : Aside0 (Below w.heap.size w w25) := ⟨by rw [← hq_]; exact (by repeat (first | (with_reducible first | exact HB.out | apply qb | apply qa | apply qc | refine qg ?_ GE207.out) | exact HB.out))⟩; clear BK207 HB hq_; have BK207 := n0_; have HB := n1_; clear n0_ n1_))) | ((with_reducible refine qo (N := 12) rfl ?_); refine qp ?hg (N := 12) ?hd (cs := #[.int .i64 0, .string (⟨#[]⟩ : ByteArray), .int .i64 0, .int .i64 0]) (t := 49) ?hr ?_; (case hd => rfl); (case hg => rfl); (case hr => first | (go_simp; done) | (go_simp; rfl)); intro gb215 hg w26 hbox hb; have n0_ := Aside0.mk (ql (g := gb207) (o := .cells #[.int .i64 0, .string (⟨#[]⟩ : ByteArray), .int .i64 0, .int .i64 0] 49 (0, 0)) (by (with_reducible repeat (first | refine qe ?_ _ | refine qf ?_ | refine qd ?_ _)); exact BK207.out) hb); have n1_ := Aside0.mk (qj (by repeat (first | (with_reducible first | exact HB.out | apply qb | apply qa | apply qc | refine qg ?_ GE207.out) | exact HB.out)) hb); have n2_ := Aside0.mk (hbox); have n3_ := Aside0.mk ((by rw [hg]; exact (qk (by repeat (first | (with_reducible first | exact HB.out | apply qb | apply qa | apply qc | refine qg ?_ GE207.out) | exact HB.out))) : w.heap.size ≤ gb215)); have n4_ := Aside0.mk ((by rw [hg]; exact (qk (by repeat (first | (with_reducible first | exact HB.out | apply qb | apply qa | apply qc | refine qg ?_ GE207.out) | exact HB.out))) : w.heap.size ≤ gb215)); have n5_ := Aside0.mk ((by rw [hg]; exact Nat.ne_of_lt (qx (g := gb207) (o := .cells #[.int .i64 0, .string (⟨#[]⟩ : ByteArray), .int .i64 0, .int .i64 0] 49 (0, 0)) (by (with_reducible repeat (first | refine qe ?_ _ | refine qf ?_ | refine qd ?_ _)); exact BK207.out)) : gb207 ≠ gb215)); have n6_ := Aside0.mk ((by rw [hg]; exact Nat.ne_of_gt (qx (g := gb207) (o := .cells #[.int .i64 0, .string (⟨#[]⟩ : ByteArray), .int .i64 0, .int .i64 0] 49 (0, 0)) (by (with_reducible repeat (first | refine qe ?_ _ | refine qf ?_ | refine qd ?_ _)); exact BK207.out)) : gb215 ≠ gb207)); clear BK207; clear HB; have BK207 := n0_; have HB := n1_; have BK215 := n2_; have GW215 := n3_; have GE215 := n4_; have NB207_215 := n5_; have NB215_207 := n6_; clear n0_ n1_ n2_ n3_ n4_ n5_ n6_; clear hb hbox hg; have hnb27 := NB215_207.out; have hnc27 := NB207_215.out; have hcz28_0 : w26.cell? ⟨gb215, 0, none⟩ = some (.int .i64 0) := (qh BK215.out 0).trans rfl; have hcz28_1 : w26.cell? ⟨gb215, 1, none⟩ = some (.string (⟨#[]⟩ : ByteArray)) := (qh BK215.out 1).trans rfl; have hcz28_2 : w26.cell? ⟨gb215, 2, none⟩ = some (.int .i64 0) := (qh BK215.out 2).trans rfl; have hcz28_3 : w26.cell? ⟨gb215, 3, none⟩ = some (.int .i64 0) := (qh BK215.out 3).trans rfl; have hfz28_0 := qi BK215.out 0; have hfz28_1 := qi BK215.out 1; have hfz28_2 := qi BK215.out 2; have hfz28_3 := qi BK215.out 3) | ((with_reducible refine qn (f := 108) rfl ?_); refine qs (some 35) rfl rfl Tryz.func108 (by kernel_rfl) rfl #[.string a0, .int .i64 t214, .string (⟨#[58, 58]⟩ : ByteArray)] rfl (by (try simp only [List.map_toArray, List.map_cons, List.map_nil]); first | done | rfl | (simp only [List.length_drop, List.length_take]; rfl)) ?_; (with_reducible refine (breviaryref12_begins.calls a0 t214 (⟨#[58, 58]⟩ : ByteArray) t216 _ A21.out).mono ?_); rintro e w' ⟨rfl, ⟨nd, rfl⟩⟩; refine ⟨_, rfl, ?_⟩))
      (try simp only [Act.put, List.setIfInBounds_toArray, List.set_cons_zero, List.set_cons_succ])
      go_cut [] (fun wc => ∃ (kq : Nat) (x216000_21 : Int), Aside0 (breviaryref12_named.j0 kq a0 (a0.extract (a1 : Int).toNat (a2 : Int).toNat) t214 x216000_21 (a0.extract (a1 : Int).toNat (a2 : Int).toNat) 0 0 = some (r1, r2, r3, r4, r5)) ∧ Aside0 (kq ≤ k) ∧ Aside0 (wc.heap[gb207]? = some (.cells #[.int .i64 0, .string (⟨#[]⟩ : ByteArray), .int .i64 0, .int .i64 0] 49 (0, 0))) ∧ Aside0 (wc.heap[gb215]? = some (.cells #[.int .i64 x216000_21, .string (a0.extract (a1 : Int).toNat (a2 : Int).toNat), .int .i64 0, .int .i64 0] 49 (0, 0))) ∧ Aside0 (Below w.heap.size w wc))
      case first =>
       have H := HC22.out
       clear HC22
       by_cases c29 : t216 = true
       ·subst c29
        have H1 : (breviaryref12_named.j0 k a0 (a0.extract (a1 : Int).toNat (a2 : Int).toNat) t214 7 (a0.extract (a1 : Int).toNat (a2 : Int).toNat) 0 0) = some (r1, r2, r3, r4, r5) := by rw [if_pos rfl] at H; exact H
        clear H
        have H := H1
        clear H1
        have H' := Aside0.mk H
        clear H
        have hnb30 := NB215_207.out
        have hnc30 := NB207_215.out
        have hcz31_0 : w26.cell? ⟨gb215, 0, none⟩ = some (.int .i64 0) := (qh BK215.out 0).trans rfl
        have hcz31_1 : w26.cell? ⟨gb215, 1, none⟩ = some (.string (⟨#[]⟩ : ByteArray)) := (qh BK215.out 1).trans rfl
        have hcz31_2 : w26.cell? ⟨gb215, 2, none⟩ = some (.int .i64 0) := (qh BK215.out 2).trans rfl
        have hcz31_3 : w26.cell? ⟨gb215, 3, none⟩ = some (.int .i64 0) := (qh BK215.out 3).trans rfl
        have hfz31_0 := qi BK215.out 0
        have hfz31_1 := qi BK215.out 1
        have hfz31_2 := qi BK215.out 2
        have hfz31_3 := qi BK215.out 3
        go_wp2
        go_meet
        case rel => exact ⟨_, (7), H', ⟨by first | omega | exact Nat.le_refl _⟩, ⟨by (with_reducible repeat (first | refine qe ?_ _ | refine qf ?_ | refine qd ?_ _)); refine qr ?_ NB207_215.out _; (with_reducible repeat (first | refine qe ?_ _ | refine qf ?_ | refine qd ?_ _)); refine qr ?_ NB207_215.out _; (with_reducible repeat (first | refine qe ?_ _ | refine qf ?_ | refine qd ?_ _)); refine qr ?_ NB207_215.out _; (with_reducible repeat (first | refine qe ?_ _ | refine qf ?_ | refine qd ?_ _)); refine qr ?_ NB207_215.out _; (with_reducible repeat (first | refine qe ?_ _ | refine qf ?_ | refine qd ?_ _)); refine qr ?_ NB207_215.out _; (with_reducible repeat (first | refine qe ?_ _ | refine qf ?_ | refine qd ?_ _)); exact BK207.out⟩, ⟨by (with_reducible repeat (first | refine qe ?_ _ | refine qf ?_ | refine qd ?_ _)); refine qm (cs := #[.int .i64 2, .string (a0.extract (a1 : Int).toNat (a2 : Int).toNat), .int .i64 0, .int .i64 0]) ?_ 0 _ rfl; (with_reducible repeat (first | refine qe ?_ _ | refine qf ?_ | refine qd ?_ _)); refine qm (cs := #[.int .i64 2, .string (a0.extract (a1 : Int).toNat (a2 : Int).toNat), .int .i64 0, .int .i64 0]) ?_ 3 _ rfl; (with_reducible repeat (first | refine qe ?_ _ | refine qf ?_ | refine qd ?_ _)); refine qm (cs := #[.int .i64 2, .string (a0.extract (a1 : Int).toNat (a2 : Int).toNat), .int .i64 0, .int .i64 0]) ?_ 2 _ rfl; (with_reducible repeat (first | refine qe ?_ _ | refine qf ?_ | refine qd ?_ _)); refine qm (cs := #[.int .i64 2, .string (⟨#[]⟩ : ByteArray), .int .i64 0, .int .i64 0]) ?_ 1 _ rfl; (with_reducible repeat (first | refine qe ?_ _ | refine qf ?_ | refine qd ?_ _)); refine qm (cs := #[.int .i64 0, .string (⟨#[]⟩ : ByteArray), .int .i64 0, .int .i64 0]) ?_ 0 _ rfl; (with_reducible repeat (first | refine qe ?_ _ | refine qf ?_ | refine qd ?_ _)); exact BK215.out⟩, ⟨by repeat (first | (with_reducible first | exact HB.out | apply qb | apply qa | apply qc | refine qg ?_ GE207.out | refine qg ?_ GE215.out) | exact HB.out)⟩⟩
       ·replace c29 := Bool.eq_false_iff.mpr c29
        subst c29
        have H1 : (breviaryref12_named.j0 k a0 (a0.extract (a1 : Int).toNat (a2 : Int).toNat) t214 2 (a0.extract (a1 : Int).toNat (a2 : Int).toNat) 0 0) = some (r1, r2, r3, r4, r5) := by rw [if_neg (show ¬ (false = true) by decide)] at H; exact H
        clear H
        have H := H1
        clear H1
        have H' := Aside0.mk H
        clear H
        go_wp2
        go_meet
        case rel => exact ⟨_, (2), H', ⟨by first | omega | exact Nat.le_refl _⟩, ⟨by (with_reducible repeat (first | refine qe ?_ _ | refine qf ?_ | refine qd ?_ _)); refine qr ?_ NB207_215.out _; (with_reducible repeat (first | refine qe ?_ _ | refine qf ?_ | refine qd ?_ _)); refine qr ?_ NB207_215.out _; (with_reducible repeat (first | refine qe ?_ _ | refine qf ?_ | refine qd ?_ _)); refine qr ?_ NB207_215.out _; (with_reducible repeat (first | refine qe ?_ _ | refine qf ?_ | refine qd ?_ _)); refine qr ?_ NB207_215.out _; (with_reducible repeat (first | refine qe ?_ _ | refine qf ?_ | refine qd ?_ _)); exact BK207.out⟩, ⟨by (with_reducible repeat (first | refine qe ?_ _ | refine qf ?_ | refine qd ?_ _)); refine qm (cs := #[.int .i64 2, .string (a0.extract (a1 : Int).toNat (a2 : Int).toNat), .int .i64 0, .int .i64 0]) ?_ 3 _ rfl; (with_reducible repeat (first | refine qe ?_ _ | refine qf ?_ | refine qd ?_ _)); refine qm (cs := #[.int .i64 2, .string (a0.extract (a1 : Int).toNat (a2 : Int).toNat), .int .i64 0, .int .i64 0]) ?_ 2 _ rfl; (with_reducible repeat (first | refine qe ?_ _ | refine qf ?_ | refine qd ?_ _)); refine qm (cs := #[.int .i64 2, .string (⟨#[]⟩ : ByteArray), .int .i64 0, .int .i64 0]) ?_ 1 _ rfl; (with_reducible repeat (first | refine qe ?_ _ | refine qf ?_ | refine qd ?_ _)); refine qm (cs := #[.int .i64 0, .string (⟨#[]⟩ : ByteArray), .int .i64 0, .int .i64 0]) ?_ 0 _ rfl; (with_reducible repeat (first | refine qe ?_ _ | refine qf ?_ | refine qd ?_ _)); exact BK215.out⟩, ⟨by repeat (first | (with_reducible first | exact HB.out | apply qb | apply qa | apply qc | refine qg ?_ GE207.out | refine qg ?_ GE215.out) | exact HB.out)⟩⟩
      case rest =>
       clear HC22
       try clear c1
       try clear c2
       try clear p2
       try clear c3
       try clear c5
       try clear c5b0
       try clear c5b1
       try clear c6
       try clear c6b0
       try clear c6b1
       try clear c7
       try clear c7b0
       try clear c7b1
       try clear c9
       try clear c10
       try clear c11
       try clear c27
       try clear c29
       try clear c30
       try clear hcz19_0
       try clear hcz19_1
       try clear hcz19_2
       try clear hcz19_3
       try clear hcz28_0
       try clear hcz28_1
       try clear hcz28_2
       try clear hcz28_3
       try clear hcz31_0
       try clear hcz31_1
       try clear hcz31_2
       try clear hcz31_3
       try clear hfz19_0
       try clear hfz19_1
       try clear hfz19_2
       try clear hfz19_3
       try clear hfz28_0
       try clear hfz28_1
       try clear hfz28_2
       try clear hfz28_3
       try clear hfz31_0
       try clear hfz31_1
       try clear hfz31_2
       try clear hfz31_3
       obtain ⟨kq, x216000_21, HA, HJ21, BK207, BK215, HB⟩ := hcut
       cases kq with
       | zero => exact absurd HA.out (by simp [breviaryref12_named.j0])
       | succ kj21 =>
        have H := HA.out
        clear HA
        simp only [breviaryref12_named.j0] at H
        replace H := Option.bind_eq_some_iff.mp H
        obtain ⟨t217, A320, H⟩ := H
        replace H : (if t217 = true then ((breviaryref12_in.f kj21 (a0.extract (a1 : Int).toNat (a2 : Int).toNat) (([(⟨#[99, 111, 109, 109, 101, 110, 116]⟩ : ByteArray), (⟨#[116, 101, 120, 116]⟩ : ByteArray), (⟨#[112, 114, 111, 99, 101, 115, 115, 105, 110, 103, 45, 105, 110, 115, 116, 114, 117, 99, 116, 105, 111, 110]⟩ : ByteArray), (⟨#[110, 111, 100, 101]⟩ : ByteArray)] : List ByteArray))).bind fun t221 => (if t221 = true then (some (4, (a0.extract (a1 : Int).toNat (a2 : Int).toNat), 0, 0, true)) else (some (6, (a0.extract (a1 : Int).toNat (a2 : Int).toNat), 0, 0, true)))) else (some (x216000_21, (a0.extract (a1 : Int).toNat (a2 : Int).toNat), 0, 0, true))) = some (r1, r2, r3, r4, r5) := H
        have A32 := Aside0.mk A320
        clear A320
        by_cases c33 : t217 = true
        ·subst c33
         have H1 : ((breviaryref12_in.f kj21 (a0.extract (a1 : Int).toNat (a2 : Int).toNat) (([(⟨#[99, 111, 109, 109, 101, 110, 116]⟩ : ByteArray), (⟨#[116, 101, 120, 116]⟩ : ByteArray), (⟨#[112, 114, 111, 99, 101, 115, 115, 105, 110, 103, 45, 105, 110, 115, 116, 114, 117, 99, 116, 105, 111, 110]⟩ : ByteArray), (⟨#[110, 111, 100, 101]⟩ : ByteArray)] : List ByteArray))).bind fun t221 => (if t221 = true then (some (4, (a0.extract (a1 : Int).toNat (a2 : Int).toNat), 0, 0, true)) else (some (6, (a0.extract (a1 : Int).toNat (a2 : Int).toNat), 0, 0, true)))) = some (r1, r2, r3, r4, r5) := by rw [if_pos rfl] at H; exact H
         clear H
         have H := H1
         clear H1
         obtain ⟨y218, hy218⟩ : ∃ y_ : List ByteArray, y_ = (([(⟨#[99, 111, 109, 109, 101, 110, 116]⟩ : ByteArray), (⟨#[116, 101, 120, 116]⟩ : ByteArray), (⟨#[112, 114, 111, 99, 101, 115, 115, 105, 110, 103, 45, 105, 110, 115, 116, 114, 117, 99, 116, 105, 111, 110]⟩ : ByteArray), (⟨#[110, 111, 100, 101]⟩ : ByteArray)] : List ByteArray)) := ⟨_, rfl⟩
         replace H : ((breviaryref12_in.f kj21 (a0.extract (a1 : Int).toNat (a2 : Int).toNat) y218).bind fun t221 => (if t221 = true then (some (4, (a0.extract (a1 : Int).toNat (a2 : Int).toNat), 0, 0, true)) else (some (6, (a0.extract (a1 : Int).toNat (a2 : Int).toNat), 0, 0, true)))) = some (r1, r2, r3, r4, r5) := by first | (rw [hy218]; with_reducible exact H) | (have H2_ := (Option.bind_some _ _).symm.trans H; rw [hy218]; with_reducible exact H2_) | (have H2_ := (Option.bind_some _ _).symm.trans H; with_reducible exact H2_) | with_reducible exact H | (rw [hy218]; exact H) | exact H
         have Ny218 := Aside0.mk hy218
         clear hy218
         replace H := Option.bind_eq_some_iff.mp H
         obtain ⟨t221, A340, H⟩ := H
         replace H : (if t221 = true then (some (4, (a0.extract (a1 : Int).toNat (a2 : Int).toNat), 0, 0, true)) else (some (6, (a0.extract (a1 : Int).toNat (a2 : Int).toNat), 0, 0, true))) = some (r1, r2, r3, r4, r5) := H
         have A34 := Aside0.mk A340
         clear A340
         by_cases c35 : t221 = true
         ·subst c35
          have H1 : (some (4, (a0.extract (a1 : Int).toNat (a2 : Int).toNat), 0, 0, true)) = some (r1, r2, r3, r4, r5) := by rw [if_pos rfl] at H; exact H
          clear H
          have H := H1
          clear H1
          simp only [Option.some.injEq, Prod.mk.injEq] at H
          obtain ⟨rfl, rfl, rfl, rfl, rfl⟩ := H
          go_wp2_with (first | ((with_reducible refine qn (f := 108) rfl ?_); refine qs (some 39) rfl rfl Tryz.func108 (by kernel_rfl) rfl #[.string a0, .int .i64 t214, .string (⟨#[40]⟩ : ByteArray)] rfl (by (try simp only [List.map_toArray, List.map_cons, List.map_nil]); first | done | rfl | (simp only [List.length_drop, List.length_take]; rfl)) ?_; (with_reducible refine (breviaryref12_begins.calls a0 t214 (⟨#[40]⟩ : ByteArray) true _ A32.out).mono ?_); rintro e w' ⟨rfl, ⟨nd, rfl⟩⟩; refine ⟨_, rfl, ?_⟩; (try (rw [qf1 wc]; generalize hq_ : World.drewN wc _ = wc; have n0_ : Aside0 (wc.heap[gb207]? = some (.cells #[.int .i64 0, .string (⟨#[]⟩ : ByteArray), .int .i64 0, .int .i64 0] 49 (0, 0))) := ⟨by rw [← hq_]; exact (by (with_reducible repeat (first | refine qe ?_ _ | refine qf ?_ | refine qd ?_ _)); exact BK207.out)⟩; have n1_ : Aside0 (wc.heap[gb215]? = some (.cells #[.int .i64 x216000_21, .string (a0.extract (a1 : Int).toNat (a2 : Int).toNat), .int .i64 0, .int .i64 0] 49 (0, 0))) := ⟨by rw [← hq_]; exact (by (with_reducible repeat (first | refine qe ?_ _ | refine qf ?_ | refine qd ?_ _)); exact BK215.out)⟩; have n2_ : Aside0 (Below w.heap.size w wc) := ⟨by rw [← hq_]; exact (by repeat (first | (with_reducible first | exact HB.out | apply qb | apply qa | apply qc | refine qg ?_ GE207.out | refine qg ?_ GE215.out) | exact HB.out))⟩; clear BK207 BK215 HB hq_; have BK207 := n0_; have BK215 := n1_; have HB := n2_; clear n0_ n1_ n2_)); have hnb36 := NB215_207.out; have hnc36 := NB207_215.out; have hcz37_0 : wc.cell? ⟨gb215, 0, none⟩ = some (.int .i64 x216000_21) := (qh BK215.out 0).trans rfl; have hcz37_1 : wc.cell? ⟨gb215, 1, none⟩ = some (.string (a0.extract (a1 : Int).toNat (a2 : Int).toNat)) := (qh BK215.out 1).trans rfl; have hcz37_2 : wc.cell? ⟨gb215, 2, none⟩ = some (.int .i64 0) := (qh BK215.out 2).trans rfl; have hcz37_3 : wc.cell? ⟨gb215, 3, none⟩ = some (.int .i64 0) := (qh BK215.out 3).trans rfl; have hfz37_0 := qi BK215.out 0; have hfz37_1 := qi BK215.out 1; have hfz37_2 := qi BK215.out 2; have hfz37_3 := qi BK215.out 3) | ((with_reducible refine qo (N := 42) rfl ?_); refine Kd.R_lit Kd.string _ 9 ?hg (N := 42) ?hd (xs := ([(⟨#[99, 111, 109, 109, 101, 110, 116]⟩ : ByteArray), (⟨#[116, 101, 120, 116]⟩ : ByteArray), (⟨#[112, 114, 111, 99, 101, 115, 115, 105, 110, 103, 45, 105, 110, 115, 116, 114, 117, 99, 116, 105, 111, 110]⟩ : ByteArray), (⟨#[110, 111, 100, 101]⟩ : ByteArray)] : List ByteArray)) (inner := [.string (⟨#[99, 111, 109, 109, 101, 110, 116]⟩ : ByteArray), .string (⟨#[116, 101, 120, 116]⟩ : ByteArray), .string (⟨#[112, 114, 111, 99, 101, 115, 115, 105, 110, 103, 45, 105, 110, 115, 116, 114, 117, 99, 116, 105, 111, 110]⟩ : ByteArray), .string (⟨#[110, 111, 100, 101]⟩ : ByteArray)]) (ok := fun _ => True) (okp := fun _ => True) ?hr ?hp (fun _ hk => hk) trivial (Below.refl _ _) (Nat.le_refl _) (by simp) ?_; (case hd => rfl); (case hg => rfl); (case hr => first | (go_simp; done) | (go_simp; rfl)); (case hp => exact (Reps.one (show Kd.M Kd.string _ _ _ (⟨#[99, 111, 109, 109, 101, 110, 116]⟩ : ByteArray) [.string (⟨#[99, 111, 109, 109, 101, 110, 116]⟩ : ByteArray)] from rfl) (Reps.one (show Kd.M Kd.string _ _ _ (⟨#[116, 101, 120, 116]⟩ : ByteArray) [.string (⟨#[116, 101, 120, 116]⟩ : ByteArray)] from rfl) (Reps.one (show Kd.M Kd.string _ _ _ (⟨#[112, 114, 111, 99, 101, 115, 115, 105, 110, 103, 45, 105, 110, 115, 116, 114, 117, 99, 116, 105, 111, 110]⟩ : ByteArray) [.string (⟨#[112, 114, 111, 99, 101, 115, 115, 105, 110, 103, 45, 105, 110, 115, 116, 114, 117, 99, 116, 105, 111, 110]⟩ : ByteArray)] from rfl) (Reps.one (show Kd.M Kd.string _ _ _ (⟨#[110, 111, 100, 101]⟩ : ByteArray) [.string (⟨#[110, 111, 100, 101]⟩ : ByteArray)] from rfl) (Reps.none _ _)))))); intro v219 w38 ho39 hb hg_ hnew_; clear hg_ hnew_; (first | rw [← Ny218.out] at ho39 | (simp only [Int.reduceToNat] at ho39; rw [← Ny218.out] at ho39)); have n0_ := Aside0.mk (Kd.R_lower ho39 (qk (by repeat (first | (with_reducible first | exact HB.out | apply qb | apply qa | apply qc | refine qg ?_ GE207.out | refine qg ?_ GE215.out) | exact HB.out)))); have n1_ := Aside0.mk (ql (g := gb207) (o := .cells #[.int .i64 0, .string (⟨#[]⟩ : ByteArray), .int .i64 0, .int .i64 0] 49 (0, 0)) (by (with_reducible repeat (first | refine qe ?_ _ | refine qf ?_ | refine qd ?_ _)); refine qr ?_ NB207_215.out _; (with_reducible repeat (first | refine qe ?_ _ | refine qf ?_ | refine qd ?_ _)); exact BK207.out) hb); have n2_ := Aside0.mk (ql (g := gb215) (o := .cells #[.int .i64 6, .string (a0.extract (a1 : Int).toNat (a2 : Int).toNat), .int .i64 0, .int .i64 0] 49 (0, 0)) (by (with_reducible repeat (first | refine qe ?_ _ | refine qf ?_ | refine qd ?_ _)); refine qm (cs := #[.int .i64 x216000_21, .string (a0.extract (a1 : Int).toNat (a2 : Int).toNat), .int .i64 0, .int .i64 0]) ?_ 0 _ rfl; (with_reducible repeat (first | refine qe ?_ _ | refine qf ?_ | refine qd ?_ _)); exact BK215.out) hb); have n3_ := Aside0.mk (qj (by repeat (first | (with_reducible first | exact HB.out | apply qb | apply qa | apply qc | refine qg ?_ GE207.out | refine qg ?_ GE215.out) | exact HB.out)) hb); clear BK207; clear BK215; clear HB; have HO220 := n0_; have BK207 := n1_; have BK215 := n2_; have HB := n3_; clear n0_ n1_ n2_ n3_; clear hb ho39; obtain ⟨Ao40, co40, eo40⟩ := Kd.R_slice HO220.out; subst eo40) | ((with_reducible refine qn (f := 109) rfl ?_); refine qs (some 43) rfl rfl Tryz.func109 (by kernel_rfl) rfl #[.string (a0.extract (a1 : Int).toNat (a2 : Int).toNat), .slice Ao40 y218.length co40] rfl (by (try simp only [List.map_toArray, List.map_cons, List.map_nil]); first | done | rfl | (simp only [List.length_drop, List.length_take]; rfl)) ?_; (with_reducible refine (breviaryref12_in.calls kj21 (a0.extract (a1 : Int).toNat (a2 : Int).toNat) _ _ y218 true _ ?side1 ?side2 A34.out).mono ?_); (case side1 => repeat (first | exact (Kd.R_reads' HO220.out).2.2 | (with_reducible refine Kd.C_alloc ?_ _) | (with_reducible refine Kd.C_drewN ?_ _) | (with_reducible refine Kd.C_drew ?_))); (case side2 => exact (Kd.R_reads' HO220.out).2.1); rintro e w' ⟨rfl, ⟨nd, rfl⟩⟩; refine ⟨_, rfl, ?_⟩; (try (rw [qf1 w38]; generalize hq_ : World.drewN w38 _ = w38; have n0_ : Aside0 (Kd.R Kd.string 9 w38 w.heap.size (fun _ => True) (.slice Ao40 y218.length co40) y218) := ⟨by rw [← hq_]; exact (by (with_reducible repeat (first | apply Kd.R_alloc | apply Kd.R_drewN | apply Kd.R_drew)); exact HO220.out)⟩; have n1_ : Aside0 (w38.heap[gb207]? = some (.cells #[.int .i64 0, .string (⟨#[]⟩ : ByteArray), .int .i64 0, .int .i64 0] 49 (0, 0))) := ⟨by rw [← hq_]; exact (by (with_reducible repeat (first | refine qe ?_ _ | refine qf ?_ | refine qd ?_ _)); exact BK207.out)⟩; have n2_ : Aside0 (w38.heap[gb215]? = some (.cells #[.int .i64 6, .string (a0.extract (a1 : Int).toNat (a2 : Int).toNat), .int .i64 0, .int .i64 0] 49 (0, 0))) := ⟨by rw [← hq_]; exact (by (with_reducible repeat (first | refine qe ?_ _ | refine qf ?_ | refine qd ?_ _)); exact BK215.out)⟩; have n3_ : Aside0 (Below w.heap.size w w38) := ⟨by rw [← hq_]; exact (by repeat (first | (with_reducible first | exact HB.out | apply qb | apply qa | apply qc | refine qg ?_ GE207.out | refine qg ?_ GE215.out) | exact HB.out))⟩; clear HO220 BK207 BK215 HB hq_; have HO220 := n0_; have BK207 := n1_; have BK215 := n2_; have HB := n3_; clear n0_ n1_ n2_ n3_)); have hcz41_0 : w38.cell? ⟨gb215, 0, none⟩ = some (.int .i64 6) := (qh BK215.out 0).trans rfl; have hcz41_1 : w38.cell? ⟨gb215, 1, none⟩ = some (.string (a0.extract (a1 : Int).toNat (a2 : Int).toNat)) := (qh BK215.out 1).trans rfl; have hcz41_2 : w38.cell? ⟨gb215, 2, none⟩ = some (.int .i64 0) := (qh BK215.out 2).trans rfl; have hcz41_3 : w38.cell? ⟨gb215, 3, none⟩ = some (.int .i64 0) := (qh BK215.out 3).trans rfl; have hfz41_0 := qi BK215.out 0; have hfz41_1 := qi BK215.out 1; have hfz41_2 := qi BK215.out 2; have hfz41_3 := qi BK215.out 3; have hcz42_0 : w38.cell? ⟨gb207, 0, none⟩ = some (.int .i64 0) := (qh BK207.out 0).trans rfl; have hcz42_1 : w38.cell? ⟨gb207, 1, none⟩ = some (.string (⟨#[]⟩ : ByteArray)) := (qh BK207.out 1).trans rfl; have hcz42_2 : w38.cell? ⟨gb207, 2, none⟩ = some (.int .i64 0) := (qh BK207.out 2).trans rfl; have hcz42_3 : w38.cell? ⟨gb207, 3, none⟩ = some (.int .i64 0) := (qh BK207.out 3).trans rfl; have hfz42_0 := qi BK207.out 0; have hfz42_1 := qi BK207.out 1; have hfz42_2 := qi BK207.out 2; have hfz42_3 := qi BK207.out 3))
          refine bodyPost_ret (qz rfl _ _ gb207 49 #[.int .i64 4, .string (a0.extract (a1 : Int).toNat (a2 : Int).toNat), .int .i64 0, .int .i64 0] (0, 0) _ rfl (by (with_reducible repeat (first | refine qe ?_ _ | refine qf ?_ | refine qd ?_ _)); refine qm (cs := #[.int .i64 4, .string (a0.extract (a1 : Int).toNat (a2 : Int).toNat), .int .i64 0, .int .i64 0]) ?_ 3 _ rfl; (with_reducible repeat (first | refine qe ?_ _ | refine qf ?_ | refine qd ?_ _)); refine qm (cs := #[.int .i64 4, .string (a0.extract (a1 : Int).toNat (a2 : Int).toNat), .int .i64 0, .int .i64 0]) ?_ 2 _ rfl; (with_reducible repeat (first | refine qe ?_ _ | refine qf ?_ | refine qd ?_ _)); refine qm (cs := #[.int .i64 4, .string (⟨#[]⟩ : ByteArray), .int .i64 0, .int .i64 0]) ?_ 1 _ rfl; (with_reducible repeat (first | refine qe ?_ _ | refine qf ?_ | refine qd ?_ _)); refine qm (cs := #[.int .i64 0, .string (⟨#[]⟩ : ByteArray), .int .i64 0, .int .i64 0]) ?_ 0 _ rfl; (with_reducible repeat (first | refine qe ?_ _ | refine qf ?_ | refine qd ?_ _)); refine qr ?_ NB207_215.out _; (with_reducible repeat (first | refine qe ?_ _ | refine qf ?_ | refine qd ?_ _)); exact BK207.out) Tryz.underlying49 rfl (by kernel_rfl)) rfl ?_
          exact ⟨by first | rfl | (simp [ ] <;> rfl) | (simp [*] <;> rfl), by repeat (first | (with_reducible first | exact HB.out | apply qb | apply qa | apply qc | refine qg ?_ GE207.out | refine qg ?_ GE215.out) | exact HB.out)⟩
         ·replace c35 := Bool.eq_false_iff.mpr c35
          subst c35
          have H1 : (some (6, (a0.extract (a1 : Int).toNat (a2 : Int).toNat), 0, 0, true)) = some (r1, r2, r3, r4, r5) := by rw [if_neg (show ¬ (false = true) by decide)] at H; exact H
          clear H
          have H := H1
          clear H1
          simp only [Option.some.injEq, Prod.mk.injEq] at H
          obtain ⟨rfl, rfl, rfl, rfl, rfl⟩ := H
          go_wp2_with (first | ((with_reducible refine qn (f := 108) rfl ?_); refine qs (some 39) rfl rfl Tryz.func108 (by kernel_rfl) rfl #[.string a0, .int .i64 t214, .string (⟨#[40]⟩ : ByteArray)] rfl (by (try simp only [List.map_toArray, List.map_cons, List.map_nil]); first | done | rfl | (simp only [List.length_drop, List.length_take]; rfl)) ?_; (with_reducible refine (breviaryref12_begins.calls a0 t214 (⟨#[40]⟩ : ByteArray) true _ A32.out).mono ?_); rintro e w' ⟨rfl, ⟨nd, rfl⟩⟩; refine ⟨_, rfl, ?_⟩; (try (rw [qf1 wc]; generalize hq_ : World.drewN wc _ = wc; have n0_ : Aside0 (wc.heap[gb207]? = some (.cells #[.int .i64 0, .string (⟨#[]⟩ : ByteArray), .int .i64 0, .int .i64 0] 49 (0, 0))) := ⟨by rw [← hq_]; exact (by (with_reducible repeat (first | refine qe ?_ _ | refine qf ?_ | refine qd ?_ _)); exact BK207.out)⟩; have n1_ : Aside0 (wc.heap[gb215]? = some (.cells #[.int .i64 x216000_21, .string (a0.extract (a1 : Int).toNat (a2 : Int).toNat), .int .i64 0, .int .i64 0] 49 (0, 0))) := ⟨by rw [← hq_]; exact (by (with_reducible repeat (first | refine qe ?_ _ | refine qf ?_ | refine qd ?_ _)); exact BK215.out)⟩; have n2_ : Aside0 (Below w.heap.size w wc) := ⟨by rw [← hq_]; exact (by repeat (first | (with_reducible first | exact HB.out | apply qb | apply qa | apply qc | refine qg ?_ GE207.out | refine qg ?_ GE215.out) | exact HB.out))⟩; clear BK207 BK215 HB hq_; have BK207 := n0_; have BK215 := n1_; have HB := n2_; clear n0_ n1_ n2_)); have hnb43 := NB215_207.out; have hnc43 := NB207_215.out; have hcz44_0 : wc.cell? ⟨gb215, 0, none⟩ = some (.int .i64 x216000_21) := (qh BK215.out 0).trans rfl; have hcz44_1 : wc.cell? ⟨gb215, 1, none⟩ = some (.string (a0.extract (a1 : Int).toNat (a2 : Int).toNat)) := (qh BK215.out 1).trans rfl; have hcz44_2 : wc.cell? ⟨gb215, 2, none⟩ = some (.int .i64 0) := (qh BK215.out 2).trans rfl; have hcz44_3 : wc.cell? ⟨gb215, 3, none⟩ = some (.int .i64 0) := (qh BK215.out 3).trans rfl; have hfz44_0 := qi BK215.out 0; have hfz44_1 := qi BK215.out 1; have hfz44_2 := qi BK215.out 2; have hfz44_3 := qi BK215.out 3) | ((with_reducible refine qo (N := 42) rfl ?_); refine Kd.R_lit Kd.string _ 9 ?hg (N := 42) ?hd (xs := ([(⟨#[99, 111, 109, 109, 101, 110, 116]⟩ : ByteArray), (⟨#[116, 101, 120, 116]⟩ : ByteArray), (⟨#[112, 114, 111, 99, 101, 115, 115, 105, 110, 103, 45, 105, 110, 115, 116, 114, 117, 99, 116, 105, 111, 110]⟩ : ByteArray), (⟨#[110, 111, 100, 101]⟩ : ByteArray)] : List ByteArray)) (inner := [.string (⟨#[99, 111, 109, 109, 101, 110, 116]⟩ : ByteArray), .string (⟨#[116, 101, 120, 116]⟩ : ByteArray), .string (⟨#[112, 114, 111, 99, 101, 115, 115, 105, 110, 103, 45, 105, 110, 115, 116, 114, 117, 99, 116, 105, 111, 110]⟩ : ByteArray), .string (⟨#[110, 111, 100, 101]⟩ : ByteArray)]) (ok := fun _ => True) (okp := fun _ => True) ?hr ?hp (fun _ hk => hk) trivial (Below.refl _ _) (Nat.le_refl _) (by simp) ?_; (case hd => rfl); (case hg => rfl); (case hr => first | (go_simp; done) | (go_simp; rfl)); (case hp => exact (Reps.one (show Kd.M Kd.string _ _ _ (⟨#[99, 111, 109, 109, 101, 110, 116]⟩ : ByteArray) [.string (⟨#[99, 111, 109, 109, 101, 110, 116]⟩ : ByteArray)] from rfl) (Reps.one (show Kd.M Kd.string _ _ _ (⟨#[116, 101, 120, 116]⟩ : ByteArray) [.string (⟨#[116, 101, 120, 116]⟩ : ByteArray)] from rfl) (Reps.one (show Kd.M Kd.string _ _ _ (⟨#[112, 114, 111, 99, 101, 115, 115, 105, 110, 103, 45, 105, 110, 115, 116, 114, 117, 99, 116, 105, 111, 110]⟩ : ByteArray) [.string (⟨#[112, 114, 111, 99, 101, 115, 115, 105, 110, 103, 45, 105, 110, 115, 116, 114, 117, 99, 116, 105, 111, 110]⟩ : ByteArray)] from rfl) (Reps.one (show Kd.M Kd.string _ _ _ (⟨#[110, 111, 100, 101]⟩ : ByteArray) [.string (⟨#[110, 111, 100, 101]⟩ : ByteArray)] from rfl) (Reps.none _ _)))))); intro v219 w45 ho46 hb hg_ hnew_; clear hg_ hnew_; (first | rw [← Ny218.out] at ho46 | (simp only [Int.reduceToNat] at ho46; rw [← Ny218.out] at ho46)); have n0_ := Aside0.mk (Kd.R_lower ho46 (qk (by repeat (first | (with_reducible first | exact HB.out | apply qb | apply qa | apply qc | refine qg ?_ GE207.out | refine qg ?_ GE215.out) | exact HB.out)))); have n1_ := Aside0.mk (ql (g := gb207) (o := .cells #[.int .i64 0, .string (⟨#[]⟩ : ByteArray), .int .i64 0, .int .i64 0] 49 (0, 0)) (by (with_reducible repeat (first | refine qe ?_ _ | refine qf ?_ | refine qd ?_ _)); refine qr ?_ NB207_215.out _; (with_reducible repeat (first | refine qe ?_ _ | refine qf ?_ | refine qd ?_ _)); exact BK207.out) hb); have n2_ := Aside0.mk (ql (g := gb215) (o := .cells #[.int .i64 6, .string (a0.extract (a1 : Int).toNat (a2 : Int).toNat), .int .i64 0, .int .i64 0] 49 (0, 0)) (by (with_reducible repeat (first | refine qe ?_ _ | refine qf ?_ | refine qd ?_ _)); refine qm (cs := #[.int .i64 x216000_21, .string (a0.extract (a1 : Int).toNat (a2 : Int).toNat), .int .i64 0, .int .i64 0]) ?_ 0 _ rfl; (with_reducible repeat (first | refine qe ?_ _ | refine qf ?_ | refine qd ?_ _)); exact BK215.out) hb); have n3_ := Aside0.mk (qj (by repeat (first | (with_reducible first | exact HB.out | apply qb | apply qa | apply qc | refine qg ?_ GE207.out | refine qg ?_ GE215.out) | exact HB.out)) hb); clear BK207; clear BK215; clear HB; have HO220 := n0_; have BK207 := n1_; have BK215 := n2_; have HB := n3_; clear n0_ n1_ n2_ n3_; clear hb ho46; obtain ⟨Ao47, co47, eo47⟩ := Kd.R_slice HO220.out; subst eo47) | ((with_reducible refine qn (f := 109) rfl ?_); refine qs (some 43) rfl rfl Tryz.func109 (by kernel_rfl) rfl #[.string (a0.extract (a1 : Int).toNat (a2 : Int).toNat), .slice Ao47 y218.length co47] rfl (by (try simp only [List.map_toArray, List.map_cons, List.map_nil]); first | done | rfl | (simp only [List.length_drop, List.length_take]; rfl)) ?_; (with_reducible refine (breviaryref12_in.calls kj21 (a0.extract (a1 : Int).toNat (a2 : Int).toNat) _ _ y218 false _ ?side1 ?side2 A34.out).mono ?_); (case side1 => repeat (first | exact (Kd.R_reads' HO220.out).2.2 | (with_reducible refine Kd.C_alloc ?_ _) | (with_reducible refine Kd.C_drewN ?_ _) | (with_reducible refine Kd.C_drew ?_))); (case side2 => exact (Kd.R_reads' HO220.out).2.1); rintro e w' ⟨rfl, ⟨nd, rfl⟩⟩; refine ⟨_, rfl, ?_⟩; (try (rw [qf1 w45]; generalize hq_ : World.drewN w45 _ = w45; have n0_ : Aside0 (Kd.R Kd.string 9 w45 w.heap.size (fun _ => True) (.slice Ao47 y218.length co47) y218) := ⟨by rw [← hq_]; exact (by (with_reducible repeat (first | apply Kd.R_alloc | apply Kd.R_drewN | apply Kd.R_drew)); exact HO220.out)⟩; have n1_ : Aside0 (w45.heap[gb207]? = some (.cells #[.int .i64 0, .string (⟨#[]⟩ : ByteArray), .int .i64 0, .int .i64 0] 49 (0, 0))) := ⟨by rw [← hq_]; exact (by (with_reducible repeat (first | refine qe ?_ _ | refine qf ?_ | refine qd ?_ _)); exact BK207.out)⟩; have n2_ : Aside0 (w45.heap[gb215]? = some (.cells #[.int .i64 6, .string (a0.extract (a1 : Int).toNat (a2 : Int).toNat), .int .i64 0, .int .i64 0] 49 (0, 0))) := ⟨by rw [← hq_]; exact (by (with_reducible repeat (first | refine qe ?_ _ | refine qf ?_ | refine qd ?_ _)); exact BK215.out)⟩; have n3_ : Aside0 (Below w.heap.size w w45) := ⟨by rw [← hq_]; exact (by repeat (first | (with_reducible first | exact HB.out | apply qb | apply qa | apply qc | refine qg ?_ GE207.out | refine qg ?_ GE215.out) | exact HB.out))⟩; clear HO220 BK207 BK215 HB hq_; have HO220 := n0_; have BK207 := n1_; have BK215 := n2_; have HB := n3_; clear n0_ n1_ n2_ n3_)); have hcz48_0 : w45.cell? ⟨gb215, 0, none⟩ = some (.int .i64 6) := (qh BK215.out 0).trans rfl; have hcz48_1 : w45.cell? ⟨gb215, 1, none⟩ = some (.string (a0.extract (a1 : Int).toNat (a2 : Int).toNat)) := (qh BK215.out 1).trans rfl; have hcz48_2 : w45.cell? ⟨gb215, 2, none⟩ = some (.int .i64 0) := (qh BK215.out 2).trans rfl; have hcz48_3 : w45.cell? ⟨gb215, 3, none⟩ = some (.int .i64 0) := (qh BK215.out 3).trans rfl; have hfz48_0 := qi BK215.out 0; have hfz48_1 := qi BK215.out 1; have hfz48_2 := qi BK215.out 2; have hfz48_3 := qi BK215.out 3; have hcz49_0 : w45.cell? ⟨gb207, 0, none⟩ = some (.int .i64 0) := (qh BK207.out 0).trans rfl; have hcz49_1 : w45.cell? ⟨gb207, 1, none⟩ = some (.string (⟨#[]⟩ : ByteArray)) := (qh BK207.out 1).trans rfl; have hcz49_2 : w45.cell? ⟨gb207, 2, none⟩ = some (.int .i64 0) := (qh BK207.out 2).trans rfl; have hcz49_3 : w45.cell? ⟨gb207, 3, none⟩ = some (.int .i64 0) := (qh BK207.out 3).trans rfl; have hfz49_0 := qi BK207.out 0; have hfz49_1 := qi BK207.out 1; have hfz49_2 := qi BK207.out 2; have hfz49_3 := qi BK207.out 3))
          refine bodyPost_ret (qz rfl _ _ gb207 49 #[.int .i64 6, .string (a0.extract (a1 : Int).toNat (a2 : Int).toNat), .int .i64 0, .int .i64 0] (0, 0) _ rfl (by (with_reducible repeat (first | refine qe ?_ _ | refine qf ?_ | refine qd ?_ _)); refine qm (cs := #[.int .i64 6, .string (a0.extract (a1 : Int).toNat (a2 : Int).toNat), .int .i64 0, .int .i64 0]) ?_ 3 _ rfl; (with_reducible repeat (first | refine qe ?_ _ | refine qf ?_ | refine qd ?_ _)); refine qm (cs := #[.int .i64 6, .string (a0.extract (a1 : Int).toNat (a2 : Int).toNat), .int .i64 0, .int .i64 0]) ?_ 2 _ rfl; (with_reducible repeat (first | refine qe ?_ _ | refine qf ?_ | refine qd ?_ _)); refine qm (cs := #[.int .i64 6, .string (⟨#[]⟩ : ByteArray), .int .i64 0, .int .i64 0]) ?_ 1 _ rfl; (with_reducible repeat (first | refine qe ?_ _ | refine qf ?_ | refine qd ?_ _)); refine qm (cs := #[.int .i64 0, .string (⟨#[]⟩ : ByteArray), .int .i64 0, .int .i64 0]) ?_ 0 _ rfl; (with_reducible repeat (first | refine qe ?_ _ | refine qf ?_ | refine qd ?_ _)); exact BK207.out) Tryz.underlying49 rfl (by kernel_rfl)) rfl ?_
          exact ⟨by first | rfl | (simp [ ] <;> rfl) | (simp [*] <;> rfl), by repeat (first | (with_reducible first | exact HB.out | apply qb | apply qa | apply qc | refine qg ?_ GE207.out | refine qg ?_ GE215.out) | exact HB.out)⟩
        ·replace c33 := Bool.eq_false_iff.mpr c33
         subst c33
         have H1 : (some (x216000_21, (a0.extract (a1 : Int).toNat (a2 : Int).toNat), 0, 0, true)) = some (r1, r2, r3, r4, r5) := by rw [if_neg (show ¬ (false = true) by decide)] at H; exact H
         clear H
         have H := H1
         clear H1
         simp only [Option.some.injEq, Prod.mk.injEq] at H
         obtain ⟨rfl, rfl, rfl, rfl, rfl⟩ := H
         go_wp2_with (first | ((with_reducible refine qn (f := 108) rfl ?_); refine qs (some 39) rfl rfl Tryz.func108 (by kernel_rfl) rfl #[.string a0, .int .i64 t214, .string (⟨#[40]⟩ : ByteArray)] rfl (by (try simp only [List.map_toArray, List.map_cons, List.map_nil]); first | done | rfl | (simp only [List.length_drop, List.length_take]; rfl)) ?_; (with_reducible refine (breviaryref12_begins.calls a0 t214 (⟨#[40]⟩ : ByteArray) false _ A32.out).mono ?_); rintro e w' ⟨rfl, ⟨nd, rfl⟩⟩; refine ⟨_, rfl, ?_⟩; (try (rw [qf1 wc]; generalize hq_ : World.drewN wc _ = wc; have n0_ : Aside0 (wc.heap[gb207]? = some (.cells #[.int .i64 0, .string (⟨#[]⟩ : ByteArray), .int .i64 0, .int .i64 0] 49 (0, 0))) := ⟨by rw [← hq_]; exact (by (with_reducible repeat (first | refine qe ?_ _ | refine qf ?_ | refine qd ?_ _)); exact BK207.out)⟩; have n1_ : Aside0 (wc.heap[gb215]? = some (.cells #[.int .i64 x216000_21, .string (a0.extract (a1 : Int).toNat (a2 : Int).toNat), .int .i64 0, .int .i64 0] 49 (0, 0))) := ⟨by rw [← hq_]; exact (by (with_reducible repeat (first | refine qe ?_ _ | refine qf ?_ | refine qd ?_ _)); exact BK215.out)⟩; have n2_ : Aside0 (Below w.heap.size w wc) := ⟨by rw [← hq_]; exact (by repeat (first | (with_reducible first | exact HB.out | apply qb | apply qa | apply qc | refine qg ?_ GE207.out | refine qg ?_ GE215.out) | exact HB.out))⟩; clear BK207 BK215 HB hq_; have BK207 := n0_; have BK215 := n1_; have HB := n2_; clear n0_ n1_ n2_)); have hnb50 := NB215_207.out; have hnc50 := NB207_215.out; have hcz51_0 : wc.cell? ⟨gb215, 0, none⟩ = some (.int .i64 x216000_21) := (qh BK215.out 0).trans rfl; have hcz51_1 : wc.cell? ⟨gb215, 1, none⟩ = some (.string (a0.extract (a1 : Int).toNat (a2 : Int).toNat)) := (qh BK215.out 1).trans rfl; have hcz51_2 : wc.cell? ⟨gb215, 2, none⟩ = some (.int .i64 0) := (qh BK215.out 2).trans rfl; have hcz51_3 : wc.cell? ⟨gb215, 3, none⟩ = some (.int .i64 0) := (qh BK215.out 3).trans rfl; have hfz51_0 := qi BK215.out 0; have hfz51_1 := qi BK215.out 1; have hfz51_2 := qi BK215.out 2; have hfz51_3 := qi BK215.out 3; have hcz52_0 : wc.cell? ⟨gb207, 0, none⟩ = some (.int .i64 0) := (qh BK207.out 0).trans rfl; have hcz52_1 : wc.cell? ⟨gb207, 1, none⟩ = some (.string (⟨#[]⟩ : ByteArray)) := (qh BK207.out 1).trans rfl; have hcz52_2 : wc.cell? ⟨gb207, 2, none⟩ = some (.int .i64 0) := (qh BK207.out 2).trans rfl; have hcz52_3 : wc.cell? ⟨gb207, 3, none⟩ = some (.int .i64 0) := (qh BK207.out 3).trans rfl; have hfz52_0 := qi BK207.out 0; have hfz52_1 := qi BK207.out 1; have hfz52_2 := qi BK207.out 2; have hfz52_3 := qi BK207.out 3))
         refine bodyPost_ret (qz rfl _ _ gb207 49 #[.int .i64 x216000_21, .string (a0.extract (a1 : Int).toNat (a2 : Int).toNat), .int .i64 0, .int .i64 0] (0, 0) _ rfl (by (with_reducible repeat (first | refine qe ?_ _ | refine qf ?_ | refine qd ?_ _)); refine qm (cs := #[.int .i64 x216000_21, .string (a0.extract (a1 : Int).toNat (a2 : Int).toNat), .int .i64 0, .int .i64 0]) ?_ 3 _ rfl; (with_reducible repeat (first | refine qe ?_ _ | refine qf ?_ | refine qd ?_ _)); refine qm (cs := #[.int .i64 x216000_21, .string (a0.extract (a1 : Int).toNat (a2 : Int).toNat), .int .i64 0, .int .i64 0]) ?_ 2 _ rfl; (with_reducible repeat (first | refine qe ?_ _ | refine qf ?_ | refine qd ?_ _)); refine qm (cs := #[.int .i64 x216000_21, .string (⟨#[]⟩ : ByteArray), .int .i64 0, .int .i64 0]) ?_ 1 _ rfl; (with_reducible repeat (first | refine qe ?_ _ | refine qf ?_ | refine qd ?_ _)); refine qm (cs := #[.int .i64 0, .string (⟨#[]⟩ : ByteArray), .int .i64 0, .int .i64 0]) ?_ 0 _ rfl; (with_reducible repeat (first | refine qe ?_ _ | refine qf ?_ | refine qd ?_ _)); exact BK207.out) Tryz.underlying49 rfl (by kernel_rfl)) rfl ?_
         exact ⟨by first | rfl | (simp [ ] <;> rfl) | (simp [*] <;> rfl), by repeat (first | (with_reducible first | exact HB.out | apply qb | apply qa | apply qc | refine qg ?_ GE207.out | refine qg ?_ GE215.out) | exact HB.out)⟩
    ·replace c9 := Bool.eq_false_iff.mpr c9
     subst c9
     have H1 : (some (0, (⟨#[]⟩ : ByteArray), 0, 0, false)) = some (r1, r2, r3, r4, r5) := by rw [if_neg (show ¬ (false = true) by decide)] at H; exact H
     clear H
     have H := H1
     clear H1
     simp only [Option.some.injEq, Prod.mk.injEq] at H
     obtain ⟨rfl, rfl, rfl, rfl, rfl⟩ := H
     go_enter Tryz.func71, Tryz.ntmps71
     go_wp2_with (first | ((with_reducible refine qo (N := 8) rfl ?_); refine qp ?hg (N := 8) ?hd (cs := #[.int .i64 0, .string (⟨#[]⟩ : ByteArray), .int .i64 0, .int .i64 0]) (t := 49) ?hr ?_; (case hd => rfl); (case hg => rfl); (case hr => first | (go_simp; done) | (go_simp; rfl)); intro gb207 hg w53 hbox hb; have n0_ := Aside0.mk (qj (by repeat (first | (with_reducible first | exact HB.out | apply qb | apply qa | apply qc) | exact HB.out)) hb); have n1_ := Aside0.mk (hbox); have n2_ := Aside0.mk ((by rw [hg]; exact (qk (by repeat (first | (with_reducible first | exact HB.out | apply qb | apply qa | apply qc) | exact HB.out))) : w.heap.size ≤ gb207)); have n3_ := Aside0.mk ((by rw [hg]; exact (qk (by repeat (first | (with_reducible first | exact HB.out | apply qb | apply qa | apply qc) | exact HB.out))) : w.heap.size ≤ gb207)); clear HB; have HB := n0_; have BK207 := n1_; have GW207 := n2_; have GE207 := n3_; clear n0_ n1_ n2_ n3_; clear hb hbox hg) | ((with_reducible refine qn (f := 70) rfl ?_); refine qs (some 18) rfl rfl Tryz.func70 (by kernel_rfl) rfl #[.string (a0.extract (a1 : Int).toNat (a2 : Int).toNat)] rfl (by (try simp only [List.map_toArray, List.map_cons, List.map_nil]); first | done | rfl | (simp only [List.length_drop, List.length_take]; rfl)) ?_; (with_reducible refine (breviaryref01_Name.calls k (a0.extract (a1 : Int).toNat (a2 : Int).toNat) false _ A8.out).mono ?_); rintro e w54 ⟨rfl, hb⟩; refine ⟨_, rfl, ?_⟩; have n0_ := Aside0.mk (ql (g := gb207) (o := .cells #[.int .i64 0, .string (⟨#[]⟩ : ByteArray), .int .i64 0, .int .i64 0] 49 (0, 0)) (by (with_reducible repeat (first | refine qe ?_ _ | refine qf ?_ | refine qd ?_ _)); exact BK207.out) hb); have n1_ := Aside0.mk (qj (by repeat (first | (with_reducible first | exact HB.out | apply qb | apply qa | apply qc | refine qg ?_ GE207.out) | exact HB.out)) hb); clear BK207; clear HB; have BK207 := n0_; have HB := n1_; clear n0_ n1_; (try clear hb); (try clear hb2); (try clear hk); (try clear hi); have hcz55_0 : w54.cell? ⟨gb207, 0, none⟩ = some (.int .i64 0) := (qh BK207.out 0).trans rfl; have hcz55_1 : w54.cell? ⟨gb207, 1, none⟩ = some (.string (⟨#[]⟩ : ByteArray)) := (qh BK207.out 1).trans rfl; have hcz55_2 : w54.cell? ⟨gb207, 2, none⟩ = some (.int .i64 0) := (qh BK207.out 2).trans rfl; have hcz55_3 : w54.cell? ⟨gb207, 3, none⟩ = some (.int .i64 0) := (qh BK207.out 3).trans rfl; have hfz55_0 := qi BK207.out 0; have hfz55_1 := qi BK207.out 1; have hfz55_2 := qi BK207.out 2; have hfz55_3 := qi BK207.out 3))
     refine bodyPost_ret (qz rfl _ _ gb207 49 #[.int .i64 0, .string (⟨#[]⟩ : ByteArray), .int .i64 0, .int .i64 0] (0, 0) _ rfl (by (with_reducible repeat (first | refine qe ?_ _ | refine qf ?_ | refine qd ?_ _)); refine qm (cs := #[.int .i64 0, .string (⟨#[]⟩ : ByteArray), .int .i64 0, .int .i64 0]) ?_ 3 _ rfl; (with_reducible repeat (first | refine qe ?_ _ | refine qf ?_ | refine qd ?_ _)); refine qm (cs := #[.int .i64 0, .string (⟨#[]⟩ : ByteArray), .int .i64 0, .int .i64 0]) ?_ 2 _ rfl; (with_reducible repeat (first | refine qe ?_ _ | refine qf ?_ | refine qd ?_ _)); refine qm (cs := #[.int .i64 0, .string (⟨#[]⟩ : ByteArray), .int .i64 0, .int .i64 0]) ?_ 1 _ rfl; (with_reducible repeat (first | refine qe ?_ _ | refine qf ?_ | refine qd ?_ _)); refine qm (cs := #[.int .i64 0, .string (⟨#[]⟩ : ByteArray), .int .i64 0, .int .i64 0]) ?_ 0 _ rfl; (with_reducible repeat (first | refine qe ?_ _ | refine qf ?_ | refine qd ?_ _)); exact BK207.out) Tryz.underlying49 rfl (by kernel_rfl)) rfl ?_
     exact ⟨by first | rfl | (simp [ ] <;> rfl) | (simp [*] <;> rfl), by repeat (first | (with_reducible first | exact HB.out | apply qb | apply qa | apply qc | refine qg ?_ GE207.out) | exact HB.out)⟩
   ·rw [if_neg c7] at H
    exact absurd H (by simp)
  ·rw [if_neg c6] at H
   exact absurd H (by simp)
 ·rw [if_neg c5] at H
  exact absurd H (by simp)

end Go.Proofs.YthilcidoacgdfaaGreatDoor.PF
