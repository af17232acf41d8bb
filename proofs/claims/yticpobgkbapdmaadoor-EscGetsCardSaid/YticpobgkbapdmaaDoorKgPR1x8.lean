/- What the proof of this claim uses of PR1x8: 3 declarations. -/
import Derived.Test.YticpobgkbapdmaaDoorKgPR1x0
import Derived.Test.YticpobgkbapdmaaDoorKgPR1x3
import Derived.Test.YticpobgkbapdmaaDoorKgPR1x7
namespace Go.Proofs.YticpobgkbapdmaaDoorW.PrintLast
end Go.Proofs.YticpobgkbapdmaaDoorW.PrintLast
namespace Go.Proofs.YticpobgkbapdmaaDoorW.PrintMore
end Go.Proofs.YticpobgkbapdmaaDoorW.PrintMore
namespace Go.Proofs.YticpobgkbapdmaaDoorW.PrintWords
end Go.Proofs.YticpobgkbapdmaaDoorW.PrintWords
namespace Go.Proofs.YticpobgkbapdmaaDoor.PR1
open Go.RowKit Go.Proofs.YticpobgkbapdmaaDoorW.PrintWords Go.Proofs.YticpobgkbapdmaaDoorW.PrintLast Go.Proofs.YticpobgkbapdmaaDoorW.PrintMore
attribute [local go_sem] min2_int min_two
set_option linter.unusedVariables false
set_option linter.unusedSimpArgs false

/-! ### breviaryref05_Get: function 49 -/
mutual
def breviaryref05_Get.l0 : Nat → ByteArray → Bool → ByteArray → Int → Option (ByteArray × Int)
  | 0, _, _, _, _ => none
  | k + 1, x0, x1, x6, x7 => if x7 < (x0.size : Int) then (if 0 ≤ x7 then (if x7 ≤ (wrap64 (x7 + 1)) then (if (wrap64 (x7 + 1)) ≤ (x0.size : Int) then (if (x0.extract (x7 : Int).toNat ((wrap64 (x7 + 1)) : Int).toNat).toList = ([60] : List UInt8) then (some ((⟨#[]⟩ : ByteArray), 13)) else (if (x0.extract (x7 : Int).toNat ((wrap64 (x7 + 1)) : Int).toNat).toList = ([38] : List UInt8) then (breviaryref05_Get.l1 k x0 x1 x6 x7 x7) else (if (x0.extract (x7 : Int).toNat ((wrap64 (x7 + 1)) : Int).toNat).toList = ([13] : List UInt8) then (if (wrap64 (x7 + 1)) < (x0.size : Int) then (if 0 ≤ (wrap64 (x7 + 1)) then (breviaryref05_Get.j3 k x0 x1 x6 x7 (⟨#[10]⟩ : ByteArray) ((bt x0 (wrap64 (x7 + 1))) == 10)) else (none)) else (breviaryref05_Get.j3 k x0 x1 x6 x7 (⟨#[10]⟩ : ByteArray) false)) else (if x1 = true then (if (x0.extract (x7 : Int).toNat ((wrap64 (x7 + 1)) : Int).toNat).toList = ([10] : List UInt8) then (if x6.size + 1 ≤ 9223372036854775807 then (breviaryref05_Get.l0 k x0 x1 (x6 ++ (⟨#[32]⟩ : ByteArray)) (wrap64 (x7 + 1))) else (none)) else (if (x0.extract (x7 : Int).toNat ((wrap64 (x7 + 1)) : Int).toNat).toList = ([9] : List UInt8) then (if x6.size + 1 ≤ 9223372036854775807 then (breviaryref05_Get.l0 k x0 x1 (x6 ++ (⟨#[32]⟩ : ByteArray)) (wrap64 (x7 + 1))) else (none)) else (if x6.size + (x0.extract (x7 : Int).toNat ((wrap64 (x7 + 1)) : Int).toNat).size ≤ 9223372036854775807 then (breviaryref05_Get.l0 k x0 x1 (x6 ++ (x0.extract (x7 : Int).toNat ((wrap64 (x7 + 1)) : Int).toNat)) (wrap64 (x7 + 1))) else (none)))) else (if x6.size + (x0.extract (x7 : Int).toNat ((wrap64 (x7 + 1)) : Int).toNat).size ≤ 9223372036854775807 then (breviaryref05_Get.l0 k x0 x1 (x6 ++ (x0.extract (x7 : Int).toNat ((wrap64 (x7 + 1)) : Int).toNat)) (wrap64 (x7 + 1))) else (none)))))) else (none)) else (none)) else (none)) else (some (x6, 0))
def breviaryref05_Get.j2 : Nat → ByteArray → Bool → ByteArray → Int → Int → Option (ByteArray × Int)
  | 0, _, _, _, _, _ => none
  | k + 1, x0, x1, x6, x7, x9 => if x9 = (x0.size : Int) then (some ((⟨#[]⟩ : ByteArray), 12)) else (if 0 ≤ (wrap64 (x7 + 1)) then (if (wrap64 (x7 + 1)) ≤ x9 then (if x9 ≤ (x0.size : Int) then ((breviaryref05_Char.f k (x0.extract ((wrap64 (x7 + 1)) : Int).toNat (x9 : Int).toNat)).bind fun t204 => (if t204.toList = ([] : List UInt8) then (some ((⟨#[]⟩ : ByteArray), 12)) else (if x6.size + t204.size ≤ 9223372036854775807 then (breviaryref05_Get.l0 k x0 x1 (x6 ++ t204) (wrap64 (x9 + 1))) else (none)))) else (none)) else (none)) else (none))
def breviaryref05_Get.l1 : Nat → ByteArray → Bool → ByteArray → Int → Int → Option (ByteArray × Int)
  | 0, _, _, _, _, _ => none
  | k + 1, x0, x1, x6, x7, x9 => if x9 < (x0.size : Int) then (if 0 ≤ x9 then (if (bt x0 x9) = 59 then (breviaryref05_Get.j2 k x0 x1 x6 x7 x9) else (breviaryref05_Get.l1 k x0 x1 x6 x7 (wrap64 (x9 + 1)))) else (none)) else (breviaryref05_Get.j2 k x0 x1 x6 x7 x9)
def breviaryref05_Get.j3 : Nat → ByteArray → Bool → ByteArray → Int → ByteArray → Bool → Option (ByteArray × Int)
  | 0, _, _, _, _, _, _ => none
  | k + 1, x0, x1, x6, x7, x8, x70 => if x70 = true then (if x1 = true then (if x8.toList = ([10] : List UInt8) then (if x6.size + 1 ≤ 9223372036854775807 then (breviaryref05_Get.l0 k x0 x1 (x6 ++ (⟨#[32]⟩ : ByteArray)) (wrap64 ((wrap64 (x7 + 1)) + 1))) else (none)) else (if x8.toList = ([9] : List UInt8) then (if x6.size + 1 ≤ 9223372036854775807 then (breviaryref05_Get.l0 k x0 x1 (x6 ++ (⟨#[32]⟩ : ByteArray)) (wrap64 ((wrap64 (x7 + 1)) + 1))) else (none)) else (if x6.size + x8.size ≤ 9223372036854775807 then (breviaryref05_Get.l0 k x0 x1 (x6 ++ x8) (wrap64 ((wrap64 (x7 + 1)) + 1))) else (none)))) else (if x6.size + x8.size ≤ 9223372036854775807 then (breviaryref05_Get.l0 k x0 x1 (x6 ++ x8) (wrap64 ((wrap64 (x7 + 1)) + 1))) else (none))) else (if x1 = true then (if x8.toList = ([10] : List UInt8) then (if x6.size + 1 ≤ 9223372036854775807 then (breviaryref05_Get.l0 k x0 x1 (x6 ++ (⟨#[32]⟩ : ByteArray)) (wrap64 (x7 + 1))) else (none)) else (if x8.toList = ([9] : List UInt8) then (if x6.size + 1 ≤ 9223372036854775807 then (breviaryref05_Get.l0 k x0 x1 (x6 ++ (⟨#[32]⟩ : ByteArray)) (wrap64 (x7 + 1))) else (none)) else (if x6.size + x8.size ≤ 9223372036854775807 then (breviaryref05_Get.l0 k x0 x1 (x6 ++ x8) (wrap64 (x7 + 1))) else (none)))) else (if x6.size + x8.size ≤ 9223372036854775807 then (breviaryref05_Get.l0 k x0 x1 (x6 ++ x8) (wrap64 (x7 + 1))) else (none)))
end
def breviaryref05_Get.f (k : Nat) (a0 : ByteArray) (a1 : Bool) : Option (ByteArray × Int) := (breviaryref01_Text.f k a0).bind fun t203 => (if t203 = true then (breviaryref05_Get.l0 k a0 a1 (⟨#[]⟩ : ByteArray) 0) else (some ((⟨#[]⟩ : ByteArray), 10)))
set_option maxHeartbeats 8000000 in
set_option maxRecDepth 100000 in
theorem breviaryref05_Get.calls (k : Nat) (a0 : ByteArray) (a1 : Bool) (r1 : ByteArray) (r2 : Int) (w : World) (h : breviaryref05_Get.f k a0 a1 = some (r1, r2)) :
    Calls Tryd.prog 49 #[.string a0, .bool a1] w fun e w' => e = .returned (.tuple #[.string r1, .int .i64 r2]) ∧ Below w.heap.size w w' := by
  have HB := Aside0.mk (Below.refl w.heap.size w)
  have H : ((breviaryref01_Text.f k a0).bind fun t203 => (if t203 = true then (breviaryref05_Get.l0 k a0 a1 (⟨#[]⟩ : ByteArray) 0) else (some ((⟨#[]⟩ : ByteArray), 10)))) = some (r1, r2) := h
  clear h
  replace H := Option.bind_eq_some_iff.mp H
  obtain ⟨t203, A30, H⟩ := H
  replace H : (if t203 = true then (breviaryref05_Get.l0 k a0 a1 (⟨#[]⟩ : ByteArray) 0) else (some ((⟨#[]⟩ : ByteArray), 10))) = some (r1, r2) := H
  have A3 := Aside0.mk A30
  clear A30
  by_cases c4 : t203 = true
  · subst c4
    have H1 : (breviaryref05_Get.l0 k a0 a1 (⟨#[]⟩ : ByteArray) 0) = some (r1, r2) := by rw [if_pos rfl] at H; exact H
    clear H
    have H := H1
    clear H1
    have H' := Aside0.mk H
    clear H
    go_enter Tryd.func49, Tryd.ntmps49
    go_wp2_with (first | ((with_reducible refine gate_callee (f := 29) rfl ?_); refine goesL_ (some 11) rfl rfl Tryd.func29 (by kernel_rfl) rfl #[.string a0] rfl (by (try simp only [List.map_toArray, List.map_cons, List.map_nil]); first | done | rfl | (simp only [List.length_drop, List.length_take]; rfl)) ?_; (with_reducible refine (breviaryref01_Text.calls k a0 true _ A3.out).mono ?_); rintro e w5 ⟨rfl, hb⟩; refine ⟨_, rfl, ?_⟩; have n0_ := Aside0.mk (below_step (by repeat (first | (with_reducible first | exact HB.out | apply below_alloc | apply pw_below_drewN | apply below_drew1) | exact HB.out)) hb); clear HB; have HB := n0_; clear n0_; (try clear hb); (try clear hb2); (try clear hk); (try clear hi)))
    go_loopg [6, 7] k (fun kq v6 v7 w' => ∃ (x6_1 : ByteArray) (x7_1 : Int), v6 = .string x6_1 ∧ v7 = .int .i64 x7_1 ∧ Aside0 (breviaryref05_Get.l0 kq a0 a1 x6_1 x7_1 = some (r1, r2)) ∧ Aside0 (kq ≤ k) ∧ Aside0 (Below w.heap.size w w'))
    case atStart => exact ⟨((⟨#[]⟩ : ByteArray)), (0), (by first | rfl | (simp; done) | (simp [*]; done)), (by first | rfl | (simp; done) | (simp [*]; done)), H', ⟨Nat.le_refl _⟩, ⟨by repeat (first | (with_reducible first | exact HB.out | apply below_alloc | apply pw_below_drewN | apply below_drew1) | exact HB.out)⟩⟩
    case round =>
      clear H'
      try clear c2
      try clear p2
      try clear c4
      obtain ⟨x6_1, x7_1, rfl, rfl, HA, HK1, HB⟩ := hrel
      cases gk with
      | zero => exact absurd HA.out (by simp [breviaryref05_Get.l0])
      | succ k1 =>
        have H := HA.out
        clear HA
        simp only [breviaryref05_Get.l0] at H
        by_cases c6 : x7_1 < (a0.size : Int)
        · rw [if_pos c6] at H
          have c6b0 : decide (x7_1 < (a0.size : Int)) = true := decide_eq_true c6
          clear c6
          by_cases c7 : 0 ≤ x7_1
          · rw [if_pos c7] at H
            have c7b0 := eq_true c7
            have c7b1 : decide (0 ≤ x7_1) = true := decide_eq_true c7
            clear c7
            by_cases c8 : x7_1 ≤ (wrap64 (x7_1 + 1))
            · rw [if_pos c8] at H
              have c8b0 := eq_true c8
              have c8b1 : decide (x7_1 ≤ (wrap64 (x7_1 + 1))) = true := decide_eq_true c8
              by_cases c9 : (wrap64 (x7_1 + 1)) ≤ (a0.size : Int)
              · rw [if_pos c9] at H
                have c9b0 := eq_true c9
                have c9b1 : decide ((wrap64 (x7_1 + 1)) ≤ (a0.size : Int)) = true := decide_eq_true c9
                by_cases c10 : (a0.extract (x7_1 : Int).toNat ((wrap64 (x7_1 + 1)) : Int).toNat).toList = ([60] : List UInt8)
                · rw [if_pos c10] at H
                  have c10b0 : ((a0.extract (x7_1 : Int).toNat ((wrap64 (x7_1 + 1)) : Int).toNat).toList == ([60] : List UInt8)) = true := beq_iff_eq.mpr c10
                  have c10b1 : ((a0.extract (x7_1 : Int).toNat ((wrap64 (x7_1 + 1)) : Int).toNat).toList != ([60] : List UInt8)) = false := bne_eq_false_iff_eq.mpr c10
                  clear c10
                  simp only [Option.some.injEq, Prod.mk.injEq] at H
                  obtain ⟨rfl, rfl⟩ := H
                  go_wp2
                  go_ret2
                  exact ⟨by first | rfl | (simp [ ] <;> rfl) | (simp [*] <;> rfl), by repeat (first | (with_reducible first | exact HB.out | apply below_alloc | apply pw_below_drewN | apply below_drew1) | exact HB.out)⟩
                · rw [if_neg c10] at H
                  have c10b0 : ((a0.extract (x7_1 : Int).toNat ((wrap64 (x7_1 + 1)) : Int).toNat).toList == ([60] : List UInt8)) = false := beq_eq_false_iff_ne.mpr c10
                  have c10b1 : ((a0.extract (x7_1 : Int).toNat ((wrap64 (x7_1 + 1)) : Int).toNat).toList != ([60] : List UInt8)) = true := bne_iff_ne.mpr c10
                  by_cases c11 : (a0.extract (x7_1 : Int).toNat ((wrap64 (x7_1 + 1)) : Int).toNat).toList = ([38] : List UInt8)
                  · rw [if_pos c11] at H
                    have c11b0 : ((a0.extract (x7_1 : Int).toNat ((wrap64 (x7_1 + 1)) : Int).toNat).toList == ([38] : List UInt8)) = true := beq_iff_eq.mpr c11
                    have c11b1 : ((a0.extract (x7_1 : Int).toNat ((wrap64 (x7_1 + 1)) : Int).toNat).toList != ([38] : List UInt8)) = false := bne_eq_false_iff_eq.mpr c11
                    clear c11
                    have HC12 := Aside0.mk H
                    clear H
                    go_upto_block 2 with (fail)
                    go_cut [9] (fun v9 wc => ∃ (kq : Nat) (x9_11 : Int), v9 = .int .i64 x9_11 ∧ Aside0 (breviaryref05_Get.j2 kq a0 a1 x6_1 x7_1 x9_11 = some (r1, r2)) ∧ Aside0 (kq ≤ k1) ∧ Aside0 (Below w.heap.size w wc))
                    case first =>
                      have H := HC12.out
                      clear HC12
                      have H' := Aside0.mk H
                      clear H
                      go_wp2
                      go_loopg [9] k1 (fun kq v9 w' => ∃ (x9_2 : Int), v9 = .int .i64 x9_2 ∧ Aside0 (breviaryref05_Get.l1 kq a0 a1 x6_1 x7_1 x9_2 = some (r1, r2)) ∧ Aside0 (kq ≤ k1) ∧ Aside0 (Below w.heap.size w w'))
                      case atStart => exact ⟨(x7_1), (by first | rfl | (simp; done) | (simp [*]; done)), H', ⟨Nat.le_refl _⟩, ⟨by repeat (first | (with_reducible first | exact HB.out | apply below_alloc | apply pw_below_drewN | apply below_drew1) | exact HB.out)⟩⟩
                      case round =>
                        clear H'
                        try clear c1
                        try clear c2
                        try clear p2
                        try clear c4
                        try clear c6
                        try clear c6b0
                        try clear p6
                        try clear c7
                        try clear c7b0
                        try clear c7b1
                        try clear c8
                        try clear c8b0
                        try clear c8b1
                        try clear c9
                        try clear c9b0
                        try clear c9b1
                        try clear c10
                        try clear c10b0
                        try clear c10b1
                        try clear c11
                        try clear c11b0
                        try clear c11b1
                        try clear p2
                        obtain ⟨x9_2, rfl, HA, HK2, HB⟩ := hrel
                        cases gk with
                        | zero => exact absurd HA.out (by simp [breviaryref05_Get.l1])
                        | succ k2 =>
                          have H := HA.out
                          clear HA
                          simp only [breviaryref05_Get.l1] at H
                          by_cases c13 : x9_2 < (a0.size : Int)
                          · rw [if_pos c13] at H
                            have c13b0 : decide (x9_2 < (a0.size : Int)) = true := decide_eq_true c13
                            clear c13
                            (first | rw [c13b0] | (simp only [i64_w]; rw [c13b0]) | skip)
                            by_cases c14 : 0 ≤ x9_2
                            · rw [if_pos c14] at H
                              have c14b0 : decide (0 ≤ x9_2) = true := decide_eq_true c14
                              clear c14
                              by_cases c16 : (bt a0 x9_2) = 59
                              · rw [if_pos c16] at H
                                have c16b0 : ((bt a0 x9_2) == 59) = true := beq_iff_eq.mpr c16
                                have c16b1 : ((bt a0 x9_2) != 59) = false := bne_eq_false_iff_eq.mpr c16
                                clear c16
                                have H' := Aside0.mk H
                                clear H
                                have p15 : 0 ≤ (x9_2 : Int) := of_decide_eq_true (by first | (with_reducible assumption) | assumption)
                                have q15 : x9_2 < (a0.size : Int) := of_decide_eq_true (by first | (with_reducible assumption) | assumption)
                                have hx15 := bt_at a0 x9_2
                                replace p15 := eq_true p15
                                replace q15 := eq_true q15
                                go_wp2
                                go_meet
                                case rel => exact ⟨_, (x9_2), (by first | rfl | (simp; done) | (simp [*]; done)), H', ⟨by have := HK1.out; have := HK2.out; first | omega | exact Nat.le_refl _⟩, ⟨by repeat (first | (with_reducible first | exact HB.out | apply below_alloc | apply pw_below_drewN | apply below_drew1) | exact HB.out)⟩⟩
                              · rw [if_neg c16] at H
                                have c16b0 : ((bt a0 x9_2) == 59) = false := beq_eq_false_iff_ne.mpr c16
                                have c16b1 : ((bt a0 x9_2) != 59) = true := bne_iff_ne.mpr c16
                                have H' := Aside0.mk H
                                clear H
                                have p15 : 0 ≤ (x9_2 : Int) := of_decide_eq_true (by first | (with_reducible assumption) | assumption)
                                have q15 : x9_2 < (a0.size : Int) := of_decide_eq_true (by first | (with_reducible assumption) | assumption)
                                have hx15 := bt_at a0 x9_2
                                replace p15 := eq_true p15
                                replace q15 := eq_true q15
                                go_wp2
                                go_roundg k2
                                case measure => have := HK1.out; have := HK2.out; omega
                                case rel => exact ⟨(wrap64 (x9_2 + 1)), (by first | rfl | (simp; done) | (simp [*]; done)), H', ⟨by have := HK1.out; have := HK2.out; omega⟩, ⟨by repeat (first | (with_reducible first | exact HB.out | apply below_alloc | apply pw_below_drewN | apply below_drew1) | exact HB.out)⟩⟩
                            · rw [if_neg c14] at H
                              exact absurd H (by simp)
                          · rw [if_neg c13] at H
                            have c13b0 : decide (x9_2 < (a0.size : Int)) = false := decide_eq_false c13
                            clear c13
                            (first | rw [c13b0] | (simp only [i64_w]; rw [c13b0]) | skip)
                            have H' := Aside0.mk H
                            clear H
                            go_wp2
                            go_meet
                            case rel => exact ⟨_, (x9_2), (by first | rfl | (simp; done) | (simp [*]; done)), H', ⟨by have := HK1.out; have := HK2.out; first | omega | exact Nat.le_refl _⟩, ⟨by repeat (first | (with_reducible first | exact HB.out | apply below_alloc | apply pw_below_drewN | apply below_drew1) | exact HB.out)⟩⟩
                    case rest =>
                      clear HC12
                      try clear c1
                      try clear p1
                      try clear q1
                      try clear hx1
                      try clear c2
                      try clear p2
                      try clear c4
                      try clear c6
                      try clear c6b0
                      try clear p6
                      try clear c7
                      try clear c7b0
                      try clear c7b1
                      try clear c8
                      try clear c8b0
                      try clear c8b1
                      try clear c9
                      try clear c9b0
                      try clear c9b1
                      try clear c10
                      try clear c10b0
                      try clear c10b1
                      try clear c11
                      try clear c11b0
                      try clear c11b1
                      try clear c13
                      try clear c13b0
                      try clear c14
                      try clear c14b0
                      try clear p15
                      try clear q15
                      try clear hx15
                      try clear c16
                      try clear c16b0
                      try clear c16b1
                      try clear p15
                      try clear p2
                      try clear p6
                      try clear q15
                      obtain ⟨kq, x9_11, rfl, HA, HJ11, HB⟩ := hcut
                      cases kq with
                      | zero => exact absurd HA.out (by simp [breviaryref05_Get.j2])
                      | succ kj11 =>
                        have H := HA.out
                        clear HA
                        simp only [breviaryref05_Get.j2] at H
                        by_cases c17 : x9_11 = (a0.size : Int)
                        · rw [if_pos c17] at H
                          have c17b0 : (x9_11 == (a0.size : Int)) = true := beq_iff_eq.mpr c17
                          have c17b1 : (x9_11 != (a0.size : Int)) = false := bne_eq_false_iff_eq.mpr c17
                          clear c17
                          simp only [Option.some.injEq, Prod.mk.injEq] at H
                          obtain ⟨rfl, rfl⟩ := H
                          go_wp2
                          go_ret2
                          exact ⟨by first | rfl | (simp [ ] <;> rfl) | (simp [*] <;> rfl), by repeat (first | (with_reducible first | exact HB.out | apply below_alloc | apply pw_below_drewN | apply below_drew1) | exact HB.out)⟩
                        · rw [if_neg c17] at H
                          have c17b0 : (x9_11 == (a0.size : Int)) = false := beq_eq_false_iff_ne.mpr c17
                          have c17b1 : (x9_11 != (a0.size : Int)) = true := bne_iff_ne.mpr c17
                          obtain ⟨ji18, hji18⟩ : ∃ j_ : Int, (wrap64 (x7_1 + 1)) = j_ := ⟨_, rfl⟩
                          replace H : (if 0 ≤ (ji18) then (if (ji18) ≤ x9_11 then (if x9_11 ≤ (a0.size : Int) then ((breviaryref05_Char.f kj11 (a0.extract ((ji18) : Int).toNat (x9_11 : Int).toNat)).bind fun t204 => (if t204.toList = ([] : List UInt8) then (some ((⟨#[]⟩ : ByteArray), 12)) else (if x6_1.size + t204.size ≤ 9223372036854775807 then (breviaryref05_Get.l0 kj11 a0 a1 (x6_1 ++ t204) (wrap64 (x9_11 + 1))) else (none)))) else (none)) else (none)) else (none)) = some (r1, r2) := by first | (rw [hji18] at H; exact H) | (simp only [hji18] at H ⊢; exact H)
                          (try rw [hji18] at c8b0)
                          (try rw [hji18] at c8b1)
                          (try rw [hji18] at c8)
                          (try rw [hji18] at c9b0)
                          (try rw [hji18] at c9b1)
                          (try rw [hji18] at c9)
                          (try rw [hji18] at c10b0)
                          (try rw [hji18] at c10b1)
                          (try rw [hji18] at c11b0)
                          (try rw [hji18] at c11b1)
                          have hji18w : (IntKind.i64.wrap (x7_1 + 1)) = ji18 := (i64_w _).trans hji18
                          by_cases c19 : 0 ≤ (ji18)
                          · rw [if_pos c19] at H
                            have c19b0 := eq_true c19
                            have c19b1 : decide (0 ≤ (ji18)) = true := decide_eq_true c19
                            clear c19
                            by_cases c20 : (ji18) ≤ x9_11
                            · rw [if_pos c20] at H
                              have c20b0 := eq_true c20
                              have c20b1 : decide ((ji18) ≤ x9_11) = true := decide_eq_true c20
                              clear c20
                              by_cases c21 : x9_11 ≤ (a0.size : Int)
                              · rw [if_pos c21] at H
                                have c21b0 := eq_true c21
                                have c21b1 : decide (x9_11 ≤ (a0.size : Int)) = true := decide_eq_true c21
                                clear c21
                                replace H := Option.bind_eq_some_iff.mp H
                                obtain ⟨t204, A220, H⟩ := H
                                replace H : (if t204.toList = ([] : List UInt8) then (some ((⟨#[]⟩ : ByteArray), 12)) else (if x6_1.size + t204.size ≤ 9223372036854775807 then (breviaryref05_Get.l0 kj11 a0 a1 (x6_1 ++ t204) (wrap64 (x9_11 + 1))) else (none))) = some (r1, r2) := H
                                have A22 := Aside0.mk A220
                                clear A220
                                by_cases c23 : t204.toList = ([] : List UInt8)
                                · rw [if_pos c23] at H
                                  have c23b0 : (t204.toList == ([] : List UInt8)) = true := beq_iff_eq.mpr c23
                                  have c23b1 : (t204.toList != ([] : List UInt8)) = false := bne_eq_false_iff_eq.mpr c23
                                  clear c23
                                  simp only [Option.some.injEq, Prod.mk.injEq] at H
                                  obtain ⟨rfl, rfl⟩ := H
                                  go_wp2_with (first | ((with_reducible refine gate_callee (f := 67) rfl ?_); refine goesL_ (some 50) rfl rfl Tryd.func67 (by kernel_rfl) rfl #[.string (a0.extract ((ji18) : Int).toNat (x9_11 : Int).toNat)] rfl (by (try simp only [List.map_toArray, List.map_cons, List.map_nil]); first | done | (simp only [hji18]; rfl) | rfl | (simp only [List.length_drop, List.length_take]; rfl)) ?_; (with_reducible refine (breviaryref05_Char.calls kj11 (a0.extract ((ji18) : Int).toNat (x9_11 : Int).toNat) t204 _ A22.out).mono ?_); rintro e w24 ⟨rfl, hb⟩; refine ⟨_, rfl, ?_⟩; have n0_ := Aside0.mk (below_step (by repeat (first | (with_reducible first | exact HB.out | apply below_alloc | apply pw_below_drewN | apply below_drew1) | exact HB.out)) hb); clear HB; have HB := n0_; clear n0_; (try clear hb); (try clear hb2); (try clear hk); (try clear hi)))
                                  go_ret2
                                  exact ⟨by first | rfl | (simp [ ] <;> rfl) | (simp only [← hji18]; first | rfl | (simp [ ] <;> rfl)) | (simp [*] <;> rfl), by repeat (first | (with_reducible first | exact HB.out | apply below_alloc | apply pw_below_drewN | apply below_drew1) | exact HB.out)⟩
                                · rw [if_neg c23] at H
                                  have c23b0 : (t204.toList == ([] : List UInt8)) = false := beq_eq_false_iff_ne.mpr c23
                                  have c23b1 : (t204.toList != ([] : List UInt8)) = true := bne_iff_ne.mpr c23
                                  by_cases c25 : x6_1.size + t204.size ≤ 9223372036854775807
                                  · rw [if_pos c25] at H
                                    have c25b0 := eq_true c25
                                    have c25b1 : decide (x6_1.size + t204.size ≤ 9223372036854775807) = true := decide_eq_true c25
                                    try have c25b2 : (9223372036854775807 < x6_1.size + t204.size) = False := eq_false (Nat.not_lt.2 c25)
                                    have H' := Aside0.mk H
                                    clear H
                                    go_wp2_with (first | ((with_reducible refine gate_callee (f := 67) rfl ?_); refine goesL_ (some 50) rfl rfl Tryd.func67 (by kernel_rfl) rfl #[.string (a0.extract ((ji18) : Int).toNat (x9_11 : Int).toNat)] rfl (by (try simp only [List.map_toArray, List.map_cons, List.map_nil]); first | done | (simp only [hji18]; rfl) | rfl | (simp only [List.length_drop, List.length_take]; rfl)) ?_; (with_reducible refine (breviaryref05_Char.calls kj11 (a0.extract ((ji18) : Int).toNat (x9_11 : Int).toNat) t204 _ A22.out).mono ?_); rintro e w26 ⟨rfl, hb⟩; refine ⟨_, rfl, ?_⟩; have n0_ := Aside0.mk (below_step (by repeat (first | (with_reducible first | exact HB.out | apply below_alloc | apply pw_below_drewN | apply below_drew1) | exact HB.out)) hb); clear HB; have HB := n0_; clear n0_; (try clear hb); (try clear hb2); (try clear hk); (try clear hi)))
                                    go_roundg kj11
                                    case measure => have := HK1.out; have := HJ11.out; omega
                                    case rel => exact ⟨(x6_1 ++ t204), (wrap64 (x9_11 + 1)), (by first | rfl | (simp; done) | (simp [*]; done)), (by first | rfl | (simp; done) | (simp [*]; done)), H', ⟨by have := HK1.out; have := HJ11.out; omega⟩, ⟨by repeat (first | (with_reducible first | exact HB.out | apply below_alloc | apply pw_below_drewN | apply below_drew1) | exact HB.out)⟩⟩
                                  · rw [if_neg c25] at H
                                    exact absurd H (by simp)
                              · rw [if_neg c21] at H
                                exact absurd H (by simp)
                            · rw [if_neg c20] at H
                              exact absurd H (by simp)
                          · rw [if_neg c19] at H
                            exact absurd H (by simp)
                  · rw [if_neg c11] at H
                    have c11b0 : ((a0.extract (x7_1 : Int).toNat ((wrap64 (x7_1 + 1)) : Int).toNat).toList == ([38] : List UInt8)) = false := beq_eq_false_iff_ne.mpr c11
                    have c11b1 : ((a0.extract (x7_1 : Int).toNat ((wrap64 (x7_1 + 1)) : Int).toNat).toList != ([38] : List UInt8)) = true := bne_iff_ne.mpr c11
                    by_cases c27 : (a0.extract (x7_1 : Int).toNat ((wrap64 (x7_1 + 1)) : Int).toNat).toList = ([13] : List UInt8)
                    · rw [if_pos c27] at H
                      have c27b0 : ((a0.extract (x7_1 : Int).toNat ((wrap64 (x7_1 + 1)) : Int).toNat).toList == ([13] : List UInt8)) = true := beq_iff_eq.mpr c27
                      have c27b1 : ((a0.extract (x7_1 : Int).toNat ((wrap64 (x7_1 + 1)) : Int).toNat).toList != ([13] : List UInt8)) = false := bne_eq_false_iff_eq.mpr c27
                      clear c27
                      have HC28 := Aside0.mk H
                      clear H
                      go_upto_region 23 with (fail)
                      go_cut [70] (fun v70 wc => ∃ (kq : Nat) (x70_27 : Bool), v70 = .bool x70_27 ∧ Aside0 (breviaryref05_Get.j3 kq a0 a1 x6_1 x7_1 (⟨#[10]⟩ : ByteArray) x70_27 = some (r1, r2)) ∧ Aside0 (kq ≤ k1) ∧ Aside0 (Below w.heap.size w wc))
                      case first =>
                        have H := HC28.out
                        clear HC28
                        by_cases c29 : (wrap64 (x7_1 + 1)) < (a0.size : Int)
                        · rw [if_pos c29] at H
                          have c29b0 : decide ((wrap64 (x7_1 + 1)) < (a0.size : Int)) = true := decide_eq_true c29
                          clear c29
                          (first | rw [c29b0] | (simp only [i64_w]; rw [c29b0]) | skip)
                          obtain ⟨ji30, hji30⟩ : ∃ j_ : Int, (wrap64 (x7_1 + 1)) = j_ := ⟨_, rfl⟩
                          replace H : (if 0 ≤ (ji30) then (breviaryref05_Get.j3 k1 a0 a1 x6_1 x7_1 (⟨#[10]⟩ : ByteArray) ((bt a0 (ji30)) == 10)) else (none)) = some (r1, r2) := by first | (rw [hji30] at H; exact H) | (simp only [hji30] at H ⊢; exact H)
                          (try rw [hji30] at c8b0)
                          (try rw [hji30] at c8b1)
                          (try rw [hji30] at c8)
                          (try rw [hji30] at c9b0)
                          (try rw [hji30] at c9b1)
                          (try rw [hji30] at c9)
                          (try rw [hji30] at c10b0)
                          (try rw [hji30] at c10b1)
                          (try rw [hji30] at c11b0)
                          (try rw [hji30] at c11b1)
                          (try rw [hji30] at c27b0)
                          (try rw [hji30] at c27b1)
                          (try rw [hji30] at c29b0)
                          have hji30w : (IntKind.i64.wrap (x7_1 + 1)) = ji30 := (i64_w _).trans hji30
                          by_cases c31 : 0 ≤ (ji30)
                          · rw [if_pos c31] at H
                            have c31b0 : decide (0 ≤ (ji30)) = true := decide_eq_true c31
                            clear c31
                            have H' := Aside0.mk H
                            clear H
                            have p32 : 0 ≤ ((ji30) : Int) := of_decide_eq_true (by first | (with_reducible assumption) | assumption)
                            have q32 : (ji30) < (a0.size : Int) := of_decide_eq_true (by first | (with_reducible assumption) | assumption)
                            have hx32 := bt_at a0 (ji30)
                            replace p32 := eq_true p32
                            replace q32 := eq_true q32
                            go_wp2
                            go_meet
                            case rel => exact ⟨_, (((bt a0 (ji30)) == 10)), (by first | rfl | (simp; done) | (simp only [← hji30] <;> (first | rfl | simp)) | (simp [*]; done)), H', ⟨by have := HK1.out; first | omega | exact Nat.le_refl _⟩, ⟨by repeat (first | (with_reducible first | exact HB.out | apply below_alloc | apply pw_below_drewN | apply below_drew1) | exact HB.out)⟩⟩
                          · rw [if_neg c31] at H
                            exact absurd H (by simp)
                        · rw [if_neg c29] at H
                          have c29b0 : decide ((wrap64 (x7_1 + 1)) < (a0.size : Int)) = false := decide_eq_false c29
                          clear c29
                          (first | rw [c29b0] | (simp only [i64_w]; rw [c29b0]) | skip)
                          have H' := Aside0.mk H
                          clear H
                          go_wp2
                          go_meet
                          case rel => exact ⟨_, (false), (by first | rfl | (simp; done) | (simp [*]; done)), H', ⟨by have := HK1.out; first | omega | exact Nat.le_refl _⟩, ⟨by repeat (first | (with_reducible first | exact HB.out | apply below_alloc | apply pw_below_drewN | apply below_drew1) | exact HB.out)⟩⟩
                      case rest =>
                        clear HC28
                        try clear c1
                        try clear p1
                        try clear q1
                        try clear hx1
                        try clear c2
                        try clear p2
                        try clear c3
                        try clear p3
                        try clear q3
                        try clear hx3
                        try clear c4
                        try clear c6
                        try clear c6b0
                        try clear p6
                        try clear c7
                        try clear c7b0
                        try clear c7b1
                        try clear c8
                        try clear c8b0
                        try clear c8b1
                        try clear c9
                        try clear c9b0
                        try clear c9b1
                        try clear c10
                        try clear c10b0
                        try clear c10b1
                        try clear c11
                        try clear c11b0
                        try clear c11b1
                        try clear c13
                        try clear c13b0
                        try clear c14
                        try clear c14b0
                        try clear p15
                        try clear q15
                        try clear hx15
                        try clear c16
                        try clear c16b0
                        try clear c16b1
                        try clear c17
                        try clear c17b0
                        try clear c17b1
                        try clear c19
                        try clear c19b0
                        try clear c19b1
                        try clear c20
                        try clear c20b0
                        try clear c20b1
                        try clear c21
                        try clear c21b0
                        try clear c21b1
                        try clear c23
                        try clear c23b0
                        try clear c23b1
                        try clear c25
                        try clear c25b0
                        try clear c25b1
                        try clear c25b2
                        try clear c27
                        try clear c27b0
                        try clear c27b1
                        try clear c29
                        try clear c29b0
                        try clear c31
                        try clear c31b0
                        try clear p32
                        try clear q32
                        try clear hx32
                        try clear p1
                        try clear p15
                        try clear p2
                        try clear p32
                        try clear p6
                        try clear q1
                        try clear q15
                        try clear q32
                        obtain ⟨kq, x70_27, rfl, HA, HJ27, HB⟩ := hcut
                        cases kq with
                        | zero => exact absurd HA.out (by simp [breviaryref05_Get.j3])
                        | succ kj27 =>
                          have H := HA.out
                          clear HA
                          simp only [breviaryref05_Get.j3] at H
                          by_cases c33 : x70_27 = true
                          · subst c33
                            have H1 : (if a1 = true then (if (⟨#[10]⟩ : ByteArray).toList = ([10] : List UInt8) then (if x6_1.size + 1 ≤ 9223372036854775807 then (breviaryref05_Get.l0 kj27 a0 a1 (x6_1 ++ (⟨#[32]⟩ : ByteArray)) (wrap64 ((wrap64 (x7_1 + 1)) + 1))) else (none)) else (if (⟨#[10]⟩ : ByteArray).toList = ([9] : List UInt8) then (if x6_1.size + 1 ≤ 9223372036854775807 then (breviaryref05_Get.l0 kj27 a0 a1 (x6_1 ++ (⟨#[32]⟩ : ByteArray)) (wrap64 ((wrap64 (x7_1 + 1)) + 1))) else (none)) else (if x6_1.size + 1 ≤ 9223372036854775807 then (breviaryref05_Get.l0 kj27 a0 a1 (x6_1 ++ (⟨#[10]⟩ : ByteArray)) (wrap64 ((wrap64 (x7_1 + 1)) + 1))) else (none)))) else (if x6_1.size + 1 ≤ 9223372036854775807 then (breviaryref05_Get.l0 kj27 a0 a1 (x6_1 ++ (⟨#[10]⟩ : ByteArray)) (wrap64 ((wrap64 (x7_1 + 1)) + 1))) else (none))) = some (r1, r2) := by rw [if_pos rfl] at H; exact H
                            clear H
                            have H := H1
                            clear H1
                            by_cases c34 : a1 = true
                            · subst c34
                              have H1 : (if (⟨#[10]⟩ : ByteArray).toList = ([10] : List UInt8) then (if x6_1.size + 1 ≤ 9223372036854775807 then (breviaryref05_Get.l0 kj27 a0 true (x6_1 ++ (⟨#[32]⟩ : ByteArray)) (wrap64 ((wrap64 (x7_1 + 1)) + 1))) else (none)) else (if (⟨#[10]⟩ : ByteArray).toList = ([9] : List UInt8) then (if x6_1.size + 1 ≤ 9223372036854775807 then (breviaryref05_Get.l0 kj27 a0 true (x6_1 ++ (⟨#[32]⟩ : ByteArray)) (wrap64 ((wrap64 (x7_1 + 1)) + 1))) else (none)) else (if x6_1.size + 1 ≤ 9223372036854775807 then (breviaryref05_Get.l0 kj27 a0 true (x6_1 ++ (⟨#[10]⟩ : ByteArray)) (wrap64 ((wrap64 (x7_1 + 1)) + 1))) else (none)))) = some (r1, r2) := by rw [if_pos rfl] at H; exact H
                              clear H
                              have H := H1
                              clear H1
                              by_cases c35 : (⟨#[10]⟩ : ByteArray).toList = ([10] : List UInt8)
                              · rw [if_pos c35] at H
                                have c35b0 : ((⟨#[10]⟩ : ByteArray).toList == ([10] : List UInt8)) = true := beq_iff_eq.mpr c35
                                have c35b1 : ((⟨#[10]⟩ : ByteArray).toList != ([10] : List UInt8)) = false := bne_eq_false_iff_eq.mpr c35
                                clear c35
                                by_cases c36 : x6_1.size + 1 ≤ 9223372036854775807
                                · rw [if_pos c36] at H
                                  have c36b0 := eq_true c36
                                  have c36b1 : decide (x6_1.size + 1 ≤ 9223372036854775807) = true := decide_eq_true c36
                                  try have c36b2 : (9223372036854775807 < x6_1.size + 1) = False := eq_false (Nat.not_lt.2 c36)
                                  have H' := Aside0.mk H
                                  clear H
                                  go_wp2
                                  go_roundg kj27
                                  case measure => have := HK1.out; have := HJ27.out; omega
                                  case rel => exact ⟨(x6_1 ++ (⟨#[32]⟩ : ByteArray)), (wrap64 ((wrap64 (x7_1 + 1)) + 1)), (by first | rfl | (simp; done) | (simp [*]; done)), (by first | rfl | (simp; done) | (simp [*]; done)), H', ⟨by have := HK1.out; have := HJ27.out; omega⟩, ⟨by repeat (first | (with_reducible first | exact HB.out | apply below_alloc | apply pw_below_drewN | apply below_drew1) | exact HB.out)⟩⟩
                                · rw [if_neg c36] at H
                                  exact absurd H (by simp)
                              · exact absurd (by decide +kernel) c35
                            · replace c34 := Bool.eq_false_iff.mpr c34
                              subst c34
                              have H1 : (if x6_1.size + 1 ≤ 9223372036854775807 then (breviaryref05_Get.l0 kj27 a0 false (x6_1 ++ (⟨#[10]⟩ : ByteArray)) (wrap64 ((wrap64 (x7_1 + 1)) + 1))) else (none)) = some (r1, r2) := by rw [if_neg (show ¬ (false = true) by decide)] at H; exact H
                              clear H
                              have H := H1
                              clear H1
                              by_cases c40 : x6_1.size + 1 ≤ 9223372036854775807
                              · rw [if_pos c40] at H
                                have c40b0 := eq_true c40
                                have c40b1 : decide (x6_1.size + 1 ≤ 9223372036854775807) = true := decide_eq_true c40
                                try have c40b2 : (9223372036854775807 < x6_1.size + 1) = False := eq_false (Nat.not_lt.2 c40)
                                have H' := Aside0.mk H
                                clear H
                                go_wp2
                                go_roundg kj27
                                case measure => have := HK1.out; have := HJ27.out; omega
                                case rel => exact ⟨(x6_1 ++ (⟨#[10]⟩ : ByteArray)), (wrap64 ((wrap64 (x7_1 + 1)) + 1)), (by first | rfl | (simp; done) | (simp [*]; done)), (by first | rfl | (simp; done) | (simp [*]; done)), H', ⟨by have := HK1.out; have := HJ27.out; omega⟩, ⟨by repeat (first | (with_reducible first | exact HB.out | apply below_alloc | apply pw_below_drewN | apply below_drew1) | exact HB.out)⟩⟩
                              · rw [if_neg c40] at H
                                exact absurd H (by simp)
                          · replace c33 := Bool.eq_false_iff.mpr c33
                            subst c33
                            have H1 : (if a1 = true then (if (⟨#[10]⟩ : ByteArray).toList = ([10] : List UInt8) then (if x6_1.size + 1 ≤ 9223372036854775807 then (breviaryref05_Get.l0 kj27 a0 a1 (x6_1 ++ (⟨#[32]⟩ : ByteArray)) (wrap64 (x7_1 + 1))) else (none)) else (if (⟨#[10]⟩ : ByteArray).toList = ([9] : List UInt8) then (if x6_1.size + 1 ≤ 9223372036854775807 then (breviaryref05_Get.l0 kj27 a0 a1 (x6_1 ++ (⟨#[32]⟩ : ByteArray)) (wrap64 (x7_1 + 1))) else (none)) else (if x6_1.size + 1 ≤ 9223372036854775807 then (breviaryref05_Get.l0 kj27 a0 a1 (x6_1 ++ (⟨#[10]⟩ : ByteArray)) (wrap64 (x7_1 + 1))) else (none)))) else (if x6_1.size + 1 ≤ 9223372036854775807 then (breviaryref05_Get.l0 kj27 a0 a1 (x6_1 ++ (⟨#[10]⟩ : ByteArray)) (wrap64 (x7_1 + 1))) else (none))) = some (r1, r2) := by rw [if_neg (show ¬ (false = true) by decide)] at H; exact H
                            clear H
                            have H := H1
                            clear H1
                            by_cases c41 : a1 = true
                            · subst c41
                              have H1 : (if (⟨#[10]⟩ : ByteArray).toList = ([10] : List UInt8) then (if x6_1.size + 1 ≤ 9223372036854775807 then (breviaryref05_Get.l0 kj27 a0 true (x6_1 ++ (⟨#[32]⟩ : ByteArray)) (wrap64 (x7_1 + 1))) else (none)) else (if (⟨#[10]⟩ : ByteArray).toList = ([9] : List UInt8) then (if x6_1.size + 1 ≤ 9223372036854775807 then (breviaryref05_Get.l0 kj27 a0 true (x6_1 ++ (⟨#[32]⟩ : ByteArray)) (wrap64 (x7_1 + 1))) else (none)) else (if x6_1.size + 1 ≤ 9223372036854775807 then (breviaryref05_Get.l0 kj27 a0 true (x6_1 ++ (⟨#[10]⟩ : ByteArray)) (wrap64 (x7_1 + 1))) else (none)))) = some (r1, r2) := by rw [if_pos rfl] at H; exact H
                              clear H
                              have H := H1
                              clear H1
                              by_cases c42 : (⟨#[10]⟩ : ByteArray).toList = ([10] : List UInt8)
                              · rw [if_pos c42] at H
                                have c42b0 : ((⟨#[10]⟩ : ByteArray).toList == ([10] : List UInt8)) = true := beq_iff_eq.mpr c42
                                have c42b1 : ((⟨#[10]⟩ : ByteArray).toList != ([10] : List UInt8)) = false := bne_eq_false_iff_eq.mpr c42
                                clear c42
                                by_cases c43 : x6_1.size + 1 ≤ 9223372036854775807
                                · rw [if_pos c43] at H
                                  have c43b0 := eq_true c43
                                  have c43b1 : decide (x6_1.size + 1 ≤ 9223372036854775807) = true := decide_eq_true c43
                                  try have c43b2 : (9223372036854775807 < x6_1.size + 1) = False := eq_false (Nat.not_lt.2 c43)
                                  have H' := Aside0.mk H
                                  clear H
                                  go_wp2
                                  go_roundg kj27
                                  case measure => have := HK1.out; have := HJ27.out; omega
                                  case rel => exact ⟨(x6_1 ++ (⟨#[32]⟩ : ByteArray)), (wrap64 (x7_1 + 1)), (by first | rfl | (simp; done) | (simp [*]; done)), (by first | rfl | (simp; done) | (simp [*]; done)), H', ⟨by have := HK1.out; have := HJ27.out; omega⟩, ⟨by repeat (first | (with_reducible first | exact HB.out | apply below_alloc | apply pw_below_drewN | apply below_drew1) | exact HB.out)⟩⟩
                                · rw [if_neg c43] at H
                                  exact absurd H (by simp)
                              · exact absurd (by decide +kernel) c42
                            · replace c41 := Bool.eq_false_iff.mpr c41
                              subst c41
                              have H1 : (if x6_1.size + 1 ≤ 9223372036854775807 then (breviaryref05_Get.l0 kj27 a0 false (x6_1 ++ (⟨#[10]⟩ : ByteArray)) (wrap64 (x7_1 + 1))) else (none)) = some (r1, r2) := by rw [if_neg (show ¬ (false = true) by decide)] at H; exact H
                              clear H
                              have H := H1
                              clear H1
                              by_cases c47 : x6_1.size + 1 ≤ 9223372036854775807
                              · rw [if_pos c47] at H
                                have c47b0 := eq_true c47
                                have c47b1 : decide (x6_1.size + 1 ≤ 9223372036854775807) = true := decide_eq_true c47
                                try have c47b2 : (9223372036854775807 < x6_1.size + 1) = False := eq_false (Nat.not_lt.2 c47)
                                have H' := Aside0.mk H
                                clear H
                                go_wp2
                                go_roundg kj27
                                case measure => have := HK1.out; have := HJ27.out; omega
                                case rel => exact ⟨(x6_1 ++ (⟨#[10]⟩ : ByteArray)), (wrap64 (x7_1 + 1)), (by first | rfl | (simp; done) | (simp [*]; done)), (by first | rfl | (simp; done) | (simp [*]; done)), H', ⟨by have := HK1.out; have := HJ27.out; omega⟩, ⟨by repeat (first | (with_reducible first | exact HB.out | apply below_alloc | apply pw_below_drewN | apply below_drew1) | exact HB.out)⟩⟩
                              · rw [if_neg c47] at H
                                exact absurd H (by simp)
                    · rw [if_neg c27] at H
                      have c27b0 : ((a0.extract (x7_1 : Int).toNat ((wrap64 (x7_1 + 1)) : Int).toNat).toList == ([13] : List UInt8)) = false := beq_eq_false_iff_ne.mpr c27
                      have c27b1 : ((a0.extract (x7_1 : Int).toNat ((wrap64 (x7_1 + 1)) : Int).toNat).toList != ([13] : List UInt8)) = true := bne_iff_ne.mpr c27
                      by_cases c48 : a1 = true
                      · subst c48
                        have H1 : (if (a0.extract (x7_1 : Int).toNat ((wrap64 (x7_1 + 1)) : Int).toNat).toList = ([10] : List UInt8) then (if x6_1.size + 1 ≤ 9223372036854775807 then (breviaryref05_Get.l0 k1 a0 true (x6_1 ++ (⟨#[32]⟩ : ByteArray)) (wrap64 (x7_1 + 1))) else (none)) else (if (a0.extract (x7_1 : Int).toNat ((wrap64 (x7_1 + 1)) : Int).toNat).toList = ([9] : List UInt8) then (if x6_1.size + 1 ≤ 9223372036854775807 then (breviaryref05_Get.l0 k1 a0 true (x6_1 ++ (⟨#[32]⟩ : ByteArray)) (wrap64 (x7_1 + 1))) else (none)) else (if x6_1.size + (a0.extract (x7_1 : Int).toNat ((wrap64 (x7_1 + 1)) : Int).toNat).size ≤ 9223372036854775807 then (breviaryref05_Get.l0 k1 a0 true (x6_1 ++ (a0.extract (x7_1 : Int).toNat ((wrap64 (x7_1 + 1)) : Int).toNat)) (wrap64 (x7_1 + 1))) else (none)))) = some (r1, r2) := by rw [if_pos rfl] at H; exact H
                        clear H
                        have H := H1
                        clear H1
                        by_cases c49 : (a0.extract (x7_1 : Int).toNat ((wrap64 (x7_1 + 1)) : Int).toNat).toList = ([10] : List UInt8)
                        · rw [if_pos c49] at H
                          have c49b0 : ((a0.extract (x7_1 : Int).toNat ((wrap64 (x7_1 + 1)) : Int).toNat).toList == ([10] : List UInt8)) = true := beq_iff_eq.mpr c49
                          have c49b1 : ((a0.extract (x7_1 : Int).toNat ((wrap64 (x7_1 + 1)) : Int).toNat).toList != ([10] : List UInt8)) = false := bne_eq_false_iff_eq.mpr c49
                          clear c49
                          by_cases c50 : x6_1.size + 1 ≤ 9223372036854775807
                          · rw [if_pos c50] at H
                            have c50b0 := eq_true c50
                            have c50b1 : decide (x6_1.size + 1 ≤ 9223372036854775807) = true := decide_eq_true c50
                            try have c50b2 : (9223372036854775807 < x6_1.size + 1) = False := eq_false (Nat.not_lt.2 c50)
                            have H' := Aside0.mk H
                            clear H
                            go_wp2
                            go_roundg k1
                            case measure => have := HK1.out; omega
                            case rel => exact ⟨(x6_1 ++ (⟨#[32]⟩ : ByteArray)), (wrap64 (x7_1 + 1)), (by first | rfl | (simp; done) | (simp [*]; done)), (by first | rfl | (simp; done) | (simp [*]; done)), H', ⟨by have := HK1.out; omega⟩, ⟨by repeat (first | (with_reducible first | exact HB.out | apply below_alloc | apply pw_below_drewN | apply below_drew1) | exact HB.out)⟩⟩
                          · rw [if_neg c50] at H
                            exact absurd H (by simp)
                        · rw [if_neg c49] at H
                          have c49b0 : ((a0.extract (x7_1 : Int).toNat ((wrap64 (x7_1 + 1)) : Int).toNat).toList == ([10] : List UInt8)) = false := beq_eq_false_iff_ne.mpr c49
                          have c49b1 : ((a0.extract (x7_1 : Int).toNat ((wrap64 (x7_1 + 1)) : Int).toNat).toList != ([10] : List UInt8)) = true := bne_iff_ne.mpr c49
                          by_cases c51 : (a0.extract (x7_1 : Int).toNat ((wrap64 (x7_1 + 1)) : Int).toNat).toList = ([9] : List UInt8)
                          · rw [if_pos c51] at H
                            have c51b0 : ((a0.extract (x7_1 : Int).toNat ((wrap64 (x7_1 + 1)) : Int).toNat).toList == ([9] : List UInt8)) = true := beq_iff_eq.mpr c51
                            have c51b1 : ((a0.extract (x7_1 : Int).toNat ((wrap64 (x7_1 + 1)) : Int).toNat).toList != ([9] : List UInt8)) = false := bne_eq_false_iff_eq.mpr c51
                            clear c51
                            by_cases c52 : x6_1.size + 1 ≤ 9223372036854775807
                            · rw [if_pos c52] at H
                              have c52b0 := eq_true c52
                              have c52b1 : decide (x6_1.size + 1 ≤ 9223372036854775807) = true := decide_eq_true c52
                              try have c52b2 : (9223372036854775807 < x6_1.size + 1) = False := eq_false (Nat.not_lt.2 c52)
                              have H' := Aside0.mk H
                              clear H
                              go_wp2
                              go_roundg k1
                              case measure => have := HK1.out; omega
                              case rel => exact ⟨(x6_1 ++ (⟨#[32]⟩ : ByteArray)), (wrap64 (x7_1 + 1)), (by first | rfl | (simp; done) | (simp [*]; done)), (by first | rfl | (simp; done) | (simp [*]; done)), H', ⟨by have := HK1.out; omega⟩, ⟨by repeat (first | (with_reducible first | exact HB.out | apply below_alloc | apply pw_below_drewN | apply below_drew1) | exact HB.out)⟩⟩
                            · rw [if_neg c52] at H
                              exact absurd H (by simp)
                          · rw [if_neg c51] at H
                            have c51b0 : ((a0.extract (x7_1 : Int).toNat ((wrap64 (x7_1 + 1)) : Int).toNat).toList == ([9] : List UInt8)) = false := beq_eq_false_iff_ne.mpr c51
                            have c51b1 : ((a0.extract (x7_1 : Int).toNat ((wrap64 (x7_1 + 1)) : Int).toNat).toList != ([9] : List UInt8)) = true := bne_iff_ne.mpr c51
                            by_cases c53 : x6_1.size + (a0.extract (x7_1 : Int).toNat ((wrap64 (x7_1 + 1)) : Int).toNat).size ≤ 9223372036854775807
                            · rw [if_pos c53] at H
                              have c53b0 := eq_true c53
                              have c53b1 : decide (x6_1.size + (a0.extract (x7_1 : Int).toNat ((wrap64 (x7_1 + 1)) : Int).toNat).size ≤ 9223372036854775807) = true := decide_eq_true c53
                              try have c53b2 : (9223372036854775807 < x6_1.size + (a0.extract (x7_1 : Int).toNat ((wrap64 (x7_1 + 1)) : Int).toNat).size) = False := eq_false (Nat.not_lt.2 c53)
                              have H' := Aside0.mk H
                              clear H
                              go_wp2
                              go_roundg k1
                              case measure => have := HK1.out; omega
                              case rel => exact ⟨(x6_1 ++ (a0.extract (x7_1 : Int).toNat ((wrap64 (x7_1 + 1)) : Int).toNat)), (wrap64 (x7_1 + 1)), (by first | rfl | (simp; done) | (simp [*]; done)), (by first | rfl | (simp; done) | (simp [*]; done)), H', ⟨by have := HK1.out; omega⟩, ⟨by repeat (first | (with_reducible first | exact HB.out | apply below_alloc | apply pw_below_drewN | apply below_drew1) | exact HB.out)⟩⟩
                            · rw [if_neg c53] at H
                              exact absurd H (by simp)
                      · replace c48 := Bool.eq_false_iff.mpr c48
                        subst c48
                        have H1 : (if x6_1.size + (a0.extract (x7_1 : Int).toNat ((wrap64 (x7_1 + 1)) : Int).toNat).size ≤ 9223372036854775807 then (breviaryref05_Get.l0 k1 a0 false (x6_1 ++ (a0.extract (x7_1 : Int).toNat ((wrap64 (x7_1 + 1)) : Int).toNat)) (wrap64 (x7_1 + 1))) else (none)) = some (r1, r2) := by rw [if_neg (show ¬ (false = true) by decide)] at H; exact H
                        clear H
                        have H := H1
                        clear H1
                        by_cases c54 : x6_1.size + (a0.extract (x7_1 : Int).toNat ((wrap64 (x7_1 + 1)) : Int).toNat).size ≤ 9223372036854775807
                        · rw [if_pos c54] at H
                          have c54b0 := eq_true c54
                          have c54b1 : decide (x6_1.size + (a0.extract (x7_1 : Int).toNat ((wrap64 (x7_1 + 1)) : Int).toNat).size ≤ 9223372036854775807) = true := decide_eq_true c54
                          try have c54b2 : (9223372036854775807 < x6_1.size + (a0.extract (x7_1 : Int).toNat ((wrap64 (x7_1 + 1)) : Int).toNat).size) = False := eq_false (Nat.not_lt.2 c54)
                          have H' := Aside0.mk H
                          clear H
                          go_wp2
                          go_roundg k1
                          case measure => have := HK1.out; omega
                          case rel => exact ⟨(x6_1 ++ (a0.extract (x7_1 : Int).toNat ((wrap64 (x7_1 + 1)) : Int).toNat)), (wrap64 (x7_1 + 1)), (by first | rfl | (simp; done) | (simp [*]; done)), (by first | rfl | (simp; done) | (simp [*]; done)), H', ⟨by have := HK1.out; omega⟩, ⟨by repeat (first | (with_reducible first | exact HB.out | apply below_alloc | apply pw_below_drewN | apply below_drew1) | exact HB.out)⟩⟩
                        · rw [if_neg c54] at H
                          exact absurd H (by simp)
              · rw [if_neg c9] at H
                exact absurd H (by simp)
            · rw [if_neg c8] at H
              exact absurd H (by simp)
          · rw [if_neg c7] at H
            exact absurd H (by simp)
        · rw [if_neg c6] at H
          have c6b0 : decide (x7_1 < (a0.size : Int)) = false := decide_eq_false c6
          clear c6
          simp only [Option.some.injEq, Prod.mk.injEq] at H
          obtain ⟨rfl, rfl⟩ := H
          go_wp2
          go_ret2
          exact ⟨by first | rfl | (simp [ ] <;> rfl) | (simp [*] <;> rfl), by repeat (first | (with_reducible first | exact HB.out | apply below_alloc | apply pw_below_drewN | apply below_drew1) | exact HB.out)⟩
  · replace c4 := Bool.eq_false_iff.mpr c4
    subst c4
    have H1 : (some ((⟨#[]⟩ : ByteArray), 10)) = some (r1, r2) := by rw [if_neg (show ¬ (false = true) by decide)] at H; exact H
    clear H
    have H := H1
    clear H1
    simp only [Option.some.injEq, Prod.mk.injEq] at H
    obtain ⟨rfl, rfl⟩ := H
    go_enter Tryd.func49, Tryd.ntmps49
    go_wp2_with (first | ((with_reducible refine gate_callee (f := 29) rfl ?_); refine goesL_ (some 11) rfl rfl Tryd.func29 (by kernel_rfl) rfl #[.string a0] rfl (by (try simp only [List.map_toArray, List.map_cons, List.map_nil]); first | done | rfl | (simp only [List.length_drop, List.length_take]; rfl)) ?_; (with_reducible refine (breviaryref01_Text.calls k a0 false _ A3.out).mono ?_); rintro e w55 ⟨rfl, hb⟩; refine ⟨_, rfl, ?_⟩; have n0_ := Aside0.mk (below_step (by repeat (first | (with_reducible first | exact HB.out | apply below_alloc | apply pw_below_drewN | apply below_drew1) | exact HB.out)) hb); clear HB; have HB := n0_; clear n0_; (try clear hb); (try clear hb2); (try clear hk); (try clear hi)))
    go_ret2
    exact ⟨by first | rfl | (simp [ ] <;> rfl) | (simp [*] <;> rfl), by repeat (first | (with_reducible first | exact HB.out | apply below_alloc | apply pw_below_drewN | apply below_drew1) | exact HB.out)⟩

end Go.Proofs.YticpobgkbapdmaaDoor.PR1
