/- What the proof of this claim uses of PR1x9: 3 declarations. -/
import Derived.Test.YticpobgkbapdmaaDoorProg
import Derived.Below
import Derived.Deep.Draws
import Derived.Deep.AppendLies
import Derived.Maps.AppendAt
import Derived.OwnWalk
import Derived.Laws.BytesArg
import Derived.Laws.MakeOwn
import Derived.Laws.OwnMore
import Derived.Deep.OwnRows
import Derived.Tactics
import Derived.Lib.ConvBytes
import Derived.Laws.Slices
import Derived.WalkKit
import Derived.KernelRfl
import Derived.RowKit3
import Derived.Deep.LoopGhost
import Derived.Deep.QuietTactic
import Derived.BigQuiet
import Derived.WideLaws
import Derived.Deep.DeepCutAuto
import Derived.Deep.CutBlock
import Derived.Deep.RegionHeld3
import Derived.Laws.Rows
import Derived.Lib.AppendStr
import Derived.ArgAppend
import Derived.Laws.IdiomCopy
import Derived.OrdersHeld
import Derived.Laws.BitsLemmas
import Derived.RowKit
import Derived.Test.YticpobgkbapdmaaDoorKpWWords
import Derived.Test.YticpobgkbapdmaaDoorKpWLast
import Derived.Laws.StructEq
import Derived.Test.YticpobgkbapdmaaDoorKpWMore
namespace Go.Proofs.YticpobgkbapdmaaDoorW.PrintLast
end Go.Proofs.YticpobgkbapdmaaDoorW.PrintLast
namespace Go.Proofs.YticpobgkbapdmaaDoorW.PrintMore
end Go.Proofs.YticpobgkbapdmaaDoorW.PrintMore
namespace Go.Proofs.YticpobgkbapdmaaDoorW.PrintWords
end Go.Proofs.YticpobgkbapdmaaDoorW.PrintWords
namespace Go.Proofs.YticpobgkbapdmaaDoor.PR1
open Go.RowKit Go.Proofs.YticpobgkbapdmaaDoorW.PrintWords Go.Proofs.YticpobgkbapdmaaDoorW.PrintLast Go.Proofs.YticpobgkbapdmaaDoorW.PrintMore
attribute [local go_sem] min2_int min_two
set_option linter.unusedVariables false
set_option linter.unusedSimpArgs false

/-! ### breviaryref05_Put: function 52 -/
mutual
def breviaryref05_Put.l0 : Nat → ByteArray → Bool → ByteArray → Int → Option (ByteArray)
  | 0, _, _, _, _ => none
  | k + 1, x0, x1, x5, x6 => if x6 < (x0.size : Int) then (if 0 ≤ x6 then (if x6 ≤ (wrap64 (x6 + 1)) then (if (wrap64 (x6 + 1)) ≤ (x0.size : Int) then (if (x0.extract (x6 : Int).toNat ((wrap64 (x6 + 1)) : Int).toNat).toList = ([38] : List UInt8) then (if x5.size + 5 ≤ 9223372036854775807 then (breviaryref05_Put.l0 k x0 x1 (x5 ++ (⟨#[38, 97, 109, 112, 59]⟩ : ByteArray)) (wrap64 (x6 + 1))) else (none)) else (if (x0.extract (x6 : Int).toNat ((wrap64 (x6 + 1)) : Int).toNat).toList = ([60] : List UInt8) then (if x5.size + 4 ≤ 9223372036854775807 then (breviaryref05_Put.l0 k x0 x1 (x5 ++ (⟨#[38, 108, 116, 59]⟩ : ByteArray)) (wrap64 (x6 + 1))) else (none)) else (if (x0.extract (x6 : Int).toNat ((wrap64 (x6 + 1)) : Int).toNat).toList = ([13] : List UInt8) then (if x5.size + 5 ≤ 9223372036854775807 then (breviaryref05_Put.l0 k x0 x1 (x5 ++ (⟨#[38, 35, 49, 51, 59]⟩ : ByteArray)) (wrap64 (x6 + 1))) else (none)) else (if (x0.extract (x6 : Int).toNat ((wrap64 (x6 + 1)) : Int).toNat).toList = ([62] : List UInt8) then (breviaryref05_Put.j1 k x0 x1 x5 x6 (x0.extract (x6 : Int).toNat ((wrap64 (x6 + 1)) : Int).toNat) (!x1)) else (breviaryref05_Put.j1 k x0 x1 x5 x6 (x0.extract (x6 : Int).toNat ((wrap64 (x6 + 1)) : Int).toNat) false))))) else (none)) else (none)) else (none)) else (some x5)
def breviaryref05_Put.j1 : Nat → ByteArray → Bool → ByteArray → Int → ByteArray → Bool → Option (ByteArray)
  | 0, _, _, _, _, _, _ => none
  | k + 1, x0, x1, x5, x6, x7, x30 => if x30 = true then (if x5.size + 4 ≤ 9223372036854775807 then (breviaryref05_Put.l0 k x0 x1 (x5 ++ (⟨#[38, 103, 116, 59]⟩ : ByteArray)) (wrap64 (x6 + 1))) else (none)) else (if x7.toList = ([34] : List UInt8) then (breviaryref05_Put.j2 k x0 x1 x5 x6 x7 x1) else (breviaryref05_Put.j2 k x0 x1 x5 x6 x7 false))
def breviaryref05_Put.j2 : Nat → ByteArray → Bool → ByteArray → Int → ByteArray → Bool → Option (ByteArray)
  | 0, _, _, _, _, _, _ => none
  | k + 1, x0, x1, x5, x6, x7, x35 => if x35 = true then (if x5.size + 6 ≤ 9223372036854775807 then (breviaryref05_Put.l0 k x0 x1 (x5 ++ (⟨#[38, 113, 117, 111, 116, 59]⟩ : ByteArray)) (wrap64 (x6 + 1))) else (none)) else (if x7.toList = ([9] : List UInt8) then (breviaryref05_Put.j3 k x0 x1 x5 x6 x7 x1) else (breviaryref05_Put.j3 k x0 x1 x5 x6 x7 false))
def breviaryref05_Put.j3 : Nat → ByteArray → Bool → ByteArray → Int → ByteArray → Bool → Option (ByteArray)
  | 0, _, _, _, _, _, _ => none
  | k + 1, x0, x1, x5, x6, x7, x40 => if x40 = true then (if x5.size + 4 ≤ 9223372036854775807 then (breviaryref05_Put.l0 k x0 x1 (x5 ++ (⟨#[38, 35, 57, 59]⟩ : ByteArray)) (wrap64 (x6 + 1))) else (none)) else (if x7.toList = ([10] : List UInt8) then (if x1 = true then (if x5.size + 5 ≤ 9223372036854775807 then (breviaryref05_Put.l0 k x0 x1 (x5 ++ (⟨#[38, 35, 49, 48, 59]⟩ : ByteArray)) (wrap64 (x6 + 1))) else (none)) else (if x5.size + x7.size ≤ 9223372036854775807 then (breviaryref05_Put.l0 k x0 x1 (x5 ++ x7) (wrap64 (x6 + 1))) else (none))) else (if x5.size + x7.size ≤ 9223372036854775807 then (breviaryref05_Put.l0 k x0 x1 (x5 ++ x7) (wrap64 (x6 + 1))) else (none)))
end
def breviaryref05_Put.f (k : Nat) (a0 : ByteArray) (a1 : Bool) : Option (ByteArray) := breviaryref05_Put.l0 k a0 a1 (⟨#[]⟩ : ByteArray) 0
set_option maxHeartbeats 8000000 in
set_option maxRecDepth 100000 in
theorem breviaryref05_Put.calls (k : Nat) (a0 : ByteArray) (a1 : Bool) (r : ByteArray) (w : World) (h : breviaryref05_Put.f k a0 a1 = some r) :
    Calls Tryd.prog 52 #[.string a0, .bool a1] w fun e w' => e = .returned (.string r) ∧ Drawn0 w w' := by
  have H : (breviaryref05_Put.l0 k a0 a1 (⟨#[]⟩ : ByteArray) 0) = some r := h
  clear h
  have H' := Aside0.mk H
  clear H
  go_enter Tryd.func52, Tryd.ntmps52
  go_wp2
  go_loopg [5, 6] k (fun kq v5 v6 w' => ∃ (x5_1 : ByteArray) (x6_1 : Int), v5 = .string x5_1 ∧ v6 = .int .i64 x6_1 ∧ Aside0 (breviaryref05_Put.l0 kq a0 a1 x5_1 x6_1 = some r) ∧ Aside0 (kq ≤ k) ∧ Drawn0 w w')
  case atStart => exact ⟨((⟨#[]⟩ : ByteArray)), (0), (by first | rfl | (simp; done) | (simp [*]; done)), (by first | rfl | (simp; done) | (simp [*]; done)), H', ⟨Nat.le_refl _⟩, by repeat (first | exact Drawn0.refl _ | apply Drawn0.step)⟩
  case round =>
    clear H'
    try clear p2
    obtain ⟨x5_1, x6_1, rfl, rfl, HA, HK1, ⟨m1, rfl⟩⟩ := hrel
    cases gk with
    | zero => exact absurd HA.out (by simp [breviaryref05_Put.l0])
    | succ k1 =>
      have H := HA.out
      clear HA
      simp only [breviaryref05_Put.l0] at H
      by_cases c3 : x6_1 < (a0.size : Int)
      · rw [if_pos c3] at H
        have c3b0 : decide (x6_1 < (a0.size : Int)) = true := decide_eq_true c3
        clear c3
        by_cases c4 : 0 ≤ x6_1
        · rw [if_pos c4] at H
          have c4b0 := eq_true c4
          have c4b1 : decide (0 ≤ x6_1) = true := decide_eq_true c4
          clear c4
          by_cases c5 : x6_1 ≤ (wrap64 (x6_1 + 1))
          · rw [if_pos c5] at H
            have c5b0 := eq_true c5
            have c5b1 : decide (x6_1 ≤ (wrap64 (x6_1 + 1))) = true := decide_eq_true c5
            by_cases c6 : (wrap64 (x6_1 + 1)) ≤ (a0.size : Int)
            · rw [if_pos c6] at H
              have c6b0 := eq_true c6
              have c6b1 : decide ((wrap64 (x6_1 + 1)) ≤ (a0.size : Int)) = true := decide_eq_true c6
              by_cases c7 : (a0.extract (x6_1 : Int).toNat ((wrap64 (x6_1 + 1)) : Int).toNat).toList = ([38] : List UInt8)
              · rw [if_pos c7] at H
                have c7b0 : ((a0.extract (x6_1 : Int).toNat ((wrap64 (x6_1 + 1)) : Int).toNat).toList == ([38] : List UInt8)) = true := beq_iff_eq.mpr c7
                have c7b1 : ((a0.extract (x6_1 : Int).toNat ((wrap64 (x6_1 + 1)) : Int).toNat).toList != ([38] : List UInt8)) = false := bne_eq_false_iff_eq.mpr c7
                clear c7
                by_cases c8 : x5_1.size + 5 ≤ 9223372036854775807
                · rw [if_pos c8] at H
                  have c8b0 := eq_true c8
                  have c8b1 : decide (x5_1.size + 5 ≤ 9223372036854775807) = true := decide_eq_true c8
                  try have c8b2 : (9223372036854775807 < x5_1.size + 5) = False := eq_false (Nat.not_lt.2 c8)
                  have H' := Aside0.mk H
                  clear H
                  go_wp2
                  go_roundg k1
                  case measure => have := HK1.out; omega
                  case rel => exact ⟨(x5_1 ++ (⟨#[38, 97, 109, 112, 59]⟩ : ByteArray)), (wrap64 (x6_1 + 1)), (by first | rfl | (simp; done) | (simp [*]; done)), (by first | rfl | (simp; done) | (simp [*]; done)), H', ⟨by have := HK1.out; omega⟩, by repeat (first | exact Drawn0.refl _ | apply Drawn0.step)⟩
                · rw [if_neg c8] at H
                  exact absurd H (by simp)
              · rw [if_neg c7] at H
                have c7b0 : ((a0.extract (x6_1 : Int).toNat ((wrap64 (x6_1 + 1)) : Int).toNat).toList == ([38] : List UInt8)) = false := beq_eq_false_iff_ne.mpr c7
                have c7b1 : ((a0.extract (x6_1 : Int).toNat ((wrap64 (x6_1 + 1)) : Int).toNat).toList != ([38] : List UInt8)) = true := bne_iff_ne.mpr c7
                by_cases c9 : (a0.extract (x6_1 : Int).toNat ((wrap64 (x6_1 + 1)) : Int).toNat).toList = ([60] : List UInt8)
                · rw [if_pos c9] at H
                  have c9b0 : ((a0.extract (x6_1 : Int).toNat ((wrap64 (x6_1 + 1)) : Int).toNat).toList == ([60] : List UInt8)) = true := beq_iff_eq.mpr c9
                  have c9b1 : ((a0.extract (x6_1 : Int).toNat ((wrap64 (x6_1 + 1)) : Int).toNat).toList != ([60] : List UInt8)) = false := bne_eq_false_iff_eq.mpr c9
                  clear c9
                  by_cases c10 : x5_1.size + 4 ≤ 9223372036854775807
                  · rw [if_pos c10] at H
                    have c10b0 := eq_true c10
                    have c10b1 : decide (x5_1.size + 4 ≤ 9223372036854775807) = true := decide_eq_true c10
                    try have c10b2 : (9223372036854775807 < x5_1.size + 4) = False := eq_false (Nat.not_lt.2 c10)
                    have H' := Aside0.mk H
                    clear H
                    go_wp2
                    go_roundg k1
                    case measure => have := HK1.out; omega
                    case rel => exact ⟨(x5_1 ++ (⟨#[38, 108, 116, 59]⟩ : ByteArray)), (wrap64 (x6_1 + 1)), (by first | rfl | (simp; done) | (simp [*]; done)), (by first | rfl | (simp; done) | (simp [*]; done)), H', ⟨by have := HK1.out; omega⟩, by repeat (first | exact Drawn0.refl _ | apply Drawn0.step)⟩
                  · rw [if_neg c10] at H
                    exact absurd H (by simp)
                · rw [if_neg c9] at H
                  have c9b0 : ((a0.extract (x6_1 : Int).toNat ((wrap64 (x6_1 + 1)) : Int).toNat).toList == ([60] : List UInt8)) = false := beq_eq_false_iff_ne.mpr c9
                  have c9b1 : ((a0.extract (x6_1 : Int).toNat ((wrap64 (x6_1 + 1)) : Int).toNat).toList != ([60] : List UInt8)) = true := bne_iff_ne.mpr c9
                  by_cases c11 : (a0.extract (x6_1 : Int).toNat ((wrap64 (x6_1 + 1)) : Int).toNat).toList = ([13] : List UInt8)
                  · rw [if_pos c11] at H
                    have c11b0 : ((a0.extract (x6_1 : Int).toNat ((wrap64 (x6_1 + 1)) : Int).toNat).toList == ([13] : List UInt8)) = true := beq_iff_eq.mpr c11
                    have c11b1 : ((a0.extract (x6_1 : Int).toNat ((wrap64 (x6_1 + 1)) : Int).toNat).toList != ([13] : List UInt8)) = false := bne_eq_false_iff_eq.mpr c11
                    clear c11
                    by_cases c12 : x5_1.size + 5 ≤ 9223372036854775807
                    · rw [if_pos c12] at H
                      have c12b0 := eq_true c12
                      have c12b1 : decide (x5_1.size + 5 ≤ 9223372036854775807) = true := decide_eq_true c12
                      try have c12b2 : (9223372036854775807 < x5_1.size + 5) = False := eq_false (Nat.not_lt.2 c12)
                      have H' := Aside0.mk H
                      clear H
                      go_wp2
                      go_roundg k1
                      case measure => have := HK1.out; omega
                      case rel => exact ⟨(x5_1 ++ (⟨#[38, 35, 49, 51, 59]⟩ : ByteArray)), (wrap64 (x6_1 + 1)), (by first | rfl | (simp; done) | (simp [*]; done)), (by first | rfl | (simp; done) | (simp [*]; done)), H', ⟨by have := HK1.out; omega⟩, by repeat (first | exact Drawn0.refl _ | apply Drawn0.step)⟩
                    · rw [if_neg c12] at H
                      exact absurd H (by simp)
                  · rw [if_neg c11] at H
                    have c11b0 : ((a0.extract (x6_1 : Int).toNat ((wrap64 (x6_1 + 1)) : Int).toNat).toList == ([13] : List UInt8)) = false := beq_eq_false_iff_ne.mpr c11
                    have c11b1 : ((a0.extract (x6_1 : Int).toNat ((wrap64 (x6_1 + 1)) : Int).toNat).toList != ([13] : List UInt8)) = true := bne_iff_ne.mpr c11
                    have HC13 := Aside0.mk H
                    clear H
                    go_upto_region 12 with (fail)
                    go_cut [30] (fun v30 wc => ∃ (kq : Nat) (x30_12 : Bool), v30 = .bool x30_12 ∧ Aside0 (breviaryref05_Put.j1 kq a0 a1 x5_1 x6_1 (a0.extract (x6_1 : Int).toNat ((wrap64 (x6_1 + 1)) : Int).toNat) x30_12 = some r) ∧ Aside0 (kq ≤ k1) ∧ Drawn0 w wc)
                    case first =>
                      have H := HC13.out
                      clear HC13
                      by_cases c14 : (a0.extract (x6_1 : Int).toNat ((wrap64 (x6_1 + 1)) : Int).toNat).toList = ([62] : List UInt8)
                      · rw [if_pos c14] at H
                        have c14b0 : ((a0.extract (x6_1 : Int).toNat ((wrap64 (x6_1 + 1)) : Int).toNat).toList == ([62] : List UInt8)) = true := beq_iff_eq.mpr c14
                        have c14b1 : ((a0.extract (x6_1 : Int).toNat ((wrap64 (x6_1 + 1)) : Int).toNat).toList != ([62] : List UInt8)) = false := bne_eq_false_iff_eq.mpr c14
                        clear c14
                        (first | rw [c14b0] | (simp only [ ]; rw [c14b0]) | skip)
                        have H' := Aside0.mk H
                        clear H
                        go_wp2
                        go_meet
                        case rel => exact ⟨_, (!a1), (by first | rfl | (simp; done) | (simp [*]; done)), H', ⟨by have := HK1.out; first | omega | exact Nat.le_refl _⟩, by repeat (first | exact Drawn0.refl _ | apply Drawn0.step)⟩
                      · rw [if_neg c14] at H
                        have c14b0 : ((a0.extract (x6_1 : Int).toNat ((wrap64 (x6_1 + 1)) : Int).toNat).toList == ([62] : List UInt8)) = false := beq_eq_false_iff_ne.mpr c14
                        have c14b1 : ((a0.extract (x6_1 : Int).toNat ((wrap64 (x6_1 + 1)) : Int).toNat).toList != ([62] : List UInt8)) = true := bne_iff_ne.mpr c14
                        (first | rw [c14b0] | (simp only [ ]; rw [c14b0]) | skip)
                        have H' := Aside0.mk H
                        clear H
                        go_wp2
                        go_meet
                        case rel => exact ⟨_, (false), (by first | rfl | (simp; done) | (simp [*]; done)), H', ⟨by have := HK1.out; first | omega | exact Nat.le_refl _⟩, by repeat (first | exact Drawn0.refl _ | apply Drawn0.step)⟩
                    case rest =>
                      clear HC13
                      try clear c1
                      try clear p2
                      try clear c3
                      try clear c3b0
                      try clear c4
                      try clear c4b0
                      try clear c4b1
                      try clear c5
                      try clear c5b0
                      try clear c5b1
                      try clear c6
                      try clear c6b0
                      try clear c6b1
                      try clear p6
                      try clear c7
                      try clear c7b0
                      try clear c7b1
                      try clear c8
                      try clear c8b0
                      try clear c8b1
                      try clear c8b2
                      try clear c9
                      try clear c9b0
                      try clear c9b1
                      try clear c10
                      try clear c10b0
                      try clear c10b1
                      try clear c10b2
                      try clear c11
                      try clear c11b0
                      try clear c11b1
                      try clear c12
                      try clear c12b0
                      try clear c12b1
                      try clear c12b2
                      try clear c14
                      try clear c14b0
                      try clear c14b1
                      try clear p2
                      obtain ⟨kq, x30_12, rfl, HA, HJ12, ⟨mc12, rfl⟩⟩ := hcut
                      cases kq with
                      | zero => exact absurd HA.out (by simp [breviaryref05_Put.j1])
                      | succ kj12 =>
                        have H := HA.out
                        clear HA
                        simp only [breviaryref05_Put.j1] at H
                        by_cases c15 : x30_12 = true
                        · subst c15
                          have H1 : (if x5_1.size + 4 ≤ 9223372036854775807 then (breviaryref05_Put.l0 kj12 a0 a1 (x5_1 ++ (⟨#[38, 103, 116, 59]⟩ : ByteArray)) (wrap64 (x6_1 + 1))) else (none)) = some r := by rw [if_pos rfl] at H; exact H
                          clear H
                          have H := H1
                          clear H1
                          by_cases c16 : x5_1.size + 4 ≤ 9223372036854775807
                          · rw [if_pos c16] at H
                            have c16b0 := eq_true c16
                            have c16b1 : decide (x5_1.size + 4 ≤ 9223372036854775807) = true := decide_eq_true c16
                            try have c16b2 : (9223372036854775807 < x5_1.size + 4) = False := eq_false (Nat.not_lt.2 c16)
                            have H' := Aside0.mk H
                            clear H
                            go_wp2
                            go_roundg kj12
                            case measure => have := HK1.out; have := HJ12.out; omega
                            case rel => exact ⟨(x5_1 ++ (⟨#[38, 103, 116, 59]⟩ : ByteArray)), (wrap64 (x6_1 + 1)), (by first | rfl | (simp; done) | (simp [*]; done)), (by first | rfl | (simp; done) | (simp [*]; done)), H', ⟨by have := HK1.out; have := HJ12.out; omega⟩, by repeat (first | exact Drawn0.refl _ | apply Drawn0.step)⟩
                          · rw [if_neg c16] at H
                            exact absurd H (by simp)
                        · replace c15 := Bool.eq_false_iff.mpr c15
                          subst c15
                          have H1 : (if (a0.extract (x6_1 : Int).toNat ((wrap64 (x6_1 + 1)) : Int).toNat).toList = ([34] : List UInt8) then (breviaryref05_Put.j2 kj12 a0 a1 x5_1 x6_1 (a0.extract (x6_1 : Int).toNat ((wrap64 (x6_1 + 1)) : Int).toNat) a1) else (breviaryref05_Put.j2 kj12 a0 a1 x5_1 x6_1 (a0.extract (x6_1 : Int).toNat ((wrap64 (x6_1 + 1)) : Int).toNat) false)) = some r := by rw [if_neg (show ¬ (false = true) by decide)] at H; exact H
                          clear H
                          have H := H1
                          clear H1
                          have HC17 := Aside0.mk H
                          clear H
                          go_upto_region 14 with (fail)
                          go_cut [35] (fun v35 wc => ∃ (kq : Nat) (x35_16 : Bool), v35 = .bool x35_16 ∧ Aside0 (breviaryref05_Put.j2 kq a0 a1 x5_1 x6_1 (a0.extract (x6_1 : Int).toNat ((wrap64 (x6_1 + 1)) : Int).toNat) x35_16 = some r) ∧ Aside0 (kq ≤ kj12) ∧ Drawn0 w wc)
                          case first =>
                            have H := HC17.out
                            clear HC17
                            by_cases c18 : (a0.extract (x6_1 : Int).toNat ((wrap64 (x6_1 + 1)) : Int).toNat).toList = ([34] : List UInt8)
                            · rw [if_pos c18] at H
                              have c18b0 : ((a0.extract (x6_1 : Int).toNat ((wrap64 (x6_1 + 1)) : Int).toNat).toList == ([34] : List UInt8)) = true := beq_iff_eq.mpr c18
                              have c18b1 : ((a0.extract (x6_1 : Int).toNat ((wrap64 (x6_1 + 1)) : Int).toNat).toList != ([34] : List UInt8)) = false := bne_eq_false_iff_eq.mpr c18
                              clear c18
                              (first | rw [c18b0] | (simp only [ ]; rw [c18b0]) | skip)
                              have H' := Aside0.mk H
                              clear H
                              go_wp2
                              go_meet
                              case rel => exact ⟨_, (a1), (by first | rfl | (simp; done) | (simp [*]; done)), H', ⟨by have := HK1.out; have := HJ12.out; first | omega | exact Nat.le_refl _⟩, by repeat (first | exact Drawn0.refl _ | apply Drawn0.step)⟩
                            · rw [if_neg c18] at H
                              have c18b0 : ((a0.extract (x6_1 : Int).toNat ((wrap64 (x6_1 + 1)) : Int).toNat).toList == ([34] : List UInt8)) = false := beq_eq_false_iff_ne.mpr c18
                              have c18b1 : ((a0.extract (x6_1 : Int).toNat ((wrap64 (x6_1 + 1)) : Int).toNat).toList != ([34] : List UInt8)) = true := bne_iff_ne.mpr c18
                              (first | rw [c18b0] | (simp only [ ]; rw [c18b0]) | skip)
                              have H' := Aside0.mk H
                              clear H
                              go_wp2
                              go_meet
                              case rel => exact ⟨_, (false), (by first | rfl | (simp; done) | (simp [*]; done)), H', ⟨by have := HK1.out; have := HJ12.out; first | omega | exact Nat.le_refl _⟩, by repeat (first | exact Drawn0.refl _ | apply Drawn0.step)⟩
                          case rest =>
                            clear HC17
                            try clear c1
                            try clear p2
                            try clear c3
                            try clear c3b0
                            try clear c4
                            try clear c4b0
                            try clear c4b1
                            try clear c5
                            try clear c5b0
                            try clear c5b1
                            try clear c6
                            try clear c6b0
                            try clear c6b1
                            try clear p6
                            try clear c7
                            try clear c7b0
                            try clear c7b1
                            try clear c8
                            try clear c8b0
                            try clear c8b1
                            try clear c8b2
                            try clear c9
                            try clear c9b0
                            try clear c9b1
                            try clear c10
                            try clear c10b0
                            try clear c10b1
                            try clear c10b2
                            try clear c11
                            try clear c11b0
                            try clear c11b1
                            try clear c12
                            try clear c12b0
                            try clear c12b1
                            try clear c12b2
                            try clear c14
                            try clear c14b0
                            try clear c14b1
                            try clear c15
                            try clear c16
                            try clear c16b0
                            try clear c16b1
                            try clear c16b2
                            try clear c18
                            try clear c18b0
                            try clear c18b1
                            try clear p2
                            try clear p6
                            obtain ⟨kq, x35_16, rfl, HA, HJ16, ⟨mc16, rfl⟩⟩ := hcut
                            cases kq with
                            | zero => exact absurd HA.out (by simp [breviaryref05_Put.j2])
                            | succ kj16 =>
                              have H := HA.out
                              clear HA
                              simp only [breviaryref05_Put.j2] at H
                              by_cases c19 : x35_16 = true
                              · subst c19
                                have H1 : (if x5_1.size + 6 ≤ 9223372036854775807 then (breviaryref05_Put.l0 kj16 a0 a1 (x5_1 ++ (⟨#[38, 113, 117, 111, 116, 59]⟩ : ByteArray)) (wrap64 (x6_1 + 1))) else (none)) = some r := by rw [if_pos rfl] at H; exact H
                                clear H
                                have H := H1
                                clear H1
                                by_cases c20 : x5_1.size + 6 ≤ 9223372036854775807
                                · rw [if_pos c20] at H
                                  have c20b0 := eq_true c20
                                  have c20b1 : decide (x5_1.size + 6 ≤ 9223372036854775807) = true := decide_eq_true c20
                                  try have c20b2 : (9223372036854775807 < x5_1.size + 6) = False := eq_false (Nat.not_lt.2 c20)
                                  have H' := Aside0.mk H
                                  clear H
                                  go_wp2
                                  go_roundg kj16
                                  case measure => have := HK1.out; have := HJ12.out; have := HJ16.out; omega
                                  case rel => exact ⟨(x5_1 ++ (⟨#[38, 113, 117, 111, 116, 59]⟩ : ByteArray)), (wrap64 (x6_1 + 1)), (by first | rfl | (simp; done) | (simp [*]; done)), (by first | rfl | (simp; done) | (simp [*]; done)), H', ⟨by have := HK1.out; have := HJ12.out; have := HJ16.out; omega⟩, by repeat (first | exact Drawn0.refl _ | apply Drawn0.step)⟩
                                · rw [if_neg c20] at H
                                  exact absurd H (by simp)
                              · replace c19 := Bool.eq_false_iff.mpr c19
                                subst c19
                                have H1 : (if (a0.extract (x6_1 : Int).toNat ((wrap64 (x6_1 + 1)) : Int).toNat).toList = ([9] : List UInt8) then (breviaryref05_Put.j3 kj16 a0 a1 x5_1 x6_1 (a0.extract (x6_1 : Int).toNat ((wrap64 (x6_1 + 1)) : Int).toNat) a1) else (breviaryref05_Put.j3 kj16 a0 a1 x5_1 x6_1 (a0.extract (x6_1 : Int).toNat ((wrap64 (x6_1 + 1)) : Int).toNat) false)) = some r := by rw [if_neg (show ¬ (false = true) by decide)] at H; exact H
                                clear H
                                have H := H1
                                clear H1
                                have HC21 := Aside0.mk H
                                clear H
                                go_upto_region 16 with (fail)
                                go_cut [40] (fun v40 wc => ∃ (kq : Nat) (x40_20 : Bool), v40 = .bool x40_20 ∧ Aside0 (breviaryref05_Put.j3 kq a0 a1 x5_1 x6_1 (a0.extract (x6_1 : Int).toNat ((wrap64 (x6_1 + 1)) : Int).toNat) x40_20 = some r) ∧ Aside0 (kq ≤ kj16) ∧ Drawn0 w wc)
                                case first =>
                                  have H := HC21.out
                                  clear HC21
                                  by_cases c22 : (a0.extract (x6_1 : Int).toNat ((wrap64 (x6_1 + 1)) : Int).toNat).toList = ([9] : List UInt8)
                                  · rw [if_pos c22] at H
                                    have c22b0 : ((a0.extract (x6_1 : Int).toNat ((wrap64 (x6_1 + 1)) : Int).toNat).toList == ([9] : List UInt8)) = true := beq_iff_eq.mpr c22
                                    have c22b1 : ((a0.extract (x6_1 : Int).toNat ((wrap64 (x6_1 + 1)) : Int).toNat).toList != ([9] : List UInt8)) = false := bne_eq_false_iff_eq.mpr c22
                                    clear c22
                                    (first | rw [c22b0] | (simp only [ ]; rw [c22b0]) | skip)
                                    have H' := Aside0.mk H
                                    clear H
                                    go_wp2
                                    go_meet
                                    case rel => exact ⟨_, (a1), (by first | rfl | (simp; done) | (simp [*]; done)), H', ⟨by have := HK1.out; have := HJ12.out; have := HJ16.out; first | omega | exact Nat.le_refl _⟩, by repeat (first | exact Drawn0.refl _ | apply Drawn0.step)⟩
                                  · rw [if_neg c22] at H
                                    have c22b0 : ((a0.extract (x6_1 : Int).toNat ((wrap64 (x6_1 + 1)) : Int).toNat).toList == ([9] : List UInt8)) = false := beq_eq_false_iff_ne.mpr c22
                                    have c22b1 : ((a0.extract (x6_1 : Int).toNat ((wrap64 (x6_1 + 1)) : Int).toNat).toList != ([9] : List UInt8)) = true := bne_iff_ne.mpr c22
                                    (first | rw [c22b0] | (simp only [ ]; rw [c22b0]) | skip)
                                    have H' := Aside0.mk H
                                    clear H
                                    go_wp2
                                    go_meet
                                    case rel => exact ⟨_, (false), (by first | rfl | (simp; done) | (simp [*]; done)), H', ⟨by have := HK1.out; have := HJ12.out; have := HJ16.out; first | omega | exact Nat.le_refl _⟩, by repeat (first | exact Drawn0.refl _ | apply Drawn0.step)⟩
                                case rest =>
                                  clear HC21
                                  try clear c1
                                  try clear c2
                                  try clear p2
                                  try clear c3
                                  try clear c3b0
                                  try clear c4
                                  try clear c4b0
                                  try clear c4b1
                                  try clear c5
                                  try clear c5b0
                                  try clear c5b1
                                  try clear c6
                                  try clear c6b0
                                  try clear c6b1
                                  try clear p6
                                  try clear c7
                                  try clear c7b0
                                  try clear c7b1
                                  try clear c8
                                  try clear c8b0
                                  try clear c8b1
                                  try clear c8b2
                                  try clear c9
                                  try clear c9b0
                                  try clear c9b1
                                  try clear c10
                                  try clear c10b0
                                  try clear c10b1
                                  try clear c10b2
                                  try clear c11
                                  try clear c11b0
                                  try clear c11b1
                                  try clear c12
                                  try clear c12b0
                                  try clear c12b1
                                  try clear c12b2
                                  try clear c14
                                  try clear c14b0
                                  try clear c14b1
                                  try clear c15
                                  try clear c16
                                  try clear c16b0
                                  try clear c16b1
                                  try clear c16b2
                                  try clear c18
                                  try clear c18b0
                                  try clear c18b1
                                  try clear c19
                                  try clear c20
                                  try clear c20b0
                                  try clear c20b1
                                  try clear c20b2
                                  try clear c22
                                  try clear c22b0
                                  try clear c22b1
                                  try clear p2
                                  try clear p6
                                  obtain ⟨kq, x40_20, rfl, HA, HJ20, ⟨mc20, rfl⟩⟩ := hcut
                                  cases kq with
                                  | zero => exact absurd HA.out (by simp [breviaryref05_Put.j3])
                                  | succ kj20 =>
                                    have H := HA.out
                                    clear HA
                                    simp only [breviaryref05_Put.j3] at H
                                    by_cases c23 : x40_20 = true
                                    · subst c23
                                      have H1 : (if x5_1.size + 4 ≤ 9223372036854775807 then (breviaryref05_Put.l0 kj20 a0 a1 (x5_1 ++ (⟨#[38, 35, 57, 59]⟩ : ByteArray)) (wrap64 (x6_1 + 1))) else (none)) = some r := by rw [if_pos rfl] at H; exact H
                                      clear H
                                      have H := H1
                                      clear H1
                                      by_cases c24 : x5_1.size + 4 ≤ 9223372036854775807
                                      · rw [if_pos c24] at H
                                        have c24b0 := eq_true c24
                                        have c24b1 : decide (x5_1.size + 4 ≤ 9223372036854775807) = true := decide_eq_true c24
                                        try have c24b2 : (9223372036854775807 < x5_1.size + 4) = False := eq_false (Nat.not_lt.2 c24)
                                        have H' := Aside0.mk H
                                        clear H
                                        go_wp2
                                        go_roundg kj20
                                        case measure => have := HK1.out; have := HJ12.out; have := HJ16.out; have := HJ20.out; omega
                                        case rel => exact ⟨(x5_1 ++ (⟨#[38, 35, 57, 59]⟩ : ByteArray)), (wrap64 (x6_1 + 1)), (by first | rfl | (simp; done) | (simp [*]; done)), (by first | rfl | (simp; done) | (simp [*]; done)), H', ⟨by have := HK1.out; have := HJ12.out; have := HJ16.out; have := HJ20.out; omega⟩, by repeat (first | exact Drawn0.refl _ | apply Drawn0.step)⟩
                                      · rw [if_neg c24] at H
                                        exact absurd H (by simp)
                                    · replace c23 := Bool.eq_false_iff.mpr c23
                                      subst c23
                                      have H1 : (if (a0.extract (x6_1 : Int).toNat ((wrap64 (x6_1 + 1)) : Int).toNat).toList = ([10] : List UInt8) then (if a1 = true then (if x5_1.size + 5 ≤ 9223372036854775807 then (breviaryref05_Put.l0 kj20 a0 a1 (x5_1 ++ (⟨#[38, 35, 49, 48, 59]⟩ : ByteArray)) (wrap64 (x6_1 + 1))) else (none)) else (if x5_1.size + (a0.extract (x6_1 : Int).toNat ((wrap64 (x6_1 + 1)) : Int).toNat).size ≤ 9223372036854775807 then (breviaryref05_Put.l0 kj20 a0 a1 (x5_1 ++ (a0.extract (x6_1 : Int).toNat ((wrap64 (x6_1 + 1)) : Int).toNat)) (wrap64 (x6_1 + 1))) else (none))) else (if x5_1.size + (a0.extract (x6_1 : Int).toNat ((wrap64 (x6_1 + 1)) : Int).toNat).size ≤ 9223372036854775807 then (breviaryref05_Put.l0 kj20 a0 a1 (x5_1 ++ (a0.extract (x6_1 : Int).toNat ((wrap64 (x6_1 + 1)) : Int).toNat)) (wrap64 (x6_1 + 1))) else (none))) = some r := by rw [if_neg (show ¬ (false = true) by decide)] at H; exact H
                                      clear H
                                      have H := H1
                                      clear H1
                                      by_cases c25 : (a0.extract (x6_1 : Int).toNat ((wrap64 (x6_1 + 1)) : Int).toNat).toList = ([10] : List UInt8)
                                      · rw [if_pos c25] at H
                                        have c25b0 : ((a0.extract (x6_1 : Int).toNat ((wrap64 (x6_1 + 1)) : Int).toNat).toList == ([10] : List UInt8)) = true := beq_iff_eq.mpr c25
                                        have c25b1 : ((a0.extract (x6_1 : Int).toNat ((wrap64 (x6_1 + 1)) : Int).toNat).toList != ([10] : List UInt8)) = false := bne_eq_false_iff_eq.mpr c25
                                        clear c25
                                        by_cases c26 : a1 = true
                                        · subst c26
                                          have H1 : (if x5_1.size + 5 ≤ 9223372036854775807 then (breviaryref05_Put.l0 kj20 a0 true (x5_1 ++ (⟨#[38, 35, 49, 48, 59]⟩ : ByteArray)) (wrap64 (x6_1 + 1))) else (none)) = some r := by rw [if_pos rfl] at H; exact H
                                          clear H
                                          have H := H1
                                          clear H1
                                          by_cases c27 : x5_1.size + 5 ≤ 9223372036854775807
                                          · rw [if_pos c27] at H
                                            have c27b0 := eq_true c27
                                            have c27b1 : decide (x5_1.size + 5 ≤ 9223372036854775807) = true := decide_eq_true c27
                                            try have c27b2 : (9223372036854775807 < x5_1.size + 5) = False := eq_false (Nat.not_lt.2 c27)
                                            have H' := Aside0.mk H
                                            clear H
                                            go_wp2
                                            go_roundg kj20
                                            case measure => have := HK1.out; have := HJ12.out; have := HJ16.out; have := HJ20.out; omega
                                            case rel => exact ⟨(x5_1 ++ (⟨#[38, 35, 49, 48, 59]⟩ : ByteArray)), (wrap64 (x6_1 + 1)), (by first | rfl | (simp; done) | (simp [*]; done)), (by first | rfl | (simp; done) | (simp [*]; done)), H', ⟨by have := HK1.out; have := HJ12.out; have := HJ16.out; have := HJ20.out; omega⟩, by repeat (first | exact Drawn0.refl _ | apply Drawn0.step)⟩
                                          · rw [if_neg c27] at H
                                            exact absurd H (by simp)
                                        · replace c26 := Bool.eq_false_iff.mpr c26
                                          subst c26
                                          have H1 : (if x5_1.size + (a0.extract (x6_1 : Int).toNat ((wrap64 (x6_1 + 1)) : Int).toNat).size ≤ 9223372036854775807 then (breviaryref05_Put.l0 kj20 a0 false (x5_1 ++ (a0.extract (x6_1 : Int).toNat ((wrap64 (x6_1 + 1)) : Int).toNat)) (wrap64 (x6_1 + 1))) else (none)) = some r := by rw [if_neg (show ¬ (false = true) by decide)] at H; exact H
                                          clear H
                                          have H := H1
                                          clear H1
                                          by_cases c28 : x5_1.size + (a0.extract (x6_1 : Int).toNat ((wrap64 (x6_1 + 1)) : Int).toNat).size ≤ 9223372036854775807
                                          · rw [if_pos c28] at H
                                            have c28b0 := eq_true c28
                                            have c28b1 : decide (x5_1.size + (a0.extract (x6_1 : Int).toNat ((wrap64 (x6_1 + 1)) : Int).toNat).size ≤ 9223372036854775807) = true := decide_eq_true c28
                                            try have c28b2 : (9223372036854775807 < x5_1.size + (a0.extract (x6_1 : Int).toNat ((wrap64 (x6_1 + 1)) : Int).toNat).size) = False := eq_false (Nat.not_lt.2 c28)
                                            have H' := Aside0.mk H
                                            clear H
                                            go_wp2
                                            go_roundg kj20
                                            case measure => have := HK1.out; have := HJ12.out; have := HJ16.out; have := HJ20.out; omega
                                            case rel => exact ⟨(x5_1 ++ (a0.extract (x6_1 : Int).toNat ((wrap64 (x6_1 + 1)) : Int).toNat)), (wrap64 (x6_1 + 1)), (by first | rfl | (simp; done) | (simp [*]; done)), (by first | rfl | (simp; done) | (simp [*]; done)), H', ⟨by have := HK1.out; have := HJ12.out; have := HJ16.out; have := HJ20.out; omega⟩, by repeat (first | exact Drawn0.refl _ | apply Drawn0.step)⟩
                                          · rw [if_neg c28] at H
                                            exact absurd H (by simp)
                                      · rw [if_neg c25] at H
                                        have c25b0 : ((a0.extract (x6_1 : Int).toNat ((wrap64 (x6_1 + 1)) : Int).toNat).toList == ([10] : List UInt8)) = false := beq_eq_false_iff_ne.mpr c25
                                        have c25b1 : ((a0.extract (x6_1 : Int).toNat ((wrap64 (x6_1 + 1)) : Int).toNat).toList != ([10] : List UInt8)) = true := bne_iff_ne.mpr c25
                                        by_cases c29 : x5_1.size + (a0.extract (x6_1 : Int).toNat ((wrap64 (x6_1 + 1)) : Int).toNat).size ≤ 9223372036854775807
                                        · rw [if_pos c29] at H
                                          have c29b0 := eq_true c29
                                          have c29b1 : decide (x5_1.size + (a0.extract (x6_1 : Int).toNat ((wrap64 (x6_1 + 1)) : Int).toNat).size ≤ 9223372036854775807) = true := decide_eq_true c29
                                          try have c29b2 : (9223372036854775807 < x5_1.size + (a0.extract (x6_1 : Int).toNat ((wrap64 (x6_1 + 1)) : Int).toNat).size) = False := eq_false (Nat.not_lt.2 c29)
                                          have H' := Aside0.mk H
                                          clear H
                                          go_wp2
                                          go_roundg kj20
                                          case measure => have := HK1.out; have := HJ12.out; have := HJ16.out; have := HJ20.out; omega
                                          case rel => exact ⟨(x5_1 ++ (a0.extract (x6_1 : Int).toNat ((wrap64 (x6_1 + 1)) : Int).toNat)), (wrap64 (x6_1 + 1)), (by first | rfl | (simp; done) | (simp [*]; done)), (by first | rfl | (simp; done) | (simp [*]; done)), H', ⟨by have := HK1.out; have := HJ12.out; have := HJ16.out; have := HJ20.out; omega⟩, by repeat (first | exact Drawn0.refl _ | apply Drawn0.step)⟩
                                        · rw [if_neg c29] at H
                                          exact absurd H (by simp)
            · rw [if_neg c6] at H
              exact absurd H (by simp)
          · rw [if_neg c5] at H
            exact absurd H (by simp)
        · rw [if_neg c4] at H
          exact absurd H (by simp)
      · rw [if_neg c3] at H
        have c3b0 : decide (x6_1 < (a0.size : Int)) = false := decide_eq_false c3
        clear c3
        obtain rfl := Option.some.inj H
        go_wp2
        go_ret
        exact ⟨by first | rfl | (simp; done) | (simp [*]; done), by repeat (first | exact Drawn0.refl _ | apply Drawn0.step)⟩

end Go.Proofs.YticpobgkbapdmaaDoor.PR1
