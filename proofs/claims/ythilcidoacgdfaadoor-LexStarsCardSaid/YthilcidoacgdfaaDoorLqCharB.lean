/- char.Blank, Text, Name: ranges over a string. -/
import Derived.Test.YthilcidoacgdfaaDoorLqCharA
import Derived.Test.YthilcidoacgdfaaDoorLqPFx1
import Derived.Test.YthilcidoacgdfaaDoorLqPFx2
import Derived.Test.YthilcidoacgdfaaDoorLqPFx3
import Derived.Test.YthilcidoacgdfaaDoorLqPFx4
import Derived.Test.YthilcidoacgdfaaDoorLqPFx5
import Derived.Test.YthilcidoacgdfaaDoorLqPFx6
import Derived.Test.YthilcidoacgdfaaDoorLqPFx7
import Derived.Test.YthilcidoacgdfaaDoorLqShelfV
import Derived.Lib.OthersKept
import Derived.Lib.ValidU
namespace Go.Proofs.YthilcidoacgdfaaDoor.CharA
end Go.Proofs.YthilcidoacgdfaaDoor.CharA
namespace Go.Proofs.YthilcidoacgdfaaDoorW.PrintLast
end Go.Proofs.YthilcidoacgdfaaDoorW.PrintLast
namespace Go.Proofs.YthilcidoacgdfaaDoorW.PrintMore
end Go.Proofs.YthilcidoacgdfaaDoorW.PrintMore
namespace Go.Proofs.YthilcidoacgdfaaDoorW.PrintWords
end Go.Proofs.YthilcidoacgdfaaDoorW.PrintWords
namespace Go.Proofs.YthilcidoacgdfaaDoor.CharB
open Go.RowKit Go.Proofs.YthilcidoacgdfaaDoorW.PrintWords Go.Proofs.YthilcidoacgdfaaDoorW.PrintLast Go.Proofs.YthilcidoacgdfaaDoorW.PrintMore Go.Proofs.YthilcidoacgdfaaDoor.CharA
set_option linter.unusedVariables false
set_option linter.unusedSimpArgs false
def spaceB (a : Int) : Bool := a == 32 || a == 9 || a == 10 || a == 13
theorem space_calls (a0 : Int) (w : World) : Calls Tryd.prog 36 #[.int .i32 a0] w fun e w' => e = .returned (.bool (spaceB a0)) ∧ Drawn0 w w' :=
  PF.char_Space.calls a0 _ w (by unfold PF.char_Space.f spaceB; by_cases h1 : a0 = 32 <;> by_cases h2 : a0 = 9 <;> by_cases h3 : a0 = 10 <;> simp [h1, h2, h3])
/-- All characters of a string, from a byte on. -/
def allR (p : Int → Bool) (s : ByteArray) : Nat → Nat → Bool
  | 0, _ => true
  | n + 1, pos => if pos < s.size then (if p (Utf8.decode s pos).1 then allR p s n (pos + (Utf8.decode s pos).2) else false) else true
theorem width_pos (s : ByteArray) (pos : Nat) (h : pos < s.size) : 1 ≤ (Utf8.decode s pos).2 := by
  by_cases ha : (s[pos]'h).toNat < 128
  · rw [decode_ascii s pos h ha]
    exact Nat.le_refl _
  · exact (decode_high s pos h (by omega)).2
theorem allR_end (p : Int → Bool) (s : ByteArray) (b pos : Nat) (h : ¬ pos < s.size) : allR p s b pos = true := by
  cases b with
  | zero => rfl
  | succ b => simp [allR, h]
theorem below_drewN {B : Nat} {w w' : World} (h : Below B w w') (m : Nat) : Below B w (w'.drewN m) := ⟨h.1, h.2, h.3, h.4, h.5⟩
def textB (s : ByteArray) : Bool := Lib.validD s.data.toList && allR isB s s.size 0
set_option maxHeartbeats 8000000 in
set_option maxRecDepth 100000 in
theorem text_calls (s : ByteArray) (w : World) (hs : s.size ≤ 9223372036854775807) (hT : Lib.Utf8Tabs 2 3 w) : Calls Tryd.prog 41 #[.string s] w fun e w' => e = .returned (.bool (textB s)) ∧ Below w.heap.size w w' := by
  have cV := Tryd.utf8_ValidString s w hs hT
  clear hT
  obtain ⟨r, hr⟩ : ∃ r, allR isB s s.size 0 = r := ⟨_, rfl⟩
  unfold textB
  rw [hr]
  have H := Aside0.mk hr
  clear hr
  have hr0 := Below.refl w.heap.size w
  generalize Lib.validD s.data.toList = V at cV ⊢
  cases V with
  | false =>
    go_enter Tryd.func41, Tryd.ntmps41
    go_wp2_with (go_at_call 88; refine cV.mono ?_; rintro e w1 ⟨rfl, hb⟩)
    go_ret
    exact ⟨rfl, hb⟩
  | true =>
    go_enter Tryd.func41, Tryd.ntmps41
    go_wp2_with (go_at_call 88; refine cV.mono ?_; rintro e w1 ⟨rfl, hb⟩)
    have HZ := Aside0.mk hb.size
    have HW := Aside0.mk (below_alloc hb (.stringIter s 0))
    clear hb
    clear cV
    go_loopg [] s.size (fun kq w' => ∃ pos, Aside0 (allR isB s kq pos = r) ∧ Aside0 (kq ≤ s.size) ∧ Aside0 (s.size ≤ pos + kq) ∧ Aside0 (w'.heap[w1.heap.size]? = some (.stringIter s pos)) ∧ Aside0 (Below w.heap.size w w'))
    case atStart => exact ⟨0, H, ⟨by omega⟩, ⟨by omega⟩, ⟨by rw [World.iter_heap]⟩, HW⟩
    case round =>
      obtain ⟨pos, HA, HK, HP, HI, HB⟩ := hrel
      by_cases hp : pos < s.size
      · cases gk with
        | zero => have := HP.out; omega
        | succ k1 =>
          have hnx : ∀ ty, (Instr.next (.pointer (some ⟨w1.heap.size, 0, none⟩)) true ty).run Tryd.prog wr = _ := fun ty => Lib.run_next_any_at wr w1.heap.size s pos ty HI.out hp
          have ha := HA.out
          have hwd := width_pos s pos hp
          simp only [allR, if_pos hp] at ha
          generalize (Utf8.decode s pos).1 = q at hnx ha
          generalize hd2 : (Utf8.decode s pos).2 = q2 at hnx ha hwd
          have hI : (wr.iterAt w1.heap.size s (pos + q2)).heap[w1.heap.size]? = some (.stringIter s (pos + q2)) := Lib.iterAt_heap wr _ s pos _ HI.out
          have hB : Below w.heap.size w (wr.iterAt w1.heap.size s (pos + q2)) := Lib.below_iterAt HB.out HZ.out s _
          have S := is_calls (q : Int)
          cases hs : isB q with
          | false =>
            rw [hs] at ha S
            simp at ha
            subst ha
            go_wp2_with (go_at_call 89; refine (S _).mono ?_; rintro e w' ⟨rfl, hb1⟩)
            go_ret
            exact ⟨rfl, hB.trans (hb1.mono hB.size)⟩
          | true =>
            rw [hs] at ha S
            simp at ha
            have ha' := Aside0.mk ha
            have hp' : Aside0 (s.size ≤ pos + q2 + k1) := ⟨by have := HP.out; omega⟩
            go_wp2_with (go_at_call 89; refine (S _).mono ?_; rintro e w' ⟨rfl, hb1⟩)
            go_roundg k1
            case measure => have := HK.out; omega
            case rel => exact ⟨pos + q2, ha', ⟨by have := HK.out; omega⟩, hp', ⟨blk_below hI hb1⟩, ⟨hB.trans (hb1.mono hB.size)⟩⟩
      · have hnx : ∀ ty, (Instr.next (.pointer (some ⟨w1.heap.size, 0, none⟩)) true ty).run Tryd.prog wr = _ := fun ty => Lib.run_next_end_at wr w1.heap.size s pos ty HI.out hp
        have ha := HA.out
        rw [allR_end _ _ _ _ hp] at ha
        subst ha
        go_wp2
        go_ret
        exact ⟨rfl, HB.out⟩
def nameR (s : ByteArray) : Nat → Nat → Bool
  | 0, _ => true
  | n + 1, pos => if pos < s.size then (if pos = 0 ∧ startB (Utf8.decode s pos).1 = false then false else if partB (Utf8.decode s pos).1 then nameR s n (pos + (Utf8.decode s pos).2) else false) else true
theorem nameR_end (s : ByteArray) (b pos : Nat) (h : ¬ pos < s.size) : nameR s b pos = true := by
  cases b with
  | zero => rfl
  | succ b => simp [nameR, h]
def nameB (s : ByteArray) : Bool := if s.size < 1 then false else if 32 < s.size then false else textB s && nameR s s.size 0
set_option maxHeartbeats 8000000 in
set_option maxRecDepth 100000 in
theorem name_calls (s : ByteArray) (w : World) (hT : Lib.Utf8Tabs 2 3 w) : Calls Tryd.prog 96 #[.string s] w fun e w' => e = .returned (.bool (nameB s)) ∧ Below w.heap.size w w' := by
  have hr0 := Below.refl w.heap.size w
  unfold nameB
  by_cases c1 : s.size < 1
  · rw [if_pos c1]
    have c1b : decide ((s.size : Int) < 1) = true := by simp; omega
    go_enter Tryd.func96, Tryd.ntmps96
    go_wp2_with fail
    go_ret
    exact ⟨rfl, hr0⟩
  rw [if_neg c1]
  have c1b : decide ((s.size : Int) < 1) = false := by simp; omega
  by_cases c2 : 32 < s.size
  · rw [if_pos c2]
    have c2b : decide ((32 : Int) < (s.size : Int)) = true := by simp; omega
    go_enter Tryd.func96, Tryd.ntmps96
    go_wp2_with fail
    go_ret
    exact ⟨rfl, hr0⟩
  rw [if_neg c2]
  have c2b : decide ((32 : Int) < (s.size : Int)) = false := by simp; omega
  have cV := text_calls s w (by omega) hT
  clear hT
  obtain ⟨r, hr⟩ : ∃ r, nameR s s.size 0 = r := ⟨_, rfl⟩
  rw [hr]
  have H := Aside0.mk hr
  clear hr
  generalize textB s = V at cV ⊢
  have CS := Aside0.mk c2
  clear c1 c2
  cases V with
  | false =>
    go_enter Tryd.func96, Tryd.ntmps96
    go_wp2_with (go_at_call 41; refine cV.mono ?_; rintro e w1 ⟨rfl, hb⟩)
    go_ret
    exact ⟨rfl, hb⟩
  | true =>
    go_enter Tryd.func96, Tryd.ntmps96
    go_wp2_with (go_at_call 41; refine cV.mono ?_; rintro e w1 ⟨rfl, hb⟩)
    have HZ := Aside0.mk hb.size
    have HW := Aside0.mk (below_alloc hb (.stringIter s 0))
    clear hb
    clear cV
    go_loopg [] s.size (fun kq w' => ∃ pos, Aside0 (nameR s kq pos = r) ∧ Aside0 (kq ≤ s.size) ∧ Aside0 (s.size ≤ pos + kq) ∧ Aside0 (w'.heap[w1.heap.size]? = some (.stringIter s pos)) ∧ Aside0 (Below w.heap.size w w'))
    case atStart => exact ⟨0, H, ⟨by omega⟩, ⟨by omega⟩, ⟨by rw [World.iter_heap]⟩, HW⟩
    case round =>
      obtain ⟨pos, HA, HK, HP, HI, HB⟩ := hrel
      by_cases hp : pos < s.size
      · cases gk with
        | zero => have := HP.out; omega
        | succ k1 =>
          have hnx : ∀ ty, (Instr.next (.pointer (some ⟨w1.heap.size, 0, none⟩)) true ty).run Tryd.prog wr = _ := fun ty => Lib.run_next_any_at wr w1.heap.size s pos ty HI.out hp
          have ha := HA.out
          have hwd := width_pos s pos hp
          simp only [nameR, if_pos hp] at ha
          generalize (Utf8.decode s pos).1 = q at hnx ha
          generalize hd2 : (Utf8.decode s pos).2 = q2 at hnx ha hwd
          have hI : (wr.iterAt w1.heap.size s (pos + q2)).heap[w1.heap.size]? = some (.stringIter s (pos + q2)) := Lib.iterAt_heap wr _ s pos _ HI.out
          have hB : Below w.heap.size w (wr.iterAt w1.heap.size s (pos + q2)) := Lib.below_iterAt HB.out HZ.out s _
          have hp' : Aside0 (s.size ≤ pos + q2 + k1) := ⟨by have := HP.out; omega⟩
          have S1 := start_calls (q : Int)
          have S2 := part_calls (q : Int)
          have HI' := Aside0.mk hI
          have HB' := Aside0.mk hB
          clear hI hB
          by_cases h0 : pos = 0
          · have h0b : ((pos : Int) == 0) = true := by simp [h0]
            cases hs : startB q with
            | false =>
              rw [hs] at ha S1
              rw [if_pos ⟨h0, rfl⟩] at ha
              subst ha
              clear h0
              go_wp2_with (go_at_call 115; refine (S1 _).mono ?_; rintro e w2 ⟨rfl, hb1⟩)
              go_ret
              exact ⟨rfl, HB'.out.trans (hb1.mono HB'.out.size)⟩
            | true =>
              rw [hs] at ha S1
              rw [if_neg (by simp)] at ha
              clear h0
              cases hs2 : partB q with
              | false =>
                rw [hs2] at ha S2
                simp at ha
                subst ha
                go_wp2_with (first | (go_at_call 115; refine (S1 _).mono ?_; rintro e w2 ⟨rfl, hb1⟩) | (go_at_call 114; refine (S2 _).mono ?_; rintro e w3 ⟨rfl, hb2⟩))
                go_ret
                exact ⟨rfl, (HB'.out.trans (hb1.mono HB'.out.size)).trans (hb2.mono (HB'.out.trans (hb1.mono HB'.out.size)).size)⟩
              | true =>
                rw [hs2] at ha S2
                simp at ha
                have ha' := Aside0.mk ha
                go_wp2_with (first | (go_at_call 115; refine (S1 _).mono ?_; rintro e w2 ⟨rfl, hb1⟩) | (go_at_call 114; refine (S2 _).mono ?_; rintro e w3 ⟨rfl, hb2⟩))
                go_roundg k1
                case measure => have := HK.out; omega
                case rel => exact ⟨pos + q2, ha', ⟨by have := HK.out; omega⟩, hp', ⟨blk_below (blk_below HI'.out hb1) hb2⟩, ⟨(HB'.out.trans (hb1.mono HB'.out.size)).trans (hb2.mono (HB'.out.trans (hb1.mono HB'.out.size)).size)⟩⟩
          · have h0b : ((pos : Int) == 0) = false := by simp [h0]
            rw [if_neg (by simp [h0])] at ha
            cases hs2 : partB q with
            | false =>
              rw [hs2] at ha S2
              simp at ha
              subst ha
              go_wp2_with (go_at_call 114; refine (S2 _).mono ?_; rintro e w3 ⟨rfl, hb2⟩)
              go_ret
              exact ⟨rfl, HB'.out.trans (hb2.mono HB'.out.size)⟩
            | true =>
              rw [hs2] at ha S2
              simp at ha
              have ha' := Aside0.mk ha
              go_wp2_with (go_at_call 114; refine (S2 _).mono ?_; rintro e w3 ⟨rfl, hb2⟩)
              go_roundg k1
              case measure => have := HK.out; omega
              case rel => exact ⟨pos + q2, ha', ⟨by have := HK.out; omega⟩, hp', ⟨blk_below HI'.out hb2⟩, ⟨HB'.out.trans (hb2.mono HB'.out.size)⟩⟩
      · have hnx : ∀ ty, (Instr.next (.pointer (some ⟨w1.heap.size, 0, none⟩)) true ty).run Tryd.prog wr = _ := fun ty => Lib.run_next_end_at wr w1.heap.size s pos ty HI.out hp
        have ha := HA.out
        rw [nameR_end _ _ _ hp] at ha
        subst ha
        go_wp2
        go_ret
        exact ⟨rfl, HB.out⟩
end Go.Proofs.YthilcidoacgdfaaDoor.CharB
