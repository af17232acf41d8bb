import Derived.Shelf.Unicode.ValidAny
import Derived.Test.YthilcidoacgdfaaGreatDoorProg
import Derived.Test.YthilcidoacgdfaaGreatDoorZwCharA
import Derived.Test.YthilcidoacgdfaaGreatDoorZwPFx3
import Derived.Test.YthilcidoacgdfaaGreatDoorZwPFx4
import Derived.Test.YthilcidoacgdfaaGreatDoorZwPFx5
import Derived.Test.YthilcidoacgdfaaGreatDoorZwPFx6
import Derived.Test.YthilcidoacgdfaaGreatDoorZwPFx7
import Derived.Test.YthilcidoacgdfaaGreatDoorZwPFx8
import Derived.Test.YthilcidoacgdfaaGreatDoorZwPFx9
import Derived.Test.YthilcidoacgdfaaGreatDoorZwPFx10
import Derived.Test.YthilcidoacgdfaaGreatDoorZwPFx11
import Derived.Test.YthilcidoacgdfaaGreatDoorZwPFx12
import Derived.Test.YthilcidoacgdfaaGreatDoorZwPFx13
import Derived.Test.YthilcidoacgdfaaGreatDoorZwPFx14
import Derived.Test.YthilcidoacgdfaaGreatDoorZwPFx15
import Derived.Lib.OthersKept
import Derived.Lib.ValidU
set_option maxHeartbeats 8000000
set_option maxRecDepth 100000
/-
 DERIVED: THE SHELF's CONTRACTS AT THIS DUMP, IN PLAIN WORDS (tools/lay-plain.mjs out of 'TryzvShelf.lean', which tools/lay-shelf.mjs wrote): THE SAME DECLARATIONS UNDER THE SAME NAMES: 'import', 'namespace', 'open', 'def', 'theorem' AND NOTHING ELSE: no command of the shelf's: FOR A HAND-IN. Each laying: the table of numbers ('.._ren') and one theorem, a field a fact of the dump's own or the kernel's comparison; each contract: ONE APPLICATION.
-/
namespace Go.Proofs
open Go.Shelf
def Tryz.lays196_ren : Go.Shelf.Ren := ⟨fun | 196 => 49 | 259 => 91 | n => n, fun | 9 => 9 | 4 => 4 | 3 => 3 | 5 => 5 | 12 => 12 | 119 => 125 | 0 => 0 | 46 => 129 | 139 => 128 | 138 => 127 | 53 => 114 | n => n, fun | 3 => 0 | 4 => 1 | n => n⟩
theorem Tryz.lays196 : Go.Proofs.Lays.n196 Tryz.prog Tryz.lays196_ren := {
 mixed := by kernel_rfl
 f196 := Tryz.func49.trans (congrArg some (by kernel_rfl))
 f259 := Tryz.func91.trans (congrArg some (by kernel_rfl))
 t0 := Tryz.underlying0
 a0 := Tryz.isAgg0
 z0 := Tryz.sizeOf0
 v0 := Tryz.zeroValue0
 t3 := Tryz.underlying3
 a3 := Tryz.isAgg3
 z3 := Tryz.sizeOf3
 v3 := Tryz.zeroValue3
 t4 := Tryz.underlying4
 a4 := Tryz.isAgg4
 z4 := Tryz.sizeOf4
 v4 := Tryz.zeroValue4
 t5 := Tryz.underlying5
 a5 := Tryz.isAgg5
 z5 := Tryz.sizeOf5
 v5 := Tryz.zeroValue5
 t9 := Tryz.underlying9
 a9 := Tryz.isAgg9
 z9 := Tryz.sizeOf9
 v9 := Tryz.zeroValue9
 t12 := Tryz.underlying12
 a12 := Tryz.isAgg12
 z12 := Tryz.sizeOf12
 v12 := Tryz.zeroValue12
 t46 := Tryz.underlying129
 a46 := Tryz.isAgg129
 z46 := Tryz.sizeOf129
 v46 := Tryz.zeroValue129
 t53 := Tryz.underlying114
 a53 := Tryz.isAgg114
 z53 := Tryz.sizeOf114
 v53 := Tryz.zeroValue114
 t119 := Tryz.underlying125
 a119 := Tryz.isAgg125
 z119 := Tryz.sizeOf125
 t138 := Tryz.underlying127
 a138 := Tryz.isAgg127
 z138 := Tryz.sizeOf127
 v138 := Tryz.zeroValue127
 t139 := Tryz.underlying128
 a139 := Tryz.isAgg128
 z139 := Tryz.sizeOf128
 v139 := Tryz.zeroValue128
 g3 := by kernel_rfl
 g4 := by kernel_rfl }
open Go.RowKit Go.Lib in
theorem Tryz.utf8_ValidString (s : ByteArray) (w : World) (hs : s.size ≤ 9223372036854775807) (hT : Lib.Utf8Tabs 0 1 w) :
  Calls Tryz.prog 49 #[.string s] w fun e w' => e = .returned (.bool (Lib.validD s.data.toList)) ∧ Below w.heap.size w w' := Any.utf8_ValidString Tryz.lays196 s w hs hT
end Go.Proofs
namespace Go.Proofs.YthilcidoacgdfaaGreatDoor.CharA
end Go.Proofs.YthilcidoacgdfaaGreatDoor.CharA
namespace Go.Proofs.YthilcidoacgdfaaGreatDoorW.PrintLast
end Go.Proofs.YthilcidoacgdfaaGreatDoorW.PrintLast
namespace Go.Proofs.YthilcidoacgdfaaGreatDoorW.PrintMore
end Go.Proofs.YthilcidoacgdfaaGreatDoorW.PrintMore
namespace Go.Proofs.YthilcidoacgdfaaGreatDoorW.PrintWords
end Go.Proofs.YthilcidoacgdfaaGreatDoorW.PrintWords
namespace Go.Proofs.YthilcidoacgdfaaGreatDoor.CharB
open Go.RowKit YthilcidoacgdfaaGreatDoorW.PrintWords YthilcidoacgdfaaGreatDoorW.PrintLast YthilcidoacgdfaaGreatDoorW.PrintMore CharA
set_option linter.unusedVariables false
set_option linter.unusedSimpArgs false
def spaceB (a : Int) : Bool := a == 32 || a == 9 || a == 10 || a == 13
theorem space_calls (a0 : Int) (w : World) : Calls Tryz.prog 25 #[.int .i32 a0] w fun e w' => e = .returned (.bool (spaceB a0)) ∧ Drawn0 w w' :=
 PF.char_Space.calls a0 _ w (by unfold PF.char_Space.f spaceB; by_cases h1 : a0 = 32 <;> by_cases h2 : a0 = 9 <;> by_cases h3 : a0 = 10 <;> simp [h1, h2, h3])
def allR (p : Int → Bool) (s : ByteArray) : Nat → Nat → Bool
 | 0, _ => true
 | n + 1, pos => if pos < s.size then (if p (Utf8.decode s pos).1 then allR p s n (pos + (Utf8.decode s pos).2) else false) else true
theorem qu1 (s : ByteArray) (pos : Nat) (h : pos < s.size) : 1 ≤ (Utf8.decode s pos).2 := by
 by_cases ha : (s[pos]'h).toNat < 128
 ·rw [decode_ascii s pos h ha]
  exact Nat.le_refl _
 ·exact (decode_high s pos h (by omega)).2
theorem allR_end (p : Int → Bool) (s : ByteArray) (b pos : Nat) (h : ¬ pos < s.size) : allR p s b pos = true := by
 cases b with
 | zero => rfl
 | succ b => simp [allR, h]
theorem below_drewN {B : Nat} {w w' : World} (h : Below B w w') (m : Nat) : Below B w (w'.drewN m) := ⟨h.1, h.2, h.3, h.4, h.5⟩
def textB (s : ByteArray) : Bool := Lib.validD s.data.toList && allR isB s s.size 0
theorem text_calls (s : ByteArray) (w : World) (hs : s.size ≤ 9223372036854775807) (hT : Lib.Utf8Tabs 0 1 w) : Calls Tryz.prog 23 #[.string s] w fun e w' => e = .returned (.bool (textB s)) ∧ Below w.heap.size w w' := by
 have cV := Tryz.utf8_ValidString s w hs hT
 clear hT
 obtain ⟨r, hr⟩ : ∃ r, allR isB s s.size 0 = r := ⟨_, rfl⟩
 unfold textB
 rw [hr]
 have H := Aside0.mk hr
 clear hr
 have hr0 := Below.refl w.heap.size w
 generalize Lib.validD s.data.toList = V at cV ⊢
 cases V with
 | false =>
  go_enter Tryz.func23, Tryz.ntmps23
  go_wp2_with (go_at_call 49; refine cV.mono ?_; rintro e w1 ⟨rfl, hb⟩)
  go_ret
  exact ⟨rfl, hb⟩
 | true =>
  go_enter Tryz.func23, Tryz.ntmps23
  go_wp2_with (go_at_call 49; refine cV.mono ?_; rintro e w1 ⟨rfl, hb⟩)
  have HZ := Aside0.mk hb.size
  have HW := Aside0.mk (qb hb (.stringIter s 0))
  clear hb
  clear cV
  go_loopg [] s.size (fun kq w' => ∃ pos, Aside0 (allR isB s kq pos = r) ∧ Aside0 (kq ≤ s.size) ∧ Aside0 (s.size ≤ pos + kq) ∧ Aside0 (w'.heap[w1.heap.size]? = some (.stringIter s pos)) ∧ Aside0 (Below w.heap.size w w'))
  case atStart => exact ⟨0, H, ⟨by omega⟩, ⟨by omega⟩, ⟨by rw [World.iter_heap]⟩, HW⟩
  case round =>
   obtain ⟨pos, HA, HK, HP, HI, HB⟩ := hrel
   by_cases hp : pos < s.size
   ·cases gk with
    | zero => have := HP.out; omega
    | succ k1 =>
     have hnx : ∀ ty, (Instr.next (.pointer (some ⟨w1.heap.size, 0, none⟩)) true ty).run Tryz.prog wr = _ := fun ty => Lib.run_next_any_at wr w1.heap.size s pos ty HI.out hp
     have ha := HA.out
     have hwd := qu1 s pos hp
     simp only [allR, if_pos hp] at ha
     generalize (Utf8.decode s pos).1 = q at hnx ha
     generalize hd2 : (Utf8.decode s pos).2 = q2 at hnx ha hwd
     have hI : (wr.iterAt w1.heap.size s (pos + q2)).heap[w1.heap.size]? = some (.stringIter s (pos + q2)) := Lib.iterAt_heap wr _ s pos _ HI.out
     have hB : Below w.heap.size w (wr.iterAt w1.heap.size s (pos + q2)) := Lib.below_iterAt HB.out HZ.out s _
     have S := is_calls (q : Int)
     cases hs : isB q with
     | false =>
      rw [hs] at ha S
      simp at ha
      subst ha
      go_wp2_with (go_at_call 50; refine (S _).mono ?_; rintro e w' ⟨rfl, hb1⟩)
      go_ret
      exact ⟨rfl, hB.trans (hb1.mono hB.size)⟩
     | true =>
      rw [hs] at ha S
      simp at ha
      have ha' := Aside0.mk ha
      have hp' : Aside0 (s.size ≤ pos + q2 + k1) := ⟨by have := HP.out; omega⟩
      go_wp2_with (go_at_call 50; refine (S _).mono ?_; rintro e w' ⟨rfl, hb1⟩)
      go_roundg k1
      case measure => have := HK.out; omega
      case rel => exact ⟨pos + q2, ha', ⟨by have := HK.out; omega⟩, hp', ⟨ql hI hb1⟩, ⟨hB.trans (hb1.mono hB.size)⟩⟩
   ·have hnx : ∀ ty, (Instr.next (.pointer (some ⟨w1.heap.size, 0, none⟩)) true ty).run Tryz.prog wr = _ := fun ty => Lib.run_next_end_at wr w1.heap.size s pos ty HI.out hp
    have ha := HA.out
    rw [allR_end _ _ _ _ hp] at ha
    subst ha
    go_wp2
    go_ret
    exact ⟨rfl, HB.out⟩
def nameR (s : ByteArray) : Nat → Nat → Bool
 | 0, _ => true
 | n + 1, pos => if pos < s.size then (if pos = 0 ∧ startB (Utf8.decode s pos).1 = false then false else if partB (Utf8.decode s pos).1 then nameR s n (pos + (Utf8.decode s pos).2) else false) else true
theorem nameR_end (s : ByteArray) (b pos : Nat) (h : ¬ pos < s.size) : nameR s b pos = true := by
 cases b with
 | zero => rfl
 | succ b => simp [nameR, h]
def nameB (s : ByteArray) : Bool := if s.size < 1 then false else if 32 < s.size then false else textB s && nameR s s.size 0
theorem name_calls (s : ByteArray) (w : World) (hT : Lib.Utf8Tabs 0 1 w) : Calls Tryz.prog 59 #[.string s] w fun e w' => e = .returned (.bool (nameB s)) ∧ Below w.heap.size w w' := by
 have hr0 := Below.refl w.heap.size w
 unfold nameB
 by_cases c1 : s.size < 1
 ·rw [if_pos c1]
  have c1b : decide ((s.size : Int) < 1) = true := by simp; omega
  go_enter Tryz.func59, Tryz.ntmps59
  go_wp2_with fail
  go_ret
  exact ⟨rfl, hr0⟩
 rw [if_neg c1]
 have c1b : decide ((s.size : Int) < 1) = false := by simp; omega
 by_cases c2 : 32 < s.size
 ·rw [if_pos c2]
  have c2b : decide ((32 : Int) < (s.size : Int)) = true := by simp; omega
  go_enter Tryz.func59, Tryz.ntmps59
  go_wp2_with fail
  go_ret
  exact ⟨rfl, hr0⟩
 rw [if_neg c2]
 have c2b : decide ((32 : Int) < (s.size : Int)) = false := by simp; omega
 have cV := text_calls s w (by omega) hT
 clear hT
 obtain ⟨r, hr⟩ : ∃ r, nameR s s.size 0 = r := ⟨_, rfl⟩
 rw [hr]
 have H := Aside0.mk hr
 clear hr
 generalize textB s = V at cV ⊢
 have CS := Aside0.mk c2
 clear c1 c2
 cases V with
 | false =>
  go_enter Tryz.func59, Tryz.ntmps59
  go_wp2_with (go_at_call 23; refine cV.mono ?_; rintro e w1 ⟨rfl, hb⟩)
  go_ret
  exact ⟨rfl, hb⟩
 | true =>
  go_enter Tryz.func59, Tryz.ntmps59
  go_wp2_with (go_at_call 23; refine cV.mono ?_; rintro e w1 ⟨rfl, hb⟩)
  have HZ := Aside0.mk hb.size
  have HW := Aside0.mk (qb hb (.stringIter s 0))
  clear hb
  clear cV
  go_loopg [] s.size (fun kq w' => ∃ pos, Aside0 (nameR s kq pos = r) ∧ Aside0 (kq ≤ s.size) ∧ Aside0 (s.size ≤ pos + kq) ∧ Aside0 (w'.heap[w1.heap.size]? = some (.stringIter s pos)) ∧ Aside0 (Below w.heap.size w w'))
  case atStart => exact ⟨0, H, ⟨by omega⟩, ⟨by omega⟩, ⟨by rw [World.iter_heap]⟩, HW⟩
  case round =>
   obtain ⟨pos, HA, HK, HP, HI, HB⟩ := hrel
   by_cases hp : pos < s.size
   ·cases gk with
    | zero => have := HP.out; omega
    | succ k1 =>
     have hnx : ∀ ty, (Instr.next (.pointer (some ⟨w1.heap.size, 0, none⟩)) true ty).run Tryz.prog wr = _ := fun ty => Lib.run_next_any_at wr w1.heap.size s pos ty HI.out hp
     have ha := HA.out
     have hwd := qu1 s pos hp
     simp only [nameR, if_pos hp] at ha
     generalize (Utf8.decode s pos).1 = q at hnx ha
     generalize hd2 : (Utf8.decode s pos).2 = q2 at hnx ha hwd
     have hI : (wr.iterAt w1.heap.size s (pos + q2)).heap[w1.heap.size]? = some (.stringIter s (pos + q2)) := Lib.iterAt_heap wr _ s pos _ HI.out
     have hB : Below w.heap.size w (wr.iterAt w1.heap.size s (pos + q2)) := Lib.below_iterAt HB.out HZ.out s _
     have hp' : Aside0 (s.size ≤ pos + q2 + k1) := ⟨by have := HP.out; omega⟩
     have S1 := start_calls (q : Int)
     have S2 := part_calls (q : Int)
     have HI' := Aside0.mk hI
     have HB' := Aside0.mk hB
     clear hI hB
     by_cases h0 : pos = 0
     ·have h0b : ((pos : Int) == 0) = true := by simp [h0]
      cases hs : startB q with
      | false =>
       rw [hs] at ha S1
       rw [if_pos ⟨h0, rfl⟩] at ha
       subst ha
       clear h0
       go_wp2_with (go_at_call 103; refine (S1 _).mono ?_; rintro e w2 ⟨rfl, hb1⟩)
       go_ret
       exact ⟨rfl, HB'.out.trans (hb1.mono HB'.out.size)⟩
      | true =>
       rw [hs] at ha S1
       rw [if_neg (by simp)] at ha
       clear h0
       cases hs2 : partB q with
       | false =>
        rw [hs2] at ha S2
        simp at ha
        subst ha
        go_wp2_with (first | (go_at_call 103; refine (S1 _).mono ?_; rintro e w2 ⟨rfl, hb1⟩) | (go_at_call 102; refine (S2 _).mono ?_; rintro e w3 ⟨rfl, hb2⟩))
        go_ret
        exact ⟨rfl, (HB'.out.trans (hb1.mono HB'.out.size)).trans (hb2.mono (HB'.out.trans (hb1.mono HB'.out.size)).size)⟩
       | true =>
        rw [hs2] at ha S2
        simp at ha
        have ha' := Aside0.mk ha
        go_wp2_with (first | (go_at_call 103; refine (S1 _).mono ?_; rintro e w2 ⟨rfl, hb1⟩) | (go_at_call 102; refine (S2 _).mono ?_; rintro e w3 ⟨rfl, hb2⟩))
        go_roundg k1
        case measure => have := HK.out; omega
        case rel => exact ⟨pos + q2, ha', ⟨by have := HK.out; omega⟩, hp', ⟨ql (ql HI'.out hb1) hb2⟩, ⟨(HB'.out.trans (hb1.mono HB'.out.size)).trans (hb2.mono (HB'.out.trans (hb1.mono HB'.out.size)).size)⟩⟩
     ·have h0b : ((pos : Int) == 0) = false := by simp [h0]
      rw [if_neg (by simp [h0])] at ha
      cases hs2 : partB q with
      | false =>
       rw [hs2] at ha S2
       simp at ha
       subst ha
       go_wp2_with (go_at_call 102; refine (S2 _).mono ?_; rintro e w3 ⟨rfl, hb2⟩)
       go_ret
       exact ⟨rfl, HB'.out.trans (hb2.mono HB'.out.size)⟩
      | true =>
       rw [hs2] at ha S2
       simp at ha
       have ha' := Aside0.mk ha
       go_wp2_with (go_at_call 102; refine (S2 _).mono ?_; rintro e w3 ⟨rfl, hb2⟩)
       go_roundg k1
       case measure => have := HK.out; omega
       case rel => exact ⟨pos + q2, ha', ⟨by have := HK.out; omega⟩, hp', ⟨ql HI'.out hb2⟩, ⟨HB'.out.trans (hb2.mono HB'.out.size)⟩⟩
   ·have hnx : ∀ ty, (Instr.next (.pointer (some ⟨w1.heap.size, 0, none⟩)) true ty).run Tryz.prog wr = _ := fun ty => Lib.run_next_end_at wr w1.heap.size s pos ty HI.out hp
    have ha := HA.out
    rw [nameR_end _ _ _ hp] at ha
    subst ha
    go_wp2
    go_ret
    exact ⟨rfl, HB.out⟩
end Go.Proofs.YthilcidoacgdfaaGreatDoor.CharB
