/- char.Blank, Text, Name: ranges over a string. -/
import Derived.Test.YticpobgkbapdmaaDoorKoCharA
import Derived.Test.YticpobgkbapdmaaDoorProg
import Derived.Below
import Derived.Deep.Draws
import Derived.Deep.AppendLies
import Derived.Maps.AppendAt
import Derived.OwnWalk
import Derived.Laws.BytesArg
import Derived.Laws.MakeOwn
import Derived.Laws.OwnMore
import Derived.Deep.OwnRows
import Derived.Tactics
import Derived.Lib.ConvBytes
import Derived.Laws.Slices
import Derived.WalkKit
import Derived.KernelRfl
import Derived.RowKit3
import Derived.Deep.LoopGhost
import Derived.Deep.QuietTactic
import Derived.BigQuiet
import Derived.WideLaws
import Derived.Deep.DeepCutAuto
import Derived.Deep.CutBlock
import Derived.Deep.RegionHeld3
import Derived.Laws.Rows
import Derived.Lib.AppendStr
import Derived.ArgAppend
import Derived.Laws.IdiomCopy
import Derived.OrdersHeld
import Derived.Laws.BitsLemmas
import Derived.RowKit
import Derived.Test.YticpobgkbapdmaaDoorKoWWords
import Derived.Test.YticpobgkbapdmaaDoorKoWLast
import Derived.Test.YticpobgkbapdmaaDoorKoWApart
import Derived.Test.YticpobgkbapdmaaDoorKoWKept
import Derived.Test.YticpobgkbapdmaaDoorKoWShare
import Derived.Test.YticpobgkbapdmaaDoorKoWN
import Derived.Laws.StructEq
import Derived.Test.YticpobgkbapdmaaDoorKoWRepsOne
import Derived.Test.YticpobgkbapdmaaDoorKoWMore
import Derived.Test.YticpobgkbapdmaaDoorKoPR1x1
import Derived.Test.YticpobgkbapdmaaDoorKoPR1x5
import Derived.Test.YticpobgkbapdmaaDoorKoPR1x6
import Derived.Lib.OthersKept
import Derived.Lib.ValidU
import Derived.Test.YticpobgkbapdmaaDoorKoShelfV
namespace Go.Proofs.YticpobgkbapdmaaDoor.CharA
end Go.Proofs.YticpobgkbapdmaaDoor.CharA
namespace Go.Proofs.YticpobgkbapdmaaDoorW.PrintLast
end Go.Proofs.YticpobgkbapdmaaDoorW.PrintLast
namespace Go.Proofs.YticpobgkbapdmaaDoorW.PrintMore
end Go.Proofs.YticpobgkbapdmaaDoorW.PrintMore
namespace Go.Proofs.YticpobgkbapdmaaDoorW.PrintWords
end Go.Proofs.YticpobgkbapdmaaDoorW.PrintWords
namespace Go.Proofs.YticpobgkbapdmaaDoor.CharB
open Go.RowKit Go.Proofs.YticpobgkbapdmaaDoorW.PrintWords Go.Proofs.YticpobgkbapdmaaDoorW.PrintLast Go.Proofs.YticpobgkbapdmaaDoorW.PrintMore Go.Proofs.YticpobgkbapdmaaDoor.CharA
set_option linter.unusedVariables false
set_option linter.unusedSimpArgs false
/-- All characters of a string, from a byte on. -/
def allR (p : Int → Bool) (s : ByteArray) : Nat → Nat → Bool
  | 0, _ => true
  | n + 1, pos => if pos < s.size then (if p (Utf8.decode s pos).1 then allR p s n (pos + (Utf8.decode s pos).2) else false) else true
theorem width_pos (s : ByteArray) (pos : Nat) (h : pos < s.size) : 1 ≤ (Utf8.decode s pos).2 := by
  by_cases ha : (s[pos]'h).toNat < 128
  · rw [decode_ascii s pos h ha]
    exact Nat.le_refl _
  · exact (decode_high s pos h (by omega)).2
theorem allR_end (p : Int → Bool) (s : ByteArray) (b pos : Nat) (h : ¬ pos < s.size) : allR p s b pos = true := by
  cases b with
  | zero => rfl
  | succ b => simp [allR, h]
theorem below_drewN {B : Nat} {w w' : World} (h : Below B w w') (m : Nat) : Below B w (w'.drewN m) := ⟨h.1, h.2, h.3, h.4, h.5⟩
def textB (s : ByteArray) : Bool := Lib.validD s.data.toList && allR isB s s.size 0
set_option maxHeartbeats 8000000 in
set_option maxRecDepth 100000 in
theorem text_calls (s : ByteArray) (w : World) (hs : s.size ≤ 9223372036854775807) (hT : Lib.Utf8Tabs 0 1 w) : Calls Tryd.prog 28 #[.string s] w fun e w' => e = .returned (.bool (textB s)) ∧ Below w.heap.size w w' := by
  have cV := Tryd.utf8_ValidString s w hs hT
  clear hT
  obtain ⟨r, hr⟩ : ∃ r, allR isB s s.size 0 = r := ⟨_, rfl⟩
  unfold textB
  rw [hr]
  have H := Aside0.mk hr
  clear hr
  have hr0 := Below.refl w.heap.size w
  generalize Lib.validD s.data.toList = V at cV ⊢
  cases V with
  | false =>
    go_enter Tryd.func28, Tryd.ntmps28
    go_wp2_with (go_at_call 56; refine cV.mono ?_; rintro e w1 ⟨rfl, hb⟩)
    go_ret
    exact ⟨rfl, hb⟩
  | true =>
    go_enter Tryd.func28, Tryd.ntmps28
    go_wp2_with (go_at_call 56; refine cV.mono ?_; rintro e w1 ⟨rfl, hb⟩)
    have HZ := Aside0.mk hb.size
    have HW := Aside0.mk (below_alloc hb (.stringIter s 0))
    clear hb
    clear cV
    go_loopg [] s.size (fun kq w' => ∃ pos, Aside0 (allR isB s kq pos = r) ∧ Aside0 (kq ≤ s.size) ∧ Aside0 (s.size ≤ pos + kq) ∧ Aside0 (w'.heap[w1.heap.size]? = some (.stringIter s pos)) ∧ Aside0 (Below w.heap.size w w'))
    case atStart => exact ⟨0, H, ⟨by omega⟩, ⟨by omega⟩, ⟨by rw [World.iter_heap]⟩, HW⟩
    case round =>
      obtain ⟨pos, HA, HK, HP, HI, HB⟩ := hrel
      by_cases hp : pos < s.size
      · cases gk with
        | zero => have := HP.out; omega
        | succ k1 =>
          have hnx : ∀ ty, (Instr.next (.pointer (some ⟨w1.heap.size, 0, none⟩)) true ty).run Tryd.prog wr = _ := fun ty => Lib.run_next_any_at wr w1.heap.size s pos ty HI.out hp
          have ha := HA.out
          have hwd := width_pos s pos hp
          simp only [allR, if_pos hp] at ha
          generalize (Utf8.decode s pos).1 = q at hnx ha
          generalize hd2 : (Utf8.decode s pos).2 = q2 at hnx ha hwd
          have hI : (wr.iterAt w1.heap.size s (pos + q2)).heap[w1.heap.size]? = some (.stringIter s (pos + q2)) := Lib.iterAt_heap wr _ s pos _ HI.out
          have hB : Below w.heap.size w (wr.iterAt w1.heap.size s (pos + q2)) := Lib.below_iterAt HB.out HZ.out s _
          have S := is_calls (q : Int)
          cases hs : isB q with
          | false =>
            rw [hs] at ha S
            simp at ha
            subst ha
            go_wp2_with (go_at_call 20; refine (S _).mono ?_; rintro e w' ⟨rfl, hb1⟩)
            go_ret
            exact ⟨rfl, hB.trans (hb1.mono hB.size)⟩
          | true =>
            rw [hs] at ha S
            simp at ha
            have ha' := Aside0.mk ha
            have hp' : Aside0 (s.size ≤ pos + q2 + k1) := ⟨by have := HP.out; omega⟩
            go_wp2_with (go_at_call 20; refine (S _).mono ?_; rintro e w' ⟨rfl, hb1⟩)
            go_roundg k1
            case measure => have := HK.out; omega
            case rel => exact ⟨pos + q2, ha', ⟨by have := HK.out; omega⟩, hp', ⟨blk_below hI hb1⟩, ⟨hB.trans (hb1.mono hB.size)⟩⟩
      · have hnx : ∀ ty, (Instr.next (.pointer (some ⟨w1.heap.size, 0, none⟩)) true ty).run Tryd.prog wr = _ := fun ty => Lib.run_next_end_at wr w1.heap.size s pos ty HI.out hp
        have ha := HA.out
        rw [allR_end _ _ _ _ hp] at ha
        subst ha
        go_wp2
        go_ret
        exact ⟨rfl, HB.out⟩
end Go.Proofs.YticpobgkbapdmaaDoor.CharB
