/- span.Len, span.chars and its iterator, span.Cut: what they compute, and that they write nothing that was there. -/
import Derived.RangeFuncNested
import Derived.RangeFuncBound
import Derived.RangeFuncCalls
import Derived.RangeFuncLeaves
import Derived.Shelf.Abstract
import Derived.Shelf.RegionOpen
import Derived.WalkKit
import Derived.OwnWalkIn
import Derived.TacticsInMore
import Derived.LoopNIn
import Derived.LoopIn
import Derived.Lib.RuneCountTail
import Derived.Test.YticpobgkbapdmaaDoorZjShelf
import Derived.Test.YticpobgkbapdmaaDoorZjCharE
import Derived.Test.YticpobgkbapdmaaDoorZjSpanA
namespace Go.Proofs.YticpobgkbapdmaaDoor.CharA
end Go.Proofs.YticpobgkbapdmaaDoor.CharA
namespace Go.Proofs.YticpobgkbapdmaaDoor.CharB
end Go.Proofs.YticpobgkbapdmaaDoor.CharB
namespace Go.Proofs.YticpobgkbapdmaaDoor.CharC
end Go.Proofs.YticpobgkbapdmaaDoor.CharC
namespace Go.Proofs.YticpobgkbapdmaaDoor.CharD
end Go.Proofs.YticpobgkbapdmaaDoor.CharD
namespace Go.Proofs.YticpobgkbapdmaaDoor.CharE
end Go.Proofs.YticpobgkbapdmaaDoor.CharE
namespace Go.Proofs.YticpobgkbapdmaaDoor.CharF
end Go.Proofs.YticpobgkbapdmaaDoor.CharF
namespace Go.Proofs.YticpobgkbapdmaaDoor.SpanA
end Go.Proofs.YticpobgkbapdmaaDoor.SpanA
namespace Go.Proofs.YticpobgkbapdmaaDoorW.PrintLast
end Go.Proofs.YticpobgkbapdmaaDoorW.PrintLast
namespace Go.Proofs.YticpobgkbapdmaaDoorW.PrintMore
end Go.Proofs.YticpobgkbapdmaaDoorW.PrintMore
namespace Go.Proofs.YticpobgkbapdmaaDoorW.PrintWords
end Go.Proofs.YticpobgkbapdmaaDoorW.PrintWords
namespace Go.Proofs.YticpobgkbapdmaaDoor.SpanB
open Go.RowKit Go.Shelf Go.Proofs.YticpobgkbapdmaaDoorW.PrintWords Go.Proofs.YticpobgkbapdmaaDoorW.PrintLast Go.Proofs.YticpobgkbapdmaaDoorW.PrintMore Go.Proofs.YticpobgkbapdmaaDoor.CharA Go.Proofs.YticpobgkbapdmaaDoor.CharB Go.Proofs.YticpobgkbapdmaaDoor.CharC Go.Proofs.YticpobgkbapdmaaDoor.CharD Go.Proofs.YticpobgkbapdmaaDoor.CharE Go.Proofs.YticpobgkbapdmaaDoor.CharF Go.Proofs.YticpobgkbapdmaaDoor.SpanA
set_option linter.unusedVariables false
set_option linter.unusedSimpArgs false
/-! ### Len -/
theorem pcs_step (s : ByteArray) (n pos : Nat) (h : pos < s.size) : pcs s (n + 1) pos = s.extract pos (pos + (Utf8.decode s pos).2) :: pcs s n (pos + (Utf8.decode s pos).2) := by simp only [pcs, if_pos h]
set_option maxHeartbeats 8000000 in
set_option maxRecDepth 100000 in
theorem len_calls (s : ByteArray) (w : World) (hs : s.size < 9223372036854775807) : Calls Tryd.prog 33 #[.string s] w fun e w' => e = .returned (.int .i64 ((pieces s).length : Int)) ∧ Below w.heap.size w w' := by
  obtain ⟨r, hr⟩ : ∃ r, (pieces s).length = r := ⟨_, rfl⟩
  have hle : (pieces s).length ≤ s.size := by have := pcs_length s s.size 0; simpa [pieces] using this
  rw [hr] at hle ⊢
  unfold pieces at hr
  have HR := Aside0.mk hr
  have HE := Aside0.mk hle
  have HS := Aside0.mk hs
  clear hr hle hs
  have hr0 := Below.refl w.heap.size w
  go_enter Tryd.func33, Tryd.ntmps33
  go_wp2
  go_loopg [3] s.size (fun kq v3 w' => ∃ pos c : Nat, v3 = .int .i64 (c : Int) ∧ Aside0 (c + (pcs s kq pos).length = r) ∧ Aside0 (kq ≤ s.size) ∧ Aside0 (s.size ≤ pos + kq) ∧ Aside0 (w'.heap[w.heap.size]? = some (.stringIter s pos)) ∧ Aside0 (Below w.heap.size w w'))
  case atStart => exact ⟨0, 0, rfl, ⟨by have := HR.out; omega⟩, ⟨by omega⟩, ⟨by omega⟩, ⟨by rw [World.iter_heap]⟩, ⟨below_alloc hr0 _⟩⟩
  case round =>
    obtain ⟨pos, c, rfl, HA, HK, HP, HI, HB⟩ := hrel
    by_cases hp : pos < s.size
    · cases gk with
      | zero => have := HP.out; omega
      | succ k1 =>
        have hnx : ∀ ty, (Instr.next (.pointer (some ⟨w.heap.size, 0, none⟩)) true ty).run Tryd.prog wr = _ := fun ty => Lib.run_next_any_at wr w.heap.size s pos ty HI.out hp
        have ha := HA.out
        have hwd := width_pos s pos hp
        rw [pcs_step s k1 pos hp] at ha
        generalize (Utf8.decode s pos).1 = q at hnx ha
        generalize hd2 : (Utf8.decode s pos).2 = q2 at hnx ha hwd
        have hI : (wr.iterAt w.heap.size s (pos + q2)).heap[w.heap.size]? = some (.stringIter s (pos + q2)) := Lib.iterAt_heap wr _ s pos _ HI.out
        have hB : Below w.heap.size w (wr.iterAt w.heap.size s (pos + q2)) := Lib.below_iterAt HB.out (Nat.le_refl _) s _
        have hl : c + 1 + (pcs s k1 (pos + q2)).length = r := by simp only [List.length_cons] at ha; omega
        have ha' := Aside0.mk hl
        have hp' : Aside0 (s.size ≤ pos + q2 + k1) := ⟨by have := HP.out; omega⟩
        have hwr : wrap64 ((c : Int) + 1) = ((c + 1 : Nat) : Int) := by rw [w64 (by omega) (by have := HE.out; have := HS.out; omega)]; omega
        clear ha hl
        go_wp2
        go_roundg k1
        case measure => have := HK.out; omega
        case rel => exact ⟨pos + q2, c + 1, by first | rfl | rw [hwr] | (simp; done), ha', ⟨by have := HK.out; omega⟩, hp', ⟨hI⟩, ⟨hB⟩⟩
    · have hnx : ∀ ty, (Instr.next (.pointer (some ⟨w.heap.size, 0, none⟩)) true ty).run Tryd.prog wr = _ := fun ty => Lib.run_next_end_at wr w.heap.size s pos ty HI.out hp
      have ha := HA.out
      rw [pcs_end _ _ _ hp] at ha
      simp only [List.length_nil, Nat.add_zero] at ha
      subst ha
      go_wp2
      go_ret
      exact ⟨rfl, HB.out⟩
/-! ### the iterator -/
attribute [local go_sem] Oper.semAt_some
abbrev encP (x : Nat × ByteArray) : Array Value := #[.int .i64 (x.1 : Int), .string x.2]
def enumP : List ByteArray → Nat → List (Nat × ByteArray)
  | [], _ => []
  | p :: ps, k => (k, p) :: enumP ps (k + 1)
theorem enumP_length : ∀ l k, (enumP l k).length = l.length
  | [], _ => rfl
  | p :: ps, k => by simp [enumP, enumP_length ps]
/-- The tables and the box of the text lie as they lay. -/
def Lies (Bs : Nat) (W W' : World) : Prop := ∀ k, k < 2 ∨ k = Bs → W'.heap[k]? = W.heap[k]?
theorem Lies.refl (Bs : Nat) (W : World) : Lies Bs W W := fun _ _ => rfl
theorem Lies.trans {Bs : Nat} {A B C : World} (h : Lies Bs A B) (k : Lies Bs B C) : Lies Bs A C := fun i hi => (k i hi).trans (h i hi)
theorem Lies.of_below {Bs B : Nat} {W W' : World} (h : Below B W W') (h1 : Bs < B) (h2 : 2 ≤ B) : Lies Bs W W' := fun k hk => h.block k (by omega)
theorem Lies.iterAt {Bs : Nat} {W W' : World} (h : Lies Bs W W') (k : Nat) (h1 : Bs < k) (h2 : 2 ≤ k) (s : ByteArray) (pos : Nat) : Lies Bs W (W'.iterAt k s pos) := fun i hi => (Lib.iterAt_other W' k i s pos (by omega)).trans (h i hi)
theorem Lies.cell {Bs : Nat} {W W' : World} (h : Lies Bs W W') {p : Addr} (hp : p.block < 2 ∨ p.block = Bs) : W'.cell? p = W.cell? p := World.cell?_of_block (w := W) (h _ hp)
/-- A string's iterators lie as they lay. -/
structure KeepsIt (W W' : World) : Prop where
  size : W.heap.size ≤ W'.heap.size
  same : ∀ (k : Nat) (s : ByteArray) (pos : Nat), W.heap[k]? = some (Obj.stringIter s pos) → W'.heap[k]? = some (Obj.stringIter s pos)
theorem KeepsIt.refl (W : World) : KeepsIt W W := ⟨Nat.le_refl _, fun _ _ _ h => h⟩
theorem KeepsIt.trans {A B C : World} (h : KeepsIt A B) (k : KeepsIt B C) : KeepsIt A C := ⟨Nat.le_trans h.size k.size, fun i s p hi => k.same i s p (h.same i s p hi)⟩
theorem KeepsIt.of {A B : World} (h : KeepsWalks A B) : KeepsIt A B := ⟨h.size, fun k s p hk => h.same k _ hk rfl⟩
theorem KeepsIt.grown {A B : World} {row : Option Nat} (h : A.grownBy B row) (hr : ∀ k, row = some k → ∃ o : Obj, A.heap[k]? = some o ∧ ∀ s p, o ≠ .stringIter s p) : KeepsIt A B :=
  ⟨h.size, fun k s p hk => (h.block k (Array.getElem?_eq_some_iff.1 hk).1 (fun e => by obtain ⟨o, ho, hn⟩ := hr k e.symm; rw [hk] at ho; cases ho; exact hn s p rfl)).trans hk⟩
/-- What a round that goes on keeps. -/
def Kp (Bs : Nat) (W W' : World) : Prop := Lies Bs W W' ∧ KeepsIt W W'
theorem Kp.trans {Bs : Nat} {A B C : World} (h : Kp Bs A B) (k : Kp Bs B C) : Kp Bs A C := ⟨h.1.trans k.1, h.2.trans k.2⟩
theorem Kp.put {Bs : Nat} {w : World} (h1 : Bs < w.heap.size) (h2 : 2 ≤ w.heap.size) (W : World) (l : Nat) (o o' : Obj) (hl : w.heap.size ≤ l) (h : W.heap[l]? = some o) (_ : o.isCells = false) (hw : o.isWalk = false) : Kp Bs W (W.putObj l o') :=
  ⟨fun k hk => World.putObj_heap_other (by omega), KeepsIt.of (KeepsWalks.putObj _ h hw)⟩
theorem grown_of_below {W W' : World} (h : Below W.heap.size W W') : W.grownBy W' none := ⟨h.os, h.tape, h.output, h.size, fun k hk _ => h.block k hk⟩
theorem grown_iterAt (W : World) (k : Nat) (s : ByteArray) (pos : Nat) : W.grownBy (W.iterAt k s pos) (some k) :=
  ⟨rfl, rfl, rfl, by rw [Lib.iterAt_size]; exact Nat.le_refl _, fun i _ hi => Lib.iterAt_other W k i s pos (fun e => hi (by rw [e]))⟩
theorem walks_of_below {W W' : World} (h : Below W.heap.size W W') : KeepsWalks W W' := ⟨h.size, fun k o hk _ => (h.block k (Array.getElem?_eq_some_iff.1 hk).1).trans hk⟩
set_option maxHeartbeats 4000000 in
set_option maxRecDepth 100000 in
theorem chars_in (n : Nat) (s : ByteArray) (w : World) : CallsIn Fence.wide n Tryd.prog 58 #[.string s] w fun e w' =>
    e = .returned (.func (.func 71) #[] #[.pointer (some ⟨w.heap.size, 0, none⟩)]) ∧ w' = w.alloc (.cells #[.string s] 9) := by
  refine callsIn_of_wp Tryd.func58 rfl trivial ?_ rfl
  simp only [Tryd.ntmps58, List.size_toArray, List.length_cons, List.length_nil, Nat.reduceAdd, Nat.reduceSub, Array.replicate_succ, Array.replicate_zero, List.push_toArray, List.append_toArray, List.nil_append, List.cons_append]
  gi_wp2
  go_ret
  exact ⟨rfl, rfl⟩
theorem tabs_l {Bs : Nat} {w w' : World} (hT : Tabs w) (h : Lies Bs w w') : Tabs w' :=
  ⟨fun c hc => (h.cell (p := ⟨0, _, none⟩) (.inl (by show 0 < 2; omega))).trans (hT.1 c hc),
   fun i hi => ⟨(h.cell (p := ⟨1, _, none⟩) (.inl (by show 1 < 2; omega))).trans (hT.2 i hi).1, (h.cell (p := ⟨1, _, none⟩) (.inl (by show 1 < 2; omega))).trans (hT.2 i hi).2⟩⟩
theorem enumP_next {pre : List (Nat × ByteArray)} {p : ByteArray} {ps qs : List ByteArray} (h : pre ++ enumP (p :: ps) pre.length = enumP qs 0) : pre.length < qs.length ∧ (pre ++ [(pre.length, p)]) ++ enumP ps (pre ++ [(pre.length, p)]).length = enumP qs 0 := by
  constructor
  · have := congrArg List.length h
    simp only [List.length_append, enumP_length, List.length_cons] at this
    omega
  · rw [← h]; simp [enumP]
theorem dec_suffix (s : ByteArray) (pos : Nat) (hp : pos < s.size) : Lib.decodeGo (s.extract pos s.size) = Utf8.decode s pos := by
  have hsz := extract_size s pos s.size (Nat.le_refl _)
  unfold Lib.decodeGo
  have h := Lib.tail_decode s pos 0
  rw [Nat.add_zero] at h
  rw [if_neg (by omega), h]
set_option maxHeartbeats 8000000 in
set_option maxRecDepth 100000 in
theorem chars1_in (n : Nat) (hn : 1 ≤ n) (l Bs : Nat) (s : ByteArray) (hs : s.size < 1000000000000) (J Jx : List (Nat × ByteArray) → World → Prop) (W : World) (hJ : AbidesFrom W.heap.size J) (hBn : Bs < W.heap.size) (h2 : 2 ≤ W.heap.size)
    (hY : ∀ pre x W1, J pre W1 → pre.length < (pieces s).length → pre ++ [x] <+: enumP (pieces s) 0 → YieldAt Fence.wide (n - 1) Tryd.prog l (encP x) W1 fun e W' =>
      (e = .returned (.bool true) ∧ J (pre ++ [x]) W' ∧ Kp Bs W1 W') ∨ (e = .returned (.bool false) ∧ Jx (pre ++ [x]) W'))
    (hBs : W.cell? ⟨Bs, 0, none⟩ = some (.string s)) (hT : Tabs W) (h0 : J [] W) :
    CallsIn Fence.wide n Tryd.prog 71 #[.func (.yield l) #[] #[], .pointer (some ⟨Bs, 0, none⟩)] W fun e W' => (∃ v, e = .returned v) ∧
      ((∃ ys, ys = enumP (pieces s) 0 ∧ J ys W') ∨ (∃ pre, True ∧ Jx pre W')) := by
  refine callsIn_of_wp Tryd.func71 rfl trivial ?_ rfl
  simp only [Tryd.ntmps71, List.size_toArray, List.length_cons, List.length_nil, Nat.reduceAdd, Nat.reduceSub, Array.replicate_succ, Array.replicate_zero, List.push_toArray, List.append_toArray, List.nil_append, List.cons_append]
  gi_wp2
  gi_loopw [3] (fun v3 wr => ∃ (pos fuel : Nat) (pre : List (Nat × ByteArray)), v3 = .int .i64 (pre.length : Int) ∧ pre ++ enumP (pcs s fuel pos) pre.length = enumP (pieces s) 0 ∧ s.size ≤ pos + fuel ∧ wr.heap[W.heap.size]? = some (.stringIter s pos) ∧ Lies Bs W wr ∧ W.heap.size < wr.heap.size ∧ J pre wr)
    (fun _ wr => s.size - wr.iterPos W.heap.size)
  case atStart =>
    refine ⟨0, s.size, [], rfl, rfl, by omega, ?_, ?_, ?_, ?_⟩
    · rw [World.iter_heap]
    · exact Lies.of_below (below_alloc (Below.refl _ _) _) hBn h2
    · show _ < (W.heap.push _).size; rw [Array.size_push]; omega
    · exact hJ [] _ _ none h0 (World.grownBy_alloc _ _ _) (fun r e => by cases e)
  case round =>
    obtain ⟨pos, fuel, pre, rfl, hpre, hfu, hit, hbw, hsz, hJs⟩ := hrel
    by_cases hp : pos < s.size
    · obtain ⟨f, rfl⟩ : ∃ f, fuel = f + 1 := ⟨fuel - 1, by omega⟩
      have hnx : ∀ ty, (Instr.next (.pointer (some ⟨W.heap.size, 0, none⟩)) true ty).run Tryd.prog wr = _ := fun ty => Lib.run_next_any_at wr W.heap.size s pos ty hit hp
      have hwd := width_pos s pos hp
      have hle := width_le s pos hp
      have hds := dec_suffix s pos hp
      rw [pcs_step s f pos hp] at hpre
      generalize (Utf8.decode s pos).1 = q at *
      generalize hd2 : (Utf8.decode s pos).2 = q2 at *
      have hbi : Lies Bs W (wr.iterAt W.heap.size s (pos + q2)) := hbw.iterAt _ hBn h2 s _
      have hbs : (wr.iterAt W.heap.size s (pos + q2)).cell? ⟨Bs, 0, none⟩ = some (.string s) := (hbi.cell (p := ⟨Bs, 0, none⟩) (.inr rfl)).trans hBs
      have hDC := Tryd.utf8_DecodeRuneInString (s.extract pos s.size) (wr.iterAt W.heap.size s (pos + q2)) (tabs_l hT hbi)
      rw [hds] at hDC
      gi_wp2_with fail
      refine ⟨trivial, ?_⟩
      refine (callsIn_wide.2 hDC).mono ?_
      rintro e w1 ⟨rfl, hb1⟩
      have hbs1 : w1.cell? ⟨Bs, 0, none⟩ = some (.string s) := pw_cell_below hb1 hbs
      have hJ1 : J pre w1 := hJ pre _ _ none (hJ pre wr _ (some W.heap.size) hJs (grown_iterAt _ _ _ _) (fun r e => by cases e; exact ⟨Nat.le_refl _, _, hit, rfl⟩)) (grown_of_below hb1) (fun r e => by cases e)
      have hit1 : w1.heap[W.heap.size]? = some (.stringIter s (pos + q2)) := (walks_of_below hb1).same _ _ (Lib.iterAt_heap wr _ s pos _ hit) rfl
      have hb2 : Lies Bs W w1 := hbi.trans (Lies.of_below hb1 (by rw [Lib.iterAt_size]; omega) (by rw [Lib.iterAt_size]; omega))
      have hsz1 : W.heap.size < w1.heap.size := by have := hb1.size; rw [Lib.iterAt_size] at this; omega
      obtain ⟨fn, tmps, assign, body, hy, hR⟩ := hY pre (pre.length, s.extract pos (pos + q2)) w1 hJ1 (enumP_next hpre).1 ⟨_, (enumP_next hpre).2⟩
      dsimp only [encP] at hy
      gi_wp2_with fail
      refine hR.mono ?_
      rintro e W3 (⟨rfl, hJ3, hk3⟩ | ⟨rfl, hJx3⟩)
      · gi_wp2
        go_roundw
        case rel =>
          have hl : wrap64 ((pre.length : Int) + 1) = (((pre ++ [(pre.length, s.extract pos (pos + q2))]).length : Nat) : Int) := by
            have h1 := (enumP_next hpre).1
            have h2 : (pieces s).length ≤ s.size := by have := pcs_length s s.size 0; simpa [pieces] using this
            rw [w64 (by omega) (by omega)]; simp
          exact ⟨pos + q2, f, _, by first | rw [hl] | (congr 1; exact hl), (enumP_next hpre).2, by omega, hk3.2.same _ _ _ hit1, hb2.trans hk3.1, Nat.lt_of_lt_of_le hsz1 hk3.2.size, hJ3⟩
        case measure =>
          simp only [World.iterPos, hk3.2.same _ _ _ hit1, hit]
          omega
      · gi_wp2
        refine bodyPost_ret (results_none rfl _ _ _) rfl ?_
        exact ⟨⟨_, rfl⟩, .inr ⟨_, trivial, hJx3⟩⟩
    · have hnx : ∀ ty, (Instr.next (.pointer (some ⟨W.heap.size, 0, none⟩)) true ty).run Tryd.prog wr = _ := fun ty => Lib.run_next_end_at wr W.heap.size s pos ty hit hp
      rw [pcs_end _ _ _ hp] at hpre
      gi_wp2
      go_end0
      exact ⟨⟨_, rfl⟩, .inl ⟨pre, by simpa [enumP] using hpre, hJs⟩⟩
abbrev PieceOf (s : ByteArray) := { x : Nat × ByteArray // x ∈ enumP (pieces s) 0 }
theorem chars_stops (n : Nat) (hn : 1 ≤ n) (Bs : Nat) (s : ByteArray) (hs : s.size < 1000000000000) (w : World) (hBs : w.cell? ⟨Bs, 0, none⟩ = some (.string s)) (h2 : 2 ≤ w.heap.size) (hT : Tabs w) :
    SeqStopsK Fence.wide n Tryd.prog 71 #[.pointer (some ⟨Bs, 0, none⟩)] (fun x : PieceOf s => encP x.1) (Kp Bs) (fun ys => ys.map (·.1) = enumP (pieces s) 0) (fun _ => True) (pieces s).length w := fun l J Jx W hW hJ hJx hY h0 => by
  have hBn : Bs < w.heap.size := World.block_lt_of_cell? w _ hBs
  refine (chars1_in n hn l Bs s hs (fun pre W => ∃ pre' : List (PieceOf s), pre'.map (·.1) = pre ∧ J pre' W) (fun pre W => ∃ pre' : List (PieceOf s), pre'.map (·.1) = pre ∧ Jx pre' W) W
    (fun pre A B row ⟨pre', h1, h2⟩ hg hr => ⟨pre', h1, hJ _ _ _ _ h2 hg hr⟩) (Nat.lt_of_lt_of_le hBn hW.size) (Nat.le_trans h2 hW.size) ?_ ((hW.cell (p := ⟨Bs, 0, none⟩) hBn).trans hBs) (tabs_below hT hW) ⟨[], rfl, h0⟩).mono ?_
  · rintro pre x W1 ⟨pre', rfl, hJ1⟩ hlen hpx
    have hm : x ∈ enumP (pieces s) 0 := hpx.subset (by simp)
    refine (hY pre' ⟨x, hm⟩ W1 hJ1 (by simpa using hlen)).mono ?_
    rintro e W' (⟨rfl, h1, h2⟩ | ⟨rfl, h1⟩)
    · exact .inl ⟨rfl, ⟨_, by simp, h1⟩, h2⟩
    · exact .inr ⟨rfl, ⟨_, by simp, h1⟩⟩
  · rintro e W' ⟨hv, ⟨ys, rfl, pre', h1, h2⟩ | ⟨pre, _, pre', h1, h2⟩⟩
    · exact ⟨hv, .inl ⟨pre', h1, h2⟩⟩
    · exact ⟨hv, .inr ⟨pre', trivial, h2⟩⟩
theorem mem_enumP {x : Nat × ByteArray} : ∀ {l : List ByteArray} {k : Nat}, x ∈ enumP l k → k ≤ x.1 ∧ x.1 < k + l.length ∧ x.2 ∈ l
  | [], _, h => by simp [enumP] at h
  | p :: ps, k, h => by
    simp only [enumP, List.mem_cons] at h
    rcases h with rfl | h
    · simp
    · have := mem_enumP h
      exact ⟨by omega, by simp only [List.length_cons]; omega, by simp [this.2.2]⟩
theorem dw4 (n b0 b1 b2 b3 : Nat) : (Lib.decodeN n b0 b1 b2 b3).2 ≤ 4 := by
  unfold Lib.decodeN
  repeat' split
  all_goals (simp; try omega)
theorem width4 (s : ByteArray) (pos : Nat) : (Utf8.decode s pos).2 ≤ 4 := by rw [Lib.decode_N]; exact dw4 _ _ _ _ _
theorem pcs_size (s : ByteArray) {p : ByteArray} : ∀ n pos, p ∈ pcs s n pos → p.size ≤ 4 := by
  intro n
  induction n with
  | zero => intro pos h; simp [pcs] at h
  | succ n ih =>
    intro pos h
    by_cases hp : pos < s.size
    · rw [pcs_step s n pos hp] at h
      rcases List.mem_cons.1 h with rfl | h
      · have := width_le s pos hp
        have := width4 s pos
        rw [extract_size _ _ _ (by omega)]; omega
      · exact ih _ h
    · rw [pcs_end _ _ _ hp] at h; simp at h
theorem piece_facts {s : ByteArray} (x : PieceOf s) : x.1.1 < (pieces s).length ∧ (pieces s).length ≤ s.size ∧ x.1.2.size ≤ 4 := by
  have h := mem_enumP x.2
  have h2 := pcs_length s s.size 0
  exact ⟨by omega, by simpa [pieces] using h2, pcs_size s _ _ h.2.2⟩
/-! ### Cut -/
/-- A builder abides the turn of a block that is no cells; so does any block of cells. -/
theorem cells_keep {C : Nat} {W W' : World} {row : Option Nat} (hg : W.grownBy W' row) (hr : ∀ r, row = some r → C ≤ r ∧ ∃ o : Obj, W.heap[r]? = some o ∧ o.isCells = false) {k : Nat} {cs : Array Value} {t : TypeId} {fz : Nat × Nat} (hk : W.heap[k]? = some (Obj.cells cs t fz)) : W'.heap[k]? = some (Obj.cells cs t fz) := by
  refine (hg.block k (Array.getElem?_eq_some_iff.1 hk).1 (fun e1 => ?_)).trans hk
  obtain ⟨_, o, ho, hc⟩ := hr k e1.symm
  rw [hk] at ho
  cases ho
  simp [Obj.isCells] at hc
theorem cells_own {β : Type} (C k : Nat) (cs : Array Value) (t : TypeId) (fz : Nat × Nat) : OwnFrom C (fun (_ : β) W => W.heap[k]? = some (Obj.cells cs t fz)) := fun _ _ _ _ h hg hr => cells_keep hg hr h
theorem builder_own {T e : TypeId} {B b : Nat} {β : Type} (f : β → List Value) (C : Nat) : OwnFrom C (fun (s : β) W => Lib.IsBuilderF T e B b (f s) W) := by
  intro s W W' row h hg hr
  have one : ∀ p, Lib.BuilderAtF T e B b p (f s) W → Lib.BuilderAtF T e B b p (f s) W' := by
    rintro p ⟨hB, v, hb, hown, hne⟩
    have keep : ∀ (k : Nat) (cs : Array Value) (t : TypeId) (fz : Nat × Nat), W.heap[k]? = some (Obj.cells cs t fz) → W'.heap[k]? = some (Obj.cells cs t fz) := by
      intro k cs t fz hk
      refine (hg.block k (Array.getElem?_eq_some_iff.1 hk).1 (fun e1 => ?_)).trans hk
      obtain ⟨_, o, ho, hc⟩ := hr k e1.symm
      rw [hk] at ho
      cases ho
      simp [Obj.isCells] at hc
    refine ⟨hB, v, keep _ _ _ _ hb, ⟨hown.1, ?_⟩, hne⟩
    rcases hown.2 with hn | ⟨g, cap, cur, fz, hv, hbg, hgg, rest⟩
    · exact .inl hn
    · exact .inr ⟨g, cap, cur, fz, hv, hbg, keep _ _ _ _ hgg, rest⟩
  exact h.elim (fun x => .inl (one _ x)) (fun x => .inr (one _ x))
/-- A writer of the builder keeps whatever is no cells. -/
theorem others_keeps {T e : TypeId} {B b : Nat} {bs : List Value} {W W' : World} (h : Lib.IsBuilderF T e B b bs W) (hk : Lib.OthersKept e (some b) W W') (hs : W.heap.size ≤ W'.heap.size) : KeepsOthers W W' := by
  refine ⟨hs, fun k o ho hc => hk k o ho (fun e1 => ?_) (fun c fz e1 => by subst e1; simp [Obj.isCells] at hc)⟩
  cases e1
  rcases h with ⟨_, v, hb, _⟩ | ⟨_, v, hb, _⟩ <;> (rw [ho] at hb; cases hb; simp [Obj.isCells] at hc)
theorem keeps_walks {W W' : World} (h : KeepsOthers W W') : KeepsWalks W W' := ⟨h.size, fun k o ho hw => h.same k o ho (Obj.not_cells_of_walk hw)⟩
def cutE (a m : Int) (l : List (Nat × ByteArray)) : List UInt8 := l.flatMap fun x => if keepB x.1 a m then x.2.data.toList else []
theorem cutE_enum (a m : Int) : ∀ (ps : List ByteArray) (k : Nat), cutE a m (enumP ps k) = cutL a m ps k
  | [], _ => rfl
  | p :: ps, k => by
    have := cutE_enum a m ps (k + 1)
    unfold cutE at this ⊢
    rw [enumP, List.flatMap_cons, this]
    rfl
theorem cutE_snoc (a m : Int) (l : List (Nat × ByteArray)) (x : Nat × ByteArray) : cutE a m (l ++ [x]) = cutE a m l ++ (if keepB x.1 a m then x.2.data.toList else []) := by simp [cutE]
theorem cutE_le {s : ByteArray} (a m : Int) (l : List (PieceOf s)) : (cutE a m (l.map (·.1))).length ≤ 4 * l.length := by
  induction l with
  | nil => simp [cutE]
  | cons x l ih =>
    have h4 := (piece_facts x).2.2
    unfold cutE at ih ⊢
    rw [List.map_cons, List.flatMap_cons, List.length_append, List.length_cons]
    rw [Lib.size_eq] at h4
    split <;> (try simp only [List.length_nil]) <;> omega
set_option maxHeartbeats 16000000 in
set_option maxRecDepth 100000 in
theorem cut_calls (s : ByteArray) (a m : Int) (w : World) (hs : s.size < 1000000000000) (hT : Tabs w) (h2 : 2 ≤ w.heap.size) (ha0 : -9223372036854775808 ≤ a) (ha1 : a ≤ 9223372036854775807) (hm0 : -9223372036854775808 ≤ m) (hm1 : m ≤ 9223372036854775807) :
    Calls Tryd.prog 35 #[.string s, .int .i64 a, .int .i64 m] w fun e w' => e = .returned (.string (ba (cutB s a m))) ∧ Below w.heap.size w w' := by
  refine (callsIn_wide (n := 3)).1 ?_
  refine callsIn_of_wp_marks Tryd.func35 rfl trivial ?_ rfl
  simp only [Tryd.ntmps35, List.size_toArray, List.length_cons, List.length_nil, Nat.reduceAdd, Nat.reduceSub, Array.replicate_succ, Array.replicate_zero, List.push_toArray, List.append_toArray, List.nil_append, List.cons_append]
  by_cases hm : m < 1
  · gi_wp2_with fail
    refine ⟨_, results_tmp rfl _ _ _, ?_, ((Below.refl _ w).alloc (Nat.le_refl _) _).alloc (by simp) _⟩
    unfold cutB
    rw [if_pos hm]
    rfl
  · gi_wp2_with fail
    refine ⟨trivial, ?_⟩
    obtain ⟨w2, hw2⟩ : ∃ w2, (w.alloc (.cells #[.int .i64 a] 3)).alloc (.cells #[.int .i64 m] 3) = w2 := ⟨_, rfl⟩
    have hsz2 : w2.heap.size = w.heap.size + 2 := by rw [← hw2]; simp
    have hB2 : Below w.heap.size w w2 := by rw [← hw2]; exact ((Below.refl _ w).alloc (Nat.le_refl _) _).alloc (by simp) _
    have hb0 := Lib.fresh_isBuilder 64 5 w2
    have hc0 : w2.cell? ⟨w.heap.size, 0, none⟩ = some (.int .i64 a) := by rw [← hw2]; exact ((Boxed.new w 3 (.int .i64 a)).alloc _).cell
    have hc1 : w2.cell? ⟨w.heap.size + 1, 0, none⟩ = some (.int .i64 m) := by rw [← hw2]; have := (Boxed.new (w.alloc (.cells #[.int .i64 a] 3)) 3 (.int .i64 m)).cell; rwa [World.size_alloc] at this
    rw [hw2]
    rw [hsz2] at hb0
    obtain ⟨w3, hw3⟩ : ∃ w3, w2.alloc (.cells #[.pointer none, .slice none 0 0] 64) = w3 := ⟨_, rfl⟩
    have hsz3 : w3.heap.size = w.heap.size + 3 := by rw [← hw3]; simp [hsz2]
    have hB3 : Below (w.heap.size + 2) w2 w3 := by rw [← hw3]; exact (Below.refl _ w2).alloc (by omega) _
    rw [hw3] at hb0 ⊢
    refine (chars_in 2 s w3).mono ?_
    rintro e w4' ⟨rfl, rfl⟩
    obtain ⟨w4, hw4⟩ : ∃ w4, w3.alloc (.cells #[.string s] 9) = w4 := ⟨_, rfl⟩
    have hsz4 : w4.heap.size = w.heap.size + 4 := by rw [← hw4]; simp [hsz3]
    have hB4 : Below (w.heap.size + 2) w2 w4 := by rw [← hw4]; exact hB3.alloc (by omega) _
    have hbk : w4.heap[w.heap.size + 3]? = some (Obj.cells #[.string s] 9 (0, 0)) := by rw [← hw4, ← hsz3]; exact World.alloc_heap_new w3 _
    have hbx : w4.cell? ⟨w.heap.size + 3, 0, none⟩ = some (.string s) := by rw [← hw4]; have := (Boxed.new w3 9 (.string s)).cell; rwa [hsz3] at this
    have hb4 : Lib.IsBuilderF 64 5 (w.heap.size + 1 + 1) (w.heap.size + 1 + 1) (Lib.byteCells (cutE a m [])) w4 := by rw [← hw4]; exact (Lib.IsBuilderF.of hb0).alloc _
    rw [hw4, hsz3]
    have hT4 : Tabs w4 := tabs_below hT (hB2.trans (hB4.mono (by omega)))
    have hc0' : w4.cell? ⟨w.heap.size, 0, none⟩ = some (.int .i64 a) := (hB4.cell (p := ⟨w.heap.size, 0, none⟩) (by show w.heap.size < _; omega)).trans hc0
    have hc1' : w4.cell? ⟨w.heap.size + 1, 0, none⟩ = some (.int .i64 m) := (hB4.cell (p := ⟨w.heap.size + 1, 0, none⟩) (by show w.heap.size + 1 < _; omega)).trans hc1
    have hB04 : Below w.heap.size w w4 := hB2.trans (hB4.mono (by omega))
    clear hw2 hw3 hw4 hc0 hc1 hb0 hB2 hB3 hB4
    gi_wp2_with fail
    refine wpIn_rangeFunc_ownG rfl (by omega) (gf := 71) (lb := #[.pointer (some ⟨w.heap.size + 3, 0, none⟩)]) rfl trivial (enters_of Tryd.func71 (by kernel_rfl) rfl)
      (chars_stops 2 (by omega) (w.heap.size + 3) s hs w4 hbx (by omega) hT4) (fun h k => Kp.trans h k) (Kp.put (by omega) (by omega)) (Below.refl _ _) (fun _ => rfl)
      (fun pre W => (Lib.IsBuilderF 64 5 (w.heap.size + 1 + 1) (w.heap.size + 1 + 1) (Lib.byteCells (cutE a m (pre.map (·.1)))) W ∧ pre.length ≤ (pieces s).length ∧ W.heap[w.heap.size + 3]? = some (Obj.cells #[.string s] 9 (0, 0))) ∧ Below (w.heap.size + 1 + 1) w4 W)
      (fun _ _ _ => False)
      (OwnFrom.and (OwnFrom.and (builder_own (fun pre : List (PieceOf s) => Lib.byteCells (cutE a m (pre.map (·.1)))) _) (OwnFrom.and (fun _ _ _ _ hs _ _ => hs) (cells_own _ _ _ _ _))) (ownFrom_below (by omega) (by omega)))
      (fun _ _ _ _ _ hs _ _ => hs)
      ⟨⟨hb4, by simp, hbk⟩, Below.refl _ _⟩
      (fun x => { tmps := #[.string s, .int .i64 a, .int .i64 m, undef, .pointer (some ⟨w.heap.size, 0, none⟩), .pointer (some ⟨w.heap.size + 1, 0, none⟩), .string ⟨#[]⟩, .pointer (some ⟨w.heap.size + 1 + 1, 0, none⟩), .int .i64 (x.1.1 : Int), .string x.1.2, .int .i64 m, .bool false, .string s,
        .func (.func 71) #[] #[.pointer (some ⟨w.heap.size + 3, 0, none⟩)], .int .i64 (x.1.1 : Int), .string x.1.2, undef, undef, undef, undef, undef, undef, undef, undef, undef, undef, undef, undef, undef, undef, undef, undef, undef, undef, undef, undef, undef, undef, undef, undef, undef, undef, undef, undef], defers := [] }) ?assign ?body ?done ?stop
    case assign =>
      intro l x W K hK
      gi_wp2
      exact hK
    case body =>
      rintro l pre x W ⟨⟨hI, hpl, hbk⟩, hBW⟩ hlen
      have hd : 1 ≤ 3 - 1 - 1 := by omega
      have hx := piece_facts x
      have hsn := cutE_snoc a m (pre.map (·.1)) x.1
      have hle := cutE_le a m pre
      have hca : W.cell? ⟨w.heap.size, 0, none⟩ = some (.int .i64 a) := (hBW.cell (p := ⟨w.heap.size, 0, none⟩) (by show w.heap.size < _; omega)).trans hc0'
      have hcm : W.cell? ⟨w.heap.size + 1, 0, none⟩ = some (.int .i64 m) := (hBW.cell (p := ⟨w.heap.size + 1, 0, none⟩) (by show w.heap.size + 1 < _; omega)).trans hc1'
      clear hc0' hc1' hbx hT4 hB04 hT
      have hWs := (World.block_lt_of_cell? W _ hcm)
      have skip : keepB x.1.1 a m = false → (Lib.IsBuilderF 64 5 (w.heap.size + 1 + 1) (w.heap.size + 1 + 1) (Lib.byteCells (cutE a m ((pre ++ [x]).map (·.1)))) W ∧ (pre ++ [x]).length ≤ (pieces s).length ∧ W.heap[w.heap.size + 3]? = some (Obj.cells #[.string s] 9 (0, 0))) ∧ Below (w.heap.size + 1 + 1) w4 W := by
        intro hk
        rw [List.map_append, List.map_cons, List.map_nil, hsn, hk]
        exact ⟨⟨by simpa using hI, by simp; omega, hbk⟩, hBW⟩
      have hbs : w.heap.size + 1 + 1 ≤ W.heap.size := by have := hBW.size; omega
      have call := Tryd.Builder_WriteString_k (w.heap.size + 1 + 1) (w.heap.size + 1 + 1) _ x.1.2 W hI (by rw [Lib.byteCells_length]; omega) hbs
      have fin : ∀ W1, keepB x.1.1 a m = true → Lib.BuilderAtF 64 5 (w.heap.size + 1 + 1) (w.heap.size + 1 + 1) (.pointer (some ⟨w.heap.size + 1 + 1, 0, none⟩)) (Lib.byteCells (cutE a m (pre.map (·.1))) ++ Lib.strCells x.1.2) W1 → Below (w.heap.size + 1 + 1) W W1 → Lib.OthersKept 5 (some (w.heap.size + 1 + 1)) W W1 →
          KeepsFrom w4.heap.size W W1 ∧ Kp (w.heap.size + 3) W W1 ∧ (Lib.IsBuilderF 64 5 (w.heap.size + 1 + 1) (w.heap.size + 1 + 1) (Lib.byteCells (cutE a m ((pre ++ [x]).map (·.1)))) W1 ∧ (pre ++ [x]).length ≤ (pieces s).length ∧ W1.heap[w.heap.size + 3]? = some (Obj.cells #[.string s] 9 (0, 0))) ∧ Below (w.heap.size + 1 + 1) w4 W1 := by
        intro W1 hk h1 h2 h3
        have ko := others_keeps hI h3 h2.size
        have hb1 := h3 _ _ hbk (by simp) (fun c fz e1 => by cases e1)
        refine ⟨ko.from _, ⟨fun k hk2 => ?_, KeepsIt.of (keeps_walks ko)⟩, ⟨.inr ?_, by simp; omega, hb1⟩, hBW.trans h2⟩
        · rcases hk2 with hk2 | rfl
          · exact h2.block k (by omega)
          · rw [hbk, hb1]
        · rw [List.map_append, List.map_cons, List.map_nil, hsn, hk, if_pos rfl, Lib.byteCells_append]
          exact h1
      gi_wp2_with fail
      all_goals first
        | exact ⟨KeepsFrom.refl _ _, ⟨Lies.refl _ _, KeepsIt.refl _⟩, skip (by unfold keepB; simp; omega)⟩
        | (refine ⟨trivial, ?_⟩
           refine (CallsIn.inRound l (callsIn_wide.2 call)).mono ?_
           rintro e W1 ⟨rfl, h1, h2, h3⟩
           have hk : keepB x.1.1 a m = true := by unfold keepB; simp; omega
           gi_wp2_with fail
           exact fin W1 hk h1 h2 h3)
    case done =>
      rintro D ys W hD hys ⟨⟨hI, hpl, hbk⟩, hBW⟩ hK
      gi_wp2_with fail
      refine ⟨trivial, ?_⟩
      refine (callsIn_wide.2 (Tryd.Builder_String_any_k (w.heap.size + 1 + 1) (w.heap.size + 1 + 1) _ W hI (by have := hBW.size; omega))).mono ?_
      rintro e W1 ⟨rfl, h1, h2, h3⟩
      gi_wp2_with fail
      have hK1 : W1.heap[D]? = some (.deferred (some [])) := (others_keeps hI h3 h2.size).same D _ hK rfl
      refine ⟨by simp, .inl ⟨_, _, rfl, run_takeDeferred hK1, ?_⟩⟩
      refine ⟨_, results_tmp rfl _ _ _, ?_, ?_⟩
      · rw [cutE_enum]
        unfold cutB
        rw [if_neg (by omega)]
        rfl
      · exact ((hB04.trans (hBW.mono (by omega))).trans (h2.mono (by omega))).trans (belowK_b (w := w) (Nat.le_refl _) W1 D _ _ (by omega) hK1 rfl rfl)
    case stop =>
      rintro D c pre W _ _ h _
      exact h.elim
end Go.Proofs.YticpobgkbapdmaaDoor.SpanB
