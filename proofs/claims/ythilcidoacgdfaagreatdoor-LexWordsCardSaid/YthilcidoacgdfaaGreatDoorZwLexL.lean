import Derived.Test.YthilcidoacgdfaaGreatDoorZwLexJ
import Derived.Test.YthilcidoacgdfaaGreatDoorZwLexK
namespace Go.Proofs.YthilcidoacgdfaaGreatDoor.CharA
end Go.Proofs.YthilcidoacgdfaaGreatDoor.CharA
namespace Go.Proofs.YthilcidoacgdfaaGreatDoor.CharB
end Go.Proofs.YthilcidoacgdfaaGreatDoor.CharB
namespace Go.Proofs.YthilcidoacgdfaaGreatDoor.CharD
end Go.Proofs.YthilcidoacgdfaaGreatDoor.CharD
namespace Go.Proofs.YthilcidoacgdfaaGreatDoor.CharF
end Go.Proofs.YthilcidoacgdfaaGreatDoor.CharF
namespace Go.Proofs.YthilcidoacgdfaaGreatDoor.FigA
end Go.Proofs.YthilcidoacgdfaaGreatDoor.FigA
namespace Go.Proofs.YthilcidoacgdfaaGreatDoor.FigC
end Go.Proofs.YthilcidoacgdfaaGreatDoor.FigC
namespace Go.Proofs.YthilcidoacgdfaaGreatDoor.FigD
end Go.Proofs.YthilcidoacgdfaaGreatDoor.FigD
namespace Go.Proofs.YthilcidoacgdfaaGreatDoor.FigG
end Go.Proofs.YthilcidoacgdfaaGreatDoor.FigG
namespace Go.Proofs.YthilcidoacgdfaaGreatDoor.FigH
end Go.Proofs.YthilcidoacgdfaaGreatDoor.FigH
namespace Go.Proofs.YthilcidoacgdfaaGreatDoor.FigI
end Go.Proofs.YthilcidoacgdfaaGreatDoor.FigI
namespace Go.Proofs.YthilcidoacgdfaaGreatDoor.LexA
end Go.Proofs.YthilcidoacgdfaaGreatDoor.LexA
namespace Go.Proofs.YthilcidoacgdfaaGreatDoor.LexF
end Go.Proofs.YthilcidoacgdfaaGreatDoor.LexF
namespace Go.Proofs.YthilcidoacgdfaaGreatDoor.LexG
end Go.Proofs.YthilcidoacgdfaaGreatDoor.LexG
namespace Go.Proofs.YthilcidoacgdfaaGreatDoor.LexH
end Go.Proofs.YthilcidoacgdfaaGreatDoor.LexH
namespace Go.Proofs.YthilcidoacgdfaaGreatDoor.LexI
end Go.Proofs.YthilcidoacgdfaaGreatDoor.LexI
namespace Go.Proofs.YthilcidoacgdfaaGreatDoor.LexJ
end Go.Proofs.YthilcidoacgdfaaGreatDoor.LexJ
namespace Go.Proofs.YthilcidoacgdfaaGreatDoor.LexK
end Go.Proofs.YthilcidoacgdfaaGreatDoor.LexK
namespace Go.Proofs.YthilcidoacgdfaaGreatDoor.SpanA
end Go.Proofs.YthilcidoacgdfaaGreatDoor.SpanA
namespace Go.Proofs.YthilcidoacgdfaaGreatDoorW.PrintLast
end Go.Proofs.YthilcidoacgdfaaGreatDoorW.PrintLast
namespace Go.Proofs.YthilcidoacgdfaaGreatDoorW.PrintMore
end Go.Proofs.YthilcidoacgdfaaGreatDoorW.PrintMore
namespace Go.Proofs.YthilcidoacgdfaaGreatDoorW.PrintWords
end Go.Proofs.YthilcidoacgdfaaGreatDoorW.PrintWords
namespace Go.Proofs.YthilcidoacgdfaaGreatDoor.LexL
open Go.RowKit Go.Shelf YthilcidoacgdfaaGreatDoorW.PrintWords YthilcidoacgdfaaGreatDoorW.PrintLast YthilcidoacgdfaaGreatDoorW.PrintMore CharA CharB CharD CharF SpanA FigA FigC FigD FigG FigH FigI LexA LexF LexG LexH LexI LexJ LexK
set_option linter.unusedVariables false
set_option linter.unusedSimpArgs false
set_option linter.unusedSectionVars false
abbrev Way := Option (Option (Wd × List UInt8))
def qv1 : List Way → Option (Wd × List UInt8)
 | [] => none
 | none :: l => qv1 l
 | some x :: _ => x
def way0 (c : UInt8) (t : List UInt8) : Way := if c = 34 ∨ c = 39 then some (litW c t) else none
def way1 (s : List UInt8) : Way := if numB s = true then some (numW s) else none
def way2 (s : List UInt8) : Way := match qv marksL s with | some m => some (some ((1, m, 0, 0), s.drop m.length)) | none => match qv opsL s with | some m => some (some ((5, m, 0, 0), s.drop m.length)) | none => none
def way3 (c : UInt8) (t : List UInt8) (e : Bool) : Way := if c = 42 then some (some ((if e = true then 5 else 3, [42], 0, 0), t)) else none
def way4 (c : UInt8) (t : List UInt8) : Way := if c = 36 then some (varW t) else none
def way5 (s : List UInt8) (e : Bool) : Way := if runS s = [] then none else some (nameW s e)
def waysL (c : UInt8) (t : List UInt8) (e : Bool) : List Way := [way0 c t, way1 (c :: t), way2 (c :: t), way3 c t e, way4 c t, way5 (c :: t) e, some none]
theorem fw_none (l : List Way) : qv1 (none :: l) = qv1 l := rfl
theorem fw_some (x : Option (Wd × List UInt8)) (l : List Way) : qv1 (some x :: l) = x := rfl
theorem one_ways (c : UInt8) (t : List UInt8) (e : Bool) : oneW (c :: t) e = qv1 (waysL c t e) := by
 have hn : runS (c :: t) = [] → nameW (c :: t) e = none := by
  intro h
  unfold nameW
  rw [h, if_neg (by decide)]
 have h5 : qv1 [way5 (c :: t) e, some none] = nameW (c :: t) e := by
  unfold way5
  by_cases h : runS (c :: t) = []
  ·rw [if_pos h, fw_none, fw_some, hn h]
  ·rw [if_neg h, fw_some]
 have h4 : qv1 [way4 c t, way5 (c :: t) e, some none] = if c = 36 then varW t else nameW (c :: t) e := by
  unfold way4
  by_cases h : c = 36
  ·rw [if_pos h, if_pos h, fw_some]
  ·rw [if_neg h, if_neg h, fw_none]; exact h5
 have h3 : qv1 [way3 c t e, way4 c t, way5 (c :: t) e, some none] = if c = 42 then some ((if e = true then 5 else 3, [42], 0, 0), t) else if c = 36 then varW t else nameW (c :: t) e := by
  unfold way3
  by_cases h : c = 42
  ·rw [if_pos h, if_pos h, fw_some]
  ·rw [if_neg h, if_neg h, fw_none]; exact h4
 unfold waysL
 simp only [oneW]
 unfold way0
 by_cases h0 : c = 34 ∨ c = 39
 ·rw [if_pos h0, if_pos h0, fw_some]
 rw [if_neg h0, if_neg h0, fw_none]
 unfold way1
 by_cases h1 : numB (c :: t) = true
 ·rw [if_pos h1, if_pos h1, fw_some]
 rw [if_neg h1, if_neg h1, fw_none]
 unfold way2
 cases qv marksL (c :: t) with
 | some m => rfl
 | none =>
  cases qv opsL (c :: t) with
  | some m => rfl
  | none => simp only; rw [fw_none]; exact h3.symm
def WP (b B : Nat) (s : ByteArray) (l : List Wd) (w : World) (o : Way) (e : Ending) (w' : World) : Prop :=
 e = .returned (.bool o.isSome) ∧ Fr b B w w' ∧ (match o with | none => LB b B s l false w' | some none => LB b B s l true w' | some (some (v, r)) => LB b B (ba r) (l ++ [v]) false w')
theorem wp_no {b B : Nat} {s : ByteArray} {l : List Wd} {w : World} (h : LB b B s l false w) {f : FuncId} (hc : Calls Tryz.prog f #[selfL b] w fun e w' => e = .returned (.bool false) ∧ w = w') : Calls Tryz.prog f #[selfL b] w (WP b B s l w none) :=
 hc.mono fun e w' ⟨h1, h2⟩ => by subst h2; exact ⟨h1, Fr.refl _ _ _, h⟩
theorem wp_below {b B : Nat} {s : ByteArray} {l : List Wd} {w : World} (h : LB b B s l false w) (hb : b < B) (hB : B ≤ w.heap.size) {f : FuncId} (hc : Calls Tryz.prog f #[selfL b] w fun e w' => e = .returned (.bool false) ∧ Below w.heap.size w w') : Calls Tryz.prog f #[selfL b] w (WP b B s l w none) :=
 hc.mono fun e w' ⟨h1, h2⟩ => ⟨h1, Fr.of_below h2 hB (Nat.le_of_lt hb), h.below h2⟩
theorem wp_fail {b B : Nat} {s : ByteArray} {l : List Wd} {w : World} {f : FuncId} (hc : Calls Tryz.prog f #[selfL b] w fun e w' => e = .returned (.bool true) ∧ LB b B s l true w' ∧ Fr b B w w') : Calls Tryz.prog f #[selfL b] w (WP b B s l w (some none)) :=
 hc.mono fun e w' ⟨h1, h2, h3⟩ => ⟨h1, h3, h2⟩
theorem wp_say {b B : Nat} {s : ByteArray} {l : List Wd} {w : World} {f : FuncId} {v : Wd} {r : List UInt8} (hc : Calls Tryz.prog f #[selfL b] w fun e w' => e = .returned (.bool true) ∧ LB b B (ba r) (l ++ [v]) false w' ∧ Fr b B w w') : Calls Tryz.prog f #[selfL b] w (WP b B s l w (some (some (v, r)))) :=
 hc.mono fun e w' ⟨h1, h2, h3⟩ => ⟨h1, h3, h2⟩
section
variable (b B : Nat) (c : UInt8) (t : List UInt8) (l : List Wd) (w : World) (h : LB b B (ba (c :: t)) l false w) (hb : b < B) (hB : B ≤ w.heap.size) (hl : l.length ≤ 1000) (hs : t.length ≤ 1000) (hT : Tabs w)
include h hb hB hl hs hT
theorem way0_call : Calls Tryz.prog 26 #[selfL b] w (WP b B (ba (c :: t)) l w (way0 c t)) := by
 unfold way0
 by_cases h0 : c = 34 ∨ c = 39
 ·rw [if_pos h0]
  unfold litW
  cases hq : cutC c t with
  | none => exact wp_fail (literal_fail b B _ (ba t) c l w h hb (head_of c t) h0 hq)
  | some q =>
   obtain ⟨a, r⟩ := q
   exact wp_say (literal_say b B _ (ba t) c a r l w h hb hB hl (by rw [qc1]; simp; omega) (head_of c t) h0 hq)
 ·rw [if_neg h0]
  exact wp_no h (literal_no b B _ (ba t) c l w h (head_of c t) h0)
theorem way2_call : Calls Tryz.prog 28 #[selfL b] w (WP b B (ba (c :: t)) l w (way2 (c :: t))) := by
 unfold way2
 cases hm : qv marksL (c :: t) with
 | some m => exact wp_say (mark_one b B _ m l w h hb hB hl hm)
 | none =>
  cases ho : qv opsL (c :: t) with
  | some m => exact wp_say (mark_two b B _ m l w h hb hB hl hm ho)
  | none => exact wp_no h (mark_no b B _ l w h hm ho)
theorem way3_call : Calls Tryz.prog 29 #[selfL b] w (WP b B (ba (c :: t)) l w (way3 c t (endsW l))) := by
 unfold way3
 by_cases h0 : c = 42
 ·rw [if_pos h0]
  exact wp_say (star_say b B _ (ba t) c l w h hb hB hl (head_of c t) h0)
 ·rw [if_neg h0]
  exact wp_no h (star_no b B _ (ba t) c l w h (head_of c t) h0)
theorem way4_call : Calls Tryz.prog 30 #[selfL b] w (WP b B (ba (c :: t)) l w (way4 c t)) := by
 unfold way4
 by_cases h0 : c = 36
 ·rw [if_pos h0]
  have := variable_yes b B _ (ba t) c l w h hb hB hl (by rw [qc1]; simp; omega) hT (head_of c t) h0
  rw [qu] at this
  unfold varW
  by_cases hn : nameB (ba (runS t)) = true
  ·rw [if_pos hn]
   simp only [hn, if_true] at this
   exact wp_say this
  ·rw [if_neg hn]
   simp only [hn, if_false] at this
   exact wp_fail this
 ·rw [if_neg h0]
  exact wp_no h (variable_no b B _ (ba t) c l w h (head_of c t) h0)
theorem way5_call : Calls Tryz.prog 31 #[selfL b] w (WP b B (ba (c :: t)) l w (way5 (c :: t) (endsW l))) := by
 unfold way5
 by_cases h0 : runS (c :: t) = []
 ·rw [if_pos h0]
  exact wp_below h hb hB (name_no b B _ l w h (by rw [qc1]; simp; omega) hT h0)
 ·rw [if_neg h0]
  have := name_yes b B _ l w h hb hB hl (by rw [qc1]; simp; omega) hT h0
  rw [qu] at this
  unfold nameW
  unfold nameR2 at this
  by_cases hn : nameB (ba (runS (c :: t))) = true
  ·rw [if_pos hn]
   simp only [hn, if_true] at this
   by_cases he : endsW l = true
   ·rw [if_pos he]
    simp only [he, if_true] at this
    by_cases hf : fourL.contains (runS (c :: t)) = true
    ·rw [if_pos hf]
     simp only [hf, if_true] at this
     exact wp_say this
    ·rw [if_neg hf]
     simp only [hf, if_false] at this
     exact wp_fail this
   ·rw [if_neg he]
    simp only [he, if_false] at this
    exact wp_say this
  ·rw [if_neg hn]
   simp only [hn, if_false] at this
   exact wp_fail this
theorem way6_call : Calls Tryz.prog 32 #[selfL b] w (WP b B (ba (c :: t)) l w (some none)) := wp_fail (fail_call b B _ l w h hb)
end
theorem drop_while (p : UInt8 → Bool) : ∀ l : List UInt8, l.dropWhile p = l.drop (l.takeWhile p).length
 | [] => rfl
 | x :: l => by
  rw [List.dropWhile_cons, List.takeWhile_cons]
  cases hp : p x with
  | true => simpa using drop_while p l
  | false => simp
theorem numT_pre (L : List UInt8) : ∃ y, L = numT L ++ y := by
 have h : L.takeWhile digB ++ L.dropWhile digB = L := List.takeWhile_append_dropWhile
 unfold numT
 split
 ·rename_i h2
  cases hr : L.dropWhile digB with
  | nil => rw [hr] at h2; simp at h2
  | cons a r =>
   rw [hr] at h2
   obtain rfl : a = 46 := by simpa using h2
   refine ⟨r.dropWhile digB, ?_⟩
   rw [List.tail_cons, List.append_assoc, List.cons_append, List.takeWhile_append_dropWhile, ← hr, h]
 ·exact ⟨L.dropWhile digB, h.symm⟩
theorem numT_take (L : List UInt8) : L.take (numT L).length = numT L := by
 obtain ⟨y, hy⟩ := numT_pre L
 have : (numT L ++ y).take (numT L).length = numT L := List.take_left
 rwa [← hy] at this
theorem num_ext (L : List UInt8) (N : Nat) (hN : (numT L).length = N) : (ba L).extract 0 N = ba (numT L) ∧ (ba L).extract N (ba L).size = ba (L.drop (numT L).length) := by
 have hle := numT_le L
 refine ⟨?_, ?_⟩
 ·rw [ext_take _ N (by rw [qc1]; omega), qu, ← hN, numT_take]
 ·rw [ext_drop _ N (by rw [qc1]; omega), qu, hN]
theorem num_wp {b B : Nat} {s : ByteArray} {l : List Wd} {w : World} {f : FuncId} {L : List UInt8} (hc : Calls Tryz.prog f #[selfL b] w fun e w' => e = .returned (.bool true) ∧ numR b B s l (numT L) (L.drop (numT L).length) w' ∧ Fr b B w w') : Calls Tryz.prog f #[selfL b] w (WP b B s l w (some (numW L))) := by
 unfold numR at hc
 unfold numW
 by_cases h : (litS (numT L)).2 = true ∧ (litS (numT L)).1.1 = 0
 ·rw [if_pos h]
  simp only [if_pos h] at hc
  exact wp_say hc
 ·rw [if_neg h]
  simp only [if_neg h] at hc
  exact wp_fail hc
theorem dgN_ba (L : List UInt8) : dgN (ba L) = (L.takeWhile digB).length := rfl
theorem way1_call (b B : Nat) (c : UInt8) (t : List UInt8) (l : List Wd) (w : World) (h : LB b B (ba (c :: t)) l false w) (hb : b < B) (hB : B ≤ w.heap.size) (hl : l.length ≤ 1000) (hs : t.length ≤ 1000) : Calls Tryz.prog 27 #[selfL b] w (WP b B (ba (c :: t)) l w (way1 (c :: t))) := by
 have hsz : (ba (c :: t)).size ≤ 1000000000 := by rw [qc1]; simp; omega
 have hd := head_of c t
 unfold way1
 by_cases hdc : digB c = true
 ·have hn : numB (c :: t) = true := by unfold numB; simp [hdc]
  rw [if_pos hn]
  apply num_wp
  have hpos : 0 < dgN (ba (c :: t)) := by rw [dgN_ba, List.takeWhile_cons, if_pos hdc]; simp
  have hle := dgN_le (ba (c :: t))
  have hdw := drop_while digB (c :: t)
  have hdg := dgN_ba (c :: t)
  generalize hL : c :: t = L at *
  by_cases hq : dgN (ba L) < (ba L).size
  ·have hq' : (L.takeWhile digB).length < L.length := by rw [← hdg, ← qc1 L]; exact hq
   have hcons : L.dropWhile digB = L[(L.takeWhile digB).length] :: L.drop ((L.takeWhile digB).length + 1) := by rw [hdw]; exact List.drop_eq_getElem_cons hq'
   by_cases h46 : L[(L.takeWhile digB).length] = 46
   ·have hN : (numT L).length = (L.takeWhile digB).length + (1 + dgN (ba (L.drop ((L.takeWhile digB).length + 1)))) := by
     unfold numT
     rw [hcons, h46, if_pos (by simp), List.tail_cons, List.length_append, List.length_cons, dgN_ba]
     omega
    obtain ⟨e1, e2⟩ := num_ext L _ hN
    exact number_p b B (L.takeWhile digB).length (dgN (ba (L.drop ((L.takeWhile digB).length + 1)))) (ba L) (ba (L.drop ((L.takeWhile digB).length + 1))) c l w h hb hB hl hsz hdg (by rw [← hdg]; exact hpos) (by rw [← hdg]; exact hq) h46 (by rw [ext_drop _ _ (by rw [qc1]; omega), qu]) rfl _ _ e1 e2
   ·have hN : (numT L).length = (L.takeWhile digB).length := by
     unfold numT
     rw [hcons, if_neg (by rw [List.head?_cons]; intro q; exact h46 (Option.some.inj q))]
    obtain ⟨e1, e2⟩ := num_ext L _ hN
    exact number_q1 b B (L.takeWhile digB).length (ba L) c l w h hb hB hl hsz hdg (by rw [← hdg]; exact hpos) (by rw [← hdg]; exact hq) h46 _ _ e1 e2
  ·have hdn : L.dropWhile digB = [] := by rw [hdw]; exact List.drop_eq_nil_of_le (by rw [← hdg, ← qc1 L]; omega)
   have hN : (numT L).length = (L.takeWhile digB).length := by
    unfold numT
    rw [hdn, if_neg (by simp)]
   obtain ⟨e1, e2⟩ := num_ext L _ hN
   exact number_q2 b B (L.takeWhile digB).length (ba L) c l w h hb hB hl hsz hdg (by rw [← hdg]; exact hpos) (by rw [← hdg]; exact hq) _ _ e1 e2
 ·have h0 : dgN (ba (c :: t)) = 0 := by rw [dgN_ba, List.takeWhile_cons, if_neg hdc]; rfl
  by_cases hc : c = 46
  ·by_cases ht : dgN (ba t) = 0
   ·have hn : ¬ numB (c :: t) = true := by
     unfold numB
     simp only [hdc, Bool.false_or, Bool.and_eq_true]
     rintro ⟨_, hx⟩
     cases t with
     | nil => cases hx
     | cons d t => rw [dgN_ba, List.takeWhile_cons, if_pos hx] at ht; simp at ht
    rw [if_neg hn]
    exact wp_no h (number_no2 b B _ _ (ba t) c l w h hsz hd h0 hc rfl ht)
   ·have hn : numB (c :: t) = true := by
     unfold numB
     rw [hc]
     cases t with
     | nil => exact absurd rfl ht
     | cons d t =>
      cases hx : digB d with
      | true => simp [hx]
      | false => rw [dgN_ba, List.takeWhile_cons, if_neg (by simp [hx])] at ht; exact absurd rfl ht
    rw [if_pos hn]
    apply num_wp
    have hN : (numT (c :: t)).length = 1 + dgN (ba t) := by
     unfold numT
     rw [List.dropWhile_cons, if_neg hdc, List.takeWhile_cons, if_neg hdc, hc, if_pos (by rfl), dgN_ba]
     simp
     omega
    obtain ⟨e1, e2⟩ := num_ext (c :: t) _ hN
    exact number_c b B 0 (dgN (ba t)) _ (ba t) c l w h hb hB hl hsz hd h0 hc rfl (by omega) _ _ e1 e2
  ·have hn : ¬ numB (c :: t) = true := by
    unfold numB
    simp [hdc, hc]
   rw [if_neg hn]
   exact wp_no h (number_no1 b B _ (ba t) c l w h hsz hd h0 hc)
end Go.Proofs.YthilcidoacgdfaaGreatDoor.LexL
