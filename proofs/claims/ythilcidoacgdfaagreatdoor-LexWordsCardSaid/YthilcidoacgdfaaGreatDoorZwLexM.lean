import Derived.Test.YthilcidoacgdfaaGreatDoorZwLexL
import Derived.Deep.LoopGhost
set_option maxHeartbeats 40000000
set_option maxRecDepth 100000
namespace Go.Proofs.YthilcidoacgdfaaGreatDoor.CharA
end Go.Proofs.YthilcidoacgdfaaGreatDoor.CharA
namespace Go.Proofs.YthilcidoacgdfaaGreatDoor.CharB
end Go.Proofs.YthilcidoacgdfaaGreatDoor.CharB
namespace Go.Proofs.YthilcidoacgdfaaGreatDoor.CharD
end Go.Proofs.YthilcidoacgdfaaGreatDoor.CharD
namespace Go.Proofs.YthilcidoacgdfaaGreatDoor.CharF
end Go.Proofs.YthilcidoacgdfaaGreatDoor.CharF
namespace Go.Proofs.YthilcidoacgdfaaGreatDoor.FigA
end Go.Proofs.YthilcidoacgdfaaGreatDoor.FigA
namespace Go.Proofs.YthilcidoacgdfaaGreatDoor.FigC
end Go.Proofs.YthilcidoacgdfaaGreatDoor.FigC
namespace Go.Proofs.YthilcidoacgdfaaGreatDoor.FigD
end Go.Proofs.YthilcidoacgdfaaGreatDoor.FigD
namespace Go.Proofs.YthilcidoacgdfaaGreatDoor.FigG
end Go.Proofs.YthilcidoacgdfaaGreatDoor.FigG
namespace Go.Proofs.YthilcidoacgdfaaGreatDoor.FigH
end Go.Proofs.YthilcidoacgdfaaGreatDoor.FigH
namespace Go.Proofs.YthilcidoacgdfaaGreatDoor.FigI
end Go.Proofs.YthilcidoacgdfaaGreatDoor.FigI
namespace Go.Proofs.YthilcidoacgdfaaGreatDoor.LexA
end Go.Proofs.YthilcidoacgdfaaGreatDoor.LexA
namespace Go.Proofs.YthilcidoacgdfaaGreatDoor.LexF
end Go.Proofs.YthilcidoacgdfaaGreatDoor.LexF
namespace Go.Proofs.YthilcidoacgdfaaGreatDoor.LexG
end Go.Proofs.YthilcidoacgdfaaGreatDoor.LexG
namespace Go.Proofs.YthilcidoacgdfaaGreatDoor.LexH
end Go.Proofs.YthilcidoacgdfaaGreatDoor.LexH
namespace Go.Proofs.YthilcidoacgdfaaGreatDoor.LexI
end Go.Proofs.YthilcidoacgdfaaGreatDoor.LexI
namespace Go.Proofs.YthilcidoacgdfaaGreatDoor.LexJ
end Go.Proofs.YthilcidoacgdfaaGreatDoor.LexJ
namespace Go.Proofs.YthilcidoacgdfaaGreatDoor.LexK
end Go.Proofs.YthilcidoacgdfaaGreatDoor.LexK
namespace Go.Proofs.YthilcidoacgdfaaGreatDoor.LexL
end Go.Proofs.YthilcidoacgdfaaGreatDoor.LexL
namespace Go.Proofs.YthilcidoacgdfaaGreatDoor.SpanA
end Go.Proofs.YthilcidoacgdfaaGreatDoor.SpanA
namespace Go.Proofs.YthilcidoacgdfaaGreatDoorW.PrintLast
end Go.Proofs.YthilcidoacgdfaaGreatDoorW.PrintLast
namespace Go.Proofs.YthilcidoacgdfaaGreatDoorW.PrintMore
end Go.Proofs.YthilcidoacgdfaaGreatDoorW.PrintMore
namespace Go.Proofs.YthilcidoacgdfaaGreatDoorW.PrintWords
end Go.Proofs.YthilcidoacgdfaaGreatDoorW.PrintWords
namespace Go.Proofs.YthilcidoacgdfaaGreatDoor.LexM
open Go.RowKit Go.Shelf YthilcidoacgdfaaGreatDoorW.PrintWords YthilcidoacgdfaaGreatDoorW.PrintLast YthilcidoacgdfaaGreatDoorW.PrintMore CharA CharB CharD CharF SpanA FigA FigC FigD FigG FigH FigI LexA LexF LexG LexH LexI LexJ LexK LexL
set_option linter.unusedVariables false
set_option linter.unusedSimpArgs false
def Got (w : World) (R : List Wd × Int) (e : Ending) (w' : World) : Prop :=
 ∃ A cap, e = .returned (.tuple #[.slice A R.1.length cap, .int .i64 R.2]) ∧ w'.ownsRow w.heap.size 49 4 (.slice A R.1.length cap) R.1.length (wcs R.1) ∧ Below w.heap.size w w'
theorem ql1 {w w' : World} {n : Int} (h : Below w.heap.size w w') : Got w ([], n) (.returned (.tuple #[.slice none 0 0, .int .i64 n])) w' :=
 ⟨none, 0, rfl, World.ownsRow_nil _ _ _ _, h⟩
def wayV (f : Fn) (b : Nat) : Value := .func f #[.pointer (some ⟨b, 0, none⟩)] #[]
def Seven (b g : Nat) (W : World) : Prop := W.heap[g]? = some (Obj.cells #[wayV (.func 26) b, wayV (.func 27) b, wayV (.func 28) b, wayV (.func 29) b, wayV (.func 30) b, wayV (.func 31) b, wayV (.func 32) b] 22 (0, 0))
theorem own_lower {w : World} {B B' : Nat} {t : TypeId} {m n : Nat} {v : Value} {xs : List Value} (hB : B' ≤ B) (h : w.ownsRow B t m v n xs) : w.ownsRow B' t m v n xs := by
 refine ⟨h.1, ?_⟩
 rcases h.2 with h2 | ⟨g, cap, cur, hv, hg, r⟩
 ·exact .inl h2
 ·exact .inr ⟨g, cap, cur, hv, Nat.le_trans hB hg, r⟩
theorem lex_stop (n : Nat) (l : List Wd) : lexL n [] l = (l, 0) := by cases n <;> simp [lexL]
theorem lex_step (n : Nat) (c : UInt8) (t : List UInt8) (l : List Wd) : lexL (n + 1) (c :: t) l = match qv1 (waysL c t (endsW l)) with | none => ([], 30) | some (w, r) => if 120 < l.length + 1 then ([], 3) else lexL n (r.dropWhile spB) (l ++ [w]) := by
 simp only [lexL]
 rw [if_neg (by simp), one_ways]
 cases qv1 (waysL c t (endsW l)) with
 | none => rfl
 | some q => obtain ⟨v, r⟩ := q; rfl
theorem lex_long (s : ByteArray) (w : World) (h : 400 < s.size) : Calls Tryz.prog 8 #[.string s] w (Got w (lexS s.data.toList)) := by
 have e : lexS s.data.toList = ([], 3) := by unfold lexS; rw [if_pos (by rw [← Lib.size_eq]; exact h)]
 rw [e]
 have hb : decide ((400 : Int) < (s.size : Int)) = true := by simp; omega
 clear h e
 go_enter Tryz.func8, Tryz.ntmps8
 go_wp2_with fail
 go_step3
 go_wp2_with fail
 try rw [Exit.noGoto_ret]
 go_ret2
 exact ql1 (Below.refl _ _)
theorem lex_char (s : ByteArray) (w : World) (h : s.size ≤ 400) (hT : Tabs w) (ht : textB s = false) : Calls Tryz.prog 8 #[.string s] w (Got w (lexS s.data.toList)) := by
 have e : lexS s.data.toList = ([], 10) := by unfold lexS; rw [if_neg (by rw [← Lib.size_eq]; omega), ba_data, if_neg (by rw [ht]; simp)]
 rw [e]
 have hb : decide ((400 : Int) < (s.size : Int)) = false := by simp; omega
 have hc := text_calls s w (by omega) hT
 rw [ht] at hc
 clear h e hT ht
 go_enter Tryz.func8, Tryz.ntmps8
 go_wp2_with fail
 go_step3
 go_wp2_with fail
 refine hc.mono ?_
 rintro e w1 ⟨rfl, b1⟩
 go_wp2_with fail
 try rw [Exit.noGoto_ret]
 go_ret2
 exact ql1 b1
theorem trimD (s : List UInt8) : (s.dropWhile spB).length ≤ s.length := (List.dropWhile_sublist _).length_le
theorem lex_main (s : ByteArray) (w : World) (h : s.size ≤ 400) (hT : Tabs w) (ht : textB s = true) : Calls Tryz.prog 8 #[.string s] w (Got w (lexS s.data.toList)) := by
 have e : lexS s.data.toList = lexL s.size (s.data.toList.dropWhile spB) [] := by unfold lexS; rw [if_neg (by rw [← Lib.size_eq]; omega), ba_data, if_pos ht, ← Lib.size_eq]
 obtain ⟨R, hR⟩ : ∃ R, lexS s.data.toList = R := ⟨_, rfl⟩
 rw [hR]
 rw [e] at hR
 have hb : decide ((400 : Int) < (s.size : Int)) = false := by simp; omega
 have hc := text_calls s w (by omega) hT
 rw [ht] at hc
 have hl := fun W => left_call s W
 have hsl : (s.data.toList.dropWhile spB).length ≤ s.size := by rw [Lib.size_eq]; exact trimD _
 have HT := Aside0.mk hT
 have HR := Aside0.mk hR
 have HS := Aside0.mk hsl
 have HH := Aside0.mk h
 clear e hT ht hR hsl h
 generalize s.data.toList.dropWhile spB = s0 at *
 go_enter Tryz.func8, Tryz.ntmps8
 go_wp2_with fail
 go_step3
 go_wp2_with fail
 refine hc.mono ?_
 rintro e w1 ⟨rfl, b1⟩
 have B1 := Aside0.mk b1
 clear b1 hc
 go_wp2_with fail
 refine (hl _).mono ?_
 rintro e w2 ⟨rfl, b2⟩
 have B2 := Aside0.mk (chain B1.out (Nat.le_refl _) b2)
 clear b2 hl B1
 go_wp2_with fail
 go_step3
 go_wp2_with fail
 have hb2 := B2.out.size
 have hlex0 : LB w2.heap.size (w2.heap.size + 2) (ba s0) [] false (w2.alloc (Obj.cells #[.string (ba s0), .slice none 0 0, .bool false] 54)) := ⟨_, qt1 w2 _, World.ownsRow_nil _ _ _ _⟩
 have al1 := (Below.refl w2.heap.size w2).alloc (Nat.le_refl _) (Obj.cells #[.string (ba s0), .slice none 0 0, .bool false] 54)
 have hsz1 : (w2.alloc (Obj.cells #[.string (ba s0), .slice none 0 0, .bool false] 54)).heap.size = w2.heap.size + 1 := by simp
 generalize hW1 : w2.alloc (Obj.cells #[.string (ba s0), .slice none 0 0, .bool false] 54) = W1 at *
 have al2 := (Below.refl W1.heap.size W1).alloc (Nat.le_refl _) (Obj.cells #[wayV (.func 26) w2.heap.size, wayV (.func 27) w2.heap.size, wayV (.func 28) w2.heap.size, wayV (.func 29) w2.heap.size, wayV (.func 30) w2.heap.size, wayV (.func 31) w2.heap.size, wayV (.func 32) w2.heap.size] 22)
 have HL0 := Aside0.mk (hlex0.below al2)
 have hseven := qt1 W1 (Obj.cells #[wayV (.func 26) w2.heap.size, wayV (.func 27) w2.heap.size, wayV (.func 28) w2.heap.size, wayV (.func 29) w2.heap.size, wayV (.func 30) w2.heap.size, wayV (.func 31) w2.heap.size, wayV (.func 32) w2.heap.size] 22)
 rw [hsz1] at hseven
 have H70 : Aside0 (Seven w2.heap.size (w2.heap.size + 1) _) := ⟨hseven⟩
 have HB0 := Aside0.mk ((chain B2.out (Nat.le_refl _) al1).trans (al2.mono (by rw [hsz1]; omega)))
 clear al1 al2 hlex0 hseven hW1
 unfold wayV at HL0 H70 HB0
 generalize w2.heap.size = b at *
 obtain ⟨B, hBb⟩ : ∃ B, b + 2 = B := ⟨_, rfl⟩
 rw [hBb] at HL0
 have hbB : b < B := by omega
 have hB2b : b + 1 < B := by omega
 have hwb : w.heap.size ≤ b := hb2
 have HBB := Aside0.mk hBb
 clear hBb hsz1 hb2 B2
 go_loopg [] s.size (fun kq w' => ∃ (r : List UInt8) (l : List Wd), Aside0 (LB b B (ba r) l false w') ∧ Aside0 (Seven b (b + 1) w') ∧ Aside0 (Below w.heap.size w w') ∧ Aside0 (lexL kq r l = R) ∧ Aside0 (r.length ≤ kq) ∧ Aside0 (r.length ≤ 400) ∧ Aside0 (l.length ≤ 120))
 case atStart => exact ⟨s0, [], HL0, H70, HB0, HR, HS, ⟨by have := HS.out; have := HH.out; omega⟩, ⟨by simp⟩⟩
 case round =>
  obtain ⟨r, l, HLo, H7, HBl, HLx, HK, H4, H12⟩ := hrel
  clear HL0 H70 HB0 HR HS HH
  cases r with
  | nil =>
   have hR := HLx.out
   rw [lex_stop] at hR
   subst hR
   obtain ⟨v, h1, h2⟩ := HLo.out
   obtain ⟨A, cap, rfl⟩ := own_form h2
   have c0 : wr.cell? ⟨b, 0, none⟩ = some (.string (ba [])) := by rw [qt h1]; rfl
   have c1 : wr.cell? ⟨b, 1, none⟩ = some (.slice A l.length cap) := by rw [qt h1]; rfl
   have d0 : (ba []).toList = [] := by rw [ByteArray.toList_eq]; rfl
   have H2 := Aside0.mk h2
   generalize ba [] = z at *
   clear h1 h2 HLx HLo
   go_wp2_with fail
   try rw [Exit.noGoto_ret]
   go_ret2
   exact ⟨A, cap, rfl, own_lower (Nat.le_trans hwb (Nat.le_of_lt hbB)) H2.out, HBl.out⟩
  | cons c t =>
   obtain ⟨k1, rfl⟩ : ∃ k1, gk = k1 + 1 := ⟨gk - 1, by have := HK.out; simp at this; omega⟩
   have hR := HLx.out
   rw [lex_step] at hR
   obtain ⟨o, ho⟩ : ∃ o, qv1 (waysL c t (endsW l)) = o := ⟨_, rfl⟩
   rw [ho] at hR
   have HRo := Aside0.mk hR
   have HLess : Aside0 (∀ v r', o = some (v, r') → r'.length ≤ t.length) := ⟨fun v r' h => by have := one_less (s := c :: t) (e := endsW l) (w := v) (r := r') (by rw [one_ways, ho, h]); simp at this; omega⟩
   have H0F := Aside0.mk ho
   have hl1 : l.length ≤ 1000 := by have := H12.out; omega
   have ht1 : t.length ≤ 1000 := by have := H4.out; simp at this; omega
   have HLs : Aside0 (t.length ≤ k1 ∧ t.length ≤ 400 ∧ l.length ≤ 120) := ⟨by have := HK.out; have := H4.out; have := H12.out; simp at *; omega⟩
   have W0 : Aside0 (∀ W, LB b B (ba (c :: t)) l false W → B ≤ W.heap.size → Tabs W → Calls Tryz.prog 26 #[.pointer (some ⟨b, 0, none⟩)] W (WP b B (ba (c :: t)) l W (way0 c t))) := ⟨fun W hL hW hTW => way0_call b B c t l W hL hbB hW hl1 ht1 hTW⟩
   have W1 : Aside0 (∀ W, LB b B (ba (c :: t)) l false W → B ≤ W.heap.size → Tabs W → Calls Tryz.prog 27 #[.pointer (some ⟨b, 0, none⟩)] W (WP b B (ba (c :: t)) l W (way1 (c :: t)))) := ⟨fun W hL hW hTW => way1_call b B c t l W hL hbB hW hl1 ht1⟩
   have W2 : Aside0 (∀ W, LB b B (ba (c :: t)) l false W → B ≤ W.heap.size → Tabs W → Calls Tryz.prog 28 #[.pointer (some ⟨b, 0, none⟩)] W (WP b B (ba (c :: t)) l W (way2 (c :: t)))) := ⟨fun W hL hW hTW => way2_call b B c t l W hL hbB hW hl1 ht1 hTW⟩
   have W3 : Aside0 (∀ W, LB b B (ba (c :: t)) l false W → B ≤ W.heap.size → Tabs W → Calls Tryz.prog 29 #[.pointer (some ⟨b, 0, none⟩)] W (WP b B (ba (c :: t)) l W (way3 c t (endsW l)))) := ⟨fun W hL hW hTW => way3_call b B c t l W hL hbB hW hl1 ht1 hTW⟩
   have W4 : Aside0 (∀ W, LB b B (ba (c :: t)) l false W → B ≤ W.heap.size → Tabs W → Calls Tryz.prog 30 #[.pointer (some ⟨b, 0, none⟩)] W (WP b B (ba (c :: t)) l W (way4 c t))) := ⟨fun W hL hW hTW => way4_call b B c t l W hL hbB hW hl1 ht1 hTW⟩
   have W5 : Aside0 (∀ W, LB b B (ba (c :: t)) l false W → B ≤ W.heap.size → Tabs W → Calls Tryz.prog 31 #[.pointer (some ⟨b, 0, none⟩)] W (WP b B (ba (c :: t)) l W (way5 (c :: t) (endsW l)))) := ⟨fun W hL hW hTW => way5_call b B c t l W hL hbB hW hl1 ht1 hTW⟩
   have W6 : Aside0 (∀ W, LB b B (ba (c :: t)) l false W → B ≤ W.heap.size → Tabs W → Calls Tryz.prog 32 #[.pointer (some ⟨b, 0, none⟩)] W (WP b B (ba (c :: t)) l W ((some none : Option (Option (Wd × List UInt8)))))) := ⟨fun W hL hW hTW => way6_call b B c t l W hL hbB hW hl1 ht1 hTW⟩
   have c0 : wr.cell? ⟨b, 0, none⟩ = some (.string (ba (c :: t))) := by obtain ⟨v, h1, _⟩ := HLo.out; rw [qt h1]; rfl
   have d0 : (ba (c :: t)).toList.isEmpty = false := by rw [ByteArray.toList_eq]; rfl
   clear hR ho HLx HK H4 H12 hl1 ht1
   go_wp2_with fail
   go_loopg [40] 7 (fun kq v40 w' => ∃ i : Nat, v40 = .int .i64 (i : Int) ∧ Aside0 (i + kq = 7) ∧ Aside0 (LB b B (ba (c :: t)) l false w') ∧ Aside0 (Seven b (b + 1) w') ∧ Aside0 (Below w.heap.size w w') ∧ Aside0 (qv1 ((waysL c t (endsW l)).drop i) = o) ∧ Aside0 (i ≤ 6))
   case atStart => exact ⟨0, rfl, ⟨rfl⟩, HLo, H7, HBl, H0F, ⟨by omega⟩⟩
   case round =>
    obtain ⟨i, rfl, HIK, HLi, H7i, HBi, HF, HI⟩ := hrel
    clear HLo H7 HBl H0F c0
    have hTw : Tabs wr := tabs_below HT.out HBi.out
    have hB2 : B ≤ wr.heap.size := by have := (Array.getElem?_eq_some_iff.1 H7i.out).1; have := HBB.out; omega
    have hi := HI.out
    clear HI
    rcases (show i = 0 ∨ i = 1 ∨ i = 2 ∨ i = 3 ∨ i = 4 ∨ i = 5 ∨ i = 6 by omega) with rfl | rfl | rfl | rfl | rfl | rfl | rfl
    ·have c0 : wr.cell? ⟨b + 1, 0, none⟩ = some (.func (.func 26) #[.pointer (some ⟨b, 0, none⟩)] #[]) := by rw [qt H7i.out]; rfl
     have hw := W0.out _ HLi.out hB2 hTw
     have hF : qv1 (way0 c t :: (waysL c t (endsW l)).drop 1) = o := HF.out
     generalize way0 c t = q at hw hF
     rcases q with _ | _ | ⟨v, r'⟩
     ·rw [fw_none] at hF
      have HF2 := Aside0.mk hF
      have hw2 : Calls Tryz.prog 26 #[.pointer (some ⟨b, 0, none⟩)] wr fun e w' => e = .returned (.bool false) ∧ Fr b B wr w' ∧ LB b B (ba (c :: t)) l false w' := hw
      clear hF hw hTw hB2
      obtain ⟨k2, rfl⟩ : ∃ k2, gk = k2 + 1 := ⟨gk - 1, by have := HIK.out; omega⟩
      go_wp2_with fail
      refine hw2.mono ?_
      rintro e w3 ⟨rfl, f3, h3⟩
      have HB3 := Aside0.mk (HBi.out.trans (f3.1.mono hwb))
      have H73 := Aside0.mk ((f3.2 (b + 1) (by omega) (by omega)).trans H7i.out)
      have HL3 := Aside0.mk h3
      clear f3 h3 hw2
      go_wp2_with fail
      go_roundg k2
      case measure => omega
      case rel => exact ⟨1, rfl, ⟨by have := HIK.out; omega⟩, HL3, H73, HB3, HF2, ⟨by omega⟩⟩
     ·obtain rfl : none = o := hF
      have hw2 : Calls Tryz.prog 26 #[.pointer (some ⟨b, 0, none⟩)] wr fun e w' => e = .returned (.bool true) ∧ Fr b B wr w' ∧ LB b B (ba (c :: t)) l true w' := hw
      have hR2 : (([], 30) : List Wd × Int) = R := HRo.out
      subst hR2
      clear hw hTw hB2
      go_wp2_with fail
      refine hw2.mono ?_
      rintro e w3 ⟨rfl, f3, h3⟩
      have HB3 := Aside0.mk (HBi.out.trans (f3.1.mono hwb))
      have g2 : w3.cell? ⟨b, 2, none⟩ = some (.bool true) := by obtain ⟨v, h5, _⟩ := h3; rw [qt h5]; rfl
      clear f3 h3 hw2
      go_wp2_with fail
      try rw [Exit.noGoto_ret]
      go_ret2
      exact ql1 HB3.out
     ·obtain rfl : some (v, r') = o := hF
      have hw2 : Calls Tryz.prog 26 #[.pointer (some ⟨b, 0, none⟩)] wr fun e w' => e = .returned (.bool true) ∧ Fr b B wr w' ∧ LB b B (ba r') (l ++ [v]) false w' := hw
      have hless := HLess.out v r' rfl
      have hRo : (if 120 < l.length + 1 then (([], 3) : List Wd × Int) else lexL k1 (r'.dropWhile spB) (l ++ [v])) = R := HRo.out
      clear hw hTw hB2
      by_cases h120 : 120 < l.length + 1
      ·rw [if_pos h120] at hRo
       subst hRo
       go_wp2_with fail
       refine hw2.mono ?_
       rintro e w3 ⟨rfl, f3, h3⟩
       have HB3 := Aside0.mk (HBi.out.trans (f3.1.mono hwb))
       obtain ⟨v3, h5, h6⟩ := h3
       rw [List.length_append] at h6
       obtain ⟨g3, cap3, rfl⟩ := qh1 h6
       have g2 : w3.cell? ⟨b, 2, none⟩ = some (.bool false) := by rw [qt h5]; rfl
       have g1 : w3.cell? ⟨b, 1, none⟩ = some (.slice (some ⟨g3, 0, none⟩) (l.length + 1) cap3) := by rw [qt h5]; rfl
       have hdc : decide ((120 : Int) < (l.length : Int) + 1) = true := by simp; omega
       clear f3 h5 h6 hw2
       go_wp2_with fail
       try rw [Exit.noGoto_ret]
       go_ret2
       exact ql1 HB3.out
      ·rw [if_neg h120] at hRo
       have HRn := Aside0.mk hRo
       have hdl := trimD r'
       have hls := HLs.out
       clear hRo
       go_wp2_with fail
       refine hw2.mono ?_
       rintro e w3 ⟨rfl, f3, h3⟩
       have HB3 := Aside0.mk (HBi.out.trans (f3.1.mono hwb))
       have H73 := Aside0.mk ((f3.2 (b + 1) (by omega) (by omega)).trans H7i.out)
       have HL3 := Aside0.mk h3
       obtain ⟨v3, h5, h6⟩ := h3
       rw [List.length_append] at h6
       obtain ⟨g3, cap3, rfl⟩ := qh1 h6
       have g2 : w3.cell? ⟨b, 2, none⟩ = some (.bool false) := by rw [qt h5]; rfl
       have g1 : w3.cell? ⟨b, 1, none⟩ = some (.slice (some ⟨g3, 0, none⟩) (l.length + 1) cap3) := by rw [qt h5]; rfl
       have g0 : w3.cell? ⟨b, 0, none⟩ = some (.string (ba r')) := by rw [qt h5]; rfl
       have hdc : decide ((120 : Int) < (l.length : Int) + 1) = false := by simp; omega
       have hTL := left_call (ba r') w3
       rw [qu] at hTL
       clear f3 h5 h6 hw2
       go_wp2_with fail
       refine hTL.mono ?_
       rintro e w4 ⟨rfl, b4⟩
       have hL4 := HL3.out.below b4
       have HL5 := Aside0.mk (hL4.put_s (s' := ba (r'.dropWhile spB)) hbB)
       have z0 : w4.cell? ⟨b, 0, none⟩ = some (.string (ba r')) := by obtain ⟨v, h5, _⟩ := hL4; rw [qt h5]; rfl
       have zf : w4.frozen? ⟨b, 0, none⟩ = false := by obtain ⟨v, h5, _⟩ := hL4; exact Lib.frozen_of_heap h5 0
       have HB5 := Aside0.mk ((chain HB3.out (Nat.le_refl _) b4).setCell (p := ⟨b, 0, none⟩) hwb (.string (ba (r'.dropWhile spB))))
       have H75 := Aside0.mk ((Below.heap_setCell w4 ⟨b, 0, none⟩ (.string (ba (r'.dropWhile spB))) (b + 1) (by show b + 1 ≠ b; omega)).trans ((b4.block (b + 1) (Array.getElem?_eq_some_iff.1 H73.out).1).trans H73.out))
       clear b4 hL4 hTL g0 g1 g2 hdc
       go_wp2_with fail
       go_roundg k1
       case measure => omega
       case rel => exact ⟨r'.dropWhile spB, l ++ [v], HL5, H75, HB5, HRn, ⟨by omega⟩, ⟨by omega⟩, ⟨by rw [List.length_append]; simp; omega⟩⟩
    ·have c1 : wr.cell? ⟨b + 1, 1, none⟩ = some (.func (.func 27) #[.pointer (some ⟨b, 0, none⟩)] #[]) := by rw [qt H7i.out]; rfl
     have hw := W1.out _ HLi.out hB2 hTw
     have hF : qv1 (way1 (c :: t) :: (waysL c t (endsW l)).drop 2) = o := HF.out
     generalize way1 (c :: t) = q at hw hF
     rcases q with _ | _ | ⟨v, r'⟩
     ·rw [fw_none] at hF
      have HF2 := Aside0.mk hF
      have hw2 : Calls Tryz.prog 27 #[.pointer (some ⟨b, 0, none⟩)] wr fun e w' => e = .returned (.bool false) ∧ Fr b B wr w' ∧ LB b B (ba (c :: t)) l false w' := hw
      clear hF hw hTw hB2
      obtain ⟨k2, rfl⟩ : ∃ k2, gk = k2 + 1 := ⟨gk - 1, by have := HIK.out; omega⟩
      go_wp2_with fail
      refine hw2.mono ?_
      rintro e w3 ⟨rfl, f3, h3⟩
      have HB3 := Aside0.mk (HBi.out.trans (f3.1.mono hwb))
      have H73 := Aside0.mk ((f3.2 (b + 1) (by omega) (by omega)).trans H7i.out)
      have HL3 := Aside0.mk h3
      clear f3 h3 hw2
      go_wp2_with fail
      go_roundg k2
      case measure => omega
      case rel => exact ⟨2, rfl, ⟨by have := HIK.out; omega⟩, HL3, H73, HB3, HF2, ⟨by omega⟩⟩
     ·obtain rfl : none = o := hF
      have hw2 : Calls Tryz.prog 27 #[.pointer (some ⟨b, 0, none⟩)] wr fun e w' => e = .returned (.bool true) ∧ Fr b B wr w' ∧ LB b B (ba (c :: t)) l true w' := hw
      have hR2 : (([], 30) : List Wd × Int) = R := HRo.out
      subst hR2
      clear hw hTw hB2
      go_wp2_with fail
      refine hw2.mono ?_
      rintro e w3 ⟨rfl, f3, h3⟩
      have HB3 := Aside0.mk (HBi.out.trans (f3.1.mono hwb))
      have g2 : w3.cell? ⟨b, 2, none⟩ = some (.bool true) := by obtain ⟨v, h5, _⟩ := h3; rw [qt h5]; rfl
      clear f3 h3 hw2
      go_wp2_with fail
      try rw [Exit.noGoto_ret]
      go_ret2
      exact ql1 HB3.out
     ·obtain rfl : some (v, r') = o := hF
      have hw2 : Calls Tryz.prog 27 #[.pointer (some ⟨b, 0, none⟩)] wr fun e w' => e = .returned (.bool true) ∧ Fr b B wr w' ∧ LB b B (ba r') (l ++ [v]) false w' := hw
      have hless := HLess.out v r' rfl
      have hRo : (if 120 < l.length + 1 then (([], 3) : List Wd × Int) else lexL k1 (r'.dropWhile spB) (l ++ [v])) = R := HRo.out
      clear hw hTw hB2
      by_cases h120 : 120 < l.length + 1
      ·rw [if_pos h120] at hRo
       subst hRo
       go_wp2_with fail
       refine hw2.mono ?_
       rintro e w3 ⟨rfl, f3, h3⟩
       have HB3 := Aside0.mk (HBi.out.trans (f3.1.mono hwb))
       obtain ⟨v3, h5, h6⟩ := h3
       rw [List.length_append] at h6
       obtain ⟨g3, cap3, rfl⟩ := qh1 h6
       have g2 : w3.cell? ⟨b, 2, none⟩ = some (.bool false) := by rw [qt h5]; rfl
       have g1 : w3.cell? ⟨b, 1, none⟩ = some (.slice (some ⟨g3, 0, none⟩) (l.length + 1) cap3) := by rw [qt h5]; rfl
       have hdc : decide ((120 : Int) < (l.length : Int) + 1) = true := by simp; omega
       clear f3 h5 h6 hw2
       go_wp2_with fail
       try rw [Exit.noGoto_ret]
       go_ret2
       exact ql1 HB3.out
      ·rw [if_neg h120] at hRo
       have HRn := Aside0.mk hRo
       have hdl := trimD r'
       have hls := HLs.out
       clear hRo
       go_wp2_with fail
       refine hw2.mono ?_
       rintro e w3 ⟨rfl, f3, h3⟩
       have HB3 := Aside0.mk (HBi.out.trans (f3.1.mono hwb))
       have H73 := Aside0.mk ((f3.2 (b + 1) (by omega) (by omega)).trans H7i.out)
       have HL3 := Aside0.mk h3
       obtain ⟨v3, h5, h6⟩ := h3
       rw [List.length_append] at h6
       obtain ⟨g3, cap3, rfl⟩ := qh1 h6
       have g2 : w3.cell? ⟨b, 2, none⟩ = some (.bool false) := by rw [qt h5]; rfl
       have g1 : w3.cell? ⟨b, 1, none⟩ = some (.slice (some ⟨g3, 0, none⟩) (l.length + 1) cap3) := by rw [qt h5]; rfl
       have g0 : w3.cell? ⟨b, 0, none⟩ = some (.string (ba r')) := by rw [qt h5]; rfl
       have hdc : decide ((120 : Int) < (l.length : Int) + 1) = false := by simp; omega
       have hTL := left_call (ba r') w3
       rw [qu] at hTL
       clear f3 h5 h6 hw2
       go_wp2_with fail
       refine hTL.mono ?_
       rintro e w4 ⟨rfl, b4⟩
       have hL4 := HL3.out.below b4
       have HL5 := Aside0.mk (hL4.put_s (s' := ba (r'.dropWhile spB)) hbB)
       have z0 : w4.cell? ⟨b, 0, none⟩ = some (.string (ba r')) := by obtain ⟨v, h5, _⟩ := hL4; rw [qt h5]; rfl
       have zf : w4.frozen? ⟨b, 0, none⟩ = false := by obtain ⟨v, h5, _⟩ := hL4; exact Lib.frozen_of_heap h5 0
       have HB5 := Aside0.mk ((chain HB3.out (Nat.le_refl _) b4).setCell (p := ⟨b, 0, none⟩) hwb (.string (ba (r'.dropWhile spB))))
       have H75 := Aside0.mk ((Below.heap_setCell w4 ⟨b, 0, none⟩ (.string (ba (r'.dropWhile spB))) (b + 1) (by show b + 1 ≠ b; omega)).trans ((b4.block (b + 1) (Array.getElem?_eq_some_iff.1 H73.out).1).trans H73.out))
       clear b4 hL4 hTL g0 g1 g2 hdc
       go_wp2_with fail
       go_roundg k1
       case measure => omega
       case rel => exact ⟨r'.dropWhile spB, l ++ [v], HL5, H75, HB5, HRn, ⟨by omega⟩, ⟨by omega⟩, ⟨by rw [List.length_append]; simp; omega⟩⟩
    ·have c2 : wr.cell? ⟨b + 1, 2, none⟩ = some (.func (.func 28) #[.pointer (some ⟨b, 0, none⟩)] #[]) := by rw [qt H7i.out]; rfl
     have hw := W2.out _ HLi.out hB2 hTw
     have hF : qv1 (way2 (c :: t) :: (waysL c t (endsW l)).drop 3) = o := HF.out
     generalize way2 (c :: t) = q at hw hF
     rcases q with _ | _ | ⟨v, r'⟩
     ·rw [fw_none] at hF
      have HF2 := Aside0.mk hF
      have hw2 : Calls Tryz.prog 28 #[.pointer (some ⟨b, 0, none⟩)] wr fun e w' => e = .returned (.bool false) ∧ Fr b B wr w' ∧ LB b B (ba (c :: t)) l false w' := hw
      clear hF hw hTw hB2
      obtain ⟨k2, rfl⟩ : ∃ k2, gk = k2 + 1 := ⟨gk - 1, by have := HIK.out; omega⟩
      go_wp2_with fail
      refine hw2.mono ?_
      rintro e w3 ⟨rfl, f3, h3⟩
      have HB3 := Aside0.mk (HBi.out.trans (f3.1.mono hwb))
      have H73 := Aside0.mk ((f3.2 (b + 1) (by omega) (by omega)).trans H7i.out)
      have HL3 := Aside0.mk h3
      clear f3 h3 hw2
      go_wp2_with fail
      go_roundg k2
      case measure => omega
      case rel => exact ⟨3, rfl, ⟨by have := HIK.out; omega⟩, HL3, H73, HB3, HF2, ⟨by omega⟩⟩
     ·obtain rfl : none = o := hF
      have hw2 : Calls Tryz.prog 28 #[.pointer (some ⟨b, 0, none⟩)] wr fun e w' => e = .returned (.bool true) ∧ Fr b B wr w' ∧ LB b B (ba (c :: t)) l true w' := hw
      have hR2 : (([], 30) : List Wd × Int) = R := HRo.out
      subst hR2
      clear hw hTw hB2
      go_wp2_with fail
      refine hw2.mono ?_
      rintro e w3 ⟨rfl, f3, h3⟩
      have HB3 := Aside0.mk (HBi.out.trans (f3.1.mono hwb))
      have g2 : w3.cell? ⟨b, 2, none⟩ = some (.bool true) := by obtain ⟨v, h5, _⟩ := h3; rw [qt h5]; rfl
      clear f3 h3 hw2
      go_wp2_with fail
      try rw [Exit.noGoto_ret]
      go_ret2
      exact ql1 HB3.out
     ·obtain rfl : some (v, r') = o := hF
      have hw2 : Calls Tryz.prog 28 #[.pointer (some ⟨b, 0, none⟩)] wr fun e w' => e = .returned (.bool true) ∧ Fr b B wr w' ∧ LB b B (ba r') (l ++ [v]) false w' := hw
      have hless := HLess.out v r' rfl
      have hRo : (if 120 < l.length + 1 then (([], 3) : List Wd × Int) else lexL k1 (r'.dropWhile spB) (l ++ [v])) = R := HRo.out
      clear hw hTw hB2
      by_cases h120 : 120 < l.length + 1
      ·rw [if_pos h120] at hRo
       subst hRo
       go_wp2_with fail
       refine hw2.mono ?_
       rintro e w3 ⟨rfl, f3, h3⟩
       have HB3 := Aside0.mk (HBi.out.trans (f3.1.mono hwb))
       obtain ⟨v3, h5, h6⟩ := h3
       rw [List.length_append] at h6
       obtain ⟨g3, cap3, rfl⟩ := qh1 h6
       have g2 : w3.cell? ⟨b, 2, none⟩ = some (.bool false) := by rw [qt h5]; rfl
       have g1 : w3.cell? ⟨b, 1, none⟩ = some (.slice (some ⟨g3, 0, none⟩) (l.length + 1) cap3) := by rw [qt h5]; rfl
       have hdc : decide ((120 : Int) < (l.length : Int) + 1) = true := by simp; omega
       clear f3 h5 h6 hw2
       go_wp2_with fail
       try rw [Exit.noGoto_ret]
       go_ret2
       exact ql1 HB3.out
      ·rw [if_neg h120] at hRo
       have HRn := Aside0.mk hRo
       have hdl := trimD r'
       have hls := HLs.out
       clear hRo
       go_wp2_with fail
       refine hw2.mono ?_
       rintro e w3 ⟨rfl, f3, h3⟩
       have HB3 := Aside0.mk (HBi.out.trans (f3.1.mono hwb))
       have H73 := Aside0.mk ((f3.2 (b + 1) (by omega) (by omega)).trans H7i.out)
       have HL3 := Aside0.mk h3
       obtain ⟨v3, h5, h6⟩ := h3
       rw [List.length_append] at h6
       obtain ⟨g3, cap3, rfl⟩ := qh1 h6
       have g2 : w3.cell? ⟨b, 2, none⟩ = some (.bool false) := by rw [qt h5]; rfl
       have g1 : w3.cell? ⟨b, 1, none⟩ = some (.slice (some ⟨g3, 0, none⟩) (l.length + 1) cap3) := by rw [qt h5]; rfl
       have g0 : w3.cell? ⟨b, 0, none⟩ = some (.string (ba r')) := by rw [qt h5]; rfl
       have hdc : decide ((120 : Int) < (l.length : Int) + 1) = false := by simp; omega
       have hTL := left_call (ba r') w3
       rw [qu] at hTL
       clear f3 h5 h6 hw2
       go_wp2_with fail
       refine hTL.mono ?_
       rintro e w4 ⟨rfl, b4⟩
       have hL4 := HL3.out.below b4
       have HL5 := Aside0.mk (hL4.put_s (s' := ba (r'.dropWhile spB)) hbB)
       have z0 : w4.cell? ⟨b, 0, none⟩ = some (.string (ba r')) := by obtain ⟨v, h5, _⟩ := hL4; rw [qt h5]; rfl
       have zf : w4.frozen? ⟨b, 0, none⟩ = false := by obtain ⟨v, h5, _⟩ := hL4; exact Lib.frozen_of_heap h5 0
       have HB5 := Aside0.mk ((chain HB3.out (Nat.le_refl _) b4).setCell (p := ⟨b, 0, none⟩) hwb (.string (ba (r'.dropWhile spB))))
       have H75 := Aside0.mk ((Below.heap_setCell w4 ⟨b, 0, none⟩ (.string (ba (r'.dropWhile spB))) (b + 1) (by show b + 1 ≠ b; omega)).trans ((b4.block (b + 1) (Array.getElem?_eq_some_iff.1 H73.out).1).trans H73.out))
       clear b4 hL4 hTL g0 g1 g2 hdc
       go_wp2_with fail
       go_roundg k1
       case measure => omega
       case rel => exact ⟨r'.dropWhile spB, l ++ [v], HL5, H75, HB5, HRn, ⟨by omega⟩, ⟨by omega⟩, ⟨by rw [List.length_append]; simp; omega⟩⟩
    ·have c3 : wr.cell? ⟨b + 1, 3, none⟩ = some (.func (.func 29) #[.pointer (some ⟨b, 0, none⟩)] #[]) := by rw [qt H7i.out]; rfl
     have hw := W3.out _ HLi.out hB2 hTw
     have hF : qv1 (way3 c t (endsW l) :: (waysL c t (endsW l)).drop 4) = o := HF.out
     generalize way3 c t (endsW l) = q at hw hF
     rcases q with _ | _ | ⟨v, r'⟩
     ·rw [fw_none] at hF
      have HF2 := Aside0.mk hF
      have hw2 : Calls Tryz.prog 29 #[.pointer (some ⟨b, 0, none⟩)] wr fun e w' => e = .returned (.bool false) ∧ Fr b B wr w' ∧ LB b B (ba (c :: t)) l false w' := hw
      clear hF hw hTw hB2
      obtain ⟨k2, rfl⟩ : ∃ k2, gk = k2 + 1 := ⟨gk - 1, by have := HIK.out; omega⟩
      go_wp2_with fail
      refine hw2.mono ?_
      rintro e w3 ⟨rfl, f3, h3⟩
      have HB3 := Aside0.mk (HBi.out.trans (f3.1.mono hwb))
      have H73 := Aside0.mk ((f3.2 (b + 1) (by omega) (by omega)).trans H7i.out)
      have HL3 := Aside0.mk h3
      clear f3 h3 hw2
      go_wp2_with fail
      go_roundg k2
      case measure => omega
      case rel => exact ⟨4, rfl, ⟨by have := HIK.out; omega⟩, HL3, H73, HB3, HF2, ⟨by omega⟩⟩
     ·obtain rfl : none = o := hF
      have hw2 : Calls Tryz.prog 29 #[.pointer (some ⟨b, 0, none⟩)] wr fun e w' => e = .returned (.bool true) ∧ Fr b B wr w' ∧ LB b B (ba (c :: t)) l true w' := hw
      have hR2 : (([], 30) : List Wd × Int) = R := HRo.out
      subst hR2
      clear hw hTw hB2
      go_wp2_with fail
      refine hw2.mono ?_
      rintro e w3 ⟨rfl, f3, h3⟩
      have HB3 := Aside0.mk (HBi.out.trans (f3.1.mono hwb))
      have g2 : w3.cell? ⟨b, 2, none⟩ = some (.bool true) := by obtain ⟨v, h5, _⟩ := h3; rw [qt h5]; rfl
      clear f3 h3 hw2
      go_wp2_with fail
      try rw [Exit.noGoto_ret]
      go_ret2
      exact ql1 HB3.out
     ·obtain rfl : some (v, r') = o := hF
      have hw2 : Calls Tryz.prog 29 #[.pointer (some ⟨b, 0, none⟩)] wr fun e w' => e = .returned (.bool true) ∧ Fr b B wr w' ∧ LB b B (ba r') (l ++ [v]) false w' := hw
      have hless := HLess.out v r' rfl
      have hRo : (if 120 < l.length + 1 then (([], 3) : List Wd × Int) else lexL k1 (r'.dropWhile spB) (l ++ [v])) = R := HRo.out
      clear hw hTw hB2
      by_cases h120 : 120 < l.length + 1
      ·rw [if_pos h120] at hRo
       subst hRo
       go_wp2_with fail
       refine hw2.mono ?_
       rintro e w3 ⟨rfl, f3, h3⟩
       have HB3 := Aside0.mk (HBi.out.trans (f3.1.mono hwb))
       obtain ⟨v3, h5, h6⟩ := h3
       rw [List.length_append] at h6
       obtain ⟨g3, cap3, rfl⟩ := qh1 h6
       have g2 : w3.cell? ⟨b, 2, none⟩ = some (.bool false) := by rw [qt h5]; rfl
       have g1 : w3.cell? ⟨b, 1, none⟩ = some (.slice (some ⟨g3, 0, none⟩) (l.length + 1) cap3) := by rw [qt h5]; rfl
       have hdc : decide ((120 : Int) < (l.length : Int) + 1) = true := by simp; omega
       clear f3 h5 h6 hw2
       go_wp2_with fail
       try rw [Exit.noGoto_ret]
       go_ret2
       exact ql1 HB3.out
      ·rw [if_neg h120] at hRo
       have HRn := Aside0.mk hRo
       have hdl := trimD r'
       have hls := HLs.out
       clear hRo
       go_wp2_with fail
       refine hw2.mono ?_
       rintro e w3 ⟨rfl, f3, h3⟩
       have HB3 := Aside0.mk (HBi.out.trans (f3.1.mono hwb))
       have H73 := Aside0.mk ((f3.2 (b + 1) (by omega) (by omega)).trans H7i.out)
       have HL3 := Aside0.mk h3
       obtain ⟨v3, h5, h6⟩ := h3
       rw [List.length_append] at h6
       obtain ⟨g3, cap3, rfl⟩ := qh1 h6
       have g2 : w3.cell? ⟨b, 2, none⟩ = some (.bool false) := by rw [qt h5]; rfl
       have g1 : w3.cell? ⟨b, 1, none⟩ = some (.slice (some ⟨g3, 0, none⟩) (l.length + 1) cap3) := by rw [qt h5]; rfl
       have g0 : w3.cell? ⟨b, 0, none⟩ = some (.string (ba r')) := by rw [qt h5]; rfl
       have hdc : decide ((120 : Int) < (l.length : Int) + 1) = false := by simp; omega
       have hTL := left_call (ba r') w3
       rw [qu] at hTL
       clear f3 h5 h6 hw2
       go_wp2_with fail
       refine hTL.mono ?_
       rintro e w4 ⟨rfl, b4⟩
       have hL4 := HL3.out.below b4
       have HL5 := Aside0.mk (hL4.put_s (s' := ba (r'.dropWhile spB)) hbB)
       have z0 : w4.cell? ⟨b, 0, none⟩ = some (.string (ba r')) := by obtain ⟨v, h5, _⟩ := hL4; rw [qt h5]; rfl
       have zf : w4.frozen? ⟨b, 0, none⟩ = false := by obtain ⟨v, h5, _⟩ := hL4; exact Lib.frozen_of_heap h5 0
       have HB5 := Aside0.mk ((chain HB3.out (Nat.le_refl _) b4).setCell (p := ⟨b, 0, none⟩) hwb (.string (ba (r'.dropWhile spB))))
       have H75 := Aside0.mk ((Below.heap_setCell w4 ⟨b, 0, none⟩ (.string (ba (r'.dropWhile spB))) (b + 1) (by show b + 1 ≠ b; omega)).trans ((b4.block (b + 1) (Array.getElem?_eq_some_iff.1 H73.out).1).trans H73.out))
       clear b4 hL4 hTL g0 g1 g2 hdc
       go_wp2_with fail
       go_roundg k1
       case measure => omega
       case rel => exact ⟨r'.dropWhile spB, l ++ [v], HL5, H75, HB5, HRn, ⟨by omega⟩, ⟨by omega⟩, ⟨by rw [List.length_append]; simp; omega⟩⟩
    ·have c4 : wr.cell? ⟨b + 1, 4, none⟩ = some (.func (.func 30) #[.pointer (some ⟨b, 0, none⟩)] #[]) := by rw [qt H7i.out]; rfl
     have hw := W4.out _ HLi.out hB2 hTw
     have hF : qv1 (way4 c t :: (waysL c t (endsW l)).drop 5) = o := HF.out
     generalize way4 c t = q at hw hF
     rcases q with _ | _ | ⟨v, r'⟩
     ·rw [fw_none] at hF
      have HF2 := Aside0.mk hF
      have hw2 : Calls Tryz.prog 30 #[.pointer (some ⟨b, 0, none⟩)] wr fun e w' => e = .returned (.bool false) ∧ Fr b B wr w' ∧ LB b B (ba (c :: t)) l false w' := hw
      clear hF hw hTw hB2
      obtain ⟨k2, rfl⟩ : ∃ k2, gk = k2 + 1 := ⟨gk - 1, by have := HIK.out; omega⟩
      go_wp2_with fail
      refine hw2.mono ?_
      rintro e w3 ⟨rfl, f3, h3⟩
      have HB3 := Aside0.mk (HBi.out.trans (f3.1.mono hwb))
      have H73 := Aside0.mk ((f3.2 (b + 1) (by omega) (by omega)).trans H7i.out)
      have HL3 := Aside0.mk h3
      clear f3 h3 hw2
      go_wp2_with fail
      go_roundg k2
      case measure => omega
      case rel => exact ⟨5, rfl, ⟨by have := HIK.out; omega⟩, HL3, H73, HB3, HF2, ⟨by omega⟩⟩
     ·obtain rfl : none = o := hF
      have hw2 : Calls Tryz.prog 30 #[.pointer (some ⟨b, 0, none⟩)] wr fun e w' => e = .returned (.bool true) ∧ Fr b B wr w' ∧ LB b B (ba (c :: t)) l true w' := hw
      have hR2 : (([], 30) : List Wd × Int) = R := HRo.out
      subst hR2
      clear hw hTw hB2
      go_wp2_with fail
      refine hw2.mono ?_
      rintro e w3 ⟨rfl, f3, h3⟩
      have HB3 := Aside0.mk (HBi.out.trans (f3.1.mono hwb))
      have g2 : w3.cell? ⟨b, 2, none⟩ = some (.bool true) := by obtain ⟨v, h5, _⟩ := h3; rw [qt h5]; rfl
      clear f3 h3 hw2
      go_wp2_with fail
      try rw [Exit.noGoto_ret]
      go_ret2
      exact ql1 HB3.out
     ·obtain rfl : some (v, r') = o := hF
      have hw2 : Calls Tryz.prog 30 #[.pointer (some ⟨b, 0, none⟩)] wr fun e w' => e = .returned (.bool true) ∧ Fr b B wr w' ∧ LB b B (ba r') (l ++ [v]) false w' := hw
      have hless := HLess.out v r' rfl
      have hRo : (if 120 < l.length + 1 then (([], 3) : List Wd × Int) else lexL k1 (r'.dropWhile spB) (l ++ [v])) = R := HRo.out
      clear hw hTw hB2
      by_cases h120 : 120 < l.length + 1
      ·rw [if_pos h120] at hRo
       subst hRo
       go_wp2_with fail
       refine hw2.mono ?_
       rintro e w3 ⟨rfl, f3, h3⟩
       have HB3 := Aside0.mk (HBi.out.trans (f3.1.mono hwb))
       obtain ⟨v3, h5, h6⟩ := h3
       rw [List.length_append] at h6
       obtain ⟨g3, cap3, rfl⟩ := qh1 h6
       have g2 : w3.cell? ⟨b, 2, none⟩ = some (.bool false) := by rw [qt h5]; rfl
       have g1 : w3.cell? ⟨b, 1, none⟩ = some (.slice (some ⟨g3, 0, none⟩) (l.length + 1) cap3) := by rw [qt h5]; rfl
       have hdc : decide ((120 : Int) < (l.length : Int) + 1) = true := by simp; omega
       clear f3 h5 h6 hw2
       go_wp2_with fail
       try rw [Exit.noGoto_ret]
       go_ret2
       exact ql1 HB3.out
      ·rw [if_neg h120] at hRo
       have HRn := Aside0.mk hRo
       have hdl := trimD r'
       have hls := HLs.out
       clear hRo
       go_wp2_with fail
       refine hw2.mono ?_
       rintro e w3 ⟨rfl, f3, h3⟩
       have HB3 := Aside0.mk (HBi.out.trans (f3.1.mono hwb))
       have H73 := Aside0.mk ((f3.2 (b + 1) (by omega) (by omega)).trans H7i.out)
       have HL3 := Aside0.mk h3
       obtain ⟨v3, h5, h6⟩ := h3
       rw [List.length_append] at h6
       obtain ⟨g3, cap3, rfl⟩ := qh1 h6
       have g2 : w3.cell? ⟨b, 2, none⟩ = some (.bool false) := by rw [qt h5]; rfl
       have g1 : w3.cell? ⟨b, 1, none⟩ = some (.slice (some ⟨g3, 0, none⟩) (l.length + 1) cap3) := by rw [qt h5]; rfl
       have g0 : w3.cell? ⟨b, 0, none⟩ = some (.string (ba r')) := by rw [qt h5]; rfl
       have hdc : decide ((120 : Int) < (l.length : Int) + 1) = false := by simp; omega
       have hTL := left_call (ba r') w3
       rw [qu] at hTL
       clear f3 h5 h6 hw2
       go_wp2_with fail
       refine hTL.mono ?_
       rintro e w4 ⟨rfl, b4⟩
       have hL4 := HL3.out.below b4
       have HL5 := Aside0.mk (hL4.put_s (s' := ba (r'.dropWhile spB)) hbB)
       have z0 : w4.cell? ⟨b, 0, none⟩ = some (.string (ba r')) := by obtain ⟨v, h5, _⟩ := hL4; rw [qt h5]; rfl
       have zf : w4.frozen? ⟨b, 0, none⟩ = false := by obtain ⟨v, h5, _⟩ := hL4; exact Lib.frozen_of_heap h5 0
       have HB5 := Aside0.mk ((chain HB3.out (Nat.le_refl _) b4).setCell (p := ⟨b, 0, none⟩) hwb (.string (ba (r'.dropWhile spB))))
       have H75 := Aside0.mk ((Below.heap_setCell w4 ⟨b, 0, none⟩ (.string (ba (r'.dropWhile spB))) (b + 1) (by show b + 1 ≠ b; omega)).trans ((b4.block (b + 1) (Array.getElem?_eq_some_iff.1 H73.out).1).trans H73.out))
       clear b4 hL4 hTL g0 g1 g2 hdc
       go_wp2_with fail
       go_roundg k1
       case measure => omega
       case rel => exact ⟨r'.dropWhile spB, l ++ [v], HL5, H75, HB5, HRn, ⟨by omega⟩, ⟨by omega⟩, ⟨by rw [List.length_append]; simp; omega⟩⟩
    ·have c5 : wr.cell? ⟨b + 1, 5, none⟩ = some (.func (.func 31) #[.pointer (some ⟨b, 0, none⟩)] #[]) := by rw [qt H7i.out]; rfl
     have hw := W5.out _ HLi.out hB2 hTw
     have hF : qv1 (way5 (c :: t) (endsW l) :: (waysL c t (endsW l)).drop 6) = o := HF.out
     generalize way5 (c :: t) (endsW l) = q at hw hF
     rcases q with _ | _ | ⟨v, r'⟩
     ·rw [fw_none] at hF
      have HF2 := Aside0.mk hF
      have hw2 : Calls Tryz.prog 31 #[.pointer (some ⟨b, 0, none⟩)] wr fun e w' => e = .returned (.bool false) ∧ Fr b B wr w' ∧ LB b B (ba (c :: t)) l false w' := hw
      clear hF hw hTw hB2
      obtain ⟨k2, rfl⟩ : ∃ k2, gk = k2 + 1 := ⟨gk - 1, by have := HIK.out; omega⟩
      go_wp2_with fail
      refine hw2.mono ?_
      rintro e w3 ⟨rfl, f3, h3⟩
      have HB3 := Aside0.mk (HBi.out.trans (f3.1.mono hwb))
      have H73 := Aside0.mk ((f3.2 (b + 1) (by omega) (by omega)).trans H7i.out)
      have HL3 := Aside0.mk h3
      clear f3 h3 hw2
      go_wp2_with fail
      go_roundg k2
      case measure => omega
      case rel => exact ⟨6, rfl, ⟨by have := HIK.out; omega⟩, HL3, H73, HB3, HF2, ⟨by omega⟩⟩
     ·obtain rfl : none = o := hF
      have hw2 : Calls Tryz.prog 31 #[.pointer (some ⟨b, 0, none⟩)] wr fun e w' => e = .returned (.bool true) ∧ Fr b B wr w' ∧ LB b B (ba (c :: t)) l true w' := hw
      have hR2 : (([], 30) : List Wd × Int) = R := HRo.out
      subst hR2
      clear hw hTw hB2
      go_wp2_with fail
      refine hw2.mono ?_
      rintro e w3 ⟨rfl, f3, h3⟩
      have HB3 := Aside0.mk (HBi.out.trans (f3.1.mono hwb))
      have g2 : w3.cell? ⟨b, 2, none⟩ = some (.bool true) := by obtain ⟨v, h5, _⟩ := h3; rw [qt h5]; rfl
      clear f3 h3 hw2
      go_wp2_with fail
      try rw [Exit.noGoto_ret]
      go_ret2
      exact ql1 HB3.out
     ·obtain rfl : some (v, r') = o := hF
      have hw2 : Calls Tryz.prog 31 #[.pointer (some ⟨b, 0, none⟩)] wr fun e w' => e = .returned (.bool true) ∧ Fr b B wr w' ∧ LB b B (ba r') (l ++ [v]) false w' := hw
      have hless := HLess.out v r' rfl
      have hRo : (if 120 < l.length + 1 then (([], 3) : List Wd × Int) else lexL k1 (r'.dropWhile spB) (l ++ [v])) = R := HRo.out
      clear hw hTw hB2
      by_cases h120 : 120 < l.length + 1
      ·rw [if_pos h120] at hRo
       subst hRo
       go_wp2_with fail
       refine hw2.mono ?_
       rintro e w3 ⟨rfl, f3, h3⟩
       have HB3 := Aside0.mk (HBi.out.trans (f3.1.mono hwb))
       obtain ⟨v3, h5, h6⟩ := h3
       rw [List.length_append] at h6
       obtain ⟨g3, cap3, rfl⟩ := qh1 h6
       have g2 : w3.cell? ⟨b, 2, none⟩ = some (.bool false) := by rw [qt h5]; rfl
       have g1 : w3.cell? ⟨b, 1, none⟩ = some (.slice (some ⟨g3, 0, none⟩) (l.length + 1) cap3) := by rw [qt h5]; rfl
       have hdc : decide ((120 : Int) < (l.length : Int) + 1) = true := by simp; omega
       clear f3 h5 h6 hw2
       go_wp2_with fail
       try rw [Exit.noGoto_ret]
       go_ret2
       exact ql1 HB3.out
      ·rw [if_neg h120] at hRo
       have HRn := Aside0.mk hRo
       have hdl := trimD r'
       have hls := HLs.out
       clear hRo
       go_wp2_with fail
       refine hw2.mono ?_
       rintro e w3 ⟨rfl, f3, h3⟩
       have HB3 := Aside0.mk (HBi.out.trans (f3.1.mono hwb))
       have H73 := Aside0.mk ((f3.2 (b + 1) (by omega) (by omega)).trans H7i.out)
       have HL3 := Aside0.mk h3
       obtain ⟨v3, h5, h6⟩ := h3
       rw [List.length_append] at h6
       obtain ⟨g3, cap3, rfl⟩ := qh1 h6
       have g2 : w3.cell? ⟨b, 2, none⟩ = some (.bool false) := by rw [qt h5]; rfl
       have g1 : w3.cell? ⟨b, 1, none⟩ = some (.slice (some ⟨g3, 0, none⟩) (l.length + 1) cap3) := by rw [qt h5]; rfl
       have g0 : w3.cell? ⟨b, 0, none⟩ = some (.string (ba r')) := by rw [qt h5]; rfl
       have hdc : decide ((120 : Int) < (l.length : Int) + 1) = false := by simp; omega
       have hTL := left_call (ba r') w3
       rw [qu] at hTL
       clear f3 h5 h6 hw2
       go_wp2_with fail
       refine hTL.mono ?_
       rintro e w4 ⟨rfl, b4⟩
       have hL4 := HL3.out.below b4
       have HL5 := Aside0.mk (hL4.put_s (s' := ba (r'.dropWhile spB)) hbB)
       have z0 : w4.cell? ⟨b, 0, none⟩ = some (.string (ba r')) := by obtain ⟨v, h5, _⟩ := hL4; rw [qt h5]; rfl
       have zf : w4.frozen? ⟨b, 0, none⟩ = false := by obtain ⟨v, h5, _⟩ := hL4; exact Lib.frozen_of_heap h5 0
       have HB5 := Aside0.mk ((chain HB3.out (Nat.le_refl _) b4).setCell (p := ⟨b, 0, none⟩) hwb (.string (ba (r'.dropWhile spB))))
       have H75 := Aside0.mk ((Below.heap_setCell w4 ⟨b, 0, none⟩ (.string (ba (r'.dropWhile spB))) (b + 1) (by show b + 1 ≠ b; omega)).trans ((b4.block (b + 1) (Array.getElem?_eq_some_iff.1 H73.out).1).trans H73.out))
       clear b4 hL4 hTL g0 g1 g2 hdc
       go_wp2_with fail
       go_roundg k1
       case measure => omega
       case rel => exact ⟨r'.dropWhile spB, l ++ [v], HL5, H75, HB5, HRn, ⟨by omega⟩, ⟨by omega⟩, ⟨by rw [List.length_append]; simp; omega⟩⟩
    ·have c6 : wr.cell? ⟨b + 1, 6, none⟩ = some (.func (.func 32) #[.pointer (some ⟨b, 0, none⟩)] #[]) := by rw [qt H7i.out]; rfl
     have hw := W6.out _ HLi.out hB2 hTw
     have hF : qv1 ((some none : Option (Option (Wd × List UInt8))) :: []) = o := HF.out
     obtain rfl : none = o := hF
     have hw2 : Calls Tryz.prog 32 #[.pointer (some ⟨b, 0, none⟩)] wr fun e w' => e = .returned (.bool true) ∧ Fr b B wr w' ∧ LB b B (ba (c :: t)) l true w' := hw
     have hR2 : (([], 30) : List Wd × Int) = R := HRo.out
     subst hR2
     clear hw hTw hB2
     go_wp2_with fail
     refine hw2.mono ?_
     rintro e w3 ⟨rfl, f3, h3⟩
     have HB3 := Aside0.mk (HBi.out.trans (f3.1.mono hwb))
     have g2 : w3.cell? ⟨b, 2, none⟩ = some (.bool true) := by obtain ⟨v, h5, _⟩ := h3; rw [qt h5]; rfl
     clear f3 h3 hw2
     go_wp2_with fail
     try rw [Exit.noGoto_ret]
     go_ret2
     exact ql1 HB3.out
theorem lex_call (s : ByteArray) (w : World) (hs : s.size ≤ 9223372036854775807) (hT : Tabs w) : Calls Tryz.prog 8 #[.string s] w (Got w (lexS s.data.toList)) := by
 by_cases h : s.size ≤ 400
 ·cases ht : textB s with
  | true => exact lex_main s w h hT ht
  | false => exact lex_char s w h hT ht
 ·exact lex_long s w (by omega)
end Go.Proofs.YthilcidoacgdfaaGreatDoor.LexM
