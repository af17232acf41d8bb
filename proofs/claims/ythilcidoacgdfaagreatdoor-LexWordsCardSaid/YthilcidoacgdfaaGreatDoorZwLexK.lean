import Derived.Test.YthilcidoacgdfaaGreatDoorZwLexJ
import Derived.StillTailTactics
import Derived.BigRegion
set_option maxHeartbeats 16000000
set_option maxRecDepth 100000
namespace Go.Proofs.YthilcidoacgdfaaGreatDoor.CharA
end Go.Proofs.YthilcidoacgdfaaGreatDoor.CharA
namespace Go.Proofs.YthilcidoacgdfaaGreatDoor.CharB
end Go.Proofs.YthilcidoacgdfaaGreatDoor.CharB
namespace Go.Proofs.YthilcidoacgdfaaGreatDoor.CharD
end Go.Proofs.YthilcidoacgdfaaGreatDoor.CharD
namespace Go.Proofs.YthilcidoacgdfaaGreatDoor.CharF
end Go.Proofs.YthilcidoacgdfaaGreatDoor.CharF
namespace Go.Proofs.YthilcidoacgdfaaGreatDoor.FigA
end Go.Proofs.YthilcidoacgdfaaGreatDoor.FigA
namespace Go.Proofs.YthilcidoacgdfaaGreatDoor.FigC
end Go.Proofs.YthilcidoacgdfaaGreatDoor.FigC
namespace Go.Proofs.YthilcidoacgdfaaGreatDoor.FigD
end Go.Proofs.YthilcidoacgdfaaGreatDoor.FigD
namespace Go.Proofs.YthilcidoacgdfaaGreatDoor.FigG
end Go.Proofs.YthilcidoacgdfaaGreatDoor.FigG
namespace Go.Proofs.YthilcidoacgdfaaGreatDoor.FigH
end Go.Proofs.YthilcidoacgdfaaGreatDoor.FigH
namespace Go.Proofs.YthilcidoacgdfaaGreatDoor.FigI
end Go.Proofs.YthilcidoacgdfaaGreatDoor.FigI
namespace Go.Proofs.YthilcidoacgdfaaGreatDoor.LexA
end Go.Proofs.YthilcidoacgdfaaGreatDoor.LexA
namespace Go.Proofs.YthilcidoacgdfaaGreatDoor.LexF
end Go.Proofs.YthilcidoacgdfaaGreatDoor.LexF
namespace Go.Proofs.YthilcidoacgdfaaGreatDoor.LexG
end Go.Proofs.YthilcidoacgdfaaGreatDoor.LexG
namespace Go.Proofs.YthilcidoacgdfaaGreatDoor.LexH
end Go.Proofs.YthilcidoacgdfaaGreatDoor.LexH
namespace Go.Proofs.YthilcidoacgdfaaGreatDoor.SpanA
end Go.Proofs.YthilcidoacgdfaaGreatDoor.SpanA
namespace Go.Proofs.YthilcidoacgdfaaGreatDoorW.PrintLast
end Go.Proofs.YthilcidoacgdfaaGreatDoorW.PrintLast
namespace Go.Proofs.YthilcidoacgdfaaGreatDoorW.PrintMore
end Go.Proofs.YthilcidoacgdfaaGreatDoorW.PrintMore
namespace Go.Proofs.YthilcidoacgdfaaGreatDoorW.PrintWords
end Go.Proofs.YthilcidoacgdfaaGreatDoorW.PrintWords
namespace Go.Proofs.YthilcidoacgdfaaGreatDoor.LexK
open Go.RowKit Go.Shelf YthilcidoacgdfaaGreatDoorW.PrintWords YthilcidoacgdfaaGreatDoorW.PrintLast YthilcidoacgdfaaGreatDoorW.PrintMore CharA CharB CharD CharF SpanA FigA FigC FigD FigG FigH FigI LexA LexF LexG LexH
set_option linter.unusedVariables false
set_option linter.unusedSimpArgs false
theorem number_no1 (b B : Nat) (s t : ByteArray) (c : UInt8) (l : List Wd) (w : World) (h : LB b B s l false w) (hs : s.size ≤ 1000000000) (hd : Head s c t) (h0 : dgN s = 0) (hc : ¬ c = 46) :
  Calls Tryz.prog 27 #[selfL b] w fun e w' => e = .returned (.bool false) ∧ w = w' := by
 have hg := qm1 s w hs
 rw [h0] at hg
 obtain ⟨v, h1, _⟩ := h
 have c0 : w.cell? ⟨b, 0, none⟩ = some (.string s) := by rw [qt h1]; rfl
 have hp := hd.pos
 have q1 : (((s[0]'hp).toNat : Int) != 46) = true := by rw [hd.at0, bne_iff_ne]; intro q; exact hc ((u8i c 46 (by omega)).1 q)
 clear hd h1 hc h0
 unfold selfL
 go_enter Tryz.func27, Tryz.ntmps27
 go_wp2_with fail
 refine hg.mono ?_
 rintro e w1 ⟨rfl, rfl⟩
 go_wp2_with fail
 go_ret
 exact ⟨rfl, rfl⟩
theorem number_no2 (b B m : Nat) (s t : ByteArray) (c : UInt8) (l : List Wd) (w : World) (h : LB b B s l false w) (hs : s.size ≤ 1000000000) (hd : Head s c t) (h0 : dgN s = 0) (hc : c = 46) (hm : dgN t = m) (hm0 : m = 0) :
  Calls Tryz.prog 27 #[selfL b] w fun e w' => e = .returned (.bool false) ∧ w = w' := by
 have hg := qm1 s w hs
 have hus := hd.size
 have hg3 := qm1 t w (by omega)
 rw [h0] at hg
 rw [hm] at hg3
 have c0 : w.cell? ⟨b, 0, none⟩ = some (.string s) := by obtain ⟨v, h1, _⟩ := h; rw [qt h1]; rfl
 have hp := hd.pos
 have x2 := hd.rest
 have x3 : (1 : Int) ≤ (s.size : Int) := by omega
 have q1 : (((s[0]'hp).toNat : Int) != 46) = false := by rw [hd.at0, hc]; rfl
 have n0 : (m == 0) = true := by simpa using hm0
 clear hd h hc h0 hm hm0 hus
 unfold selfL
 go_enter Tryz.func27, Tryz.ntmps27
 go_wp2_with fail
 refine hg.mono ?_
 rintro e w1 ⟨rfl, rfl⟩
 go_wp2_with fail
 refine hg3.mono ?_
 rintro e w1 ⟨rfl, rfl⟩
 go_wp2_with fail
 go_ret
 exact ⟨rfl, rfl⟩
def numR (b B : Nat) (s : ByteArray) (l : List Wd) (z y : List UInt8) (w' : World) : Prop :=
 if (litS z).2 = true ∧ (litS z).1.1 = 0 then LB b B (ba y) (l ++ [(9, z, (litS z).1)]) false w' else LB b B s l true w'
theorem cells_n {W : World} {b B : Nat} {s : ByteArray} {l : List Wd} {x : Wd} (h : LB b B s (l ++ [x]) false W) : ∃ g cap, W.heap[b]? = some (Obj.cells #[.string s, .slice (some ⟨g, 0, none⟩) (l.length + 1) cap, .bool false] 54 (0, 0)) ∧ W.ownsRow B 49 4 (.slice (some ⟨g, 0, none⟩) (l.length + 1) cap) (l.length + 1) (wcs (l ++ [x])) ∧ (∀ j, W.frozen? ⟨g, j, none⟩ = false) := by
 obtain ⟨v, h1, h2⟩ := h
 rw [List.length_append] at h2
 obtain ⟨g, cap, rfl⟩ := qh1 h2
 refine ⟨g, cap, h1, h2, fun j => ?_⟩
 rcases h2.2 with ⟨h0, _⟩ | ⟨g', cap', cur, hv, hB, hg, _⟩
 ·cases h0
 ·cases hv
  exact Lib.frozen_of_heap hg j

theorem number_q2 (b B n : Nat) (s : ByteArray) (c : UInt8) (l : List Wd) (w : World) (h : LB b B s l false w) (hb : b < B) (hB : B ≤ w.heap.size) (hl : l.length ≤ 1000) (hs : s.size ≤ 1000000000) (h0 : dgN s = n) (hn : 0 < n) (hq : ¬ n < s.size) (z y : List UInt8) (hz : s.extract 0 n = ba z) (hy : s.extract n s.size = ba y) :
  Calls Tryz.prog 27 #[selfL b] w fun e w' => e = .returned (.bool true) ∧ numR b B s l z y w' ∧ Fr b B w w' := by
 have hg := qm1 s w hs
 have hle := dgN_le s
 rw [h0] at hg hle
 have n0 : (n == 0) = false := by simp; omega
 have n1 : (0 : Int) ≤ (n : Int) := by omega
 have n2 : (n : Int) ≤ (s.size : Int) := by omega
 have n3 : decide (n < s.size) = false := by simpa using hq
 have hzs : (ba z).size ≤ 1000000000 := by rw [← hz]; simp; omega
 have cl := lit_call (ba z) w hzs
 rw [qu] at cl
 have HF2 : Aside0 (∀ W, Below w.heap.size w W → Fr b B w W) := ⟨fun W hW => Fr.of_below hW hB (Nat.le_of_lt hb)⟩
 have HC : Aside0 (∀ W, Below w.heap.size w W → W.cell? ⟨b, 0, none⟩ = some (.string s)) := ⟨fun W hW => by obtain ⟨v, h1, _⟩ := h.below hW; rw [qt h1]; rfl⟩
 have HN : Aside0 (∀ W, Below w.heap.size w W → W.heap.size ≠ b) := ⟨fun W hW => by have := hW.size; have := h.lt; omega⟩
 have hf : ∀ W, Below w.heap.size w W → _ := fun W hW => fail_call b B s l W (h.below hW) hb
 have hy2 : ∀ W, Below w.heap.size w W → _ := fun W hW => Aside0.mk (say_full b B s l 9 (ba z) (ba y) W.drew (h.below hW).drew hb (Nat.le_trans hB hW.size) hl)
 have c0 : w.cell? ⟨b, 0, none⟩ = some (.string s) := HC.out w (Below.refl _ _)
 have HL := Aside0.mk hf
 have HY := Aside0.mk hy2
 clear h hzs hf hy2 h0 hq hle
 unfold numR
 rw [qu] at HY
 generalize litS z = q at *
 obtain ⟨⟨d1, d2⟩, is⟩ := q
 unfold selfL at HL HY ⊢
 simp only at cl ⊢
 cases is with
 | false =>
  simp only [Bool.false_eq_true, false_and, if_false]
  clear HY HC HN
  go_enter Tryz.func27, Tryz.ntmps27
  go_wp2_with fail
  refine hg.mono ?_
  rintro e w2 ⟨rfl, rfl⟩
  go_wp2_with fail
  refine cl.mono ?_
  rintro e w2 ⟨rfl, b2⟩
  have b3 := b2.alloc b2.size (Obj.cells #[.int .i64 d1, .int .i64 d2] 32)
  have hL := HL.out _ b3
  have F1 := Aside0.mk (HF2.out _ b3)
  clear b2 b3
  go_wp2_with fail
  refine hL.mono ?_
  rintro e w3 ⟨rfl, h2, f2⟩
  go_wp2_with fail
  go_ret
  exact ⟨rfl, h2, F1.out.trans f2⟩
 | true =>
  by_cases hd1 : d1 = 0
  ·subst hd1
   simp only [true_and, if_true]
   clear HL
   go_enter Tryz.func27, Tryz.ntmps27
   go_wp2_with fail
   refine hg.mono ?_
   rintro e w2 ⟨rfl, rfl⟩
   go_wp2_with fail
   refine cl.mono ?_
   rintro e w2 ⟨rfl, b2⟩
   have b3 := b2.alloc b2.size (Obj.cells #[.int .i64 0, .int .i64 d2] 32)
   have X3 := box_new 0 d2 w2
   have y0 := X3.c0
   have c3 := HC.out _ b3
   have F1 := Aside0.mk (HF2.out _ b3)
   have hY := HY.out _ b3
   have hnb := HN.out w2 b2
   have HX := Aside0.mk X3
   have HNB := Aside0.mk hnb
   clear b2 b3 X3 hnb
   go_wp2_with fail
   generalize w2.alloc (Obj.cells #[.int .i64 0, .int .i64 d2] 32) = w3 at *
   refine wp_region_still_tail 13 (by kernel_rfl) (by kernel_rfl) ?_
   simp only [List.take_succ_cons, List.take_zero, List.drop_succ_cons, List.drop_zero]
   change wpStill _ _ w3.drew _ _ _
   repeat still_step
   refine wpStill_nil ?_
   change wpList _ _ _ _ _ w3.drew
   have hY := hY.out
   go_wp2_with fail
   refine hY.mono ?_
   rintro e w4 ⟨rfl, h4, f4, o4⟩
   have X4 : Box w2.heap.size 0 d2 w4 := o4 _ _ _ HX.out (by decide) HNB.out
   obtain ⟨g, cap, k1, k2, k3⟩ := cells_n h4
   have a1 : w4.cell? ⟨b, 1, none⟩ = some (.slice (some ⟨g, 0, none⟩) (l.length + 1) cap) := by rw [qt k1]; rfl
   have z0 := X4.c0
   have z1 := X4.c1
   have r2 : w4.cell? ⟨g, l.length * 4 + 2, none⟩ = some (.int .i64 0) := qr1 k2 2 _ rfl
   have r3 : w4.cell? ⟨g, l.length * 4 + 3, none⟩ = some (.int .i64 0) := qr1 k2 3 _ rfl
   have p2 := k3 (l.length * 4 + 2)
   have p3 := k3 (l.length * 4 + 3)
   have HL5 := Aside0.mk (LB.put_n hb 0 d2 k1 k2)
   have hgB := (k2.lt g rfl).1
   have HF5 := Aside0.mk (((F1.out.drew.trans f4).set (.inr hgB) (Nat.le_of_lt hb) (l.length * 4 + 2) (.int .i64 0)).set (.inr hgB) (Nat.le_of_lt hb) (l.length * 4 + 3) (.int .i64 d2))
   clear k1 k2 k3 h4 f4 o4 X4 hY y0 c3 hgB
   go_wp2_with fail
   go_region
   go_wp2_with fail
   go_ret
   exact ⟨rfl, HL5.out.drew, HF5.out.drew⟩
  ·have hne : (d1 != 0) = true := by simpa using hd1
   simp only [true_and, hd1, if_false]
   clear HY HC HN hd1
   go_enter Tryz.func27, Tryz.ntmps27
   go_wp2_with fail
   refine hg.mono ?_
   rintro e w2 ⟨rfl, rfl⟩
   go_wp2_with fail
   refine cl.mono ?_
   rintro e w2 ⟨rfl, b2⟩
   have b3 := b2.alloc b2.size (Obj.cells #[.int .i64 d1, .int .i64 d2] 32)
   have X3 := box_new d1 d2 w2
   have y0 := X3.c0
   have y1 := X3.c1
   clear X3
   have hL := HL.out _ b3
   have F1 := Aside0.mk (HF2.out _ b3)
   clear b2 b3
   go_wp2_with fail
   refine hL.mono ?_
   rintro e w3 ⟨rfl, h2, f2⟩
   go_wp2_with fail
   go_ret
   exact ⟨rfl, h2, F1.out.trans f2⟩
theorem number_q1 (b B n : Nat) (s : ByteArray) (c : UInt8) (l : List Wd) (w : World) (h : LB b B s l false w) (hb : b < B) (hB : B ≤ w.heap.size) (hl : l.length ≤ 1000) (hs : s.size ≤ 1000000000) (h0 : dgN s = n) (hn : 0 < n) (hq : n < s.size) (hne : ¬ (s[n]'hq) = 46) (z y : List UInt8) (hz : s.extract 0 n = ba z) (hy : s.extract n s.size = ba y) :
  Calls Tryz.prog 27 #[selfL b] w fun e w' => e = .returned (.bool true) ∧ numR b B s l z y w' ∧ Fr b B w w' := by
 have hg := qm1 s w hs
 rw [h0] at hg
 have n0 : (n == 0) = false := by simp; omega
 have n1 : (0 : Int) ≤ (n : Int) := by omega
 have n2 : (n : Int) ≤ (s.size : Int) := by omega
 have n4 : (((s[n]'hq).toNat : Int) == 46) = false := by rw [beq_eq_false_iff_ne]; intro q; exact hne ((u8i _ 46 (by omega)).1 q)
 have hzs : (ba z).size ≤ 1000000000 := by rw [← hz]; simp; omega
 have cl := lit_call (ba z) w hzs
 rw [qu] at cl
 have HF2 : Aside0 (∀ W, Below w.heap.size w W → Fr b B w W) := ⟨fun W hW => Fr.of_below hW hB (Nat.le_of_lt hb)⟩
 have HC : Aside0 (∀ W, Below w.heap.size w W → W.cell? ⟨b, 0, none⟩ = some (.string s)) := ⟨fun W hW => by obtain ⟨v, h1, _⟩ := h.below hW; rw [qt h1]; rfl⟩
 have HN : Aside0 (∀ W, Below w.heap.size w W → W.heap.size ≠ b) := ⟨fun W hW => by have := hW.size; have := h.lt; omega⟩
 have hf : ∀ W, Below w.heap.size w W → _ := fun W hW => fail_call b B s l W (h.below hW) hb
 have hy2 : ∀ W, Below w.heap.size w W → _ := fun W hW => Aside0.mk (say_full b B s l 9 (ba z) (ba y) W.drew (h.below hW).drew hb (Nat.le_trans hB hW.size) hl)
 have c0 : w.cell? ⟨b, 0, none⟩ = some (.string s) := HC.out w (Below.refl _ _)
 have HL := Aside0.mk hf
 have HY := Aside0.mk hy2
 clear h hzs hf hy2 h0 hne
 unfold numR
 rw [qu] at HY
 generalize litS z = q at *
 obtain ⟨⟨d1, d2⟩, is⟩ := q
 unfold selfL at HL HY ⊢
 simp only at cl ⊢
 cases is with
 | false =>
  simp only [Bool.false_eq_true, false_and, if_false]
  clear HY HC HN
  go_enter Tryz.func27, Tryz.ntmps27
  go_wp2_with fail
  refine hg.mono ?_
  rintro e w2 ⟨rfl, rfl⟩
  go_wp2_with fail
  refine cl.mono ?_
  rintro e w2 ⟨rfl, b2⟩
  have b3 := b2.alloc b2.size (Obj.cells #[.int .i64 d1, .int .i64 d2] 32)
  have hL := HL.out _ b3
  have F1 := Aside0.mk (HF2.out _ b3)
  clear b2 b3
  go_wp2_with fail
  refine hL.mono ?_
  rintro e w3 ⟨rfl, h2, f2⟩
  go_wp2_with fail
  go_ret
  exact ⟨rfl, h2, F1.out.trans f2⟩
 | true =>
  by_cases hd1 : d1 = 0
  ·subst hd1
   simp only [true_and, if_true]
   clear HL
   go_enter Tryz.func27, Tryz.ntmps27
   go_wp2_with fail
   refine hg.mono ?_
   rintro e w2 ⟨rfl, rfl⟩
   go_wp2_with fail
   refine cl.mono ?_
   rintro e w2 ⟨rfl, b2⟩
   have b3 := b2.alloc b2.size (Obj.cells #[.int .i64 0, .int .i64 d2] 32)
   have X3 := box_new 0 d2 w2
   have y0 := X3.c0
   have c3 := HC.out _ b3
   have F1 := Aside0.mk (HF2.out _ b3)
   have hY := HY.out _ b3
   have hnb := HN.out w2 b2
   have HX := Aside0.mk X3
   have HNB := Aside0.mk hnb
   clear b2 b3 X3 hnb
   go_wp2_with fail
   generalize w2.alloc (Obj.cells #[.int .i64 0, .int .i64 d2] 32) = w3 at *
   refine wp_region_still_tail 13 (by kernel_rfl) (by kernel_rfl) ?_
   simp only [List.take_succ_cons, List.take_zero, List.drop_succ_cons, List.drop_zero]
   change wpStill _ _ w3.drew _ _ _
   repeat still_step
   refine wpStill_nil ?_
   change wpList _ _ _ _ _ w3.drew
   have hY := hY.out
   go_wp2_with fail
   refine hY.mono ?_
   rintro e w4 ⟨rfl, h4, f4, o4⟩
   have X4 : Box w2.heap.size 0 d2 w4 := o4 _ _ _ HX.out (by decide) HNB.out
   obtain ⟨g, cap, k1, k2, k3⟩ := cells_n h4
   have a1 : w4.cell? ⟨b, 1, none⟩ = some (.slice (some ⟨g, 0, none⟩) (l.length + 1) cap) := by rw [qt k1]; rfl
   have z0 := X4.c0
   have z1 := X4.c1
   have r2 : w4.cell? ⟨g, l.length * 4 + 2, none⟩ = some (.int .i64 0) := qr1 k2 2 _ rfl
   have r3 : w4.cell? ⟨g, l.length * 4 + 3, none⟩ = some (.int .i64 0) := qr1 k2 3 _ rfl
   have p2 := k3 (l.length * 4 + 2)
   have p3 := k3 (l.length * 4 + 3)
   have HL5 := Aside0.mk (LB.put_n hb 0 d2 k1 k2)
   have hgB := (k2.lt g rfl).1
   have HF5 := Aside0.mk (((F1.out.drew.trans f4).set (.inr hgB) (Nat.le_of_lt hb) (l.length * 4 + 2) (.int .i64 0)).set (.inr hgB) (Nat.le_of_lt hb) (l.length * 4 + 3) (.int .i64 d2))
   clear k1 k2 k3 h4 f4 o4 X4 hY y0 c3 hgB
   go_wp2_with fail
   go_region
   go_wp2_with fail
   go_ret
   exact ⟨rfl, HL5.out.drew, HF5.out.drew⟩
  ·have hne : (d1 != 0) = true := by simpa using hd1
   simp only [true_and, hd1, if_false]
   clear HY HC HN hd1
   go_enter Tryz.func27, Tryz.ntmps27
   go_wp2_with fail
   refine hg.mono ?_
   rintro e w2 ⟨rfl, rfl⟩
   go_wp2_with fail
   refine cl.mono ?_
   rintro e w2 ⟨rfl, b2⟩
   have b3 := b2.alloc b2.size (Obj.cells #[.int .i64 d1, .int .i64 d2] 32)
   have X3 := box_new d1 d2 w2
   have y0 := X3.c0
   have y1 := X3.c1
   clear X3
   have hL := HL.out _ b3
   have F1 := Aside0.mk (HF2.out _ b3)
   clear b2 b3
   go_wp2_with fail
   refine hL.mono ?_
   rintro e w3 ⟨rfl, h2, f2⟩
   go_wp2_with fail
   go_ret
   exact ⟨rfl, h2, F1.out.trans f2⟩
theorem number_p (b B n m : Nat) (s u : ByteArray) (c : UInt8) (l : List Wd) (w : World) (h : LB b B s l false w) (hb : b < B) (hB : B ≤ w.heap.size) (hl : l.length ≤ 1000) (hs : s.size ≤ 1000000000) (h0 : dgN s = n) (hn : 0 < n) (hq : n < s.size) (hne : (s[n]'hq) = 46) (hu : s.extract (n + 1) s.size = u) (hm : dgN u = m) (z y : List UInt8) (hz : s.extract 0 (n + (1 + m)) = ba z) (hy : s.extract (n + (1 + m)) s.size = ba y) :
  Calls Tryz.prog 27 #[selfL b] w fun e w' => e = .returned (.bool true) ∧ numR b B s l z y w' ∧ Fr b B w w' := by
 have hg := qm1 s w hs
 rw [h0] at hg
 have hus : u.size = s.size - (n + 1) := by rw [← hu]; simp
 have hg3 := qm1 u w (by omega)
 have hmu := dgN_le u
 rw [hm] at hg3 hmu
 have n0 : (n == 0) = false := by simp; omega
 have n1 : (0 : Int) ≤ (n : Int) := by omega
 have n2 : (n : Int) + 1 ≤ (s.size : Int) := by omega
 have n3 : (n : Int) + (1 + (m : Int)) ≤ (s.size : Int) := by omega
 have n5 : m ≤ 1000000000 := by omega
 have n6 : (0 : Int) ≤ (n : Int) + (1 + (m : Int)) := by omega
 have n7 : ((n : Int) + (1 + (m : Int))).toNat = n + (1 + m) := by omega
 have n4 : (((s[n]'hq).toNat : Int) == 46) = true := by rw [beq_iff_eq]; exact (u8i _ 46 (by omega)).2 hne
 have hzs : (ba z).size ≤ 1000000000 := by rw [← hz]; simp; omega
 have cl := lit_call (ba z) w hzs
 rw [qu] at cl
 have HF2 : Aside0 (∀ W, Below w.heap.size w W → Fr b B w W) := ⟨fun W hW => Fr.of_below hW hB (Nat.le_of_lt hb)⟩
 have HC : Aside0 (∀ W, Below w.heap.size w W → W.cell? ⟨b, 0, none⟩ = some (.string s)) := ⟨fun W hW => by obtain ⟨v, h1, _⟩ := h.below hW; rw [qt h1]; rfl⟩
 have HN : Aside0 (∀ W, Below w.heap.size w W → W.heap.size ≠ b) := ⟨fun W hW => by have := hW.size; have := h.lt; omega⟩
 have hf : ∀ W, Below w.heap.size w W → _ := fun W hW => fail_call b B s l W (h.below hW) hb
 have hy2 : ∀ W, Below w.heap.size w W → _ := fun W hW => Aside0.mk (say_full b B s l 9 (ba z) (ba y) W.drew (h.below hW).drew hb (Nat.le_trans hB hW.size) hl)
 have c0 : w.cell? ⟨b, 0, none⟩ = some (.string s) := HC.out w (Below.refl _ _)
 have HL := Aside0.mk hf
 have HY := Aside0.mk hy2
 clear h hzs hf hy2 h0 hne hm hus hmu
 unfold numR
 rw [qu] at HY
 generalize litS z = q at *
 obtain ⟨⟨d1, d2⟩, is⟩ := q
 unfold selfL at HL HY ⊢
 simp only at cl ⊢
 cases is with
 | false =>
  simp only [Bool.false_eq_true, false_and, if_false]
  clear HY HC HN
  go_enter Tryz.func27, Tryz.ntmps27
  go_wp2_with fail
  refine hg.mono ?_
  rintro e w2 ⟨rfl, rfl⟩
  go_wp2_with fail
  refine hg3.mono ?_
  rintro e w2 ⟨rfl, rfl⟩
  go_wp2_with fail
  refine cl.mono ?_
  rintro e w2 ⟨rfl, b2⟩
  have b3 := b2.alloc b2.size (Obj.cells #[.int .i64 d1, .int .i64 d2] 32)
  have hL := HL.out _ b3
  have F1 := Aside0.mk (HF2.out _ b3)
  clear b2 b3
  go_wp2_with fail
  refine hL.mono ?_
  rintro e w3 ⟨rfl, h2, f2⟩
  go_wp2_with fail
  go_ret
  exact ⟨rfl, h2, F1.out.trans f2⟩
 | true =>
  by_cases hd1 : d1 = 0
  ·subst hd1
   simp only [true_and, if_true]
   clear HL
   go_enter Tryz.func27, Tryz.ntmps27
   go_wp2_with fail
   refine hg.mono ?_
   rintro e w2 ⟨rfl, rfl⟩
   go_wp2_with fail
   refine hg3.mono ?_
   rintro e w2 ⟨rfl, rfl⟩
   go_wp2_with fail
   refine cl.mono ?_
   rintro e w2 ⟨rfl, b2⟩
   have b3 := b2.alloc b2.size (Obj.cells #[.int .i64 0, .int .i64 d2] 32)
   have X3 := box_new 0 d2 w2
   have y0 := X3.c0
   have c3 := HC.out _ b3
   have F1 := Aside0.mk (HF2.out _ b3)
   have hY := HY.out _ b3
   have hnb := HN.out w2 b2
   have HX := Aside0.mk X3
   have HNB := Aside0.mk hnb
   clear b2 b3 X3 hnb
   go_wp2_with fail
   generalize w2.alloc (Obj.cells #[.int .i64 0, .int .i64 d2] 32) = w3 at *
   refine wp_region_still_tail 13 (by kernel_rfl) (by kernel_rfl) ?_
   simp only [List.take_succ_cons, List.take_zero, List.drop_succ_cons, List.drop_zero]
   change wpStill _ _ w3.drew _ _ _
   repeat still_step
   refine wpStill_nil ?_
   change wpList _ _ _ _ _ w3.drew
   have hY := hY.out
   go_wp2_with fail
   refine hY.mono ?_
   rintro e w4 ⟨rfl, h4, f4, o4⟩
   have X4 : Box w2.heap.size 0 d2 w4 := o4 _ _ _ HX.out (by decide) HNB.out
   obtain ⟨g, cap, k1, k2, k3⟩ := cells_n h4
   have a1 : w4.cell? ⟨b, 1, none⟩ = some (.slice (some ⟨g, 0, none⟩) (l.length + 1) cap) := by rw [qt k1]; rfl
   have z0 := X4.c0
   have z1 := X4.c1
   have r2 : w4.cell? ⟨g, l.length * 4 + 2, none⟩ = some (.int .i64 0) := qr1 k2 2 _ rfl
   have r3 : w4.cell? ⟨g, l.length * 4 + 3, none⟩ = some (.int .i64 0) := qr1 k2 3 _ rfl
   have p2 := k3 (l.length * 4 + 2)
   have p3 := k3 (l.length * 4 + 3)
   have HL5 := Aside0.mk (LB.put_n hb 0 d2 k1 k2)
   have hgB := (k2.lt g rfl).1
   have HF5 := Aside0.mk (((F1.out.drew.trans f4).set (.inr hgB) (Nat.le_of_lt hb) (l.length * 4 + 2) (.int .i64 0)).set (.inr hgB) (Nat.le_of_lt hb) (l.length * 4 + 3) (.int .i64 d2))
   clear k1 k2 k3 h4 f4 o4 X4 hY y0 c3 hgB
   go_wp2_with fail
   go_region
   go_wp2_with fail
   go_ret
   exact ⟨rfl, HL5.out.drew, HF5.out.drew⟩
  ·have hne : (d1 != 0) = true := by simpa using hd1
   simp only [true_and, hd1, if_false]
   clear HY HC HN hd1
   go_enter Tryz.func27, Tryz.ntmps27
   go_wp2_with fail
   refine hg.mono ?_
   rintro e w2 ⟨rfl, rfl⟩
   go_wp2_with fail
   refine hg3.mono ?_
   rintro e w2 ⟨rfl, rfl⟩
   go_wp2_with fail
   refine cl.mono ?_
   rintro e w2 ⟨rfl, b2⟩
   have b3 := b2.alloc b2.size (Obj.cells #[.int .i64 d1, .int .i64 d2] 32)
   have X3 := box_new d1 d2 w2
   have y0 := X3.c0
   have y1 := X3.c1
   clear X3
   have hL := HL.out _ b3
   have F1 := Aside0.mk (HF2.out _ b3)
   clear b2 b3
   go_wp2_with fail
   refine hL.mono ?_
   rintro e w3 ⟨rfl, h2, f2⟩
   go_wp2_with fail
   go_ret
   exact ⟨rfl, h2, F1.out.trans f2⟩
theorem number_c (b B n m : Nat) (s t : ByteArray) (c : UInt8) (l : List Wd) (w : World) (h : LB b B s l false w) (hb : b < B) (hB : B ≤ w.heap.size) (hl : l.length ≤ 1000) (hs : s.size ≤ 1000000000) (hd : Head s c t) (h0 : dgN s = 0) (hc : c = 46) (hm : dgN t = m) (hm0 : 0 < m) (z y : List UInt8) (hz : s.extract 0 (1 + m) = ba z) (hy : s.extract (1 + m) s.size = ba y) :
  Calls Tryz.prog 27 #[selfL b] w fun e w' => e = .returned (.bool true) ∧ numR b B s l z y w' ∧ Fr b B w w' := by
 have hg := qm1 s w hs
 rw [h0] at hg
 have hus := hd.size
 have hg3 := qm1 t w (by omega)
 have hmu := dgN_le t
 rw [hm] at hg3 hmu
 have hp := hd.pos
 have x2 := hd.rest
 have x3 : (1 : Int) ≤ (s.size : Int) := by omega
 have q1 : (((s[0]'hp).toNat : Int) != 46) = false := by rw [hd.at0, hc]; rfl
 have q2 : (((s[0]'hp).toNat : Int) == 46) = true := by rw [hd.at0, hc]; rfl
 have n0 : (m == 0) = false := by simp; omega
 have n3 : 1 + (m : Int) ≤ (s.size : Int) := by omega
 have n5 : m ≤ 1000000000 := by omega
 have n6 : (0 : Int) ≤ 1 + (m : Int) := by omega
 have n7 : (1 + (m : Int)).toNat = 1 + m := by omega
 have hzs : (ba z).size ≤ 1000000000 := by rw [← hz]; simp; omega
 have cl := lit_call (ba z) w hzs
 rw [qu] at cl
 have HF2 : Aside0 (∀ W, Below w.heap.size w W → Fr b B w W) := ⟨fun W hW => Fr.of_below hW hB (Nat.le_of_lt hb)⟩
 have HC : Aside0 (∀ W, Below w.heap.size w W → W.cell? ⟨b, 0, none⟩ = some (.string s)) := ⟨fun W hW => by obtain ⟨v, h1, _⟩ := h.below hW; rw [qt h1]; rfl⟩
 have HN : Aside0 (∀ W, Below w.heap.size w W → W.heap.size ≠ b) := ⟨fun W hW => by have := hW.size; have := h.lt; omega⟩
 have hf : ∀ W, Below w.heap.size w W → _ := fun W hW => fail_call b B s l W (h.below hW) hb
 have hy2 : ∀ W, Below w.heap.size w W → _ := fun W hW => Aside0.mk (say_full b B s l 9 (ba z) (ba y) W.drew (h.below hW).drew hb (Nat.le_trans hB hW.size) hl)
 have c0 : w.cell? ⟨b, 0, none⟩ = some (.string s) := HC.out w (Below.refl _ _)
 have HL := Aside0.mk hf
 have HY := Aside0.mk hy2
 clear h hzs hf hy2 h0 hc hm hus hmu hd
 unfold numR
 rw [qu] at HY
 generalize litS z = q at *
 obtain ⟨⟨d1, d2⟩, is⟩ := q
 unfold selfL at HL HY ⊢
 simp only at cl ⊢
 cases is with
 | false =>
  simp only [Bool.false_eq_true, false_and, if_false]
  clear HY HC HN
  go_enter Tryz.func27, Tryz.ntmps27
  go_wp2_with fail
  refine hg.mono ?_
  rintro e w2 ⟨rfl, rfl⟩
  go_wp2_with fail
  refine hg3.mono ?_
  rintro e w2 ⟨rfl, rfl⟩
  go_wp2_with fail
  refine hg3.mono ?_
  rintro e w2 ⟨rfl, rfl⟩
  go_wp2_with fail
  refine cl.mono ?_
  rintro e w2 ⟨rfl, b2⟩
  have b3 := b2.alloc b2.size (Obj.cells #[.int .i64 d1, .int .i64 d2] 32)
  have hL := HL.out _ b3
  have F1 := Aside0.mk (HF2.out _ b3)
  clear b2 b3
  go_wp2_with fail
  refine hL.mono ?_
  rintro e w3 ⟨rfl, h2, f2⟩
  go_wp2_with fail
  go_ret
  exact ⟨rfl, h2, F1.out.trans f2⟩
 | true =>
  by_cases hd1 : d1 = 0
  ·subst hd1
   simp only [true_and, if_true]
   clear HL
   go_enter Tryz.func27, Tryz.ntmps27
   go_wp2_with fail
   refine hg.mono ?_
   rintro e w2 ⟨rfl, rfl⟩
   go_wp2_with fail
   refine hg3.mono ?_
   rintro e w2 ⟨rfl, rfl⟩
   go_wp2_with fail
   refine hg3.mono ?_
   rintro e w2 ⟨rfl, rfl⟩
   go_wp2_with fail
   refine cl.mono ?_
   rintro e w2 ⟨rfl, b2⟩
   have b3 := b2.alloc b2.size (Obj.cells #[.int .i64 0, .int .i64 d2] 32)
   have X3 := box_new 0 d2 w2
   have y0 := X3.c0
   have c3 := HC.out _ b3
   have F1 := Aside0.mk (HF2.out _ b3)
   have hY := HY.out _ b3
   have hnb := HN.out w2 b2
   have HX := Aside0.mk X3
   have HNB := Aside0.mk hnb
   clear b2 b3 X3 hnb
   go_wp2_with fail
   generalize w2.alloc (Obj.cells #[.int .i64 0, .int .i64 d2] 32) = w3 at *
   refine wp_region_still_tail 13 (by kernel_rfl) (by kernel_rfl) ?_
   simp only [List.take_succ_cons, List.take_zero, List.drop_succ_cons, List.drop_zero]
   change wpStill _ _ w3.drew _ _ _
   repeat still_step
   refine wpStill_nil ?_
   change wpList _ _ _ _ _ w3.drew
   have hY := hY.out
   go_wp2_with fail
   refine hY.mono ?_
   rintro e w4 ⟨rfl, h4, f4, o4⟩
   have X4 : Box w2.heap.size 0 d2 w4 := o4 _ _ _ HX.out (by decide) HNB.out
   obtain ⟨g, cap, k1, k2, k3⟩ := cells_n h4
   have a1 : w4.cell? ⟨b, 1, none⟩ = some (.slice (some ⟨g, 0, none⟩) (l.length + 1) cap) := by rw [qt k1]; rfl
   have z0 := X4.c0
   have z1 := X4.c1
   have r2 : w4.cell? ⟨g, l.length * 4 + 2, none⟩ = some (.int .i64 0) := qr1 k2 2 _ rfl
   have r3 : w4.cell? ⟨g, l.length * 4 + 3, none⟩ = some (.int .i64 0) := qr1 k2 3 _ rfl
   have p2 := k3 (l.length * 4 + 2)
   have p3 := k3 (l.length * 4 + 3)
   have HL5 := Aside0.mk (LB.put_n hb 0 d2 k1 k2)
   have hgB := (k2.lt g rfl).1
   have HF5 := Aside0.mk (((F1.out.drew.trans f4).set (.inr hgB) (Nat.le_of_lt hb) (l.length * 4 + 2) (.int .i64 0)).set (.inr hgB) (Nat.le_of_lt hb) (l.length * 4 + 3) (.int .i64 d2))
   clear k1 k2 k3 h4 f4 o4 X4 hY y0 c3 hgB
   go_wp2_with fail
   go_region
   go_wp2_with fail
   go_ret
   exact ⟨rfl, HL5.out.drew, HF5.out.drew⟩
  ·have hne : (d1 != 0) = true := by simpa using hd1
   simp only [true_and, hd1, if_false]
   clear HY HC HN hd1
   go_enter Tryz.func27, Tryz.ntmps27
   go_wp2_with fail
   refine hg.mono ?_
   rintro e w2 ⟨rfl, rfl⟩
   go_wp2_with fail
   refine hg3.mono ?_
   rintro e w2 ⟨rfl, rfl⟩
   go_wp2_with fail
   refine hg3.mono ?_
   rintro e w2 ⟨rfl, rfl⟩
   go_wp2_with fail
   refine cl.mono ?_
   rintro e w2 ⟨rfl, b2⟩
   have b3 := b2.alloc b2.size (Obj.cells #[.int .i64 d1, .int .i64 d2] 32)
   have X3 := box_new d1 d2 w2
   have y0 := X3.c0
   have y1 := X3.c1
   clear X3
   have hL := HL.out _ b3
   have F1 := Aside0.mk (HF2.out _ b3)
   clear b2 b3
   go_wp2_with fail
   refine hL.mono ?_
   rintro e w3 ⟨rfl, h2, f2⟩
   go_wp2_with fail
   go_ret
   exact ⟨rfl, h2, F1.out.trans f2⟩
end Go.Proofs.YthilcidoacgdfaaGreatDoor.LexK
