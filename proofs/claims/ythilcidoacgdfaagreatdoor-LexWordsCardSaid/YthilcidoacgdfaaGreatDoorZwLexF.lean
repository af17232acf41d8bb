import Derived.Test.YthilcidoacgdfaaGreatDoorZwTxtB
import Derived.Test.YthilcidoacgdfaaGreatDoorZwFigJ
import Derived.RangeFuncSeq
import Derived.IntWalk
import Derived.Lib.Builder
set_option maxHeartbeats 4000000
set_option maxRecDepth 100000
namespace Go.Proofs.YthilcidoacgdfaaGreatDoor.CharB
end Go.Proofs.YthilcidoacgdfaaGreatDoor.CharB
namespace Go.Proofs.YthilcidoacgdfaaGreatDoor.CharD
end Go.Proofs.YthilcidoacgdfaaGreatDoor.CharD
namespace Go.Proofs.YthilcidoacgdfaaGreatDoor.CharF
end Go.Proofs.YthilcidoacgdfaaGreatDoor.CharF
namespace Go.Proofs.YthilcidoacgdfaaGreatDoor.FigA
end Go.Proofs.YthilcidoacgdfaaGreatDoor.FigA
namespace Go.Proofs.YthilcidoacgdfaaGreatDoor.FigC
end Go.Proofs.YthilcidoacgdfaaGreatDoor.FigC
namespace Go.Proofs.YthilcidoacgdfaaGreatDoor.FigD
end Go.Proofs.YthilcidoacgdfaaGreatDoor.FigD
namespace Go.Proofs.YthilcidoacgdfaaGreatDoor.FigG
end Go.Proofs.YthilcidoacgdfaaGreatDoor.FigG
namespace Go.Proofs.YthilcidoacgdfaaGreatDoor.LexA
end Go.Proofs.YthilcidoacgdfaaGreatDoor.LexA
namespace Go.Proofs.YthilcidoacgdfaaGreatDoor.SpanA
end Go.Proofs.YthilcidoacgdfaaGreatDoor.SpanA
namespace Go.Proofs.YthilcidoacgdfaaGreatDoorW.PrintLast
end Go.Proofs.YthilcidoacgdfaaGreatDoorW.PrintLast
namespace Go.Proofs.YthilcidoacgdfaaGreatDoorW.PrintMore
end Go.Proofs.YthilcidoacgdfaaGreatDoorW.PrintMore
namespace Go.Proofs.YthilcidoacgdfaaGreatDoorW.PrintWords
end Go.Proofs.YthilcidoacgdfaaGreatDoorW.PrintWords
namespace Go.Proofs.YthilcidoacgdfaaGreatDoor.LexF
open Go.RowKit Go.Shelf YthilcidoacgdfaaGreatDoorW.PrintWords YthilcidoacgdfaaGreatDoorW.PrintLast YthilcidoacgdfaaGreatDoorW.PrintMore CharB CharD CharF SpanA FigA FigC FigD FigG LexA
set_option linter.unusedVariables false
set_option linter.unusedSimpArgs false
def Fr (b B : Nat) (w w' : World) : Prop := Below b w w' ∧ ∀ k, b < k → k < B → w'.heap[k]? = w.heap[k]?
theorem Fr.refl (b B : Nat) (w : World) : Fr b B w w := ⟨Below.refl _ _, fun _ _ _ => rfl⟩
theorem Fr.trans {b B : Nat} {u v w : World} (h : Fr b B u v) (k : Fr b B v w) : Fr b B u w := ⟨h.1.trans k.1, fun i h1 h2 => (k.2 i h1 h2).trans (h.2 i h1 h2)⟩
theorem Fr.of_below {b B C : Nat} {w w' : World} (h : Below C w w') (hB : B ≤ C) (hb : b ≤ B) : Fr b B w w' := ⟨h.mono (by omega), fun k _ h2 => h.block k (by omega)⟩
theorem Fr.below {b B : Nat} {u v w : World} (h : Fr b B u v) (hB : B ≤ u.heap.size) (hb : b ≤ B) (k : Below v.heap.size v w) : Fr b B u w := h.trans (Fr.of_below k (Nat.le_trans hB h.1.size) hb)
theorem Fr.alloc {b B : Nat} {u v : World} (h : Fr b B u v) (hB : B ≤ u.heap.size) (hb : b ≤ B) (o : Obj) : Fr b B u (v.alloc o) := h.below hB hb ((Below.refl _ _).alloc (Nat.le_refl _) o)
theorem Fr.drew {b B : Nat} {u v : World} (h : Fr b B u v) : Fr b B u v.drew := ⟨Below.drew h.1, h.2⟩
theorem Fr.drewN {b B : Nat} {u v : World} (h : Fr b B u v) (n : Nat) : Fr b B u (v.drewN n) := ⟨CharB.below_drewN h.1 n, h.2⟩
theorem Fr.set {b B : Nat} {u v : World} (h : Fr b B u v) {g : Nat} (hg : g = b ∨ B ≤ g) (hb : b ≤ B) (j : Nat) (x : Value) : Fr b B u (v.setCell ⟨g, j, none⟩ x) := by
 refine ⟨h.1.setCell (p := ⟨g, j, none⟩) (by show b ≤ g; omega) x, fun k h1 h2 => ?_⟩
 rw [Below.heap_setCell _ _ _ k (by show k ≠ g; omega)]
 exact h.2 k h1 h2
theorem Fr.grown {b B : Nat} {u v w : World} (h : Fr b B u v) {row : Option Nat} (hg : v.grownBy w row) (hB : B ≤ u.heap.size) (hb : b ≤ B) (hr : ∀ g, row = some g → B ≤ g) : Fr b B u w := by
 have hB' := Nat.le_trans hB h.1.size
 refine ⟨h.1.grown hg (by omega) (fun g e => Nat.le_trans hb (hr g e)), fun k h1 h2 => ?_⟩
 rw [hg.block k (by omega) (fun e => by have := hr k e.symm; omega)]
 exact h.2 k h1 h2
def wc (w : Wd) : List Value := [.int .i64 w.1, .string (ba w.2.1), .int .i64 w.2.2.1, .int .i64 w.2.2.2]
def wcs (l : List Wd) : List Value := l.flatMap wc
theorem wcs_len (l : List Wd) : (wcs l).length = l.length * 4 := by
 induction l with
 | nil => rfl
 | cons w l ih => simp only [wcs, List.flatMap_cons, List.length_append, List.length_cons] at ih ⊢; rw [ih]; simp [wc]; omega
theorem wcs_app (l m : List Wd) : wcs (l ++ m) = wcs l ++ wcs m := by simp [wcs]
theorem wcs_one (w : Wd) : wcs [w] = wc w := by simp [wcs]
def LB (b B : Nat) (s : ByteArray) (l : List Wd) (x : Bool) (W : World) : Prop :=
 ∃ v, W.heap[b]? = some (Obj.cells #[.string s, v, .bool x] 54 (0, 0)) ∧ W.ownsRow B 49 4 v l.length (wcs l)
theorem LB.lt {b B : Nat} {s : ByteArray} {l : List Wd} {x : Bool} {W : World} (h : LB b B s l x W) : b < W.heap.size := by obtain ⟨v, h1, _⟩ := h; exact (Array.getElem?_eq_some_iff.1 h1).1
theorem LB.drew {b B : Nat} {s : ByteArray} {l : List Wd} {x : Bool} {W : World} (h : LB b B s l x W) : LB b B s l x W.drew := h
theorem LB.drewN {b B : Nat} {s : ByteArray} {l : List Wd} {x : Bool} {W : World} (h : LB b B s l x W) (n : Nat) : LB b B s l x (W.drewN n) := h
theorem own_below {B : Nat} {v : Value} {n : Nat} {xs : List Value} {t : TypeId} {m : Nat} {W W' : World} (h : W.ownsRow B t m v n xs) (hb : Below W.heap.size W W') : W'.ownsRow B t m v n xs := by
 refine ⟨h.1, ?_⟩
 rcases h.2 with hn | ⟨g, cap, cur, rfl, hB, hg, r⟩
 ·exact .inl hn
 ·refine .inr ⟨g, cap, cur, rfl, hB, ?_, r⟩
  rw [hb.block g (Array.getElem?_eq_some_iff.1 hg).1]
  exact hg
theorem LB.below {b B : Nat} {s : ByteArray} {l : List Wd} {x : Bool} {W W' : World} (h : LB b B s l x W) (hb : Below W.heap.size W W') : LB b B s l x W' := by
 obtain ⟨v, h1, h2⟩ := h
 exact ⟨v, (hb.block b (Array.getElem?_eq_some_iff.1 h1).1).trans h1, own_below h2 hb⟩
def selfL (b : Nat) : Value := .pointer (some ⟨b, 0, none⟩)
theorem own_ne {b B : Nat} (hb : b < B) {v : Value} {n : Nat} {xs : List Value} {t : TypeId} {m : Nat} {W : World} (h : W.ownsRow B t m v n xs) : v.ownBlock ≠ some b := fun e => by have := (h.lt b e).1; omega
theorem own_ge {B : Nat} {v : Value} {n : Nat} {xs : List Value} {t : TypeId} {m : Nat} {W : World} (h : W.ownsRow B t m v n xs) : ∀ g, v.ownBlock = some g → B ≤ g := fun g e => (h.lt g e).1
theorem grownBy_put (W : World) (b j : Nat) (v : Value) : W.grownBy (W.setCell ⟨b, j, none⟩ v) (some b) :=
 ⟨rfl, rfl, rfl, (KeepsWalks.setCell W _ v).size, fun k _ hk => Below.heap_setCell _ _ _ k (fun e => hk (by rw [e]))⟩
theorem put_in {W : World} {b : Nat} {cs : Array Value} {t : TypeId} (h : W.heap[b]? = some (Obj.cells cs t (0, 0))) (j : Nat) (u : Value) : (W.setCell ⟨b, j, none⟩ u).heap[b]? = some (Obj.cells (cs.setIfInBounds j u) t (0, 0)) := by
 obtain ⟨hlt, hk⟩ := Array.getElem?_eq_some_iff.1 h
 show (W.heap.modify b _)[b]? = _
 rw [Array.getElem?_eq_getElem (by rw [Array.size_modify]; exact hlt), Array.getElem_modify_self, hk]
 rfl
theorem LB.put_s {b B : Nat} (hb : b < B) {s s' : ByteArray} {l : List Wd} {x : Bool} {W : World} (h : LB b B s l x W) : LB b B s' l x (W.setCell ⟨b, 0, none⟩ (.string s')) := by
 obtain ⟨v, h1, h2⟩ := h
 exact ⟨v, put_in h1 0 _, h2.kept (grownBy_put W b 0 _) (.inr (own_ne hb h2))⟩
theorem LB.put_x {b B : Nat} (hb : b < B) {s : ByteArray} {l : List Wd} {x y : Bool} {W : World} (h : LB b B s l x W) : LB b B s l y (W.setCell ⟨b, 2, none⟩ (.bool y)) := by
 obtain ⟨v, h1, h2⟩ := h
 exact ⟨v, put_in h1 2 _, h2.kept (grownBy_put W b 2 _) (.inr (own_ne hb h2))⟩
theorem fail_call (b B : Nat) (s : ByteArray) (l : List Wd) (w : World) (h : LB b B s l false w) (hb : b < B) :
  Calls Tryz.prog 32 #[selfL b] w fun e w' => e = .returned (.bool true) ∧ LB b B s l true w' ∧ Fr b B w w' := by
 have h2 := Aside0.mk (h.put_x (y := true) hb)
 have hf := Aside0.mk ((Fr.refl b B w).set (.inl rfl) (Nat.le_of_lt hb) 2 (.bool true))
 obtain ⟨v, h1, _⟩ := h
 have f2 : w.frozen? ⟨b, 2, none⟩ = false := Lib.frozen_of_heap h1 2
 have c2 : w.cell? ⟨b, 2, none⟩ = some (.bool false) := by rw [qt h1]; rfl
 clear h1
 unfold selfL
 go_enter Tryz.func32, Tryz.ntmps32
 go_wp2_with fail
 go_ret
 exact ⟨rfl, h2.out, hf.out⟩
theorem infoW : (Tryz.prog.info? 49).map (fun i => (i.zero, i.size, i.bytes)) = some (some (.agg #[.int .i64 0, .string ⟨#[]⟩, .int .i64 0, .int .i64 0]), 4, 40) := by kernel_rfl
theorem qh1 {w : World} {B : Nat} {t : TypeId} {m n : Nat} {v : Value} {xs : List Value} (h : w.ownsRow B t m v (n + 1) xs) : ∃ g cap, v = .slice (some ⟨g, 0, none⟩) (n + 1) cap := by
 rcases h.2 with ⟨_, h0⟩ | ⟨g, cap, cur, rfl, _⟩
 ·omega
 ·exact ⟨g, cap, rfl⟩
theorem row_new (w : World) (cs : Array Value) (t : TypeId) : ∀ j u, cs.toList[j]? = some u → (w.alloc (Obj.cells cs t)).cell? ((⟨w.heap.size, 0, none⟩ : Addr).add j) = some u := by
 intro j u hu
 rw [show (⟨w.heap.size, 0, none⟩ : Addr).add j = ⟨w.heap.size, j, none⟩ by unfold Addr.add; split <;> simp_all, qt (qt1 w _) j]
 simpa using hu
def Oth (b : Nat) (w w' : World) : Prop := ∀ k cs t, w.heap[k]? = some (Obj.cells cs t (0, 0)) → t ≠ 49 → k ≠ b → w'.heap[k]? = some (Obj.cells cs t (0, 0))
theorem say_full (b B : Nat) (s : ByteArray) (l : List Wd) (k : Int) (t r : ByteArray) (w : World) (h : LB b B s l false w) (hb : b < B) (hB : B ≤ w.heap.size) (hl : l.length ≤ 1000) :
  Calls Tryz.prog 53 #[selfL b, .int .i64 k, .string t, .string r] w fun e w' => e = .returned (.bool true) ∧ LB b B r (l ++ [(k, t.data.toList, 0, 0)]) false w' ∧ Fr b B w w' ∧ Oth b w w' := by
 obtain ⟨i0, hi, hz0, hz1, hz2⟩ := info_parts infoW
 have HF := Aside0.mk (Fr.refl b B w)
 obtain ⟨v, h1, ho⟩ := h
 have hlt : b < w.heap.size := (Array.getElem?_eq_some_iff.1 h1).1
 have c1 : w.cell? ⟨b, 1, none⟩ = some v := by rw [qt h1]; rfl
 have hne := own_ne hb ho
 unfold selfL
 go_enter Tryz.func53, Tryz.ntmps53
 go_wp2_with (at_builtin; refine wpList_append_own _ rfl _ _ 23 rfl B 49 i0 (.agg #[.int .i64 0, .string ⟨#[]⟩, .int .i64 0, .int .i64 0]) 4 40 Tryz.underlying23 hi hz0 hz1 hz2 rfl (by decide) _ _ _ rfl (ho.alloc _) ⟨w.heap.size, 0, none⟩ 1 1 [.int .i64 k, .string t, .int .i64 0, .int .i64 0] rfl rfl ?c1 ?c2 ?c3 ?c4 ?c5 ?_)
 case c1 => exact row_new w #[.int .i64 k, .string t, .int .i64 0, .int .i64 0] _
 case c2 => intro u hu; simp at hu; rcases hu with rfl | rfl | rfl | rfl <;> rfl
 case c3 => unfold maxLen; omega
 case c4 => omega
 case c5 => simp; omega
 intro v' w2 hown' hgrow _
 have hb2 : w2.heap[b]? = some (Obj.cells #[.string s, v, .bool false] 54 (0, 0)) := by
  rw [hgrow.block b (by simp; omega) (fun e => hne e.symm), Lib.alloc_old w _ b hlt]
  exact h1
 have d2 : w2.cell? ⟨b, 1, none⟩ = some v := by rw [qt hb2]; rfl
 have d0 : w2.cell? ⟨b, 0, none⟩ = some (.string s) := by rw [qt hb2]; rfl
 have f2 : w2.frozen? ⟨b, 1, none⟩ = false := Lib.frozen_of_heap hb2 1
 have f3 : w2.frozen? ⟨b, 0, none⟩ = false := Lib.frozen_of_heap hb2 0
 obtain ⟨g, cap, rfl⟩ := qh1 hown'
 have hne2 := own_ne hb hown'
 have hge := own_ge ho
 have hF2 := (HF.out.alloc hB (Nat.le_of_lt hb) (Obj.cells #[.int .i64 k, .string t, .int .i64 0, .int .i64 0] 49)).grown hgrow hB (Nat.le_of_lt hb) hge
 have HF3 := Aside0.mk ((hF2.set (.inl rfl) (Nat.le_of_lt hb) 1 (.slice (some ⟨g, 0, none⟩) (l.length + 1) cap)).set (.inl rfl) (Nat.le_of_lt hb) 0 (.string r))
 have e4 : wcs l ++ [.int .i64 k, .string t, .int .i64 0, .int .i64 0] = wcs (l ++ [(k, t.data.toList, 0, 0)]) := by rw [wcs_app, wcs_one]; rfl
 rw [e4] at hown'
 have HL : Aside0 (LB b B r (l ++ [(k, t.data.toList, 0, 0)]) false ((w2.setCell ⟨b, 1, none⟩ (.slice (some ⟨g, 0, none⟩) (l.length + 1) cap)).setCell ⟨b, 0, none⟩ (.string r))) :=
  ⟨_, put_in (put_in hb2 1 _) 0 (.string r), by rw [List.length_append]; exact (hown'.kept (grownBy_put w2 b 1 _) (.inr hne2)).kept (grownBy_put _ b 0 _) (.inr hne2)⟩
 have HO : Aside0 (Oth b w ((w2.setCell ⟨b, 1, none⟩ (.slice (some ⟨g, 0, none⟩) (l.length + 1) cap)).setCell ⟨b, 0, none⟩ (.string r))) := ⟨by
  intro k cs t0 hk ht hkb
  have hkl : k < w.heap.size := (Array.getElem?_eq_some_iff.1 hk).1
  rw [Below.heap_setCell _ _ _ k hkb, Below.heap_setCell _ _ _ k hkb, hgrow.block k (by simp; omega) (fun e => by
   rcases ho.2 with ⟨rfl, _⟩ | ⟨g', cap', cur, rfl, _, hg', _⟩
   ·simp [Value.ownBlock] at e
   ·obtain rfl : g' = k := by simpa [Value.ownBlock] using e.symm
    rw [hk] at hg'
    cases hg'
    exact ht rfl), Lib.alloc_old w _ k hkl]
  exact hk⟩
 clear hne hge hne2 hgrow hown' ho h1 c1 hF2 e4 hb2
 go_wp2_with fail
 go_ret
 exact ⟨rfl, HL.out, HF3.out, HO.out⟩
theorem say_call (b B : Nat) (s : ByteArray) (l : List Wd) (k : Int) (t r : ByteArray) (w : World) (h : LB b B s l false w) (hb : b < B) (hB : B ≤ w.heap.size) (hl : l.length ≤ 1000) :
  Calls Tryz.prog 53 #[selfL b, .int .i64 k, .string t, .string r] w fun e w' => e = .returned (.bool true) ∧ LB b B r (l ++ [(k, t.data.toList, 0, 0)]) false w' ∧ Fr b B w w' :=
 (say_full b B s l k t r w h hb hB hl).mono fun e w' ⟨h1, h2, h3, _⟩ => ⟨h1, h2, h3⟩
theorem own_form {w : World} {B : Nat} {t : TypeId} {m n : Nat} {v : Value} {xs : List Value} (h : w.ownsRow B t m v n xs) : ∃ A cap, v = .slice A n cap := by
 rcases h.2 with ⟨rfl, rfl⟩ | ⟨g, cap, cur, rfl, _⟩
 ·exact ⟨none, 0, rfl⟩
 ·exact ⟨some ⟨g, 0, none⟩, cap, rfl⟩
theorem qr1 {w : World} {B : Nat} {t : TypeId} {l : List Wd} {x : Wd} {g cap : Nat} (h : w.ownsRow B t 4 (.slice (some ⟨g, 0, none⟩) (l.length + 1) cap) (l.length + 1) (wcs (l ++ [x]))) : ∀ i u, (wc x)[i]? = some u → w.cell? ⟨g, l.length * 4 + i, none⟩ = some u := by
 intro i u hu
 have := h.cells (g := g) rfl (l.length * 4 + i) u (by rw [wcs_app, List.getElem?_append_right (by rw [wcs_len]; omega), wcs_len, wcs_one, Nat.add_sub_cancel_left]; exact hu)
 rwa [show (⟨g, 0, none⟩ : Addr).add (l.length * 4 + i) = ⟨g, l.length * 4 + i, none⟩ by unfold Addr.add; split <;> simp_all] at this
theorem opens_eq (x : List UInt8) : (!opensL.contains x) = (!x == [64] && !x == [58, 58] && !x == [40] && !x == [91] && !x == [44]) := by
 unfold opensL
 simp only [List.contains_cons, List.contains_nil, Bool.not_or, Bool.or_false, Bool.and_assoc]
theorem ends_none (b B : Nat) (s : ByteArray) (w : World) (h : LB b B s [] false w) :
  Calls Tryz.prog 57 #[selfL b] w fun e w' => e = .returned (.bool false) ∧ Below w.heap.size w w' := by
 obtain ⟨v, h1, ho⟩ := h
 obtain ⟨A, cap, rfl⟩ := own_form ho
 have c1 : w.cell? ⟨b, 1, none⟩ = some (.slice A (List.length ([] : List Wd)) cap) := by rw [qt h1]; rfl
 have c1 : w.cell? ⟨b, 1, none⟩ = some (.slice A 0 cap) := c1
 clear h1 ho
 unfold selfL
 go_enter Tryz.func57, Tryz.ntmps57
 go_wp2_with fail
 go_ret
 exact ⟨rfl, Below.refl _ _⟩
theorem ends_some (b B : Nat) (s : ByteArray) (l : List Wd) (k : Int) (t : ByteArray) (d1 d2 : Int) (w : World) (h : LB b B s (l ++ [(k, t.data.toList, d1, d2)]) false w) (hl : l.length ≤ 1000) :
  Calls Tryz.prog 57 #[selfL b] w fun e w' => e = .returned (.bool (endsW (l ++ [(k, t.data.toList, d1, d2)]))) ∧ Below w.heap.size w w' := by
 obtain ⟨v, h1, ho⟩ := h
 rw [List.length_append] at ho
 obtain ⟨g, cap, rfl⟩ := qh1 ho
 have c1 : w.cell? ⟨b, 1, none⟩ = some (.slice (some ⟨g, 0, none⟩) (l.length + 1) cap) := by rw [qt h1]; rfl
 have hc := qr1 ho
 have x0 : w.cell? ⟨g, l.length * 4, none⟩ = some (.int .i64 k) := hc 0 _ rfl
 have x1 : w.cell? ⟨g, l.length * 4 + 1, none⟩ = some (.string t) := hc 1 _ rfl
 have x2 : w.cell? ⟨g, l.length * 4 + 2, none⟩ = some (.int .i64 d1) := hc 2 _ rfl
 have x3 : w.cell? ⟨g, l.length * 4 + 3, none⟩ = some (.int .i64 d2) := hc 3 _ rfl
 have hbl : b < w.heap.size := (Array.getElem?_eq_some_iff.1 h1).1
 have hgl : g < w.heap.size := (ho.lt g rfl).2
 have al : ∀ (p : Addr) (u : Value), p.block < w.heap.size → w.cell? p = some u → (w.alloc (Obj.cells #[.int .i64 0, .string ⟨#[]⟩, .int .i64 0, .int .i64 0] 49)).cell? p = some u := fun p u hp hu => (World.cell?_alloc_lt w _ p hp).trans hu
 have a1 := al _ _ hbl c1
 have y0 := al _ _ hgl x0
 have y1 := al _ _ hgl x1
 have y2 := al _ _ hgl x2
 have y3 := al _ _ hgl x3
 have hwr : IntKind.i64.wrap (l.length : Int) = (l.length : Int) := IntWalk.i64_in _ (by omega)
 clear hc ho h1 al hbl hgl
 have he : endsW (l ++ [(k, t.data.toList, d1, d2)]) = if k = 5 then false else if k = 1 then !(opensL.contains t.data.toList) else true := by unfold endsW; rw [List.getLast?_concat]
 rw [he]
 have hB := Aside0.mk (Below.refl w.heap.size w)
 unfold selfL
 by_cases k5 : k = 5
 ·have q5 : (k == 5) = true := by simpa using k5
  rw [if_pos k5]
  clear k5 he
  go_enter Tryz.func57, Tryz.ntmps57
  go_wp2_with fail
  go_region
  all_goals
   go_wp2_with fail
   go_ret
   refine ⟨rfl, ?_⟩
   exact Below.drew (hB.out.alloc (Nat.le_refl _) _)
 have q5 : (k == 5) = false := by simpa using k5
 rw [if_neg k5]
 by_cases k1 : k = 1
 ·have q1 : (k != 1) = false := by simpa using k1
  rw [if_pos k1, ← ByteArray.toList_eq t]
  clear k5 k1 he
  obtain ⟨r, hr⟩ : ∃ r, (!opensL.contains t.toList) = r := ⟨_, rfl⟩
  rw [hr]
  have HR := Aside0.mk hr
  clear hr
  go_enter Tryz.func57, Tryz.ntmps57
  go_wp2_with fail
  go_region
  all_goals
   go_wp2_with fail
   all_goals
    go_ret
    refine ⟨congrArg (fun x => Ending.returned (Value.bool x)) ?_, ?_⟩
    ·first | (rw [← HR.out, opens_eq]; done) | (rw [← HR.out, opens_eq]; simp [*]; done)
    ·exact Below.drew (hB.out.alloc (Nat.le_refl _) _)
 ·have q1 : (k != 1) = true := by simpa using k1
  rw [if_neg k1]
  clear k5 k1 he
  go_enter Tryz.func57, Tryz.ntmps57
  go_wp2_with fail
  go_region
  all_goals
   go_wp2_with fail
   go_ret
   refine ⟨rfl, ?_⟩
   exact Below.drew (hB.out.alloc (Nat.le_refl _) _)
theorem ends_call (b B : Nat) (s : ByteArray) (l : List Wd) (w : World) (h : LB b B s l false w) (hl : l.length ≤ 1000) :
  Calls Tryz.prog 57 #[selfL b] w fun e w' => e = .returned (.bool (endsW l)) ∧ Below w.heap.size w w' := by
 rcases List.eq_nil_or_concat l with rfl | ⟨l0, ⟨k, t, d1, d2⟩, rfl⟩
 ·exact ends_none b B s w h
 ·rw [List.concat_eq_append] at h hl ⊢
  exact ends_some b B s l0 k (ba t) d1 d2 w h (by simp at hl; omega)
theorem own_set {w : World} {B : Nat} {t : TypeId} {m n g cap : Nat} {xs : List Value} (h : w.ownsRow B t m (.slice (some ⟨g, 0, none⟩) n cap) n xs) (j : Nat) (u : Value) :
  (w.setCell ⟨g, j, none⟩ u).ownsRow B t m (.slice (some ⟨g, 0, none⟩) n cap) n (xs.set j u) := by
 refine ⟨by rw [List.length_set]; exact h.1, ?_⟩
 rcases h.2 with ⟨h0, _⟩ | ⟨g', cap', cur, hv, hB, hg, hn, hc, hs, ht⟩
 ·cases h0
 ·cases hv
  refine .inr ⟨g, cap, cur.setIfInBounds j u, rfl, hB, put_in hg j u, hn, hc, by rw [Array.size_setIfInBounds]; exact hs, ?_⟩
  rw [Array.toList_setIfInBounds, List.take_set, ht]
theorem set_last (l : List Wd) (k : Int) (t : List UInt8) (d1 d2 : Int) : ((wcs (l ++ [(k, t, 0, 0)])).set (l.length * 4 + 2) (.int .i64 d1)).set (l.length * 4 + 3) (.int .i64 d2) = wcs (l ++ [(k, t, d1, d2)]) := by
 rw [wcs_app, wcs_app, wcs_one, wcs_one, List.set_append_right _ _ (by rw [wcs_len]; omega), wcs_len, Nat.add_sub_cancel_left, List.set_append_right _ _ (by rw [wcs_len]; omega), wcs_len, Nat.add_sub_cancel_left]
 rfl
theorem LB.put_n {b B : Nat} (hb : b < B) {s : ByteArray} {l : List Wd} {k : Int} {t : List UInt8} {W : World} {g cap : Nat} (d1 d2 : Int) (h1 : W.heap[b]? = some (Obj.cells #[.string s, .slice (some ⟨g, 0, none⟩) (l.length + 1) cap, .bool false] 54 (0, 0)))
  (h2 : W.ownsRow B 49 4 (.slice (some ⟨g, 0, none⟩) (l.length + 1) cap) (l.length + 1) (wcs (l ++ [(k, t, 0, 0)]))) :
  LB b B s (l ++ [(k, t, d1, d2)]) false ((W.setCell ⟨g, l.length * 4 + 2, none⟩ (.int .i64 d1)).setCell ⟨g, l.length * 4 + 3, none⟩ (.int .i64 d2)) := by
 have hgB := (h2.lt g rfl).1
 refine ⟨.slice (some ⟨g, 0, none⟩) (l.length + 1) cap, ?_, ?_⟩
 ·rw [Below.heap_setCell _ _ _ b (by show b ≠ g; omega), Below.heap_setCell _ _ _ b (by show b ≠ g; omega)]
  exact h1
 ·rw [← set_last, List.length_append]
  exact own_set (own_set h2 _ _) _ _
end Go.Proofs.YthilcidoacgdfaaGreatDoor.LexF
