import Derived.Test.YthilcidoacgdfaaGreatDoorZwTxtB
namespace Go.Proofs.YthilcidoacgdfaaGreatDoor.CharA
end Go.Proofs.YthilcidoacgdfaaGreatDoor.CharA
namespace Go.Proofs.YthilcidoacgdfaaGreatDoor.CharB
end Go.Proofs.YthilcidoacgdfaaGreatDoor.CharB
namespace Go.Proofs.YthilcidoacgdfaaGreatDoor.CharD
end Go.Proofs.YthilcidoacgdfaaGreatDoor.CharD
namespace Go.Proofs.YthilcidoacgdfaaGreatDoor.CharF
end Go.Proofs.YthilcidoacgdfaaGreatDoor.CharF
namespace Go.Proofs.YthilcidoacgdfaaGreatDoor.FigA
end Go.Proofs.YthilcidoacgdfaaGreatDoor.FigA
namespace Go.Proofs.YthilcidoacgdfaaGreatDoor.FigC
end Go.Proofs.YthilcidoacgdfaaGreatDoor.FigC
namespace Go.Proofs.YthilcidoacgdfaaGreatDoor.LexA
end Go.Proofs.YthilcidoacgdfaaGreatDoor.LexA
namespace Go.Proofs.YthilcidoacgdfaaGreatDoor.SpanA
end Go.Proofs.YthilcidoacgdfaaGreatDoor.SpanA
namespace Go.Proofs.YthilcidoacgdfaaGreatDoor.Txt
end Go.Proofs.YthilcidoacgdfaaGreatDoor.Txt
namespace Go.Proofs.YthilcidoacgdfaaGreatDoor.TxtB
end Go.Proofs.YthilcidoacgdfaaGreatDoor.TxtB
namespace Go.Proofs.YthilcidoacgdfaaGreatDoorW.PrintLast
end Go.Proofs.YthilcidoacgdfaaGreatDoorW.PrintLast
namespace Go.Proofs.YthilcidoacgdfaaGreatDoorW.PrintMore
end Go.Proofs.YthilcidoacgdfaaGreatDoorW.PrintMore
namespace Go.Proofs.YthilcidoacgdfaaGreatDoorW.PrintWords
end Go.Proofs.YthilcidoacgdfaaGreatDoorW.PrintWords
namespace Go.Proofs.YthilcidoacgdfaaGreatDoor.LexD
open Go.RowKit YthilcidoacgdfaaGreatDoorW.PrintWords YthilcidoacgdfaaGreatDoorW.PrintLast YthilcidoacgdfaaGreatDoorW.PrintMore CharA CharB CharD CharF SpanA FigA FigC Txt TxtB LexA
set_option linter.unusedVariables false
set_option linter.unusedSimpArgs false
def txtW (w : Wd) : List UInt8 := if w.1 = 10 then 36 :: w.2.1 else if w.1 = 8 then (if (34 : UInt8) ∈ w.2.1 then 39 :: (w.2.1 ++ [39]) else 34 :: (w.2.1 ++ [34])) else w.2.1
theorem lit_again (c q : UInt8) (a z : List UInt8) (hq : q = 34 ∨ q = 39) (ha : ∀ x ∈ a, x ≠ q) (e : Bool) : oneW (q :: (a ++ [q]) ++ z) e = some ((8, a, 0, 0), z) := by
 have e1 : q :: (a ++ [q]) ++ z = q :: (a ++ q :: z) := by simp
 rw [e1]
 simp only [oneW]
 rw [if_pos hq]
 unfold litW
 rw [cutC_of q a z ha]
theorem mark_again (m T : List UInt8) (hm : m ∈ marksL) (e : Bool) : oneW (m ++ 32 :: T) e = some ((1, m, 0, 0), 32 :: T) := by
 simp only [marksL, List.mem_cons, List.mem_nil_iff, or_false] at hm
 rcases hm with rfl | rfl | rfl | rfl | rfl | rfl | rfl | rfl | rfl <;> rfl
theorem op_again (m T : List UInt8) (hm : m ∈ opsL) (e : Bool) : oneW (m ++ 32 :: T) e = some ((5, m, 0, 0), 32 :: T) := by
 simp only [opsL, List.mem_cons, List.mem_nil_iff, or_false] at hm
 rcases hm with rfl | rfl | rfl | rfl | rfl | rfl | rfl | rfl | rfl | rfl | rfl <;> rfl
theorem var_again (x T : List UInt8) (hx : runS x = x) (hn : nameB (ba x) = true) (e : Bool) : oneW (36 :: x ++ 32 :: T) e = some ((10, x, 0, 0), 32 :: T) := by
 have e1 : oneW (36 :: x ++ 32 :: T) e = varW (x ++ 32 :: T) := rfl
 rw [e1]
 unfold varW
 rw [run_sp 32 (by decide) T x, hx, if_pos hn, List.drop_left]
theorem tw_stop (p : UInt8 → Bool) (c : UInt8) (hc : p c = false) (b : List UInt8) : ∀ a : List UInt8, (∀ x ∈ a, p x = true) → (a ++ c :: b).takeWhile p = a ∧ (a ++ c :: b).dropWhile p = c :: b
 | [], _ => by simp [hc]
 | d :: a, h => by
  obtain ⟨i1, i2⟩ := tw_stop p c hc b a (fun x hx => h x (List.mem_cons_of_mem _ hx))
  have hd := h d (List.mem_cons_self ..)
  rw [List.cons_append, List.takeWhile_cons, List.dropWhile_cons, if_pos hd, if_pos hd, i1]
  exact ⟨rfl, i2⟩
theorem tw_all (p : UInt8 → Bool) : ∀ a : List UInt8, (∀ x ∈ a, p x = true) → a.takeWhile p = a ∧ a.dropWhile p = []
 | [], _ => ⟨rfl, rfl⟩
 | d :: a, h => by
  obtain ⟨i1, i2⟩ := tw_all p a (fun x hx => h x (List.mem_cons_of_mem _ hx))
  have hd := h d (List.mem_cons_self ..)
  rw [List.takeWhile_cons, List.dropWhile_cons, if_pos hd, if_pos hd, i1]
  exact ⟨rfl, i2⟩
theorem tw_mem (p : UInt8 → Bool) : ∀ (s : List UInt8), ∀ x ∈ s.takeWhile p, p x = true
 | [], x, h => by cases h
 | d :: s, x, h => by
  rw [List.takeWhile_cons] at h
  split at h
  ·rename_i hd
   rcases List.mem_cons.1 h with rfl | h
   ·exact hd
   ·exact tw_mem p s x h
  ·cases h
theorem num_self (s : List UInt8) : numT (numT s) = numT s := by
 have ha := tw_mem digB s
 by_cases h : (s.dropWhile digB).head? = some 46
 ·have e : numT s = s.takeWhile digB ++ 46 :: (s.dropWhile digB).tail.takeWhile digB := by unfold numT; rw [if_pos h]
  have hb := tw_mem digB (s.dropWhile digB).tail
  rw [e]
  generalize s.takeWhile digB = a at ha ⊢
  generalize (s.dropWhile digB).tail.takeWhile digB = b at hb ⊢
  obtain ⟨i1, i2⟩ := tw_stop digB 46 (by decide) b a ha
  unfold numT
  rw [i1, i2, if_pos (show (46 :: b).head? = some (46 : UInt8) from rfl), List.tail_cons, (tw_all digB b hb).1]
 ·have e : numT s = s.takeWhile digB := by unfold numT; rw [if_neg h]
  rw [e]
  generalize s.takeWhile digB = a at ha ⊢
  obtain ⟨i1, i2⟩ := tw_all digB a ha
  unfold numT
  rw [i1, i2, if_neg (by simp)]
theorem num_bytes (s : List UInt8) : ∀ x ∈ numT s, digB x = true ∨ x = 46 := by
 intro x hx
 unfold numT at hx
 split at hx
 ·rcases List.mem_append.1 hx with h | h
  ·exact Or.inl (tw_mem digB _ x h)
  ·rcases List.mem_cons.1 h with h | h
   ·exact Or.inr h
   ·exact Or.inl (tw_mem digB _ x h)
 ·exact Or.inl (tw_mem digB _ x hx)
theorem num_head (s : List UInt8) (h : numB s = true) : ∃ c t, numT s = c :: t ∧ numB (c :: t) = true ∧ ¬ (c = 34 ∨ c = 39) := by
 cases s with
 | nil => cases h
 | cons c t =>
  have hq : ¬ (c = 34 ∨ c = 39) := by
   rintro (rfl | rfl)
   ·have : numB (34 :: t) = false := rfl
    rw [this] at h; cases h
   ·have : numB (39 :: t) = false := rfl
    rw [this] at h; cases h
  simp only [numB, Bool.or_eq_true, Bool.and_eq_true] at h
  by_cases hd : digB c = true
  ·unfold numT
   rw [List.takeWhile_cons, if_pos hd]
   split
   ·exact ⟨c, _, rfl, by simp only [numB, hd, Bool.true_or], hq⟩
   ·exact ⟨c, _, rfl, by simp only [numB, hd, Bool.true_or], hq⟩
  ·obtain ⟨h1, h2⟩ := h.resolve_left hd
   obtain rfl : c = 46 := by simpa using h1
   cases t with
   | nil => cases h2
   | cons d u =>
    simp only at h2
    unfold numT
    rw [List.takeWhile_cons, List.dropWhile_cons, if_neg hd, if_neg hd]
    rw [if_pos (by rfl)]
    refine ⟨46, _, rfl, ?_, by decide⟩
    rw [List.tail_cons, List.takeWhile_cons, if_pos h2]
    simp only [numB, h2]
    rfl
theorem num_again (s T : List UInt8) (h : numB s = true) (hl : (litS (numT s)).2 = true ∧ (litS (numT s)).1.1 = 0) (e : Bool) : oneW (numT s ++ 32 :: T) e = some ((9, numT s, (litS (numT s)).1), 32 :: T) := by
 obtain ⟨c, t, he, hb, hq⟩ := num_head s h
 have hs := num_self s
 have hns : numT (c :: t ++ 32 :: T) = c :: t := by rw [num_sp 32 (by decide) T, ← he, hs]
 have hbs := numB_sp 32 (by decide) T c t
 rw [he] at hl ⊢
 show oneW (c :: (t ++ 32 :: T)) e = _
 simp only [oneW]
 rw [if_neg hq, if_pos (by rw [← hb]; exact hbs)]
 unfold numW
 have e1 : c :: (t ++ 32 :: T) = c :: t ++ 32 :: T := rfl
 rw [e1, hns, if_pos hl, List.drop_left]
theorem run_pre : ∀ (n : Nat) (s : List UInt8), runL n s <+: s
 | 0, s => List.nil_prefix
 | n + 1, s => by
  simp only [runL]
  split
  ·exact List.nil_prefix
  ·split
   ·have := run_pre n (s.drop (Lib.decodeL s).2)
    obtain ⟨u, hu⟩ := this
    exact ⟨u, by rw [List.append_assoc, hu, List.take_append_drop]⟩
   ·exact List.nil_prefix
theorem first_pre (l : List (List UInt8)) (x s : List UInt8) (hx : x <+: s) (h : qv l s = none) : qv l x = none := by
 unfold qv at h ⊢
 rw [List.find?_eq_none] at h ⊢
 intro m hm hp
 exact h m hm (List.isPrefixOf_iff_prefix.2 ((List.isPrefixOf_iff_prefix.1 hp).trans hx))
theorem name_again (d : UInt8) (t T : List UInt8) (hq : ¬ (d = 34 ∨ d = 39)) (hb : ¬ numB (d :: t) = true) (hm : qv marksL (d :: t) = none) (ho : qv opsL (d :: t) = none) (h42 : ¬ d = 42) (h36 : ¬ d = 36)
  (hx : runS (runS (d :: t)) = runS (d :: t)) (e : Bool) (w : Wd) (r : List UInt8) (h : nameW (d :: t) e = some (w, r)) (hk : kindW (runS (d :: t)) (32 :: T) = kindW (runS (d :: t)) r) :
  w.2.1 = runS (d :: t) ∧ w.1 ≠ 10 ∧ w.1 ≠ 8 ∧ r = (d :: t).drop (runS (d :: t)).length ∧ oneW (runS (d :: t) ++ 32 :: T) e = some (w, 32 :: T) := by
 have hpre : runS (d :: t) <+: d :: t := run_pre _ _
 have hn : nameB (ba (runS (d :: t))) = true := by
  by_cases hc : nameB (ba (runS (d :: t))) = true
  ·exact hc
  ·unfold nameW at h
   rw [if_neg hc] at h
   cases h
 have hne := nameB_ne hn
 have h46 : d ≠ 46 := by
  rintro rfl
  unfold qv at hm
  rw [List.find?_eq_none] at hm
  exact hm [46] (by decide) (by simp [List.isPrefixOf])
 have hdig : digB d = false := by
  cases hd : digB d with
  | false => rfl
  | true => exact absurd (by simp only [numB, hd, Bool.true_or]) hb
 unfold nameW at h
 rw [if_pos hn] at h
 generalize hxd : runS (d :: t) = x at *
 cases x with
 | nil => simp at hne
 | cons d' x =>
  obtain rfl : d' = d := by
   obtain ⟨u, hu⟩ := hpre
   exact (List.cons.inj hu).1
  have hnb : numB (d' :: x ++ 32 :: T) = false := by
   rw [numB_sp 32 (by decide) T d' x]
   simp only [numB, hdig, Bool.false_or, Bool.and_eq_false_iff]
   left
   simpa using h46
  have hone : oneW (d' :: x ++ 32 :: T) e = nameW (d' :: x ++ 32 :: T) e := by
   have m1 : qv marksL (d' :: x ++ 32 :: T) = none := by rw [first_sp marksL marks_sp 32 (by decide) T]; exact first_pre _ _ _ hpre hm
   have m2 : qv opsL (d' :: x ++ 32 :: T) = none := by rw [first_sp opsL ops_sp 32 (by decide) T]; exact first_pre _ _ _ hpre ho
   have e1 : d' :: x ++ 32 :: T = d' :: (x ++ 32 :: T) := rfl
   rw [e1] at hnb m1 m2 ⊢
   simp only [oneW]
   rw [if_neg hq, if_neg (by rw [hnb]; simp), m1]
   simp only
   rw [m2]
   simp only
   rw [if_neg h42, if_neg h36]
  rw [hone]
  unfold nameW
  rw [run_sp 32 (by decide) T, hx, if_pos hn, List.drop_left]
  split at h
  ·rename_i he
   rw [if_pos he]
   split at h
   ·rename_i hf
    rw [if_pos hf]
    have := Option.some.inj h
    rw [Prod.mk.injEq] at this
    obtain ⟨rfl, rfl⟩ := this
    exact ⟨rfl, (show (5 : Int) ≠ 10 by decide), (show (5 : Int) ≠ 8 by decide), rfl, rfl⟩
   ·cases h
  ·rename_i he
   rw [if_neg he, hk]
   have := Option.some.inj h
   rw [Prod.mk.injEq] at this
   obtain ⟨rfl, rfl⟩ := this
   have hkk : ∀ a b, kindW a b ≠ 10 ∧ kindW a b ≠ 8 := by
    intro a b
    unfold kindW
    repeat' split
    all_goals decide
   exact ⟨rfl, (hkk _ _).1, (hkk _ _).2, rfl, rfl⟩
theorem low_text : ∀ l : List UInt8, (∀ x ∈ l, x.toNat < 128 ∧ isB (x.toNat : Int) = true) → textB (ba l) = true
 | [], _ => textB_nil
 | c :: l, h => by
  obtain ⟨h1, h2⟩ := h c (List.mem_cons_self ..)
  rw [textB_low c l h1, h2, low_text l (fun x hx => h x (List.mem_cons_of_mem _ hx))]
  rfl
theorem dig_low (x : UInt8) (h : digB x = true ∨ x = 46) : x.toNat < 128 ∧ isB (x.toNat : Int) = true := by
 have : ∀ n : Fin 256, (digB (UInt8.ofNat n.1) = true ∨ UInt8.ofNat n.1 = 46) → (UInt8.ofNat n.1).toNat < 128 ∧ isB ((UInt8.ofNat n.1).toNat : Int) = true := by decide +kernel
 have := this ⟨x.toNat, x.toNat_lt⟩
 simpa using this (by simpa using h)
theorem marks_low : ∀ m ∈ marksL ++ opsL, ∀ x ∈ m, x.toNat < 128 ∧ isB (x.toNat : Int) = true := by decide +kernel
theorem rest_text (x r : List UInt8) (h : textB (ba (x ++ r)) = true) (hx : textB (ba x) = true) : textB (ba r) = true := by rw [← text_join x r hx]; exact h
theorem numT_pre (s : List UInt8) : ∃ u, s = numT s ++ u := by
 have h : s.takeWhile digB ++ s.dropWhile digB = s := List.takeWhile_append_dropWhile
 unfold numT
 split
 ·rename_i h2
  cases hr : s.dropWhile digB with
  | nil => rw [hr] at h2; cases h2
  | cons a t =>
   rw [hr] at h h2
   obtain rfl : a = 46 := by simpa using h2
   refine ⟨t.dropWhile digB, ?_⟩
   rw [List.tail_cons, List.append_assoc, List.cons_append, List.takeWhile_append_dropWhile]
   exact h.symm
 ·exact ⟨_, h.symm⟩
theorem drop_pre (x u s : List UInt8) (h : s = x ++ u) : s.drop x.length = u := by rw [h, List.drop_left]
theorem one_again {s : List UInt8} {e : Bool} {w : Wd} {r : List UInt8} (h : oneW s e = some (w, r)) (ht : textB (ba s) = true) (T : List UInt8) (hk : ∀ x, kindW x (32 :: T) = kindW x r) :
  oneW (txtW w ++ 32 :: T) e = some (w, 32 :: T) ∧ textB (ba (txtW w)) = true ∧ textB (ba r) = true := by
 cases s with
 | nil => cases h
 | cons d t =>
  simp only [oneW] at h
  by_cases hq : d = 34 ∨ d = 39
  ·rw [if_pos hq] at h
   unfold litW at h
   cases hx : cutC d t with
   | none => rw [hx] at h; cases h
   | some q =>
    obtain ⟨a, r'⟩ := q
    rw [hx] at h
    obtain ⟨e1, e2⟩ := cutC_app d t a r' hx
    have hd : d.toNat < 128 := by rcases hq with rfl | rfl <;> decide
    rw [textB_low d t hd, e1, text_sep d hd, Bool.and_eq_true, Bool.and_eq_true, Bool.and_eq_true] at ht
    cases h
    have tx : ∀ q : UInt8, q = 34 ∨ q = 39 → textB (ba (q :: (a ++ [q]))) = true := by
     intro q hq
     have hql : q.toNat < 128 ∧ isB (q.toNat : Int) = true := by rcases hq with rfl | rfl <;> decide
     rw [textB_low q _ hql.1, text_sep q hql.1, ht.2.1, hql.2, textB_nil]
     rfl
    refine ⟨?_, ?_, ht.2.2.2⟩
    ·unfold txtW
     rw [if_neg (show ¬ (8 : Int) = 10 by decide), if_pos rfl]
     split
     ·rename_i h34
      refine lit_again d 39 a _ (Or.inr rfl) (fun z hz hz' => ?_) e
      rcases hq with rfl | rfl
      ·exact e2 _ h34 rfl
      ·exact e2 z hz hz'
     ·rename_i h34
      exact lit_again d 34 a _ (Or.inl rfl) (fun x hx hx' => h34 (hx' ▸ hx)) e
    ·unfold txtW
     rw [if_neg (show ¬ (8 : Int) = 10 by decide), if_pos rfl]
     split
     ·exact tx 39 (Or.inr rfl)
     ·exact tx 34 (Or.inl rfl)
  rw [if_neg hq] at h
  by_cases hnb : numB (d :: t) = true
  ·rw [if_pos hnb] at h
   unfold numW at h
   have tn : textB (ba (numT (d :: t))) = true := low_text _ (fun x hx => dig_low x (num_bytes _ x hx))
   obtain ⟨u, hu⟩ := numT_pre (d :: t)
   split at h
   ·rename_i hl
    have := Option.some.inj h
    rw [Prod.mk.injEq] at this
    obtain ⟨rfl, rfl⟩ := this
    refine ⟨num_again _ T hnb hl e, tn, ?_⟩
    have := rest_text (numT (d :: t)) u (hu ▸ ht) tn
    rw [drop_pre _ _ _ hu]
    exact this
   ·cases h
  rw [if_neg hnb] at h
  cases hm : qv marksL (d :: t) with
  | some m =>
   rw [hm] at h
   simp only at h
   obtain ⟨f1, f2⟩ := find_pre hm
   obtain ⟨u, hu⟩ := List.isPrefixOf_iff_prefix.1 f2
   have tm : textB (ba m) = true := low_text _ (marks_low m (List.mem_append.2 (Or.inl f1)))
   rw [← hu, List.drop_left] at h
   rw [← hu] at ht
   cases h
   exact ⟨mark_again m T f1 e, tm, rest_text _ _ ht tm⟩
  | none =>
   rw [hm] at h
   simp only at h
   cases ho : qv opsL (d :: t) with
   | some m =>
    rw [ho] at h
    simp only at h
    obtain ⟨f1, f2⟩ := find_pre ho
    obtain ⟨u, hu⟩ := List.isPrefixOf_iff_prefix.1 f2
    have tm : textB (ba m) = true := low_text _ (marks_low m (List.mem_append.2 (Or.inr f1)))
    rw [← hu, List.drop_left] at h
    rw [← hu] at ht
    cases h
    exact ⟨op_again m T f1 e, tm, rest_text _ _ ht tm⟩
   | none =>
    rw [ho] at h
    simp only at h
    by_cases h42 : d = 42
    ·rw [if_pos h42] at h
     subst h42
     have tm : textB (ba [42]) = true := low_text _ (by decide +kernel)
     have tr := rest_text [42] t ht tm
     cases h
     cases e
     ·exact ⟨rfl, tm, tr⟩
     ·exact ⟨rfl, tm, tr⟩
    rw [if_neg h42] at h
    by_cases h36 : d = 36
    ·rw [if_pos h36] at h
     subst h36
     have t1 : textB (ba [36]) = true := low_text _ (by decide +kernel)
     have t2 := rest_text [36] t ht t1
     obtain ⟨r1, r2⟩ := run_again t t2
     obtain ⟨u, hu⟩ : runS t <+: t := run_pre _ _
     unfold varW at h
     by_cases hv : nameB (ba (runS t)) = true
     ·rw [if_pos hv] at h
      have := Option.some.inj h
      rw [Prod.mk.injEq] at this
      obtain ⟨rfl, rfl⟩ := this
      refine ⟨var_again _ T r1 hv e, ?_, ?_⟩
      ·show textB (ba ([36] ++ runS t)) = true
       rw [text_join _ _ t1]
       exact r2
      ·have t3 := rest_text (runS t) u (by rw [hu]; exact t2) r2
       rw [drop_pre _ _ _ hu.symm]
       exact t3
     ·rw [if_neg hv] at h
      cases h
    ·rw [if_neg h36] at h
     obtain ⟨r1, r2⟩ := run_again (d :: t) ht
     obtain ⟨u, hu⟩ : runS (d :: t) <+: d :: t := run_pre _ _
     obtain ⟨k1, k2, k3, k4, k5⟩ := name_again d t T hq hnb hm ho h42 h36 r1 e w r h (hk _)
     have tw : txtW w = runS (d :: t) := by
      unfold txtW
      rw [if_neg k2, if_neg k3, k1]
     rw [tw]
     refine ⟨k5, r2, ?_⟩
     have t3 := rest_text (runS (d :: t)) u (by rw [hu]; exact ht) r2
     rw [k4, drop_pre _ _ _ hu.symm]
     exact t3
end Go.Proofs.YthilcidoacgdfaaGreatDoor.LexD
