/- The words of a text, put down with a blank behind each, are lexed as the same words. -/
import Derived.Test.YthilcidoacgdfaaDoorLqTxtB
import Derived.Test.YthilcidoacgdfaaDoorLqLexD
namespace Go.Proofs.YthilcidoacgdfaaDoor.CharA
end Go.Proofs.YthilcidoacgdfaaDoor.CharA
namespace Go.Proofs.YthilcidoacgdfaaDoor.CharB
end Go.Proofs.YthilcidoacgdfaaDoor.CharB
namespace Go.Proofs.YthilcidoacgdfaaDoor.CharD
end Go.Proofs.YthilcidoacgdfaaDoor.CharD
namespace Go.Proofs.YthilcidoacgdfaaDoor.CharF
end Go.Proofs.YthilcidoacgdfaaDoor.CharF
namespace Go.Proofs.YthilcidoacgdfaaDoor.FigA
end Go.Proofs.YthilcidoacgdfaaDoor.FigA
namespace Go.Proofs.YthilcidoacgdfaaDoor.FigC
end Go.Proofs.YthilcidoacgdfaaDoor.FigC
namespace Go.Proofs.YthilcidoacgdfaaDoor.LexA
end Go.Proofs.YthilcidoacgdfaaDoor.LexA
namespace Go.Proofs.YthilcidoacgdfaaDoor.LexB
end Go.Proofs.YthilcidoacgdfaaDoor.LexB
namespace Go.Proofs.YthilcidoacgdfaaDoor.LexC
end Go.Proofs.YthilcidoacgdfaaDoor.LexC
namespace Go.Proofs.YthilcidoacgdfaaDoor.LexD
end Go.Proofs.YthilcidoacgdfaaDoor.LexD
namespace Go.Proofs.YthilcidoacgdfaaDoor.SpanA
end Go.Proofs.YthilcidoacgdfaaDoor.SpanA
namespace Go.Proofs.YthilcidoacgdfaaDoor.Txt
end Go.Proofs.YthilcidoacgdfaaDoor.Txt
namespace Go.Proofs.YthilcidoacgdfaaDoor.TxtB
end Go.Proofs.YthilcidoacgdfaaDoor.TxtB
namespace Go.Proofs.YthilcidoacgdfaaDoorW.PrintLast
end Go.Proofs.YthilcidoacgdfaaDoorW.PrintLast
namespace Go.Proofs.YthilcidoacgdfaaDoorW.PrintMore
end Go.Proofs.YthilcidoacgdfaaDoorW.PrintMore
namespace Go.Proofs.YthilcidoacgdfaaDoorW.PrintWords
end Go.Proofs.YthilcidoacgdfaaDoorW.PrintWords
namespace Go.Proofs.YthilcidoacgdfaaDoor.LexE
open Go.RowKit Go.Proofs.YthilcidoacgdfaaDoorW.PrintWords Go.Proofs.YthilcidoacgdfaaDoorW.PrintLast Go.Proofs.YthilcidoacgdfaaDoorW.PrintMore Go.Proofs.YthilcidoacgdfaaDoor.CharA Go.Proofs.YthilcidoacgdfaaDoor.CharB Go.Proofs.YthilcidoacgdfaaDoor.CharD Go.Proofs.YthilcidoacgdfaaDoor.CharF Go.Proofs.YthilcidoacgdfaaDoor.SpanA Go.Proofs.YthilcidoacgdfaaDoor.FigA Go.Proofs.YthilcidoacgdfaaDoor.FigC Go.Proofs.YthilcidoacgdfaaDoor.Txt Go.Proofs.YthilcidoacgdfaaDoor.TxtB Go.Proofs.YthilcidoacgdfaaDoor.LexA Go.Proofs.YthilcidoacgdfaaDoor.LexB Go.Proofs.YthilcidoacgdfaaDoor.LexC Go.Proofs.YthilcidoacgdfaaDoor.LexD
set_option linter.unusedVariables false
set_option linter.unusedSimpArgs false
theorem mark_of {s : List UInt8} {e : Bool} {w : Wd} {r : List UInt8} (h : oneW s e = some (w, r)) (h1 : w.1 = 1) : w.2.1.isPrefixOf s = true := by
  cases s with
  | nil => cases h
  | cons d t =>
    simp only [oneW] at h
    by_cases hq : d = 34 ∨ d = 39
    · rw [if_pos hq] at h
      unfold litW at h
      cases hx : cutC d t with
      | none => rw [hx] at h; cases h
      | some q => rw [hx] at h; cases h; exact absurd h1 (show ¬ (8 : Int) = 1 by decide)
    rw [if_neg hq] at h
    by_cases hnb : numB (d :: t) = true
    · rw [if_pos hnb] at h
      unfold numW at h
      split at h
      · have := Option.some.inj h
        rw [Prod.mk.injEq] at this
        obtain ⟨rfl, _⟩ := this
        exact absurd h1 (show ¬ (9 : Int) = 1 by decide)
      · cases h
    rw [if_neg hnb] at h
    cases hm : firstOf marksL (d :: t) with
    | some m =>
      rw [hm] at h
      simp only at h
      have := Option.some.inj h
      rw [Prod.mk.injEq] at this
      obtain ⟨rfl, _⟩ := this
      exact (find_pre hm).2
    | none =>
      rw [hm] at h
      simp only at h
      cases ho : firstOf opsL (d :: t) with
      | some m =>
        rw [ho] at h
        simp only at h
        have := Option.some.inj h
        rw [Prod.mk.injEq] at this
        obtain ⟨rfl, _⟩ := this
        exact absurd h1 (show ¬ (5 : Int) = 1 by decide)
      | none =>
        rw [ho] at h
        simp only at h
        by_cases h42 : d = 42
        · rw [if_pos h42] at h
          have := Option.some.inj h
          rw [Prod.mk.injEq] at this
          obtain ⟨rfl, _⟩ := this
          cases e
          · exact absurd h1 (show ¬ (3 : Int) = 1 by decide)
          · exact absurd h1 (show ¬ (5 : Int) = 1 by decide)
        rw [if_neg h42] at h
        by_cases h36 : d = 36
        · rw [if_pos h36] at h
          unfold varW at h
          split at h
          · have := Option.some.inj h
            rw [Prod.mk.injEq] at this
            obtain ⟨rfl, _⟩ := this
            exact absurd h1 (show ¬ (10 : Int) = 1 by decide)
          · cases h
        · rw [if_neg h36] at h
          unfold nameW at h
          split at h
          · split at h
            · split at h
              · have := Option.some.inj h
                rw [Prod.mk.injEq] at this
                obtain ⟨rfl, _⟩ := this
                exact absurd h1 (show ¬ (5 : Int) = 1 by decide)
              · cases h
            · have := Option.some.inj h
              rw [Prod.mk.injEq] at this
              rw [← this.1] at h1
              dsimp only at h1
              have hkk : ∀ a b, kindW a b ≠ 1 := by
                intro a b
                unfold kindW
                repeat' split
                all_goals decide
              exact absurd h1 (hkk _ _)
          · cases h
theorem open_of {s : List UInt8} {e : Bool} {w : Wd} {r : List UInt8} (h : oneW s e = some (w, r)) : ([40] : List UInt8).isPrefixOf s = decide (w.1 = 1 ∧ w.2.1 = [40]) ∧ ([58, 58] : List UInt8).isPrefixOf s = decide (w.1 = 1 ∧ w.2.1 = [58, 58]) := by
  constructor
  · by_cases p : ([40] : List UInt8).isPrefixOf s = true
    · rw [p]
      obtain ⟨u, rfl⟩ := List.isPrefixOf_iff_prefix.1 p
      have e1 : oneW ([40] ++ u) e = some ((1, [40], 0, 0), u) := rfl
      rw [e1] at h
      cases h
      rfl
    · rw [Bool.not_eq_true] at p
      rw [p]
      symm
      rw [decide_eq_false_iff_not]
      rintro ⟨h1, h2⟩
      have := mark_of h h1
      rw [h2, p] at this
      cases this
  · by_cases p : ([58, 58] : List UInt8).isPrefixOf s = true
    · rw [p]
      obtain ⟨u, rfl⟩ := List.isPrefixOf_iff_prefix.1 p
      have e1 : oneW ([58, 58] ++ u) e = some ((1, [58, 58], 0, 0), u) := rfl
      rw [e1] at h
      cases h
      rfl
    · rw [Bool.not_eq_true] at p
      rw [p]
      symm
      rw [decide_eq_false_iff_not]
      rintro ⟨h1, h2⟩
      have := mark_of h h1
      rw [h2, p] at this
      cases this
set_option maxRecDepth 100000 in
theorem one_blank (c : UInt8) (hc : spB c = true) (t : List UInt8) (e : Bool) : oneW (c :: t) e = none := by
  have hr : runS (c :: t) = [] := run_sp c hc t []
  have h : c = 32 ∨ c = 9 ∨ c = 10 ∨ c = 13 := by simpa [spB, or_assoc] using hc
  have hn : nameW (c :: t) e = none := by
    unfold nameW
    rw [hr, if_neg (by intro h; have := nameB_ne h; simp at this)]
  have e1 : oneW (c :: t) e = nameW (c :: t) e := by
    rcases h with rfl | rfl | rfl | rfl <;> rfl
  rw [e1, hn]
/-- The words put down, a blank behind each. -/
def allW (l : List Wd) : List UInt8 := l.flatMap fun w => txtW w ++ [32]
theorem lex_again : ∀ (n : Nat) (s : List UInt8) (acc L : List Wd), s.length ≤ n → s.dropWhile spB = s → textB (ba s) = true → lexL n s acc = (L, 0) →
    ∃ l, L = acc ++ l ∧ textB (ba (allW l)) = true ∧ (allW l).dropWhile spB = allW l ∧ (∀ m, (allW l).length ≤ m → lexL m (allW l) acc = (L, 0)) ∧ ([40] : List UInt8).isPrefixOf (allW l) = ([40] : List UInt8).isPrefixOf s ∧ ([58, 58] : List UInt8).isPrefixOf (allW l) = ([58, 58] : List UInt8).isPrefixOf s := by
  have base : ∀ (acc : List Wd) (m : Nat), lexL m [] acc = (acc, 0) := by
    intro acc m
    cases m with
    | zero => rfl
    | succ k => simp only [lexL]; rw [if_pos trivial]
  intro n
  induction n with
  | zero =>
    intro s acc L h hd ht hl
    obtain rfl : s = [] := List.length_eq_zero_iff.1 (by omega)
    rw [base] at hl
    cases hl
    exact ⟨[], (List.append_nil _).symm, textB_nil, rfl, fun m _ => base _ m, rfl, rfl⟩
  | succ n ih =>
    intro s acc L h hd ht hl
    by_cases hs : s = []
    · subst hs
      rw [base] at hl
      cases hl
      exact ⟨[], (List.append_nil _).symm, textB_nil, rfl, fun m _ => base _ m, rfl, rfl⟩
    simp only [lexL] at hl
    rw [if_neg hs] at hl
    cases ho : oneW s (endsW acc) with
    | none => rw [ho] at hl; cases hl
    | some q =>
      obtain ⟨w, r⟩ := q
      rw [ho] at hl
      simp only at hl
      by_cases h120 : 120 < acc.length + 1
      · rw [if_pos h120] at hl; cases hl
      rw [if_neg h120] at hl
      have hless := one_less ho
      have hdl := dropW_len spB r
      have k1 : ∀ x, kindW x (32 :: r.dropWhile spB) = kindW x r := by
        intro x
        unfold kindW
        rw [List.dropWhile_cons, if_pos (show spB 32 = true by decide), drop_twice]
      obtain ⟨_, _, tr⟩ := one_again ho ht _ k1
      have tr2 : textB (ba (r.dropWhile spB)) = true := by
        refine rest_text (r.takeWhile spB) _ (by rw [List.takeWhile_append_dropWhile]; exact tr) (sp_text _ (tw_mem spB r))
      obtain ⟨l, e1, e2, e3, e4, e5, e6⟩ := ih (r.dropWhile spB) (acc ++ [w]) L (by omega) (drop_twice r) tr2 hl
      have k2 : ∀ x, kindW x (32 :: allW l) = kindW x r := by
        intro x
        unfold kindW
        rw [List.dropWhile_cons, if_pos (show spB 32 = true by decide), e3, e5, e6]
      obtain ⟨a1, a2, _⟩ := one_again ho ht _ k2
      have ea : allW (w :: l) = txtW w ++ 32 :: allW l := by simp [allW]
      have hne : allW (w :: l) ≠ [] := by rw [ea]; simp
      obtain ⟨p1, p2⟩ := open_of ho
      obtain ⟨p3, p4⟩ := open_of a1
      refine ⟨w :: l, by rw [e1, List.append_assoc]; rfl, ?_, ?_, ?_, ?_, ?_⟩
      · rw [ea, text_sep 32 (by decide), a2, e2]
        decide +kernel
      · rw [← ea] at a1
        cases hx : allW (w :: l) with
        | nil => rfl
        | cons c z =>
          rw [hx] at a1
          rw [List.dropWhile_cons, if_neg]
          intro hc
          rw [one_blank c hc] at a1
          cases a1
      · intro m hm
        rw [ea, List.length_append, List.length_cons] at hm
        obtain ⟨k, rfl⟩ : ∃ k, m = k + 1 := ⟨m - 1, by omega⟩
        simp only [lexL]
        rw [if_neg hne, ea, a1]
        simp only
        rw [if_neg h120, List.dropWhile_cons, if_pos (show spB 32 = true by decide), e3]
        exact e4 k (by omega)
      · rw [ea, p3, p1]
      · rw [ea, p4, p2]
theorem lexL_bad : ∀ (n : Nat) (s : List UInt8) (acc L : List Wd) (f : Int), lexL n s acc = (L, f) → f ≠ 0 → L = []
  | 0, s, acc, L, f, h, hf => by cases h; exact absurd rfl hf
  | n + 1, s, acc, L, f, h, hf => by
    simp only [lexL] at h
    split at h
    · cases h; exact absurd rfl hf
    · split at h
      · cases h; rfl
      · split at h
        · cases h; rfl
        · exact lexL_bad n _ _ L f h hf
/-- A text that is refused has no words. -/
theorem lexS_bad (s : List UInt8) (h : (lexS s).2 ≠ 0) : (lexS s).1 = [] := by
  unfold lexS at h ⊢
  split
  · rfl
  · rename_i h4
    rw [if_neg h4] at h
    split
    · rename_i h5
      rw [if_pos h5] at h
      exact lexL_bad _ _ _ _ _ rfl h
    · rfl
/-- The words put down are lexed as the same words. -/
theorem lexS_again (s : List UInt8) (h : (lexS s).2 = 0) (hl : (allW (lexS s).1).length ≤ 400) : lexS (allW (lexS s).1) = ((lexS s).1, 0) := by
  have hs : ¬ 400 < s.length ∧ textB (ba s) = true := by
    unfold lexS at h
    by_cases h4 : 400 < s.length
    · rw [if_pos h4] at h; cases h
    rw [if_neg h4] at h
    by_cases h5 : textB (ba s) = true
    · exact ⟨h4, h5⟩
    · rw [if_neg h5] at h; cases h
  have e : lexS s = lexL s.length (s.dropWhile spB) [] := by unfold lexS; rw [if_neg hs.1, if_pos hs.2]
  have tr2 : textB (ba (s.dropWhile spB)) = true := rest_text (s.takeWhile spB) _ (by rw [List.takeWhile_append_dropWhile]; exact hs.2) (sp_text _ (tw_mem spB s))
  generalize hL : (lexS s).1 = L at hl ⊢
  have e2 : lexL s.length (s.dropWhile spB) [] = (L, 0) := by rw [← e, ← hL, ← h]
  obtain ⟨l, e3, e4, e5, e6, _, _⟩ := lex_again _ _ _ _ (dropW_len spB s) (drop_twice s) tr2 e2
  rw [List.nil_append] at e3
  subst e3
  have e7 : lexS (allW L) = lexL (allW L).length ((allW L).dropWhile spB) [] := by unfold lexS; rw [if_neg (by omega), if_pos e4]
  rw [e7, e5]
  exact e6 _ (Nat.le_refl _)
end Go.Proofs.YthilcidoacgdfaaDoor.LexE
