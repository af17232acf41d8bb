/- The laws of lex, plain: spaces at both ends, a star behind. -/
import Derived.Test.YthilcidoacgdfaaDoorLqLexB
import Derived.Test.YthilcidoacgdfaaDoorLqLexA
namespace Go.Proofs.YthilcidoacgdfaaDoor.CharA
end Go.Proofs.YthilcidoacgdfaaDoor.CharA
namespace Go.Proofs.YthilcidoacgdfaaDoor.CharB
end Go.Proofs.YthilcidoacgdfaaDoor.CharB
namespace Go.Proofs.YthilcidoacgdfaaDoor.CharD
end Go.Proofs.YthilcidoacgdfaaDoor.CharD
namespace Go.Proofs.YthilcidoacgdfaaDoor.CharF
end Go.Proofs.YthilcidoacgdfaaDoor.CharF
namespace Go.Proofs.YthilcidoacgdfaaDoor.FigA
end Go.Proofs.YthilcidoacgdfaaDoor.FigA
namespace Go.Proofs.YthilcidoacgdfaaDoor.FigC
end Go.Proofs.YthilcidoacgdfaaDoor.FigC
namespace Go.Proofs.YthilcidoacgdfaaDoor.LexA
end Go.Proofs.YthilcidoacgdfaaDoor.LexA
namespace Go.Proofs.YthilcidoacgdfaaDoor.LexB
end Go.Proofs.YthilcidoacgdfaaDoor.LexB
namespace Go.Proofs.YthilcidoacgdfaaDoor.SpanA
end Go.Proofs.YthilcidoacgdfaaDoor.SpanA
namespace Go.Proofs.YthilcidoacgdfaaDoor.Txt
end Go.Proofs.YthilcidoacgdfaaDoor.Txt
namespace Go.Proofs.YthilcidoacgdfaaDoorW.PrintLast
end Go.Proofs.YthilcidoacgdfaaDoorW.PrintLast
namespace Go.Proofs.YthilcidoacgdfaaDoorW.PrintMore
end Go.Proofs.YthilcidoacgdfaaDoorW.PrintMore
namespace Go.Proofs.YthilcidoacgdfaaDoorW.PrintWords
end Go.Proofs.YthilcidoacgdfaaDoorW.PrintWords
namespace Go.Proofs.YthilcidoacgdfaaDoor.LexC
open Go.RowKit Go.Proofs.YthilcidoacgdfaaDoorW.PrintWords Go.Proofs.YthilcidoacgdfaaDoorW.PrintLast Go.Proofs.YthilcidoacgdfaaDoorW.PrintMore Go.Proofs.YthilcidoacgdfaaDoor.CharA Go.Proofs.YthilcidoacgdfaaDoor.CharB Go.Proofs.YthilcidoacgdfaaDoor.CharD Go.Proofs.YthilcidoacgdfaaDoor.CharF Go.Proofs.YthilcidoacgdfaaDoor.SpanA Go.Proofs.YthilcidoacgdfaaDoor.FigA Go.Proofs.YthilcidoacgdfaaDoor.FigC Go.Proofs.YthilcidoacgdfaaDoor.Txt Go.Proofs.YthilcidoacgdfaaDoor.LexA Go.Proofs.YthilcidoacgdfaaDoor.LexB
set_option linter.unusedVariables false
set_option linter.unusedSimpArgs false
theorem sp_text (y : List UInt8) (hy : ∀ x ∈ y, spB x = true) : textB (ba y) = true := by
  induction y with
  | nil => exact textB_nil
  | cons c y ih =>
    have hc := hy c (by simp)
    rw [textB_low c y (sp_low128 hc), ih (fun x hx => hy x (by simp [hx])), Bool.and_true]
    have : ∀ n : Fin 256, spB (UInt8.ofNat n.1) = true → isB ((UInt8.ofNat n.1).toNat : Int) = true := by decide +kernel
    have := this ⟨c.toNat, c.toNat_lt⟩
    simpa using this (by simpa using hc)
theorem drop_twice (s : List UInt8) : (s.dropWhile spB).dropWhile spB = s.dropWhile spB := by
  cases hr : s.dropWhile spB with
  | nil => rfl
  | cons b t =>
    have := List.head?_dropWhile_not spB s
    rw [hr] at this
    simp at this
    rw [List.dropWhile_cons, if_neg (by simp [this])]
/-- The words of a text, and then those of what stands behind a blank. -/
theorem lex_then (c : UInt8) (hc : spB c = true) (y : List UInt8) (hy : CalmY y) : ∀ (n m : Nat) (s : List UInt8) (acc l : List Wd), s.length ≤ n → s.length + y.length + 1 ≤ m → s.dropWhile spB = s → lexL n s acc = (l, 0) → ∃ k, y.length ≤ k ∧ lexL m ((s ++ c :: y).dropWhile spB) acc = lexL k (y.dropWhile spB) l
  | 0, m, s, acc, l, h, hm, _, hl => by
    obtain rfl : s = [] := List.length_eq_zero_iff.1 (by omega)
    simp only [lexL, Prod.mk.injEq] at hl
    refine ⟨m, by omega, ?_⟩
    rw [List.nil_append, List.dropWhile_cons, if_pos hc, hl.1]
  | n + 1, m, s, acc, l, h, hm, hs, hl => by
    obtain ⟨m, rfl⟩ : ∃ j, m = j + 1 := ⟨m - 1, by omega⟩
    by_cases h0 : s = []
    · subst h0
      simp only [lexL, if_true, Prod.mk.injEq] at hl
      refine ⟨m + 1, by simp at hm; omega, ?_⟩
      rw [List.nil_append, List.dropWhile_cons, if_pos hc, hl.1]
    · have hd : (s ++ c :: y).dropWhile spB = s ++ c :: y := by rw [dropW_some spB s _ (by rw [hs]; exact h0), hs]
      rw [hd]
      simp only [lexL] at hl ⊢
      rw [if_neg h0] at hl
      rw [if_neg (by simp)]
      cases hq : oneW s (endsW acc) with
      | none => rw [hq] at hl; cases hl
      | some q =>
        obtain ⟨w, r⟩ := q
        rw [hq] at hl
        rw [one_more hq c hc y hy]
        simp only at hl ⊢
        have hll := one_less hq
        have hdl := dropW_len spB r
        split at hl
        · cases hl
        · rename_i hacc
          rw [if_neg hacc]
          have e : (r ++ c :: y).dropWhile spB = ((r.dropWhile spB) ++ c :: y).dropWhile spB := by
            by_cases hr : r.dropWhile spB = []
            · rw [dropW_all spB r _ hr, hr]; rfl
            · rw [dropW_some spB r _ hr, dropW_some spB _ _ (by rw [drop_twice]; exact hr), drop_twice]
          rw [e]
          exact lex_then c hc y hy n m _ _ l (by omega) (by omega) (drop_twice r) hl
/-! ### a star, or a name, behind -/
def fiveL : List (List UInt8) := [[42], [97, 110, 100], [111, 114], [109, 111, 100], [100, 105, 118]]
theorem five_one : ∀ n ∈ fiveL, ∀ e : Bool, oneW n e = some ((if e = true then 5 else if n = [42] then 3 else 2, n, 0, 0), []) := by decide +kernel
theorem five_calm : ∀ n ∈ fiveL, ([40] : List UInt8).isPrefixOf (n.dropWhile spB) = false ∧ ([58, 58] : List UInt8).isPrefixOf (n.dropWhile spB) = false ∧ n.dropWhile spB = n ∧ textB (ba n) = true ∧ 1 ≤ n.length ∧ n.length ≤ 3 := by decide +kernel
theorem lex_star (s : List UInt8) (n : List UInt8) (hn : n ∈ fiveL) (l : List Wd) (hs : s.length ≤ 380) (hl : l.length ≤ 118) (h : lexS s = (l, 0)) : lexS (s ++ 32 :: n) = (l ++ [(if endsW l = true then 5 else if n = [42] then 3 else 2, n, 0, 0)], 0) := by
  obtain ⟨c1, c2, c3, c4, c5, c6⟩ := five_calm n hn
  unfold lexS at h ⊢
  rw [if_neg (by omega)] at h
  rw [if_neg (by simp; omega)]
  by_cases ht : textB (ba s) = true
  · rw [if_pos ht] at h
    rw [text_join s _ ht, textB_low 32 n (by decide), c4, if_pos (by decide +kernel)]
    have e2 : (s ++ 32 :: n).dropWhile spB = (s.dropWhile spB ++ 32 :: n).dropWhile spB := by
      by_cases hr : s.dropWhile spB = []
      · rw [dropW_all spB s _ hr, hr]; rfl
      · rw [dropW_some spB s _ hr, dropW_some spB _ _ (by rw [drop_twice]; exact hr), drop_twice]
    rw [e2]
    have hdl := dropW_len spB s
    obtain ⟨k, hk, he⟩ := lex_then 32 (by decide) n ⟨c1, c2⟩ s.length (s ++ 32 :: n).length (s.dropWhile spB) [] l hdl (by simp only [List.length_append, List.length_cons]; omega) (drop_twice s) h
    rw [he, c3]
    obtain ⟨k, rfl⟩ : ∃ j, k = j + 1 := ⟨k - 1, by omega⟩
    have hne : n ≠ [] := fun e => by rw [e] at c5; simp at c5
    simp only [lexL]
    rw [if_neg hne, five_one n hn]
    simp only
    rw [if_neg (by omega)]
    cases k <;> simp [lexL]
  · rw [if_neg ht] at h; cases h
/-- A mark among the words is one of the marks. -/
theorem one_mark {s : List UInt8} {e : Bool} {w : Wd} {r : List UInt8} (h : oneW s e = some (w, r)) (hw : w.1 = 1) : w.2.1 ∈ marksL := by
  cases s with
  | nil => cases h
  | cons c t =>
    simp only [oneW] at h
    split at h
    · unfold litW at h
      cases hq : cutC c t with
      | none => rw [hq] at h; cases h
      | some q => obtain ⟨a, r'⟩ := q; rw [hq] at h; cases h; cases hw
    split at h
    · unfold numW at h
      split at h
      · cases h; cases hw
      · cases h
    split at h
    · rename_i m hm
      cases h
      exact (find_pre hm).1
    split at h
    · cases h; cases hw
    split at h
    · cases h; revert hw; simp only; split <;> simp
    split at h
    · unfold varW at h
      split at h
      · cases h; cases hw
      · cases h
    · unfold nameW at h
      split at h
      · split at h
        · split at h
          · have := congrArg (fun z : Wd × List UInt8 => z.1.1) (Option.some.inj h)
            simp only at this
            omega
          · cases h
        · have := congrArg (fun z : Wd × List UInt8 => z.1.1) (Option.some.inj h)
          simp only at this
          rw [hw] at this
          unfold kindW at this
          revert this
          repeat' split
          all_goals simp
      · cases h
theorem lex_marks : ∀ (n : Nat) (s : List UInt8) (acc l : List Wd) (e : Int), (∀ w ∈ acc, w.1 = 1 → w.2.1 ∈ marksL) → lexL n s acc = (l, e) → ∀ w ∈ l, w.1 = 1 → w.2.1 ∈ marksL
  | 0, s, acc, l, e, ha, h => by simp only [lexL, Prod.mk.injEq] at h; rw [← h.1]; exact ha
  | n + 1, s, acc, l, e, ha, h => by
    simp only [lexL] at h
    split at h
    · simp only [Prod.mk.injEq] at h; rw [← h.1]; exact ha
    · cases hq : oneW s (endsW acc) with
      | none => rw [hq] at h; simp only [Prod.mk.injEq] at h; rw [← h.1]; intro w hw; cases hw
      | some q =>
        obtain ⟨w, r⟩ := q
        rw [hq] at h
        simp only at h
        split at h
        · simp only [Prod.mk.injEq] at h; rw [← h.1]; intro w hw; cases hw
        · refine lex_marks n _ _ l e ?_ h
          intro v hv h1
          rcases List.mem_append.1 hv with hv | hv
          · exact ha v hv h1
          · simp at hv; subst hv; exact one_mark hq h1
end Go.Proofs.YthilcidoacgdfaaDoor.LexC
/- A character is read by itself as it is read in a text; a run of a name's characters is its own run. -/
namespace Go.Proofs.YthilcidoacgdfaaDoor.CharA
end Go.Proofs.YthilcidoacgdfaaDoor.CharA
namespace Go.Proofs.YthilcidoacgdfaaDoor.CharB
end Go.Proofs.YthilcidoacgdfaaDoor.CharB
namespace Go.Proofs.YthilcidoacgdfaaDoor.CharD
end Go.Proofs.YthilcidoacgdfaaDoor.CharD
namespace Go.Proofs.YthilcidoacgdfaaDoor.CharF
end Go.Proofs.YthilcidoacgdfaaDoor.CharF
namespace Go.Proofs.YthilcidoacgdfaaDoor.FigA
end Go.Proofs.YthilcidoacgdfaaDoor.FigA
namespace Go.Proofs.YthilcidoacgdfaaDoor.LexA
end Go.Proofs.YthilcidoacgdfaaDoor.LexA
namespace Go.Proofs.YthilcidoacgdfaaDoor.SpanA
end Go.Proofs.YthilcidoacgdfaaDoor.SpanA
namespace Go.Proofs.YthilcidoacgdfaaDoor.Txt
end Go.Proofs.YthilcidoacgdfaaDoor.Txt
namespace Go.Proofs.YthilcidoacgdfaaDoorW.PrintLast
end Go.Proofs.YthilcidoacgdfaaDoorW.PrintLast
namespace Go.Proofs.YthilcidoacgdfaaDoorW.PrintMore
end Go.Proofs.YthilcidoacgdfaaDoorW.PrintMore
namespace Go.Proofs.YthilcidoacgdfaaDoorW.PrintWords
end Go.Proofs.YthilcidoacgdfaaDoorW.PrintWords
namespace Go.Proofs.YthilcidoacgdfaaDoor.TxtB
open Go.RowKit Go.Proofs.YthilcidoacgdfaaDoorW.PrintWords Go.Proofs.YthilcidoacgdfaaDoorW.PrintLast Go.Proofs.YthilcidoacgdfaaDoorW.PrintMore Go.Proofs.YthilcidoacgdfaaDoor.CharA Go.Proofs.YthilcidoacgdfaaDoor.CharB Go.Proofs.YthilcidoacgdfaaDoor.CharD Go.Proofs.YthilcidoacgdfaaDoor.CharF Go.Proofs.YthilcidoacgdfaaDoor.SpanA Go.Proofs.YthilcidoacgdfaaDoor.FigA Go.Proofs.YthilcidoacgdfaaDoor.Txt Go.Proofs.YthilcidoacgdfaaDoor.LexA
set_option linter.unusedVariables false
set_option linter.unusedSimpArgs false
set_option maxRecDepth 100000 in
set_option maxHeartbeats 2000000 in
/-- A character of two bytes and more is read the same whatever follows it. -/
theorem dk (n m b0 b1 b2 b3 c1 c2 c3 : Nat) (h2 : 2 ≤ (Lib.decodeN n b0 b1 b2 b3).2) (hm : (Lib.decodeN n b0 b1 b2 b3).2 ≤ m) (e1 : c1 = b1) (e2 : 2 < (Lib.decodeN n b0 b1 b2 b3).2 → c2 = b2) (e3 : 3 < (Lib.decodeN n b0 b1 b2 b3).2 → c3 = b3) :
    Lib.decodeN m b0 c1 c2 c3 = Lib.decodeN n b0 b1 b2 b3 := by
  subst e1
  generalize hk : (Lib.decodeN n b0 c1 b2 b3).2 = k at h2 hm e2 e3
  unfold Lib.decodeN at hk ⊢
  repeat' split at hk
  all_goals first
    | (exfalso; simp only at hk; omega)
    | (simp only at hk
       subst hk
       first
         | (have E2 := e2 (by omega); subst E2; first | (have E3 := e3 (by omega); subst E3; simp_all) | simp_all)
         | simp_all)
  all_goals (repeat' split)
  all_goals first | (exfalso; omega) | rfl
theorem getD_take (s z : List UInt8) (k i : Nat) (hk : k ≤ s.length) (h : i < k) : (s.take k ++ z).getD i 0 = s.getD i 0 := by
  simp only [List.getD]
  rw [List.getElem?_append_left (by rw [List.length_take]; omega), List.getElem?_take, if_pos h]
theorem dec_take (s z : List UInt8) (hs : s ≠ []) (h : Lib.decodeL s ≠ (65533, 1)) : Lib.decodeL (s.take (Lib.decodeL s).2 ++ z) = Lib.decodeL s := by
  have hle := Lib.decodeL_le s hs
  by_cases h1 : 2 ≤ (Lib.decodeL s).2
  · have hl : (s.take (Lib.decodeL s).2 ++ z).length = (Lib.decodeL s).2 + z.length := by
      rw [List.length_append, List.length_take]; omega
    have hg : ∀ i, i < (Lib.decodeL s).2 → (s.take (Lib.decodeL s).2 ++ z).getD i 0 = s.getD i 0 := fun i hi => getD_take s z _ i hle hi
    generalize s.take (Lib.decodeL s).2 ++ z = y at hl hg ⊢
    rw [Lib.decodeL_N y, hg 0 (by omega)]
    rw [Lib.decodeL_N s] at h1 hl hg ⊢
    exact dk _ _ _ _ _ _ _ _ _ h1 (by omega) (by rw [hg 1 (by omega)]) (fun z => by rw [hg 2 z]) (fun z => by rw [hg 3 z])
  · have hw := Lib.decodeL_width s
    have hone : (Lib.decodeL s).2 = 1 := by omega
    cases s with
    | nil => exact absurd rfl hs
    | cons c t =>
      rw [hone]
      by_cases hc : c.toNat < 128
      · rw [Lib.decodeL_ascii c t hc]
        exact Lib.decodeL_ascii c _ hc
      · exfalso
        rw [Lib.decodeL_N] at h hone
        rcases dn_wide _ _ _ _ _ (by simp; omega) h with ⟨q, _⟩ | ⟨q, _⟩ | ⟨q, _⟩ <;> omega
/-- The run of a run is itself, and it is a text. -/
theorem run_self : ∀ (n m : Nat) (s : List UInt8), textB (ba s) = true → (runL n s).length ≤ m → runL m (runL n s) = runL n s ∧ textB (ba (runL n s)) = true
  | 0, m, s, _, _ => by
    refine ⟨?_, textB_nil⟩
    cases m <;> simp [runL]
  | n + 1, m, s, ht, hm => by
    simp only [runL] at hm ⊢
    by_cases hs : s = []
    · rw [if_pos hs]
      refine ⟨?_, textB_nil⟩
      cases m <;> simp [runL]
    rw [if_neg hs] at hm ⊢
    by_cases hp : partB ((Lib.decodeL s).1 : Int) = true
    · rw [if_pos hp] at hm ⊢
      have hst := textB_step s hs
      rw [ht] at hst
      have hg : Lib.decodeL s ≠ (65533, 1) := by
        intro hbad
        rw [if_pos hbad] at hst
        cases hst
      rw [if_neg hg] at hst
      have hst := hst.symm
      rw [Bool.and_eq_true] at hst
      have hw := Lib.decodeL_width s
      have hle := Lib.decodeL_le s hs
      have hlt : (s.take (Lib.decodeL s).2).length = (Lib.decodeL s).2 := by rw [List.length_take]; omega
      rw [List.length_append, hlt] at hm
      obtain ⟨m, rfl⟩ : ∃ k, m = k + 1 := ⟨m - 1, by omega⟩
      obtain ⟨i1, i2⟩ := run_self n m (s.drop (Lib.decodeL s).2) hst.2 (by omega)
      have hd := dec_take s (runL n (s.drop (Lib.decodeL s).2)) hs hg
      have hne : s.take (Lib.decodeL s).2 ++ runL n (s.drop (Lib.decodeL s).2) ≠ [] := by
        intro h0
        have := congrArg List.length h0
        rw [List.length_append, hlt, List.length_nil] at this
        omega
      have e1 : (s.take (Lib.decodeL s).2 ++ runL n (s.drop (Lib.decodeL s).2)).take (Lib.decodeL s).2 = s.take (Lib.decodeL s).2 := by
        rw [List.take_append_of_le_length (by omega), List.take_of_length_le (by omega)]
      have e2 : (s.take (Lib.decodeL s).2 ++ runL n (s.drop (Lib.decodeL s).2)).drop (Lib.decodeL s).2 = runL n (s.drop (Lib.decodeL s).2) := by
        rw [List.drop_append_of_le_length (by omega), List.drop_of_length_le (by omega), List.nil_append]
      refine ⟨?_, ?_⟩
      · simp only [runL]
        rw [if_neg hne, hd, if_pos hp, e1, e2, i1]
      · rw [textB_step _ hne, hd, if_neg hg, e2, hst.1, i2]
        rfl
    · rw [if_neg hp]
      refine ⟨?_, textB_nil⟩
      cases m <;> simp [runL]
theorem run_again (s : List UInt8) (h : textB (ba s) = true) : runS (runS s) = runS s ∧ textB (ba (runS s)) = true := run_self _ _ s h (Nat.le_refl _)
end Go.Proofs.YthilcidoacgdfaaDoor.TxtB
