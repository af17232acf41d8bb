/- What stands behind a blank turns no word ahead of it: plain. -/
import Derived.Test.YthilcidoacgdfaaDoorLqLexA
namespace Go.Proofs.YthilcidoacgdfaaDoor.CharA
end Go.Proofs.YthilcidoacgdfaaDoor.CharA
namespace Go.Proofs.YthilcidoacgdfaaDoor.CharB
end Go.Proofs.YthilcidoacgdfaaDoor.CharB
namespace Go.Proofs.YthilcidoacgdfaaDoor.CharD
end Go.Proofs.YthilcidoacgdfaaDoor.CharD
namespace Go.Proofs.YthilcidoacgdfaaDoor.CharF
end Go.Proofs.YthilcidoacgdfaaDoor.CharF
namespace Go.Proofs.YthilcidoacgdfaaDoor.FigA
end Go.Proofs.YthilcidoacgdfaaDoor.FigA
namespace Go.Proofs.YthilcidoacgdfaaDoor.FigC
end Go.Proofs.YthilcidoacgdfaaDoor.FigC
namespace Go.Proofs.YthilcidoacgdfaaDoor.LexA
end Go.Proofs.YthilcidoacgdfaaDoor.LexA
namespace Go.Proofs.YthilcidoacgdfaaDoor.SpanA
end Go.Proofs.YthilcidoacgdfaaDoor.SpanA
namespace Go.Proofs.YthilcidoacgdfaaDoor.Txt
end Go.Proofs.YthilcidoacgdfaaDoor.Txt
namespace Go.Proofs.YthilcidoacgdfaaDoorW.PrintLast
end Go.Proofs.YthilcidoacgdfaaDoorW.PrintLast
namespace Go.Proofs.YthilcidoacgdfaaDoorW.PrintMore
end Go.Proofs.YthilcidoacgdfaaDoorW.PrintMore
namespace Go.Proofs.YthilcidoacgdfaaDoorW.PrintWords
end Go.Proofs.YthilcidoacgdfaaDoorW.PrintWords
namespace Go.Proofs.YthilcidoacgdfaaDoor.LexB
open Go.RowKit Go.Proofs.YthilcidoacgdfaaDoorW.PrintWords Go.Proofs.YthilcidoacgdfaaDoorW.PrintLast Go.Proofs.YthilcidoacgdfaaDoorW.PrintMore Go.Proofs.YthilcidoacgdfaaDoor.CharA Go.Proofs.YthilcidoacgdfaaDoor.CharB Go.Proofs.YthilcidoacgdfaaDoor.CharD Go.Proofs.YthilcidoacgdfaaDoor.CharF Go.Proofs.YthilcidoacgdfaaDoor.SpanA Go.Proofs.YthilcidoacgdfaaDoor.FigA Go.Proofs.YthilcidoacgdfaaDoor.FigC Go.Proofs.YthilcidoacgdfaaDoor.Txt Go.Proofs.YthilcidoacgdfaaDoor.LexA
set_option linter.unusedVariables false
set_option linter.unusedSimpArgs false
theorem cutC_more (q : UInt8) (z : List UInt8) : ∀ (t a r : List UInt8), cutC q t = some (a, r) → cutC q (t ++ z) = some (a, r ++ z) := by
  intro t a r h
  obtain ⟨h1, h2⟩ := cutC_app q t a r h
  rw [h1, List.append_assoc, List.cons_append]
  exact cutC_of q a (r ++ z) h2
/-- A name's kind hangs on what follows the spaces. -/
theorem dropW_all (p : UInt8 → Bool) : ∀ (r z : List UInt8), r.dropWhile p = [] → (r ++ z).dropWhile p = z.dropWhile p
  | [], z, _ => rfl
  | c :: r, z, h => by
    rw [List.dropWhile_cons] at h
    rw [List.cons_append, List.dropWhile_cons]
    by_cases hp : p c = true
    · rw [if_pos hp] at h ⊢; exact dropW_all p r z h
    · rw [if_neg hp] at h; cases h
theorem dropW_some (p : UInt8 → Bool) : ∀ (r z : List UInt8), r.dropWhile p ≠ [] → (r ++ z).dropWhile p = r.dropWhile p ++ z
  | [], z, h => absurd rfl h
  | c :: r, z, h => by
    rw [List.dropWhile_cons] at h ⊢
    rw [List.cons_append, List.dropWhile_cons]
    by_cases hp : p c = true
    · rw [if_pos hp] at h ⊢; rw [if_pos hp]; exact dropW_some p r z h
    · rw [if_neg hp] at h ⊢; rw [if_neg hp]; rfl
/-- What does not turn a name ahead of it: no bracket, and no axis mark, behind its spaces. -/
def CalmY (y : List UInt8) : Prop := ([40] : List UInt8).isPrefixOf (y.dropWhile spB) = false ∧ ([58, 58] : List UInt8).isPrefixOf (y.dropWhile spB) = false
theorem kind_sp (x r : List UInt8) (c : UInt8) (hc : spB c = true) (y : List UInt8) (hy : CalmY y) : kindW x (r ++ c :: y) = kindW x r := by
  unfold kindW
  by_cases h : r.dropWhile spB = []
  · rw [dropW_all spB r _ h, h, List.dropWhile_cons, if_pos hc, hy.1, hy.2]
    rfl
  · rw [dropW_some spB r _ h, pre_sp [40] (by decide) c hc y, pre_sp [58, 58] (by decide) c hc y]
theorem drop_le (s z : List UInt8) (n : Nat) (h : n ≤ s.length) : (s ++ z).drop n = s.drop n ++ z := List.drop_append_of_le_length h
/-- The word ahead stays. -/
theorem one_more {s : List UInt8} {e : Bool} {w : Wd} {r : List UInt8} (h : oneW s e = some (w, r)) (c : UInt8) (hc : spB c = true) (y : List UInt8) (hy : CalmY y) : oneW (s ++ c :: y) e = some (w, r ++ c :: y) := by
  cases s with
  | nil => cases h
  | cons d t =>
    have hcat : d :: t ++ c :: y = d :: (t ++ c :: y) := rfl
    rw [hcat]
    simp only [oneW] at h ⊢
    by_cases hq : d = 34 ∨ d = 39
    · rw [if_pos hq] at h ⊢
      unfold litW at h ⊢
      cases hx : cutC d t with
      | none => rw [hx] at h; cases h
      | some q =>
        obtain ⟨a, r'⟩ := q
        rw [hx] at h
        rw [cutC_more d (c :: y) t a r' hx]
        cases h
        rfl
    rw [if_neg hq] at h ⊢
    have hn : numB (d :: (t ++ c :: y)) = numB (d :: t) := numB_sp c hc y d t
    rw [hn]
    by_cases hnb : numB (d :: t) = true
    · rw [if_pos hnb] at h ⊢
      unfold numW at h ⊢
      rw [← hcat, num_sp c hc y (d :: t), drop_le _ _ _ (numT_le _)]
      split at h
      · rename_i hl
        rw [if_pos hl]
        cases h
        rfl
      · cases h
    rw [if_neg hnb] at h ⊢
    rw [← hcat, first_sp marksL marks_sp c hc y (d :: t), first_sp opsL ops_sp c hc y (d :: t)]
    cases hm : firstOf marksL (d :: t) with
    | some m =>
      rw [hm] at h
      simp only at h ⊢
      rw [drop_le _ _ _ (pre_len (find_pre hm).2)]
      cases h
      rfl
    | none =>
      rw [hm] at h
      simp only at h ⊢
      cases ho : firstOf opsL (d :: t) with
      | some m =>
        rw [ho] at h
        simp only at h ⊢
        rw [drop_le _ _ _ (pre_len (find_pre ho).2)]
        cases h
        rfl
      | none =>
        rw [ho] at h
        simp only at h ⊢
        by_cases h42 : d = 42
        · rw [if_pos h42] at h ⊢
          cases h
          rfl
        rw [if_neg h42] at h ⊢
        by_cases h36 : d = 36
        · rw [if_pos h36] at h ⊢
          unfold varW at h ⊢
          rw [run_sp c hc y t, drop_le _ _ _ (runS_le _)]
          split at h
          · rename_i hv
            rw [if_pos hv]
            cases h
            rfl
          · cases h
        · rw [if_neg h36] at h ⊢
          unfold nameW at h ⊢
          rw [run_sp c hc y (d :: t), drop_le _ _ _ (runS_le _), kind_sp _ _ c hc y hy]
          generalize runS (d :: t) = x at *
          split at h
          · rename_i hv
            rw [if_pos hv]
            split at h
            · rename_i he
              rw [if_pos he]
              split at h
              · rename_i hf
                rw [if_pos hf]
                have := Option.some.inj h
                rw [Prod.mk.injEq] at this
                rw [← this.1, ← this.2]
              · cases h
            · rename_i he
              rw [if_neg he]
              have := Option.some.inj h
              rw [Prod.mk.injEq] at this
              rw [← this.1, ← this.2]
          · cases h
end Go.Proofs.YthilcidoacgdfaaDoor.LexB
