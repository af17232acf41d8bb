/- The laws of lex, plain: spaces at both ends, a star behind. -/
import Derived.Test.YthilcidoacgdfaaDoorLsLexB
namespace Go.Proofs.YthilcidoacgdfaaDoor.CharA
end Go.Proofs.YthilcidoacgdfaaDoor.CharA
namespace Go.Proofs.YthilcidoacgdfaaDoor.CharB
end Go.Proofs.YthilcidoacgdfaaDoor.CharB
namespace Go.Proofs.YthilcidoacgdfaaDoor.CharD
end Go.Proofs.YthilcidoacgdfaaDoor.CharD
namespace Go.Proofs.YthilcidoacgdfaaDoor.CharF
end Go.Proofs.YthilcidoacgdfaaDoor.CharF
namespace Go.Proofs.YthilcidoacgdfaaDoor.FigA
end Go.Proofs.YthilcidoacgdfaaDoor.FigA
namespace Go.Proofs.YthilcidoacgdfaaDoor.FigC
end Go.Proofs.YthilcidoacgdfaaDoor.FigC
namespace Go.Proofs.YthilcidoacgdfaaDoor.LexA
end Go.Proofs.YthilcidoacgdfaaDoor.LexA
namespace Go.Proofs.YthilcidoacgdfaaDoor.LexB
end Go.Proofs.YthilcidoacgdfaaDoor.LexB
namespace Go.Proofs.YthilcidoacgdfaaDoor.SpanA
end Go.Proofs.YthilcidoacgdfaaDoor.SpanA
namespace Go.Proofs.YthilcidoacgdfaaDoor.Txt
end Go.Proofs.YthilcidoacgdfaaDoor.Txt
namespace Go.Proofs.YthilcidoacgdfaaDoorW.PrintLast
end Go.Proofs.YthilcidoacgdfaaDoorW.PrintLast
namespace Go.Proofs.YthilcidoacgdfaaDoorW.PrintMore
end Go.Proofs.YthilcidoacgdfaaDoorW.PrintMore
namespace Go.Proofs.YthilcidoacgdfaaDoorW.PrintWords
end Go.Proofs.YthilcidoacgdfaaDoorW.PrintWords
namespace Go.Proofs.YthilcidoacgdfaaDoor.LexC
open Go.RowKit Go.Proofs.YthilcidoacgdfaaDoorW.PrintWords Go.Proofs.YthilcidoacgdfaaDoorW.PrintLast Go.Proofs.YthilcidoacgdfaaDoorW.PrintMore Go.Proofs.YthilcidoacgdfaaDoor.CharA Go.Proofs.YthilcidoacgdfaaDoor.CharB Go.Proofs.YthilcidoacgdfaaDoor.CharD Go.Proofs.YthilcidoacgdfaaDoor.CharF Go.Proofs.YthilcidoacgdfaaDoor.SpanA Go.Proofs.YthilcidoacgdfaaDoor.FigA Go.Proofs.YthilcidoacgdfaaDoor.FigC Go.Proofs.YthilcidoacgdfaaDoor.Txt Go.Proofs.YthilcidoacgdfaaDoor.LexA Go.Proofs.YthilcidoacgdfaaDoor.LexB
set_option linter.unusedVariables false
set_option linter.unusedSimpArgs false
theorem sp_text (y : List UInt8) (hy : ∀ x ∈ y, spB x = true) : textB (ba y) = true := by
  induction y with
  | nil => exact textB_nil
  | cons c y ih =>
    have hc := hy c (by simp)
    rw [textB_low c y (sp_low128 hc), ih (fun x hx => hy x (by simp [hx])), Bool.and_true]
    have : ∀ n : Fin 256, spB (UInt8.ofNat n.1) = true → isB ((UInt8.ofNat n.1).toNat : Int) = true := by decide +kernel
    have := this ⟨c.toNat, c.toNat_lt⟩
    simpa using this (by simpa using hc)
theorem drop_all (p : UInt8 → Bool) (y : List UInt8) (hy : ∀ x ∈ y, p x = true) : y.dropWhile p = [] := by
  induction y with
  | nil => rfl
  | cons c y ih => rw [List.dropWhile_cons, if_pos (hy c (by simp))]; exact ih (fun x hx => hy x (by simp [hx]))
theorem drop_twice (s : List UInt8) : (s.dropWhile spB).dropWhile spB = s.dropWhile spB := by
  cases hr : s.dropWhile spB with
  | nil => rfl
  | cons b t =>
    have := List.head?_dropWhile_not spB s
    rw [hr] at this
    simp at this
    rw [List.dropWhile_cons, if_neg (by simp [this])]
/-- Spaces at both ends turn nothing. -/
theorem lex_spaces (g s : List UInt8) (hg : ∀ x ∈ g, spB x = true) (hgl : g.length ≤ 10) (hs : s.length ≤ 380) : lexS (g ++ s ++ g) = lexS s := by
  have ht : textB (ba (g ++ s ++ g)) = textB (ba s) := by
    rw [List.append_assoc, text_join g _ (sp_text g hg)]
    cases g with
    | nil => rw [List.append_nil]
    | cons c y =>
      have hc := hg c (by simp)
      rw [text_cut c (sp_low128 hc) y s.length s (Nat.le_refl _), sp_text (c :: y) hg, Bool.and_true]
  unfold lexS
  rw [if_neg (show ¬ 400 < (g ++ s ++ g).length by simp only [List.length_append]; omega), if_neg (show ¬ 400 < s.length by omega), ht]
  by_cases h : textB (ba s) = true
  · rw [if_pos h, if_pos h]
    have e1 : (g ++ s ++ g).dropWhile spB = (s ++ g).dropWhile spB := by rw [List.append_assoc, dropW_all spB g _ (drop_all spB g hg)]
    rw [e1]
    cases g with
    | nil => simp only [List.append_nil, List.nil_append]
    | cons c y =>
      have hc := hg c (by simp)
      have e2 : (s ++ c :: y).dropWhile spB = (s.dropWhile spB ++ c :: y).dropWhile spB := by
        by_cases hr : s.dropWhile spB = []
        · rw [dropW_all spB s _ hr, hr]; rfl
        · rw [dropW_some spB s _ hr, dropW_some spB _ _ (by rw [drop_twice]; exact hr), drop_twice]
      rw [e2]
      have hdl := dropW_len spB s
      exact lex_gap c hc y (fun x hx => hg x (by simp [hx])) s.length _ _ [] hdl (by simp only [List.length_append, List.length_cons]; omega) (drop_twice s)
  · rw [if_neg h, if_neg h]
/-! ### a star, or a name, behind -/
end Go.Proofs.YthilcidoacgdfaaDoor.LexC
