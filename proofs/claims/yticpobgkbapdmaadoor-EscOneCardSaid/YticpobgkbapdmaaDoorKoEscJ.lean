/- Plain laws of esc: the document's Get is the reader's. -/
import Derived.Test.YticpobgkbapdmaaDoorKoEscI
namespace Go.Proofs.YticpobgkbapdmaaDoor.CharA
end Go.Proofs.YticpobgkbapdmaaDoor.CharA
namespace Go.Proofs.YticpobgkbapdmaaDoor.CharB
end Go.Proofs.YticpobgkbapdmaaDoor.CharB
namespace Go.Proofs.YticpobgkbapdmaaDoor.CharC
end Go.Proofs.YticpobgkbapdmaaDoor.CharC
namespace Go.Proofs.YticpobgkbapdmaaDoor.CharD
end Go.Proofs.YticpobgkbapdmaaDoor.CharD
namespace Go.Proofs.YticpobgkbapdmaaDoor.CharF
end Go.Proofs.YticpobgkbapdmaaDoor.CharF
namespace Go.Proofs.YticpobgkbapdmaaDoor.CharH
end Go.Proofs.YticpobgkbapdmaaDoor.CharH
namespace Go.Proofs.YticpobgkbapdmaaDoor.EscB
end Go.Proofs.YticpobgkbapdmaaDoor.EscB
namespace Go.Proofs.YticpobgkbapdmaaDoor.EscC
end Go.Proofs.YticpobgkbapdmaaDoor.EscC
namespace Go.Proofs.YticpobgkbapdmaaDoor.EscD
end Go.Proofs.YticpobgkbapdmaaDoor.EscD
namespace Go.Proofs.YticpobgkbapdmaaDoor.EscF
end Go.Proofs.YticpobgkbapdmaaDoor.EscF
namespace Go.Proofs.YticpobgkbapdmaaDoor.EscG
end Go.Proofs.YticpobgkbapdmaaDoor.EscG
namespace Go.Proofs.YticpobgkbapdmaaDoor.EscI
end Go.Proofs.YticpobgkbapdmaaDoor.EscI
namespace Go.Proofs.YticpobgkbapdmaaDoor.PR1
end Go.Proofs.YticpobgkbapdmaaDoor.PR1
namespace Go.Proofs.YticpobgkbapdmaaDoor.SpanA
end Go.Proofs.YticpobgkbapdmaaDoor.SpanA
namespace Go.Proofs.YticpobgkbapdmaaDoor.SpanD
end Go.Proofs.YticpobgkbapdmaaDoor.SpanD
namespace Go.Proofs.YticpobgkbapdmaaDoorW.PrintLast
end Go.Proofs.YticpobgkbapdmaaDoorW.PrintLast
namespace Go.Proofs.YticpobgkbapdmaaDoorW.PrintMore
end Go.Proofs.YticpobgkbapdmaaDoorW.PrintMore
namespace Go.Proofs.YticpobgkbapdmaaDoorW.PrintWords
end Go.Proofs.YticpobgkbapdmaaDoorW.PrintWords
namespace Go.Proofs.YticpobgkbapdmaaDoor.EscJ
open Go.RowKit Go.Proofs.YticpobgkbapdmaaDoorW.PrintWords Go.Proofs.YticpobgkbapdmaaDoorW.PrintLast Go.Proofs.YticpobgkbapdmaaDoorW.PrintMore Go.Proofs.YticpobgkbapdmaaDoor.CharA Go.Proofs.YticpobgkbapdmaaDoor.CharB Go.Proofs.YticpobgkbapdmaaDoor.CharC Go.Proofs.YticpobgkbapdmaaDoor.CharD Go.Proofs.YticpobgkbapdmaaDoor.CharF Go.Proofs.YticpobgkbapdmaaDoor.CharH Go.Proofs.YticpobgkbapdmaaDoor.SpanA Go.Proofs.YticpobgkbapdmaaDoor.SpanD Go.Proofs.YticpobgkbapdmaaDoor.EscB Go.Proofs.YticpobgkbapdmaaDoor.EscC Go.Proofs.YticpobgkbapdmaaDoor.EscD Go.Proofs.YticpobgkbapdmaaDoor.EscF Go.Proofs.YticpobgkbapdmaaDoor.EscG Go.Proofs.YticpobgkbapdmaaDoor.EscI Go.Proofs.YticpobgkbapdmaaDoor.PR1
set_option linter.unusedVariables false
set_option linter.unusedSimpArgs false
/-- A text at its first ';': what stands ahead, and behind. -/
def cutS : List UInt8 → Option (List UInt8 × List UInt8)
  | [] => none
  | c :: t => if c = 59 then some ([], t) else match cutS t with | some (a, r) => some (c :: a, r) | none => none
theorem cutS_app : ∀ (t a r : List UInt8), cutS t = some (a, r) → t = a ++ 59 :: r
  | [], a, r, h => by simp [cutS] at h
  | c :: t, a, r, h => by
    simp only [cutS] at h
    by_cases hc : c = 59
    · rw [if_pos hc] at h; cases h; rw [hc]; rfl
    · rw [if_neg hc] at h
      cases hq : cutS t with
      | none => rw [hq] at h; cases h
      | some q =>
        obtain ⟨a', r'⟩ := q
        rw [hq] at h
        cases h
        rw [cutS_app t a' r hq]
        rfl
theorem cutS_ib : ∀ (t : List UInt8), Lib.indexByte t 59 = match cutS t with | some (a, _) => (a.length : Int) | none => -1
  | [] => rfl
  | c :: t => by
    have ih := cutS_ib t
    simp only [Lib.indexByte, cutS]
    by_cases hc : c = 59
    · subst hc; rfl
    · rw [if_neg (by simpa using hc), if_neg hc, ih]
      cases cutS t with
      | none => rfl
      | some q =>
        obtain ⟨a, r⟩ := q
        simp only
        rw [if_neg (by simp)]
        simp
theorem cut_S (t : List UInt8) : Lib.cut t [59] = match cutS t with | some (a, r) => (a, r, true) | none => (t, [], false) := by
  unfold Lib.cut
  rw [Lib.index_one, cutS_ib]
  cases h : cutS t with
  | none => rfl
  | some q =>
    obtain ⟨a, r⟩ := q
    have e := cutS_app t a r h
    simp only
    rw [if_pos (by omega), Int.toNat_natCast, e]
    simp
theorem refR_S (t : List UInt8) : refR t = match cutS t with | some (a, r) => (match chr a with | some x => some (x, r) | none => none) | none => none := by
  unfold refR
  rw [cut_S]
  cases cutS t with
  | none => rfl
  | some q => rfl
end Go.Proofs.YticpobgkbapdmaaDoor.EscJ
