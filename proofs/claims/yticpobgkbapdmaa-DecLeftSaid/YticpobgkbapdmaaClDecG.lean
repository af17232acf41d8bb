/- Comparisons, roundings, whole numbers: closed forms of the program's and of the reference's functions; and the nine laws as plain statements. -/
import Derived.Test.YticpobgkbapdmaaClDecF
namespace Go.Proofs.Yticpobgkbapdmaa.DecA
end Go.Proofs.Yticpobgkbapdmaa.DecA
namespace Go.Proofs.Yticpobgkbapdmaa.DecB
end Go.Proofs.Yticpobgkbapdmaa.DecB
namespace Go.Proofs.Yticpobgkbapdmaa.DecC
end Go.Proofs.Yticpobgkbapdmaa.DecC
namespace Go.Proofs.Yticpobgkbapdmaa.DecD
end Go.Proofs.Yticpobgkbapdmaa.DecD
namespace Go.Proofs.Yticpobgkbapdmaa.DecE
end Go.Proofs.Yticpobgkbapdmaa.DecE
namespace Go.Proofs.Yticpobgkbapdmaa.DecF
end Go.Proofs.Yticpobgkbapdmaa.DecF
namespace Go.Proofs.Yticpobgkbapdmaa.PD
end Go.Proofs.Yticpobgkbapdmaa.PD
namespace Go.Proofs.YticpobgkbapdmaaW.PrintLast
end Go.Proofs.YticpobgkbapdmaaW.PrintLast
namespace Go.Proofs.YticpobgkbapdmaaW.PrintMore
end Go.Proofs.YticpobgkbapdmaaW.PrintMore
namespace Go.Proofs.YticpobgkbapdmaaW.PrintWords
end Go.Proofs.YticpobgkbapdmaaW.PrintWords
namespace Go.Proofs.Yticpobgkbapdmaa.DecG
set_option linter.unusedSimpArgs false
set_option linter.unusedVariables false
open Go.RowKit Go.Proofs.Yticpobgkbapdmaa.PD Go.Proofs.YticpobgkbapdmaaW.PrintWords Go.Proofs.YticpobgkbapdmaaW.PrintLast Go.Proofs.YticpobgkbapdmaaW.PrintMore Go.Proofs.Yticpobgkbapdmaa.DecA Go.Proofs.Yticpobgkbapdmaa.DecB Go.Proofs.Yticpobgkbapdmaa.DecC Go.Proofs.Yticpobgkbapdmaa.DecD Go.Proofs.Yticpobgkbapdmaa.DecE Go.Proofs.Yticpobgkbapdmaa.DecF

/-! ### Cmp -/
def cmpS (a b : Int × Int) : Int × Bool :=
  if a.1 = 1 ∨ b.1 = 1 then (0, false) else if (a.1 == b.1 && (a.2 == b.2)) = true then (0, true) else if a.1 = 2 then (1, true) else if b.1 = 3 then (1, true)
  else if a.1 = 0 then (if b.1 = 0 then (if a.2 > b.2 then (1, true) else (-1, true)) else (-1, true)) else (-1, true)
theorem dec_Cmp_f (ta va tb vb : Int) : dec_Cmp.f ta va tb vb = some (cmpS (nrm (ta, va)) (nrm (tb, vb))) := by
  unfold dec_Cmp.f
  rw [dec_right_f, dec_right_f]
  simp only [bs]
  generalize nrm (ta, va) = a at *
  generalize nrm (tb, vb) = b at *
  rw [dec_none_f]
  simp only [bs]
  unfold cmpS
  by_cases h1 : a.1 = 1 ∨ b.1 = 1
  · rw [if_pos (by simpa using h1), if_pos h1]
  · rw [if_neg (by simpa using h1), if_neg h1]
    repeat' split
    all_goals rfl
/-! ### whole numbers -/
/-! ### Floor, Ceil, Round -/
end Go.Proofs.Yticpobgkbapdmaa.DecG
