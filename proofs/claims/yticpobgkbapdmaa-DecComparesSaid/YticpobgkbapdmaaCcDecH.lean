/- The nine laws of the layer dec, as plain statements: what the program's function answers is what the document says. -/
import Derived.Test.YticpobgkbapdmaaCcDecG
namespace Go.Proofs.Yticpobgkbapdmaa.DecA
end Go.Proofs.Yticpobgkbapdmaa.DecA
namespace Go.Proofs.Yticpobgkbapdmaa.DecB
end Go.Proofs.Yticpobgkbapdmaa.DecB
namespace Go.Proofs.Yticpobgkbapdmaa.DecC
end Go.Proofs.Yticpobgkbapdmaa.DecC
namespace Go.Proofs.Yticpobgkbapdmaa.DecD
end Go.Proofs.Yticpobgkbapdmaa.DecD
namespace Go.Proofs.Yticpobgkbapdmaa.DecE
end Go.Proofs.Yticpobgkbapdmaa.DecE
namespace Go.Proofs.Yticpobgkbapdmaa.DecF
end Go.Proofs.Yticpobgkbapdmaa.DecF
namespace Go.Proofs.Yticpobgkbapdmaa.DecG
end Go.Proofs.Yticpobgkbapdmaa.DecG
namespace Go.Proofs.Yticpobgkbapdmaa.PD
end Go.Proofs.Yticpobgkbapdmaa.PD
namespace Go.Proofs.YticpobgkbapdmaaW.PrintLast
end Go.Proofs.YticpobgkbapdmaaW.PrintLast
namespace Go.Proofs.YticpobgkbapdmaaW.PrintMore
end Go.Proofs.YticpobgkbapdmaaW.PrintMore
namespace Go.Proofs.YticpobgkbapdmaaW.PrintWords
end Go.Proofs.YticpobgkbapdmaaW.PrintWords
namespace Go.Proofs.Yticpobgkbapdmaa.DecH
set_option linter.unusedSimpArgs false
set_option linter.unusedVariables false
open Go.RowKit Go.Proofs.Yticpobgkbapdmaa.PD Go.Proofs.YticpobgkbapdmaaW.PrintWords Go.Proofs.YticpobgkbapdmaaW.PrintLast Go.Proofs.YticpobgkbapdmaaW.PrintMore Go.Proofs.Yticpobgkbapdmaa.DecA Go.Proofs.Yticpobgkbapdmaa.DecB Go.Proofs.Yticpobgkbapdmaa.DecC Go.Proofs.Yticpobgkbapdmaa.DecD Go.Proofs.Yticpobgkbapdmaa.DecE Go.Proofs.Yticpobgkbapdmaa.DecF Go.Proofs.Yticpobgkbapdmaa.DecG

theorem works_f {k : Nat} (hk : 100 < k) : breviarylaw03_works.f k = some true := by
  unfold breviarylaw03_works.f
  rw [dec_Mul_f (by omega) (by unfold I64; omega) (by unfold I64; omega)]
  rw [show mulS (nrm (0, 1500000)) (nrm (0, 1500000)) = (0, 2250000) by decide]
  simp only [bs]
  rw [if_pos (by decide), dec_Div_f (by omega) (by unfold I64; omega) (by unfold I64; omega)]
  rw [show divS (nrm (0, 1000000)) (nrm (0, 3000000)) = (0, 333333) by decide]
  rfl

theorem DecCompares {ta va tb vb : Int} (ha : I64 va) (hb : I64 vb) : breviarylaw03_DecCompares.f 9000 ta va tb vb = some true := by
  unfold breviarylaw03_DecCompares.f
  rw [dec_Cmp_f, ref_Cmp_f ha hb]
  simp only [bs]
  rw [if_pos trivial, if_pos (by simp), works_f (by omega)]
  rfl

/-! ### orders -/
/-! ### sums and products do not ask for order -/
/-! ### what is left -/
/-! ### shifts -/
end Go.Proofs.Yticpobgkbapdmaa.DecH
