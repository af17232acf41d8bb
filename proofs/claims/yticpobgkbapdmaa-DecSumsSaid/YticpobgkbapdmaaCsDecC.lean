/- The reference's product and quotient of lists of digits. -/
import Derived.Test.YticpobgkbapdmaaCsDecB
namespace Go.Proofs.Yticpobgkbapdmaa.DecA
end Go.Proofs.Yticpobgkbapdmaa.DecA
namespace Go.Proofs.Yticpobgkbapdmaa.DecB
end Go.Proofs.Yticpobgkbapdmaa.DecB
namespace Go.Proofs.Yticpobgkbapdmaa.PD
end Go.Proofs.Yticpobgkbapdmaa.PD
namespace Go.Proofs.YticpobgkbapdmaaW.PrintLast
end Go.Proofs.YticpobgkbapdmaaW.PrintLast
namespace Go.Proofs.YticpobgkbapdmaaW.PrintMore
end Go.Proofs.YticpobgkbapdmaaW.PrintMore
namespace Go.Proofs.YticpobgkbapdmaaW.PrintWords
end Go.Proofs.YticpobgkbapdmaaW.PrintWords
namespace Go.Proofs.Yticpobgkbapdmaa.DecC
open Go.RowKit Go.Proofs.Yticpobgkbapdmaa.PD Go.Proofs.YticpobgkbapdmaaW.PrintWords Go.Proofs.YticpobgkbapdmaaW.PrintLast Go.Proofs.YticpobgkbapdmaaW.PrintMore Go.Proofs.Yticpobgkbapdmaa.DecA Go.Proofs.Yticpobgkbapdmaa.DecB

/-! ### product -/
/-! ### quotient -/
theorem dg_length_mono {a b : Nat} (h : a ≤ b) : (dg a).length ≤ (dg b).length := by
  apply Decidable.byContradiction
  intro hn
  have := dg_length_lt (a := b) (b := a) (by omega)
  omega
end Go.Proofs.Yticpobgkbapdmaa.DecC
