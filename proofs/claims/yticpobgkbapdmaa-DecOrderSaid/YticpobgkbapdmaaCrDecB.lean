/- The reference's functions over lists of digits come to the numbers' own sums, differences, products and quotients. -/
import Derived.Test.YticpobgkbapdmaaCrDecA
namespace Go.Proofs.Yticpobgkbapdmaa.DecA
end Go.Proofs.Yticpobgkbapdmaa.DecA
namespace Go.Proofs.Yticpobgkbapdmaa.PD
end Go.Proofs.Yticpobgkbapdmaa.PD
namespace Go.Proofs.YticpobgkbapdmaaW.PrintLast
end Go.Proofs.YticpobgkbapdmaaW.PrintLast
namespace Go.Proofs.YticpobgkbapdmaaW.PrintMore
end Go.Proofs.YticpobgkbapdmaaW.PrintMore
namespace Go.Proofs.YticpobgkbapdmaaW.PrintWords
end Go.Proofs.YticpobgkbapdmaaW.PrintWords
namespace Go.Proofs.Yticpobgkbapdmaa.DecB
open Go.RowKit Go.Proofs.Yticpobgkbapdmaa.PD Go.Proofs.YticpobgkbapdmaaW.PrintWords Go.Proofs.YticpobgkbapdmaaW.PrintLast Go.Proofs.YticpobgkbapdmaaW.PrintMore Go.Proofs.Yticpobgkbapdmaa.DecA

theorem succ_of {k n : Nat} (h : n < k) : ∃ m, k = m + 1 ∧ n ≤ m := ⟨k - 1, by omega, by omega⟩

/-! ### trim -/
/-! ### least -/
/-! ### a digit; 0 above the last one -/
/-! ### plus -/
/-! ### minus: what is taken off is not above -/
/-! ### Digits, unit -/
/-! ### Made -/
end Go.Proofs.Yticpobgkbapdmaa.DecB
