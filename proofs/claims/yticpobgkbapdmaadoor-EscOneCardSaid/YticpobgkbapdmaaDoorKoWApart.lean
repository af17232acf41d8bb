/- What the proof of this claim uses of WApart: 1 declarations. -/
import Derived.Test.YticpobgkbapdmaaDoorKoWWords
import Derived.Test.YticpobgkbapdmaaDoorKoWLast
/-! ### 40. Elements whose inner rows lie apart: what is stored into one says nothing of the others.
   S: as R, with an owner function f (block to element's index). H: as S with a hole: of element i its cells alone are told, its blocks are oki. -/
namespace Go.Proofs.YticpobgkbapdmaaDoorW.PrintWords
open Go.RowKit
namespace Kd
/-- The cells themselves. -/
def raw (sz : Nat) : Kd (List Value) where
  sz := sz
  E := []
  K := fun _ x cs => cs = x ∧ cs.length = sz ∧ ∀ u ∈ cs, u.oneCell' = true
  M := fun _ _ _ x cs => cs = x ∧ cs.length = sz ∧ ∀ u ∈ cs, u.oneCell' = true
  K_len := fun h => h.2.1
  K_one := fun h => h.2.2
  K_below := fun _ h => h
  K_of_M := fun h => h
  M_mono := fun _ h => h
  M_bound := fun h => h
  M_move := fun _ h => h
  M_lower := fun _ h => h
/-! #### append, make, literals: the new element's blocks are none of the elder ones' -/
/-! #### a row with a hole: element i is lent, its blocks are oki; of it the row says its cells alone -/
end Kd
end Go.Proofs.YticpobgkbapdmaaDoorW.PrintWords
