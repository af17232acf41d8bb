/-
  No cell of these rows narrows 'for every input' (looked for: loops, veiled, ifaces, maps, wideKeys, modest, calm, conditions, laid).
  DERIVED. THE GIVEN ROWS OF THIS SEAT. 9 by the template 'for every input the law returns true; each argument reads behind the call as it read before'; 0 by the template 'total and deterministic' (their statements: YticpobgkbapdmaaTotals.lean).
  GIVEN WITH THE SEED: the statements are not yours to turn. If you find one false, say at which input.
  Laid BY PROGRAM, IN A SANDBOX (cutbox-rows.mjs): the forced cells as the released guide's own fill.sh prints them over the translation 33e68d15df11d853… (all of the seat's roots in one cut). By AI agents, Wed Nov 11 2026. No macro, syntax, notation, axiom, sorry.
-/
import Derived.Test.YticpobgkbapdmaaChecked
import GoSem.Claim
import GoSem.ClaimJoined
import GoSem.ClaimMapViews
import Derived.JoinedTies
import Derived.KernelRfl
namespace Go.Proofs.Yticpobgkbapdmaa
/- THE CELL 'sum', in the pinned program and in every row, IS THE sha256 OF THE DUMP (.gsa) THAT YticpobgkbapdmaaProg.lean LOADS. Nothing in Lean hashes anything: it is a label: what it is worth is what the hold of that sum in a sandbox is worth. -/
noncomputable def Try.pinned : Pinned := { name := "yticpobgkbapdmaa", sum := "33e68d15df11d85367d2739edde8ab5f0f806c6d11c9f7ed7a28a2062c583e54", checked := Try.checked }
namespace Rows
def none {H : Type} : Left H := { results := [], args := [] }

/-- 'breviarylaw03.DecProducts': WHATEVER THE INPUT: true; the input reads as it did. -/
def decProductsSpec : ChangeSpec := { name := "decProducts", fn := fun _ => fun
  | [d1, d2] => { results := [.lit (.bool true)], args := [d1, d2] }
  | _ => none }
def decProductsRow : OpenClaim := { program := "yticpobgkbapdmaa", sum := "33e68d15df11d85367d2739edde8ab5f0f806c6d11c9f7ed7a28a2062c583e54", func := "breviary/breviarylaw03.DecProducts", spec := "decProducts", named := ["math/bits.divideError", "math/bits.overflowError"], apart := false }
def DecProductsSaid : Prop := decProductsRow.holds Try.pinned (OpenSpec.ofChange decProductsSpec)

/-- ITS FALSE NEIGHBOUR: 'it returns false'. Refute it at one input. -/
def decProductsWrong : ChangeSpec := { name := "decProducts", fn := fun _ => fun
  | [d1, d2] => { results := [.lit (.bool false)], args := [d1, d2] }
  | _ => none }
def DecProductsWrongFalsely : Prop := decProductsRow.holds Try.pinned (OpenSpec.ofChange decProductsWrong)

/-- 'breviarylaw03.DecCompares': WHATEVER THE INPUT: true; the input reads as it did. -/
def decComparesSpec : ChangeSpec := { name := "decCompares", fn := fun _ => fun
  | [d1, d2] => { results := [.lit (.bool true)], args := [d1, d2] }
  | _ => none }
def decComparesRow : OpenClaim := { program := "yticpobgkbapdmaa", sum := "33e68d15df11d85367d2739edde8ab5f0f806c6d11c9f7ed7a28a2062c583e54", func := "breviary/breviarylaw03.DecCompares", spec := "decCompares", named := ["math/bits.divideError", "math/bits.overflowError"], apart := false }
def DecComparesSaid : Prop := decComparesRow.holds Try.pinned (OpenSpec.ofChange decComparesSpec)

/-- ITS FALSE NEIGHBOUR: 'it returns false'. Refute it at one input. -/
def decComparesWrong : ChangeSpec := { name := "decCompares", fn := fun _ => fun
  | [d1, d2] => { results := [.lit (.bool false)], args := [d1, d2] }
  | _ => none }
def DecComparesWrongFalsely : Prop := decComparesRow.holds Try.pinned (OpenSpec.ofChange decComparesWrong)

/-- 'breviarylaw03.DecOrders': WHATEVER THE INPUT: true; the input reads as it did. -/
def decOrdersSpec : ChangeSpec := { name := "decOrders", fn := fun _ => fun
  | [d1, d2, d3] => { results := [.lit (.bool true)], args := [d1, d2, d3] }
  | _ => none }
def decOrdersRow : OpenClaim := { program := "yticpobgkbapdmaa", sum := "33e68d15df11d85367d2739edde8ab5f0f806c6d11c9f7ed7a28a2062c583e54", func := "breviary/breviarylaw03.DecOrders", spec := "decOrders", named := ["math/bits.divideError", "math/bits.overflowError"], apart := false }
def DecOrdersSaid : Prop := decOrdersRow.holds Try.pinned (OpenSpec.ofChange decOrdersSpec)

/-- ITS FALSE NEIGHBOUR: 'it returns false'. Refute it at one input. -/
def decOrdersWrong : ChangeSpec := { name := "decOrders", fn := fun _ => fun
  | [d1, d2, d3] => { results := [.lit (.bool false)], args := [d1, d2, d3] }
  | _ => none }
def DecOrdersWrongFalsely : Prop := decOrdersRow.holds Try.pinned (OpenSpec.ofChange decOrdersWrong)

/-- 'breviarylaw03.DecInts': WHATEVER THE INPUT: true; the input reads as it did. -/
def decIntsSpec : ChangeSpec := { name := "decInts", fn := fun _ => fun
  | [d] => { results := [.lit (.bool true)], args := [d] }
  | _ => none }
def decIntsRow : OpenClaim := { program := "yticpobgkbapdmaa", sum := "33e68d15df11d85367d2739edde8ab5f0f806c6d11c9f7ed7a28a2062c583e54", func := "breviary/breviarylaw03.DecInts", spec := "decInts", named := ["math/bits.divideError", "math/bits.overflowError"], apart := false }
def DecIntsSaid : Prop := decIntsRow.holds Try.pinned (OpenSpec.ofChange decIntsSpec)

/-- ITS FALSE NEIGHBOUR: 'it returns false'. Refute it at one input. -/
def decIntsWrong : ChangeSpec := { name := "decInts", fn := fun _ => fun
  | [d] => { results := [.lit (.bool false)], args := [d] }
  | _ => none }
def DecIntsWrongFalsely : Prop := decIntsRow.holds Try.pinned (OpenSpec.ofChange decIntsWrong)

/-- 'breviarylaw03.DecLeft': WHATEVER THE INPUT: true; the input reads as it did. -/
def decLeftSpec : ChangeSpec := { name := "decLeft", fn := fun _ => fun
  | [d1, d2] => { results := [.lit (.bool true)], args := [d1, d2] }
  | _ => none }
def decLeftRow : OpenClaim := { program := "yticpobgkbapdmaa", sum := "33e68d15df11d85367d2739edde8ab5f0f806c6d11c9f7ed7a28a2062c583e54", func := "breviary/breviarylaw03.DecLeft", spec := "decLeft", named := ["math/bits.divideError", "math/bits.overflowError"], apart := false }
def DecLeftSaid : Prop := decLeftRow.holds Try.pinned (OpenSpec.ofChange decLeftSpec)

/-- ITS FALSE NEIGHBOUR: 'it returns false'. Refute it at one input. -/
def decLeftWrong : ChangeSpec := { name := "decLeft", fn := fun _ => fun
  | [d1, d2] => { results := [.lit (.bool false)], args := [d1, d2] }
  | _ => none }
def DecLeftWrongFalsely : Prop := decLeftRow.holds Try.pinned (OpenSpec.ofChange decLeftWrong)

/-- 'breviarylaw03.DecSums': WHATEVER THE INPUT: true; the input reads as it did. -/
def decSumsSpec : ChangeSpec := { name := "decSums", fn := fun _ => fun
  | [d1, d2] => { results := [.lit (.bool true)], args := [d1, d2] }
  | _ => none }
def decSumsRow : OpenClaim := { program := "yticpobgkbapdmaa", sum := "33e68d15df11d85367d2739edde8ab5f0f806c6d11c9f7ed7a28a2062c583e54", func := "breviary/breviarylaw03.DecSums", spec := "decSums", inPlace := ["math/bits.Add64"], named := ["math/bits.divideError", "math/bits.overflowError"], apart := false }
def DecSumsSaid : Prop := decSumsRow.holds Try.pinned (OpenSpec.ofChange decSumsSpec)

/-- ITS FALSE NEIGHBOUR: 'it returns false'. Refute it at one input. -/
def decSumsWrong : ChangeSpec := { name := "decSums", fn := fun _ => fun
  | [d1, d2] => { results := [.lit (.bool false)], args := [d1, d2] }
  | _ => none }
def DecSumsWrongFalsely : Prop := decSumsRow.holds Try.pinned (OpenSpec.ofChange decSumsWrong)

/-- 'breviarylaw03.DecOrder': WHATEVER THE INPUT: true; the input reads as it did. -/
def decOrderSpec : ChangeSpec := { name := "decOrder", fn := fun _ => fun
  | [d1, d2] => { results := [.lit (.bool true)], args := [d1, d2] }
  | _ => none }
def decOrderRow : OpenClaim := { program := "yticpobgkbapdmaa", sum := "33e68d15df11d85367d2739edde8ab5f0f806c6d11c9f7ed7a28a2062c583e54", func := "breviary/breviarylaw03.DecOrder", spec := "decOrder", inPlace := ["math/bits.Add64"], named := ["math/bits.divideError", "math/bits.overflowError"], apart := false }
def DecOrderSaid : Prop := decOrderRow.holds Try.pinned (OpenSpec.ofChange decOrderSpec)

/-- ITS FALSE NEIGHBOUR: 'it returns false'. Refute it at one input. -/
def decOrderWrong : ChangeSpec := { name := "decOrder", fn := fun _ => fun
  | [d1, d2] => { results := [.lit (.bool false)], args := [d1, d2] }
  | _ => none }
def DecOrderWrongFalsely : Prop := decOrderRow.holds Try.pinned (OpenSpec.ofChange decOrderWrong)

/-- 'breviarylaw03.DecRounds': WHATEVER THE INPUT: true; the input reads as it did. -/
def decRoundsSpec : ChangeSpec := { name := "decRounds", fn := fun _ => fun
  | [d] => { results := [.lit (.bool true)], args := [d] }
  | _ => none }
def decRoundsRow : OpenClaim := { program := "yticpobgkbapdmaa", sum := "33e68d15df11d85367d2739edde8ab5f0f806c6d11c9f7ed7a28a2062c583e54", func := "breviary/breviarylaw03.DecRounds", spec := "decRounds", named := ["math/bits.divideError", "math/bits.overflowError"], apart := false }
def DecRoundsSaid : Prop := decRoundsRow.holds Try.pinned (OpenSpec.ofChange decRoundsSpec)

/-- ITS FALSE NEIGHBOUR: 'it returns false'. Refute it at one input. -/
def decRoundsWrong : ChangeSpec := { name := "decRounds", fn := fun _ => fun
  | [d] => { results := [.lit (.bool false)], args := [d] }
  | _ => none }
def DecRoundsWrongFalsely : Prop := decRoundsRow.holds Try.pinned (OpenSpec.ofChange decRoundsWrong)

/-- 'breviarylaw03.DecShifts': WHATEVER THE INPUT: true; the input reads as it did. -/
def decShiftsSpec : ChangeSpec := { name := "decShifts", fn := fun _ => fun
  | [d1, d2] => { results := [.lit (.bool true)], args := [d1, d2] }
  | _ => none }
def decShiftsRow : OpenClaim := { program := "yticpobgkbapdmaa", sum := "33e68d15df11d85367d2739edde8ab5f0f806c6d11c9f7ed7a28a2062c583e54", func := "breviary/breviarylaw03.DecShifts", spec := "decShifts", inPlace := ["math/bits.Add64"], named := ["math/bits.divideError", "math/bits.overflowError"], apart := false }
def DecShiftsSaid : Prop := decShiftsRow.holds Try.pinned (OpenSpec.ofChange decShiftsSpec)

/-- ITS FALSE NEIGHBOUR: 'it returns false'. Refute it at one input. -/
def decShiftsWrong : ChangeSpec := { name := "decShifts", fn := fun _ => fun
  | [d1, d2] => { results := [.lit (.bool false)], args := [d1, d2] }
  | _ => none }
def DecShiftsWrongFalsely : Prop := decShiftsRow.holds Try.pinned (OpenSpec.ofChange decShiftsWrong)

/- THE SECOND FORM. 'bulk': how many values and letters a reading holds, each counted each time it is reached (what is shared counts as often as it is met; a slice's spare places count too). A statement '..UptoSaid' is the law's where the arguments, and the package variables that the reading takes, are together of bulk at most 1048576: NARROWER than '..Said'. Prove '..Said' where nothing that the law and all that it calls make is longer than what came in: it says more and counts as full. Else prove '..UptoSaid'. A law counts once. -/
mutual
def uptoBulk {H : Type} : DataW H → Nat
  | .lit (.string bytes) => bytes.length + 1
  | .lit _ => 1
  | .nil => 1
  | .ptr d => uptoBulk d + 1
  | .slice elems spare => uptoBulkAll elems + uptoBulkAll spare + 1
  | .agg parts => uptoBulkAll parts + 1
  | .iface _ d => uptoBulk d + 1
  | .map entries => uptoBulkEntries entries + 1
  | .held _ => 1
def uptoBulkAll {H : Type} : List (DataW H) → Nat
  | [] => 0
  | d :: r => uptoBulk d + uptoBulkAll r
def uptoBulkEntries {H : Type} : List (Lit × DataW H) → Nat
  | [] => 0
  | x :: r => uptoBulkEntry x + uptoBulkEntries r
def uptoBulkEntry {H : Type} : Lit × DataW H → Nat
  | (.string bytes, d) => bytes.length + uptoBulk d + 1
  | (_, d) => uptoBulk d + 1
 end
def uptoSmall : (H : Type) → List (DataW H) → Bool := fun _ ds => decide (uptoBulkAll ds ≤ 1048576)
def OpenSpec.upto (s : _root_.Go.ChangeSpec) : _root_.Go.OpenSpec := { _root_.Go.OpenSpec.ofChange s with cond := some uptoSmall }

/-- 'breviarylaw03.DecProducts', WHERE WHAT IT READS IS OF BULK AT MOST 1048576: true; the input reads as it did. -/
def decProductsUptoRow : OpenClaim := { program := "yticpobgkbapdmaa", sum := "33e68d15df11d85367d2739edde8ab5f0f806c6d11c9f7ed7a28a2062c583e54", func := "breviary/breviarylaw03.DecProducts", spec := "decProducts", named := ["math/bits.divideError", "math/bits.overflowError"], apart := false, narrowed := true }
def DecProductsUptoSaid : Prop := decProductsUptoRow.holds Try.pinned (OpenSpec.upto decProductsSpec)

/-- 'breviarylaw03.DecCompares', WHERE WHAT IT READS IS OF BULK AT MOST 1048576: true; the input reads as it did. -/
def decComparesUptoRow : OpenClaim := { program := "yticpobgkbapdmaa", sum := "33e68d15df11d85367d2739edde8ab5f0f806c6d11c9f7ed7a28a2062c583e54", func := "breviary/breviarylaw03.DecCompares", spec := "decCompares", named := ["math/bits.divideError", "math/bits.overflowError"], apart := false, narrowed := true }
def DecComparesUptoSaid : Prop := decComparesUptoRow.holds Try.pinned (OpenSpec.upto decComparesSpec)

/-- 'breviarylaw03.DecOrders', WHERE WHAT IT READS IS OF BULK AT MOST 1048576: true; the input reads as it did. -/
def decOrdersUptoRow : OpenClaim := { program := "yticpobgkbapdmaa", sum := "33e68d15df11d85367d2739edde8ab5f0f806c6d11c9f7ed7a28a2062c583e54", func := "breviary/breviarylaw03.DecOrders", spec := "decOrders", named := ["math/bits.divideError", "math/bits.overflowError"], apart := false, narrowed := true }
def DecOrdersUptoSaid : Prop := decOrdersUptoRow.holds Try.pinned (OpenSpec.upto decOrdersSpec)

/-- 'breviarylaw03.DecInts', WHERE WHAT IT READS IS OF BULK AT MOST 1048576: true; the input reads as it did. -/
def decIntsUptoRow : OpenClaim := { program := "yticpobgkbapdmaa", sum := "33e68d15df11d85367d2739edde8ab5f0f806c6d11c9f7ed7a28a2062c583e54", func := "breviary/breviarylaw03.DecInts", spec := "decInts", named := ["math/bits.divideError", "math/bits.overflowError"], apart := false, narrowed := true }
def DecIntsUptoSaid : Prop := decIntsUptoRow.holds Try.pinned (OpenSpec.upto decIntsSpec)

/-- 'breviarylaw03.DecLeft', WHERE WHAT IT READS IS OF BULK AT MOST 1048576: true; the input reads as it did. -/
def decLeftUptoRow : OpenClaim := { program := "yticpobgkbapdmaa", sum := "33e68d15df11d85367d2739edde8ab5f0f806c6d11c9f7ed7a28a2062c583e54", func := "breviary/breviarylaw03.DecLeft", spec := "decLeft", named := ["math/bits.divideError", "math/bits.overflowError"], apart := false, narrowed := true }
def DecLeftUptoSaid : Prop := decLeftUptoRow.holds Try.pinned (OpenSpec.upto decLeftSpec)

/-- 'breviarylaw03.DecSums', WHERE WHAT IT READS IS OF BULK AT MOST 1048576: true; the input reads as it did. -/
def decSumsUptoRow : OpenClaim := { program := "yticpobgkbapdmaa", sum := "33e68d15df11d85367d2739edde8ab5f0f806c6d11c9f7ed7a28a2062c583e54", func := "breviary/breviarylaw03.DecSums", spec := "decSums", inPlace := ["math/bits.Add64"], named := ["math/bits.divideError", "math/bits.overflowError"], apart := false, narrowed := true }
def DecSumsUptoSaid : Prop := decSumsUptoRow.holds Try.pinned (OpenSpec.upto decSumsSpec)

/-- 'breviarylaw03.DecOrder', WHERE WHAT IT READS IS OF BULK AT MOST 1048576: true; the input reads as it did. -/
def decOrderUptoRow : OpenClaim := { program := "yticpobgkbapdmaa", sum := "33e68d15df11d85367d2739edde8ab5f0f806c6d11c9f7ed7a28a2062c583e54", func := "breviary/breviarylaw03.DecOrder", spec := "decOrder", inPlace := ["math/bits.Add64"], named := ["math/bits.divideError", "math/bits.overflowError"], apart := false, narrowed := true }
def DecOrderUptoSaid : Prop := decOrderUptoRow.holds Try.pinned (OpenSpec.upto decOrderSpec)

/-- 'breviarylaw03.DecRounds', WHERE WHAT IT READS IS OF BULK AT MOST 1048576: true; the input reads as it did. -/
def decRoundsUptoRow : OpenClaim := { program := "yticpobgkbapdmaa", sum := "33e68d15df11d85367d2739edde8ab5f0f806c6d11c9f7ed7a28a2062c583e54", func := "breviary/breviarylaw03.DecRounds", spec := "decRounds", named := ["math/bits.divideError", "math/bits.overflowError"], apart := false, narrowed := true }
def DecRoundsUptoSaid : Prop := decRoundsUptoRow.holds Try.pinned (OpenSpec.upto decRoundsSpec)

/-- 'breviarylaw03.DecShifts', WHERE WHAT IT READS IS OF BULK AT MOST 1048576: true; the input reads as it did. -/
def decShiftsUptoRow : OpenClaim := { program := "yticpobgkbapdmaa", sum := "33e68d15df11d85367d2739edde8ab5f0f806c6d11c9f7ed7a28a2062c583e54", func := "breviary/breviarylaw03.DecShifts", spec := "decShifts", inPlace := ["math/bits.Add64"], named := ["math/bits.divideError", "math/bits.overflowError"], apart := false, narrowed := true }
def DecShiftsUptoSaid : Prop := decShiftsUptoRow.holds Try.pinned (OpenSpec.upto decShiftsSpec)

end Rows
end Go.Proofs.Yticpobgkbapdmaa
