/- The reference's lists of decimal digits, as plain Lean: each of its functions (trim, least, plus, minus, product, quotient, Digits, Made) comes to what it says of the numbers. No program in sight but the printed functions. -/
import Derived.Test.YthilcidoacgdfaaGreatDoorProg
import Derived.Below
import Derived.Deep.Draws
import Derived.Deep.AppendLies
import Derived.Maps.AppendAt
import Derived.OwnWalk
import Derived.Laws.BytesArg
import Derived.Laws.MakeOwn
import Derived.Laws.OwnMore
import Derived.Deep.OwnRows
import Derived.Tactics
import Derived.Lib.ConvBytes
import Derived.Laws.Slices
import Derived.WalkKit
import Derived.KernelRfl
import Derived.RowKit3
import Derived.Deep.LoopGhost
import Derived.Deep.QuietTactic
import Derived.BigQuiet
import Derived.WideLaws
import Derived.Deep.DeepCutAuto
import Derived.Deep.CutBlock
import Derived.Deep.RegionHeld3
import Derived.Laws.Rows
import Derived.Lib.AppendStr
import Derived.ArgAppend
import Derived.Laws.IdiomCopy
import Derived.OrdersHeld
import Derived.Laws.BitsLemmas
import Derived.RowKit
import Derived.Test.YthilcidoacgdfaaGreatDoorZvMine
import Derived.Test.YthilcidoacgdfaaGreatDoorZvShelf
import Derived.RegionTactic
import Derived.ChangeAlike
import Derived.BigRegion
import Derived.Great.BuildSlice
import Derived.Deep.WholeRow
import Derived.Test.YthilcidoacgdfaaGreatDoorZvWWords
import Derived.Test.YthilcidoacgdfaaGreatDoorZvWLast
import Derived.Test.YthilcidoacgdfaaGreatDoorZvWTab
import Derived.Test.YthilcidoacgdfaaGreatDoorZvWApart
import Derived.Test.YthilcidoacgdfaaGreatDoorZvWShare
import Derived.Test.YthilcidoacgdfaaGreatDoorZvWN
import Derived.Laws.StructEq
import Derived.Test.YthilcidoacgdfaaGreatDoorZvWMore
import Derived.Test.YthilcidoacgdfaaGreatDoorZvPFx3
import Derived.Test.YthilcidoacgdfaaGreatDoorZvPFx11
import Derived.Test.YthilcidoacgdfaaGreatDoorZvPFx12
import Derived.Test.YthilcidoacgdfaaGreatDoorZvPFx13
import Derived.Test.YthilcidoacgdfaaGreatDoorZvPFx14
import Derived.Test.YthilcidoacgdfaaGreatDoorZvPFx15
import Derived.Test.YthilcidoacgdfaaGreatDoorZvPFx16
namespace Go.Proofs.YthilcidoacgdfaaGreatDoor.PF
end Go.Proofs.YthilcidoacgdfaaGreatDoor.PF
namespace Go.Proofs.YthilcidoacgdfaaGreatDoorW.PrintLast
end Go.Proofs.YthilcidoacgdfaaGreatDoorW.PrintLast
namespace Go.Proofs.YthilcidoacgdfaaGreatDoorW.PrintMore
end Go.Proofs.YthilcidoacgdfaaGreatDoorW.PrintMore
namespace Go.Proofs.YthilcidoacgdfaaGreatDoorW.PrintWords
end Go.Proofs.YthilcidoacgdfaaGreatDoorW.PrintWords
namespace Go.Proofs.YthilcidoacgdfaaGreatDoor.DecA
open Go.RowKit Go.Proofs.YthilcidoacgdfaaGreatDoor.PF Go.Proofs.YthilcidoacgdfaaGreatDoorW.PrintWords Go.Proofs.YthilcidoacgdfaaGreatDoorW.PrintLast Go.Proofs.YthilcidoacgdfaaGreatDoorW.PrintMore

/-! ### lists of digits, the last one first -/
def val : List Int → Int
  | [] => 0
  | d :: l => d + 10 * val l
def Dig (l : List Int) : Prop := ∀ d ∈ l, 0 ≤ d ∧ d ≤ 9
def dg : Nat → List Int
  | 0 => []
  | n + 1 => (((n + 1) % 10 : Nat) : Int) :: dg ((n + 1) / 10)
termination_by n => n
decreasing_by omega

theorem dg_zero : dg 0 = [] := by unfold dg; rfl
theorem dg_pos (n : Nat) (h : n ≠ 0) : dg n = ((n % 10 : Nat) : Int) :: dg (n / 10) := by
  obtain ⟨m, rfl⟩ : ∃ m, n = m + 1 := ⟨n - 1, by omega⟩
  rw [dg]
theorem dg_dig (n : Nat) : Dig (dg n) := by
  induction n using Nat.strongRecOn with
  | _ n ih =>
    by_cases h : n = 0
    · subst h; rw [dg_zero]; intro d hd; cases hd
    · rw [dg_pos n h]
      intro d hd
      rcases List.mem_cons.1 hd with rfl | hd
      · omega
      · exact ih (n / 10) (by omega) d hd
theorem val_dg (n : Nat) : val (dg n) = n := by
  induction n using Nat.strongRecOn with
  | _ n ih =>
    by_cases h : n = 0
    · subst h; rw [dg_zero]; rfl
    · rw [dg_pos n h, val, ih (n / 10) (by omega)]; omega
theorem val_append : ∀ a b, val (a ++ b) = val a + 10 ^ a.length * val b
  | [], b => by simp [val]
  | d :: a, b => by
    have h := val_append a b
    simp only [List.cons_append, val, h, List.length_cons, Int.pow_succ]
    grind
theorem dig_append {a b : List Int} (ha : Dig a) (hb : Dig b) : Dig (a ++ b) := fun d hd => (List.mem_append.1 hd).elim (ha d) (hb d)
theorem dig_replicate (n : Nat) : Dig (List.replicate n 0) := fun d hd => by simp at hd; omega
theorem val_replicate : ∀ n, val (List.replicate n 0) = 0
  | 0 => rfl
  | n + 1 => by simp [List.replicate_succ, val, val_replicate n]

theorem dg_le_length : ∀ (m n : Nat), n < 10 ^ m → (dg n).length ≤ m
  | 0, n, h => by
    have : n = 0 := by simpa using h
    subst this; rw [dg_zero]; simp
  | m + 1, n, h => by
    by_cases h0 : n = 0
    · subst h0; rw [dg_zero]; simp
    · rw [dg_pos n h0, List.length_cons]
      have := dg_le_length m (n / 10) (by rw [Nat.pow_succ] at h; omega)
      omega
/-! ### a whole number in its bounds -/
theorem w64 {x : Int} (h : -9223372036854775808 ≤ x) (h' : x ≤ 9223372036854775807) : wrap64 x = x := by unfold wrap64; omega
theorem u64 {x : Int} (h : 0 ≤ x) (h' : x ≤ 18446744073709551615) : IntKind.u64.wrap x = x := by
  simp [IntKind.wrap, IntKind.signed, IntKind.bits] <;> omega
end Go.Proofs.YthilcidoacgdfaaGreatDoor.DecA
