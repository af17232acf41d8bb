/- Plain laws of char: the document's answer against the package's. No program in sight. -/
import Derived.Test.YticpobgkbapdmaaDoorKwCharB
import Derived.Lib.TrimUEq
import Derived.Lib.ValidLaws
namespace Go.Proofs.YticpobgkbapdmaaDoor.CharA
end Go.Proofs.YticpobgkbapdmaaDoor.CharA
namespace Go.Proofs.YticpobgkbapdmaaDoor.CharB
end Go.Proofs.YticpobgkbapdmaaDoor.CharB
namespace Go.Proofs.YticpobgkbapdmaaDoor.PR1
end Go.Proofs.YticpobgkbapdmaaDoor.PR1
namespace Go.Proofs.YticpobgkbapdmaaDoorW.PrintLast
end Go.Proofs.YticpobgkbapdmaaDoorW.PrintLast
namespace Go.Proofs.YticpobgkbapdmaaDoorW.PrintMore
end Go.Proofs.YticpobgkbapdmaaDoorW.PrintMore
namespace Go.Proofs.YticpobgkbapdmaaDoorW.PrintWords
end Go.Proofs.YticpobgkbapdmaaDoorW.PrintWords
namespace Go.Proofs.YticpobgkbapdmaaDoor.CharC
open Go.RowKit Go.Proofs.YticpobgkbapdmaaDoorW.PrintWords Go.Proofs.YticpobgkbapdmaaDoorW.PrintLast Go.Proofs.YticpobgkbapdmaaDoorW.PrintMore Go.Proofs.YticpobgkbapdmaaDoor.CharA Go.Proofs.YticpobgkbapdmaaDoor.CharB Go.Proofs.YticpobgkbapdmaaDoor.PR1
set_option linter.unusedVariables false
set_option linter.unusedSimpArgs false
/-- Within some pair. -/
theorem within_iff (a : Int) : ∀ L, char_within.f a L = true ↔ ∃ x ∈ L, x.1 ≤ a ∧ a ≤ x.2
  | [] => by simp [char_within.f]
  | (p, q) :: l => by
    simp only [char_within.f, List.mem_cons, exists_eq_or_imp]
    rw [← within_iff a l]
    by_cases h1 : a ≥ p
    · by_cases h2 : a ≤ q
      · simp [h1, h2]
      · simp [h1, h2]
    · simp [h1]
def rStart : List (Int × Int) := [(65, 90), (95, 95), (97, 122), (192, 214), (216, 246), (248, 767), (880, 893), (895, 8191), (8204, 8205), (8304, 8591), (11264, 12271), (12289, 55295), (63744, 64975), (65008, 65533), (65536, 983039)]
theorem start_eq (a : Int) : char_within.f a rStart = startB a := by
  rw [Bool.eq_iff_iff]
  unfold startB
  split
  · rename_i h
    rw [within_iff]
    simp only [rStart, List.mem_cons, List.not_mem_nil, or_false, exists_eq_or_imp, exists_eq_left]
    simp
    omega
  · rename_i h
    rw [within_iff, within_iff]
    simp only [rStart, startL, List.mem_cons, List.not_mem_nil, or_false, exists_eq_or_imp, exists_eq_left]
    omega
theorem part_is (a : Int) (h : partB a = true) : isB a = true := by
  unfold partB at h
  rw [← start_eq, Bool.or_eq_true, within_iff, within_iff] at h
  unfold isB
  rw [within_iff]
  simp only [rStart, partL, isL, List.mem_cons, List.not_mem_nil, or_false, exists_eq_or_imp, exists_eq_left] at h ⊢
  omega
/-! ### One -/
end Go.Proofs.YticpobgkbapdmaaDoor.CharC
