/- Comparisons, roundings, whole numbers: closed forms of the program's and of the reference's functions; and the nine laws as plain statements. -/
import Derived.Test.YthilcidoacgdfaaGreatDoorZcDecF
import Derived.Test.YthilcidoacgdfaaGreatDoorZcDecB
namespace Go.Proofs.YthilcidoacgdfaaGreatDoor.DecA
end Go.Proofs.YthilcidoacgdfaaGreatDoor.DecA
namespace Go.Proofs.YthilcidoacgdfaaGreatDoor.DecB
end Go.Proofs.YthilcidoacgdfaaGreatDoor.DecB
namespace Go.Proofs.YthilcidoacgdfaaGreatDoor.DecC
end Go.Proofs.YthilcidoacgdfaaGreatDoor.DecC
namespace Go.Proofs.YthilcidoacgdfaaGreatDoor.DecD
end Go.Proofs.YthilcidoacgdfaaGreatDoor.DecD
namespace Go.Proofs.YthilcidoacgdfaaGreatDoor.DecE
end Go.Proofs.YthilcidoacgdfaaGreatDoor.DecE
namespace Go.Proofs.YthilcidoacgdfaaGreatDoor.DecF
end Go.Proofs.YthilcidoacgdfaaGreatDoor.DecF
namespace Go.Proofs.YthilcidoacgdfaaGreatDoor.PF
end Go.Proofs.YthilcidoacgdfaaGreatDoor.PF
namespace Go.Proofs.YthilcidoacgdfaaGreatDoorW.PrintLast
end Go.Proofs.YthilcidoacgdfaaGreatDoorW.PrintLast
namespace Go.Proofs.YthilcidoacgdfaaGreatDoorW.PrintMore
end Go.Proofs.YthilcidoacgdfaaGreatDoorW.PrintMore
namespace Go.Proofs.YthilcidoacgdfaaGreatDoorW.PrintWords
end Go.Proofs.YthilcidoacgdfaaGreatDoorW.PrintWords
namespace Go.Proofs.YthilcidoacgdfaaGreatDoor.DecG
set_option linter.unusedSimpArgs false
set_option linter.unusedVariables false
open Go.RowKit Go.Proofs.YthilcidoacgdfaaGreatDoor.PF Go.Proofs.YthilcidoacgdfaaGreatDoorW.PrintWords Go.Proofs.YthilcidoacgdfaaGreatDoorW.PrintLast Go.Proofs.YthilcidoacgdfaaGreatDoorW.PrintMore Go.Proofs.YthilcidoacgdfaaGreatDoor.DecA Go.Proofs.YthilcidoacgdfaaGreatDoor.DecB Go.Proofs.YthilcidoacgdfaaGreatDoor.DecC Go.Proofs.YthilcidoacgdfaaGreatDoor.DecD Go.Proofs.YthilcidoacgdfaaGreatDoor.DecE Go.Proofs.YthilcidoacgdfaaGreatDoor.DecF

/-! ### Cmp -/
def cmpS (a b : Int × Int) : Int × Bool :=
  if a.1 = 1 ∨ b.1 = 1 then (0, false) else if (a.1 == b.1 && (a.2 == b.2)) = true then (0, true) else if a.1 = 2 then (1, true) else if b.1 = 3 then (1, true)
  else if a.1 = 0 then (if b.1 = 0 then (if a.2 > b.2 then (1, true) else (-1, true)) else (-1, true)) else (-1, true)
theorem dec_Cmp_f (ta va tb vb : Int) : dec_Cmp.f ta va tb vb = some (cmpS (nrm (ta, va)) (nrm (tb, vb))) := by
  unfold dec_Cmp.f
  rw [dec_right_f, dec_right_f]
  simp only [bs]
  generalize nrm (ta, va) = a at *
  generalize nrm (tb, vb) = b at *
  rw [dec_none_f]
  simp only [bs]
  unfold cmpS
  by_cases h1 : a.1 = 1 ∨ b.1 = 1
  · rw [if_pos (by simpa using h1), if_pos h1]
  · rw [if_neg (by simpa using h1), if_neg h1]
    repeat' split
    all_goals rfl
/-! ### whole numbers -/
theorem dec_times_f {k : Nat} (hk : 40 < k) {n : Int} (h : -9223372036854775807 ≤ n ∧ n ≤ 9223372036854775807) : dec_times.f k n = some (addN (n * 1000000)) := by
  unfold dec_times.f
  rw [size_f h]
  simp only [bs]
  obtain ⟨x, hx, hx'⟩ := ab_nat h
  obtain ⟨U, hU⟩ : ∃ U : Nat, U = 1000000 := ⟨_, rfl⟩
  have eU : (1000000 : Int) = (U : Int) := by omega
  rw [hx, eU, mul_words hx' (by omega)]
  have hP : (if decide (n < 0) = true then -((x * U : Nat) : Int) else ((x * U : Nat) : Int)) = n * U := by
    unfold ab at hx
    rw [Int.natCast_mul, ← hx]
    by_cases c : n < 0
    · rw [if_pos c, if_pos (decide_eq_true c)]; rw [Int.neg_mul]; omega
    · rw [if_neg c, if_neg (by simpa using c)]
  rw [← mk_is (by omega) hP]
  generalize x * U = P at *
  have e5 : P = P / 18446744073709551616 * 18446744073709551616 + P % 18446744073709551616 := by omega
  have hm : P % 18446744073709551616 < 18446744073709551616 := by omega
  generalize P / 18446744073709551616 = H at *
  generalize P % 18446744073709551616 = M at *
  simp only [bs]
  by_cases c : H = 0
  · have e6 : ((H : Int) != 0) = false := by simp [c]
    have e7 : P = M := by omega
    rw [e6, signed_f (by omega) _ (by omega) (by omega), e7]
    rfl
  · have e6 : ((H : Int) != 0) = true := by simp [c]
    rw [e6, signed_hi (by omega), mk_big (by omega)]
    rfl
theorem addN_low {s : Int} (h : s < -9223372036854775807) : addN s = (3, 0) := by unfold addN; rw [if_neg (by omega), if_pos h]
theorem dec_Int_f {k : Nat} (hk : 40 < k) {n : Int} (h : I64 n) : dec_Int.f k n = some (addN (n * 1000000)) := by
  unfold dec_Int.f
  unfold I64 at h
  by_cases c : n = -9223372036854775808
  · rw [if_pos c, addN_low (by omega)]; rfl
  · rw [if_neg c, dec_times_f hk (by omega)]; rfl
/-! ### Floor, Ceil, Round -/
end Go.Proofs.YthilcidoacgdfaaGreatDoor.DecG
/- Plain laws of span: the characters of a text, and a cut. -/
namespace Go.Proofs.YthilcidoacgdfaaGreatDoor.CharA
end Go.Proofs.YthilcidoacgdfaaGreatDoor.CharA
namespace Go.Proofs.YthilcidoacgdfaaGreatDoor.CharB
end Go.Proofs.YthilcidoacgdfaaGreatDoor.CharB
namespace Go.Proofs.YthilcidoacgdfaaGreatDoor.CharC
end Go.Proofs.YthilcidoacgdfaaGreatDoor.CharC
namespace Go.Proofs.YthilcidoacgdfaaGreatDoor.CharD
end Go.Proofs.YthilcidoacgdfaaGreatDoor.CharD
namespace Go.Proofs.YthilcidoacgdfaaGreatDoor.CharF
end Go.Proofs.YthilcidoacgdfaaGreatDoor.CharF
namespace Go.Proofs.YthilcidoacgdfaaGreatDoor.PF
end Go.Proofs.YthilcidoacgdfaaGreatDoor.PF
namespace Go.Proofs.YthilcidoacgdfaaGreatDoorW.PrintLast
end Go.Proofs.YthilcidoacgdfaaGreatDoorW.PrintLast
namespace Go.Proofs.YthilcidoacgdfaaGreatDoorW.PrintMore
end Go.Proofs.YthilcidoacgdfaaGreatDoorW.PrintMore
namespace Go.Proofs.YthilcidoacgdfaaGreatDoorW.PrintWords
end Go.Proofs.YthilcidoacgdfaaGreatDoorW.PrintWords
namespace Go.Proofs.YthilcidoacgdfaaGreatDoor.SpanA
open Go.RowKit Go.Proofs.YthilcidoacgdfaaGreatDoorW.PrintWords Go.Proofs.YthilcidoacgdfaaGreatDoorW.PrintLast Go.Proofs.YthilcidoacgdfaaGreatDoorW.PrintMore Go.Proofs.YthilcidoacgdfaaGreatDoor.CharA Go.Proofs.YthilcidoacgdfaaGreatDoor.CharB Go.Proofs.YthilcidoacgdfaaGreatDoor.CharC Go.Proofs.YthilcidoacgdfaaGreatDoor.CharD Go.Proofs.YthilcidoacgdfaaGreatDoor.CharF Go.Proofs.YthilcidoacgdfaaGreatDoor.PF
set_option linter.unusedVariables false
set_option linter.unusedSimpArgs false
set_option linter.unnecessarySimpa false
/-- A string of bytes. -/
def ba (l : List UInt8) : ByteArray := ⟨l.toArray⟩
theorem ba_list (l : List UInt8) : (ba l).data.toList = l := rfl
theorem ba_data (s : ByteArray) : ba s.data.toList = s := rfl
theorem ba_size (l : List UInt8) : (ba l).size = l.length := by show l.toArray.size = _; simp
theorem ext_list {a b : ByteArray} (h : a.data.toList = b.data.toList) : a = b := by rw [← ba_data a, ← ba_data b, h]
theorem ba_app (a b : List UInt8) : ba a ++ ba b = ba (a ++ b) := ext_list (by rw [app_list]; rfl)
theorem extract_list (s : ByteArray) (i j : Nat) : (s.extract i j).data.toList = (s.data.toList.drop i).take (j - i) := by
  rw [ByteArray.data_extract, Array.toList_extract]
/-! ### a cut -/
end Go.Proofs.YthilcidoacgdfaaGreatDoor.SpanA
