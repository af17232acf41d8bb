/- Comparisons, roundings, whole numbers: closed forms of the program's and of the reference's functions; and the nine laws as plain statements. -/
import Derived.Test.YthilcidoacgdfaaDoorLqDecF
import Derived.Test.YthilcidoacgdfaaDoorLqDecB
namespace Go.Proofs.YthilcidoacgdfaaDoor.DecA
end Go.Proofs.YthilcidoacgdfaaDoor.DecA
namespace Go.Proofs.YthilcidoacgdfaaDoor.DecB
end Go.Proofs.YthilcidoacgdfaaDoor.DecB
namespace Go.Proofs.YthilcidoacgdfaaDoor.DecC
end Go.Proofs.YthilcidoacgdfaaDoor.DecC
namespace Go.Proofs.YthilcidoacgdfaaDoor.DecD
end Go.Proofs.YthilcidoacgdfaaDoor.DecD
namespace Go.Proofs.YthilcidoacgdfaaDoor.DecE
end Go.Proofs.YthilcidoacgdfaaDoor.DecE
namespace Go.Proofs.YthilcidoacgdfaaDoor.DecF
end Go.Proofs.YthilcidoacgdfaaDoor.DecF
namespace Go.Proofs.YthilcidoacgdfaaDoor.PF
end Go.Proofs.YthilcidoacgdfaaDoor.PF
namespace Go.Proofs.YthilcidoacgdfaaDoorW.PrintLast
end Go.Proofs.YthilcidoacgdfaaDoorW.PrintLast
namespace Go.Proofs.YthilcidoacgdfaaDoorW.PrintMore
end Go.Proofs.YthilcidoacgdfaaDoorW.PrintMore
namespace Go.Proofs.YthilcidoacgdfaaDoorW.PrintWords
end Go.Proofs.YthilcidoacgdfaaDoorW.PrintWords
namespace Go.Proofs.YthilcidoacgdfaaDoor.DecG
set_option linter.unusedSimpArgs false
set_option linter.unusedVariables false
open Go.RowKit Go.Proofs.YthilcidoacgdfaaDoor.PF Go.Proofs.YthilcidoacgdfaaDoorW.PrintWords Go.Proofs.YthilcidoacgdfaaDoorW.PrintLast Go.Proofs.YthilcidoacgdfaaDoorW.PrintMore Go.Proofs.YthilcidoacgdfaaDoor.DecA Go.Proofs.YthilcidoacgdfaaDoor.DecB Go.Proofs.YthilcidoacgdfaaDoor.DecC Go.Proofs.YthilcidoacgdfaaDoor.DecD Go.Proofs.YthilcidoacgdfaaDoor.DecE Go.Proofs.YthilcidoacgdfaaDoor.DecF

/-! ### Cmp -/
/-! ### whole numbers -/
theorem dec_times_f {k : Nat} (hk : 40 < k) {n : Int} (h : -9223372036854775807 ≤ n ∧ n ≤ 9223372036854775807) : dec_times.f k n = some (addN (n * 1000000)) := by
  unfold dec_times.f
  rw [size_f h]
  simp only [bs]
  obtain ⟨x, hx, hx'⟩ := ab_nat h
  obtain ⟨U, hU⟩ : ∃ U : Nat, U = 1000000 := ⟨_, rfl⟩
  have eU : (1000000 : Int) = (U : Int) := by omega
  rw [hx, eU, mul_words hx' (by omega)]
  have hP : (if decide (n < 0) = true then -((x * U : Nat) : Int) else ((x * U : Nat) : Int)) = n * U := by
    unfold ab at hx
    rw [Int.natCast_mul, ← hx]
    by_cases c : n < 0
    · rw [if_pos c, if_pos (decide_eq_true c)]; rw [Int.neg_mul]; omega
    · rw [if_neg c, if_neg (by simpa using c)]
  rw [← mk_is (by omega) hP]
  generalize x * U = P at *
  have e5 : P = P / 18446744073709551616 * 18446744073709551616 + P % 18446744073709551616 := by omega
  have hm : P % 18446744073709551616 < 18446744073709551616 := by omega
  generalize P / 18446744073709551616 = H at *
  generalize P % 18446744073709551616 = M at *
  simp only [bs]
  by_cases c : H = 0
  · have e6 : ((H : Int) != 0) = false := by simp [c]
    have e7 : P = M := by omega
    rw [e6, signed_f (by omega) _ (by omega) (by omega), e7]
    rfl
  · have e6 : ((H : Int) != 0) = true := by simp [c]
    rw [e6, signed_hi (by omega), mk_big (by omega)]
    rfl
theorem addN_low {s : Int} (h : s < -9223372036854775807) : addN s = (3, 0) := by unfold addN; rw [if_neg (by omega), if_pos h]
theorem dec_Int_f {k : Nat} (hk : 40 < k) {n : Int} (h : I64 n) : dec_Int.f k n = some (addN (n * 1000000)) := by
  unfold dec_Int.f
  unfold I64 at h
  by_cases c : n = -9223372036854775808
  · rw [if_pos c, addN_low (by omega)]; rfl
  · rw [if_neg c, dec_times_f hk (by omega)]; rfl
/-! ### Floor, Ceil, Round -/
end Go.Proofs.YthilcidoacgdfaaDoor.DecG
/- Plain laws of span: the characters of a text, and a cut. -/
namespace Go.Proofs.YthilcidoacgdfaaDoor.CharA
end Go.Proofs.YthilcidoacgdfaaDoor.CharA
namespace Go.Proofs.YthilcidoacgdfaaDoor.CharB
end Go.Proofs.YthilcidoacgdfaaDoor.CharB
namespace Go.Proofs.YthilcidoacgdfaaDoor.CharC
end Go.Proofs.YthilcidoacgdfaaDoor.CharC
namespace Go.Proofs.YthilcidoacgdfaaDoor.CharD
end Go.Proofs.YthilcidoacgdfaaDoor.CharD
namespace Go.Proofs.YthilcidoacgdfaaDoor.CharF
end Go.Proofs.YthilcidoacgdfaaDoor.CharF
namespace Go.Proofs.YthilcidoacgdfaaDoor.PF
end Go.Proofs.YthilcidoacgdfaaDoor.PF
namespace Go.Proofs.YthilcidoacgdfaaDoorW.PrintLast
end Go.Proofs.YthilcidoacgdfaaDoorW.PrintLast
namespace Go.Proofs.YthilcidoacgdfaaDoorW.PrintMore
end Go.Proofs.YthilcidoacgdfaaDoorW.PrintMore
namespace Go.Proofs.YthilcidoacgdfaaDoorW.PrintWords
end Go.Proofs.YthilcidoacgdfaaDoorW.PrintWords
namespace Go.Proofs.YthilcidoacgdfaaDoor.SpanA
open Go.RowKit Go.Proofs.YthilcidoacgdfaaDoorW.PrintWords Go.Proofs.YthilcidoacgdfaaDoorW.PrintLast Go.Proofs.YthilcidoacgdfaaDoorW.PrintMore Go.Proofs.YthilcidoacgdfaaDoor.CharA Go.Proofs.YthilcidoacgdfaaDoor.CharB Go.Proofs.YthilcidoacgdfaaDoor.CharC Go.Proofs.YthilcidoacgdfaaDoor.CharD Go.Proofs.YthilcidoacgdfaaDoor.CharF Go.Proofs.YthilcidoacgdfaaDoor.PF
set_option linter.unusedVariables false
set_option linter.unusedSimpArgs false
set_option linter.unnecessarySimpa false
/-- A string of bytes. -/
def ba (l : List UInt8) : ByteArray := ⟨l.toArray⟩
theorem ba_list (l : List UInt8) : (ba l).data.toList = l := rfl
theorem ba_data (s : ByteArray) : ba s.data.toList = s := rfl
theorem ba_size (l : List UInt8) : (ba l).size = l.length := by show l.toArray.size = _; simp
theorem ext_list {a b : ByteArray} (h : a.data.toList = b.data.toList) : a = b := by rw [← ba_data a, ← ba_data b, h]
theorem ba_app (a b : List UInt8) : ba a ++ ba b = ba (a ++ b) := ext_list (by rw [app_list]; rfl)
theorem extract_list (s : ByteArray) (i j : Nat) : (s.extract i j).data.toList = (s.data.toList.drop i).take (j - i) := by
  rw [ByteArray.data_extract, Array.toList_extract]
/-! ### a cut -/
end Go.Proofs.YthilcidoacgdfaaDoor.SpanA
/- Numbers as texts, and texts as numbers: the plain answers, and what holds of them. -/
namespace Go.Proofs.YthilcidoacgdfaaDoor.DecA
end Go.Proofs.YthilcidoacgdfaaDoor.DecA
namespace Go.Proofs.YthilcidoacgdfaaDoor.DecE
end Go.Proofs.YthilcidoacgdfaaDoor.DecE
namespace Go.Proofs.YthilcidoacgdfaaDoor.DecF
end Go.Proofs.YthilcidoacgdfaaDoor.DecF
namespace Go.Proofs.YthilcidoacgdfaaDoor.SpanA
end Go.Proofs.YthilcidoacgdfaaDoor.SpanA
namespace Go.Proofs.YthilcidoacgdfaaDoorW.PrintLast
end Go.Proofs.YthilcidoacgdfaaDoorW.PrintLast
namespace Go.Proofs.YthilcidoacgdfaaDoorW.PrintMore
end Go.Proofs.YthilcidoacgdfaaDoorW.PrintMore
namespace Go.Proofs.YthilcidoacgdfaaDoorW.PrintWords
end Go.Proofs.YthilcidoacgdfaaDoorW.PrintWords
namespace Go.Proofs.YthilcidoacgdfaaDoor.FigA
open Go.RowKit Go.Proofs.YthilcidoacgdfaaDoorW.PrintWords Go.Proofs.YthilcidoacgdfaaDoorW.PrintLast Go.Proofs.YthilcidoacgdfaaDoorW.PrintMore Go.Proofs.YthilcidoacgdfaaDoor.DecA Go.Proofs.YthilcidoacgdfaaDoor.DecE Go.Proofs.YthilcidoacgdfaaDoor.DecF Go.Proofs.YthilcidoacgdfaaDoor.SpanA
set_option linter.unusedVariables false
set_option linter.unusedSimpArgs false
/-! ### digits as bytes -/
def digB (c : UInt8) : Bool := decide (48 ≤ c.toNat) && decide (c.toNat ≤ 57)
theorem digB_iff (c : UInt8) : digB c = true ↔ 48 ≤ c.toNat ∧ c.toNat ≤ 57 := by unfold digB; simp
/-! ### what a text of digits tells -/
def valU (l : List UInt8) : Int := l.foldl (fun a c => 10 * a + ((c.toNat : Int) - 48)) 0
theorem valU_snoc (l : List UInt8) (c : UInt8) : valU (l ++ [c]) = 10 * valU l + ((c.toNat : Int) - 48) := by unfold valU; simp
theorem fold_base (l : List UInt8) : ∀ a : Int, l.foldl (fun a c => 10 * a + ((c.toNat : Int) - 48)) a = 10 ^ l.length * a + valU l := by
  unfold valU
  induction l with
  | nil => intro a; simp
  | cons c l ih =>
    intro a
    simp only [List.foldl_cons, List.length_cons]
    rw [ih, ih (10 * 0 + _), Int.pow_succ]
    grind
theorem valU_app (a b : List UInt8) : valU (a ++ b) = 10 ^ b.length * valU a + valU b := by
  have := fold_base b (valU a)
  unfold valU at this ⊢
  rw [List.foldl_append]
  exact this
/-! ### a literal -/
/-- What a literal has ahead of its point, and behind it. -/
def litP (s : List UInt8) : Option (List UInt8 × List UInt8) :=
  let a := s.takeWhile digB
  let r := s.dropWhile digB
  if r = [] then (if a = [] then none else some (a, []))
  else if r.head? = some 46 then (if r.tail.all digB = true ∧ (a ≠ [] ∨ r.tail ≠ []) then some (a, r.tail) else none) else none
/-- Six digits. -/
def sixL (b : List UInt8) : List UInt8 := (b ++ List.replicate 6 48).take 6
def litS (s : List UInt8) : (Int × Int) × Bool := match litP s with | some (a, b) => (mk false (valU (a ++ sixL b)), true) | none => ((0, 0), false)
def spB (c : UInt8) : Bool := c == 32 || c == 9 || c == 10 || c == 13
/-! ### a number as a text -/
theorem takeW_all {p : UInt8 → Bool} : ∀ (a b : List UInt8), a.all p = true → (b.head?.map p ≠ some true) → (a ++ b).takeWhile p = a ∧ (a ++ b).dropWhile p = b
  | [], [], _, _ => ⟨rfl, rfl⟩
  | [], c :: b, _, h => by
    have hc : p c = false := by cases hp : p c with | false => rfl | true => exact absurd (by simp [hp]) h
    simp [List.takeWhile, List.dropWhile, hc]
  | c :: a, b, h, hb => by
    rw [List.all_cons, Bool.and_eq_true] at h
    have := takeW_all a b h.2 hb
    rw [List.cons_append, List.takeWhile_cons, List.dropWhile_cons, if_pos h.1, if_pos h.1, this.1, this.2]
    exact ⟨rfl, rfl⟩
theorem dropW_spec {p : UInt8 → Bool} : ∀ l : List UInt8, ∃ z, l = z ++ l.dropWhile p ∧ z.all p = true
  | [] => ⟨[], rfl, rfl⟩
  | c :: l => by
    obtain ⟨z, h1, h2⟩ := dropW_spec (p := p) l
    rw [List.dropWhile_cons]
    by_cases hp : p c = true
    · rw [if_pos hp]
      refine ⟨c :: z, ?_, by rw [List.all_cons, hp, h2]; rfl⟩
      rw [List.cons_append, ← h1]
    · rw [if_neg hp]; exact ⟨[], rfl, rfl⟩
theorem all48 : ∀ z : List UInt8, z.all (· == 48) = true → z = List.replicate z.length 48
  | [], _ => rfl
  | c :: z, h => by
    rw [List.all_cons, Bool.and_eq_true] at h
    have hc : c = 48 := by simpa using h.1
    rw [List.length_cons, List.replicate_succ, ← all48 z h.2, hc]
theorem spB_dig (c : UInt8) (h : digB c = true) : spB c = false := by
  rw [digB_iff] at h
  have n : ∀ d : UInt8, d.toNat < 48 → c ≠ d := fun d hd e => by rw [e] at h; omega
  unfold spB
  simp [n 32 (by decide), n 9 (by decide), n 10 (by decide), n 13 (by decide)]
theorem nm_mk (b : Bool) (n : Int) (h : 0 ≤ n) : Nm (mk b n) := by
  unfold mk Nm
  split
  · right; cases b <;> simp
  · left; cases b <;> simp <;> omega
theorem six_all (b : List UInt8) (h : b.all digB = true) : (sixL b).all digB = true := by
  unfold sixL
  rw [List.all_eq_true]
  intro c hc
  have := List.mem_of_mem_take hc
  rw [List.mem_append] at this
  rcases this with q | q
  · exact List.all_eq_true.1 h c q
  · rw [List.mem_replicate] at q
    rw [q.2]; decide
theorem litP_all {s a b : List UInt8} (h : litP s = some (a, b)) : a.all digB = true ∧ b.all digB = true := by
  have ht : (s.takeWhile digB).all digB = true := List.all_takeWhile
  unfold litP at h
  simp only at h
  split at h
  · split at h
    · cases h
    · cases h; exact ⟨ht, rfl⟩
  · split at h
    · split at h
      · rename_i q; cases h; exact ⟨ht, q.1⟩
      · cases h
    · cases h
end Go.Proofs.YthilcidoacgdfaaDoor.FigA
