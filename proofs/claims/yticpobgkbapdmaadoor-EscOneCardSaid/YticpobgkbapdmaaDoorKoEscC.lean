/- Plain laws of esc: a reference's number, and what it stands for. -/
import Derived.Test.YticpobgkbapdmaaDoorKoEscB
namespace Go.Proofs.YticpobgkbapdmaaDoor.CharA
end Go.Proofs.YticpobgkbapdmaaDoor.CharA
namespace Go.Proofs.YticpobgkbapdmaaDoor.CharB
end Go.Proofs.YticpobgkbapdmaaDoor.CharB
namespace Go.Proofs.YticpobgkbapdmaaDoor.CharC
end Go.Proofs.YticpobgkbapdmaaDoor.CharC
namespace Go.Proofs.YticpobgkbapdmaaDoor.CharD
end Go.Proofs.YticpobgkbapdmaaDoor.CharD
namespace Go.Proofs.YticpobgkbapdmaaDoor.CharF
end Go.Proofs.YticpobgkbapdmaaDoor.CharF
namespace Go.Proofs.YticpobgkbapdmaaDoor.CharH
end Go.Proofs.YticpobgkbapdmaaDoor.CharH
namespace Go.Proofs.YticpobgkbapdmaaDoor.EscB
end Go.Proofs.YticpobgkbapdmaaDoor.EscB
namespace Go.Proofs.YticpobgkbapdmaaDoor.PR1
end Go.Proofs.YticpobgkbapdmaaDoor.PR1
namespace Go.Proofs.YticpobgkbapdmaaDoor.SpanA
end Go.Proofs.YticpobgkbapdmaaDoor.SpanA
namespace Go.Proofs.YticpobgkbapdmaaDoor.SpanD
end Go.Proofs.YticpobgkbapdmaaDoor.SpanD
namespace Go.Proofs.YticpobgkbapdmaaDoorW.PrintLast
end Go.Proofs.YticpobgkbapdmaaDoorW.PrintLast
namespace Go.Proofs.YticpobgkbapdmaaDoorW.PrintMore
end Go.Proofs.YticpobgkbapdmaaDoorW.PrintMore
namespace Go.Proofs.YticpobgkbapdmaaDoorW.PrintWords
end Go.Proofs.YticpobgkbapdmaaDoorW.PrintWords
namespace Go.Proofs.YticpobgkbapdmaaDoor.EscC
open Go.RowKit Go.Proofs.YticpobgkbapdmaaDoorW.PrintWords Go.Proofs.YticpobgkbapdmaaDoorW.PrintLast Go.Proofs.YticpobgkbapdmaaDoorW.PrintMore Go.Proofs.YticpobgkbapdmaaDoor.CharA Go.Proofs.YticpobgkbapdmaaDoor.CharB Go.Proofs.YticpobgkbapdmaaDoor.CharC Go.Proofs.YticpobgkbapdmaaDoor.CharD Go.Proofs.YticpobgkbapdmaaDoor.CharF Go.Proofs.YticpobgkbapdmaaDoor.CharH Go.Proofs.YticpobgkbapdmaaDoor.SpanA Go.Proofs.YticpobgkbapdmaaDoor.SpanD Go.Proofs.YticpobgkbapdmaaDoor.EscB Go.Proofs.YticpobgkbapdmaaDoor.PR1
set_option linter.unusedVariables false
set_option linter.unusedSimpArgs false
set_option linter.unnecessarySimpa false
def hexv (c : Int) : Int := if 48 ≤ c ∧ c ≤ 57 then c - 48 else if 97 ≤ c ∧ c ≤ 102 then c - 87 else if 65 ≤ c ∧ c ≤ 70 then c - 55 else 99
set_option maxHeartbeats 2000000 in
theorem value_f (k : Nat) (c base : Int) (h0 : 0 ≤ c) (h1 : c < 256) (hb : base = 10 ∨ base = 16) : esc_value.f (k + 4) c base = some (if hexv c < base then hexv c else -1) := by
  simp only [esc_value.f, esc_value.j0, esc_value.j1, esc_value.j2, decide_eq_true_eq, Bool.false_eq_true, if_false]
  unfold hexv
  rcases hb with rfl | rfl
  all_goals
    repeat' split
    all_goals first | rfl | (congr 1; omega) | (exfalso; omega)
/-- The number of digits, as far as it goes; -1: they are none. -/
def numL (base : Int) : Int → List UInt8 → Int
  | n, [] => n
  | n, c :: l => if hexv (c.toNat : Int) < base then numL base (if n * base + hexv (c.toNat : Int) > 1114111 then 1114112 else n * base + hexv (c.toNat : Int)) l else -1
def numB (base : Int) (l : List UInt8) : Int := if l = [] then -1 else numL base 0 l
theorem hexv_nonneg (c : Int) : 0 ≤ hexv c := by unfold hexv; repeat' split
                                                 all_goals omega
theorem byte_lt (s : ByteArray) (i : Nat) (h : i < s.data.toList.length) : (s.data.toList[i]).toNat < 256 := (s.data.toList[i]).toNat_lt
theorem bt_list (s : ByteArray) (i : Nat) (h : i < s.size) (h' : i < s.data.toList.length) : bt s (i : Int) = ((s.data.toList[i]).toNat : Int) := by rw [bt_get s i h]; rfl
theorem number_l0 (s : ByteArray) (hs : s.size < 1000000000000) (base : Int) (hb : base = 10 ∨ base = 16) : ∀ (n i k : Nat) (a : Int), s.size ≤ i + n → i ≤ s.size → n + 10 < k → 0 ≤ a → a ≤ 1114112 →
    esc_number.l0 k s base a (s.size : Int) (i : Int) = some (numL base a (s.data.toList.drop i)) := by
  intro n
  induction n with
  | zero =>
    intro i k a h hi hk h0 h1
    obtain ⟨k, rfl⟩ : ∃ j, k = j + 1 := ⟨k - 1, by omega⟩
    rw [esc_number.l0, if_neg (by omega), List.drop_eq_nil_of_le (by rw [← Lib.size_eq]; omega)]
    rfl
  | succ n ih =>
    intro i k a h hi hk h0 h1
    obtain ⟨k, rfl⟩ : ∃ j, k = j + 4 + 1 := ⟨k - 5, by omega⟩
    by_cases hlt : i < s.size
    · have hlt' : i < s.data.toList.length := by rw [← Lib.size_eq]; exact hlt
      have hb8 := byte_lt s i hlt'
      rw [esc_number.l0, if_pos (by omega), if_pos (by omega), if_pos (by omega), bt_list s i hlt hlt', value_f k _ base (by omega) (by omega) hb, bs, List.drop_eq_getElem_cons hlt']
      have hnn := hexv_nonneg ((s.data.toList[i]).toNat : Int)
      simp only [numL]
      by_cases hd : hexv ((s.data.toList[i]).toNat : Int) < base
      · rw [if_pos hd, if_pos hd, if_neg (by omega)]
        have e1 : wrap64 (a * base) = a * base := by rcases hb with rfl | rfl <;> exact w64 (by omega) (by omega)
        have e2 : wrap64 (a * base + hexv ((s.data.toList[i]).toNat : Int)) = a * base + hexv ((s.data.toList[i]).toNat : Int) := by rcases hb with rfl | rfl <;> exact w64 (by omega) (by omega)
        have e3 : mn (a * base + hexv ((s.data.toList[i]).toNat : Int)) 1114112 = if a * base + hexv ((s.data.toList[i]).toNat : Int) > 1114111 then 1114112 else a * base + hexv ((s.data.toList[i]).toNat : Int) := by
          unfold mn
          rcases hb with rfl | rfl <;> (repeat' split) <;> omega
        have hge : 0 ≤ a * base := by rcases hb with rfl | rfl <;> omega
        rw [e1, e2, e3, w64 (by omega) (by omega), show ((i : Int) + 1) = ((i + 1 : Nat) : Int) by omega]
        exact ih (i + 1) (k + 4) _ (by omega) (by omega) (by omega) (by split <;> omega) (by split <;> omega)
      · rw [if_neg hd, if_neg hd, if_pos (by omega)]
    · rw [esc_number.l0, if_neg (by omega), List.drop_eq_nil_of_le (by rw [← Lib.size_eq]; omega)]
      rfl
theorem number_f (s : ByteArray) (hs : s.size < 1000000000000) (base : Int) (hb : base = 10 ∨ base = 16) (k : Nat) (hk : s.size + 10 < k) : esc_number.f k s base = some (numB base s.data.toList) := by
  unfold esc_number.f numB
  rw [tl]
  by_cases h0 : s.data.toList = []
  · rw [if_pos h0, if_pos h0]
  · rw [if_neg h0, if_neg h0]
    have := number_l0 s hs base hb s.size 0 k 0 (by omega) (by omega) hk (by omega) (by omega)
    simpa using this
theorem numL_range (base : Int) (hb : base = 10 ∨ base = 16) : ∀ (l : List UInt8) (a : Int), 0 ≤ a → a ≤ 1114112 → -1 ≤ numL base a l ∧ numL base a l ≤ 1114112
  | [], a, h0, h1 => by simp only [numL]; omega
  | c :: l, a, h0, h1 => by
    simp only [numL]
    have hnn := hexv_nonneg (c.toNat : Int)
    have hge : 0 ≤ a * base := by rcases hb with rfl | rfl <;> omega
    split
    · exact numL_range base hb l _ (by split <;> omega) (by split <;> omega)
    · omega
theorem numB_range (base : Int) (hb : base = 10 ∨ base = 16) (l : List UInt8) : -1 ≤ numB base l ∧ numB base l ≤ 1114112 := by
  unfold numB
  split
  · omega
  · exact numL_range base hb l 0 (by omega) (by omega)
/-- The number that a reference's inner part tells; -1: none. -/
def refN (l : List UInt8) : Int := if ([35, 120] : List UInt8).isPrefixOf l then numB 16 (l.drop 2) else if ([35] : List UInt8).isPrefixOf l then numB 10 (l.drop 1) else -1
/-- What a reference's inner part stands for. -/
def chr (l : List UInt8) : Option (List UInt8) :=
  if l = [97, 109, 112] then some [38] else if l = [108, 116] then some [60] else if l = [103, 116] then some [62] else if l = [113, 117, 111, 116] then some [34] else if l = [97, 112, 111, 115] then some [39]
  else if refN l < 0 then none else if isB (refN l) then some (enc (refN l)).data.toList else none
theorem refN_range (l : List UInt8) : -1 ≤ refN l ∧ refN l ≤ 1114112 := by
  unfold refN
  split
  · exact numB_range 16 (.inr rfl) _
  · split
    · exact numB_range 10 (.inl rfl) _
    · omega
theorem isB_range (r : Int) (h : isB r = true) : 9 ≤ r ∧ r ≤ 1114111 ∧ (r < 55296 ∨ 57343 < r) := by
  unfold isB at h
  rw [Go.Proofs.YticpobgkbapdmaaDoor.CharC.within_iff] at h
  simp only [isL, List.mem_cons, List.not_mem_nil, or_false, exists_eq_or_imp, exists_eq_left] at h
  omega
end Go.Proofs.YticpobgkbapdmaaDoor.EscC
