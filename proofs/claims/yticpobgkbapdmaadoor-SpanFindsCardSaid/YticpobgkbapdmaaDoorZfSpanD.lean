/- Plain laws of span, the second half: Map, Norm, Find. -/
import Derived.Test.YticpobgkbapdmaaDoorZfSpanC
namespace Go.Proofs.YticpobgkbapdmaaDoor.CharA
end Go.Proofs.YticpobgkbapdmaaDoor.CharA
namespace Go.Proofs.YticpobgkbapdmaaDoor.CharB
end Go.Proofs.YticpobgkbapdmaaDoor.CharB
namespace Go.Proofs.YticpobgkbapdmaaDoor.CharC
end Go.Proofs.YticpobgkbapdmaaDoor.CharC
namespace Go.Proofs.YticpobgkbapdmaaDoor.CharD
end Go.Proofs.YticpobgkbapdmaaDoor.CharD
namespace Go.Proofs.YticpobgkbapdmaaDoor.CharF
end Go.Proofs.YticpobgkbapdmaaDoor.CharF
namespace Go.Proofs.YticpobgkbapdmaaDoor.PR1
end Go.Proofs.YticpobgkbapdmaaDoor.PR1
namespace Go.Proofs.YticpobgkbapdmaaDoor.SpanA
end Go.Proofs.YticpobgkbapdmaaDoor.SpanA
namespace Go.Proofs.YticpobgkbapdmaaDoor.SpanB
end Go.Proofs.YticpobgkbapdmaaDoor.SpanB
namespace Go.Proofs.YticpobgkbapdmaaDoor.SpanC
end Go.Proofs.YticpobgkbapdmaaDoor.SpanC
namespace Go.Proofs.YticpobgkbapdmaaDoorW.PrintLast
end Go.Proofs.YticpobgkbapdmaaDoorW.PrintLast
namespace Go.Proofs.YticpobgkbapdmaaDoorW.PrintMore
end Go.Proofs.YticpobgkbapdmaaDoorW.PrintMore
namespace Go.Proofs.YticpobgkbapdmaaDoorW.PrintWords
end Go.Proofs.YticpobgkbapdmaaDoorW.PrintWords
namespace Go.Proofs.YticpobgkbapdmaaDoor.SpanD
open Go.RowKit Go.Proofs.YticpobgkbapdmaaDoorW.PrintWords Go.Proofs.YticpobgkbapdmaaDoorW.PrintLast Go.Proofs.YticpobgkbapdmaaDoorW.PrintMore Go.Proofs.YticpobgkbapdmaaDoor.CharA Go.Proofs.YticpobgkbapdmaaDoor.CharB Go.Proofs.YticpobgkbapdmaaDoor.CharC Go.Proofs.YticpobgkbapdmaaDoor.CharD Go.Proofs.YticpobgkbapdmaaDoor.CharF Go.Proofs.YticpobgkbapdmaaDoor.SpanA Go.Proofs.YticpobgkbapdmaaDoor.SpanB Go.Proofs.YticpobgkbapdmaaDoor.SpanC Go.Proofs.YticpobgkbapdmaaDoor.PR1
set_option linter.unusedVariables false
set_option linter.unusedSimpArgs false
set_option linter.unnecessarySimpa false
theorem tl (s : ByteArray) : s.toList = s.data.toList := ByteArray.toList_eq s
/-! ### Map -/
/-! ### Find -/
theorem index_shift (l sub : List UInt8) (b : UInt8) : Lib.index (b :: l) sub = if sub.isPrefixOf (b :: l) then 0 else if Lib.index l sub = -1 then -1 else Lib.index l sub + 1 := by
  conv => lhs; unfold Lib.index
  simp
theorem find_loop (s t : ByteArray) (hs : s.size < 1000000000000) (ht : t.size < 1000000000000) : ∀ (n i k : Nat), s.size ≤ i + n → i ≤ s.size → n + 5 < k →
    breviaryref02_Find.l0 k s t (i : Int) = some (if Lib.index (s.data.toList.drop i) t.data.toList = -1 then -1 else (i : Int) + Lib.index (s.data.toList.drop i) t.data.toList) := by
  intro n
  induction n with
  | zero =>
    intro i k h hi hk
    obtain ⟨k, rfl⟩ : ∃ j, k = j + 1 + 1 := ⟨k - 2, by omega⟩
    obtain rfl : i = s.size := by omega
    rw [List.drop_eq_nil_of_le (by rw [← Lib.size_eq]; omega)]
    rw [breviaryref02_Find.l0, w64 (by omega) (by omega)]
    unfold Lib.index
    by_cases h0 : t.size = 0
    · have htl : t.data.toList = [] := List.length_eq_zero_iff.1 (by rw [← Lib.size_eq]; exact h0)
      rw [if_pos (by omega), if_pos (by omega), if_pos (by omega), tl, tl, extract_list, htl]
      rw [if_pos (by rw [show (((s.size : Nat) : Int) + (t.size : Int)).toNat - ((s.size : Nat) : Int).toNat = 0 by omega]; rfl)]
      simp
    · have htl : t.data.toList ≠ [] := fun e => h0 (by rw [Lib.size_eq, e]; rfl)
      rw [if_neg (by omega)]
      have : t.data.toList.isEmpty = false := by cases hq : t.data.toList with | nil => exact absurd hq htl | cons x y => rfl
      rw [this]
      rfl
  | succ n ih =>
    intro i k h hi hk
    obtain ⟨k, rfl⟩ : ∃ j, k = j + 1 := ⟨k - 1, by omega⟩
    by_cases hlt : i < s.size
    · have hlt' : i < s.data.toList.length := by rw [← Lib.size_eq]; exact hlt
      have hdr := List.drop_eq_getElem_cons hlt'
      have next := ih (i + 1) k (by omega) (by omega) (by omega)
      rw [show ((i + 1 : Nat) : Int) = (i : Int) + 1 by simp] at next
      have hw1 : wrap64 ((i : Int) + 1) = (i : Int) + 1 := w64 (by omega) (by omega)
      have hge := Lib.index_ge (s.data.toList.drop (i + 1)) t.data.toList
      rw [hdr, index_shift, breviaryref02_Find.l0, w64 (by omega) (by omega)]
      by_cases hfit : i + t.size ≤ s.size
      · rw [if_pos (by omega), if_pos (by omega), if_pos (by omega), tl, tl, extract_list, hw1, next, Int.toNat_natCast]
        rw [show (((i : Nat) : Int) + (t.size : Int)).toNat - i = t.data.toList.length by rw [← Lib.size_eq]; omega, hdr]
        have hpre : ((s.data.toList[i] :: s.data.toList.drop (i + 1)).take t.data.toList.length = t.data.toList) ↔ t.data.toList.isPrefixOf (s.data.toList[i] :: s.data.toList.drop (i + 1)) = true := by
          rw [List.isPrefixOf_iff_prefix, List.prefix_iff_eq_take]
          exact eq_comm
        by_cases hp : t.data.toList.isPrefixOf (s.data.toList[i] :: s.data.toList.drop (i + 1)) = true
        · rw [if_pos (hpre.2 hp), if_pos hp]; simp
        · rw [if_neg (fun e => hp (hpre.1 e)), if_neg hp]
          by_cases hm : Lib.index (s.data.toList.drop (i + 1)) t.data.toList = -1
          · rw [if_pos hm, if_pos hm]; simp
          · rw [if_neg hm, if_neg hm, if_neg (by omega)]
            congr 1; omega
      · have hshort : ∀ (l : List UInt8), l.length < t.data.toList.length → Lib.index l t.data.toList = -1 := by
          intro l
          induction l with
          | nil =>
            intro hl
            unfold Lib.index
            cases hq : t.data.toList with
            | nil => rw [hq] at hl; simp at hl
            | cons x y => rfl
          | cons x l ihl =>
            intro hl
            rw [index_shift]
            have hnp : ¬ t.data.toList.isPrefixOf (x :: l) = true := by
              rw [List.isPrefixOf_iff_prefix]
              intro hpx
              have := hpx.length_le
              omega
            rw [if_neg hnp, if_pos (ihl (by simp only [List.length_cons] at hl; omega))]
        have hnp : ¬ t.data.toList.isPrefixOf (s.data.toList[i] :: s.data.toList.drop (i + 1)) = true := by
          rw [List.isPrefixOf_iff_prefix]
          intro hpx
          have := hpx.length_le
          rw [← Lib.size_eq] at this
          simp at this
          omega
        rw [if_neg (by omega), if_neg hnp, hshort _ (by rw [List.length_drop, ← Lib.size_eq, ← Lib.size_eq]; omega)]
        simp
    · obtain rfl : i = s.size := by omega
      have := ih s.size k
      exact (ih s.size (k + 1) (by omega) (by omega) (by omega))
theorem ref_find (s t : ByteArray) (hs : s.size < 1000000000000) (ht : t.size < 1000000000000) (k : Nat) (hk : s.size + 5 < k) : breviaryref02_Find.f k s t = some (Lib.index s.data.toList t.data.toList) := by
  unfold breviaryref02_Find.f
  have := find_loop s t hs ht s.size 0 k (by omega) (by omega) hk
  rw [List.drop_zero] at this
  rw [show ((0 : Nat) : Int) = 0 from rfl] at this
  rw [this]
  split
  · rename_i h; rw [h]
  · simp
end Go.Proofs.YticpobgkbapdmaaDoor.SpanD
