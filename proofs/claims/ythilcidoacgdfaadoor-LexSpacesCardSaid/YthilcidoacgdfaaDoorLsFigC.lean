/- strings.TrimFunc and TrimLeftFunc at char.Space: plain. -/
import Derived.Test.YthilcidoacgdfaaDoorLsFigB
import Derived.Shelf.GgClosure.StringsTrimFunc
namespace Go.Proofs.YthilcidoacgdfaaDoor.CharB
end Go.Proofs.YthilcidoacgdfaaDoor.CharB
namespace Go.Proofs.YthilcidoacgdfaaDoor.CharD
end Go.Proofs.YthilcidoacgdfaaDoor.CharD
namespace Go.Proofs.YthilcidoacgdfaaDoor.CharF
end Go.Proofs.YthilcidoacgdfaaDoor.CharF
namespace Go.Proofs.YthilcidoacgdfaaDoor.FigA
end Go.Proofs.YthilcidoacgdfaaDoor.FigA
namespace Go.Proofs.YthilcidoacgdfaaDoor.SpanA
end Go.Proofs.YthilcidoacgdfaaDoor.SpanA
namespace Go.Proofs.YthilcidoacgdfaaDoorW.PrintLast
end Go.Proofs.YthilcidoacgdfaaDoorW.PrintLast
namespace Go.Proofs.YthilcidoacgdfaaDoorW.PrintMore
end Go.Proofs.YthilcidoacgdfaaDoorW.PrintMore
namespace Go.Proofs.YthilcidoacgdfaaDoorW.PrintWords
end Go.Proofs.YthilcidoacgdfaaDoorW.PrintWords
namespace Go.Proofs.YthilcidoacgdfaaDoor.FigC
open Go.RowKit Go.Proofs.YthilcidoacgdfaaDoorW.PrintWords Go.Proofs.YthilcidoacgdfaaDoorW.PrintLast Go.Proofs.YthilcidoacgdfaaDoorW.PrintMore Go.Proofs.YthilcidoacgdfaaDoor.CharB Go.Proofs.YthilcidoacgdfaaDoor.CharD Go.Proofs.YthilcidoacgdfaaDoor.CharF Go.Proofs.YthilcidoacgdfaaDoor.SpanA Go.Proofs.YthilcidoacgdfaaDoor.FigA
set_option linter.unusedVariables false
set_option linter.unusedSimpArgs false
/-- char.Space as a question on runes. -/
def sp (x : Nat) : Bool := spaceB (x : Int)
theorem sp_low (c : UInt8) : sp c.toNat = spB c := by
  have : ∀ c : UInt8, sp c.toNat = spB c := by
    intro c
    have h : ∀ n : Fin 256, sp (UInt8.ofNat n.1).toNat = spB (UInt8.ofNat n.1) := by decide +kernel
    have := h ⟨c.toNat, c.toNat_lt⟩
    simpa using this
  exact this c
theorem spB_high (c : UInt8) (h : 128 ≤ c.toNat) : spB c = false := by
  have n : ∀ d : UInt8, d.toNat < 128 → c ≠ d := fun d hd e => by rw [e] at h; omega
  unfold spB
  simp [n 32 (by decide), n 9 (by decide), n 10 (by decide), n 13 (by decide)]
theorem dec_ba (l : List UInt8) : Utf8.decode (ba l) 0 = Lib.decodeL l := by
  have := Lib.decodeL_drop (ba l) 0
  rw [List.drop_zero, ba_list] at this
  exact this.symm
theorem sp_high (c : UInt8) (t : List UInt8) (h : 128 ≤ c.toNat) : sp (Lib.decodeL (c :: t)).1 = false := by
  rw [← dec_ba]
  have hz : 0 < (ba (c :: t)).size := by rw [ba_size]; simp
  exact decode_big (ba (c :: t)) 0 hz (by show 128 ≤ c.toNat; exact h)
theorem left_sp (s : ByteArray) : ∀ (n pos : Nat), s.size ≤ pos + n →
    (Lib.idxFuncFrom sp false s n pos = -1 ∧ (s.data.toList.drop pos).dropWhile spB = []) ∨ (∃ k : Nat, Lib.idxFuncFrom sp false s n pos = (k : Int) ∧ pos ≤ k ∧ k < s.size ∧ (s.data.toList.drop pos).dropWhile spB = s.data.toList.drop k) := by
  intro n
  induction n with
  | zero =>
    intro pos h
    left
    rw [List.drop_eq_nil_of_le (by rw [← Lib.size_eq]; omega)]
    exact ⟨rfl, rfl⟩
  | succ n ih =>
    intro pos h
    by_cases hp : pos < s.size
    · have hp' : pos < s.data.toList.length := by rw [← Lib.size_eq]; exact hp
      unfold Lib.idxFuncFrom
      rw [if_pos hp, ← Lib.decodeL_drop, List.drop_eq_getElem_cons hp', List.dropWhile_cons]
      by_cases hc : (s.data.toList[pos]).toNat < 128
      · rw [Lib.decodeL_ascii _ _ hc]
        simp only
        rw [sp_low]
        cases hs : spB s.data.toList[pos] with
        | true =>
          rw [if_neg (by simp), if_pos rfl]
          rcases ih (pos + 1) (by omega) with ⟨h1, h2⟩ | ⟨k, h1, h2, h3, h4⟩
          · exact .inl ⟨h1, h2⟩
          · exact .inr ⟨k, h1, by omega, h3, h4⟩
        | false =>
          rw [if_pos rfl, if_neg (by simp), ← List.drop_eq_getElem_cons hp']
          exact .inr ⟨pos, rfl, Nat.le_refl _, hp, rfl⟩
      · rw [sp_high _ _ (by omega), if_pos rfl, spB_high _ (by omega), if_neg (by simp), ← List.drop_eq_getElem_cons hp']
        exact .inr ⟨pos, rfl, Nat.le_refl _, hp, rfl⟩
    · left
      rw [Lib.idxFuncFrom_end _ _ _ _ _ hp, List.drop_eq_nil_of_le (by rw [← Lib.size_eq]; omega)]
      exact ⟨rfl, rfl⟩
theorem trimLeft_sp (s : ByteArray) : Lib.trimLeftF sp s = ba (s.data.toList.dropWhile spB) := by
  have h := left_sp s s.size 0 (by omega)
  rw [List.drop_zero] at h
  apply ext_list
  rw [ba_list]
  unfold Lib.trimLeftF Lib.idxFunc
  rcases h with ⟨h1, h2⟩ | ⟨k, h1, h2, h3, h4⟩
  · rw [h1, if_pos rfl, h2]
  · rw [h1, if_neg (by omega), h4, Int.toNat_natCast, extract_list, List.take_of_length_le (by rw [List.length_drop, ← Lib.size_eq]; exact Nat.le_refl _)]
theorem getD_at (l : List UInt8) (i : Nat) (h : i < l.length) : l.getD i 0 = l[i] := by simp [List.getD, h]
end Go.Proofs.YthilcidoacgdfaaDoor.FigC
