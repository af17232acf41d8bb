/- strings.TrimFunc and TrimLeftFunc at char.Space: plain. -/
import Derived.Test.YthilcidoacgdfaaGreatDoorZcFigB
import Derived.Shelf.GgClosure.StringsTrimFunc
namespace Go.Proofs.YthilcidoacgdfaaGreatDoor.CharB
end Go.Proofs.YthilcidoacgdfaaGreatDoor.CharB
namespace Go.Proofs.YthilcidoacgdfaaGreatDoor.CharD
end Go.Proofs.YthilcidoacgdfaaGreatDoor.CharD
namespace Go.Proofs.YthilcidoacgdfaaGreatDoor.CharF
end Go.Proofs.YthilcidoacgdfaaGreatDoor.CharF
namespace Go.Proofs.YthilcidoacgdfaaGreatDoor.FigA
end Go.Proofs.YthilcidoacgdfaaGreatDoor.FigA
namespace Go.Proofs.YthilcidoacgdfaaGreatDoor.SpanA
end Go.Proofs.YthilcidoacgdfaaGreatDoor.SpanA
namespace Go.Proofs.YthilcidoacgdfaaGreatDoorW.PrintLast
end Go.Proofs.YthilcidoacgdfaaGreatDoorW.PrintLast
namespace Go.Proofs.YthilcidoacgdfaaGreatDoorW.PrintMore
end Go.Proofs.YthilcidoacgdfaaGreatDoorW.PrintMore
namespace Go.Proofs.YthilcidoacgdfaaGreatDoorW.PrintWords
end Go.Proofs.YthilcidoacgdfaaGreatDoorW.PrintWords
namespace Go.Proofs.YthilcidoacgdfaaGreatDoor.FigC
open Go.RowKit Go.Proofs.YthilcidoacgdfaaGreatDoorW.PrintWords Go.Proofs.YthilcidoacgdfaaGreatDoorW.PrintLast Go.Proofs.YthilcidoacgdfaaGreatDoorW.PrintMore Go.Proofs.YthilcidoacgdfaaGreatDoor.CharB Go.Proofs.YthilcidoacgdfaaGreatDoor.CharD Go.Proofs.YthilcidoacgdfaaGreatDoor.CharF Go.Proofs.YthilcidoacgdfaaGreatDoor.SpanA Go.Proofs.YthilcidoacgdfaaGreatDoor.FigA
set_option linter.unusedVariables false
set_option linter.unusedSimpArgs false
/-- char.Space as a question on runes. -/
def sp (x : Nat) : Bool := spaceB (x : Int)
theorem sp_low (c : UInt8) : sp c.toNat = spB c := by
  have : ∀ c : UInt8, sp c.toNat = spB c := by
    intro c
    have h : ∀ n : Fin 256, sp (UInt8.ofNat n.1).toNat = spB (UInt8.ofNat n.1) := by decide +kernel
    have := h ⟨c.toNat, c.toNat_lt⟩
    simpa using this
  exact this c
theorem spB_high (c : UInt8) (h : 128 ≤ c.toNat) : spB c = false := by
  have n : ∀ d : UInt8, d.toNat < 128 → c ≠ d := fun d hd e => by rw [e] at h; omega
  unfold spB
  simp [n 32 (by decide), n 9 (by decide), n 10 (by decide), n 13 (by decide)]
theorem dec_ba (l : List UInt8) : Utf8.decode (ba l) 0 = Lib.decodeL l := by
  have := Lib.decodeL_drop (ba l) 0
  rw [List.drop_zero, ba_list] at this
  exact this.symm
theorem sp_high (c : UInt8) (t : List UInt8) (h : 128 ≤ c.toNat) : sp (Lib.decodeL (c :: t)).1 = false := by
  rw [← dec_ba]
  have hz : 0 < (ba (c :: t)).size := by rw [ba_size]; simp
  exact decode_big (ba (c :: t)) 0 hz (by show 128 ≤ c.toNat; exact h)
theorem left_sp (s : ByteArray) : ∀ (n pos : Nat), s.size ≤ pos + n →
    (Lib.idxFuncFrom sp false s n pos = -1 ∧ (s.data.toList.drop pos).dropWhile spB = []) ∨ (∃ k : Nat, Lib.idxFuncFrom sp false s n pos = (k : Int) ∧ pos ≤ k ∧ k < s.size ∧ (s.data.toList.drop pos).dropWhile spB = s.data.toList.drop k) := by
  intro n
  induction n with
  | zero =>
    intro pos h
    left
    rw [List.drop_eq_nil_of_le (by rw [← Lib.size_eq]; omega)]
    exact ⟨rfl, rfl⟩
  | succ n ih =>
    intro pos h
    by_cases hp : pos < s.size
    · have hp' : pos < s.data.toList.length := by rw [← Lib.size_eq]; exact hp
      unfold Lib.idxFuncFrom
      rw [if_pos hp, ← Lib.decodeL_drop, List.drop_eq_getElem_cons hp', List.dropWhile_cons]
      by_cases hc : (s.data.toList[pos]).toNat < 128
      · rw [Lib.decodeL_ascii _ _ hc]
        simp only
        rw [sp_low]
        cases hs : spB s.data.toList[pos] with
        | true =>
          rw [if_neg (by simp), if_pos rfl]
          rcases ih (pos + 1) (by omega) with ⟨h1, h2⟩ | ⟨k, h1, h2, h3, h4⟩
          · exact .inl ⟨h1, h2⟩
          · exact .inr ⟨k, h1, by omega, h3, h4⟩
        | false =>
          rw [if_pos rfl, if_neg (by simp), ← List.drop_eq_getElem_cons hp']
          exact .inr ⟨pos, rfl, Nat.le_refl _, hp, rfl⟩
      · rw [sp_high _ _ (by omega), if_pos rfl, spB_high _ (by omega), if_neg (by simp), ← List.drop_eq_getElem_cons hp']
        exact .inr ⟨pos, rfl, Nat.le_refl _, hp, rfl⟩
    · left
      rw [Lib.idxFuncFrom_end _ _ _ _ _ hp, List.drop_eq_nil_of_le (by rw [← Lib.size_eq]; omega)]
      exact ⟨rfl, rfl⟩
theorem trimLeft_sp (s : ByteArray) : Lib.trimLeftF sp s = ba (s.data.toList.dropWhile spB) := by
  have h := left_sp s s.size 0 (by omega)
  rw [List.drop_zero] at h
  apply ext_list
  rw [ba_list]
  unfold Lib.trimLeftF Lib.idxFunc
  rcases h with ⟨h1, h2⟩ | ⟨k, h1, h2, h3, h4⟩
  · rw [h1, if_pos rfl, h2]
  · rw [h1, if_neg (by omega), h4, Int.toNat_natCast, extract_list, List.take_of_length_le (by rw [List.length_drop, ← Lib.size_eq]; exact Nat.le_refl _)]
theorem getD_at (l : List UInt8) (i : Nat) (h : i < l.length) : l.getD i 0 = l[i] := by simp [List.getD, h]
theorem right_sp (s : ByteArray) : ∀ (f i : Nat), i ≤ f → i ≤ s.data.toList.length → Lib.OpenAt s.data.toList i →
    ((s.data.toList.take i).reverse.dropWhile spB).reverse = s.data.toList.take (if 0 ≤ Lib.lastIdxFuncFrom sp false s f i then (Lib.lastIdxFuncFrom sp false s f i).toNat + (Lib.decodeL (s.data.toList.drop (Lib.lastIdxFuncFrom sp false s f i).toNat)).2 else 0)
  | 0, i, hf, _, _ => by
    obtain rfl : i = 0 := by omega
    simp [Lib.lastIdxFuncFrom]
  | f + 1, i, hf, hil, ho => by
    by_cases hi : 0 < i
    · have hlen : (s.data.toList.take i).length = i := by rw [List.length_take]; omega
      have hw := Lib.decodeLastL_width (s.data.toList.take i) (by omega)
      rw [hlen] at hw
      have hfw := Lib.fw_width s.data.toList i hi hil ho
      have hsplit : s.data.toList.take i = s.data.toList.take (i - 1) ++ [s.data.toList[i - 1]'(by omega)] := by
        have := List.take_succ_eq_append_getElem (l := s.data.toList) (i := i - 1) (by omega)
        rw [show i - 1 + 1 = i by omega] at this
        exact this
      have hstop : spB (s.data.toList[i - 1]'(by omega)) = false → sp (Lib.decodeLastL (s.data.toList.take i)).1 = false → ((s.data.toList.take i).reverse.dropWhile spB).reverse = s.data.toList.take (if 0 ≤ Lib.lastIdxFuncFrom sp false s (f + 1) i then (Lib.lastIdxFuncFrom sp false s (f + 1) i).toNat + (Lib.decodeL (s.data.toList.drop (Lib.lastIdxFuncFrom sp false s (f + 1) i).toNat)).2 else 0) := by
        intro h1 h2
        simp only [Lib.lastIdxFuncFrom, if_pos hi, h2, if_true]
        rw [if_pos (by omega), Int.toNat_natCast, hfw, Nat.sub_add_cancel hw.2]
        conv => lhs; rw [hsplit, List.reverse_append]
        rw [List.reverse_singleton, List.singleton_append, List.dropWhile_cons, if_neg (by rw [h1]; simp), ← List.singleton_append, ← List.reverse_singleton, ← List.reverse_append, List.reverse_reverse, ← hsplit]
      rcases Lib.last_cases s.data.toList i hi hil with ⟨ha, hd⟩ | ⟨ha, hd⟩ | ⟨ha, st, hst, hd, hsum⟩
      · rw [getD_at _ _ (by omega)] at ha hd
        cases hs : spB (s.data.toList[i - 1]'(by omega)) with
        | false => exact hstop hs (by rw [hd]; simp only; rw [sp_low, hs])
        | true =>
          have h2 : sp (Lib.decodeLastL (s.data.toList.take i)).1 = true := by rw [hd]; simp only; rw [sp_low, hs]
          simp only [Lib.lastIdxFuncFrom, if_pos hi, h2, if_false, Bool.true_eq_false]
          rw [hd]
          simp only
          rw [← right_sp s f (i - 1) (by omega) (by omega) (.inr (by rw [getD_at _ _ (by omega)]; omega))]
          rw [hsplit, List.reverse_append, List.reverse_singleton, List.singleton_append, List.dropWhile_cons, if_pos hs]
      · rw [getD_at _ _ (by omega)] at ha
        exact hstop (spB_high _ ha) (by rw [hd]; decide +kernel)
      · rw [getD_at _ _ (by omega)] at ha
        refine hstop (spB_high _ ha) ?_
        rw [hd]
        have hst' : st < (s.data.toList.take i).length := by omega
        rw [List.drop_eq_getElem_cons hst'] at hsum ⊢
        by_cases hlow : ((s.data.toList.take i)[st]).toNat < 128
        · exfalso
          rw [Lib.decodeL_ascii _ _ hlow] at hsum
          simp only at hsum
          obtain rfl : st = i - 1 := by omega
          rw [List.getElem_take] at hlow
          omega
        · exact sp_high _ _ (by omega)
    · obtain rfl : i = 0 := by omega
      rw [Lib.lastIdxFuncFrom_zero]
      simp
theorem last_lt (s : ByteArray) : ∀ (f i : Nat), i ≤ s.size → Lib.lastIdxFuncFrom sp false s f i = -1 ∨ (0 ≤ Lib.lastIdxFuncFrom sp false s f i ∧ Lib.lastIdxFuncFrom sp false s f i < (i : Int))
  | 0, i, _ => .inl rfl
  | f + 1, i, h => by
    unfold Lib.lastIdxFuncFrom
    by_cases hi : 0 < i
    · have hw := Lib.decodeLastL_width (s.data.toList.take i) (by rw [List.length_take, ← Lib.size_eq]; omega)
      rw [List.length_take, ← Lib.size_eq] at hw
      rw [if_pos hi]
      split
      · right; omega
      · rcases last_lt s f (i - (Lib.decodeLastL (s.data.toList.take i)).2) (by omega) with q | q
        · exact .inl q
        · right; omega
    · rw [if_neg hi]; exact .inl rfl
theorem trimRight_sp (s : ByteArray) : Lib.trimRightF sp s = ba ((s.data.toList.reverse.dropWhile spB).reverse) := by
  have h := right_sp s s.size s.data.toList.length (by rw [← Lib.size_eq]; exact Nat.le_refl _) (Nat.le_refl _) (.inl rfl)
  rw [List.take_length, ← Lib.size_eq] at h
  apply ext_list
  rw [ba_list, h]
  unfold Lib.trimRightF Lib.rightEndF Lib.lastIdxFunc
  rw [extract_list, List.drop_zero, Nat.sub_zero]
  congr 1
  split
  · rename_i h0
    congr 1
    unfold Lib.decodeGoB
    have hr := last_lt s s.size s.size (Nat.le_refl _)
    generalize Lib.lastIdxFuncFrom sp false s s.size s.size = R at *
    have e : s.extract R.toNat s.size = ba (s.data.toList.drop R.toNat) := ext_list (by rw [extract_list, ba_list, List.take_of_length_le (by rw [List.length_drop, ← Lib.size_eq]; exact Nat.le_refl _)])
    rw [e, ba_size]
    by_cases hz : (s.data.toList.drop R.toNat).length = 0
    · rw [List.length_drop, ← Lib.size_eq] at hz; omega
    · rw [if_neg hz, dec_ba]
  · rfl
theorem trim_sp (s : ByteArray) : Lib.trimF sp s = ba (trimSp s.data.toList) := by
  unfold Lib.trimF trimSp
  rw [trimLeft_sp, trimRight_sp, ba_list]
end Go.Proofs.YthilcidoacgdfaaGreatDoor.FigC
