/- Plain laws of char: a text behind a text. -/
import Derived.Test.YthilcidoacgdfaaDoorLsCharD
namespace Go.Proofs.YthilcidoacgdfaaDoor.CharA
end Go.Proofs.YthilcidoacgdfaaDoor.CharA
namespace Go.Proofs.YthilcidoacgdfaaDoor.CharB
end Go.Proofs.YthilcidoacgdfaaDoor.CharB
namespace Go.Proofs.YthilcidoacgdfaaDoor.CharC
end Go.Proofs.YthilcidoacgdfaaDoor.CharC
namespace Go.Proofs.YthilcidoacgdfaaDoor.CharD
end Go.Proofs.YthilcidoacgdfaaDoor.CharD
namespace Go.Proofs.YthilcidoacgdfaaDoorW.PrintLast
end Go.Proofs.YthilcidoacgdfaaDoorW.PrintLast
namespace Go.Proofs.YthilcidoacgdfaaDoorW.PrintMore
end Go.Proofs.YthilcidoacgdfaaDoorW.PrintMore
namespace Go.Proofs.YthilcidoacgdfaaDoorW.PrintWords
end Go.Proofs.YthilcidoacgdfaaDoorW.PrintWords
namespace Go.Proofs.YthilcidoacgdfaaDoor.CharF
open Go.RowKit Go.Proofs.YthilcidoacgdfaaDoorW.PrintWords Go.Proofs.YthilcidoacgdfaaDoorW.PrintLast Go.Proofs.YthilcidoacgdfaaDoorW.PrintMore Go.Proofs.YthilcidoacgdfaaDoor.CharA Go.Proofs.YthilcidoacgdfaaDoor.CharB Go.Proofs.YthilcidoacgdfaaDoor.CharC Go.Proofs.YthilcidoacgdfaaDoor.CharD
set_option linter.unusedVariables false
set_option linter.unusedSimpArgs false
set_option linter.unnecessarySimpa false
theorem dec_more (n n' b0 b1 b2 b3 c1 c2 c3 : Nat) (hn : n ≤ n') (h1 : 1 < n → c1 = b1) (h2 : 2 < n → c2 = b2) (h3 : 3 < n → c3 = b3) (hg : Lib.decodeN n b0 b1 b2 b3 ≠ (65533, 1)) :
    Lib.decodeN n' b0 c1 c2 c3 = Lib.decodeN n b0 b1 b2 b3 := by
  unfold Lib.decodeN at hg ⊢
  by_cases e0 : b0 < 128
  · rw [if_pos e0, if_pos e0]
  rw [if_neg e0] at hg ⊢
  rw [if_neg e0]
  by_cases e1 : b0 / 32 = 6 ∧ (1 < n ∧ b1 / 64 = 2)
  · obtain rfl := h1 e1.2.1
    rw [if_pos e1, if_pos ⟨e1.1, by omega, e1.2.2⟩]
  rw [if_neg e1] at hg ⊢
  by_cases e2 : b0 / 16 = 14 ∧ (1 < n ∧ b1 / 64 = 2) ∧ (2 < n ∧ b2 / 64 = 2)
  · obtain rfl := h1 e2.2.1.1
    obtain rfl := h2 e2.2.2.1
    rw [if_pos e2, if_neg (by omega), if_pos ⟨e2.1, ⟨by omega, e2.2.1.2⟩, by omega, e2.2.2.2⟩]
  rw [if_neg e2] at hg ⊢
  by_cases e3 : b0 / 8 = 30 ∧ (1 < n ∧ b1 / 64 = 2) ∧ (2 < n ∧ b2 / 64 = 2) ∧ (3 < n ∧ b3 / 64 = 2)
  · obtain rfl := h1 e3.2.1.1
    obtain rfl := h2 e3.2.2.1.1
    obtain rfl := h3 e3.2.2.2.1
    rw [if_pos e3, if_neg (by omega), if_neg (by omega), if_pos ⟨e3.1, ⟨by omega, e3.2.1.2⟩, ⟨by omega, e3.2.2.1.2⟩, by omega, e3.2.2.2.2⟩]
  · rw [if_neg e3] at hg
    exact absurd rfl hg
theorem app_list (a b : ByteArray) : (a ++ b).data.toList = a.data.toList ++ b.data.toList := by simp
theorem app_size (a b : ByteArray) : (a ++ b).size = a.size + b.size := by simp
theorem decode_app (a b : ByteArray) (pos : Nat) (hp : pos < a.size) (hg : Utf8.decode a pos ≠ (65533, 1)) : Utf8.decode (a ++ b) pos = Utf8.decode a pos := by
  rw [Lib.decode_N] at hg ⊢
  rw [Lib.decode_N]
  have hb : ∀ i, i < a.size - pos → (a ++ b).data.toList.getD (pos + i) 0 = a.data.toList.getD (pos + i) 0 := by
    intro i hi
    rw [app_list]
    have : pos + i < a.data.toList.length := by rw [← Lib.size_eq]; omega
    simp [List.getD, List.getElem?_append_left this]
  have h0 := hb 0 (by omega)
  rw [Nat.add_zero] at h0
  rw [h0]
  refine dec_more _ _ _ _ _ _ _ _ _ ?_ ?_ ?_ ?_ hg
  · rw [app_list, List.length_append]; omega
  · intro h; rw [hb 1 (by rw [← Lib.size_eq] at h; omega)]
  · intro h; rw [hb 2 (by rw [← Lib.size_eq] at h; omega)]
  · intro h; rw [hb 3 (by rw [← Lib.size_eq] at h; omega)]
theorem decode_shift (a b : ByteArray) (p : Nat) : Utf8.decode (a ++ b) (a.size + p) = Utf8.decode b p := by
  rw [← Lib.decodeL_drop, ← Lib.decodeL_drop, app_list]
  congr 1
  rw [Lib.size_eq, List.drop_append]
  simp
theorem chars_shift (a b : ByteArray) : ∀ n p, charsL (a ++ b) n (a.size + p) = charsL b n p := by
  intro n
  induction n with
  | zero => intro p; rfl
  | succ n ih =>
    intro p
    simp only [charsL]
    rw [decode_shift, app_size, Nat.add_assoc, ih]
    by_cases h : p < b.size
    · rw [if_pos h, if_pos (by omega)]
    · rw [if_neg h, if_neg (by omega)]
theorem chars_fuel (s : ByteArray) : ∀ n m p, s.size ≤ p + n → charsL s (n + m) p = charsL s n p := by
  intro n
  induction n with
  | zero =>
    intro m p h
    rw [charsL_end _ _ _ (by omega), charsL_end _ _ _ (by omega)]
  | succ n ih =>
    intro m p h
    rw [show n + 1 + m = (n + m) + 1 by omega]
    simp only [charsL]
    by_cases hp : p < s.size
    · have := width_pos s p hp
      rw [ih m _ (by omega)]
    · rw [if_neg hp, if_neg hp]
theorem chars_app (a b : ByteArray) : ∀ n pos l, pos ≤ a.size → a.size ≤ pos + n → charsL a n pos = some l → charsL (a ++ b) (n + b.size) pos = (charsL b b.size 0).map (l ++ ·) := by
  intro n
  induction n with
  | zero =>
    intro pos l h1 h2 h
    obtain rfl : pos = a.size := by omega
    simp only [charsL] at h
    cases h
    have := chars_shift a b b.size 0
    rw [Nat.add_zero] at this
    rw [Nat.zero_add, this]
    simp
  | succ n ih =>
    intro pos l h1 h2 h
    by_cases hp : pos < a.size
    · simp only [charsL, if_pos hp] at h
      split at h
      · cases h
      · rename_i hd
        obtain ⟨l', hl', rfl⟩ := Option.map_eq_some_iff.1 h
        have hw := width_pos a pos hp
        rw [show n + 1 + b.size = (n + b.size) + 1 by omega]
        simp only [charsL]
        rw [if_pos (by rw [app_size]; omega), decode_app a b pos hp hd, if_neg hd, ih _ l' (width_le a pos hp) (by omega) hl']
        cases charsL b b.size 0 <;> simp
    · obtain rfl : pos = a.size := by omega
      rw [charsL_end _ _ _ (by omega)] at h
      cases h
      have := chars_shift a b (n + 1 + b.size) 0
      rw [show a.size + 0 = a.size from rfl] at this
      rw [this, show n + 1 + b.size = b.size + (n + 1) by omega, chars_fuel b _ _ _ (by omega)]
      simp
theorem textB_chars (s : ByteArray) : textB s = (match charsL s s.size 0 with | none => false | some l => l.all isB) := by
  unfold textB
  have hv := valid_chars s s.size 0 (by omega)
  rw [List.drop_zero] at hv
  rw [hv]
  cases hc : charsL s s.size 0 with
  | none => rfl
  | some l => rw [allR_chars isB s _ _ _ hc]; simp
theorem text_app (a b : ByteArray) (h : textB a = true) : textB (a ++ b) = textB b := by
  rw [textB_chars] at h ⊢
  rw [textB_chars b]
  cases hc : charsL a a.size 0 with
  | none => rw [hc] at h; cases h
  | some l =>
    rw [hc] at h
    have := chars_app a b a.size 0 l (by omega) (by omega) hc
    rw [app_size, this]
    cases charsL b b.size 0 with
    | none => rfl
    | some lb =>
      simp only [Option.map_some, List.all_append]
      simp only at h
      rw [h]
      rfl
end Go.Proofs.YthilcidoacgdfaaDoor.CharF
