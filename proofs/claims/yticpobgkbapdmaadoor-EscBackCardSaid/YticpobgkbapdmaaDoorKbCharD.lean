/- Plain laws of char, the second half: Chars, Text, Name, Blank. -/
import Derived.Test.YticpobgkbapdmaaDoorKbCharC
namespace Go.Proofs.YticpobgkbapdmaaDoor.CharA
end Go.Proofs.YticpobgkbapdmaaDoor.CharA
namespace Go.Proofs.YticpobgkbapdmaaDoor.CharB
end Go.Proofs.YticpobgkbapdmaaDoor.CharB
namespace Go.Proofs.YticpobgkbapdmaaDoor.CharC
end Go.Proofs.YticpobgkbapdmaaDoor.CharC
namespace Go.Proofs.YticpobgkbapdmaaDoor.PR1
end Go.Proofs.YticpobgkbapdmaaDoor.PR1
namespace Go.Proofs.YticpobgkbapdmaaDoorW.PrintLast
end Go.Proofs.YticpobgkbapdmaaDoorW.PrintLast
namespace Go.Proofs.YticpobgkbapdmaaDoorW.PrintMore
end Go.Proofs.YticpobgkbapdmaaDoorW.PrintMore
namespace Go.Proofs.YticpobgkbapdmaaDoorW.PrintWords
end Go.Proofs.YticpobgkbapdmaaDoorW.PrintWords
namespace Go.Proofs.YticpobgkbapdmaaDoor.CharD
open Go.RowKit Go.Proofs.YticpobgkbapdmaaDoorW.PrintWords Go.Proofs.YticpobgkbapdmaaDoorW.PrintLast Go.Proofs.YticpobgkbapdmaaDoorW.PrintMore Go.Proofs.YticpobgkbapdmaaDoor.CharA Go.Proofs.YticpobgkbapdmaaDoor.CharB Go.Proofs.YticpobgkbapdmaaDoor.CharC Go.Proofs.YticpobgkbapdmaaDoor.PR1
set_option linter.unusedVariables false
set_option linter.unusedSimpArgs false
set_option linter.unnecessarySimpa false
/-- The characters from a byte on; none: no right UTF-8. -/
def charsL (s : ByteArray) : Nat → Nat → Option (List Int)
  | 0, _ => some []
  | n + 1, pos => if pos < s.size then (if Utf8.decode s pos = (65533, 1) then none else (charsL s n (pos + (Utf8.decode s pos).2)).map (((Utf8.decode s pos).1 : Int) :: ·)) else some []
theorem charsL_end (s : ByteArray) (n pos : Nat) (h : ¬ pos < s.size) : charsL s n pos = some [] := by
  cases n with
  | zero => rfl
  | succ n => simp [charsL, h]
theorem list_extract (s : ByteArray) (pos : Nat) : (s.extract pos s.size).data.toList = s.data.toList.drop pos := by
  rw [ByteArray.data_extract, Array.toList_extract]
  simp only [List.extract]
  rw [List.take_of_length_le]
  rw [List.length_drop, ← Lib.size_eq]
  omega
theorem dw (n b0 b1 b2 b3 : Nat) (h : 0 < n) : (Lib.decodeN n b0 b1 b2 b3).2 ≤ n := by
  unfold Lib.decodeN
  repeat' split
  all_goals (simp; try omega)
theorem width_le (s : ByteArray) (pos : Nat) (h : pos < s.size) : pos + (Utf8.decode s pos).2 ≤ s.size := by
  rw [Lib.decode_N]
  have := dw (s.data.toList.length - pos) (s.data.toList.getD pos 0).toNat (s.data.toList.getD (pos + 1) 0).toNat (s.data.toList.getD (pos + 2) 0).toNat (s.data.toList.getD (pos + 3) 0).toNat (by rw [← Lib.size_eq]; omega)
  rw [← Lib.size_eq] at this ⊢
  omega
theorem one_at (k : Nat) (hk : 40 < k) (s : ByteArray) (pos : Nat) (hp : pos < s.size) (hs : s.size < 9223372036854775807) :
    breviaryref01_One.f k (s.extract pos s.size) = some (if Utf8.decode s pos = (65533, 1) then (0, 0) else (((Utf8.decode s pos).1 : Int), ((Utf8.decode s pos).2 : Int))) := by
  have hl := list_extract s pos
  have hsz : (s.extract pos s.size).size = s.size - pos := by
    have := congrArg List.length hl
    simpa using this
  have hb : ∀ i : Nat, bt (s.extract pos s.size) (i : Int) = ((s.data.toList.getD (pos + i) 0).toNat : Int) := by
    intro i
    rw [bt_n, hl, Lib.getD_dropU]
  have lt : ∀ x : UInt8, x.toNat ≤ 255 := fun x => by have := x.toNat_lt; omega
  have h0 := hb 0
  have := one_f k hk (s.extract pos s.size) (s.size - pos) _ _ _ _ hsz (by omega) (by omega) h0 (hb 1) (hb 2) (hb 3) (lt _) (lt _) (lt _) (lt _)
  rw [this]
  have hd := Lib.decode_N s pos
  rw [Lib.size_eq] at *
  unfold oneN
  rw [Nat.add_zero, ← hd]
  split <;> rfl
theorem chars_l0 (s : ByteArray) (hs : s.size < 1000000000000) : ∀ (n pos k : Nat) (acc : List Int), s.size ≤ pos + n → pos ≤ s.size → n + 50 < k → acc.length ≤ pos →
    breviaryref01_Chars.l0 k s acc (pos : Int) = some (match charsL s n pos with | none => ([], false) | some l => (acc ++ l, true)) := by
  intro n
  induction n with
  | zero =>
    intro pos k acc h hp hk ha
    obtain ⟨k, rfl⟩ : ∃ j, k = j + 1 := ⟨k - 1, by omega⟩
    rw [breviaryref01_Chars.l0, if_neg (by omega)]
    simp [charsL]
  | succ n ih =>
    intro pos k acc h hp hk ha
    obtain ⟨k, rfl⟩ : ∃ j, k = j + 1 := ⟨k - 1, by omega⟩
    by_cases hlt : pos < s.size
    · rw [breviaryref01_Chars.l0, if_pos (by omega), if_pos (by omega), if_pos (by omega), Int.toNat_natCast, one_at k (by omega) s pos hlt (by omega), bs]
      simp only [charsL, if_pos hlt]
      by_cases hd : Utf8.decode s pos = (65533, 1)
      · rw [if_pos hd, if_pos hd, if_pos rfl]
      · rw [if_neg hd, if_neg hd]
        have hw := width_pos s pos hlt
        have hle : pos + (Utf8.decode s pos).2 ≤ s.size := width_le s pos hlt
        generalize (Utf8.decode s pos).1 = q at *
        generalize (Utf8.decode s pos).2 = q2 at *
        simp only
        rw [if_neg (by omega), if_pos (by omega), w64 (by omega) (by omega)]
        have := ih (pos + q2) k (acc ++ [(q : Int)]) (by omega) hle (by omega) (by simp; omega)
        rw [show ((pos : Int) + (q2 : Int)) = ((pos + q2 : Nat) : Int) by simp, this]
        cases charsL s n (pos + q2) with
        | none => rfl
        | some l => simp
    · rw [charsL_end _ _ _ hlt, breviaryref01_Chars.l0, if_neg (by omega)]
      simp
theorem chars_f (s : ByteArray) (hs : s.size < 1000000000000) (k : Nat) (hk : s.size + 50 < k) : breviaryref01_Chars.f k s = some (match charsL s s.size 0 with | none => ([], false) | some l => (l, true)) := by
  unfold breviaryref01_Chars.f
  have := chars_l0 s hs s.size 0 k [] (by omega) (by omega) hk (by simp)
  simpa using this
theorem valid_chars (s : ByteArray) : ∀ (n pos : Nat), s.size ≤ pos + n → Lib.validD (s.data.toList.drop pos) = (charsL s n pos).isSome := by
  intro n
  induction n with
  | zero =>
    intro pos h
    rw [List.drop_eq_nil_of_le (by rw [← Lib.size_eq]; omega)]
    rfl
  | succ n ih =>
    intro pos h
    by_cases hlt : pos < s.size
    · rw [Lib.validD_step _ (by intro e; have := congrArg List.length e; rw [List.length_drop, ← Lib.size_eq] at this; simp at this; omega), Lib.decodeL_drop]
      simp only [charsL, if_pos hlt]
      have hw := width_pos s pos hlt
      by_cases hd : Utf8.decode s pos = (65533, 1)
      · rw [if_pos hd, if_pos (by rw [hd]; exact ⟨rfl, rfl⟩)]; rfl
      · rw [if_neg hd, if_neg (by intro e; exact hd (Prod.ext e.1 e.2)), List.drop_drop, ih _ (by omega)]
        cases charsL s n (pos + (Utf8.decode s pos).2) <;> rfl
    · rw [charsL_end _ _ _ hlt, List.drop_eq_nil_of_le (by rw [← Lib.size_eq]; omega)]
      rfl
theorem allR_chars (p : Int → Bool) (s : ByteArray) : ∀ (n pos : Nat) (l : List Int), charsL s n pos = some l → allR p s n pos = l.all p := by
  intro n
  induction n with
  | zero => intro pos l h; simp [charsL] at h; subst h; rfl
  | succ n ih =>
    intro pos l h
    simp only [charsL] at h
    simp only [allR]
    split at h
    · rename_i hlt
      rw [if_pos hlt]
      split at h
      · cases h
      · obtain ⟨l', hl', rfl⟩ := Option.map_eq_some_iff.1 h
        rw [ih _ _ hl', List.all_cons]
        cases p ((Utf8.decode s pos).1 : Int) <;> rfl
    · rename_i hlt
      rw [if_neg hlt]
      cases h
      rfl
theorem text_loop (L : List Int) (hL : L.length < 1000000000000) : ∀ (n i k : Nat) (is : Bool), L.length ≤ i + n → i ≤ L.length → n + 40 < k → breviaryref01_Text.l0 k L is (i : Int) = some (is && (L.drop i).all isB) := by
  intro n
  induction n with
  | zero =>
    intro i k is h hi hk
    obtain ⟨k, rfl⟩ : ∃ j, k = j + 1 := ⟨k - 1, by omega⟩
    rw [breviaryref01_Text.l0, if_neg (by omega), List.drop_eq_nil_of_le (by omega)]
    simp
  | succ n ih =>
    intro i k is h hi hk
    obtain ⟨k, rfl⟩ : ∃ j, k = j + 1 := ⟨k - 1, by omega⟩
    by_cases hlt : i < L.length
    · rw [breviaryref01_Text.l0, if_pos (by omega), w64 (by omega) (by omega)]
      have e1 : ((i : Int) + 1) = ((i + 1 : Nat) : Int) := by omega
      have e2 : rd L (i : Int) = L[i] := by unfold rd; rw [Int.toNat_natCast, List.getD_eq_getElem?_getD, List.getElem?_eq_getElem hlt]; rfl
      rw [List.drop_eq_getElem_cons hlt, List.all_cons, e1]
      cases is with
      | true => rw [if_pos rfl, if_pos (by omega), ref_is k (by omega), bs, ih (i + 1) k _ (by omega) (by omega) (by omega), e2]; rfl
      | false => rw [if_neg (by decide), ih (i + 1) k _ (by omega) (by omega) (by omega)]; rfl
    · rw [breviaryref01_Text.l0, if_neg (by omega), List.drop_eq_nil_of_le (by omega)]
      simp
theorem charsL_length (s : ByteArray) : ∀ (n pos : Nat) (l : List Int), charsL s n pos = some l → l.length ≤ n := by
  intro n
  induction n with
  | zero => intro pos l h; simp [charsL] at h; subst h; simp
  | succ n ih =>
    intro pos l h
    simp only [charsL] at h
    split at h
    · split at h
      · cases h
      · obtain ⟨l', hl', rfl⟩ := Option.map_eq_some_iff.1 h
        have := ih _ _ hl'
        simp; omega
    · cases h
      simp
theorem ref_text (s : ByteArray) (hs : s.size < 1000000000) (k : Nat) (hk : s.size + 100 < k) : breviaryref01_Text.f k s = some (textB s) := by
  unfold breviaryref01_Text.f textB
  rw [chars_f s (by omega) k (by omega), bs]
  have hv := valid_chars s s.size 0 (by omega)
  rw [List.drop_zero] at hv
  rw [hv]
  cases hc : charsL s s.size 0 with
  | none =>
    have := text_loop [] (by simp) 0 0 k false (by simp) (by simp) (by omega)
    exact this
  | some l =>
    have hl := charsL_length s _ _ _ hc
    have := text_loop l (by omega) l.length 0 k true (by omega) (by omega) (by omega)
    rw [List.drop_zero] at this
    rw [allR_chars isB s _ _ _ hc]
    exact this
/-! ### Blank -/
theorem bt_get (s : ByteArray) (pos : Nat) (h : pos < s.size) : bt s (pos : Int) = ((s[pos]'h).toNat : Int) := by
  unfold bt
  rw [dif_pos (by simpa using h)]
  simp
end Go.Proofs.YticpobgkbapdmaaDoor.CharD
