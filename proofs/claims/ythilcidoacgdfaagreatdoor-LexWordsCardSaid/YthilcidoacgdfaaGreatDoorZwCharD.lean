import Derived.Test.YthilcidoacgdfaaGreatDoorZwCharC
namespace Go.Proofs.YthilcidoacgdfaaGreatDoor.CharA
end Go.Proofs.YthilcidoacgdfaaGreatDoor.CharA
namespace Go.Proofs.YthilcidoacgdfaaGreatDoor.CharB
end Go.Proofs.YthilcidoacgdfaaGreatDoor.CharB
namespace Go.Proofs.YthilcidoacgdfaaGreatDoor.CharC
end Go.Proofs.YthilcidoacgdfaaGreatDoor.CharC
namespace Go.Proofs.YthilcidoacgdfaaGreatDoor.PF
end Go.Proofs.YthilcidoacgdfaaGreatDoor.PF
namespace Go.Proofs.YthilcidoacgdfaaGreatDoorW.PrintLast
end Go.Proofs.YthilcidoacgdfaaGreatDoorW.PrintLast
namespace Go.Proofs.YthilcidoacgdfaaGreatDoorW.PrintMore
end Go.Proofs.YthilcidoacgdfaaGreatDoorW.PrintMore
namespace Go.Proofs.YthilcidoacgdfaaGreatDoorW.PrintWords
end Go.Proofs.YthilcidoacgdfaaGreatDoorW.PrintWords
namespace Go.Proofs.YthilcidoacgdfaaGreatDoor.CharD
open Go.RowKit YthilcidoacgdfaaGreatDoorW.PrintWords YthilcidoacgdfaaGreatDoorW.PrintLast YthilcidoacgdfaaGreatDoorW.PrintMore CharA CharB CharC PF
set_option linter.unusedVariables false
set_option linter.unusedSimpArgs false
set_option linter.unnecessarySimpa false
def qd1 (s : ByteArray) : Nat → Nat → Option (List Int)
 | 0, _ => some []
 | n + 1, pos => if pos < s.size then (if Utf8.decode s pos = (65533, 1) then none else (qd1 s n (pos + (Utf8.decode s pos).2)).map (((Utf8.decode s pos).1 : Int) :: ·)) else some []
theorem charsL_end (s : ByteArray) (n pos : Nat) (h : ¬ pos < s.size) : qd1 s n pos = some [] := by
 cases n with
 | zero => rfl
 | succ n => simp [qd1, h]
theorem list_extract (s : ByteArray) (pos : Nat) : (s.extract pos s.size).data.toList = s.data.toList.drop pos := by
 rw [ByteArray.data_extract, Array.toList_extract]
 simp only [List.extract]
 rw [List.take_of_length_le]
 rw [List.length_drop, ← Lib.size_eq]
 omega
theorem dw (n b0 b1 b2 b3 : Nat) (h : 0 < n) : (Lib.decodeN n b0 b1 b2 b3).2 ≤ n := by
 unfold Lib.decodeN
 repeat' split
 all_goals (simp; try omega)
theorem width_le (s : ByteArray) (pos : Nat) (h : pos < s.size) : pos + (Utf8.decode s pos).2 ≤ s.size := by
 rw [Lib.decode_N]
 have := dw (s.data.toList.length - pos) (s.data.toList.getD pos 0).toNat (s.data.toList.getD (pos + 1) 0).toNat (s.data.toList.getD (pos + 2) 0).toNat (s.data.toList.getD (pos + 3) 0).toNat (by rw [← Lib.size_eq]; omega)
 rw [← Lib.size_eq] at this ⊢
 omega
theorem one_at (k : Nat) (hk : 40 < k) (s : ByteArray) (pos : Nat) (hp : pos < s.size) (hs : s.size < 9223372036854775807) :
  breviaryref01_One.f k (s.extract pos s.size) = some (if Utf8.decode s pos = (65533, 1) then (0, 0) else (((Utf8.decode s pos).1 : Int), ((Utf8.decode s pos).2 : Int))) := by
 have hl := list_extract s pos
 have hsz : (s.extract pos s.size).size = s.size - pos := by
  have := congrArg List.length hl
  simpa using this
 have hb : ∀ i : Nat, bt (s.extract pos s.size) (i : Int) = ((s.data.toList.getD (pos + i) 0).toNat : Int) := by
  intro i
  rw [bt_n, hl, Lib.getD_dropU]
 have lt : ∀ x : UInt8, x.toNat ≤ 255 := fun x => by have := x.toNat_lt; omega
 have h0 := hb 0
 have := one_f k hk (s.extract pos s.size) (s.size - pos) _ _ _ _ hsz (by omega) (by omega) h0 (hb 1) (hb 2) (hb 3) (lt _) (lt _) (lt _) (lt _)
 rw [this]
 have hd := Lib.decode_N s pos
 rw [Lib.size_eq] at *
 unfold oneN
 rw [Nat.add_zero, ← hd]
 split <;> rfl
theorem chars_l0 (s : ByteArray) (hs : s.size < 1000000000000) : ∀ (n pos k : Nat) (acc : List Int), s.size ≤ pos + n → pos ≤ s.size → n + 50 < k → acc.length ≤ pos →
  breviaryref01_Chars.l0 k s acc (pos : Int) = some (match qd1 s n pos with | none => ([], false) | some l => (acc ++ l, true)) := by
 intro n
 induction n with
 | zero =>
  intro pos k acc h hp hk ha
  obtain ⟨k, rfl⟩ : ∃ j, k = j + 1 := ⟨k - 1, by omega⟩
  rw [breviaryref01_Chars.l0, if_neg (by omega)]
  simp [qd1]
 | succ n ih =>
  intro pos k acc h hp hk ha
  obtain ⟨k, rfl⟩ : ∃ j, k = j + 1 := ⟨k - 1, by omega⟩
  by_cases hlt : pos < s.size
  ·rw [breviaryref01_Chars.l0, if_pos (by omega), if_pos (by omega), if_pos (by omega), Int.toNat_natCast, one_at k (by omega) s pos hlt (by omega), bs]
   simp only [qd1, if_pos hlt]
   by_cases hd : Utf8.decode s pos = (65533, 1)
   ·rw [if_pos hd, if_pos hd, if_pos rfl]
   ·rw [if_neg hd, if_neg hd]
    have hw := qu1 s pos hlt
    have hle : pos + (Utf8.decode s pos).2 ≤ s.size := width_le s pos hlt
    generalize (Utf8.decode s pos).1 = q at *
    generalize (Utf8.decode s pos).2 = q2 at *
    simp only
    rw [if_neg (by omega), if_pos (by omega), w64 (by omega) (by omega)]
    have := ih (pos + q2) k (acc ++ [(q : Int)]) (by omega) hle (by omega) (by simp; omega)
    rw [show ((pos : Int) + (q2 : Int)) = ((pos + q2 : Nat) : Int) by simp, this]
    cases qd1 s n (pos + q2) with
    | none => rfl
    | some l => simp
  ·rw [charsL_end _ _ _ hlt, breviaryref01_Chars.l0, if_neg (by omega)]
   simp
theorem chars_f (s : ByteArray) (hs : s.size < 1000000000000) (k : Nat) (hk : s.size + 50 < k) : breviaryref01_Chars.f k s = some (match qd1 s s.size 0 with | none => ([], false) | some l => (l, true)) := by
 unfold breviaryref01_Chars.f
 have := chars_l0 s hs s.size 0 k [] (by omega) (by omega) hk (by simp)
 simpa using this
theorem valid_chars (s : ByteArray) : ∀ (n pos : Nat), s.size ≤ pos + n → Lib.validD (s.data.toList.drop pos) = (qd1 s n pos).isSome := by
 intro n
 induction n with
 | zero =>
  intro pos h
  rw [List.drop_eq_nil_of_le (by rw [← Lib.size_eq]; omega)]
  rfl
 | succ n ih =>
  intro pos h
  by_cases hlt : pos < s.size
  ·rw [Lib.validD_step _ (by intro e; have := congrArg List.length e; rw [List.length_drop, ← Lib.size_eq] at this; simp at this; omega), Lib.decodeL_drop]
   simp only [qd1, if_pos hlt]
   have hw := qu1 s pos hlt
   by_cases hd : Utf8.decode s pos = (65533, 1)
   ·rw [if_pos hd, if_pos (by rw [hd]; exact ⟨rfl, rfl⟩)]; rfl
   ·rw [if_neg hd, if_neg (by intro e; exact hd (Prod.ext e.1 e.2)), List.drop_drop, ih _ (by omega)]
    cases qd1 s n (pos + (Utf8.decode s pos).2) <;> rfl
  ·rw [charsL_end _ _ _ hlt, List.drop_eq_nil_of_le (by rw [← Lib.size_eq]; omega)]
   rfl
theorem allR_chars (p : Int → Bool) (s : ByteArray) : ∀ (n pos : Nat) (l : List Int), qd1 s n pos = some l → allR p s n pos = l.all p := by
 intro n
 induction n with
 | zero => intro pos l h; simp [qd1] at h; subst h; rfl
 | succ n ih =>
  intro pos l h
  simp only [qd1] at h
  simp only [allR]
  split at h
  ·rename_i hlt
   rw [if_pos hlt]
   split at h
   ·cases h
   ·obtain ⟨l', hl', rfl⟩ := Option.map_eq_some_iff.1 h
    rw [ih _ _ hl', List.all_cons]
    cases p ((Utf8.decode s pos).1 : Int) <;> rfl
  ·rename_i hlt
   rw [if_neg hlt]
   cases h
   rfl
theorem nameR_later (s : ByteArray) : ∀ (n pos : Nat) (l : List Int), 0 < pos → qd1 s n pos = some l → nameR s n pos = l.all partB := by
 intro n
 induction n with
 | zero => intro pos l h0 h; simp [qd1] at h; subst h; rfl
 | succ n ih =>
  intro pos l h0 h
  simp only [qd1] at h
  simp only [nameR]
  split at h
  ·rename_i hlt
   rw [if_pos hlt, if_neg (by omega)]
   split at h
   ·cases h
   ·obtain ⟨l', hl', rfl⟩ := Option.map_eq_some_iff.1 h
    rw [ih _ _ (by omega) hl', List.all_cons]
    cases partB ((Utf8.decode s pos).1 : Int) <;> rfl
  ·rename_i hlt
   rw [if_neg hlt]
   cases h
   rfl
theorem nameR_first (s : ByteArray) (n : Nat) (a : Int) (l : List Int) (h : qd1 s n 0 = some (a :: l)) : nameR s n 0 = (startB a && (a :: l).all partB) := by
 cases n with
 | zero => simp [qd1] at h
 | succ n =>
  simp only [qd1] at h
  simp only [nameR]
  split at h
  ·rename_i hlt
   rw [if_pos hlt]
   have hw := qu1 s 0 hlt
   split at h
   ·cases h
   ·obtain ⟨l', hl', e⟩ := Option.map_eq_some_iff.1 h
    obtain ⟨rfl, rfl⟩ := List.cons.inj e
    rw [nameR_later s n _ _ (by omega) hl', List.all_cons]
    cases startB ((Utf8.decode s 0).1 : Int) <;> cases partB ((Utf8.decode s 0).1 : Int) <;> rfl
  ·cases h
theorem all_mono {p q : Int → Bool} (hpq : ∀ a, p a = true → q a = true) : ∀ l : List Int, l.all p = true → l.all q = true
 | [], _ => rfl
 | a :: l, h => by
  simp only [List.all_cons, Bool.and_eq_true] at h ⊢
  exact ⟨hpq a h.1, all_mono hpq l h.2⟩
theorem text_loop (L : List Int) (hL : L.length < 1000000000000) : ∀ (n i k : Nat) (is : Bool), L.length ≤ i + n → i ≤ L.length → n + 40 < k → breviaryref01_Text.l0 k L is (i : Int) = some (is && (L.drop i).all isB) := by
 intro n
 induction n with
 | zero =>
  intro i k is h hi hk
  obtain ⟨k, rfl⟩ : ∃ j, k = j + 1 := ⟨k - 1, by omega⟩
  rw [breviaryref01_Text.l0, if_neg (by omega), List.drop_eq_nil_of_le (by omega)]
  simp
 | succ n ih =>
  intro i k is h hi hk
  obtain ⟨k, rfl⟩ : ∃ j, k = j + 1 := ⟨k - 1, by omega⟩
  by_cases hlt : i < L.length
  ·rw [breviaryref01_Text.l0, if_pos (by omega), w64 (by omega) (by omega)]
   have e1 : ((i : Int) + 1) = ((i + 1 : Nat) : Int) := by omega
   have e2 : rd L (i : Int) = L[i] := by unfold rd; rw [Int.toNat_natCast, List.getD_eq_getElem?_getD, List.getElem?_eq_getElem hlt]; rfl
   rw [List.drop_eq_getElem_cons hlt, List.all_cons, e1]
   cases is with
   | true => rw [if_pos rfl, if_pos (by omega), ref_is k (by omega), bs, ih (i + 1) k _ (by omega) (by omega) (by omega), e2]; rfl
   | false => rw [if_neg (by decide), ih (i + 1) k _ (by omega) (by omega) (by omega)]; rfl
  ·rw [breviaryref01_Text.l0, if_neg (by omega), List.drop_eq_nil_of_le (by omega)]
   simp
theorem name_loop (L : List Int) (hL : L.length < 1000000000000) : ∀ (n i k : Nat), L.length ≤ i + n → i ≤ L.length → n + 40 < k → breviaryref01_Name.l0 k L (i : Int) = some ((L.drop i).all partB) := by
 intro n
 induction n with
 | zero =>
  intro i k h hi hk
  obtain ⟨k, rfl⟩ : ∃ j, k = j + 1 := ⟨k - 1, by omega⟩
  rw [breviaryref01_Name.l0, if_neg (by omega), List.drop_eq_nil_of_le (by omega)]
  simp
 | succ n ih =>
  intro i k h hi hk
  obtain ⟨k, rfl⟩ : ∃ j, k = j + 1 := ⟨k - 1, by omega⟩
  by_cases hlt : i < L.length
  ·rw [breviaryref01_Name.l0, if_pos (by omega), if_pos (by omega), w64 (by omega) (by omega)]
   have e1 : ((i : Int) + 1) = ((i + 1 : Nat) : Int) := by omega
   have e2 : rd L (i : Int) = L[i] := by unfold rd; rw [Int.toNat_natCast, List.getD_eq_getElem?_getD, List.getElem?_eq_getElem hlt]; rfl
   rw [List.drop_eq_getElem_cons hlt, List.all_cons, e1, ref_part k (by omega), bs, ih (i + 1) k (by omega) (by omega) (by omega), e2]
   cases partB L[i] <;> rfl
  ·rw [breviaryref01_Name.l0, if_neg (by omega), List.drop_eq_nil_of_le (by omega)]
   simp
theorem charsL_length (s : ByteArray) : ∀ (n pos : Nat) (l : List Int), qd1 s n pos = some l → l.length ≤ n := by
 intro n
 induction n with
 | zero => intro pos l h; simp [qd1] at h; subst h; simp
 | succ n ih =>
  intro pos l h
  simp only [qd1] at h
  split at h
  ·split at h
   ·cases h
   ·obtain ⟨l', hl', rfl⟩ := Option.map_eq_some_iff.1 h
    have := ih _ _ hl'
    simp; omega
  ·cases h
   simp
theorem ref_text (s : ByteArray) (hs : s.size < 1000000000) (k : Nat) (hk : s.size + 100 < k) : breviaryref01_Text.f k s = some (textB s) := by
 unfold breviaryref01_Text.f textB
 rw [chars_f s (by omega) k (by omega), bs]
 have hv := valid_chars s s.size 0 (by omega)
 rw [List.drop_zero] at hv
 rw [hv]
 cases hc : qd1 s s.size 0 with
 | none =>
  have := text_loop [] (by simp) 0 0 k false (by simp) (by simp) (by omega)
  exact this
 | some l =>
  have hl := charsL_length s _ _ _ hc
  have := text_loop l (by omega) l.length 0 k true (by omega) (by omega) (by omega)
  rw [List.drop_zero] at this
  rw [allR_chars isB s _ _ _ hc]
  exact this
theorem ref_name (s : ByteArray) (hs : s.size < 1000000000) (k : Nat) (hk : s.size + 100 < k) : breviaryref01_Name.f k s = some (nameB s) := by
 obtain ⟨k, rfl⟩ : ∃ j, k = j + 1 := ⟨k - 1, by omega⟩
 unfold breviaryref01_Name.f nameB
 rw [chars_f s (by omega) _ (by omega), bs]
 have hv := valid_chars s s.size 0 (by omega)
 rw [List.drop_zero] at hv
 unfold textB
 rw [hv]
 have hj : ∀ l, breviaryref01_Name.j0 (k + 1) l true = some false := fun l => by rw [breviaryref01_Name.j0, if_pos rfl]
 cases hc : qd1 s s.size 0 with
 | none =>
  rw [if_neg (by simp), hj]
  repeat' split
  all_goals rfl
 | some l =>
  rw [if_pos rfl]
  by_cases h1 : s.size < 1
  ·rw [if_pos (by omega), if_pos h1, hj]
  rw [if_neg (by omega), if_neg h1]
  by_cases h2 : 32 < s.size
  ·rw [if_pos (by omega), if_pos h2, hj]
  rw [if_neg (by omega), if_neg h2]
  have hl := charsL_length s _ _ _ hc
  cases l with
  | nil =>
   exfalso
   obtain ⟨m, hm⟩ : ∃ m, s.size = m + 1 := ⟨s.size - 1, by omega⟩
   rw [hm] at hc
   simp only [qd1] at hc
   rw [if_pos (by omega)] at hc
   split at hc
   ·cases hc
   ·obtain ⟨l', hl', e⟩ := Option.map_eq_some_iff.1 hc
    cases e
  | cons a l =>
   rw [if_pos (by simp), nameR_first s _ a l hc, allR_chars isB s _ _ _ hc]
   have e2 : rd (a :: l) 0 = a := rfl
   simp only
   rw [e2, ref_start _ (by omega), bs]
   have hn := name_loop (a :: l) (by omega) (a :: l).length 0 k (by omega) (by omega) (by omega)
   rw [List.drop_zero] at hn
   cases hst : startB a with
   | false => rw [breviaryref01_Name.j0, if_pos (show (!false) = true from rfl)]; simp
   | true =>
    rw [breviaryref01_Name.j0, if_neg (by simp)]
    rw [show ((0 : Nat) : Int) = 0 from rfl] at hn
    rw [hn]
    have := all_mono part_is (a :: l)
    cases hp : (a :: l).all partB with
    | false => simp
    | true => rw [this hp]; rfl
theorem decode_big (s : ByteArray) (pos : Nat) (h : pos < s.size) (ha : 128 ≤ (s[pos]'h).toNat) : spaceB ((Utf8.decode s pos).1 : Int) = false := by
 have := (decode_high s pos h ha).1
 unfold spaceB
 generalize (Utf8.decode s pos).1 = q at *
 simp
 omega
theorem bt_get (s : ByteArray) (pos : Nat) (h : pos < s.size) : bt s (pos : Int) = ((s[pos]'h).toNat : Int) := by
 unfold bt
 rw [dif_pos (by simpa using h)]
 simp
end Go.Proofs.YthilcidoacgdfaaGreatDoor.CharD
