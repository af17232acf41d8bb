/- CharWithin: the plain law and the walk. -/
import Derived.Test.YticpobgkbapdmaaDoorKwCharE
import Derived.Test.YticpobgkbapdmaaDoorKwCharF
import Derived.Lib.RuneBytes
namespace Go.Proofs.YticpobgkbapdmaaDoor.CharA
end Go.Proofs.YticpobgkbapdmaaDoor.CharA
namespace Go.Proofs.YticpobgkbapdmaaDoor.CharB
end Go.Proofs.YticpobgkbapdmaaDoor.CharB
namespace Go.Proofs.YticpobgkbapdmaaDoor.CharC
end Go.Proofs.YticpobgkbapdmaaDoor.CharC
namespace Go.Proofs.YticpobgkbapdmaaDoor.CharD
end Go.Proofs.YticpobgkbapdmaaDoor.CharD
namespace Go.Proofs.YticpobgkbapdmaaDoor.CharE
end Go.Proofs.YticpobgkbapdmaaDoor.CharE
namespace Go.Proofs.YticpobgkbapdmaaDoor.CharF
end Go.Proofs.YticpobgkbapdmaaDoor.CharF
namespace Go.Proofs.YticpobgkbapdmaaDoorW.PrintLast
end Go.Proofs.YticpobgkbapdmaaDoorW.PrintLast
namespace Go.Proofs.YticpobgkbapdmaaDoorW.PrintMore
end Go.Proofs.YticpobgkbapdmaaDoorW.PrintMore
namespace Go.Proofs.YticpobgkbapdmaaDoorW.PrintWords
end Go.Proofs.YticpobgkbapdmaaDoorW.PrintWords
namespace Go.Proofs.YticpobgkbapdmaaDoor.CharH
open Go.RowKit Go.Proofs.YticpobgkbapdmaaDoorW.PrintWords Go.Proofs.YticpobgkbapdmaaDoorW.PrintLast Go.Proofs.YticpobgkbapdmaaDoorW.PrintMore Go.Proofs.YticpobgkbapdmaaDoor.CharA Go.Proofs.YticpobgkbapdmaaDoor.CharB Go.Proofs.YticpobgkbapdmaaDoor.CharC Go.Proofs.YticpobgkbapdmaaDoor.CharD Go.Proofs.YticpobgkbapdmaaDoor.CharE Go.Proofs.YticpobgkbapdmaaDoor.CharF
set_option linter.unusedVariables false
set_option linter.unusedSimpArgs false
set_option linter.unnecessarySimpa false
theorem part_range (r : Int) (h : partB r = true) : 45 ≤ r ∧ r ≤ 983039 ∧ (r < 55296 ∨ 57343 < r) := by
  unfold partB at h
  rw [← CharC.start_eq, Bool.or_eq_true, CharC.within_iff, CharC.within_iff] at h
  simp only [rStart, partL, List.mem_cons, List.not_mem_nil, or_false, exists_eq_or_imp, exists_eq_left] at h
  omega
theorem part_nospace (r : Int) (h : partB r = true) : spaceB r = false := by
  have := part_range r h
  unfold spaceB
  simp
  omega
theorem space_is (r : Int) (h : spaceB r = true) : isB r = true := by
  unfold spaceB at h
  unfold isB
  rw [CharC.within_iff]
  simp only [isL, List.mem_cons, List.not_mem_nil, or_false, exists_eq_or_imp, exists_eq_left]
  simp at h
  omega
theorem start_part (r : Int) (h : startB r = true) : partB r = true := by unfold partB; rw [h]; rfl
def enc (r : Int) : ByteArray := ⟨(Lib.encodeRune r).toArray⟩
theorem enc_model (r : Int) (h0 : 0 ≤ r) (h1 : r ≤ 1114111) (h2 : r < 55296 ∨ 57343 < r) : Utf8.encode r = enc r := by
  obtain ⟨n, rfl⟩ : ∃ n : Nat, r = (n : Int) := ⟨r.toNat, by omega⟩
  have hv : Utf8.valid (n : Int) = true := by unfold Utf8.valid; simp; omega
  unfold enc Lib.encodeRune Utf8.encode
  simp only [hv, if_true, Int.toNat_natCast]
  by_cases c1 : n < 128
  · rw [Lib.encodeRuneZ_one (by omega) (by omega), if_pos c1]
    simp only [List.map_cons, List.map_nil, Int.toNat_natCast]
  rw [if_neg c1]
  by_cases c2 : n < 2048
  · rw [Lib.encodeRuneZ_two (by omega) (by omega), if_pos c2]
    simp only [List.map_cons, List.map_nil, show (192 + (n : Int) / 64).toNat = 192 + n / 64 by omega, show (128 + (n : Int) % 64).toNat = 128 + n % 64 by omega]
  rw [if_neg c2]
  by_cases c3 : n < 65536
  · rw [Lib.encodeRuneZ_three (by omega), if_pos c3]
    simp only [List.map_cons, List.map_nil, show (224 + (n : Int) / 4096).toNat = 224 + n / 4096 by omega, show (128 + (n : Int) / 64 % 64).toNat = 128 + n / 64 % 64 by omega, show (128 + (n : Int) % 64).toNat = 128 + n % 64 by omega]
  · rw [Lib.encodeRuneZ_four (by omega) (by omega), if_neg c3]
    simp only [List.map_cons, List.map_nil, show (240 + (n : Int) / 262144).toNat = 240 + n / 262144 by omega, show (128 + (n : Int) / 4096 % 64).toNat = 128 + n / 4096 % 64 by omega, show (128 + (n : Int) / 64 % 64).toNat = 128 + n / 64 % 64 by omega, show (128 + (n : Int) % 64).toNat = 128 + n % 64 by omega]
theorem enc_size (r : Int) : 1 ≤ (enc r).size ∧ (enc r).size ≤ 4 := by
  have := Lib.encodeRuneZ_length r
  have e : (enc r).size = (Lib.encodeRune r).length := by simp [enc, ByteArray.size]
  rw [e]
  unfold Lib.encodeRune
  rw [List.length_map]
  exact this
theorem byte (x : Int) (h0 : 0 ≤ x) (h1 : x < 256) : (x.toNat.toUInt8).toNat = x.toNat := by
  show (UInt8.ofNat x.toNat).toNat = x.toNat
  rw [UInt8.toNat_ofNat']
  omega
theorem enc_decode (r : Int) (h0 : 0 ≤ r) (h1 : r ≤ 1114111) (h2 : r < 55296 ∨ 57343 < r) : Utf8.decode (enc r) 0 = (r.toNat, (enc r).size) := by
  have e : (enc r).size = (Lib.encodeRune r).length := by simp [enc, ByteArray.size]
  have hd : Utf8.decode (enc r) 0 = Lib.decodeL (Lib.encodeRune r) := by
    rw [← Lib.decodeL_drop, List.drop_zero]
    rfl
  rw [hd, Lib.decodeL_N, e]
  unfold Lib.encodeRune
  by_cases c1 : r < 128
  · rw [Lib.encodeRuneZ_one (by omega) (by omega)]
    simp only [List.map_cons, List.map_nil, List.length_cons, List.length_nil, List.getD_cons_zero]
    rw [byte _ (by omega) (by omega)]
    unfold Lib.decodeN
    rw [if_pos (by omega)]
  by_cases c2 : r < 2048
  · rw [Lib.encodeRuneZ_two (by omega) (by omega)]
    simp only [List.map_cons, List.map_nil, List.length_cons, List.length_nil, List.getD_cons_zero, List.getD_cons_succ]
    rw [byte _ (by omega) (by omega), byte _ (by omega) (by omega)]
    unfold Lib.decodeN
    rw [if_neg (by omega), if_pos (by omega), if_pos (by omega)]
    exact Prod.ext (by simp only; omega) rfl
  by_cases c3 : r < 65536
  · rw [Lib.encodeRuneZ_three (by omega)]
    simp only [List.map_cons, List.map_nil, List.length_cons, List.length_nil, List.getD_cons_zero, List.getD_cons_succ]
    rw [byte _ (by omega) (by omega), byte _ (by omega) (by omega), byte _ (by omega) (by omega)]
    unfold Lib.decodeN
    rw [if_neg (by omega), if_neg (by omega), if_pos (by omega), if_pos (by omega)]
    exact Prod.ext (by simp only; omega) rfl
  · rw [Lib.encodeRuneZ_four (by omega) (by omega)]
    simp only [List.map_cons, List.map_nil, List.length_cons, List.length_nil, List.getD_cons_zero, List.getD_cons_succ]
    rw [byte _ (by omega) (by omega), byte _ (by omega) (by omega), byte _ (by omega) (by omega), byte _ (by omega) (by omega)]
    unfold Lib.decodeN
    rw [if_neg (by omega), if_neg (by omega), if_neg (by omega), if_pos (by omega), if_pos (by omega)]
    exact Prod.ext (by simp only; omega) rfl
theorem enc_chars (r : Int) (h0 : 0 ≤ r) (h1 : r ≤ 1114111) (h2 : r < 55296 ∨ 57343 < r) : charsL (enc r) (enc r).size 0 = some [r] := by
  have hd := enc_decode r h0 h1 h2
  obtain ⟨l1, l2⟩ := enc_size r
  obtain ⟨n, hn⟩ : ∃ n, (enc r).size = n + 1 := ⟨(enc r).size - 1, by omega⟩
  rw [hn]
  simp only [charsL]
  rw [if_pos (by omega), if_neg, hd, Nat.zero_add, charsL_end _ _ _ (by omega)]
  · simp; omega
  · rw [hd]
    intro e
    have e1 := congrArg Prod.fst e
    have e2 := congrArg Prod.snd e
    simp only at e1 e2
    obtain rfl : r = 65533 := by omega
    have h3 : (enc 65533).size = 3 := by decide +kernel
    omega
theorem name_cases (s : ByteArray) (h : nameB s = true) : 1 ≤ s.size ∧ s.size ≤ 32 ∧ ∃ a l, charsL s s.size 0 = some (a :: l) ∧ startB a = true ∧ (a :: l).all partB = true := by
  unfold nameB at h
  by_cases h1 : s.size < 1
  · rw [if_pos h1] at h; cases h
  rw [if_neg h1] at h
  by_cases h2 : 32 < s.size
  · rw [if_pos h2] at h; cases h
  rw [if_neg h2, Bool.and_eq_true, textB_chars] at h
  obtain ⟨ht, hn⟩ := h
  refine ⟨by omega, by omega, ?_⟩
  cases hc : charsL s s.size 0 with
  | none => rw [hc] at ht; cases ht
  | some l =>
    cases l with
    | nil =>
      exfalso
      obtain ⟨m, hm⟩ : ∃ m, s.size = m + 1 := ⟨s.size - 1, by omega⟩
      rw [hm] at hc
      simp only [charsL] at hc
      rw [if_pos (by omega)] at hc
      split at hc
      · cases hc
      · obtain ⟨l', hl', e⟩ := Option.map_eq_some_iff.1 hc
        cases e
    | cons a l =>
      rw [nameR_first s _ a l hc, Bool.and_eq_true] at hn
      exact ⟨a, l, rfl, hn.1, hn.2⟩
theorem name_more (s : ByteArray) (r : Int) (h : nameB s = true) (hr : partB r = true) (hs : s.size ≤ 28) : nameB (s ++ enc r) = true := by
  obtain ⟨h1, _, a, l, hc, ha, hl⟩ := name_cases s h
  obtain ⟨r0, r1, r2⟩ := part_range r hr
  obtain ⟨l1, l2⟩ := enc_size r
  have happ := chars_app s (enc r) s.size 0 _ (by omega) (by omega) hc
  rw [enc_chars r (by omega) (by omega) r2, ← app_size] at happ
  simp only [Option.map_some] at happ
  have hall : ((a :: l) ++ [r]).all partB = true := by
    rw [List.all_append, hl]
    simp [hr]
  unfold nameB
  rw [if_neg (by rw [app_size]; omega), if_neg (by rw [app_size]; omega), textB_chars, happ]
  simp only
  rw [all_mono part_is _ hall, nameR_first _ _ a (l ++ [r]) happ, ha]
  simpa using hall
end Go.Proofs.YticpobgkbapdmaaDoor.CharH
