/- Plain laws of esc: what was put is what it was; the digits of a number are its reference. -/
import Derived.Test.YticpobgkbapdmaaDoorKoEscK
namespace Go.Proofs.YticpobgkbapdmaaDoor.CharA
end Go.Proofs.YticpobgkbapdmaaDoor.CharA
namespace Go.Proofs.YticpobgkbapdmaaDoor.CharB
end Go.Proofs.YticpobgkbapdmaaDoor.CharB
namespace Go.Proofs.YticpobgkbapdmaaDoor.CharC
end Go.Proofs.YticpobgkbapdmaaDoor.CharC
namespace Go.Proofs.YticpobgkbapdmaaDoor.CharD
end Go.Proofs.YticpobgkbapdmaaDoor.CharD
namespace Go.Proofs.YticpobgkbapdmaaDoor.CharF
end Go.Proofs.YticpobgkbapdmaaDoor.CharF
namespace Go.Proofs.YticpobgkbapdmaaDoor.CharH
end Go.Proofs.YticpobgkbapdmaaDoor.CharH
namespace Go.Proofs.YticpobgkbapdmaaDoor.EscB
end Go.Proofs.YticpobgkbapdmaaDoor.EscB
namespace Go.Proofs.YticpobgkbapdmaaDoor.EscC
end Go.Proofs.YticpobgkbapdmaaDoor.EscC
namespace Go.Proofs.YticpobgkbapdmaaDoor.EscD
end Go.Proofs.YticpobgkbapdmaaDoor.EscD
namespace Go.Proofs.YticpobgkbapdmaaDoor.EscF
end Go.Proofs.YticpobgkbapdmaaDoor.EscF
namespace Go.Proofs.YticpobgkbapdmaaDoor.EscG
end Go.Proofs.YticpobgkbapdmaaDoor.EscG
namespace Go.Proofs.YticpobgkbapdmaaDoor.EscI
end Go.Proofs.YticpobgkbapdmaaDoor.EscI
namespace Go.Proofs.YticpobgkbapdmaaDoor.EscJ
end Go.Proofs.YticpobgkbapdmaaDoor.EscJ
namespace Go.Proofs.YticpobgkbapdmaaDoor.EscK
end Go.Proofs.YticpobgkbapdmaaDoor.EscK
namespace Go.Proofs.YticpobgkbapdmaaDoor.PR1
end Go.Proofs.YticpobgkbapdmaaDoor.PR1
namespace Go.Proofs.YticpobgkbapdmaaDoor.SpanA
end Go.Proofs.YticpobgkbapdmaaDoor.SpanA
namespace Go.Proofs.YticpobgkbapdmaaDoor.SpanD
end Go.Proofs.YticpobgkbapdmaaDoor.SpanD
namespace Go.Proofs.YticpobgkbapdmaaDoorW.PrintLast
end Go.Proofs.YticpobgkbapdmaaDoorW.PrintLast
namespace Go.Proofs.YticpobgkbapdmaaDoorW.PrintMore
end Go.Proofs.YticpobgkbapdmaaDoorW.PrintMore
namespace Go.Proofs.YticpobgkbapdmaaDoorW.PrintWords
end Go.Proofs.YticpobgkbapdmaaDoorW.PrintWords
namespace Go.Proofs.YticpobgkbapdmaaDoor.EscM
open Go.RowKit Go.Proofs.YticpobgkbapdmaaDoorW.PrintWords Go.Proofs.YticpobgkbapdmaaDoorW.PrintLast Go.Proofs.YticpobgkbapdmaaDoorW.PrintMore Go.Proofs.YticpobgkbapdmaaDoor.CharA Go.Proofs.YticpobgkbapdmaaDoor.CharB Go.Proofs.YticpobgkbapdmaaDoor.CharC Go.Proofs.YticpobgkbapdmaaDoor.CharD Go.Proofs.YticpobgkbapdmaaDoor.CharF Go.Proofs.YticpobgkbapdmaaDoor.CharH Go.Proofs.YticpobgkbapdmaaDoor.SpanA Go.Proofs.YticpobgkbapdmaaDoor.SpanD Go.Proofs.YticpobgkbapdmaaDoor.EscB Go.Proofs.YticpobgkbapdmaaDoor.EscC Go.Proofs.YticpobgkbapdmaaDoor.EscD Go.Proofs.YticpobgkbapdmaaDoor.EscF Go.Proofs.YticpobgkbapdmaaDoor.EscG Go.Proofs.YticpobgkbapdmaaDoor.EscI Go.Proofs.YticpobgkbapdmaaDoor.EscJ Go.Proofs.YticpobgkbapdmaaDoor.EscK Go.Proofs.YticpobgkbapdmaaDoor.PR1
set_option linter.unusedVariables false
set_option linter.unusedSimpArgs false
/-! ### a text's first character -/
theorem dec_L (l : List UInt8) : Utf8.decode (ba l) 0 = Lib.decodeL l := by
  have := Lib.decodeL_drop (ba l) 0
  rw [List.drop_zero, ba_list] at this
  exact this.symm
theorem textB_step (l : List UInt8) (h : l ≠ []) : textB (ba l) = if Lib.decodeL l = (65533, 1) then false else isB ((Lib.decodeL l).1 : Int) && textB (ba (l.drop (Lib.decodeL l).2)) := by
  have hp : 0 < (ba l).size := by rw [ba_size]; exact List.length_pos_iff.2 h
  have hw := width_le (ba l) 0 hp
  have hw0 := width_pos (ba l) 0 hp
  rw [dec_L, ba_size] at hw
  rw [dec_L] at hw0
  obtain ⟨n, hn⟩ : ∃ n, (ba l).size = n + 1 := ⟨(ba l).size - 1, by omega⟩
  rw [textB_chars]
  rw [hn]
  simp only [charsL, if_pos hp, dec_L]
  rw [ba_size] at hn
  by_cases hd : Lib.decodeL l = (65533, 1)
  · rw [if_pos hd, if_pos hd]
  · rw [if_neg hd, if_neg hd, textB_chars]
    generalize hwd : (Lib.decodeL l).2 = w at *
    have e1 : ba l = ba (l.take w) ++ ba (l.drop w) := by rw [ba_app, List.take_append_drop]
    have e2 : (ba (l.take w)).size = w := by rw [ba_size, List.length_take]; omega
    have e3 : charsL (ba l) n (0 + w) = charsL (ba (l.drop w)) (ba (l.drop w)).size 0 := by
      have h1 := chars_shift (ba (l.take w)) (ba (l.drop w)) n 0
      rw [← e1, e2, Nat.add_zero] at h1
      rw [Nat.zero_add, h1]
      have h2 := chars_fuel (ba (l.drop w)) (ba (l.drop w)).size (n - (ba (l.drop w)).size) 0 (by omega)
      rw [← h2]
      congr 1
      rw [ba_size, List.length_drop]
      omega
    rw [e3]
    cases charsL (ba (l.drop w)) (ba (l.drop w)).size 0 with
    | none => simp
    | some q => simp
theorem dec_low (c : UInt8) (t : List UInt8) (h : c.toNat < 128) : Lib.decodeL (c :: t) = (c.toNat, 1) := Lib.decodeL_ascii c t h
theorem textB_low (c : UInt8) (t : List UInt8) (h : c.toNat < 128) : textB (ba (c :: t)) = (isB (c.toNat : Int) && textB (ba t)) := by
  rw [textB_step _ (by simp), dec_low c t h, if_neg (by simp; omega)]
  rfl
/-! ### what was put is a text just if it was -/
/-! ### and stands for what it was -/
/-! ### the digits of a number -/
/-- The digits of a number ahead of a text. -/
def dgL : Nat → Nat → List UInt8 → List UInt8
  | 0, _, acc => acc
  | k + 1, n, acc => if 0 < n then dgL k (n / 10) (UInt8.ofNat (48 + n % 10) :: acc) else acc
def decL (n : Nat) : List UInt8 := if n = 0 then [48] else dgL 30 n []
theorem digit_cut (d : Nat) (h : d < 10) : (⟨#[48, 49, 50, 51, 52, 53, 54, 55, 56, 57]⟩ : ByteArray).extract d (d + 1) = ⟨#[UInt8.ofNat (48 + d)]⟩ := by
  have : ∀ d : Fin 10, (⟨#[48, 49, 50, 51, 52, 53, 54, 55, 56, 57]⟩ : ByteArray).extract d.1 (d.1 + 1) = ⟨#[UInt8.ofNat (48 + d.1)]⟩ := by decide +kernel
  exact this ⟨d, h⟩
theorem wu {n : Int} (h0 : 0 ≤ n) (h1 : n < 18446744073709551616) : IntKind.u64.wrap n = n := IntWalk.u64_in _ ⟨h0, by omega⟩
theorem digits_l0 : ∀ (m : Nat) (n : Nat) (acc : List UInt8) (k : Nat), n < 10 ^ m → n < 18446744073709551616 → m < k → acc ≠ [] → acc.length + m < 1000 → breviarylaw05_digits.l0 k (n : Int) (ba acc) = some (ba (dgL m n acc)) := by
  intro m
  induction m with
  | zero =>
    intro n acc k hn hn2 hk ha hl
    obtain ⟨k, rfl⟩ : ∃ j, k = j + 1 := ⟨k - 1, by omega⟩
    obtain rfl : n = 0 := by simpa using hn
    rw [breviarylaw05_digits.l0, if_neg (by omega), tl, ba_list, if_neg ha]
    rfl
  | succ m ih =>
    intro n acc k hn hn2 hk ha hl
    obtain ⟨k, rfl⟩ : ∃ j, k = j + 1 := ⟨k - 1, by omega⟩
    by_cases h0 : 0 < n
    · have e1 : Int.tmod (n : Int) 10 = ((n % 10 : Nat) : Int) := by rw [tm _ _ (by omega) (by omega)]; omega
      have e2 : Int.tdiv (n : Int) 10 = ((n / 10 : Nat) : Int) := by rw [td _ _ (by omega)]; omega
      have e3 : IntKind.u64.wrap (((n % 10 : Nat) : Int) + 1) = ((n % 10 + 1 : Nat) : Int) := by rw [wu (by omega) (by omega)]; omega
      have e4 : IntKind.u64.wrap ((n / 10 : Nat) : Int) = ((n / 10 : Nat) : Int) := wu (by omega) (by omega)
      rw [breviarylaw05_digits.l0, if_pos (by omega), e1, e2, e3, e4, if_pos (by omega), if_pos (by omega), if_pos (by omega), Int.toNat_natCast, Int.toNat_natCast, digit_cut _ (by omega), ba_size, if_pos (by show 1 + acc.length ≤ _; omega)]
      have h10 : n / 10 < 10 ^ m := by rw [Nat.pow_succ] at hn; omega
      have := ih (n / 10) (UInt8.ofNat (48 + n % 10) :: acc) k h10 (by omega) (by omega) (by simp) (by simp only [List.length_cons]; omega)
      simp only [dgL, if_pos h0]
      rw [← this]
      rfl
    · obtain rfl : n = 0 := by omega
      rw [breviarylaw05_digits.l0, if_neg (by omega), tl, ba_list, if_neg ha]
      rfl
theorem digits_f (n : Nat) (hn : n < 4294967296) (k : Nat) (hk : 60 < k) : breviarylaw05_digits.f k (n : Int) = some (ba (decL n)) := by
  unfold breviarylaw05_digits.f decL
  obtain ⟨k, rfl⟩ : ∃ j, k = j + 1 := ⟨k - 1, by omega⟩
  by_cases h0 : n = 0
  · subst h0
    rw [if_pos rfl]
    have := digits_l0 0 0 [48] k (by omega) (by omega) (by omega) (by simp) (by simp)
    have e1 : Int.tmod ((0 : Nat) : Int) 10 = ((0 : Nat) : Int) := rfl
    have e2 : Int.tdiv ((0 : Nat) : Int) 10 = ((0 : Nat) : Int) := rfl
    have e3 : IntKind.u64.wrap (((0 : Nat) : Int) + 1) = ((0 + 1 : Nat) : Int) := by rw [wu (by omega) (by omega)]; omega
    have e4 : IntKind.u64.wrap ((0 : Nat) : Int) = ((0 : Nat) : Int) := wu (by omega) (by omega)
    rw [breviarylaw05_digits.l0, if_neg (by omega), if_pos (by rw [tl]), e1, e2, e3, e4, if_pos (by omega), if_pos (by omega), if_pos (by omega), Int.toNat_natCast, Int.toNat_natCast, digit_cut _ (by omega), if_pos (by show 1 + 0 ≤ _; omega)]
    exact this
  · have e1 : Int.tmod (n : Int) 10 = ((n % 10 : Nat) : Int) := by rw [tm _ _ (by omega) (by omega)]; omega
    have e2 : Int.tdiv (n : Int) 10 = ((n / 10 : Nat) : Int) := by rw [td _ _ (by omega)]; omega
    have e3 : IntKind.u64.wrap (((n % 10 : Nat) : Int) + 1) = ((n % 10 + 1 : Nat) : Int) := by rw [wu (by omega) (by omega)]; omega
    have e4 : IntKind.u64.wrap ((n / 10 : Nat) : Int) = ((n / 10 : Nat) : Int) := wu (by omega) (by omega)
    rw [if_neg h0, breviarylaw05_digits.l0, if_pos (by omega), e1, e2, e3, e4, if_pos (by omega), if_pos (by omega), if_pos (by omega), Int.toNat_natCast, Int.toNat_natCast, digit_cut _ (by omega), if_pos (by show 1 + 0 ≤ _; omega)]
    have := digits_l0 29 (n / 10) [UInt8.ofNat (48 + n % 10)] k (by omega) (by omega) (by omega) (by simp) (by simp)
    have hd : dgL 30 n [] = dgL 29 (n / 10) [UInt8.ofNat (48 + n % 10)] := by simp only [dgL, if_pos (show 0 < n by omega)]
    rw [hd, ← this]
    rfl
def cap (n : Nat) : Int := if (n : Int) > 1114111 then 1114112 else (n : Int)
theorem hexv_digit (d : Nat) (h : d < 10) : hexv (((UInt8.ofNat (48 + d)).toNat : Nat) : Int) = (d : Int) := by
  have : ∀ d : Fin 10, hexv (((UInt8.ofNat (48 + d.1)).toNat : Nat) : Int) = (d.1 : Int) := by decide +kernel
  exact this ⟨d, h⟩
theorem numL_step (n : Nat) (acc : List UInt8) : numL 10 (cap (n / 10)) (UInt8.ofNat (48 + n % 10) :: acc) = numL 10 (cap n) acc := by
  have hd := hexv_digit (n % 10) (by omega)
  simp only [numL]
  rw [hd, if_pos (by omega)]
  congr 1
  unfold cap
  repeat' split
  all_goals omega
theorem numL_dg : ∀ (m n : Nat) (acc : List UInt8), n < 10 ^ m → numL 10 0 (dgL m n acc) = numL 10 (cap n) acc
  | 0, n, acc, h => by
    obtain rfl : n = 0 := by simpa using h
    rfl
  | m + 1, n, acc, h => by
    simp only [dgL]
    by_cases h0 : 0 < n
    · rw [if_pos h0, numL_dg m (n / 10) _ (by rw [Nat.pow_succ] at h; omega), numL_step]
    · obtain rfl : n = 0 := by omega
      rfl
theorem dg_ne : ∀ (m n : Nat) (acc : List UInt8), acc ≠ [] → dgL m n acc ≠ []
  | 0, _, _, h => h
  | m + 1, n, acc, h => by
    simp only [dgL]
    split
    · exact dg_ne m _ _ (by simp)
    · exact h
theorem decL_ne (n : Nat) : decL n ≠ [] := by
  unfold decL
  split
  · simp
  · rw [show dgL 30 n [] = if 0 < n then dgL 29 (n / 10) (UInt8.ofNat (48 + n % 10) :: []) else [] from rfl, if_pos (by omega)]
    exact dg_ne _ _ _ (List.cons_ne_nil _ _)
theorem decL_num (n : Nat) (h : n < 4294967296) : numB 10 (decL n) = cap n := by
  unfold numB
  rw [if_neg (decL_ne n)]
  unfold decL
  split
  · rename_i e; subst e; rfl
  · rw [numL_dg 30 n [] (by omega)]; rfl
def digB (c : UInt8) : Bool := decide (48 ≤ c.toNat) && decide (c.toNat ≤ 57)
theorem dig_of (d : Nat) (h : d < 10) : digB (UInt8.ofNat (48 + d)) = true := by
  have : ∀ d : Fin 10, digB (UInt8.ofNat (48 + d.1)) = true := by decide +kernel
  exact this ⟨d, h⟩
theorem dg_all : ∀ (m n : Nat) (acc : List UInt8), acc.all digB = true → (dgL m n acc).all digB = true
  | 0, _, _, h => h
  | m + 1, n, acc, h => by
    simp only [dgL]
    split
    · exact dg_all m _ _ (by rw [List.all_cons, dig_of _ (by omega), h]; rfl)
    · exact h
theorem decL_all (n : Nat) : (decL n).all digB = true := by
  unfold decL
  split
  · decide +kernel
  · exact dg_all _ _ _ rfl
theorem dg_len : ∀ (m n : Nat) (acc : List UInt8), (dgL m n acc).length ≤ m + acc.length
  | 0, _, _ => by simp [dgL]
  | m + 1, n, acc => by
    simp only [dgL]
    split
    · have := dg_len m (n / 10) (UInt8.ofNat (48 + n % 10) :: acc); simp only [List.length_cons] at this; omega
    · omega
theorem decL_len (n : Nat) : (decL n).length ≤ 30 := by
  unfold decL
  split
  · simp
  · exact dg_len 30 n []
theorem digB_iff (c : UInt8) (h : digB c = true) : 48 ≤ c.toNat ∧ c.toNat ≤ 57 := by
  unfold digB at h
  simpa using h
theorem isB_low (n : Nat) (h : 32 ≤ n) (h2 : n < 128) : isB (n : Int) = true := by
  unfold isB
  rw [CharC.within_iff]
  exact ⟨(32, 55295), by decide +kernel, by show (32 : Int) ≤ n; omega, by show (n : Int) ≤ 55295; omega⟩
theorem text_dig : ∀ (l z : List UInt8), l.all digB = true → textB (ba (l ++ z)) = textB (ba z)
  | [], z, _ => rfl
  | c :: l, z, h => by
    rw [List.all_cons, Bool.and_eq_true] at h
    have hc := digB_iff c h.1
    rw [List.cons_append, textB_low c _ (by omega), isB_low c.toNat (by omega) (by omega), text_dig l z h.2]
    rfl
theorem cutS_dig : ∀ (l z : List UInt8), l.all digB = true → cutS (l ++ 59 :: z) = some (l, z)
  | [], z, _ => by simp [cutS]
  | c :: l, z, h => by
    rw [List.all_cons, Bool.and_eq_true] at h
    have hc := digB_iff c h.1
    have hne : c ≠ 59 := fun e => by rw [e] at hc; have := hc.2; revert this; decide
    rw [List.cons_append]
    simp only [cutS]
    rw [if_neg hne, cutS_dig l z h.2]
/-- The text of a number's reference. -/
def refT (n : Nat) : List UInt8 := 38 :: 35 :: (decL n ++ [59])
theorem refN_dec (n : Nat) (h : n < 4294967296) : refN (35 :: decL n) = cap n := by
  have hall := decL_all n
  have hnum := decL_num n h
  have hne := decL_ne n
  generalize decL n = l at *
  match l with
  | [] => exact absurd rfl hne
  | c :: t =>
    rw [List.all_cons, Bool.and_eq_true] at hall
    have hc := digB_iff c hall.1
    have h120 : ¬ (120 : UInt8) = c := fun e => by rw [← e] at hc; have := hc.2; revert this; decide
    unfold refN
    rw [if_neg (by simp [List.isPrefixOf, h120]), if_pos (by simp [List.isPrefixOf])]
    exact hnum
theorem chr_dec (n : Nat) (h : n < 4294967296) : chr (35 :: decL n) = if isB (n : Int) = true then some (enc (n : Int)).data.toList else none := by
  unfold chr
  rw [if_neg (by simp), if_neg (by simp), if_neg (by simp), if_neg (by simp), if_neg (by simp), refN_dec n h]
  unfold cap
  by_cases hn : (n : Int) > 1114111
  · rw [if_pos hn, if_neg (by omega), if_neg (by decide +kernel), if_neg (fun q => by have := isB_range _ q; omega)]
  · rw [if_neg hn, if_neg (by omega)]
theorem one_get (n : Nat) (h : n < 4294967296) : getB false (ba (refT n)) = if isB (n : Int) = true then ((enc (n : Int)).data.toList, 0) else ([], 12) := by
  have ht : textB (ba (refT n)) = true := by
    unfold refT
    rw [textB_low _ _ (by decide), textB_low _ _ (by decide), text_dig _ _ (decL_all n)]
    decide +kernel
  unfold getB
  rw [if_pos ht, ba_list, ba_size]
  have hl : (refT n).length = (decL n).length + 3 := by unfold refT; simp
  rw [hl]
  unfold refT
  have hr : refR (35 :: (decL n ++ [59])) = if isB (n : Int) = true then some ((enc (n : Int)).data.toList, []) else none := by
    have hc : cutS (35 :: (decL n ++ [59])) = some (35 :: decL n, []) := by
      simp only [cutS]
      rw [if_neg (by decide), cutS_dig _ _ (decL_all n)]
    rw [refR_S, hc]
    simp only
    rw [chr_dec n h]
    by_cases hi : isB (n : Int) = true
    · rw [if_pos hi, if_pos hi]
    · rw [if_neg hi, if_neg hi]
  simp only [runL]
  rw [if_neg (by decide), if_pos trivial, hr]
  by_cases hi : isB (n : Int) = true
  · rw [if_pos hi, if_pos hi]
    simp only
    rw [run_nil]
    rfl
  · rw [if_neg hi, if_neg hi]
end Go.Proofs.YticpobgkbapdmaaDoor.EscM
