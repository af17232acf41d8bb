/- Plain laws of esc: the document's Char and UTF8. -/
import Derived.Test.YticpobgkbapdmaaDoorKgEscC
namespace Go.Proofs.YticpobgkbapdmaaDoor.CharA
end Go.Proofs.YticpobgkbapdmaaDoor.CharA
namespace Go.Proofs.YticpobgkbapdmaaDoor.CharB
end Go.Proofs.YticpobgkbapdmaaDoor.CharB
namespace Go.Proofs.YticpobgkbapdmaaDoor.CharC
end Go.Proofs.YticpobgkbapdmaaDoor.CharC
namespace Go.Proofs.YticpobgkbapdmaaDoor.CharD
end Go.Proofs.YticpobgkbapdmaaDoor.CharD
namespace Go.Proofs.YticpobgkbapdmaaDoor.CharF
end Go.Proofs.YticpobgkbapdmaaDoor.CharF
namespace Go.Proofs.YticpobgkbapdmaaDoor.CharH
end Go.Proofs.YticpobgkbapdmaaDoor.CharH
namespace Go.Proofs.YticpobgkbapdmaaDoor.EscB
end Go.Proofs.YticpobgkbapdmaaDoor.EscB
namespace Go.Proofs.YticpobgkbapdmaaDoor.EscC
end Go.Proofs.YticpobgkbapdmaaDoor.EscC
namespace Go.Proofs.YticpobgkbapdmaaDoor.PR1
end Go.Proofs.YticpobgkbapdmaaDoor.PR1
namespace Go.Proofs.YticpobgkbapdmaaDoor.SpanA
end Go.Proofs.YticpobgkbapdmaaDoor.SpanA
namespace Go.Proofs.YticpobgkbapdmaaDoor.SpanD
end Go.Proofs.YticpobgkbapdmaaDoor.SpanD
namespace Go.Proofs.YticpobgkbapdmaaDoorW.PrintLast
end Go.Proofs.YticpobgkbapdmaaDoorW.PrintLast
namespace Go.Proofs.YticpobgkbapdmaaDoorW.PrintMore
end Go.Proofs.YticpobgkbapdmaaDoorW.PrintMore
namespace Go.Proofs.YticpobgkbapdmaaDoorW.PrintWords
end Go.Proofs.YticpobgkbapdmaaDoorW.PrintWords
namespace Go.Proofs.YticpobgkbapdmaaDoor.EscD
open Go.RowKit Go.Proofs.YticpobgkbapdmaaDoorW.PrintWords Go.Proofs.YticpobgkbapdmaaDoorW.PrintLast Go.Proofs.YticpobgkbapdmaaDoorW.PrintMore Go.Proofs.YticpobgkbapdmaaDoor.CharA Go.Proofs.YticpobgkbapdmaaDoor.CharB Go.Proofs.YticpobgkbapdmaaDoor.CharC Go.Proofs.YticpobgkbapdmaaDoor.CharD Go.Proofs.YticpobgkbapdmaaDoor.CharF Go.Proofs.YticpobgkbapdmaaDoor.CharH Go.Proofs.YticpobgkbapdmaaDoor.SpanA Go.Proofs.YticpobgkbapdmaaDoor.SpanD Go.Proofs.YticpobgkbapdmaaDoor.EscB Go.Proofs.YticpobgkbapdmaaDoor.EscC Go.Proofs.YticpobgkbapdmaaDoor.PR1
set_option linter.unusedVariables false
set_option linter.unusedSimpArgs false
set_option linter.unnecessarySimpa false
theorem tm (r c : Int) (h0 : 0 ≤ r) (hc : 0 < c) : Int.tmod r c = r % c := Int.tmod_eq_emod_of_nonneg h0
theorem td (r c : Int) (h0 : 0 ≤ r) : Int.tdiv r c = r / c := Int.tdiv_eq_ediv_of_nonneg h0
theorem ref_utf8 (r : Int) (h0 : 0 ≤ r) (h1 : r ≤ 1114111) (h2 : r < 55296 ∨ 57343 < r) : breviaryref05_UTF8.f r = some (enc r) := by
  have e1 : Int.tdiv r 64 = r / 64 := td r 64 h0
  have e2 : Int.tdiv r 4096 = r / 4096 := td r 4096 h0
  have e3 : Int.tdiv r 262144 = r / 262144 := td r 262144 h0
  have f1 : Int.tmod r 64 = r % 64 := tm r 64 h0 (by omega)
  have f2 : Int.tmod (r / 64) 64 = r / 64 % 64 := tm _ 64 (by omega) (by omega)
  have f3 : Int.tmod (r / 4096) 64 = r / 4096 % 64 := tm _ 64 (by omega) (by omega)
  unfold breviaryref05_UTF8.f enc Lib.encodeRune strOfNums
  rw [e1, e2, e3, w64 (n := r / 64) (by omega) (by omega), w64 (n := r / 4096) (by omega) (by omega), w64 (n := r / 262144) (by omega) (by omega), f1, f2, f3, w64 (n := 192 + r / 64) (by omega) (by omega), w64 (n := 128 + r % 64) (by omega) (by omega), w64 (n := 128 + r / 64 % 64) (by omega) (by omega), w64 (n := 128 + r / 4096 % 64) (by omega) (by omega), w64 (n := 224 + r / 4096) (by omega) (by omega), w64 (n := 240 + r / 262144) (by omega) (by omega)]
  by_cases c1 : r < 128
  · rw [Lib.encodeRuneZ_one (by omega) (by omega), if_pos c1, show r % 256 = r by omega]
  rw [if_neg c1]
  by_cases c2 : r < 2048
  · rw [Lib.encodeRuneZ_two (by omega) (by omega), if_pos c2, show (192 + r / 64) % 256 = 192 + r / 64 by omega, show (128 + r % 64) % 256 = 128 + r % 64 by omega]
  rw [if_neg c2]
  by_cases c3 : r < 65536
  · rw [Lib.encodeRuneZ_three (by omega), if_pos c3, show (224 + r / 4096) % 256 = 224 + r / 4096 by omega, show (128 + r / 64 % 64) % 256 = 128 + r / 64 % 64 by omega, show (128 + r % 64) % 256 = 128 + r % 64 by omega]
  · rw [Lib.encodeRuneZ_four (by omega) (by omega), if_neg c3, show (240 + r / 262144) % 256 = 240 + r / 262144 by omega, show (128 + r / 4096 % 64) % 256 = 128 + r / 4096 % 64 by omega, show (128 + r / 64 % 64) % 256 = 128 + r / 64 % 64 by omega, show (128 + r % 64) % 256 = 128 + r % 64 by omega]
/-- What a number's bytes are, if it is a character's. -/
def encN (n : Int) : List UInt8 := if n < 0 then [] else if isB n then (enc n).data.toList else []
theorem char_l1 (s : ByteArray) (hs : s.size < 1000000000000) (base : Int) (hb : base = 10 ∨ base = 16) : ∀ (n i k : Nat) (a : Int), s.size ≤ i + n → i ≤ s.size → n + 60 < k → 0 ≤ a → a ≤ 1114112 →
    breviaryref05_Char.l1 k s base a (i : Int) = some (ba (encN (numL base a (s.data.toList.drop i)))) := by
  have fin : ∀ (k : Nat) (a : Int), 50 < k → 0 ≤ a → a ≤ 1114112 → ((breviaryref01_Is.f k a).bind fun t201 => (if t201 = true then ((breviaryref05_UTF8.f a).bind fun t202 => (some t202)) else (some (⟨#[]⟩ : ByteArray)))) = some (ba (encN a)) := by
    intro k a hk h0 h1
    rw [ref_is k (by omega), bs]
    unfold encN
    rw [if_neg (show ¬ a < 0 by omega)]
    by_cases hi : isB a = true
    · have hr := isB_range a hi
      rw [if_pos hi, if_pos hi, ref_utf8 a h0 (by omega) hr.2.2, bs]
      rfl
    · rw [if_neg hi, if_neg hi]
      rfl
  intro n
  induction n with
  | zero =>
    intro i k a h hi hk h0 h1
    obtain ⟨k, rfl⟩ : ∃ j, k = j + 1 := ⟨k - 1, by omega⟩
    rw [breviaryref05_Char.l1, if_neg (by omega), List.drop_eq_nil_of_le (by rw [← Lib.size_eq]; omega)]
    exact fin k a (by omega) h0 h1
  | succ n ih =>
    intro i k a h hi hk h0 h1
    obtain ⟨k, rfl⟩ : ∃ j, k = j + 3 + 1 := ⟨k - 4, by omega⟩
    by_cases hlt : i < s.size
    · have hlt' : i < s.data.toList.length := by rw [← Lib.size_eq]; exact hlt
      have hb8 := byte_lt s i hlt'
      rw [breviaryref05_Char.l1, if_pos (by omega), if_pos (by omega), bt_list s i hlt hlt', rvalue_f k _ (by omega) (by omega), bs, List.drop_eq_getElem_cons hlt']
      have hnn := hexv_nonneg ((s.data.toList[i]).toNat : Int)
      simp only [numL]
      by_cases hd : hexv ((s.data.toList[i]).toNat : Int) < base
      · have e1 : wrap64 (a * base) = a * base := by rcases hb with rfl | rfl <;> exact w64 (by omega) (by omega)
        have e2 : wrap64 (a * base + hexv ((s.data.toList[i]).toNat : Int)) = a * base + hexv ((s.data.toList[i]).toNat : Int) := by rcases hb with rfl | rfl <;> exact w64 (by omega) (by omega)
        have hge : 0 ≤ a * base := by rcases hb with rfl | rfl <;> omega
        rw [if_neg (by omega), if_pos hd, e1, e2, w64 (n := (i : Int) + 1) (by omega) (by omega), show ((i : Int) + 1) = ((i + 1 : Nat) : Int) by omega]
        by_cases hg : a * base + hexv ((s.data.toList[i]).toNat : Int) > 1114111
        · rw [if_pos hg, if_pos hg]
          exact ih (i + 1) (k + 3) _ (by omega) (by omega) (by omega) (by omega) (by omega)
        · rw [if_neg hg, if_neg hg]
          exact ih (i + 1) (k + 3) _ (by omega) (by omega) (by omega) (by omega) (by omega)
      · rw [if_pos (by omega), if_neg hd]
        rfl
    · rw [breviaryref05_Char.l1, if_neg (by omega), List.drop_eq_nil_of_le (by rw [← Lib.size_eq]; omega)]
      exact fin (k + 3) a (by omega) h0 h1
def namesL : List ByteArray := [(⟨#[97, 109, 112]⟩ : ByteArray), (⟨#[108, 116]⟩ : ByteArray), (⟨#[103, 116]⟩ : ByteArray), (⟨#[113, 117, 111, 116]⟩ : ByteArray), (⟨#[97, 112, 111, 115]⟩ : ByteArray)]
theorem char_step (s : ByteArray) (k i : Nat) (hi : i < 5) (x : List UInt8) (hx : (namesL[i]'hi).data.toList = x) : breviaryref05_Char.l0 (k + 1) s namesL (i : Int) = if s.data.toList = x then some ((⟨#[38, 60, 62, 34, 39]⟩ : ByteArray).extract i (i + 1)) else breviaryref05_Char.l0 k s namesL ((i + 1 : Nat) : Int) := by
  subst hx
  rw [breviaryref05_Char.l0, if_pos (by omega), if_pos (by omega), if_pos (by show (i : Int) < ((5 : Nat) : Int); omega), rd_at namesL i hi, tl, tl, w64 (n := (i : Int) + 1) (by omega) (by omega), if_pos (show (i : Int) ≤ (i : Int) + 1 by omega), if_pos (show (i : Int) + 1 ≤ 5 by omega), show ((i : Int) + 1) = ((i + 1 : Nat) : Int) by omega, Int.toNat_natCast, Int.toNat_natCast]
theorem bt_ba (l : List UInt8) (i : Nat) (h : i < l.length) : bt (ba l) (i : Int) = (l[i].toNat : Int) := bt_list (ba l) i (by rw [ba_size]; exact h) h
theorem u8_iff (a : UInt8) (n : Nat) (hn : n < 256) : ((a.toNat : Int) = (n : Int)) ↔ a = UInt8.ofNat n := by
  constructor
  · intro h
    apply UInt8.toNat_inj.1
    rw [UInt8.toNat_ofNat']
    omega
  · rintro rfl
    rw [UInt8.toNat_ofNat']
    omega
theorem char_j2 (l : List UInt8) (hs : l.length < 1000000000000) (k : Nat) (hk : l.length + 70 < k) (base : Int) (hb : base = 10 ∨ base = 16) (i : Nat) (hi : 1 ≤ i) :
    breviaryref05_Char.j2 k (ba l) base (i : Int) = some (ba (if l.length ≤ i then [] else if l[0]? = some 35 then encN (numL base 0 (l.drop i)) else [])) := by
  obtain ⟨k, rfl⟩ : ∃ j, k = j + 2 := ⟨k - 2, by omega⟩
  rw [breviaryref05_Char.j2, ba_size]
  by_cases h : l.length ≤ i
  · rw [if_pos (by omega), if_pos h, breviaryref05_Char.j3, if_pos rfl]
    rfl
  · rw [if_neg (by omega), if_neg h, if_pos (by omega), breviaryref05_Char.j3]
    have hb0 := bt_ba l 0 (by omega)
    have hb0' : bt (ba l) 0 = (l[0].toNat : Int) := hb0
    rw [hb0', List.getElem?_eq_getElem (by omega)]
    by_cases h35 : l[0] = 35
    · rw [if_neg (by rw [h35]; decide), if_pos (by rw [h35])]
      exact char_l1 (ba l) (by rw [ba_size]; omega) base hb (l.length - i) i k 0 (by rw [ba_size]; omega) (by rw [ba_size]; omega) (by omega) (by omega) (by omega)
    · rw [if_pos (by rw [bne_iff_ne]; exact fun e => h35 ((u8_iff l[0] 35 (by omega)).1 e)), if_neg (fun e => h35 (Option.some.inj e))]
      rfl
theorem chr_of (l : List UInt8) : (chr l).getD [] = if l = [97, 109, 112] then [38] else if l = [108, 116] then [60] else if l = [103, 116] then [62] else if l = [113, 117, 111, 116] then [34] else if l = [97, 112, 111, 115] then [39] else encN (refN l) := by
  unfold chr encN
  repeat' split
  all_goals rfl
theorem encN_num (base : Int) (l : List UInt8) : encN (numB base l) = if l = [] then [] else encN (numL base 0 l) := by
  unfold numB
  by_cases h : l = []
  · rw [if_pos h, if_pos h]; rfl
  · rw [if_neg h, if_neg h]
theorem ref_char (l : List UInt8) (hs : l.length < 1000000000000) (k : Nat) (hk : l.length + 80 < k) : breviaryref05_Char.f k (ba l) = some (ba ((chr l).getD [])) := by
  obtain ⟨k, rfl⟩ : ∃ j, k = j + 1 + 1 + 1 + 1 + 1 + 1 + 1 := ⟨k - 7, by omega⟩
  unfold breviaryref05_Char.f
  rw [chr_of]
  show breviaryref05_Char.l0 _ (ba l) namesL ((0 : Nat) : Int) = _
  rw [char_step _ _ 0 (by omega) [97, 109, 112] rfl, char_step _ _ 1 (by omega) [108, 116] rfl, char_step _ _ 2 (by omega) [103, 116] rfl, char_step _ _ 3 (by omega) [113, 117, 111, 116] rfl, char_step _ _ 4 (by omega) [97, 112, 111, 115] rfl, ba_list]
  by_cases c0 : l = [97, 109, 112]
  · rw [if_pos c0, if_pos c0]; rfl
  rw [if_neg c0, if_neg c0]
  by_cases c1 : l = [108, 116]
  · rw [if_pos c1, if_pos c1]; rfl
  rw [if_neg c1, if_neg c1]
  by_cases c2 : l = [103, 116]
  · rw [if_pos c2, if_pos c2]; rfl
  rw [if_neg c2, if_neg c2]
  by_cases c3 : l = [113, 117, 111, 116]
  · rw [if_pos c3, if_pos c3]; rfl
  rw [if_neg c3, if_neg c3]
  by_cases c4 : l = [97, 112, 111, 115]
  · rw [if_pos c4, if_pos c4]; rfl
  rw [if_neg c4, if_neg c4]
  rw [breviaryref05_Char.l0, if_neg (by omega), ba_size]
  match l, hs, hk with
  | [], hs, hk =>
    rw [if_neg (by simp), breviaryref05_Char.j1, if_neg (by simp)]
    have := char_j2 [] hs k (by omega) 10 (.inl rfl) 1 (by omega)
    exact this
  | [a], hs, hk =>
    rw [if_neg (by simp), breviaryref05_Char.j1, if_neg (by simp)]
    have := char_j2 [a] hs k (by simp at hk ⊢; omega) 10 (.inl rfl) 1 (by omega)
    refine this.trans ?_
    rw [if_pos (by simp)]
    unfold refN
    by_cases ha : a = 35
    · subst ha; rfl
    · rw [if_neg (by simp [List.isPrefixOf]), if_neg (by simp [List.isPrefixOf]; exact fun e => ha e.symm)]
      rfl
  | a :: b :: t, hs, hk =>
    have hb0 : bt (ba (a :: b :: t)) 0 = (a.toNat : Int) := bt_ba (a :: b :: t) 0 (by simp)
    have hb1 : bt (ba (a :: b :: t)) 1 = (b.toNat : Int) := bt_ba (a :: b :: t) 1 (by simp)
    rw [if_pos (by simp; omega), if_pos (by simp; omega), hb0, hb1]
    have hj := fun base hb i hi => char_j2 (a :: b :: t) hs k (by omega) base hb i hi
    unfold refN
    by_cases ha : a = 35
    · subst ha
      rw [if_pos (by rfl), if_pos (by simp; omega), breviaryref05_Char.j1]
      by_cases hbx : b = 120
      · subst hbx
        rw [if_pos (by rfl), if_pos (by simp [List.isPrefixOf])]
        refine (hj 16 (.inr rfl) 2 (by omega)).trans ?_
        rw [encN_num]
        cases t with
        | nil => rfl
        | cons c t => rw [if_neg (by simp), if_pos (by simp), if_neg (by simp)]
      · rw [if_neg (by rw [beq_iff_eq]; exact fun e => hbx ((u8_iff b 120 (by omega)).1 e)), if_neg (by simp [List.isPrefixOf]; exact fun e => hbx e.symm), if_pos (by simp [List.isPrefixOf])]
        refine (hj 10 (.inl rfl) 1 (by omega)).trans ?_
        rw [encN_num, if_neg (by simp), if_pos (by simp), if_neg (by simp)]
    · rw [if_neg (show ¬ (a.toNat : Int) = 35 from fun e => ha ((u8_iff a 35 (by omega)).1 e)), breviaryref05_Char.j1, if_neg (by simp), if_neg (by simp [List.isPrefixOf]; intro e; exact absurd e.symm ha), if_neg (by simp [List.isPrefixOf]; exact fun e => ha e.symm)]
      refine (hj 10 (.inl rfl) 1 (by omega)).trans ?_
      rw [if_neg (by simp), if_neg (by simpa using ha)]
      rfl
end Go.Proofs.YticpobgkbapdmaaDoor.EscD
