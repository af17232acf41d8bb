import Derived.Test.YthilcidoacgdfaaGreatDoorZwDecB
import Derived.Test.YthilcidoacgdfaaGreatDoorZwSpanA
namespace Go.Proofs.YthilcidoacgdfaaGreatDoor.CharA
end Go.Proofs.YthilcidoacgdfaaGreatDoor.CharA
namespace Go.Proofs.YthilcidoacgdfaaGreatDoor.CharB
end Go.Proofs.YthilcidoacgdfaaGreatDoor.CharB
namespace Go.Proofs.YthilcidoacgdfaaGreatDoor.CharC
end Go.Proofs.YthilcidoacgdfaaGreatDoor.CharC
namespace Go.Proofs.YthilcidoacgdfaaGreatDoor.CharD
end Go.Proofs.YthilcidoacgdfaaGreatDoor.CharD
namespace Go.Proofs.YthilcidoacgdfaaGreatDoor.CharF
end Go.Proofs.YthilcidoacgdfaaGreatDoor.CharF
namespace Go.Proofs.YthilcidoacgdfaaGreatDoor.SpanA
end Go.Proofs.YthilcidoacgdfaaGreatDoor.SpanA
namespace Go.Proofs.YthilcidoacgdfaaGreatDoorW.PrintLast
end Go.Proofs.YthilcidoacgdfaaGreatDoorW.PrintLast
namespace Go.Proofs.YthilcidoacgdfaaGreatDoorW.PrintMore
end Go.Proofs.YthilcidoacgdfaaGreatDoorW.PrintMore
namespace Go.Proofs.YthilcidoacgdfaaGreatDoorW.PrintWords
end Go.Proofs.YthilcidoacgdfaaGreatDoorW.PrintWords
namespace Go.Proofs.YthilcidoacgdfaaGreatDoor.Txt
open Go.RowKit YthilcidoacgdfaaGreatDoorW.PrintWords YthilcidoacgdfaaGreatDoorW.PrintLast YthilcidoacgdfaaGreatDoorW.PrintMore CharA CharB CharC CharD CharF SpanA
set_option linter.unusedVariables false
set_option linter.unusedSimpArgs false
theorem dec_L (l : List UInt8) : Utf8.decode (ba l) 0 = Lib.decodeL l := by
 have := Lib.decodeL_drop (ba l) 0
 rw [List.drop_zero, qu] at this
 exact this.symm
theorem textB_step (l : List UInt8) (h : l ≠ []) : textB (ba l) = if Lib.decodeL l = (65533, 1) then false else isB ((Lib.decodeL l).1 : Int) && textB (ba (l.drop (Lib.decodeL l).2)) := by
 have hp : 0 < (ba l).size := by rw [qc1]; exact List.length_pos_iff.2 h
 have hw := width_le (ba l) 0 hp
 have hw0 := qu1 (ba l) 0 hp
 rw [dec_L, qc1] at hw
 rw [dec_L] at hw0
 obtain ⟨n, hn⟩ : ∃ n, (ba l).size = n + 1 := ⟨(ba l).size - 1, by omega⟩
 rw [textB_chars]
 rw [hn]
 simp only [qd1, if_pos hp, dec_L]
 rw [qc1] at hn
 by_cases hd : Lib.decodeL l = (65533, 1)
 ·rw [if_pos hd, if_pos hd]
 ·rw [if_neg hd, if_neg hd, textB_chars]
  generalize hwd : (Lib.decodeL l).2 = w at *
  have e1 : ba l = ba (l.take w) ++ ba (l.drop w) := by rw [ba_app, List.take_append_drop]
  have e2 : (ba (l.take w)).size = w := by rw [qc1, List.length_take]; omega
  have e3 : qd1 (ba l) n (0 + w) = qd1 (ba (l.drop w)) (ba (l.drop w)).size 0 := by
   have h1 := chars_shift (ba (l.take w)) (ba (l.drop w)) n 0
   rw [← e1, e2, Nat.add_zero] at h1
   rw [Nat.zero_add, h1]
   have h2 := chars_fuel (ba (l.drop w)) (ba (l.drop w)).size (n - (ba (l.drop w)).size) 0 (by omega)
   rw [← h2]
   congr 1
   rw [qc1, List.length_drop]
   omega
  rw [e3]
  cases qd1 (ba (l.drop w)) (ba (l.drop w)).size 0 with
  | none => simp
  | some q => simp
theorem dec_low (c : UInt8) (t : List UInt8) (h : c.toNat < 128) : Lib.decodeL (c :: t) = (c.toNat, 1) := Lib.decodeL_ascii c t h
theorem textB_low (c : UInt8) (t : List UInt8) (h : c.toNat < 128) : textB (ba (c :: t)) = (isB (c.toNat : Int) && textB (ba t)) := by
 rw [textB_step _ (by simp), dec_low c t h, if_neg (by simp; omega)]
 rfl
theorem textB_nil : textB (ba []) = true := by rw [textB_chars]; rfl
theorem dn1 (n b0 : Nat) (b2 b3 b1 : Nat) (h : 128 ≤ b0) (h1 : ¬ (1 < n ∧ b1 / 64 = 2)) : Lib.decodeN n b0 b1 b2 b3 = (65533, 1) := by
 unfold Lib.decodeN
 rw [if_neg (by omega), if_neg (fun q => h1 q.2), if_neg (fun q => h1 q.2.1), if_neg (fun q => h1 q.2.1)]
theorem pT {p : Prop} (h : p) : p = True := propext ⟨fun _ => trivial, fun _ => h⟩
theorem pF {p : Prop} (h : ¬ p) : p = False := propext ⟨h, False.elim⟩
theorem dn2 (n m b0 b1 b2 b3 c2 c3 : Nat) (h : 128 ≤ b0) (hn : 1 < n) (hm : 1 < m) (h1 : ¬ (2 < n ∧ b2 / 64 = 2)) (h2 : ¬ (2 < m ∧ c2 / 64 = 2)) : Lib.decodeN n b0 b1 b2 b3 = Lib.decodeN m b0 b1 c2 c3 := by
 unfold Lib.decodeN
 simp only [pT hn, pT hm, pF h1, pF h2, and_false, false_and, if_false]
theorem dn3 (n m b0 b1 b2 b3 c3 : Nat) (h : 128 ≤ b0) (hn : 2 < n) (hm : 2 < m) (h1 : ¬ (3 < n ∧ b3 / 64 = 2)) (h2 : ¬ (3 < m ∧ c3 / 64 = 2)) : Lib.decodeN n b0 b1 b2 b3 = Lib.decodeN m b0 b1 b2 c3 := by
 unfold Lib.decodeN
 simp only [pT hn, pT hm, pT (show 1 < n by omega), pT (show 1 < m by omega), pF h1, pF h2, and_false, false_and, if_false]
theorem dn4 (n m b0 b1 b2 b3 : Nat) (hn : 3 < n) (hm : 3 < m) : Lib.decodeN n b0 b1 b2 b3 = Lib.decodeN m b0 b1 b2 b3 := by
 unfold Lib.decodeN
 simp only [pT hn, pT hm, pT (show 1 < n by omega), pT (show 1 < m by omega), pT (show 2 < n by omega), pT (show 2 < m by omega)]
theorem low64 (c : UInt8) (h : c.toNat < 128) : ¬ c.toNat / 64 = 2 := by omega
theorem dn_wide (n b0 b1 b2 b3 : Nat) (h : 128 ≤ b0) (hg : Lib.decodeN n b0 b1 b2 b3 ≠ (65533, 1)) :
  ((Lib.decodeN n b0 b1 b2 b3).2 = 2 ∧ 1 < n ∧ b1 / 64 = 2) ∨ ((Lib.decodeN n b0 b1 b2 b3).2 = 3 ∧ 2 < n ∧ b1 / 64 = 2 ∧ b2 / 64 = 2) ∨ ((Lib.decodeN n b0 b1 b2 b3).2 = 4 ∧ 3 < n ∧ b1 / 64 = 2 ∧ b2 / 64 = 2 ∧ b3 / 64 = 2) := by
 revert hg
 unfold Lib.decodeN
 repeat' split
 all_goals
  intro hg
  first | exact absurd rfl hg | (simp; omega) | omega

theorem getD_app (x y : List UInt8) (k : Nat) (h : k < x.length) : (x ++ y).getD k 0 = x.getD k 0 := by
 simp [List.getD, List.getElem?_append_left h]
theorem getD_mid (x y : List UInt8) (c : UInt8) : (x ++ c :: y).getD x.length 0 = c := by
 simp [List.getD]
theorem dec_in (x y : List UInt8) (c : UInt8) (hx : x ≠ []) (hc : c.toNat < 128) :
  (Lib.decodeL (x ++ c :: y) = (65533, 1) → Lib.decodeL x = (65533, 1)) ∧ (Lib.decodeL (x ++ c :: y) ≠ (65533, 1) → Lib.decodeL x = Lib.decodeL (x ++ c :: y) ∧ (Lib.decodeL (x ++ c :: y)).2 ≤ x.length) := by
 have hx1 : 1 ≤ x.length := List.length_pos_iff.2 hx
 have hlen : (x ++ c :: y).length = x.length + 1 + y.length := by simp; omega
 rw [Lib.decodeL_N, Lib.decodeL_N x, hlen, getD_app x _ 0 (by omega)]
 have c64 := low64 c hc
 have out : ∀ k, k = x.length → ¬ ((x ++ c :: y).getD k 0).toNat / 64 = 2 := by
  rintro k rfl
  rw [getD_mid]
  exact c64
 by_cases h0 : (x.getD 0 0).toNat < 128
 ·have e : ∀ n b1 b2 b3, Lib.decodeN n (x.getD 0 0).toNat b1 b2 b3 = ((x.getD 0 0).toNat, 1) := fun n b1 b2 b3 => Lib.decodeN_ascii _ _ _ _ _ h0
  rw [e, e]
  exact ⟨fun h => h, fun _ => ⟨rfl, hx1⟩⟩
 have hb : 128 ≤ (x.getD 0 0).toNat := by omega
 by_cases l1 : x.length = 1
 ·rw [dn1 _ _ _ _ _ hb (fun z => out 1 l1.symm z.2), dn1 x.length _ _ _ _ hb (fun z => by omega)]
  exact ⟨fun _ => rfl, fun h => absurd rfl h⟩
 rw [getD_app x _ 1 (by omega)]
 by_cases l2 : x.length = 2
 ·have e := dn2 (x.length + 1 + y.length) x.length (x.getD 0 0).toNat (x.getD 1 0).toNat ((x ++ c :: y).getD 2 0).toNat ((x ++ c :: y).getD 3 0).toNat (x.getD 2 0).toNat (x.getD 3 0).toNat hb (by omega) (by omega) (fun z => out 2 l2.symm z.2) (fun z => by omega)
  rw [← e]
  refine ⟨fun h => h, fun h => ⟨rfl, ?_⟩⟩
  rcases dn_wide _ _ _ _ _ hb h with ⟨q, _⟩ | ⟨q, a, b, d⟩ | ⟨q, a, b, d, f⟩
  ·omega
  ·exact (out 2 l2.symm d).elim
  ·exact (out 2 l2.symm d).elim
 rw [getD_app x _ 2 (by omega)]
 by_cases l3 : x.length = 3
 ·have e := dn3 (x.length + 1 + y.length) x.length (x.getD 0 0).toNat (x.getD 1 0).toNat (x.getD 2 0).toNat ((x ++ c :: y).getD 3 0).toNat (x.getD 3 0).toNat hb (by omega) (by omega) (fun z => out 3 l3.symm z.2) (fun z => by omega)
  rw [← e]
  refine ⟨fun h => h, fun h => ⟨rfl, ?_⟩⟩
  rcases dn_wide _ _ _ _ _ hb h with ⟨q, _⟩ | ⟨q, a, b, d⟩ | ⟨q, a, b, d, f⟩
  ·omega
  ·omega
  ·exact (out 3 l3.symm f).elim
 rw [getD_app x _ 3 (by omega)]
 have e := dn4 (x.length + 1 + y.length) x.length (x.getD 0 0).toNat (x.getD 1 0).toNat (x.getD 2 0).toNat (x.getD 3 0).toNat (by omega) (by omega)
 rw [← e]
 refine ⟨fun h => h, fun h => ⟨rfl, ?_⟩⟩
 rcases dn_wide _ _ _ _ _ hb h with ⟨q, _⟩ | ⟨q, a, b, d⟩ | ⟨q, a, b, d, f⟩ <;> omega
theorem text_cut (c : UInt8) (hc : c.toNat < 128) (y : List UInt8) : ∀ (n : Nat) (x : List UInt8), x.length ≤ n → textB (ba (x ++ c :: y)) = (textB (ba x) && textB (ba (c :: y))) := by
 intro n
 induction n with
 | zero => intro x h; rw [List.length_eq_zero_iff.1 (Nat.le_zero.1 h), textB_nil]; rfl
 | succ n ih =>
  intro x h
  by_cases hx : x = []
  ·rw [hx, textB_nil]; rfl
  obtain ⟨h1, h2⟩ := dec_in x y c hx hc
  rw [textB_step (x ++ c :: y) (by simp), textB_step x hx]
  by_cases hd : Lib.decodeL (x ++ c :: y) = (65533, 1)
  ·rw [if_pos hd, if_pos (h1 hd)]; rfl
  ·obtain ⟨e1, e2⟩ := h2 hd
   have hw := Lib.decodeL_width (x ++ c :: y)
   rw [if_neg hd, e1, if_neg hd, List.drop_append_of_le_length e2, ih _ (by rw [List.length_drop]; omega), Bool.and_assoc]
theorem text_sep (c : UInt8) (hc : c.toNat < 128) (x y : List UInt8) : textB (ba (x ++ c :: y)) = (textB (ba x) && (isB (c.toNat : Int) && textB (ba y))) := by
 rw [text_cut c hc y x.length x (Nat.le_refl _), textB_low c y hc]
theorem text_join (x y : List UInt8) (h : textB (ba x) = true) : textB (ba (x ++ y)) = textB (ba y) := by rw [← ba_app]; exact text_app _ _ h
end Go.Proofs.YthilcidoacgdfaaGreatDoor.Txt
