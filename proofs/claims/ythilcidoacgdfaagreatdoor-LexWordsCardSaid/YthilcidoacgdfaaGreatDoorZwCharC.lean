import Derived.Test.YthilcidoacgdfaaGreatDoorZwCharB
import Derived.Lib.TrimUEq
import Derived.Lib.ValidLaws
namespace Go.Proofs.YthilcidoacgdfaaGreatDoor.CharA
end Go.Proofs.YthilcidoacgdfaaGreatDoor.CharA
namespace Go.Proofs.YthilcidoacgdfaaGreatDoor.CharB
end Go.Proofs.YthilcidoacgdfaaGreatDoor.CharB
namespace Go.Proofs.YthilcidoacgdfaaGreatDoor.PF
end Go.Proofs.YthilcidoacgdfaaGreatDoor.PF
namespace Go.Proofs.YthilcidoacgdfaaGreatDoorW.PrintLast
end Go.Proofs.YthilcidoacgdfaaGreatDoorW.PrintLast
namespace Go.Proofs.YthilcidoacgdfaaGreatDoorW.PrintMore
end Go.Proofs.YthilcidoacgdfaaGreatDoorW.PrintMore
namespace Go.Proofs.YthilcidoacgdfaaGreatDoorW.PrintWords
end Go.Proofs.YthilcidoacgdfaaGreatDoorW.PrintWords
namespace Go.Proofs.YthilcidoacgdfaaGreatDoor.CharC
open Go.RowKit YthilcidoacgdfaaGreatDoorW.PrintWords YthilcidoacgdfaaGreatDoorW.PrintLast YthilcidoacgdfaaGreatDoorW.PrintMore CharA CharB PF
set_option linter.unusedVariables false
set_option linter.unusedSimpArgs false
theorem bs {α β : Type} (a : α) (f : α → Option β) : (some a).bind f = f a := rfl
theorem w64 {n : Int} (h0 : -9223372036854775808 ≤ n) (h1 : n ≤ 9223372036854775807) : wrap64 n = n := by unfold wrap64; omega
def flat : List (Int × Int) → List Int
 | [] => []
 | (p, q) :: l => p :: q :: flat l
theorem flat_length : ∀ L, (flat L).length = 2 * L.length
 | [] => rfl
 | (p, q) :: l => by simp [flat, flat_length l]; omega
theorem flat_at : ∀ (L : List (Int × Int)) (k : Nat) (hk : k < L.length), (flat L).getD (2 * k) 0 = L[k].1 ∧ (flat L).getD (2 * k + 1) 0 = L[k].2
 | (p, q) :: L, 0, _ => ⟨rfl, rfl⟩
 | (p, q) :: L, k + 1, hk => by
  have h := flat_at L k (by simpa using hk)
  rw [Nat.mul_add]
  simpa [flat] using h
theorem in_l0 (a : Int) (L : List (Int × Int)) (hL : L.length < 1000000) : ∀ (n i k : Nat), L.length - i ≤ n → i ≤ L.length → n < k → breviaryref01_in.l0 k a (flat L) ((2 * i : Nat) : Int) = some (char_within.f a (L.drop i)) := by
 intro n
 induction n with
 | zero =>
  intro i k h hi hk
  obtain ⟨k, rfl⟩ : ∃ j, k = j + 1 := ⟨k - 1, by omega⟩
  obtain rfl : i = L.length := by omega
  rw [List.drop_length]
  simp only [breviaryref01_in.l0, char_within.f]
  rw [if_neg]
  rw [w64 (by omega) (by omega), flat_length]; omega
 | succ n ih =>
  intro i k h hi hk
  obtain ⟨k, rfl⟩ : ∃ j, k = j + 1 := ⟨k - 1, by omega⟩
  by_cases hlt : i < L.length
  ·have ih' := ih (i + 1) k (by omega) (by omega) (by omega)
   obtain ⟨h1, h2⟩ := flat_at L i hlt
   have e1 : wrap64 (((2 * i : Nat) : Int) + 1) = ((2 * i + 1 : Nat) : Int) := by rw [w64 (by omega) (by omega)]; omega
   have e2 : wrap64 (((2 * i : Nat) : Int) + 2) = ((2 * (i + 1) : Nat) : Int) := by rw [w64 (by omega) (by omega)]; omega
   rw [List.drop_eq_getElem_cons hlt]
   simp only [breviaryref01_in.l0]
   rw [e1, e2, if_pos (by rw [flat_length]; omega), if_pos (by omega), if_pos (by rw [flat_length]; omega), if_pos (show (0 : Int) ≤ ((2 * i + 1 : Nat) : Int) by omega), ih']
   unfold rd
   rw [Int.toNat_natCast, Int.toNat_natCast, h1, h2]
   generalize L[i] = x
   obtain ⟨p, q⟩ := x
   simp only [char_within.f]
   split <;> (try split) <;> rfl
  ·exact (ih i (k + 1) (by omega) hi (by omega))
theorem in_f (a : Int) (L : List (Int × Int)) (hL : L.length < 1000000) (k : Nat) (hk : L.length < k) (l : List Int) (hl : l = flat L) : breviaryref01_in.f k a l = some (char_within.f a L) := by
 subst hl
 exact in_l0 a L hL L.length 0 k (by omega) (by omega) hk
theorem qq1 (a : Int) : ∀ L, char_within.f a L = true ↔ ∃ x ∈ L, x.1 ≤ a ∧ a ≤ x.2
 | [] => by simp [char_within.f]
 | (p, q) :: l => by
  simp only [char_within.f, List.mem_cons, exists_eq_or_imp]
  rw [← qq1 a l]
  by_cases h1 : a ≥ p
  ·by_cases h2 : a ≤ q
   ·simp [h1, h2]
   ·simp [h1, h2]
  ·simp [h1]
def rIs : List (Int × Int) := [(9, 9), (10, 10), (13, 13), (32, 0xd7ff), (0xe000, 0xfffd), (0x10000, 0x10ffff)]
def rStart : List (Int × Int) := [(65, 90), (95, 95), (97, 122), (192, 214), (216, 246), (248, 767), (880, 893), (895, 8191), (8204, 8205), (8304, 8591), (11264, 12271), (12289, 55295), (63744, 64975), (65008, 65533), (65536, 983039)]
theorem is_eq (a : Int) : char_within.f a rIs = isB a := by
 rw [Bool.eq_iff_iff]
 unfold isB
 rw [qq1, qq1]
 simp only [rIs, isL, List.mem_cons, List.not_mem_nil, or_false, exists_eq_or_imp, exists_eq_left]
 omega
theorem start_eq (a : Int) : char_within.f a rStart = startB a := by
 rw [Bool.eq_iff_iff]
 unfold startB
 split
 ·rename_i h
  rw [qq1]
  simp only [rStart, List.mem_cons, List.not_mem_nil, or_false, exists_eq_or_imp, exists_eq_left]
  simp
  omega
 ·rename_i h
  rw [qq1, qq1]
  simp only [rStart, startL, List.mem_cons, List.not_mem_nil, or_false, exists_eq_or_imp, exists_eq_left]
  omega
theorem ref_is (k : Nat) (hk : 30 < k) (a : Int) : breviaryref01_Is.f k a = some (isB a) := by
 unfold breviaryref01_Is.f
 rw [in_f a rIs (by decide) k (by simp [rIs]; omega), is_eq]
 ·rfl
 ·rfl
theorem ref_start (k : Nat) (hk : 30 < k) (a : Int) : breviaryref01_Start.f k a = some (startB a) := by
 unfold breviaryref01_Start.f
 rw [in_f a rStart (by decide) k (by simp [rStart]; omega), start_eq]
 ·rfl
 ·rfl
theorem ref_part (k : Nat) (hk : 30 < k) (a : Int) : breviaryref01_Part.f k a = some (partB a) := by
 unfold breviaryref01_Part.f partB
 rw [ref_start k hk, in_f a partL (by decide) k (by simp [partL]; omega), bs]
 ·cases startB a <;> rfl
 ·rfl
theorem ref_space (a : Int) : breviaryref01_Space.f a = some (spaceB a) := by
 unfold breviaryref01_Space.f spaceB
 by_cases h1 : a = 32 <;> by_cases h2 : a = 9 <;> by_cases h3 : a = 10 <;> by_cases h4 : a = 13 <;> (simp only [h1, h2, h3, h4, if_true, if_false, ite_true, ite_false]) <;> first | rfl | (congr 1; rw [Bool.eq_iff_iff]; simp; omega)
theorem part_is (a : Int) (h : partB a = true) : isB a = true := by
 unfold partB at h
 rw [← start_eq, Bool.or_eq_true, qq1, qq1] at h
 unfold isB
 rw [qq1]
 simp only [rStart, partL, isL, List.mem_cons, List.not_mem_nil, or_false, exists_eq_or_imp, exists_eq_left] at h ⊢
 omega
theorem bt_n (t : ByteArray) (i : Nat) : bt t (i : Int) = ((t.data.toList.getD i 0).toNat : Int) := by
 unfold bt
 rw [Int.toNat_natCast]
 by_cases h : i < t.size
 ·rw [dif_pos h]
  have h' : i < t.data.toList.length := by simpa using h
  rw [List.getD_eq_getElem?_getD, List.getElem?_eq_getElem h']
  simp
  rfl
 ·rw [dif_neg h]
  have h' : t.data.toList.length ≤ i := by simpa using h
  rw [List.getD_eq_getElem?_getD, List.getElem?_eq_none h']
  rfl
def oneN (n b0 b1 b2 b3 : Nat) : Nat × Nat := if Lib.decodeN n b0 b1 b2 b3 = (65533, 1) then (0, 0) else Lib.decodeN n b0 b1 b2 b3
def fin (x lst m : Int) : Int × Int := if x < lst then (0, 0) else if x > 1114111 then (0, 0) else if 55296 ≤ x ∧ x ≤ 57343 then (0, 0) else (x, m)
theorem one_end (k : Nat) (t : ByteArray) (m x lst : Int) : breviaryref01_One.l0 (k + 1) t m x lst m = some (fin x lst m) := by
 simp only [breviaryref01_One.l0, fin]
 rw [if_neg (by omega)]
 repeat' split
 all_goals first | rfl | (exfalso; omega)
theorem one_step (k : Nat) (t : ByteArray) (m x lst : Int) (i c : Nat) (hi : (i : Int) < m) (ht : i < t.size) (hts : t.size < 9223372036854775807) (hc : bt t (i : Int) = (c : Int)) (hcr : c ≤ 255) (hx0 : 0 ≤ x) (hx : x ≤ 2000000) :
  breviaryref01_One.l0 (k + 1) t m x lst (i : Int) = if c < 128 ∨ 191 < c then some (0, 0) else breviaryref01_One.l0 k t m (x * 64 + c - 128) lst ((i + 1 : Nat) : Int) := by
 simp only [breviaryref01_One.l0]
 rw [if_pos hi, if_pos (by omega), if_pos (by omega), hc, w64 (by omega) (by omega)]
 by_cases h1 : c < 128
 ·rw [if_pos (by omega), if_pos (.inl h1)]
 ·rw [if_neg (by omega)]
  by_cases h2 : 191 < c
  ·rw [if_pos (by omega), if_pos (.inr h2)]
  ·rw [if_neg (by omega), if_neg (by omega)]
   rw [w64 (n := x * 64) (by omega) (by omega), w64 (n := x * 64 + (c : Int)) (by omega) (by omega), w64 (n := x * 64 + (c : Int) - 128) (by omega) (by omega), w64 (n := (i : Int) + 1) (by omega) (by omega)]
   rfl
theorem j0t (k : Nat) (t : ByteArray) (a x5 x6 x7 : Int) : breviaryref01_One.j0 (k + 1) t a x5 x6 x7 true = breviaryref01_One.j1 k t a 2 (wrap64 (a - 192)) 128 := by
 rw [breviaryref01_One.j0, if_pos rfl]
theorem j0f (k : Nat) (t : ByteArray) (a x5 x6 x7 : Int) : breviaryref01_One.j0 (k + 1) t a x5 x6 x7 false = breviaryref01_One.j1 k t a x5 x6 x7 := by
 rw [breviaryref01_One.j0, if_neg (by decide)]
theorem j1e (k : Nat) (t : ByteArray) (a x5 x6 x7 : Int) : breviaryref01_One.j1 (k + 2) t a x5 x6 x7 = if 224 ≤ a ∧ a < 240 then breviaryref01_One.j3 k t a 3 (wrap64 (a - 224)) 2048 else breviaryref01_One.j3 k t a x5 x6 x7 := by
 rw [breviaryref01_One.j1]
 by_cases h1 : a ≥ 224
 ·rw [if_pos h1, breviaryref01_One.j2]
  by_cases h2 : a < 240
  ·rw [if_pos (by simpa using h2), if_pos ⟨h1, h2⟩]
  ·rw [if_neg (by simpa using h2), if_neg (by omega)]
 ·rw [if_neg h1, breviaryref01_One.j2, if_neg (by decide), if_neg (by omega)]
theorem j3e (k : Nat) (t : ByteArray) (a x5 x6 x7 : Int) : breviaryref01_One.j3 (k + 2) t a x5 x6 x7 = if 240 ≤ a ∧ a < 248 then breviaryref01_One.j5 k t 4 (wrap64 (a - 240)) 65536 else breviaryref01_One.j5 k t x5 x6 x7 := by
 rw [breviaryref01_One.j3]
 by_cases h1 : a ≥ 240
 ·rw [if_pos h1, breviaryref01_One.j4]
  by_cases h2 : a < 248
  ·rw [if_pos (by simpa using h2), if_pos ⟨h1, h2⟩]
  ·rw [if_neg (by simpa using h2), if_neg (by omega)]
 ·rw [if_neg h1, breviaryref01_One.j4, if_neg (by decide), if_neg (by omega)]
theorem j5e (k : Nat) (t : ByteArray) (x5 x6 x7 : Int) : breviaryref01_One.j5 (k + 2) t x5 x6 x7 = if x5 = 0 ∨ (t.size : Int) < x5 then some (0, 0) else breviaryref01_One.l0 k t x5 x6 x7 1 := by
 rw [breviaryref01_One.j5]
 by_cases h1 : x5 = 0
 ·rw [if_pos h1, breviaryref01_One.j6, if_pos rfl, if_pos (.inl h1)]
 ·rw [if_neg h1, breviaryref01_One.j6]
  by_cases h2 : (t.size : Int) < x5
  ·rw [if_pos (by simpa using h2), if_pos (.inr h2)]
  ·rw [if_neg (by simpa using h2), if_neg (by omega)]
theorem pair_eq {a b : Int} {p : Nat × Nat} (h1 : a = (p.1 : Int)) (h2 : b = (p.2 : Int)) : (some (a, b) : Option (Int × Int)) = some ((p.1 : Int), (p.2 : Int)) := by rw [h1, h2]
theorem qo1 {n b0 b1 b2 b3 : Nat} (h : Lib.decodeN n b0 b1 b2 b3 = (65533, 1)) : oneN n b0 b1 b2 b3 = (0, 0) := by unfold oneN; rw [if_pos h]
theorem oneN_good {n b0 b1 b2 b3 x m : Nat} (h : Lib.decodeN n b0 b1 b2 b3 = (x, m)) (hm : 1 < m) : oneN n b0 b1 b2 b3 = (x, m) := by
 unfold oneN
 rw [h, if_neg]
 intro e
 have := congrArg Prod.snd e
 simp at this
 omega
theorem one_f (k : Nat) (hk : 40 < k) (t : ByteArray) (n b0 b1 b2 b3 : Nat) (hn : t.size = n) (hn0 : 0 < n) (hnb : n < 9223372036854775807) (h0 : bt t 0 = (b0 : Int)) (h1 : bt t ((1 : Nat) : Int) = (b1 : Int)) (h2 : bt t ((2 : Nat) : Int) = (b2 : Int)) (h3 : bt t ((3 : Nat) : Int) = (b3 : Int))
  (r0 : b0 ≤ 255) (r1 : b1 ≤ 255) (r2 : b2 ≤ 255) (r3 : b3 ≤ 255) : breviaryref01_One.f k t = some (((oneN n b0 b1 b2 b3).1 : Int), ((oneN n b0 b1 b2 b3).2 : Int)) := by
 obtain ⟨k, rfl⟩ : ∃ j, k = j + 20 := ⟨k - 20, by omega⟩
 unfold breviaryref01_One.f
 rw [hn, if_neg (by omega), if_pos (by omega), h0, w64 (by omega) (by omega)]
 by_cases c1 : b0 < 128
 ·rw [if_pos (by omega)]
  unfold oneN Lib.decodeN
  rw [if_pos c1, if_neg (by intro e; have := congrArg Prod.fst e; simp at this; omega)]
  rfl
 ·rw [if_neg (by omega)]
  by_cases c2 : b0 < 192
  ·rw [if_neg (by omega), j0f, j1e, if_neg (by omega), j3e, if_neg (by omega), j5e, if_pos (.inl rfl), qo1]
   ·rfl
   unfold Lib.decodeN
   rw [if_neg c1, if_neg (by omega), if_neg (by omega), if_neg (by omega)]
  ·rw [if_pos (by omega)]
   by_cases c3 : b0 < 224
   ·rw [show decide ((b0 : Int) < 224) = true from decide_eq_true (by omega), j0t, j1e, if_neg (by omega), j3e, if_neg (by omega), j5e, hn, w64 (by omega) (by omega)]
    by_cases e1 : n < 2
    ·rw [if_pos (.inr (by omega)), qo1]
     ·rfl
     unfold Lib.decodeN
     rw [if_neg c1, if_neg (by omega), if_neg (by omega), if_neg (by omega)]
    ·rw [if_neg (by omega), show (1 : Int) = ((1 : Nat) : Int) from rfl, one_step _ t 2 _ _ 1 b1 (by omega) (by omega) (by omega) h1 r1 (by omega) (by omega)]
     by_cases g1 : b1 < 128 ∨ 191 < b1
     ·rw [if_pos g1, qo1]
      ·rfl
      unfold Lib.decodeN
      rw [if_neg c1, if_neg (by omega), if_neg (by omega), if_neg (by omega)]
     ·rw [if_neg g1, show ((1 + 1 : Nat) : Int) = 2 from rfl, one_end]
      unfold fin
      by_cases g2 : b0 % 32 * 64 + b1 % 64 ≥ 128
      ·rw [if_neg (by omega), if_neg (by omega), if_neg (by omega), oneN_good (x := b0 % 32 * 64 + b1 % 64) (m := 2) _ (by omega)]
       ·exact pair_eq (by simp; omega) (by simp)
       unfold Lib.decodeN
       rw [if_neg c1, if_pos (by omega), if_pos g2]
      ·rw [if_pos (by omega), qo1]
       ·rfl
       unfold Lib.decodeN
       rw [if_neg c1, if_pos (by omega), if_neg g2]
   ·rw [show decide ((b0 : Int) < 224) = false from decide_eq_false (by omega), j0f, j1e]
    by_cases c4 : b0 < 240
    ·rw [if_pos (by omega), j3e, if_neg (by omega), j5e, hn, w64 (by omega) (by omega)]
     by_cases e1 : n < 3
     ·rw [if_pos (.inr (by omega)), qo1]
      ·rfl
      unfold Lib.decodeN
      rw [if_neg c1, if_neg (by omega), if_neg (by omega), if_neg (by omega)]
     ·rw [if_neg (by omega), show (1 : Int) = ((1 : Nat) : Int) from rfl, one_step _ t 3 _ _ 1 b1 (by omega) (by omega) (by omega) h1 r1 (by omega) (by omega)]
      by_cases g1 : b1 < 128 ∨ 191 < b1
      ·rw [if_pos g1, qo1]
       ·rfl
       unfold Lib.decodeN
       rw [if_neg c1, if_neg (by omega), if_neg (by omega), if_neg (by omega)]
      ·rw [if_neg g1, show (1 + 1 : Nat) = 2 from rfl, one_step _ t 3 _ _ 2 b2 (by omega) (by omega) (by omega) h2 r2 (by omega) (by omega)]
       by_cases g2 : b2 < 128 ∨ 191 < b2
       ·rw [if_pos g2, qo1]
        ·rfl
        unfold Lib.decodeN
        rw [if_neg c1, if_neg (by omega), if_neg (by omega), if_neg (by omega)]
       ·rw [if_neg g2, show ((2 + 1 : Nat) : Int) = 3 from rfl, one_end]
        unfold fin
        by_cases g3 : b0 % 16 * 4096 + b1 % 64 * 64 + b2 % 64 ≥ 2048 ∧ (b0 % 16 * 4096 + b1 % 64 * 64 + b2 % 64 < 55296 ∨ (57344 ≤ b0 % 16 * 4096 + b1 % 64 * 64 + b2 % 64 ∧ b0 % 16 * 4096 + b1 % 64 * 64 + b2 % 64 ≤ 1114111))
        ·rw [if_neg (by omega), if_neg (by omega), if_neg (by omega), oneN_good (x := b0 % 16 * 4096 + b1 % 64 * 64 + b2 % 64) (m := 3) _ (by omega)]
         ·exact pair_eq (by simp; omega) (by simp)
         unfold Lib.decodeN
         rw [if_neg c1, if_neg (by omega), if_pos (by omega), if_pos g3]
        ·have hz : oneN n b0 b1 b2 b3 = (0, 0) := qo1 (by unfold Lib.decodeN; rw [if_neg c1, if_neg (by omega), if_pos (by omega), if_neg g3])
         rw [hz]
         by_cases q1 : (((b0 : Int) - 224) * 64 + b1 - 128) * 64 + b2 - 128 < 2048
         ·rw [if_pos q1]; rfl
         ·rw [if_neg q1, if_neg (by omega), if_pos (by omega)]; rfl
    ·rw [if_neg (by omega), j3e]
     by_cases c5 : b0 < 248
     ·rw [if_pos (by omega), j5e, hn, w64 (by omega) (by omega)]
      by_cases e1 : n < 4
      ·rw [if_pos (.inr (by omega)), qo1]
       ·rfl
       unfold Lib.decodeN
       rw [if_neg c1, if_neg (by omega), if_neg (by omega), if_neg (by omega)]
      ·rw [if_neg (by omega), show (1 : Int) = ((1 : Nat) : Int) from rfl, one_step _ t 4 _ _ 1 b1 (by omega) (by omega) (by omega) h1 r1 (by omega) (by omega)]
       by_cases g1 : b1 < 128 ∨ 191 < b1
       ·rw [if_pos g1, qo1]
        ·rfl
        unfold Lib.decodeN
        rw [if_neg c1, if_neg (by omega), if_neg (by omega), if_neg (by omega)]
       ·rw [if_neg g1, show (1 + 1 : Nat) = 2 from rfl, one_step _ t 4 _ _ 2 b2 (by omega) (by omega) (by omega) h2 r2 (by omega) (by omega)]
        by_cases g2 : b2 < 128 ∨ 191 < b2
        ·rw [if_pos g2, qo1]
         ·rfl
         unfold Lib.decodeN
         rw [if_neg c1, if_neg (by omega), if_neg (by omega), if_neg (by omega)]
        ·rw [if_neg g2, show (2 + 1 : Nat) = 3 from rfl, one_step _ t 4 _ _ 3 b3 (by omega) (by omega) (by omega) h3 r3 (by omega) (by omega)]
         by_cases g4 : b3 < 128 ∨ 191 < b3
         ·rw [if_pos g4, qo1]
          ·rfl
          unfold Lib.decodeN
          rw [if_neg c1, if_neg (by omega), if_neg (by omega), if_neg (by omega)]
         ·rw [if_neg g4, show ((3 + 1 : Nat) : Int) = 4 from rfl, one_end]
          unfold fin
          by_cases g3 : b0 % 8 * 262144 + b1 % 64 * 4096 + b2 % 64 * 64 + b3 % 64 ≥ 65536 ∧ (b0 % 8 * 262144 + b1 % 64 * 4096 + b2 % 64 * 64 + b3 % 64 < 55296 ∨ (57344 ≤ b0 % 8 * 262144 + b1 % 64 * 4096 + b2 % 64 * 64 + b3 % 64 ∧ b0 % 8 * 262144 + b1 % 64 * 4096 + b2 % 64 * 64 + b3 % 64 ≤ 1114111))
          ·rw [if_neg (by omega), if_neg (by omega), if_neg (by omega), oneN_good (x := b0 % 8 * 262144 + b1 % 64 * 4096 + b2 % 64 * 64 + b3 % 64) (m := 4) _ (by omega)]
           ·exact pair_eq (by simp; omega) (by simp)
           unfold Lib.decodeN
           rw [if_neg c1, if_neg (by omega), if_neg (by omega), if_pos (by omega), if_pos g3]
          ·have hz : oneN n b0 b1 b2 b3 = (0, 0) := qo1 (by unfold Lib.decodeN; rw [if_neg c1, if_neg (by omega), if_neg (by omega), if_pos (by omega), if_neg g3])
           rw [hz]
           by_cases q1 : ((((b0 : Int) - 240) * 64 + b1 - 128) * 64 + b2 - 128) * 64 + b3 - 128 < 65536
           ·rw [if_pos q1]; rfl
           ·rw [if_neg q1]
            by_cases q2 : ((((b0 : Int) - 240) * 64 + b1 - 128) * 64 + b2 - 128) * 64 + b3 - 128 > 1114111
            ·rw [if_pos q2]; rfl
            ·rw [if_neg q2, if_pos (by omega)]; rfl
     ·rw [if_neg (by omega), j5e, if_pos (.inl rfl), qo1]
      ·rfl
      unfold Lib.decodeN
      rw [if_neg c1, if_neg (by omega), if_neg (by omega), if_neg (by omega)]
end Go.Proofs.YthilcidoacgdfaaGreatDoor.CharC
