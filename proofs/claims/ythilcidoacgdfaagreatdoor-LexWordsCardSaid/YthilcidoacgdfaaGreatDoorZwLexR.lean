import Derived.Test.YthilcidoacgdfaaGreatDoorZwPFx3
import Derived.Test.YthilcidoacgdfaaGreatDoorZwPFx4
import Derived.Test.YthilcidoacgdfaaGreatDoorZwPFx5
import Derived.Test.YthilcidoacgdfaaGreatDoorZwPFx6
import Derived.Test.YthilcidoacgdfaaGreatDoorZwPFx7
import Derived.Test.YthilcidoacgdfaaGreatDoorZwPFx8
import Derived.Test.YthilcidoacgdfaaGreatDoorZwPFx9
import Derived.Test.YthilcidoacgdfaaGreatDoorZwPFx10
import Derived.Test.YthilcidoacgdfaaGreatDoorZwPFx11
import Derived.Test.YthilcidoacgdfaaGreatDoorZwPFx12
import Derived.Test.YthilcidoacgdfaaGreatDoorZwPFx13
import Derived.Test.YthilcidoacgdfaaGreatDoorZwPFx14
import Derived.Test.YthilcidoacgdfaaGreatDoorZwPFx15
import Derived.Test.YthilcidoacgdfaaGreatDoorZwFigJ
import Derived.Test.YthilcidoacgdfaaGreatDoorZwTxtB
import Derived.Test.YthilcidoacgdfaaGreatDoorZwLexD
namespace Go.Proofs.YthilcidoacgdfaaGreatDoor.CharA
end Go.Proofs.YthilcidoacgdfaaGreatDoor.CharA
namespace Go.Proofs.YthilcidoacgdfaaGreatDoor.CharB
end Go.Proofs.YthilcidoacgdfaaGreatDoor.CharB
namespace Go.Proofs.YthilcidoacgdfaaGreatDoor.CharC
end Go.Proofs.YthilcidoacgdfaaGreatDoor.CharC
namespace Go.Proofs.YthilcidoacgdfaaGreatDoor.CharD
end Go.Proofs.YthilcidoacgdfaaGreatDoor.CharD
namespace Go.Proofs.YthilcidoacgdfaaGreatDoor.CharF
end Go.Proofs.YthilcidoacgdfaaGreatDoor.CharF
namespace Go.Proofs.YthilcidoacgdfaaGreatDoor.FigA
end Go.Proofs.YthilcidoacgdfaaGreatDoor.FigA
namespace Go.Proofs.YthilcidoacgdfaaGreatDoor.FigC
end Go.Proofs.YthilcidoacgdfaaGreatDoor.FigC
namespace Go.Proofs.YthilcidoacgdfaaGreatDoor.FigJ
end Go.Proofs.YthilcidoacgdfaaGreatDoor.FigJ
namespace Go.Proofs.YthilcidoacgdfaaGreatDoor.LexA
end Go.Proofs.YthilcidoacgdfaaGreatDoor.LexA
namespace Go.Proofs.YthilcidoacgdfaaGreatDoor.PF
end Go.Proofs.YthilcidoacgdfaaGreatDoor.PF
namespace Go.Proofs.YthilcidoacgdfaaGreatDoor.SpanA
end Go.Proofs.YthilcidoacgdfaaGreatDoor.SpanA
namespace Go.Proofs.YthilcidoacgdfaaGreatDoor.Txt
end Go.Proofs.YthilcidoacgdfaaGreatDoor.Txt
namespace Go.Proofs.YthilcidoacgdfaaGreatDoorW.PrintLast
end Go.Proofs.YthilcidoacgdfaaGreatDoorW.PrintLast
namespace Go.Proofs.YthilcidoacgdfaaGreatDoorW.PrintMore
end Go.Proofs.YthilcidoacgdfaaGreatDoorW.PrintMore
namespace Go.Proofs.YthilcidoacgdfaaGreatDoorW.PrintWords
end Go.Proofs.YthilcidoacgdfaaGreatDoorW.PrintWords
namespace Go.Proofs.YthilcidoacgdfaaGreatDoor.LexR
open Go.RowKit YthilcidoacgdfaaGreatDoorW.PrintWords YthilcidoacgdfaaGreatDoorW.PrintLast YthilcidoacgdfaaGreatDoorW.PrintMore CharA CharB CharC CharD CharF SpanA FigA FigC FigJ Txt LexA PF
set_option linter.unusedVariables false
set_option linter.unusedSimpArgs false
def toW (w : Wd) : S49 := ⟨w.1, ba w.2.1, ⟨w.2.2.1, w.2.2.2⟩⟩
theorem bs {α β : Type} (a : α) (f : α → Option β) : (some a).bind f = f a := rfl
theorem at_byte (s : ByteArray) (i : Nat) (h : i < s.size) : ∃ h' : i < s.data.toList.length, bt s (i : Int) = ((s.data.toList[i]).toNat : Int) ∧ s.data.toList.drop i = s.data.toList[i] :: s.data.toList.drop (i + 1) := by
 have h' : i < s.data.toList.length := by rw [← Lib.size_eq]; exact h
 exact ⟨h', by rw [bt_get s i h]; rfl, List.drop_eq_getElem_cons h'⟩
theorem space_byte (c : UInt8) : spaceB (c.toNat : Int) = spB c := by
 have : ∀ n : Fin 256, spaceB ((UInt8.ofNat n.1).toNat : Int) = spB (UInt8.ofNat n.1) := by decide +kernel
 have := this ⟨c.toNat, c.toNat_lt⟩
 simpa using this
theorem ref_spaces (s : ByteArray) (hs : s.size ≤ 1000) : ∀ (n i k : Nat), s.size ≤ i + n → i ≤ s.size → n < k → breviaryref06_Spaces.f k s (i : Int) = some ((i + ((s.data.toList.drop i).takeWhile spB).length : Nat) : Int) := by
 intro n
 unfold breviaryref06_Spaces.f
 induction n with
 | zero =>
  intro i k h hi hk
  obtain ⟨k, rfl⟩ : ∃ j, k = j + 1 := ⟨k - 1, by omega⟩
  rw [breviaryref06_Spaces.l0, if_neg (by omega), List.drop_eq_nil_of_le (by rw [← Lib.size_eq]; omega)]
  rfl
 | succ n ih =>
  intro i k h hi hk
  obtain ⟨k, rfl⟩ : ∃ j, k = j + 1 := ⟨k - 1, by omega⟩
  by_cases hlt : i < s.size
  ·obtain ⟨h', hb, hd⟩ := at_byte s i hlt
   have h8 := (s.data.toList[i]).toNat_lt
   rw [breviaryref06_Spaces.l0, if_pos (by omega), if_pos (by omega), hb, w64 (by omega) (by omega), ref_space, bs, space_byte, hd, List.takeWhile_cons]
   cases hsp : spB s.data.toList[i] with
   | true =>
    rw [if_pos rfl, if_pos rfl, w64 (by omega) (by omega), show ((i : Int) + 1) = ((i + 1 : Nat) : Int) by omega, ih (i + 1) k (by omega) (by omega) (by omega), List.length_cons]
    congr 2
    omega
   | false => simp
  ·rw [breviaryref06_Spaces.l0, if_neg (by omega), List.drop_eq_nil_of_le (by rw [← Lib.size_eq]; omega)]
   rfl
theorem ref_digits (s : ByteArray) (hs : s.size ≤ 1000) : ∀ (n i k : Nat), s.size ≤ i + n → i ≤ s.size → n < k → breviaryref12_digits.f k s (i : Int) = some ((i + ((s.data.toList.drop i).takeWhile digB).length : Nat) : Int) := by
 intro n
 unfold breviaryref12_digits.f
 induction n with
 | zero =>
  intro i k h hi hk
  obtain ⟨k, rfl⟩ : ∃ j, k = j + 1 := ⟨k - 1, by omega⟩
  rw [breviaryref12_digits.l0, if_neg (by omega), List.drop_eq_nil_of_le (by rw [← Lib.size_eq]; omega)]
  rfl
 | succ n ih =>
  intro i k h hi hk
  obtain ⟨k, rfl⟩ : ∃ j, k = j + 1 := ⟨k - 1, by omega⟩
  by_cases hlt : i < s.size
  ·obtain ⟨h', hb, hd⟩ := at_byte s i hlt
   rw [breviaryref12_digits.l0, if_pos (by omega), if_pos (by omega), hb, hd, List.takeWhile_cons]
   by_cases hdg : digB s.data.toList[i] = true
   ·have h48 := (qi1 _).1 hdg
    rw [if_pos (by omega), if_pos (by omega), if_pos hdg, w64 (by omega) (by omega), show ((i : Int) + 1) = ((i + 1 : Nat) : Int) by omega, ih (i + 1) k (by omega) (by omega) (by omega), List.length_cons]
    congr 2
    omega
   ·rw [if_neg hdg]
    have h48 := fun q => hdg ((qi1 _).2 q)
    by_cases h1 : ((s.data.toList[i]).toNat : Int) ≥ 48
    ·rw [if_pos h1, if_neg (fun q => h48 ⟨by omega, by omega⟩)]; rfl
    ·rw [if_neg h1]; rfl
  ·rw [breviaryref12_digits.l0, if_neg (by omega), List.drop_eq_nil_of_le (by rw [← Lib.size_eq]; omega)]
   rfl
theorem tl (s : ByteArray) : s.toList = s.data.toList := ByteArray.toList_eq s
theorem take_pre (p S : List UInt8) : (S.take p.length == p) = p.isPrefixOf S := by
 rw [Bool.eq_iff_iff, beq_iff_eq, List.isPrefixOf_iff_prefix]
 constructor
 ·intro h; rw [← h]; exact List.take_prefix _ _
 ·rintro ⟨t, rfl⟩; rw [List.take_left]
theorem ref_begins (s t : ByteArray) (i : Nat) (hs : s.size ≤ 1000) (hi : i ≤ s.size) (ht : t.size ≤ 1000) : breviaryref12_begins.f s (i : Int) t = some (t.data.toList.isPrefixOf (s.data.toList.drop i)) := by
 unfold breviaryref12_begins.f
 rw [w64 (by omega) (by omega), show (i : Int) + (t.size : Int) = ((i + t.size : Nat) : Int) by omega]
 by_cases h : i + t.size ≤ s.size
 ·rw [if_pos (by omega), if_pos (by omega), if_pos (by omega), Int.toNat_natCast, Int.toNat_natCast, tl, tl, qa1, Nat.add_sub_cancel_left, Lib.size_eq t, take_pre]
 ·rw [if_neg (by omega)]
  congr 1
  symm
  rw [Bool.eq_false_iff]
  intro hp
  have := pre_len hp
  rw [List.length_drop, ← Lib.size_eq, ← Lib.size_eq] at this
  omega
theorem ref_in (x : ByteArray) (l : List ByteArray) (hl : l.length ≤ 100) : ∀ (n i k : Nat), l.length ≤ i + n → i ≤ l.length → n < k → breviaryref12_in.l0 k x l (i : Int) = some ((l.drop i).any (fun m => m.data.toList == x.data.toList)) := by
 intro n
 induction n with
 | zero =>
  intro i k h hi hk
  obtain ⟨k, rfl⟩ : ∃ j, k = j + 1 := ⟨k - 1, by omega⟩
  rw [breviaryref12_in.l0, if_neg (by omega), List.drop_eq_nil_of_le (by omega)]
  rfl
 | succ n ih =>
  intro i k h hi hk
  obtain ⟨k, rfl⟩ : ∃ j, k = j + 1 := ⟨k - 1, by omega⟩
  by_cases hlt : i < l.length
  ·rw [breviaryref12_in.l0, if_pos (by omega), if_pos (by omega), rd_at l i hlt, List.drop_eq_getElem_cons hlt, List.any_cons, tl, tl]
   by_cases he : l[i].data.toList = x.data.toList
   ·rw [if_pos he, beq_iff_eq.2 he]; rfl
   ·rw [if_neg he, w64 (by omega) (by omega), show ((i : Int) + 1) = ((i + 1 : Nat) : Int) by omega, ih (i + 1) k (by omega) (by omega) (by omega), beq_eq_false_iff_ne.2 he]; rfl
  ·rw [breviaryref12_in.l0, if_neg (by omega), List.drop_eq_nil_of_le (by omega)]
   rfl
theorem any_contains (x : ByteArray) : ∀ l : List (List UInt8), (l.map ba).any (fun m => m.data.toList == x.data.toList) = l.contains x.data.toList
 | [] => rfl
 | m :: l => by
  rw [List.map_cons, List.any_cons, any_contains x l, qu, List.contains_cons]
  congr 1
  rw [Bool.eq_iff_iff, beq_iff_eq, beq_iff_eq]
  exact eq_comm
theorem ref_in_f (x : ByteArray) (l : List (List UInt8)) (hl : l.length ≤ 100) (k : Nat) (hk : 200 < k) (L : List ByteArray) (hL : L = l.map ba) : breviaryref12_in.f k x L = some (l.contains x.data.toList) := by
 unfold breviaryref12_in.f
 subst hL
 have := ref_in x (l.map ba) (by simp; omega) (l.map ba).length 0 k (by omega) (by omega) (by simp; omega)
 rw [List.drop_zero, any_contains] at this
 exact this
theorem ref_ends (acc : List Wd) (ha : acc.length ≤ 1000) (k : Nat) (hk : 200 < k) : breviaryref12_ends.f k (acc.map toW) = some (endsW acc) := by
 unfold breviaryref12_ends.f
 rw [List.length_map]
 rcases List.eq_nil_or_concat acc with rfl | ⟨l, ⟨kd, tt, d1, d2⟩, rfl⟩
 ·rfl
 ·rw [List.concat_eq_append] at ha ⊢
  have hlen : ((l ++ [(kd, tt, d1, d2)]).length : Int) = (l.length : Int) + 1 := by simp
  rw [hlen, if_neg (by omega), w64 (by simp at ha; omega) (by simp at ha; omega), if_pos (by omega), if_pos (by omega), show (l.length : Int) + 1 - 1 = (l.length : Int) by omega]
  have hrd : qw ((l ++ [(kd, tt, d1, d2)]).map toW) (l.length : Int) = toW (kd, tt, d1, d2) := by
   unfold qw
   rw [Int.toNat_natCast, List.map_append]
   simp [List.getD]
  rw [hrd]
  unfold endsW
  rw [List.getLast?_concat]
  show (if kd = 5 then some false else if kd = 1 then (breviaryref12_in.f k (ba tt) _).bind _ else some true) = some (if kd = 5 then false else if kd = 1 then !(opensL.contains tt) else true)
  by_cases h5 : kd = 5
  ·rw [if_pos h5, if_pos h5]
  ·rw [if_neg h5, if_neg h5]
   by_cases h1 : kd = 1
   ·rw [if_pos h1, if_pos h1, ref_in_f (ba tt) opensL (by decide) k hk [(⟨#[64]⟩ : ByteArray), ⟨#[58, 58]⟩, ⟨#[40]⟩, ⟨#[91]⟩, ⟨#[44]⟩] rfl, bs, qu]
   ·rw [if_neg h1, if_neg h1]
theorem sign_l1 (s : ByteArray) (p : Nat) (hs : s.size ≤ 1000) (hp : p ≤ s.size) (l : List ByteArray) (hl : l.length ≤ 100) (hm : ∀ m ∈ l, m.size ≤ 1000) : ∀ (n i k : Nat), l.length ≤ i + n → i ≤ l.length → n < k →
  breviaryref12_sign.l1 k s (p : Int) l (i : Int) = some (match (l.drop i).find? (fun m => m.data.toList.isPrefixOf (s.data.toList.drop p)) with | some m => (5, m) | none => (0, ⟨#[]⟩)) := by
 intro n
 induction n with
 | zero =>
  intro i k h hi hk
  obtain ⟨k, rfl⟩ : ∃ j, k = j + 1 := ⟨k - 1, by omega⟩
  rw [breviaryref12_sign.l1, if_neg (by omega), show l.drop i = [] from List.drop_eq_nil_of_le (by omega)]
  rfl
 | succ n ih =>
  intro i k h hi hk
  obtain ⟨k, rfl⟩ : ∃ j, k = j + 1 := ⟨k - 1, by omega⟩
  by_cases hlt : i < l.length
  ·rw [breviaryref12_sign.l1, if_pos (by omega), if_pos (by omega), rd_at l i hlt, List.drop_eq_getElem_cons hlt, List.find?_cons, ref_begins s _ p hs hp (hm _ (List.getElem_mem hlt)), bs]
   cases hb : l[i].data.toList.isPrefixOf (s.data.toList.drop p) with
   | true => rw [if_pos rfl]
   | false => rw [if_neg (by simp), w64 (by omega) (by omega), show ((i : Int) + 1) = ((i + 1 : Nat) : Int) by omega, ih (i + 1) k (by omega) (by omega) (by omega)]
  ·rw [breviaryref12_sign.l1, if_neg (by omega), show l.drop i = [] from List.drop_eq_nil_of_le (by omega)]
   rfl
theorem sign_l0 (s : ByteArray) (p : Nat) (hs : s.size ≤ 1000) (hp : p ≤ s.size) (l : List ByteArray) (hl : l.length ≤ 100) (hm : ∀ m ∈ l, m.size ≤ 1000) (R : Option (Int × ByteArray)) (hR : ∀ k, 100 < k → breviaryref12_sign.l1 k s (p : Int) (opsL.map ba) 0 = R) : ∀ (n i k : Nat), l.length ≤ i + n → i ≤ l.length → n + 110 < k →
  breviaryref12_sign.l0 k s (p : Int) l (i : Int) = (match (l.drop i).find? (fun m => m.data.toList.isPrefixOf (s.data.toList.drop p)) with | some m => some (1, m) | none => R) := by
 intro n
 induction n with
 | zero =>
  intro i k h hi hk
  obtain ⟨k, rfl⟩ : ∃ j, k = j + 1 := ⟨k - 1, by omega⟩
  rw [breviaryref12_sign.l0, if_neg (by omega), show l.drop i = [] from List.drop_eq_nil_of_le (by omega)]
  exact hR k (by omega)
 | succ n ih =>
  intro i k h hi hk
  obtain ⟨k, rfl⟩ : ∃ j, k = j + 1 := ⟨k - 1, by omega⟩
  by_cases hlt : i < l.length
  ·rw [breviaryref12_sign.l0, if_pos (by omega), if_pos (by omega), rd_at l i hlt, List.drop_eq_getElem_cons hlt, List.find?_cons, ref_begins s _ p hs hp (hm _ (List.getElem_mem hlt)), bs]
   cases hb : l[i].data.toList.isPrefixOf (s.data.toList.drop p) with
   | true => rw [if_pos rfl]
   | false => rw [if_neg (by simp), w64 (by omega) (by omega), show ((i : Int) + 1) = ((i + 1 : Nat) : Int) by omega, ih (i + 1) k (by omega) (by omega) (by omega)]
  ·rw [breviaryref12_sign.l0, if_neg (by omega), show l.drop i = [] from List.drop_eq_nil_of_le (by omega)]
   exact hR k (by omega)
theorem find_map (S : List UInt8) : ∀ l : List (List UInt8), (l.map ba).find? (fun m => m.data.toList.isPrefixOf S) = (qv l S).map ba
 | [] => rfl
 | m :: l => by
  have ih := find_map S l
  unfold qv at ih ⊢
  rw [List.map_cons, List.find?_cons, List.find?_cons, qu, ih]
  cases m.isPrefixOf S <;> rfl
def signS (S : List UInt8) : Int × ByteArray := match qv marksL S with | some m => (1, ba m) | none => match qv opsL S with | some m => (5, ba m) | none => (0, ⟨#[]⟩)
theorem ref_sign (s : ByteArray) (p : Nat) (hs : s.size ≤ 1000) (hp : p ≤ s.size) (k : Nat) (hk : 300 < k) : breviaryref12_sign.f k s (p : Int) = some (signS (s.data.toList.drop p)) := by
 have h1 : ∀ k, 100 < k → breviaryref12_sign.l1 k s (p : Int) (opsL.map ba) 0 = some (match qv opsL (s.data.toList.drop p) with | some m => (5, ba m) | none => (0, ⟨#[]⟩)) := by
  intro k hk
  have := sign_l1 s p hs hp (opsL.map ba) (by decide) (by decide) 11 0 k (by decide) (by decide) (by omega)
  rw [List.drop_zero, find_map] at this
  refine this.trans ?_
  cases qv opsL (s.data.toList.drop p) <;> rfl
 have := sign_l0 s p hs hp (marksL.map ba) (by decide) (by decide) _ h1 9 0 k (by decide) (by decide) (by omega)
 rw [List.drop_zero, find_map] at this
 unfold breviaryref12_sign.f signS
 refine Eq.trans this ?_
 cases qv marksL (s.data.toList.drop p) <;> rfl
theorem ref_run (s : ByteArray) (hs : s.size ≤ 1000) : ∀ (f i k : Nat), s.size ≤ i + f → i ≤ s.size → f + 100 < k → textB (ba (s.data.toList.drop i)) = true → breviaryref06_Run.f k s (i : Int) = some ((i + (runL f (s.data.toList.drop i)).length : Nat) : Int) := by
 intro f
 unfold breviaryref06_Run.f
 induction f with
 | zero =>
  intro i k h hi hk ht
  obtain ⟨k, rfl⟩ : ∃ j, k = j + 1 := ⟨k - 1, by omega⟩
  rw [breviaryref06_Run.l0, if_neg (by omega)]
  rfl
 | succ f ih =>
  intro i k h hi hk ht
  obtain ⟨k, rfl⟩ : ∃ j, k = j + 1 := ⟨k - 1, by omega⟩
  by_cases hlt : i < s.size
  ·have hne : s.data.toList.drop i ≠ [] := fun e => by have := congrArg List.length e; rw [List.length_drop, ← Lib.size_eq] at this; simp at this; omega
   have hd := Lib.decodeL_drop s i
   have hw1 := qu1 s i hlt
   have hw2 := width_le s i hlt
   rw [breviaryref06_Run.l0, if_pos (by omega), if_pos (by omega), if_pos (by omega), Int.toNat_natCast, one_at k (by omega) s i hlt (by omega), bs, ← hd]
   rw [← hd] at hw1 hw2
   rw [textB_step _ hne] at ht
   by_cases hbad : Lib.decodeL (s.data.toList.drop i) = (65533, 1)
   ·rw [if_pos hbad] at ht; cases ht
   ·rw [if_neg hbad] at ht ⊢
    rw [Bool.and_eq_true] at ht
    rw [if_neg (by simp only; omega)]
    simp only [runL]
    rw [if_neg hne, ref_part k (by omega), bs]
    by_cases hp : partB ((Lib.decodeL (s.data.toList.drop i)).1 : Int) = true
    ·rw [if_pos hp, if_pos hp, w64 (by omega) (by omega), show ((i : Int) + ((Lib.decodeL (s.data.toList.drop i)).2 : Int)) = ((i + (Lib.decodeL (s.data.toList.drop i)).2 : Nat) : Int) by omega]
     rw [List.drop_drop] at ht
     have hmin : min (Lib.decodeL (s.data.toList.drop i)).2 (s.size - i) = (Lib.decodeL (s.data.toList.drop i)).2 := by omega
     rw [ih _ k (by omega) (by omega) (by omega) ht.2, List.length_append, List.length_take, List.length_drop, List.drop_drop, ← Lib.size_eq, hmin, Nat.add_assoc]
    ·rw [if_neg hp, if_neg hp]; rfl
  ·rw [breviaryref06_Run.l0, if_neg (by omega), List.drop_eq_nil_of_le (by rw [← Lib.size_eq]; omega)]
   simp [runL]
theorem ref_runS (s : ByteArray) (hs : s.size ≤ 1000) (i k : Nat) (hi : i ≤ s.size) (hk : 1200 < k) (ht : textB (ba (s.data.toList.drop i)) = true) : breviaryref06_Run.f k s (i : Int) = some ((i + (runS (s.data.toList.drop i)).length : Nat) : Int) := by
 have := ref_run s hs (s.data.toList.drop i).length i k (by rw [List.length_drop, ← Lib.size_eq]; omega) hi (by rw [List.length_drop, ← Lib.size_eq]; omega) ht
 exact this
theorem ref_find (s : ByteArray) (c : UInt8) (hs : s.size ≤ 1000) : ∀ (n i k : Nat), s.size ≤ i + n → i ≤ s.size → n < k → breviaryref06_Find.f k s (i : Int) ⟨#[c]⟩ = some (match cutC c (s.data.toList.drop i) with | some (a, _) => ((i + a.length : Nat) : Int) | none => -1) := by
 intro n
 unfold breviaryref06_Find.f
 induction n with
 | zero =>
  intro i k h hi hk
  obtain ⟨k, rfl⟩ : ∃ j, k = j + 1 := ⟨k - 1, by omega⟩
  have h1 : ((⟨#[c]⟩ : ByteArray).size : Int) = 1 := rfl
  rw [breviaryref06_Find.l0, h1, w64 (by omega) (by omega), if_neg (by omega), List.drop_eq_nil_of_le (by rw [← Lib.size_eq]; omega)]
  rfl
 | succ n ih =>
  intro i k h hi hk
  obtain ⟨k, rfl⟩ : ∃ j, k = j + 1 := ⟨k - 1, by omega⟩
  have h1 : ((⟨#[c]⟩ : ByteArray).size : Int) = 1 := rfl
  by_cases hlt : i < s.size
  ·obtain ⟨h', hb, hd⟩ := at_byte s i hlt
   rw [breviaryref06_Find.l0, h1, w64 (by omega) (by omega), if_pos (by omega), if_pos (by omega), if_pos (by omega), tl, tl, qa1, show ((i : Int) + 1).toNat = i + 1 by omega, Int.toNat_natCast, Nat.add_sub_cancel_left, hd]
   simp only [cutC]
   by_cases he : s.data.toList[i] = c
   ·rw [if_pos he, if_pos (by rw [he]; rfl)]; rfl
   ·rw [if_neg he, if_neg (by intro q; exact he (by simpa using q)), show ((i : Int) + 1) = ((i + 1 : Nat) : Int) by omega, ih (i + 1) k (by omega) (by omega) (by omega)]
    cases cutC c (s.data.toList.drop (i + 1)) with
    | none => rfl
    | some q =>
     obtain ⟨a, r⟩ := q
     simp only [List.length_cons]
     congr 2
     omega
  ·rw [breviaryref06_Find.l0, h1, w64 (by omega) (by omega), if_neg (by omega), List.drop_eq_nil_of_le (by rw [← Lib.size_eq]; omega)]
   rfl
end Go.Proofs.YthilcidoacgdfaaGreatDoor.LexR
