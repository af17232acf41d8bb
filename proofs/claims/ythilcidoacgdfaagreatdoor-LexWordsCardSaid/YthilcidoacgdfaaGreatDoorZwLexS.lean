import Derived.Test.YthilcidoacgdfaaGreatDoorZwLexR
set_option maxHeartbeats 2000000
set_option maxRecDepth 100000
namespace Go.Proofs.YthilcidoacgdfaaGreatDoor.CharA
end Go.Proofs.YthilcidoacgdfaaGreatDoor.CharA
namespace Go.Proofs.YthilcidoacgdfaaGreatDoor.CharB
end Go.Proofs.YthilcidoacgdfaaGreatDoor.CharB
namespace Go.Proofs.YthilcidoacgdfaaGreatDoor.CharC
end Go.Proofs.YthilcidoacgdfaaGreatDoor.CharC
namespace Go.Proofs.YthilcidoacgdfaaGreatDoor.CharD
end Go.Proofs.YthilcidoacgdfaaGreatDoor.CharD
namespace Go.Proofs.YthilcidoacgdfaaGreatDoor.CharF
end Go.Proofs.YthilcidoacgdfaaGreatDoor.CharF
namespace Go.Proofs.YthilcidoacgdfaaGreatDoor.FigA
end Go.Proofs.YthilcidoacgdfaaGreatDoor.FigA
namespace Go.Proofs.YthilcidoacgdfaaGreatDoor.FigC
end Go.Proofs.YthilcidoacgdfaaGreatDoor.FigC
namespace Go.Proofs.YthilcidoacgdfaaGreatDoor.FigJ
end Go.Proofs.YthilcidoacgdfaaGreatDoor.FigJ
namespace Go.Proofs.YthilcidoacgdfaaGreatDoor.LexA
end Go.Proofs.YthilcidoacgdfaaGreatDoor.LexA
namespace Go.Proofs.YthilcidoacgdfaaGreatDoor.LexR
end Go.Proofs.YthilcidoacgdfaaGreatDoor.LexR
namespace Go.Proofs.YthilcidoacgdfaaGreatDoor.PF
end Go.Proofs.YthilcidoacgdfaaGreatDoor.PF
namespace Go.Proofs.YthilcidoacgdfaaGreatDoor.SpanA
end Go.Proofs.YthilcidoacgdfaaGreatDoor.SpanA
namespace Go.Proofs.YthilcidoacgdfaaGreatDoor.Txt
end Go.Proofs.YthilcidoacgdfaaGreatDoor.Txt
namespace Go.Proofs.YthilcidoacgdfaaGreatDoorW.PrintLast
end Go.Proofs.YthilcidoacgdfaaGreatDoorW.PrintLast
namespace Go.Proofs.YthilcidoacgdfaaGreatDoorW.PrintMore
end Go.Proofs.YthilcidoacgdfaaGreatDoorW.PrintMore
namespace Go.Proofs.YthilcidoacgdfaaGreatDoorW.PrintWords
end Go.Proofs.YthilcidoacgdfaaGreatDoorW.PrintWords
namespace Go.Proofs.YthilcidoacgdfaaGreatDoor.LexS
open Go.RowKit YthilcidoacgdfaaGreatDoorW.PrintWords YthilcidoacgdfaaGreatDoorW.PrintLast YthilcidoacgdfaaGreatDoorW.PrintMore CharA CharB CharC CharD CharF SpanA FigA FigC FigJ Txt LexA LexR PF
set_option linter.unusedVariables false
set_option linter.unusedSimpArgs false
theorem bs {α β : Type} (a : α) (f : α → Option β) : (some a).bind f = f a := rfl
theorem w64 {n : Int} (h0 : -9223372036854775808 ≤ n) (h1 : n ≤ 9223372036854775807) : wrap64 n = n := by unfold wrap64; omega
theorem drop_while (p : UInt8 → Bool) : ∀ l : List UInt8, l.dropWhile p = l.drop (l.takeWhile p).length
 | [] => rfl
 | x :: l => by
  rw [List.dropWhile_cons, List.takeWhile_cons]
  cases hp : p x with
  | true => simpa using drop_while p l
  | false => simp
theorem run_take (S : List UInt8) : S.take (runS S).length = runS S := by
 obtain ⟨t, ht⟩ := LexD.run_pre S.length S
 have : (runS S ++ t).take (runS S).length = runS S := List.take_left
 rwa [show runS S ++ t = S from ht] at this
theorem cut_run (s : ByteArray) (i : Nat) : s.extract i (i + (runS (s.data.toList.drop i)).length) = ba (runS (s.data.toList.drop i)) := qg1 (by rw [qa1, qu, Nat.add_sub_cancel_left, run_take])
theorem qs1 (s : ByteArray) (i n : Nat) : s.data.toList.drop (i + n) = (s.data.toList.drop i).drop n := by rw [List.drop_drop]
def namedS (S : List UInt8) (acc : List Wd) : Int × ByteArray × Int × Int × Bool :=
 if nameB (ba (runS S)) = true then (if endsW acc = true then (5, ba (runS S), 0, 0, fourL.contains (runS S)) else (kindW (runS S) (S.drop (runS S).length), ba (runS S), 0, 0, true)) else (0, ⟨#[]⟩, 0, 0, false)
theorem named_j0 (s x : ByteArray) (i2 : Nat) (hs : s.size ≤ 1000) (hi2 : i2 ≤ s.size) (X r : List UInt8) (hX : x = ba X) (hr : r.dropWhile spB = s.data.toList.drop i2) (k : Nat) (hk : 300 < k) :
  breviaryref12_named.j0 k s x (i2 : Int) (if ([58, 58] : List UInt8).isPrefixOf (s.data.toList.drop i2) = true then 7 else 2) x 0 0 = some (kindW X r, x, 0, 0, true) := by
 obtain ⟨k, rfl⟩ : ∃ j, k = j + 1 := ⟨k - 1, by omega⟩
 subst hX
 rw [breviaryref12_named.j0, ref_begins s ⟨#[40]⟩ i2 hs hi2 (by decide), bs, show (⟨#[40]⟩ : ByteArray).data.toList = [40] from rfl]
 unfold kindW
 rw [hr]
 by_cases h1 : ([40] : List UInt8).isPrefixOf (s.data.toList.drop i2) = true
 ·rw [if_pos h1, if_pos h1, ref_in_f (ba X) typesL (by decide) k (by omega) [(⟨#[99, 111, 109, 109, 101, 110, 116]⟩ : ByteArray), ⟨#[116, 101, 120, 116]⟩, ⟨#[112, 114, 111, 99, 101, 115, 115, 105, 110, 103, 45, 105, 110, 115, 116, 114, 117, 99, 116, 105, 111, 110]⟩, ⟨#[110, 111, 100, 101]⟩] rfl, bs, qu]
  split <;> rfl
 ·rw [if_neg h1, if_neg h1]
theorem ref_named (s : ByteArray) (i : Nat) (acc : List Wd) (hs : s.size ≤ 1000) (hi : i ≤ s.size) (ha : acc.length ≤ 1000) (k : Nat) (hk : 2000 < k) :
  breviaryref12_named.f k s (i : Int) ((i + (runS (s.data.toList.drop i)).length : Nat) : Int) (acc.map toW) = some (namedS (s.data.toList.drop i) acc) := by
 have hle := runS_le (s.data.toList.drop i)
 rw [List.length_drop, ← Lib.size_eq] at hle
 unfold breviaryref12_named.f namedS
 rw [if_pos (by omega), if_pos (by omega), if_pos (by omega), Int.toNat_natCast, Int.toNat_natCast, cut_run, ref_name _ (by rw [qc1]; omega) k (by rw [qc1]; omega), bs]
 by_cases hn : nameB (ba (runS (s.data.toList.drop i))) = true
 ·rw [if_pos hn, if_pos hn, ref_ends acc ha k (by omega), bs]
  by_cases he : endsW acc = true
  ·rw [if_pos he, if_pos he, ref_in_f (ba (runS (s.data.toList.drop i))) fourL (by decide) k (by omega) [(⟨#[97, 110, 100]⟩ : ByteArray), ⟨#[111, 114]⟩, ⟨#[109, 111, 100]⟩, ⟨#[100, 105, 118]⟩] rfl, bs, qu]
  ·rw [if_neg he, if_neg he]
   have hsp := ref_spaces s hs s.size (i + (runS (s.data.toList.drop i)).length) k (by omega) (by omega) (by omega)
   have htl := (List.takeWhile_sublist (l := s.data.toList.drop (i + (runS (s.data.toList.drop i)).length)) spB).length_le
   rw [List.length_drop, ← Lib.size_eq] at htl
   have hdw : ((s.data.toList.drop i).drop (runS (s.data.toList.drop i)).length).dropWhile spB = s.data.toList.drop (i + (runS (s.data.toList.drop i)).length + ((s.data.toList.drop (i + (runS (s.data.toList.drop i)).length)).takeWhile spB).length) := by
    rw [← qs1, drop_while, qs1 s (i + (runS (s.data.toList.drop i)).length)]
   rw [hsp, bs, ref_begins s ⟨#[58, 58]⟩ _ hs (by omega) (by decide), bs, show (⟨#[58, 58]⟩ : ByteArray).data.toList = [58, 58] from rfl]
   have hj := named_j0 s (ba (runS (s.data.toList.drop i))) _ hs (by omega) _ _ rfl hdw k (by omega)
   by_cases h2 : ([58, 58] : List UInt8).isPrefixOf (s.data.toList.drop (i + (runS (s.data.toList.drop i)).length + ((s.data.toList.drop (i + (runS (s.data.toList.drop i)).length)).takeWhile spB).length)) = true
   ·rw [if_pos h2] at hj ⊢; exact hj
   ·rw [if_neg h2] at hj ⊢; exact hj
 ·rw [if_neg hn, if_neg hn]
def OneR (s : ByteArray) (o : Option (Wd × List UInt8)) (q : Option (Int × ByteArray × Int × Int × Int)) : Prop :=
 match o with
 | none => q = some (0, ⟨#[]⟩, 0, 0, 0)
 | some (w, r) => ∃ pos : Nat, 0 < pos ∧ pos ≤ s.size ∧ s.data.toList.drop pos = r ∧ q = some (w.1, ba w.2.1, w.2.2.1, w.2.2.2, (pos : Int))
theorem one_j2 (s : ByteArray) (i e : Nat) (hs : s.size ≤ 500) (hi : i < e) (he : e ≤ s.size) (S : List UInt8) (hS : s.data.toList.drop i = S) (hT : e = i + (numT S).length) (k : Nat) (hk : 6500 < k) (x76 : Bool) (x10 : Nat)
  (hx : (x76 = true ∧ breviaryref12_digits.f (k - 1) s (wrap64 ((x10 : Int) + 1)) = some (e : Int)) ∨ (x76 = false ∧ x10 = e)) :
  OneR s (numW S) (breviaryref12_one.j2 k s (i : Int) (x10 : Int) x76) := by
 obtain ⟨k, rfl⟩ : ∃ j, k = j + 1 := ⟨k - 1, by omega⟩
 have hcut : s.extract i e = ba (numT S) := by
  refine qg1 ?_
  rw [qa1, qu, hS, hT, Nat.add_sub_cancel_left]
  obtain ⟨y, hy⟩ := LexD.numT_pre S
  have : (numT S ++ y).take (numT S).length = numT S := List.take_left
  rwa [← hy] at this
 have hl := ref_lit (numT S) (by have := congrArg List.length hS; rw [List.length_drop, ← Lib.size_eq] at this; have := numT_le S; omega) k (by omega)
 have hdr : s.data.toList.drop e = S.drop (numT S).length := by rw [hT, qs1, hS]
 have fin : OneR s (numW S) (if (litS (numT S)).2 = true then (if (litS (numT S)).1.1 = 0 then (some (9, ba (numT S), (litS (numT S)).1.1, (litS (numT S)).1.2, (e : Int))) else (some (0, (⟨#[]⟩ : ByteArray), 0, 0, 0))) else (some (0, (⟨#[]⟩ : ByteArray), 0, 0, 0))) := by
  unfold numW
  by_cases h1 : (litS (numT S)).2 = true
  ·rw [if_pos h1]
   by_cases h2 : (litS (numT S)).1.1 = 0
   ·rw [if_pos h2, if_pos ⟨h1, h2⟩]
    exact ⟨e, by omega, he, hdr, rfl⟩
   ·rw [if_neg h2, if_neg (fun z => h2 z.2)]
    rfl
  ·rw [if_neg h1, if_neg (fun z => h1 z.1)]
   rfl
 rw [breviaryref12_one.j2]
 rcases hx with ⟨rfl, hx⟩ | ⟨rfl, rfl⟩
 ·rw [Nat.add_sub_cancel] at hx
  rw [if_pos rfl, hx, bs, if_pos (by omega), if_pos (by omega), if_pos (by omega), Int.toNat_natCast, Int.toNat_natCast, hcut, hl, bs]
  exact fin
 ·rw [if_neg (by simp), if_pos (by omega), if_pos (by omega), if_pos (by omega), Int.toNat_natCast, Int.toNat_natCast, hcut, hl, bs]
  exact fin
def restO (c : UInt8) (t : List UInt8) (e : Bool) : Option (Wd × List UInt8) :=
 match qv marksL (c :: t) with
 | some m => some ((1, m, 0, 0), (c :: t).drop m.length)
 | none => match qv opsL (c :: t) with
  | some m => some ((5, m, 0, 0), (c :: t).drop m.length)
  | none => if c = 42 then some ((if e = true then 5 else 3, [42], 0, 0), t) else if c = 36 then varW t else nameW (c :: t) e
theorem u8i (a : UInt8) (n : Nat) (hn : n < 256) : ((a.toNat : Int) = (n : Int)) ↔ a = UInt8.ofNat n := by
 constructor
 ·intro h
  apply UInt8.toNat_inj.1
  rw [UInt8.toNat_ofNat']
  omega
 ·rintro rfl
  rw [UInt8.toNat_ofNat']
  omega
theorem c34 (c : UInt8) : ((c.toNat : Int) = 34) ↔ c = 34 := u8i c 34 (by omega)
theorem c36 (c : UInt8) : ((c.toNat : Int) = 36) ↔ c = 36 := u8i c 36 (by omega)
theorem c39 (c : UInt8) : ((c.toNat : Int) = 39) ↔ c = 39 := u8i c 39 (by omega)
theorem c42 (c : UInt8) : ((c.toNat : Int) = 42) ↔ c = 42 := u8i c 42 (by omega)
theorem c46 (c : UInt8) : ((c.toNat : Int) = 46) ↔ c = 46 := u8i c 46 (by omega)
theorem one_rest (s : ByteArray) (i : Nat) (c : UInt8) (t : List UInt8) (acc : List Wd) (hs : s.size ≤ 500) (hi : i < s.size) (hS : s.data.toList.drop i = c :: t) (ha : acc.length ≤ 1000) (ht : textB (ba (c :: t)) = true) (k : Nat) (hk : 6500 < k) (x10 : Int) :
  OneR s (restO c t (endsW acc)) (breviaryref12_one.j1 k s (i : Int) (acc.map toW) (c.toNat : Int) x10 false) := by
 obtain ⟨k, rfl⟩ : ∃ j, k = j + 1 := ⟨k - 1, by omega⟩
 have hlen := congrArg List.length hS
 rw [List.length_drop, ← Lib.size_eq, List.length_cons] at hlen
 have hS1 : s.data.toList.drop (i + 1) = t := by rw [qs1, hS]; rfl
 rw [breviaryref12_one.j1, if_neg (by simp), ref_sign s i (by omega) (by omega) k (by omega), bs, hS]
 unfold restO signS
 cases hm : qv marksL (c :: t) with
 | some m =>
  have h1 := marks_ne m (find_pre hm).1
  have h2 := pre_len (find_pre hm).2
  rw [List.length_cons] at h2
  simp only
  rw [if_pos (by omega), qc1, w64 (by omega) (by omega)]
  refine ⟨i + m.length, by omega, by omega, by rw [qs1, hS], ?_⟩
  rw [show (i : Int) + (m.length : Int) = ((i + m.length : Nat) : Int) by omega]
 | none =>
  simp only
  cases ho : qv opsL (c :: t) with
  | some m =>
   have h1 := ops_ne m (find_pre ho).1
   have h2 := pre_len (find_pre ho).2
   rw [List.length_cons] at h2
   simp only
   rw [if_pos (by omega), qc1, w64 (by omega) (by omega)]
   refine ⟨i + m.length, by omega, by omega, by rw [qs1, hS], ?_⟩
   rw [show (i : Int) + (m.length : Int) = ((i + m.length : Nat) : Int) by omega]
  | none =>
   simp only
   rw [if_neg (show ¬ (0 : Int) > 0 by omega), w64 (n := (i : Int) + 1) (by omega) (by omega), show (i : Int) + 1 = ((i + 1 : Nat) : Int) by omega]
   by_cases h42 : c = 42
   ·rw [if_pos h42, if_pos ((c42 c).2 h42), ref_ends acc ha k (by omega), bs]
    by_cases he : endsW acc = true
    ·rw [if_pos he]
     exact ⟨i + 1, by omega, by omega, hS1, by rw [if_pos he]; rfl⟩
    ·rw [if_neg he]
     exact ⟨i + 1, by omega, by omega, hS1, by rw [if_neg he]; rfl⟩
   rw [if_neg h42, if_neg (fun q => h42 ((c42 c).1 q))]
   by_cases h36 : c = 36
   ·have htt : textB (ba t) = true := by
     rw [h36, textB_low 36 t (by decide), Bool.and_eq_true] at ht
     exact ht.2
    have hr := ref_runS s (by omega) (i + 1) k (by omega) (by omega) (by rw [hS1]; exact htt)
    have hcr := cut_run s (i + 1)
    have hle := runS_le t
    rw [hS1] at hr hcr
    rw [if_pos h36, if_pos ((c36 c).2 h36), hr, bs, if_pos (by omega), if_pos (by omega), if_pos (by omega), Int.toNat_natCast, Int.toNat_natCast, hcr, ref_name _ (by rw [qc1]; omega) k (by rw [qc1]; omega), bs]
    unfold varW
    by_cases hn : nameB (ba (runS t)) = true
    ·rw [if_pos hn, if_pos hn]
     exact ⟨i + 1 + (runS t).length, by omega, by omega, by rw [qs1, hS1], rfl⟩
    ·rw [if_neg hn, if_neg hn]
     rfl
   rw [if_neg h36, if_neg (fun q => h36 ((c36 c).1 q))]
   have hr := ref_runS s (by omega) i k (by omega) (by omega) (by rw [hS]; exact ht)
   have hnm := ref_named s i acc (by omega) (by omega) ha k (by omega)
   have hle := runS_le (c :: t)
   rw [List.length_cons] at hle
   rw [hS] at hr hnm
   rw [hr, bs, hnm, bs]
   unfold nameW namedS
   have hd : s.data.toList.drop (i + (runS (c :: t)).length) = (c :: t).drop (runS (c :: t)).length := by rw [qs1, hS]
   by_cases hn : nameB (ba (runS (c :: t))) = true
   ·have hp := nameB_ne hn
    rw [if_pos hn, if_pos hn]
    by_cases he : endsW acc = true
    ·rw [if_pos he, if_pos he]
     by_cases hf : fourL.contains (runS (c :: t)) = true
     ·rw [if_pos hf, if_pos hf]
      exact ⟨i + (runS (c :: t)).length, by omega, by omega, hd, rfl⟩
     ·rw [if_neg hf, if_neg hf]
      rfl
    ·rw [if_neg he, if_neg he, if_pos rfl]
     exact ⟨i + (runS (c :: t)).length, by omega, by omega, hd, rfl⟩
   ·rw [if_neg hn, if_neg hn, if_neg (by simp)]
    rfl
theorem ref_one (s : ByteArray) (i : Nat) (c : UInt8) (t : List UInt8) (acc : List Wd) (hs : s.size ≤ 500) (hi : i < s.size) (hS : s.data.toList.drop i = c :: t) (ha : acc.length ≤ 1000) (ht : textB (ba (c :: t)) = true) (k : Nat) (hk : 6600 < k) :
  OneR s (oneW (c :: t) (endsW acc)) (breviaryref12_one.f k s (i : Int) (acc.map toW)) := by
 have hlen := congrArg List.length hS
 rw [List.length_drop, ← Lib.size_eq, List.length_cons] at hlen
 have hS1 : s.data.toList.drop (i + 1) = t := by rw [qs1, hS]; rfl
 have hbt : bt s (i : Int) = (c.toNat : Int) := by
  obtain ⟨h', hb, hd⟩ := at_byte s i hi
  rw [hS] at hd
  rw [hb, (List.cons.inj hd).1]
 have c8 := c.toNat_lt
 unfold breviaryref12_one.f
 rw [if_pos (by omega), if_pos (by omega), hbt]
 have quo : ∀ x27 : Bool, x27 = true → (c = 34 ∨ c = 39) → OneR s (oneW (c :: t) (endsW acc)) (breviaryref12_one.j0 k s (i : Int) (acc.map toW) (c.toNat : Int) x27) := by
  intro x27 hx hq
  obtain ⟨k, rfl⟩ : ∃ j, k = j + 1 := ⟨k - 1, by omega⟩
  subst hx
  have hcut : s.extract i (i + 1) = ⟨#[c]⟩ := qg1 (by rw [qa1, hS, Nat.add_sub_cancel_left]; rfl)
  simp only [oneW]
  rw [if_pos hq, breviaryref12_one.j0, if_pos rfl, if_pos (by omega), w64 (by omega) (by omega), if_pos (by omega), if_pos (by omega), Int.toNat_natCast, show ((i : Int) + 1) = ((i + 1 : Nat) : Int) by omega, Int.toNat_natCast, hcut, ref_find s c (by omega) s.size (i + 1) k (by omega) (by omega) (by omega), bs, hS1]
  unfold litW
  cases hc : cutC c t with
  | none =>
   simp only
   rw [if_pos (by omega)]
   rfl
  | some q =>
   obtain ⟨a, r⟩ := q
   have hap := (cutC_app c t a r hc).1
   have hal := congrArg List.length hap
   rw [List.length_append, List.length_cons] at hal
   simp only
   have hcut2 : s.extract (i + 1) (i + 1 + a.length) = ba a := qg1 (by rw [qa1, qu, Nat.add_sub_cancel_left, hS1, hap, List.take_left])
   rw [if_neg (by omega), if_pos (by omega), if_pos (by omega), if_pos (by omega), Int.toNat_natCast, hcut2, w64 (by omega) (by omega)]
   refine ⟨i + 1 + a.length + 1, by omega, by omega, ?_, ?_⟩
   ·rw [qs1, qs1, hS1, hap, List.drop_left]; rfl
   ·rw [show ((i + 1 + a.length : Nat) : Int) + 1 = ((i + 1 + a.length + 1 : Nat) : Int) by omega]
 by_cases h34 : c = 34
 ·rw [if_pos ((c34 c).2 h34)]
  exact quo true rfl (.inl h34)
 rw [if_neg (fun q => h34 ((c34 c).1 q))]
 by_cases h39 : c = 39
 ·exact quo _ (by rw [beq_iff_eq]; exact (c39 c).2 h39) (.inr h39)
 rw [show ((c.toNat : Int) == 39) = false by rw [beq_eq_false_iff_ne]; exact fun q => h39 ((c39 c).1 q)]
 have hq : ¬ (c = 34 ∨ c = 39) := by rintro (h | h); exact h34 h; exact h39 h
 obtain ⟨k, rfl⟩ : ∃ j, k = j + 1 := ⟨k - 1, by omega⟩
 have hd := ref_digits s (by omega) s.size i k (by omega) (by omega) (by omega)
 rw [hS] at hd
 have htw := (List.takeWhile_sublist (l := c :: t) digB).length_le
 rw [List.length_cons] at htw
 rw [breviaryref12_one.j0, if_neg (by simp), hd, bs]
 have hnum : ∀ x10 : Nat, x10 = i + ((c :: t).takeWhile digB).length → numB (c :: t) = true → OneR s (oneW (c :: t) (endsW acc)) (breviaryref12_one.j1 k s (i : Int) (acc.map toW) (c.toNat : Int) (x10 : Int) true) := by
  intro x10 hx hn
  obtain ⟨k, rfl⟩ : ∃ j, k = j + 1 := ⟨k - 1, by omega⟩
  have hnl := num_len hn
  have hle := numT_le (c :: t)
  rw [List.length_cons] at hle
  simp only [oneW]
  rw [if_neg hq, if_pos hn, breviaryref12_one.j1, if_pos rfl]
  have hdw := drop_while digB (c :: t)
  by_cases hlt : x10 < s.size
  ·subst hx
   obtain ⟨h', hb, hdd⟩ := at_byte s _ hlt
   rw [qs1 s i, hS, ← hdw] at hdd
   rw [if_pos (by omega), if_pos (by omega), hb]
   by_cases h46 : s.data.toList[i + ((c :: t).takeWhile digB).length] = 46
   ·have hT : (numT (c :: t)).length = ((c :: t).takeWhile digB).length + 1 + ((s.data.toList.drop (i + ((c :: t).takeWhile digB).length + 1)).takeWhile digB).length := by
     unfold numT
     rw [hdd, h46, if_pos (by simp), List.tail_cons, List.length_append, List.length_cons]
     omega
    rw [show (((s.data.toList[i + ((c :: t).takeWhile digB).length]).toNat : Int) == 46) = true by rw [beq_iff_eq, h46]; rfl]
    obtain ⟨k, rfl⟩ : ∃ j, k = j + 1 := ⟨k - 1, by omega⟩
    have hd2 := ref_digits s (by omega) s.size (i + ((c :: t).takeWhile digB).length + 1) k (by omega) (by omega) (by omega)
    exact one_j2 s i (i + (numT (c :: t)).length) hs (by omega) (by omega) (c :: t) hS rfl (k + 1) (by omega) true _ (.inl ⟨rfl, by
     rw [Nat.add_sub_cancel, w64 (by omega) (by omega), show ((i + ((c :: t).takeWhile digB).length : Nat) : Int) + 1 = ((i + ((c :: t).takeWhile digB).length + 1 : Nat) : Int) by omega, hd2, hT]
     congr 2
     omega⟩)
   ·have hT : (numT (c :: t)).length = ((c :: t).takeWhile digB).length := by
     unfold numT
     rw [hdd, if_neg (by rw [List.head?_cons]; intro q; exact h46 (Option.some.inj q))]
    rw [show (((s.data.toList[i + ((c :: t).takeWhile digB).length]).toNat : Int) == 46) = false by rw [beq_eq_false_iff_ne]; exact fun q => h46 ((u8i _ 46 (by omega)).1 q)]
    exact one_j2 s i (i + (numT (c :: t)).length) hs (by omega) (by omega) (c :: t) hS rfl k (by omega) false _ (.inr ⟨rfl, by rw [hT]⟩)
  ·have hnil : (c :: t).dropWhile digB = [] := by rw [hdw]; exact List.drop_eq_nil_of_le (by simp only [List.length_cons]; omega)
   have hT : (numT (c :: t)).length = ((c :: t).takeWhile digB).length := by
    unfold numT
    rw [hnil, if_neg (by simp)]
   rw [if_neg (by omega)]
   exact one_j2 s i (i + (numT (c :: t)).length) hs (by omega) (by omega) (c :: t) hS rfl k (by omega) false _ (.inr ⟨rfl, by rw [hT]; exact hx⟩)
 have hrest : ∀ x10 : Int, ¬ numB (c :: t) = true → OneR s (oneW (c :: t) (endsW acc)) (breviaryref12_one.j1 k s (i : Int) (acc.map toW) (c.toNat : Int) x10 false) := by
  intro x10 hn
  have := one_rest s i c t acc hs hi hS ha ht k (by omega) x10
  unfold restO at this
  simp only [oneW]
  rw [if_neg hq, if_neg hn]
  exact this
 by_cases hdc : digB c = true
 ·have hn : numB (c :: t) = true := by unfold numB; simp [hdc]
  rw [if_pos (by rw [List.takeWhile_cons, if_pos hdc, List.length_cons]; omega)]
  exact hnum _ rfl hn
 ·have h0 : (c :: t).takeWhile digB = [] := by rw [List.takeWhile_cons, if_neg hdc]
  rw [h0]
  rw [if_neg (by simp)]
  by_cases h46 : c = 46
  ·have hd2 := ref_digits s (by omega) s.size (i + 1) k (by omega) (by omega) (by omega)
   rw [hS1] at hd2
   rw [if_pos ((c46 c).2 h46), w64 (by omega) (by omega), show ((i : Int) + 1) = ((i + 1 : Nat) : Int) by omega, hd2, bs]
   by_cases htk : t.takeWhile digB = []
   ·have hn : ¬ numB (c :: t) = true := by
     unfold numB
     simp only [hdc, Bool.false_or, Bool.and_eq_true]
     rintro ⟨_, hx⟩
     cases t with
     | nil => cases hx
     | cons d t => rw [List.takeWhile_cons, if_pos hx] at htk; cases htk
    rw [htk, show decide (((i + 1 + ([] : List UInt8).length : Nat) : Int) > ((i + 1 : Nat) : Int)) = false by simp]
    exact hrest _ hn
   ·have hpos : 0 < (t.takeWhile digB).length := List.length_pos_iff.2 htk
    have hn : numB (c :: t) = true := by
     unfold numB
     rw [h46]
     cases t with
     | nil => exact absurd rfl htk
     | cons d t =>
      cases hx : digB d with
      | true => simp [hx]
      | false => rw [List.takeWhile_cons, if_neg (by simp [hx])] at htk; exact absurd rfl htk
    rw [show decide (((i + 1 + (t.takeWhile digB).length : Nat) : Int) > ((i + 1 : Nat) : Int)) = true by rw [decide_eq_true_eq]; omega]
    exact hnum _ (by rw [h0]) hn
  ·have hn : ¬ numB (c :: t) = true := by
    unfold numB
    simp [hdc, h46]
   rw [if_neg (fun q => h46 ((c46 c).1 q))]
   exact hrest _ hn
theorem ref_l0 (s : ByteArray) (hs : s.size ≤ 400) : ∀ (n i k : Nat) (acc : List Wd), s.size ≤ i + n → i ≤ s.size → n + 6700 < k → acc.length ≤ 120 → textB (ba (s.data.toList.drop i)) = true →
  breviaryref12_Lex.l0 k s (acc.map toW) (i : Int) = some ((lexL n (s.data.toList.drop i) acc).1.map toW, (lexL n (s.data.toList.drop i) acc).2) := by
 intro n
 induction n with
 | zero =>
  intro i k acc h hi hk ha ht
  obtain ⟨k, rfl⟩ : ∃ j, k = j + 1 := ⟨k - 1, by omega⟩
  rw [breviaryref12_Lex.l0, if_neg (by omega)]
  rfl
 | succ n ih =>
  intro i k acc h hi hk ha ht
  obtain ⟨k, rfl⟩ : ∃ j, k = j + 1 := ⟨k - 1, by omega⟩
  by_cases hlt : i < s.size
  ·obtain ⟨h', hb, hd⟩ := at_byte s i hlt
   generalize s.data.toList[i] = c at *
   generalize hT : s.data.toList.drop (i + 1) = t at *
   have hone := ref_one s i c t acc (by omega) hlt hd (by omega) (by rw [← hd]; exact ht) k (by omega)
   rw [breviaryref12_Lex.l0, if_pos (by omega), hd]
   simp only [lexL]
   rw [if_neg (by simp)]
   cases ho : oneW (c :: t) (endsW acc) with
   | none =>
    rw [ho] at hone
    have hone : breviaryref12_one.f k s (i : Int) (acc.map toW) = some (0, ⟨#[]⟩, 0, 0, 0) := hone
    rw [hone, bs, if_pos rfl]
    rfl
   | some q =>
    obtain ⟨w, r⟩ := q
    rw [ho] at hone
    obtain ⟨pos, p1, p2, p3, p4⟩ := hone
    have hless := one_less ho
    have k1 : ∀ x, kindW x (32 :: r.dropWhile spB) = kindW x r := by
     intro x
     unfold kindW
     rw [List.dropWhile_cons, if_pos (show spB 32 = true by decide), LexC.drop_twice]
    have htr : textB (ba r) = true := (LexD.one_again ho (by rw [← hd]; exact ht) _ k1).2.2
    have htr2 : textB (ba (r.dropWhile spB)) = true := LexD.rest_text (r.takeWhile spB) _ (by rw [List.takeWhile_append_dropWhile]; exact htr) (LexC.sp_text _ (LexD.tw_mem spB r))
    have hrl := congrArg List.length p3
    rw [List.length_drop, ← Lib.size_eq] at hrl
    have hsp := ref_spaces s (by omega) s.size pos k (by omega) (by omega) (by omega)
    rw [p3] at hsp
    have htw := (List.takeWhile_sublist (l := r) spB).length_le
    have hd2 : s.data.toList.drop (pos + (r.takeWhile spB).length) = r.dropWhile spB := by rw [qs1, p3, ← drop_while]
    have hm : acc.map toW ++ [⟨w.1, ba w.2.1, ⟨w.2.2.1, w.2.2.2⟩⟩] = (acc ++ [w]).map toW := by rw [List.map_append]; rfl
    have hl2 := congrArg List.length hd
    rw [List.length_drop, ← Lib.size_eq, List.length_cons] at hl2
    rw [List.length_cons] at hless
    rw [p4, bs]
    simp only
    rw [if_neg (by omega), List.length_map, if_pos (by omega), hm, bs, List.length_map, List.length_append, List.length_singleton]
    by_cases h120 : 120 < acc.length + 1
    ·rw [if_pos (by omega), if_pos h120]
     rfl
    ·rw [if_neg (by omega), if_neg h120, hsp, bs]
     have := ih (pos + (r.takeWhile spB).length) k (acc ++ [w]) (by omega) (by omega) (by omega) (by rw [List.length_append, List.length_singleton]; omega) (by rw [hd2]; exact htr2)
     rw [hd2] at this
     exact this
  ·have hnil : s.data.toList.drop i = [] := List.drop_eq_nil_of_le (by rw [← Lib.size_eq]; omega)
   rw [breviaryref12_Lex.l0, if_neg (by omega), hnil]
   simp [lexL]
theorem ref_lex (s : ByteArray) (hs : s.size ≤ 9223372036854775807) : breviaryref12_Lex.f 8001 s = some ((lexS s.data.toList).1.map toW, (lexS s.data.toList).2) := by
 unfold breviaryref12_Lex.f lexS
 rw [← Lib.size_eq, ba_data]
 by_cases h : 400 < s.size
 ·rw [if_pos (by omega), if_pos h]; rfl
 ·rw [if_neg (by omega), if_neg h, ref_text s (by omega) 8001 (by omega), bs]
  by_cases ht : textB s = true
  ·rw [if_pos ht, if_pos ht]
   have hsp := ref_spaces s (by omega) s.size 0 8001 (by omega) (by omega) (by omega)
   rw [List.drop_zero, Nat.zero_add] at hsp
   have htw := (List.takeWhile_sublist (l := s.data.toList) spB).length_le
   rw [← Lib.size_eq] at htw
   have hd2 : s.data.toList.drop (s.data.toList.takeWhile spB).length = s.data.toList.dropWhile spB := (drop_while _ _).symm
   have htr2 : textB (ba (s.data.toList.dropWhile spB)) = true := LexD.rest_text (s.data.toList.takeWhile spB) _ (by rw [List.takeWhile_append_dropWhile]; exact ht) (LexC.sp_text _ (LexD.tw_mem spB s.data.toList))
   have hsp0 : breviaryref06_Spaces.f 8001 s 0 = some (((s.data.toList.takeWhile spB).length : Nat) : Int) := hsp
   rw [hsp0, bs]
   have := ref_l0 s (by omega) s.size (s.data.toList.takeWhile spB).length 8001 [] (by omega) (by omega) (by omega) (by simp) (by rw [hd2]; exact htr2)
   rw [hd2] at this
   exact this
  ·rw [if_neg ht, if_neg ht]; rfl
end Go.Proofs.YthilcidoacgdfaaGreatDoor.LexS
