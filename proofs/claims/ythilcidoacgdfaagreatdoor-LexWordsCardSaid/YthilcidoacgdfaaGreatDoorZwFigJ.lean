import Derived.Test.YthilcidoacgdfaaGreatDoorZwFigH
import Derived.Test.YthilcidoacgdfaaGreatDoorZwFigC
namespace Go.Proofs.YthilcidoacgdfaaGreatDoor.CharB
end Go.Proofs.YthilcidoacgdfaaGreatDoor.CharB
namespace Go.Proofs.YthilcidoacgdfaaGreatDoor.CharD
end Go.Proofs.YthilcidoacgdfaaGreatDoor.CharD
namespace Go.Proofs.YthilcidoacgdfaaGreatDoor.CharF
end Go.Proofs.YthilcidoacgdfaaGreatDoor.CharF
namespace Go.Proofs.YthilcidoacgdfaaGreatDoor.DecA
end Go.Proofs.YthilcidoacgdfaaGreatDoor.DecA
namespace Go.Proofs.YthilcidoacgdfaaGreatDoor.DecE
end Go.Proofs.YthilcidoacgdfaaGreatDoor.DecE
namespace Go.Proofs.YthilcidoacgdfaaGreatDoor.DecF
end Go.Proofs.YthilcidoacgdfaaGreatDoor.DecF
namespace Go.Proofs.YthilcidoacgdfaaGreatDoor.DecG
end Go.Proofs.YthilcidoacgdfaaGreatDoor.DecG
namespace Go.Proofs.YthilcidoacgdfaaGreatDoor.FigA
end Go.Proofs.YthilcidoacgdfaaGreatDoor.FigA
namespace Go.Proofs.YthilcidoacgdfaaGreatDoor.FigB
end Go.Proofs.YthilcidoacgdfaaGreatDoor.FigB
namespace Go.Proofs.YthilcidoacgdfaaGreatDoor.FigC
end Go.Proofs.YthilcidoacgdfaaGreatDoor.FigC
namespace Go.Proofs.YthilcidoacgdfaaGreatDoor.FigD
end Go.Proofs.YthilcidoacgdfaaGreatDoor.FigD
namespace Go.Proofs.YthilcidoacgdfaaGreatDoor.FigE
end Go.Proofs.YthilcidoacgdfaaGreatDoor.FigE
namespace Go.Proofs.YthilcidoacgdfaaGreatDoor.FigF
end Go.Proofs.YthilcidoacgdfaaGreatDoor.FigF
namespace Go.Proofs.YthilcidoacgdfaaGreatDoor.FigG
end Go.Proofs.YthilcidoacgdfaaGreatDoor.FigG
namespace Go.Proofs.YthilcidoacgdfaaGreatDoor.FigH
end Go.Proofs.YthilcidoacgdfaaGreatDoor.FigH
namespace Go.Proofs.YthilcidoacgdfaaGreatDoor.SpanA
end Go.Proofs.YthilcidoacgdfaaGreatDoor.SpanA
namespace Go.Proofs.YthilcidoacgdfaaGreatDoorW.PrintLast
end Go.Proofs.YthilcidoacgdfaaGreatDoorW.PrintLast
namespace Go.Proofs.YthilcidoacgdfaaGreatDoorW.PrintMore
end Go.Proofs.YthilcidoacgdfaaGreatDoorW.PrintMore
namespace Go.Proofs.YthilcidoacgdfaaGreatDoorW.PrintWords
end Go.Proofs.YthilcidoacgdfaaGreatDoorW.PrintWords
namespace Go.Proofs.YthilcidoacgdfaaGreatDoor.FigI
open Go.RowKit Go.Shelf YthilcidoacgdfaaGreatDoorW.PrintWords YthilcidoacgdfaaGreatDoorW.PrintLast YthilcidoacgdfaaGreatDoorW.PrintMore CharB CharD CharF SpanA DecA DecE DecF DecG FigA FigB FigC FigD FigE FigF FigG FigH
set_option linter.unusedVariables false
set_option linter.unusedSimpArgs false
abbrev Tabs (w : World) : Prop := Lib.Utf8Tabs 0 1 w
theorem tabs_below {w w' : World} (hT : Tabs w) (h : Below w.heap.size w w') : Tabs w' := Utf8Tabs_below hT h
theorem space_gives (w : World) : PredAtRunes Tryz.prog 25 #[] sp w := fun W x _ _ => by
 refine (space_calls (x : Int) W).mono ?_
 rintro e w' ⟨rfl, m, rfl⟩
 exact ⟨rfl, m, rfl⟩
end Go.Proofs.YthilcidoacgdfaaGreatDoor.FigI
namespace Go.Proofs.YthilcidoacgdfaaGreatDoor.CharB
end Go.Proofs.YthilcidoacgdfaaGreatDoor.CharB
namespace Go.Proofs.YthilcidoacgdfaaGreatDoor.CharC
end Go.Proofs.YthilcidoacgdfaaGreatDoor.CharC
namespace Go.Proofs.YthilcidoacgdfaaGreatDoor.CharD
end Go.Proofs.YthilcidoacgdfaaGreatDoor.CharD
namespace Go.Proofs.YthilcidoacgdfaaGreatDoor.CharF
end Go.Proofs.YthilcidoacgdfaaGreatDoor.CharF
namespace Go.Proofs.YthilcidoacgdfaaGreatDoor.DecA
end Go.Proofs.YthilcidoacgdfaaGreatDoor.DecA
namespace Go.Proofs.YthilcidoacgdfaaGreatDoor.DecB
end Go.Proofs.YthilcidoacgdfaaGreatDoor.DecB
namespace Go.Proofs.YthilcidoacgdfaaGreatDoor.DecE
end Go.Proofs.YthilcidoacgdfaaGreatDoor.DecE
namespace Go.Proofs.YthilcidoacgdfaaGreatDoor.DecF
end Go.Proofs.YthilcidoacgdfaaGreatDoor.DecF
namespace Go.Proofs.YthilcidoacgdfaaGreatDoor.FigA
end Go.Proofs.YthilcidoacgdfaaGreatDoor.FigA
namespace Go.Proofs.YthilcidoacgdfaaGreatDoor.FigB
end Go.Proofs.YthilcidoacgdfaaGreatDoor.FigB
namespace Go.Proofs.YthilcidoacgdfaaGreatDoor.PF
end Go.Proofs.YthilcidoacgdfaaGreatDoor.PF
namespace Go.Proofs.YthilcidoacgdfaaGreatDoor.SpanA
end Go.Proofs.YthilcidoacgdfaaGreatDoor.SpanA
namespace Go.Proofs.YthilcidoacgdfaaGreatDoorW.PrintLast
end Go.Proofs.YthilcidoacgdfaaGreatDoorW.PrintLast
namespace Go.Proofs.YthilcidoacgdfaaGreatDoorW.PrintMore
end Go.Proofs.YthilcidoacgdfaaGreatDoorW.PrintMore
namespace Go.Proofs.YthilcidoacgdfaaGreatDoorW.PrintWords
end Go.Proofs.YthilcidoacgdfaaGreatDoorW.PrintWords
namespace Go.Proofs.YthilcidoacgdfaaGreatDoor.FigJ
open Go.RowKit YthilcidoacgdfaaGreatDoorW.PrintWords YthilcidoacgdfaaGreatDoorW.PrintLast YthilcidoacgdfaaGreatDoorW.PrintMore CharB CharC CharD CharF SpanA DecA DecB DecE DecF FigA FigB PF
set_option linter.unusedVariables false
set_option linter.unusedSimpArgs false
theorem w6 {n : Int} (h0 : -9223372036854775808 ≤ n) (h1 : n ≤ 9223372036854775807) : wrap64 n = n := by unfold wrap64; omega
theorem bs {α β : Type} (a : α) (f : α → Option β) : (some a).bind f = f a := rfl
def dI (c : UInt8) : Int := (c.toNat : Int) - 48
def scL : List UInt8 → List Int → Int → Int → Int → Option (List Int × Int × Int × Int)
 | [], x, p, m, b => some (x, p, m, b)
 | c :: t, x, p, m, b => if c = 46 then scL t x (p + 1) m b else if digB c = true then (if p > 0 then scL t (if b + 1 ≤ 6 then x ++ [dI c] else x) p (m + 1) (b + 1) else scL t (if b ≤ 6 then x ++ [dI c] else x) p (m + 1) b) else none
def finL (o : Option (List Int × Int × Int × Int)) : Int × Int × Bool := match o with
 | none => (0, 0, false)
 | some (x, p, m, b) => if p > 1 ∨ m = 0 then (0, 0, false) else ((mk false (val (x ++ List.replicate (6 - b).toNat 0).reverse)).1, (mk false (val (x ++ List.replicate (6 - b).toNat 0).reverse)).2, true)
theorem digI (c : UInt8) (h : digB c = true) : 0 ≤ dI c ∧ dI c ≤ 9 := by rw [qi1] at h; unfold dI; omega
theorem lit_l2 (l : List Int) (hd : Dig l) (hl : l.length ≤ 700) : ∀ (n k : Nat) (out : List Int), n ≤ l.length → out.length + n = l.length → n + 2100 < k → out = (l.drop n).reverse → breviaryref04_Lit.l2 k l out ((n : Int) - 1) = some ((mk false (val l.reverse)).1, (mk false (val l.reverse)).2, true) := by
 intro n
 induction n with
 | zero =>
  intro k out hn ho hk he
  obtain ⟨k, rfl⟩ : ∃ j, k = j + 1 := ⟨k - 1, by omega⟩
  rw [List.drop_zero] at he
  have hdr : Dig l.reverse := fun d h => hd d (List.mem_reverse.1 h)
  rw [breviaryref04_Lit.l2, if_neg (by omega), he, made_f (by rw [List.length_reverse]; omega) (by omega) hdr, bs]
  unfold mk
  split <;> rfl
 | succ n ih =>
  intro k out hn ho hk he
  obtain ⟨k, rfl⟩ : ∃ j, k = j + 1 := ⟨k - 1, by omega⟩
  rw [breviaryref04_Lit.l2, show (((n + 1 : Nat) : Int) - 1) = (n : Int) by omega, if_pos (by omega), if_pos (by omega), if_pos (by omega), if_pos (by omega), rd_eq, w6 (by omega) (by omega)]
  refine ih k _ (by omega) (by rw [List.length_append]; simp; omega) (by omega) ?_
  have : l.drop n = l.getD n 0 :: l.drop (n + 1) := by
   rw [List.drop_eq_getElem_cons (by omega)]; simp [List.getD, List.getElem?_eq_getElem (show n < l.length by omega)]
  rw [he, this, List.reverse_cons]
theorem lit_l1 : ∀ (n k : Nat) (l : List Int) (b : Int), Dig l → l.length + n ≤ 690 → 0 ≤ b → (n = (6 - b).toNat) → b ≤ 100000 → 2 * n + l.length + 3000 < k → breviaryref04_Lit.l1 k l b = some ((mk false (val (l ++ List.replicate n 0).reverse)).1, (mk false (val (l ++ List.replicate n 0).reverse)).2, true) := by
 intro n
 induction n with
 | zero =>
  intro k l b hd hl hb hn hb2 hk
  obtain ⟨k, rfl⟩ : ∃ j, k = j + 1 := ⟨k - 1, by omega⟩
  rw [breviaryref04_Lit.l1, if_neg (by omega), w6 (by omega) (by omega), List.replicate_zero, List.append_nil]
  exact lit_l2 l hd (by omega) l.length k [] (Nat.le_refl _) (by simp) (by omega) (by simp)
 | succ n ih =>
  intro k l b hd hl hb hn hb2 hk
  obtain ⟨k, rfl⟩ : ∃ j, k = j + 1 := ⟨k - 1, by omega⟩
  rw [breviaryref04_Lit.l1, if_pos (by omega), if_pos (by omega), w6 (by omega) (by omega), ih k (l ++ [0]) (b + 1) (dig_append hd (dig_one (by omega) (by omega))) (by simp; omega) (by omega) (by omega) (by omega) (by simp; omega), List.replicate_succ, List.append_assoc]
  rfl
theorem lit_end (k : Nat) (l : List Int) (p m b : Int) (hd : Dig l) (hl : l.length ≤ 680) (hb : 0 ≤ b) (hb2 : b ≤ 100000) (hk : 4000 < k) :
  (if p > 1 then breviaryref04_Lit.j2 k l b true else breviaryref04_Lit.j2 k l b (m == 0)) = some (finL (some (l, p, m, b))) := by
 obtain ⟨k, rfl⟩ : ∃ j, k = j + 1 := ⟨k - 1, by omega⟩
 unfold finL
 simp only
 by_cases hp : p > 1
 ·rw [if_pos hp, if_pos (.inl hp), breviaryref04_Lit.j2, if_pos rfl]
 ·rw [if_neg hp, breviaryref04_Lit.j2]
  by_cases hm : m = 0
  ·rw [if_pos (by simpa using hm), if_pos (.inr hm)]
  ·rw [if_neg (by simpa using hm), if_neg (fun q => q.elim hp hm)]
   exact lit_l1 (6 - b).toNat k l b hd (by omega) hb rfl hb2 (by omega)
theorem lit_l0 (s : ByteArray) (hs : s.size ≤ 600) : ∀ (n i k : Nat) (x : List Int) (p m b : Int), s.size = i + n → 2 * n + 4005 < k → Dig x → x.length ≤ i → 0 ≤ p → p ≤ i → 0 ≤ m → m ≤ i → 0 ≤ b → b ≤ i →
  breviaryref04_Lit.l0 k s x p m b (i : Int) = some (finL (scL (s.data.toList.drop i) x p m b)) := by
 intro n
 induction n with
 | zero =>
  intro i k x p m b h hk hd hx hp0 hp hm0 hm hb0 hb
  obtain ⟨k, rfl⟩ : ∃ j, k = j + 1 := ⟨k - 1, by omega⟩
  rw [breviaryref04_Lit.l0, if_neg (by omega), List.drop_eq_nil_of_le (by rw [← Lib.size_eq]; omega), lit_end k x p m b hd (by omega) hb0 (by omega) (by omega)]
  rfl
 | succ n ih =>
  intro i k x p m b h hk hd hx hp0 hp hm0 hm hb0 hb
  obtain ⟨k, rfl⟩ : ∃ j, k = j + 2 := ⟨k - 2, by omega⟩
  have hlt : i < s.size := by omega
  have hlt' : i < s.data.toList.length := by rw [← Lib.size_eq]; exact hlt
  have hbt : bt s (i : Int) = ((s.data.toList[i]).toNat : Int) := by rw [bt_get s i hlt]; rfl
  have q1 : (i : Int) < (s.size : Int) := Int.ofNat_lt.2 hlt
  have q2 : (0 : Int) ≤ (i : Int) := Int.natCast_nonneg i
  have hi6 : (i : Int) ≤ 600 := by clear hk hbt ih hd hx; omega
  have hk2 : 2 * n + 4005 < k := by omega
  have hk3 : 2 * n + 4005 < k + 1 := by omega
  have hsz : s.size = i + 1 + n := by omega
  have hx2 : x.length < 17592186044416 := by omega
  have hx3 : x.length ≤ i + 1 := by omega
  have pr : ∀ z : Int, 0 ≤ z → z ≤ i → -9223372036854775808 ≤ z + 1 ∧ z + 1 ≤ 9223372036854775807 ∧ 0 ≤ z + 1 ∧ z + 1 ≤ ((i + 1 : Nat) : Int) ∧ z ≤ ((i + 1 : Nat) : Int) := by clear hk hbt ih hd hx hk2 hk3 hx2 hx3; intro z h1 h2; omega
  obtain ⟨p1, p2, p3, p4, p5⟩ := pr p hp0 hp
  obtain ⟨m1, m2, m3, m4, m5⟩ := pr m hm0 hm
  obtain ⟨b1, b2, b3, b4, b5⟩ := pr b hb0 hb
  have ie : (i : Int) + 1 = ((i + 1 : Nat) : Int) := by omega
  have i1 : -9223372036854775808 ≤ (i : Int) + 1 := by clear hk hbt ih hd hx hk2 hk3 hx2 hx3 pr; omega
  have i2 : (i : Int) + 1 ≤ 9223372036854775807 := by clear hk hbt ih hd hx hk2 hk3 hx2 hx3 pr; omega
  rw [breviaryref04_Lit.l0, if_pos q1, if_pos q2, hbt, w6 i1 i2, ie, w6 p1 p2, List.drop_eq_getElem_cons hlt']
  generalize s.data.toList[i] = c at *
  have hc256 := c.toNat_lt
  have c1 : -9223372036854775808 ≤ (c.toNat : Int) := by omega
  have c2 : (c.toNat : Int) ≤ 9223372036854775807 := by omega
  have c3 : -9223372036854775808 ≤ (c.toNat : Int) - 48 := by omega
  have c4 : (c.toNat : Int) - 48 ≤ 9223372036854775807 := by omega
  simp only [scL]
  by_cases h46 : c = 46
  ·rw [if_pos (by rw [h46]; rfl), if_pos h46]
   exact ih (i + 1) (k + 1) x (p + 1) m b hsz hk3 hd hx3 p3 p4 hm0 m5 hb0 b5
  have n46 : ¬ (c.toNat : Int) = 46 := fun e => h46 (UInt8.toNat_inj.1 (by show c.toNat = 46; omega))
  rw [if_neg n46, if_neg h46]
  by_cases hdg : digB c = true
  ·have hdi := digI c hdg
   have hr := (qi1 c).1 hdg
   have d1 : ¬ (c.toNat : Int) < 48 := by omega
   have d2 : decide ((c.toNat : Int) > 57) = false := by rw [decide_eq_false_iff_not]; omega
   rw [if_neg d1, d2, breviaryref04_Lit.j1, if_neg (by simp), if_pos hdg, w6 m1 m2, w6 b1 b2, hbt, w6 c1 c2, w6 c3 c4, w6 i1 i2, ie]
   have hdx : Dig (x ++ [dI c]) := dig_append hd (dig_one hdi.1 hdi.2)
   have hxl : (x ++ [dI c]).length ≤ i + 1 := by rw [List.length_append]; exact Nat.add_le_add_right hx 1
   by_cases hpp : p > 0
   ·rw [if_pos hpp, if_pos hpp]
    by_cases hb6 : b + 1 ≤ 6
    ·rw [if_pos hb6, if_pos hb6, if_pos q2, if_pos q1, if_pos hx2]
     exact ih (i + 1) k _ p (m + 1) (b + 1) hsz hk2 hdx hxl hp0 p5 m3 m4 b3 b4
    ·rw [if_neg hb6, if_neg hb6]
     exact ih (i + 1) k _ p (m + 1) (b + 1) hsz hk2 hd hx3 hp0 p5 m3 m4 b3 b4
   ·rw [if_neg hpp, if_neg hpp]
    by_cases hb6 : b ≤ 6
    ·rw [if_pos hb6, if_pos hb6, if_pos q2, if_pos q1, if_pos hx2]
     exact ih (i + 1) k _ p (m + 1) b hsz hk2 hdx hxl hp0 p5 m3 m4 hb0 b5
    ·rw [if_neg hb6, if_neg hb6]
     exact ih (i + 1) k _ p (m + 1) b hsz hk2 hd hx3 hp0 p5 m3 m4 hb0 b5
  ·have hnr : c.toNat < 48 ∨ 57 < c.toNat := by
    by_cases q : 48 ≤ c.toNat ∧ c.toNat ≤ 57
    ·exact absurd ((qi1 c).2 q) hdg
    ·omega
   have hj : breviaryref04_Lit.j1 (k + 1) s x p m b (i : Int) true = some (0, 0, false) := by rw [breviaryref04_Lit.j1, if_pos rfl]
   rw [if_neg hdg]
   rcases hnr with q | q
   ·have d1 : (c.toNat : Int) < 48 := by omega
    rw [if_pos d1, hj]; rfl
   ·have d1 : ¬ (c.toNat : Int) < 48 := by omega
    have d2 : decide ((c.toNat : Int) > 57) = true := by rw [decide_eq_true_eq]; omega
    rw [if_neg d1, d2, hj]; rfl
theorem sc_points : ∀ (s : List UInt8) (x : List Int) (p m b : Int) (x' : List Int) (p' m' b' : Int), scL s x p m b = some (x', p', m', b') → p ≤ p'
 | [], x, p, m, b, x', p', m', b', h => by simp only [scL] at h; cases h; exact Int.le_refl _
 | c :: t, x, p, m, b, x', p', m', b', h => by
  simp only [scL] at h
  split at h
  ·have := sc_points t _ _ _ _ _ _ _ _ h; omega
  ·split at h
   ·split at h
    ·exact sc_points t _ _ _ _ _ _ _ _ h
    ·exact sc_points t _ _ _ _ _ _ _ _ h
   ·cases h
theorem sc_whole : ∀ (a r : List UInt8) (x : List Int) (m : Int), a.all digB = true → scL (a ++ r) x 0 m 0 = scL r (x ++ a.map dI) 0 (m + a.length) 0
 | [], r, x, m, _ => by simp
 | c :: a, r, x, m, h => by
  rw [List.all_cons, Bool.and_eq_true] at h
  have n46 : c ≠ 46 := fun e => by rw [e] at h; exact absurd h.1 (by decide)
  rw [List.cons_append]
  simp only [scL]
  rw [if_neg n46, if_pos h.1, if_neg (by omega), if_pos (by omega), sc_whole a r _ _ h.2]
  simp only [List.map_cons, List.append_assoc, List.singleton_append, List.length_cons]
  congr 1
  omega
theorem sc_behind : ∀ (a r : List UInt8) (x : List Int) (m : Int) (b : Nat), a.all digB = true → scL (a ++ r) x 1 m b = scL r (x ++ (a.take (6 - b)).map dI) 1 (m + a.length) (b + a.length : Nat)
 | [], r, x, m, b, _ => by simp
 | c :: a, r, x, m, b, h => by
  rw [List.all_cons, Bool.and_eq_true] at h
  have n46 : c ≠ 46 := fun e => by rw [e] at h; exact absurd h.1 (by decide)
  rw [List.cons_append]
  simp only [scL]
  rw [if_neg n46, if_pos h.1, if_pos (by omega), show ((b : Int) + 1) = ((b + 1 : Nat) : Int) by omega, sc_behind a r _ _ (b + 1) h.2]
  have em : m + 1 + (a.length : Int) = m + ((c :: a).length : Int) := by simp; omega
  have eb : b + 1 + a.length = b + (c :: a).length := by simp; omega
  rw [em, eb]
  congr 1
  by_cases hb : b + 1 ≤ 6
  ·rw [if_pos (by omega), show 6 - b = (6 - (b + 1)) + 1 by omega, List.take_succ_cons, List.map_cons, List.append_assoc]
   rfl
  ·rw [if_neg (by omega), show 6 - b = 0 by omega, show 6 - (b + 1) = 0 by omega]
   simp
theorem chD_dI (c : UInt8) (h : digB c = true) : chD (dI c) = c := by
 apply UInt8.toNat_inj.1
 rw [chD_nat _ (digI c h)]
 rw [qi1] at h
 unfold dI
 omega
theorem val_digits (L : List UInt8) (h : L.all digB = true) : val (L.map dI).reverse = valU L := by
 have hd : Dig (L.map dI).reverse := by
  intro d hd
  rw [List.mem_reverse, List.mem_map] at hd
  obtain ⟨c, hc, rfl⟩ := hd
  exact digI c (List.all_eq_true.1 h c hc)
 rw [← valU_asc _ hd]
 congr 1
 unfold ascL
 rw [List.map_reverse, List.reverse_reverse, List.map_map]
 conv => rhs; rw [← List.map_id L]
 exact List.map_congr_left (fun c hc => chD_dI c (List.all_eq_true.1 h c hc))
theorem six_digits (b : List UInt8) : (b.take 6).map dI ++ List.replicate (6 - b.length) 0 = (sixL b).map dI := by
 unfold sixL
 rw [List.take_append, List.map_append]
 congr 1
 rw [List.take_replicate, List.map_replicate, show min (6 - b.length) 6 = 6 - b.length by omega]
 rfl
theorem fin_lit (a b : List UInt8) (ha : a.all digB = true) (hb : b.all digB = true) (p m : Int) (hp : ¬ (p > 1 ∨ m = 0)) : finL (some (a.map dI ++ (b.take 6).map dI, p, m, (b.length : Int))) = ((mk false (valU (a ++ sixL b))).1, (mk false (valU (a ++ sixL b))).2, true) := by
 unfold finL
 simp only
 rw [if_neg hp, show (6 - (b.length : Int)).toNat = 6 - b.length by omega, List.append_assoc, six_digits, ← List.map_append, val_digits _ (by rw [List.all_append, ha, six_all b hb]; rfl)]
theorem sc_lit (s : List UInt8) : finL (scL s [] 0 0 0) = ((litS s).1.1, (litS s).1.2, (litS s).2) := by
 have hsplit : s.takeWhile digB ++ s.dropWhile digB = s := List.takeWhile_append_dropWhile
 have ha : (s.takeWhile digB).all digB = true := List.all_takeWhile
 have hr := List.head?_dropWhile_not digB s
 unfold litS litP
 simp only
 conv => lhs; rw [← hsplit]
 generalize s.takeWhile digB = a at *
 generalize s.dropWhile digB = r at *
 rw [sc_whole a r [] 0 ha, List.nil_append, Int.zero_add]
 cases r with
 | nil =>
  rw [if_pos rfl]
  simp only [scL]
  by_cases h0 : a = []
  ·rw [if_pos h0, h0]; rfl
  ·rw [if_neg h0]
   have hl : a.length ≠ 0 := fun e => h0 (List.length_eq_zero_iff.1 e)
   have := fin_lit a [] ha rfl 0 (a.length : Int) (by omega)
   simp only [List.take_nil, List.map_nil, List.append_nil, List.length_nil] at this
   exact this
 | cons c r =>
  rw [if_neg (by simp)]
  simp only [List.head?_cons, List.tail_cons]
  have hc : digB c = false := by simpa using hr
  by_cases h46 : c = 46
  ·subst h46
   simp only [scL, if_true, Int.zero_add]
   have hsp2 : r.takeWhile digB ++ r.dropWhile digB = r := List.takeWhile_append_dropWhile
   have hb : (r.takeWhile digB).all digB = true := List.all_takeWhile
   have hr2 := List.head?_dropWhile_not digB r
   have hall : (r.dropWhile digB = [] → r.all digB = true ∧ r.takeWhile digB = r) ∧ (r.dropWhile digB ≠ [] → r.all digB = false) := by
    constructor
    ·intro e
     rw [e, List.append_nil] at hsp2
     rw [← hsp2]
     exact ⟨by rw [hsp2]; rw [← hsp2]; exact hb, by rw [hsp2]; exact hsp2⟩
    ·intro e
     cases hq : r.dropWhile digB with
     | nil => exact absurd hq e
     | cons d t =>
      rw [hq] at hr2 hsp2
      have hd : digB d = false := by simpa using hr2
      rw [← hsp2, List.all_append, List.all_cons, hd]
      simp
   have hsc := sc_behind (r.takeWhile digB) (r.dropWhile digB) (a.map dI) (a.length : Int) 0 hb
   rw [hsp2] at hsc
   rw [show ((0 : Nat) : Int) = 0 from rfl] at hsc
   rw [hsc]
   cases hq : r.dropWhile digB with
   | nil =>
    obtain ⟨q1, q2⟩ := hall.1 hq
    rw [q2]
    simp only [scL, q1, true_and, Nat.sub_zero, Nat.zero_add]
    by_cases h0 : a ≠ [] ∨ r ≠ []
    ·rw [if_pos h0]
     have hl : a.length ≠ 0 ∨ r.length ≠ 0 := h0.imp (fun h e => h (List.length_eq_zero_iff.1 e)) (fun h e => h (List.length_eq_zero_iff.1 e))
     exact fin_lit a r ha q1 1 _ (by omega)
    ·rw [if_neg h0]
     have e1 : a = [] := by by_cases h : a = []; exact h; exact absurd (.inl h) h0
     have e2 : r = [] := by by_cases h : r = []; exact h; exact absurd (.inr h) h0
     rw [e1, e2]; rfl
   | cons d t =>
    have q1 := hall.2 (by rw [hq]; simp)
    rw [hq] at hr2
    have hd : digB d = false := by simpa using hr2
    simp only [q1, Bool.false_eq_true, false_and, if_false, if_true, scL, hd]
    by_cases hd46 : d = 46
    ·rw [if_pos hd46]
     cases hf : scL t (a.map dI ++ ((r.takeWhile digB).take (6 - 0)).map dI) (1 + 1) ((a.length : Int) + ((r.takeWhile digB).length : Int)) ((0 + (r.takeWhile digB).length : Nat) : Int) with
     | none => rfl
     | some z =>
      obtain ⟨x', p', m', b'⟩ := z
      have := sc_points _ _ _ _ _ _ _ _ _ hf
      unfold finL
      simp only
      rw [if_pos (.inl (by omega))]
    ·rw [if_neg hd46]; rfl
  ·have hs46 : ¬ (some c = some 46) := by simpa using h46
   simp only [scL, if_neg h46, hc, Bool.false_eq_true, if_false]
   simp [h46, finL]
theorem ref_lit (s : List UInt8) (hs : s.length ≤ 600) (k : Nat) (hk : 6000 < k) : breviaryref04_Lit.f k (ba s) = some ((litS s).1.1, (litS s).1.2, (litS s).2) := by
 unfold breviaryref04_Lit.f
 have := lit_l0 (ba s) (by rw [qc1]; exact hs) s.length 0 k [] 0 0 0 (by rw [qc1]; omega) (by omega) (fun d h => by cases h) (by simp) (by omega) (by omega) (by omega) (by omega) (by omega) (by omega)
 rw [qu, List.drop_zero, sc_lit] at this
 exact this
end Go.Proofs.YthilcidoacgdfaaGreatDoor.FigJ
