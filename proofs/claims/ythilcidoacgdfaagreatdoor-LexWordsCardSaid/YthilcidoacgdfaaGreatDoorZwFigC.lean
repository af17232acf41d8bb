import Derived.Test.YthilcidoacgdfaaGreatDoorZwSpanA
import Derived.Test.YthilcidoacgdfaaGreatDoorZwDecB
import Derived.Shelf.GgClosure.StringsTrimFunc
namespace Go.Proofs.YthilcidoacgdfaaGreatDoor.DecA
end Go.Proofs.YthilcidoacgdfaaGreatDoor.DecA
namespace Go.Proofs.YthilcidoacgdfaaGreatDoor.DecE
end Go.Proofs.YthilcidoacgdfaaGreatDoor.DecE
namespace Go.Proofs.YthilcidoacgdfaaGreatDoor.DecF
end Go.Proofs.YthilcidoacgdfaaGreatDoor.DecF
namespace Go.Proofs.YthilcidoacgdfaaGreatDoor.SpanA
end Go.Proofs.YthilcidoacgdfaaGreatDoor.SpanA
namespace Go.Proofs.YthilcidoacgdfaaGreatDoorW.PrintLast
end Go.Proofs.YthilcidoacgdfaaGreatDoorW.PrintLast
namespace Go.Proofs.YthilcidoacgdfaaGreatDoorW.PrintMore
end Go.Proofs.YthilcidoacgdfaaGreatDoorW.PrintMore
namespace Go.Proofs.YthilcidoacgdfaaGreatDoorW.PrintWords
end Go.Proofs.YthilcidoacgdfaaGreatDoorW.PrintWords
namespace Go.Proofs.YthilcidoacgdfaaGreatDoor.FigA
open Go.RowKit YthilcidoacgdfaaGreatDoorW.PrintWords YthilcidoacgdfaaGreatDoorW.PrintLast YthilcidoacgdfaaGreatDoorW.PrintMore DecA DecE DecF SpanA
set_option linter.unusedVariables false
set_option linter.unusedSimpArgs false
def chD (d : Int) : UInt8 := UInt8.ofNat (48 + d.toNat)
def ascL (l : List Int) : List UInt8 := (l.map chD).reverse
def digB (c : UInt8) : Bool := decide (48 ≤ c.toNat) && decide (c.toNat ≤ 57)
theorem qi1 (c : UInt8) : digB c = true ↔ 48 ≤ c.toNat ∧ c.toNat ≤ 57 := by unfold digB; simp
theorem chD_nat (d : Int) (h : 0 ≤ d ∧ d ≤ 9) : (chD d).toNat = 48 + d.toNat := by
 unfold chD
 rw [UInt8.toNat_ofNat']
 omega
theorem asc_cons (d : Int) (l : List Int) : ascL (d :: l) = ascL l ++ [chD d] := by unfold ascL; simp
def valU (l : List UInt8) : Int := l.foldl (fun a c => 10 * a + ((c.toNat : Int) - 48)) 0
theorem valU_snoc (l : List UInt8) (c : UInt8) : valU (l ++ [c]) = 10 * valU l + ((c.toNat : Int) - 48) := by unfold valU; simp
theorem valU_asc : ∀ l : List Int, Dig l → valU (ascL l) = val l
 | [], _ => rfl
 | d :: l, h => by
  have hd := h d (by simp)
  rw [asc_cons, valU_snoc, valU_asc l (fun x hx => h x (by simp [hx])), chD_nat d hd, val]
  omega
theorem fold_base (l : List UInt8) : ∀ a : Int, l.foldl (fun a c => 10 * a + ((c.toNat : Int) - 48)) a = 10 ^ l.length * a + valU l := by
 unfold valU
 induction l with
 | nil => intro a; simp
 | cons c l ih =>
  intro a
  simp only [List.foldl_cons, List.length_cons]
  rw [ih, ih (10 * 0 + _), Int.pow_succ]
  grind
theorem valU_app (a b : List UInt8) : valU (a ++ b) = 10 ^ b.length * valU a + valU b := by
 have := fold_base b (valU a)
 unfold valU at this ⊢
 rw [List.foldl_append]
 exact this
def litP (s : List UInt8) : Option (List UInt8 × List UInt8) :=
 let a := s.takeWhile digB
 let r := s.dropWhile digB
 if r = [] then (if a = [] then none else some (a, []))
 else if r.head? = some 46 then (if r.tail.all digB = true ∧ (a ≠ [] ∨ r.tail ≠ []) then some (a, r.tail) else none) else none
def sixL (b : List UInt8) : List UInt8 := (b ++ List.replicate 6 48).take 6
def litS (s : List UInt8) : (Int × Int) × Bool := match litP s with | some (a, b) => (mk false (valU (a ++ sixL b)), true) | none => ((0, 0), false)
def spB (c : UInt8) : Bool := c == 32 || c == 9 || c == 10 || c == 13
theorem takeW_all {p : UInt8 → Bool} : ∀ (a b : List UInt8), a.all p = true → (b.head?.map p ≠ some true) → (a ++ b).takeWhile p = a ∧ (a ++ b).dropWhile p = b
 | [], [], _, _ => ⟨rfl, rfl⟩
 | [], c :: b, _, h => by
  have hc : p c = false := by cases hp : p c with | false => rfl | true => exact absurd (by simp [hp]) h
  simp [List.takeWhile, List.dropWhile, hc]
 | c :: a, b, h, hb => by
  rw [List.all_cons, Bool.and_eq_true] at h
  have := takeW_all a b h.2 hb
  rw [List.cons_append, List.takeWhile_cons, List.dropWhile_cons, if_pos h.1, if_pos h.1, this.1, this.2]
  exact ⟨rfl, rfl⟩
theorem dropW_spec {p : UInt8 → Bool} : ∀ l : List UInt8, ∃ z, l = z ++ l.dropWhile p ∧ z.all p = true
 | [] => ⟨[], rfl, rfl⟩
 | c :: l => by
  obtain ⟨z, h1, h2⟩ := dropW_spec (p := p) l
  rw [List.dropWhile_cons]
  by_cases hp : p c = true
  ·rw [if_pos hp]
   refine ⟨c :: z, ?_, by rw [List.all_cons, hp, h2]; rfl⟩
   rw [List.cons_append, ← h1]
  ·rw [if_neg hp]; exact ⟨[], rfl, rfl⟩
theorem all48 : ∀ z : List UInt8, z.all (· == 48) = true → z = List.replicate z.length 48
 | [], _ => rfl
 | c :: z, h => by
  rw [List.all_cons, Bool.and_eq_true] at h
  have hc : c = 48 := by simpa using h.1
  rw [List.length_cons, List.replicate_succ, ← all48 z h.2, hc]
theorem spB_dig (c : UInt8) (h : digB c = true) : spB c = false := by
 rw [qi1] at h
 have n : ∀ d : UInt8, d.toNat < 48 → c ≠ d := fun d hd e => by rw [e] at h; omega
 unfold spB
 simp [n 32 (by decide), n 9 (by decide), n 10 (by decide), n 13 (by decide)]
theorem nm_mk (b : Bool) (n : Int) (h : 0 ≤ n) : Nm (mk b n) := by
 unfold mk Nm
 split
 ·right; cases b <;> simp
 ·left; cases b <;> simp <;> omega
theorem six_all (b : List UInt8) (h : b.all digB = true) : (sixL b).all digB = true := by
 unfold sixL
 rw [List.all_eq_true]
 intro c hc
 have := List.mem_of_mem_take hc
 rw [List.mem_append] at this
 rcases this with q | q
 ·exact List.all_eq_true.1 h c q
 ·rw [List.mem_replicate] at q
  rw [q.2]; decide
theorem litP_all {s a b : List UInt8} (h : litP s = some (a, b)) : a.all digB = true ∧ b.all digB = true := by
 have ht : (s.takeWhile digB).all digB = true := List.all_takeWhile
 unfold litP at h
 simp only at h
 split at h
 ·split at h
  ·cases h
  ·cases h; exact ⟨ht, rfl⟩
 ·split at h
  ·split at h
   ·rename_i q; cases h; exact ⟨ht, q.1⟩
   ·cases h
  ·cases h
end Go.Proofs.YthilcidoacgdfaaGreatDoor.FigA
namespace Go.Proofs.YthilcidoacgdfaaGreatDoor.DecA
end Go.Proofs.YthilcidoacgdfaaGreatDoor.DecA
namespace Go.Proofs.YthilcidoacgdfaaGreatDoor.DecE
end Go.Proofs.YthilcidoacgdfaaGreatDoor.DecE
namespace Go.Proofs.YthilcidoacgdfaaGreatDoor.DecF
end Go.Proofs.YthilcidoacgdfaaGreatDoor.DecF
namespace Go.Proofs.YthilcidoacgdfaaGreatDoor.FigA
end Go.Proofs.YthilcidoacgdfaaGreatDoor.FigA
namespace Go.Proofs.YthilcidoacgdfaaGreatDoor.SpanA
end Go.Proofs.YthilcidoacgdfaaGreatDoor.SpanA
namespace Go.Proofs.YthilcidoacgdfaaGreatDoorW.PrintLast
end Go.Proofs.YthilcidoacgdfaaGreatDoorW.PrintLast
namespace Go.Proofs.YthilcidoacgdfaaGreatDoorW.PrintMore
end Go.Proofs.YthilcidoacgdfaaGreatDoorW.PrintMore
namespace Go.Proofs.YthilcidoacgdfaaGreatDoorW.PrintWords
end Go.Proofs.YthilcidoacgdfaaGreatDoorW.PrintWords
namespace Go.Proofs.YthilcidoacgdfaaGreatDoor.FigB
open Go.RowKit YthilcidoacgdfaaGreatDoorW.PrintWords YthilcidoacgdfaaGreatDoorW.PrintLast YthilcidoacgdfaaGreatDoorW.PrintMore DecA DecE DecF SpanA FigA
set_option linter.unusedVariables false
set_option linter.unusedSimpArgs false
def stepL (d : Int × Int) (c : UInt8) : Int × Int := addS (nrm (mulS (nrm d) (0, 10000000))) (nrm (0, (c.toNat : Int) - 48))
theorem nrm_mk (n : Int) (h : 0 ≤ n) : nrm (mk false n) = mk false n := nrm_nrm (nm_mk false n h)
theorem mk_hi {n : Int} (h : n > 9223372036854775807) : mk false n = (2, 0) := by rw [mk_big h]; rfl
theorem mk_lo {n : Int} (h : n ≤ 9223372036854775807) : mk false n = (0, n) := by rw [mk_small h]; rfl
theorem nrm_small (x : Int) (h : 0 ≤ x ∧ x ≤ 9) : nrm (0, x) = (0, x) := nrm_nrm (.inl ⟨rfl, by omega⟩)
theorem step_mk (n : Int) (hn : 0 ≤ n) (c : UInt8) (hc : digB c = true) : stepL (mk false n) c = mk false (10 * n + ((c.toNat : Int) - 48)) := by
 rw [qi1] at hc
 have h9 : 0 ≤ (c.toNat : Int) - 48 ∧ (c.toNat : Int) - 48 ≤ 9 := by omega
 unfold stepL
 rw [nrm_mk n hn, nrm_small _ h9]
 generalize (c.toNat : Int) - 48 = x at *
 by_cases h : n > 9223372036854775807
 ·rw [mk_hi h, mk_hi (show 10 * n + x > 9223372036854775807 by omega)]
  have e : mulS (2, 0) (0, 10000000) = (2, 0) := by decide
  rw [e, show nrm (2, 0) = (2, 0) by decide]
  unfold addS
  simp
 ·have hab : ab n = n := by unfold ab; rw [if_neg (by omega)]
  have e : mulS (0, n) (0, 10000000) = mk false (10 * n) := by
   unfold mulS
   rw [if_neg (by simp), if_neg (by simp)]
   have h1 : decide (sgn (0, n) * sgn (0, 10000000) < 0) = false := by
    rw [sgn_num, sgn_num, decide_eq_false_iff_not]
    rw [if_pos (show (10000000 : Int) > 0 by omega)]
    repeat' split
    all_goals omega
   rw [h1]
   simp only
   rw [hab, show ab 10000000 = 10000000 from rfl, show n * 10000000 / 1000000 = 10 * n by omega]
  rw [mk_lo (by omega), e, nrm_mk _ (by omega)]
  by_cases h2 : 10 * n > 9223372036854775807
  ·rw [mk_hi h2, mk_hi (show 10 * n + x > 9223372036854775807 by omega)]
   unfold addS
   simp
  ·rw [mk_lo (by omega)]
   have e2 : addS (0, 10 * n) (0, x) = addN (10 * n + x) := by unfold addS; rw [if_neg (by simp), if_pos rfl, if_pos rfl]
   rw [e2]
   unfold addN
   by_cases h3 : 10 * n + x > 9223372036854775807
   ·rw [mk_hi h3, if_pos h3]
   ·rw [mk_lo (by omega), if_neg h3, if_neg (by omega)]
theorem fold_mk : ∀ (l : List UInt8) (n : Int), 0 ≤ n → l.all digB = true → l.foldl stepL (mk false n) = mk false (l.foldl (fun a c => 10 * a + ((c.toNat : Int) - 48)) n)
 | [], n, _, _ => rfl
 | c :: l, n, hn, h => by
  rw [List.all_cons, Bool.and_eq_true] at h
  have hc := (qi1 c).1 h.1
  simp only [List.foldl_cons]
  rw [step_mk n hn c h.1, fold_mk l _ (by omega) h.2]
theorem fold_all (l : List UInt8) (h : l.all digB = true) : l.foldl stepL (0, 0) = mk false (valU l) := fold_mk l 0 (by omega) h
theorem val_trim (a b : List UInt8) : valU (a.dropWhile (· == 48) ++ b) = valU (a ++ b) := by
 obtain ⟨z, h1, h2⟩ := dropW_spec (p := (· == (48 : UInt8))) a
 have hz : valU z = 0 := by
  rw [all48 z h2]
  generalize z.length = k
  induction k with
  | zero => rfl
  | succ k ih => rw [List.replicate_succ', valU_snoc, ih]; decide
 conv => rhs; rw [h1]
 rw [List.append_assoc, valU_app z, hz]
 omega
theorem trimL_all (a : List UInt8) (h : a.all digB = true) : (a.dropWhile (· == 48)).all digB = true := by
 obtain ⟨z, h1, h2⟩ := dropW_spec (p := (· == (48 : UInt8))) a
 rw [h1, List.all_append, Bool.and_eq_true] at h
 exact h.2
theorem fold_lit (a b : List UInt8) (ha : a.all digB = true) (hb : b.all digB = true) : (a.dropWhile (· == 48) ++ sixL b).foldl stepL (0, 0) = mk false (valU (a ++ sixL b)) := by
 rw [fold_all _ (by rw [List.all_append, trimL_all a ha, six_all b hb]; rfl), val_trim]
end Go.Proofs.YthilcidoacgdfaaGreatDoor.FigB
namespace Go.Proofs.YthilcidoacgdfaaGreatDoor.CharB
end Go.Proofs.YthilcidoacgdfaaGreatDoor.CharB
namespace Go.Proofs.YthilcidoacgdfaaGreatDoor.CharD
end Go.Proofs.YthilcidoacgdfaaGreatDoor.CharD
namespace Go.Proofs.YthilcidoacgdfaaGreatDoor.CharF
end Go.Proofs.YthilcidoacgdfaaGreatDoor.CharF
namespace Go.Proofs.YthilcidoacgdfaaGreatDoor.FigA
end Go.Proofs.YthilcidoacgdfaaGreatDoor.FigA
namespace Go.Proofs.YthilcidoacgdfaaGreatDoor.SpanA
end Go.Proofs.YthilcidoacgdfaaGreatDoor.SpanA
namespace Go.Proofs.YthilcidoacgdfaaGreatDoorW.PrintLast
end Go.Proofs.YthilcidoacgdfaaGreatDoorW.PrintLast
namespace Go.Proofs.YthilcidoacgdfaaGreatDoorW.PrintMore
end Go.Proofs.YthilcidoacgdfaaGreatDoorW.PrintMore
namespace Go.Proofs.YthilcidoacgdfaaGreatDoorW.PrintWords
end Go.Proofs.YthilcidoacgdfaaGreatDoorW.PrintWords
namespace Go.Proofs.YthilcidoacgdfaaGreatDoor.FigC
open Go.RowKit YthilcidoacgdfaaGreatDoorW.PrintWords YthilcidoacgdfaaGreatDoorW.PrintLast YthilcidoacgdfaaGreatDoorW.PrintMore CharB CharD CharF SpanA FigA
set_option linter.unusedVariables false
set_option linter.unusedSimpArgs false
def sp (x : Nat) : Bool := spaceB (x : Int)
theorem sp_low (c : UInt8) : sp c.toNat = spB c := by
 have : ∀ c : UInt8, sp c.toNat = spB c := by
  intro c
  have h : ∀ n : Fin 256, sp (UInt8.ofNat n.1).toNat = spB (UInt8.ofNat n.1) := by decide +kernel
  have := h ⟨c.toNat, c.toNat_lt⟩
  simpa using this
 exact this c
theorem spB_high (c : UInt8) (h : 128 ≤ c.toNat) : spB c = false := by
 have n : ∀ d : UInt8, d.toNat < 128 → c ≠ d := fun d hd e => by rw [e] at h; omega
 unfold spB
 simp [n 32 (by decide), n 9 (by decide), n 10 (by decide), n 13 (by decide)]
theorem dec_ba (l : List UInt8) : Utf8.decode (ba l) 0 = Lib.decodeL l := by
 have := Lib.decodeL_drop (ba l) 0
 rw [List.drop_zero, qu] at this
 exact this.symm
theorem sp_high (c : UInt8) (t : List UInt8) (h : 128 ≤ c.toNat) : sp (Lib.decodeL (c :: t)).1 = false := by
 rw [← dec_ba]
 have hz : 0 < (ba (c :: t)).size := by rw [qc1]; simp
 exact decode_big (ba (c :: t)) 0 hz (by show 128 ≤ c.toNat; exact h)
theorem left_sp (s : ByteArray) : ∀ (n pos : Nat), s.size ≤ pos + n →
  (Lib.idxFuncFrom sp false s n pos = -1 ∧ (s.data.toList.drop pos).dropWhile spB = []) ∨ (∃ k : Nat, Lib.idxFuncFrom sp false s n pos = (k : Int) ∧ pos ≤ k ∧ k < s.size ∧ (s.data.toList.drop pos).dropWhile spB = s.data.toList.drop k) := by
 intro n
 induction n with
 | zero =>
  intro pos h
  left
  rw [List.drop_eq_nil_of_le (by rw [← Lib.size_eq]; omega)]
  exact ⟨rfl, rfl⟩
 | succ n ih =>
  intro pos h
  by_cases hp : pos < s.size
  ·have hp' : pos < s.data.toList.length := by rw [← Lib.size_eq]; exact hp
   unfold Lib.idxFuncFrom
   rw [if_pos hp, ← Lib.decodeL_drop, List.drop_eq_getElem_cons hp', List.dropWhile_cons]
   by_cases hc : (s.data.toList[pos]).toNat < 128
   ·rw [Lib.decodeL_ascii _ _ hc]
    simp only
    rw [sp_low]
    cases hs : spB s.data.toList[pos] with
    | true =>
     rw [if_neg (by simp), if_pos rfl]
     rcases ih (pos + 1) (by omega) with ⟨h1, h2⟩ | ⟨k, h1, h2, h3, h4⟩
     ·exact .inl ⟨h1, h2⟩
     ·exact .inr ⟨k, h1, by omega, h3, h4⟩
    | false =>
     rw [if_pos rfl, if_neg (by simp), ← List.drop_eq_getElem_cons hp']
     exact .inr ⟨pos, rfl, Nat.le_refl _, hp, rfl⟩
   ·rw [sp_high _ _ (by omega), if_pos rfl, spB_high _ (by omega), if_neg (by simp), ← List.drop_eq_getElem_cons hp']
    exact .inr ⟨pos, rfl, Nat.le_refl _, hp, rfl⟩
  ·left
   rw [Lib.idxFuncFrom_end _ _ _ _ _ hp, List.drop_eq_nil_of_le (by rw [← Lib.size_eq]; omega)]
   exact ⟨rfl, rfl⟩
theorem trimLeft_sp (s : ByteArray) : Lib.trimLeftF sp s = ba (s.data.toList.dropWhile spB) := by
 have h := left_sp s s.size 0 (by omega)
 rw [List.drop_zero] at h
 apply qg1
 rw [qu]
 unfold Lib.trimLeftF Lib.idxFunc
 rcases h with ⟨h1, h2⟩ | ⟨k, h1, h2, h3, h4⟩
 ·rw [h1, if_pos rfl, h2]
 ·rw [h1, if_neg (by omega), h4, Int.toNat_natCast, qa1, List.take_of_length_le (by rw [List.length_drop, ← Lib.size_eq]; exact Nat.le_refl _)]
theorem getD_at (l : List UInt8) (i : Nat) (h : i < l.length) : l.getD i 0 = l[i] := by simp [List.getD, h]
end Go.Proofs.YthilcidoacgdfaaGreatDoor.FigC
