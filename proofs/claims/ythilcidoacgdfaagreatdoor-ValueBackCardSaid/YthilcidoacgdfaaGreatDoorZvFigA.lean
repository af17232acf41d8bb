/- Numbers as texts, and texts as numbers: the plain answers, and what holds of them. -/
import Derived.Test.YthilcidoacgdfaaGreatDoorZvDecG
import Derived.Test.YthilcidoacgdfaaGreatDoorZvCharF
import Derived.Test.YthilcidoacgdfaaGreatDoorZvSpanA
namespace Go.Proofs.YthilcidoacgdfaaGreatDoor.DecA
end Go.Proofs.YthilcidoacgdfaaGreatDoor.DecA
namespace Go.Proofs.YthilcidoacgdfaaGreatDoor.DecE
end Go.Proofs.YthilcidoacgdfaaGreatDoor.DecE
namespace Go.Proofs.YthilcidoacgdfaaGreatDoor.DecF
end Go.Proofs.YthilcidoacgdfaaGreatDoor.DecF
namespace Go.Proofs.YthilcidoacgdfaaGreatDoor.SpanA
end Go.Proofs.YthilcidoacgdfaaGreatDoor.SpanA
namespace Go.Proofs.YthilcidoacgdfaaGreatDoorW.PrintLast
end Go.Proofs.YthilcidoacgdfaaGreatDoorW.PrintLast
namespace Go.Proofs.YthilcidoacgdfaaGreatDoorW.PrintMore
end Go.Proofs.YthilcidoacgdfaaGreatDoorW.PrintMore
namespace Go.Proofs.YthilcidoacgdfaaGreatDoorW.PrintWords
end Go.Proofs.YthilcidoacgdfaaGreatDoorW.PrintWords
namespace Go.Proofs.YthilcidoacgdfaaGreatDoor.FigA
open Go.RowKit Go.Proofs.YthilcidoacgdfaaGreatDoorW.PrintWords Go.Proofs.YthilcidoacgdfaaGreatDoorW.PrintLast Go.Proofs.YthilcidoacgdfaaGreatDoorW.PrintMore Go.Proofs.YthilcidoacgdfaaGreatDoor.DecA Go.Proofs.YthilcidoacgdfaaGreatDoor.DecE Go.Proofs.YthilcidoacgdfaaGreatDoor.DecF Go.Proofs.YthilcidoacgdfaaGreatDoor.SpanA
set_option linter.unusedVariables false
set_option linter.unusedSimpArgs false
/-! ### digits as bytes -/
/-- A digit as a byte. -/
def chD (d : Int) : UInt8 := UInt8.ofNat (48 + d.toNat)
/-- Noughts ahead (the last digit stands first). -/
def padL (m : Nat) (l : List Int) : List Int := l ++ List.replicate (m - l.length) 0
/-- Digits as a text. -/
def ascL (l : List Int) : List UInt8 := (l.map chD).reverse
/-- A number's digits as a text, at least so many. -/
def decP (m n : Nat) : List UInt8 := ascL (padL m (dg n))
def digB (c : UInt8) : Bool := decide (48 ≤ c.toNat) && decide (c.toNat ≤ 57)
theorem digB_iff (c : UInt8) : digB c = true ↔ 48 ≤ c.toNat ∧ c.toNat ≤ 57 := by unfold digB; simp
theorem chD_nat (d : Int) (h : 0 ≤ d ∧ d ≤ 9) : (chD d).toNat = 48 + d.toNat := by
  unfold chD
  rw [UInt8.toNat_ofNat']
  omega
theorem chD_dig (d : Int) (h : 0 ≤ d ∧ d ≤ 9) : digB (chD d) = true := by rw [digB_iff, chD_nat d h]; omega
theorem asc_all (l : List Int) (h : Dig l) : (ascL l).all digB = true := by
  unfold ascL
  rw [List.all_eq_true]
  intro c hc
  rw [List.mem_reverse, List.mem_map] at hc
  obtain ⟨d, hd, rfl⟩ := hc
  exact chD_dig d (h d hd)
theorem pad_dig (m : Nat) {l : List Int} (h : Dig l) : Dig (padL m l) := dig_append h (dig_replicate _)
theorem decP_all (m n : Nat) : (decP m n).all digB = true := asc_all _ (pad_dig m (dg_dig n))
theorem asc_len (l : List Int) : (ascL l).length = l.length := by unfold ascL; simp
theorem pad_len (m : Nat) (l : List Int) : (padL m l).length = max m l.length := by unfold padL; rw [List.length_append, List.length_replicate]; omega
theorem decP_len (m n : Nat) : (decP m n).length = max m (dg n).length := by unfold decP; rw [asc_len, pad_len]
theorem asc_cons (d : Int) (l : List Int) : ascL (d :: l) = ascL l ++ [chD d] := by unfold ascL; simp
theorem asc_app (a b : List Int) : ascL (a ++ b) = ascL b ++ ascL a := by unfold ascL; simp
theorem pad_step (k n : Nat) : padL (k + 1) (dg n) = ((n % 10 : Nat) : Int) :: padL k (dg (n / 10)) := by
  by_cases h : n = 0
  · subst h
    rw [dg_zero]
    unfold padL
    simp [List.replicate_succ, dg_zero]
  · rw [dg_pos n h]
    unfold padL
    rw [List.length_cons, List.cons_append, show k + 1 - ((dg (n / 10)).length + 1) = k - (dg (n / 10)).length by omega]
theorem pad_app (j : Nat) : ∀ (k n : Nat), padL (k + j) (dg n) = padL k (dg (n % 10 ^ k)) ++ padL j (dg (n / 10 ^ k))
  | 0, n => by
    rw [Nat.pow_zero, Nat.mod_one, Nat.div_one, dg_zero, Nat.zero_add]
    rfl
  | k + 1, n => by
    rw [show k + 1 + j = (k + j) + 1 by omega, pad_step, pad_app j k (n / 10), pad_step]
    have e1 : n % 10 ^ (k + 1) % 10 = n % 10 := by rw [Nat.pow_succ', Nat.mod_mul_right_mod]
    have e2 : n % 10 ^ (k + 1) / 10 = n / 10 % 10 ^ k := by rw [Nat.pow_succ', Nat.mod_mul_right_div_self]
    have e3 : n / 10 ^ (k + 1) = n / 10 / 10 ^ k := by rw [Nat.pow_succ', Nat.div_div_eq_div_mul]
    rw [e1, e2, e3, List.cons_append]
theorem decP_split (j k n : Nat) : decP (k + j) n = decP j (n / 10 ^ k) ++ decP k (n % 10 ^ k) := by
  unfold decP
  rw [pad_app, asc_app]
/-! ### what a text of digits tells -/
def valU (l : List UInt8) : Int := l.foldl (fun a c => 10 * a + ((c.toNat : Int) - 48)) 0
theorem valU_snoc (l : List UInt8) (c : UInt8) : valU (l ++ [c]) = 10 * valU l + ((c.toNat : Int) - 48) := by unfold valU; simp
theorem valU_asc : ∀ l : List Int, Dig l → valU (ascL l) = val l
  | [], _ => rfl
  | d :: l, h => by
    have hd := h d (by simp)
    rw [asc_cons, valU_snoc, valU_asc l (fun x hx => h x (by simp [hx])), chD_nat d hd, val]
    omega
theorem val_pad (m : Nat) (l : List Int) : val (padL m l) = val l := by unfold padL; rw [val_append, val_replicate]; omega
theorem valU_decP (m n : Nat) : valU (decP m n) = n := by unfold decP; rw [valU_asc _ (pad_dig m (dg_dig n)), val_pad, val_dg]
theorem fold_base (l : List UInt8) : ∀ a : Int, l.foldl (fun a c => 10 * a + ((c.toNat : Int) - 48)) a = 10 ^ l.length * a + valU l := by
  unfold valU
  induction l with
  | nil => intro a; simp
  | cons c l ih =>
    intro a
    simp only [List.foldl_cons, List.length_cons]
    rw [ih, ih (10 * 0 + _), Int.pow_succ]
    grind
theorem valU_app (a b : List UInt8) : valU (a ++ b) = 10 ^ b.length * valU a + valU b := by
  have := fold_base b (valU a)
  unfold valU at this ⊢
  rw [List.foldl_append]
  exact this
theorem valU_nonneg : ∀ (n : Nat) (l : List UInt8), l.length = n → l.all digB = true → 0 ≤ valU l := by
  intro n
  induction n with
  | zero => intro l h _; rw [List.length_eq_zero_iff.1 h]; decide
  | succ n ih =>
    intro l h ha
    obtain ⟨a, c, rfl⟩ : ∃ a c, l = a ++ [c] := ⟨l.dropLast, l.getLast (by intro e; rw [e] at h; simp at h), (List.dropLast_concat_getLast _).symm⟩
    rw [List.all_append, Bool.and_eq_true] at ha
    have h1 := ih a (by simp at h; exact h) ha.1
    have h2 := ha.2
    simp at h2
    rw [digB_iff] at h2
    rw [valU_snoc]
    omega
/-! ### a literal -/
/-- What a literal has ahead of its point, and behind it. -/
def litP (s : List UInt8) : Option (List UInt8 × List UInt8) :=
  let a := s.takeWhile digB
  let r := s.dropWhile digB
  if r = [] then (if a = [] then none else some (a, []))
  else if r.head? = some 46 then (if r.tail.all digB = true ∧ (a ≠ [] ∨ r.tail ≠ []) then some (a, r.tail) else none) else none
/-- Six digits. -/
def sixL (b : List UInt8) : List UInt8 := (b ++ List.replicate 6 48).take 6
def litS (s : List UInt8) : (Int × Int) × Bool := match litP s with | some (a, b) => (mk false (valU (a ++ sixL b)), true) | none => ((0, 0), false)
def spB (c : UInt8) : Bool := c == 32 || c == 9 || c == 10 || c == 13
def trimSp (s : List UInt8) : List UInt8 := ((s.dropWhile spB).reverse.dropWhile spB).reverse
def readS (s : List UInt8) : Int × Int :=
  let t := trimSp s
  let b := t.head? = some 45
  let r := litS (if b then t.tail else t)
  if r.2 = true then (if b then negS (nrm r.1) else r.1) else (1, 0)
/-! ### a number as a text -/
def trimZ (l : List UInt8) : List UInt8 := (l.reverse.dropWhile (· == 48)).reverse
def showN (n : Nat) : List UInt8 := decP 1 (n / 1000000) ++ (if trimZ (decP 6 (n % 1000000)) = [] then [] else 46 :: trimZ (decP 6 (n % 1000000)))
def showS (a : Int × Int) : List UInt8 :=
  if rightB a = false ∨ a.1 = 1 then [78, 97, 78] else if a.1 = 2 then [73, 110, 102, 105, 110, 105, 116, 121] else if a.1 = 3 then [45, 73, 110, 102, 105, 110, 105, 116, 121]
  else (if a.2 < 0 then [45] else []) ++ showN (ab a.2).toNat
theorem takeW_all {p : UInt8 → Bool} : ∀ (a b : List UInt8), a.all p = true → (b.head?.map p ≠ some true) → (a ++ b).takeWhile p = a ∧ (a ++ b).dropWhile p = b
  | [], [], _, _ => ⟨rfl, rfl⟩
  | [], c :: b, _, h => by
    have hc : p c = false := by cases hp : p c with | false => rfl | true => exact absurd (by simp [hp]) h
    simp [List.takeWhile, List.dropWhile, hc]
  | c :: a, b, h, hb => by
    rw [List.all_cons, Bool.and_eq_true] at h
    have := takeW_all a b h.2 hb
    rw [List.cons_append, List.takeWhile_cons, List.dropWhile_cons, if_pos h.1, if_pos h.1, this.1, this.2]
    exact ⟨rfl, rfl⟩
theorem dropW_spec {p : UInt8 → Bool} : ∀ l : List UInt8, ∃ z, l = z ++ l.dropWhile p ∧ z.all p = true
  | [] => ⟨[], rfl, rfl⟩
  | c :: l => by
    obtain ⟨z, h1, h2⟩ := dropW_spec (p := p) l
    rw [List.dropWhile_cons]
    by_cases hp : p c = true
    · rw [if_pos hp]
      refine ⟨c :: z, ?_, by rw [List.all_cons, hp, h2]; rfl⟩
      rw [List.cons_append, ← h1]
    · rw [if_neg hp]; exact ⟨[], rfl, rfl⟩
theorem all48 : ∀ z : List UInt8, z.all (· == 48) = true → z = List.replicate z.length 48
  | [], _ => rfl
  | c :: z, h => by
    rw [List.all_cons, Bool.and_eq_true] at h
    have hc : c = 48 := by simpa using h.1
    rw [List.length_cons, List.replicate_succ, ← all48 z h.2, hc]
theorem trimZ_spec (l : List UInt8) : ∃ k, l = trimZ l ++ List.replicate k 48 := by
  obtain ⟨z, h1, h2⟩ := dropW_spec (p := (· == (48 : UInt8))) l.reverse
  refine ⟨z.length, ?_⟩
  unfold trimZ
  have h3 := congrArg List.reverse h1
  rw [List.reverse_reverse, List.reverse_append] at h3
  have h4 : z.reverse = List.replicate z.length 48 := by
    conv => lhs; rw [all48 z h2]
    rw [List.reverse_replicate]
  rw [h4] at h3
  exact h3
theorem six_trim (l : List UInt8) (h : l.length = 6) : sixL (trimZ l) = l := by
  obtain ⟨k, hk⟩ := trimZ_spec l
  have hlen := congrArg List.length hk
  rw [h, List.length_append, List.length_replicate] at hlen
  unfold sixL
  have e : trimZ l ++ List.replicate 6 48 = l ++ List.replicate (6 - k) 48 := by
    conv => rhs; rw [hk]
    rw [List.append_assoc, List.replicate_append_replicate, show k + (6 - k) = 6 by omega]
  rw [e, List.take_append_of_le_length (by omega), List.take_of_length_le (by omega)]
theorem trimZ_all (l : List UInt8) (h : l.all digB = true) : (trimZ l).all digB = true := by
  obtain ⟨k, hk⟩ := trimZ_spec l
  rw [hk, List.all_append, Bool.and_eq_true] at h
  exact h.1
theorem dg_len6 (n : Nat) (h : n < 1000000) : (dg n).length ≤ 6 := dg_le_length 6 n h
theorem decP6_len (n : Nat) : (decP 6 (n % 1000000)).length = 6 := by
  rw [decP_len]
  have := dg_len6 (n % 1000000) (by omega)
  omega
theorem decP_ne (m n : Nat) (h : 1 ≤ m) : decP m n ≠ [] := fun e => by
  have := congrArg List.length e
  rw [decP_len] at this
  simp at this
  omega
theorem show_lit (n : Nat) : litS (showN n) = (mk false n, true) := by
  have ha := decP_all 1 (n / 1000000)
  have hne := decP_ne 1 (n / 1000000) (by omega)
  have hz := trimZ_all _ (decP_all 6 (n % 1000000))
  have hv : valU (decP 1 (n / 1000000) ++ sixL (trimZ (decP 6 (n % 1000000)))) = n := by
    rw [six_trim _ (decP6_len n)]
    have := decP_split 1 6 n
    rw [show (10 : Nat) ^ 6 = 1000000 from rfl] at this
    rw [← this, valU_decP]
  have hp : litP (showN n) = some (decP 1 (n / 1000000), trimZ (decP 6 (n % 1000000))) := by
    unfold showN litP
    generalize decP 1 (n / 1000000) = a at *
    generalize trimZ (decP 6 (n % 1000000)) = z at *
    by_cases h0 : z = []
    · rw [if_pos h0]
      obtain ⟨t1, t2⟩ := takeW_all a [] ha (by simp)
      simp only
      rw [t1, t2, if_pos rfl, if_neg hne, h0]
    · rw [if_neg h0]
      obtain ⟨t1, t2⟩ := takeW_all a (46 :: z) ha (by simp; decide)
      simp only
      rw [t1, t2, if_neg (by simp), if_pos (show (46 :: z).head? = some 46 from rfl), List.tail_cons, if_pos ⟨hz, .inl hne⟩]
  unfold litS
  rw [hp]
  simp only
  rw [hv]
theorem spB_dig (c : UInt8) (h : digB c = true) : spB c = false := by
  rw [digB_iff] at h
  have n : ∀ d : UInt8, d.toNat < 48 → c ≠ d := fun d hd e => by rw [e] at h; omega
  unfold spB
  simp [n 32 (by decide), n 9 (by decide), n 10 (by decide), n 13 (by decide)]
theorem trimSp_id (l : List UInt8) (h1 : l.head?.map spB ≠ some true) (h2 : l.reverse.head?.map spB ≠ some true) : trimSp l = l := by
  have := (takeW_all (p := spB) [] l rfl h1).2
  have h := (takeW_all (p := spB) [] l.reverse rfl h2).2
  rw [List.nil_append] at this h
  unfold trimSp
  rw [this, h, List.reverse_reverse]
theorem showN_ends (n : Nat) : (∃ c t, showN n = c :: t ∧ digB c = true) ∧ (∃ c t, (showN n).reverse = c :: t ∧ digB c = true) := by
  have ha := decP_all 1 (n / 1000000)
  have hne := decP_ne 1 (n / 1000000) (by omega)
  have hz := trimZ_all _ (decP_all 6 (n % 1000000))
  unfold showN
  generalize decP 1 (n / 1000000) = a at *
  generalize trimZ (decP 6 (n % 1000000)) = z at *
  have last : ∀ l : List UInt8, l.all digB = true → l ≠ [] → ∃ c t, l.reverse = c :: t ∧ digB c = true := by
    intro l hl hn
    cases hr : l.reverse with
    | nil => exact absurd (List.reverse_eq_nil_iff.1 hr) hn
    | cons c t => exact ⟨c, t, rfl, List.all_eq_true.1 hl c (List.mem_reverse.1 (by rw [hr]; simp))⟩
  constructor
  · cases a with
    | nil => exact absurd rfl hne
    | cons c t =>
      rw [List.all_cons, Bool.and_eq_true] at ha
      exact ⟨c, _, rfl, ha.1⟩
  · by_cases h0 : z = []
    · rw [if_pos h0, List.append_nil]
      exact last a ha hne
    · rw [if_neg h0, List.reverse_append, List.reverse_cons]
      obtain ⟨c, t, e, hc⟩ := last z hz h0
      rw [e]
      exact ⟨c, _, rfl, hc⟩
theorem mk_num {n : Nat} (h : (n : Int) ≤ 9223372036854775807) : mk false n = (0, (n : Int)) := by rw [mk_small h]; simp
/-- A number that is shown is read as it was. -/
theorem back {v : Int} (h : -9223372036854775807 ≤ v ∧ v ≤ 9223372036854775807) : readS (showS (0, v)) = (0, v) := by
  obtain ⟨m, hm, hmax⟩ := ab_nat h
  have hr : rightB (0, v) = true := by unfold rightB; simp; omega
  obtain ⟨⟨c, t, e1, hc⟩, ⟨d, u, e2, hd⟩⟩ := showN_ends m
  have hl := show_lit m
  rw [mk_num (by omega)] at hl
  have c45 : c ≠ 45 := fun e => by rw [e] at hc; revert hc; decide
  unfold showS
  rw [if_neg (by simp [hr]), if_neg (by simp), if_neg (by simp)]
  simp only [hm, Int.toNat_natCast]
  have hs := spB_dig c hc
  have hs2 := spB_dig d hd
  by_cases h0 : v < 0
  · have ht : trimSp ([45] ++ showN m) = [45] ++ showN m := by
      refine trimSp_id _ (by simp; decide) ?_
      rw [List.reverse_append, e2]
      simp [hs2]
    rw [if_pos h0]
    unfold readS
    simp only [ht]
    have hh : ([45] ++ showN m).head? = some 45 := rfl
    simp only [if_pos hh]
    rw [show (([45] : List UInt8) ++ showN m).tail = showN m from rfl, hl, if_pos rfl]
    have hab : (m : Int) = -v := by rw [← hm]; unfold ab; rw [if_pos h0]
    rw [nrm_of (by unfold rightB; simp)]
    unfold negS
    rw [if_pos rfl, hab]
    simp
  · have ht : trimSp ([] ++ showN m) = showN m := by
      rw [List.nil_append]
      refine trimSp_id _ ?_ ?_
      · rw [e1]; simp [hs]
      · rw [e2]; simp [hs2]
    rw [if_neg h0]
    unfold readS
    simp only [ht]
    have hh : ¬ (showN m).head? = some 45 := by rw [e1]; simp [c45]
    rw [if_neg hh, hl, if_pos rfl, if_neg hh]
    have hab : (m : Int) = v := by rw [← hm]; unfold ab; rw [if_neg h0]
    rw [hab]
theorem nm_mk (b : Bool) (n : Int) (h : 0 ≤ n) : Nm (mk b n) := by
  unfold mk Nm
  split
  · right; cases b <;> simp
  · left; cases b <;> simp <;> omega
theorem six_all (b : List UInt8) (h : b.all digB = true) : (sixL b).all digB = true := by
  unfold sixL
  rw [List.all_eq_true]
  intro c hc
  have := List.mem_of_mem_take hc
  rw [List.mem_append] at this
  rcases this with q | q
  · exact List.all_eq_true.1 h c q
  · rw [List.mem_replicate] at q
    rw [q.2]; decide
theorem litP_all {s a b : List UInt8} (h : litP s = some (a, b)) : a.all digB = true ∧ b.all digB = true := by
  have ht : (s.takeWhile digB).all digB = true := List.all_takeWhile
  unfold litP at h
  simp only at h
  split at h
  · split at h
    · cases h
    · cases h; exact ⟨ht, rfl⟩
  · split at h
    · split at h
      · rename_i q; cases h; exact ⟨ht, q.1⟩
      · cases h
    · cases h
theorem nm_lit (s : List UInt8) : Nm (litS s).1 := by
  unfold litS
  cases h : litP s with
  | none => exact .inl ⟨rfl, by decide⟩
  | some q =>
    obtain ⟨a, b⟩ := q
    have := litP_all h
    exact nm_mk false _ (valU_nonneg _ _ rfl (by rw [List.all_append, this.1, six_all b this.2]; rfl))
end Go.Proofs.YthilcidoacgdfaaGreatDoor.FigA
