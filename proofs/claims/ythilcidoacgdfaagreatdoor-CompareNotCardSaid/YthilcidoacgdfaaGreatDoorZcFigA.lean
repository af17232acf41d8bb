/- Numbers as texts, and texts as numbers: the plain answers, and what holds of them. -/
import Derived.Test.YthilcidoacgdfaaGreatDoorZcSpanA
import Derived.Test.YthilcidoacgdfaaGreatDoorZcDecB
namespace Go.Proofs.YthilcidoacgdfaaGreatDoor.DecA
end Go.Proofs.YthilcidoacgdfaaGreatDoor.DecA
namespace Go.Proofs.YthilcidoacgdfaaGreatDoor.DecE
end Go.Proofs.YthilcidoacgdfaaGreatDoor.DecE
namespace Go.Proofs.YthilcidoacgdfaaGreatDoor.DecF
end Go.Proofs.YthilcidoacgdfaaGreatDoor.DecF
namespace Go.Proofs.YthilcidoacgdfaaGreatDoor.SpanA
end Go.Proofs.YthilcidoacgdfaaGreatDoor.SpanA
namespace Go.Proofs.YthilcidoacgdfaaGreatDoorW.PrintLast
end Go.Proofs.YthilcidoacgdfaaGreatDoorW.PrintLast
namespace Go.Proofs.YthilcidoacgdfaaGreatDoorW.PrintMore
end Go.Proofs.YthilcidoacgdfaaGreatDoorW.PrintMore
namespace Go.Proofs.YthilcidoacgdfaaGreatDoorW.PrintWords
end Go.Proofs.YthilcidoacgdfaaGreatDoorW.PrintWords
namespace Go.Proofs.YthilcidoacgdfaaGreatDoor.FigA
open Go.RowKit Go.Proofs.YthilcidoacgdfaaGreatDoorW.PrintWords Go.Proofs.YthilcidoacgdfaaGreatDoorW.PrintLast Go.Proofs.YthilcidoacgdfaaGreatDoorW.PrintMore Go.Proofs.YthilcidoacgdfaaGreatDoor.DecA Go.Proofs.YthilcidoacgdfaaGreatDoor.DecE Go.Proofs.YthilcidoacgdfaaGreatDoor.DecF Go.Proofs.YthilcidoacgdfaaGreatDoor.SpanA
set_option linter.unusedVariables false
set_option linter.unusedSimpArgs false
/-! ### digits as bytes -/
def digB (c : UInt8) : Bool := decide (48 ≤ c.toNat) && decide (c.toNat ≤ 57)
theorem digB_iff (c : UInt8) : digB c = true ↔ 48 ≤ c.toNat ∧ c.toNat ≤ 57 := by unfold digB; simp
/-! ### what a text of digits tells -/
def valU (l : List UInt8) : Int := l.foldl (fun a c => 10 * a + ((c.toNat : Int) - 48)) 0
theorem valU_snoc (l : List UInt8) (c : UInt8) : valU (l ++ [c]) = 10 * valU l + ((c.toNat : Int) - 48) := by unfold valU; simp
theorem fold_base (l : List UInt8) : ∀ a : Int, l.foldl (fun a c => 10 * a + ((c.toNat : Int) - 48)) a = 10 ^ l.length * a + valU l := by
  unfold valU
  induction l with
  | nil => intro a; simp
  | cons c l ih =>
    intro a
    simp only [List.foldl_cons, List.length_cons]
    rw [ih, ih (10 * 0 + _), Int.pow_succ]
    grind
theorem valU_app (a b : List UInt8) : valU (a ++ b) = 10 ^ b.length * valU a + valU b := by
  have := fold_base b (valU a)
  unfold valU at this ⊢
  rw [List.foldl_append]
  exact this
theorem valU_nonneg : ∀ (n : Nat) (l : List UInt8), l.length = n → l.all digB = true → 0 ≤ valU l := by
  intro n
  induction n with
  | zero => intro l h _; rw [List.length_eq_zero_iff.1 h]; decide
  | succ n ih =>
    intro l h ha
    obtain ⟨a, c, rfl⟩ : ∃ a c, l = a ++ [c] := ⟨l.dropLast, l.getLast (by intro e; rw [e] at h; simp at h), (List.dropLast_concat_getLast _).symm⟩
    rw [List.all_append, Bool.and_eq_true] at ha
    have h1 := ih a (by simp at h; exact h) ha.1
    have h2 := ha.2
    simp at h2
    rw [digB_iff] at h2
    rw [valU_snoc]
    omega
/-! ### a literal -/
/-- What a literal has ahead of its point, and behind it. -/
def litP (s : List UInt8) : Option (List UInt8 × List UInt8) :=
  let a := s.takeWhile digB
  let r := s.dropWhile digB
  if r = [] then (if a = [] then none else some (a, []))
  else if r.head? = some 46 then (if r.tail.all digB = true ∧ (a ≠ [] ∨ r.tail ≠ []) then some (a, r.tail) else none) else none
/-- Six digits. -/
def sixL (b : List UInt8) : List UInt8 := (b ++ List.replicate 6 48).take 6
def litS (s : List UInt8) : (Int × Int) × Bool := match litP s with | some (a, b) => (mk false (valU (a ++ sixL b)), true) | none => ((0, 0), false)
def spB (c : UInt8) : Bool := c == 32 || c == 9 || c == 10 || c == 13
def trimSp (s : List UInt8) : List UInt8 := ((s.dropWhile spB).reverse.dropWhile spB).reverse
def readS (s : List UInt8) : Int × Int :=
  let t := trimSp s
  let b := t.head? = some 45
  let r := litS (if b then t.tail else t)
  if r.2 = true then (if b then negS (nrm r.1) else r.1) else (1, 0)
/-! ### a number as a text -/
theorem takeW_all {p : UInt8 → Bool} : ∀ (a b : List UInt8), a.all p = true → (b.head?.map p ≠ some true) → (a ++ b).takeWhile p = a ∧ (a ++ b).dropWhile p = b
  | [], [], _, _ => ⟨rfl, rfl⟩
  | [], c :: b, _, h => by
    have hc : p c = false := by cases hp : p c with | false => rfl | true => exact absurd (by simp [hp]) h
    simp [List.takeWhile, List.dropWhile, hc]
  | c :: a, b, h, hb => by
    rw [List.all_cons, Bool.and_eq_true] at h
    have := takeW_all a b h.2 hb
    rw [List.cons_append, List.takeWhile_cons, List.dropWhile_cons, if_pos h.1, if_pos h.1, this.1, this.2]
    exact ⟨rfl, rfl⟩
theorem dropW_spec {p : UInt8 → Bool} : ∀ l : List UInt8, ∃ z, l = z ++ l.dropWhile p ∧ z.all p = true
  | [] => ⟨[], rfl, rfl⟩
  | c :: l => by
    obtain ⟨z, h1, h2⟩ := dropW_spec (p := p) l
    rw [List.dropWhile_cons]
    by_cases hp : p c = true
    · rw [if_pos hp]
      refine ⟨c :: z, ?_, by rw [List.all_cons, hp, h2]; rfl⟩
      rw [List.cons_append, ← h1]
    · rw [if_neg hp]; exact ⟨[], rfl, rfl⟩
theorem all48 : ∀ z : List UInt8, z.all (· == 48) = true → z = List.replicate z.length 48
  | [], _ => rfl
  | c :: z, h => by
    rw [List.all_cons, Bool.and_eq_true] at h
    have hc : c = 48 := by simpa using h.1
    rw [List.length_cons, List.replicate_succ, ← all48 z h.2, hc]
theorem nm_mk (b : Bool) (n : Int) (h : 0 ≤ n) : Nm (mk b n) := by
  unfold mk Nm
  split
  · right; cases b <;> simp
  · left; cases b <;> simp <;> omega
theorem six_all (b : List UInt8) (h : b.all digB = true) : (sixL b).all digB = true := by
  unfold sixL
  rw [List.all_eq_true]
  intro c hc
  have := List.mem_of_mem_take hc
  rw [List.mem_append] at this
  rcases this with q | q
  · exact List.all_eq_true.1 h c q
  · rw [List.mem_replicate] at q
    rw [q.2]; decide
theorem litP_all {s a b : List UInt8} (h : litP s = some (a, b)) : a.all digB = true ∧ b.all digB = true := by
  have ht : (s.takeWhile digB).all digB = true := List.all_takeWhile
  unfold litP at h
  simp only at h
  split at h
  · split at h
    · cases h
    · cases h; exact ⟨ht, rfl⟩
  · split at h
    · split at h
      · rename_i q; cases h; exact ⟨ht, q.1⟩
      · cases h
    · cases h
theorem nm_lit (s : List UInt8) : Nm (litS s).1 := by
  unfold litS
  cases h : litP s with
  | none => exact .inl ⟨rfl, by decide⟩
  | some q =>
    obtain ⟨a, b⟩ := q
    have := litP_all h
    exact nm_mk false _ (valU_nonneg _ _ rfl (by rw [List.all_append, this.1, six_all b this.2]; rfl))
end Go.Proofs.YthilcidoacgdfaaGreatDoor.FigA
