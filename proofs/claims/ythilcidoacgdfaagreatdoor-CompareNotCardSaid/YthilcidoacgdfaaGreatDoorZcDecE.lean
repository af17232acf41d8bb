/- What each function of the program's package dec, and each of the reference's, comes to: one closed form for both. -/
import Derived.Test.YthilcidoacgdfaaGreatDoorZcDecD
namespace Go.Proofs.YthilcidoacgdfaaGreatDoor.DecA
end Go.Proofs.YthilcidoacgdfaaGreatDoor.DecA
namespace Go.Proofs.YthilcidoacgdfaaGreatDoor.DecB
end Go.Proofs.YthilcidoacgdfaaGreatDoor.DecB
namespace Go.Proofs.YthilcidoacgdfaaGreatDoor.DecC
end Go.Proofs.YthilcidoacgdfaaGreatDoor.DecC
namespace Go.Proofs.YthilcidoacgdfaaGreatDoor.DecD
end Go.Proofs.YthilcidoacgdfaaGreatDoor.DecD
namespace Go.Proofs.YthilcidoacgdfaaGreatDoor.PF
end Go.Proofs.YthilcidoacgdfaaGreatDoor.PF
namespace Go.Proofs.YthilcidoacgdfaaGreatDoorW.PrintLast
end Go.Proofs.YthilcidoacgdfaaGreatDoorW.PrintLast
namespace Go.Proofs.YthilcidoacgdfaaGreatDoorW.PrintMore
end Go.Proofs.YthilcidoacgdfaaGreatDoorW.PrintMore
namespace Go.Proofs.YthilcidoacgdfaaGreatDoorW.PrintWords
end Go.Proofs.YthilcidoacgdfaaGreatDoorW.PrintWords
namespace Go.Proofs.YthilcidoacgdfaaGreatDoor.DecE
set_option linter.unusedSimpArgs false
set_option linter.unusedVariables false
open Go.RowKit Go.Proofs.YthilcidoacgdfaaGreatDoor.PF Go.Proofs.YthilcidoacgdfaaGreatDoorW.PrintWords Go.Proofs.YthilcidoacgdfaaGreatDoorW.PrintLast Go.Proofs.YthilcidoacgdfaaGreatDoorW.PrintMore Go.Proofs.YthilcidoacgdfaaGreatDoor.DecA Go.Proofs.YthilcidoacgdfaaGreatDoor.DecB Go.Proofs.YthilcidoacgdfaaGreatDoor.DecC Go.Proofs.YthilcidoacgdfaaGreatDoor.DecD

/-- 'bind' at a value, as a step of its own: the kernel need not look into what follows. -/
theorem bs {α β : Type} (a : α) (f : α → Option β) : (some a).bind f = f a := of_eq_true (eq_self (f a))
/-- a whole number of 64 bits -/
def I64 (v : Int) : Prop := -9223372036854775808 ≤ v ∧ v ≤ 9223372036854775807
def rightB (a : Int × Int) : Bool := if a.1 = 0 then a.2 != -9223372036854775808 else (a.1 == 1 || a.1 == 2 || a.1 == 3) && a.2 == 0
/-- what may not be is none -/
def nrm (a : Int × Int) : Int × Int := if rightB a = true then a else (1, 0)
/-- a number that may be -/
def Nm (a : Int × Int) : Prop := (a.1 = 0 ∧ -9223372036854775807 ≤ a.2 ∧ a.2 ≤ 9223372036854775807) ∨ ((a.1 = 1 ∨ a.1 = 2 ∨ a.1 = 3) ∧ a.2 = 0)
def mk (b : Bool) (n : Int) : Int × Int := if n > 9223372036854775807 then (if b then 3 else 2, 0) else (0, if b then -n else n)
def sgn (a : Int × Int) : Int := if a.1 = 2 ∨ a.2 > 0 then 1 else if a.1 = 3 ∨ a.2 < 0 then -1 else 0
def great (s : Int) : Int × Int := if s > 0 then (2, 0) else if s < 0 then (3, 0) else (1, 0)
def ab (v : Int) : Int := if v < 0 then -v else v

theorem nrm_nm {t v : Int} (h : I64 v) : Nm (nrm (t, v)) := by
  unfold nrm Nm rightB
  unfold I64 at h
  by_cases c : t = 0
  · simp only [c, if_true]
    by_cases d : v = -9223372036854775808
    · simp [d]
    · simp [d]; omega
  · simp only [c, if_false]
    by_cases d : ((t == 1 || t == 2 || t == 3) && v == 0) = true
    · rw [if_pos d]
      simp at d ⊢
      omega
    · rw [if_neg d]
      simp
theorem nm_right {a : Int × Int} (h : Nm a) : rightB a = true := by
  unfold Nm at h; unfold rightB
  rcases h with ⟨h1, h2, h3⟩ | ⟨h1 | h1 | h1, h2⟩
  · rw [if_pos h1]; simp; omega
  all_goals rw [if_neg (by omega)]; simp [h1, h2]
theorem nrm_of {a : Int × Int} (h : rightB a = true) : nrm a = a := if_pos h
theorem nrm_nrm {a : Int × Int} (h : Nm a) : nrm a = a := if_pos (nm_right h)

theorem dec_Right_f (t v : Int) : dec_Right.f t v = some (rightB (t, v)) := by
  unfold dec_Right.f rightB
  by_cases h0 : t = 0
  · simp [h0]
  · by_cases h1 : t = 1
    · simp [h1]
    · by_cases h2 : t = 2
      · simp [h2]
      · by_cases h3 : t = 3
        · simp [h3]
        · simp [h0, h1, h2, h3]
theorem dec_right_f (t v : Int) : dec_right.f t v = some (nrm (t, v)) := by
  unfold dec_right.f
  rw [dec_Right_f]
  unfold nrm
  by_cases h : rightB (t, v) = true <;> simp [h, dec_nan.f]
theorem dec_none_f (a b : Int × Int) : dec_none.f a.1 a.2 b.1 b.2 = some (decide (a.1 = 1 ∨ b.1 = 1)) := by
  unfold dec_none.f
  by_cases h : a.1 = 1
  · simp [h]
  · simp only [h, if_false, false_or]; congr 1
theorem sign_f {k : Nat} (hk : 0 < k) (a : Int × Int) : dec_sign.f k a.1 a.2 = some (sgn a) := by
  obtain ⟨k, rfl, _⟩ := succ_of hk
  unfold dec_sign.f sgn
  simp only [dec_sign.j0]
  by_cases h : a.1 = 2
  · simp [h]
  · by_cases h2 : a.2 > 0
    · simp [h, h2]
    · simp only [h, h2, if_false, decide_false, false_or]
      by_cases h3 : a.1 = 3
      · simp [h3]
      · by_cases h4 : a.2 < 0 <;> simp [h3, h4]
theorem sgn_cases (a : Int × Int) : sgn a = 1 ∨ sgn a = 0 ∨ sgn a = -1 := by
  unfold sgn; split
  · exact .inl rfl
  · split
    · exact .inr (.inr rfl)
    · exact .inr (.inl rfl)
theorem great_f {s : Int} (h : s = 1 ∨ s = 0 ∨ s = -1) : dec_great.f s = some (great s) := by
  rcases h with rfl | rfl | rfl <;> rfl
theorem sgn_mul_cases (a b : Int × Int) : sgn a * sgn b = 1 ∨ sgn a * sgn b = 0 ∨ sgn a * sgn b = -1 := by
  rcases sgn_cases a with h | h | h <;> rcases sgn_cases b with h' | h' | h' <;> simp [h, h']
theorem w64_sgn_mul (a b : Int × Int) : wrap64 (sgn a * sgn b) = sgn a * sgn b := by
  have := sgn_mul_cases a b
  exact w64 (by omega) (by omega)

theorem size_f {t v : Int} (h : -9223372036854775807 ≤ v ∧ v ≤ 9223372036854775807) : dec_size.f t v = some (ab v) := by
  unfold dec_size.f ab
  by_cases c : v < 0
  · rw [if_pos c, if_pos c, w64 (by omega) (by omega), u64 (by omega) (by omega)]
  · rw [if_neg c, if_neg c, u64 (by omega) (by omega)]
theorem ab_nat {v : Int} (h : -9223372036854775807 ≤ v ∧ v ≤ 9223372036854775807) : ∃ n : Nat, ab v = n ∧ n ≤ 9223372036854775807 := by
  unfold ab
  split
  · exact ⟨(-v).toNat, by omega, by omega⟩
  · exact ⟨v.toNat, by omega, by omega⟩
theorem signed_f {k : Nat} (hk : 1 < k) (b : Bool) {n : Int} (_h0 : 0 ≤ n) (_h1 : n < 18446744073709551616) : dec_signed.f k b false n = some (mk b n) := by
  obtain ⟨k, rfl, _⟩ := succ_of (show 0 < k by omega)
  obtain ⟨k, rfl, _⟩ := succ_of (show 0 < k by omega)
  unfold dec_signed.f mk
  rw [if_neg (by simp)]
  by_cases h : n ≤ 9223372036854775807
  · rw [if_pos h, if_neg (by omega)]
    simp only [dec_signed.j0]
    cases b
    · simp only [dec_signed.j1, h]
      simp [w64 (show -9223372036854775808 ≤ n by omega) h]
    · simp [w64 (show -9223372036854775808 ≤ n by omega) h, w64 (show -9223372036854775808 ≤ -n by omega) (by omega)]
  · rw [if_neg h, if_pos (by omega)]
    simp only [dec_signed.j0, dec_signed.j1, h]
    cases b <;> simp [dec_over.f, dec_under.f]
theorem signed_hi {k : Nat} (hk : 1 < k) (b : Bool) (n : Int) : dec_signed.f k b true n = some (if b then 3 else 2, 0) := by
  obtain ⟨k, rfl, _⟩ := succ_of (show 0 < k by omega)
  obtain ⟨k, rfl, _⟩ := succ_of (show 0 < k by omega)
  unfold dec_signed.f
  simp only [dec_signed.j0, dec_signed.j1]
  cases b <;> simp [dec_over.f, dec_under.f]
theorem mk_big {b : Bool} {n : Int} (h : n > 9223372036854775807) : mk b n = (if b then 3 else 2, 0) := if_pos h

theorem e1m : ((1000000 : Nat) : Int) = 1000000 := by omega
/-! ### Mul -/
def mulS (a b : Int × Int) : Int × Int :=
  if a.1 = 1 ∨ b.1 = 1 then (1, 0) else if a.1 ≠ 0 ∨ b.1 ≠ 0 then great (sgn a * sgn b) else mk (decide (sgn a * sgn b < 0)) (ab a.2 * ab b.2 / 1000000)
theorem Nm.num {a : Int × Int} (h : Nm a) (h0 : a.1 = 0) : -9223372036854775807 ≤ a.2 ∧ a.2 ≤ 9223372036854775807 := by
  rcases h with h | h
  · exact h.2
  · omega
theorem mul_words {x y : Nat} (hx : x ≤ 9223372036854775807) (hy : y ≤ 9223372036854775807) : bits_Mul64.f x y = some (((x * y / 18446744073709551616 : Nat) : Int), ((x * y % 18446744073709551616 : Nat) : Int)) :=
  mul64_f x y (by omega) (by omega)
theorem dec_Mul_f {k : Nat} (hk : 40 < k) {ta va tb vb : Int} (ha : I64 va) (hb : I64 vb) : dec_Mul.f k ta va tb vb = some (mulS (nrm (ta, va)) (nrm (tb, vb))) := by
  obtain ⟨k, rfl, hk'⟩ := succ_of hk
  unfold dec_Mul.f
  rw [dec_right_f, dec_right_f]
  simp only [bs]
  have na := nrm_nm (t := ta) ha
  have nb := nrm_nm (t := tb) hb
  generalize nrm (ta, va) = a at *
  generalize nrm (tb, vb) = b at *
  rw [dec_none_f]
  simp only [bs]
  unfold mulS
  by_cases h1 : a.1 = 1 ∨ b.1 = 1
  · rw [if_pos (by simpa using h1), if_pos h1]; rfl
  · rw [if_neg (by simpa using h1), if_neg h1]
    have hsg : dec_Mul.j0 (k + 1) true a.1 a.2 b.1 b.2 = some (great (sgn a * sgn b)) := by
      simp only [dec_Mul.j0]
      rw [if_pos trivial, sign_f (by omega), sign_f (by omega)]
      simp only [bs]
      rw [w64_sgn_mul, great_f (sgn_mul_cases a b)]
      rfl
    by_cases h2 : a.1 = 0
    · by_cases h3 : b.1 = 0
      · rw [if_pos h2, if_neg (by omega)]
        have e : (b.1 != 0) = false := by simp [h3]
        rw [e]
        simp only [dec_Mul.j0]
        rw [if_neg (by simp), size_f (na.num h2), size_f (nb.num h3), sign_f (by omega), sign_f (by omega)]
        simp only [bs]
        obtain ⟨x, hx, hx'⟩ := ab_nat (na.num h2)
        obtain ⟨y, hy, hy'⟩ := ab_nat (nb.num h3)
        rw [hx, hy, mul_words hx' hy', w64_sgn_mul]
        simp only [bs]
        have hlt := Nat.mul_le_mul hx' hy'
        have e2 : ((x : Int) * (y : Int)) = ((x * y : Nat) : Int) := by simp
        rw [e2]
        generalize x * y = P at *
        by_cases h4 : ((P / 18446744073709551616 : Nat) : Int) ≥ 1000000
        · rw [if_pos h4, signed_hi (by omega), mk_big (by omega)]
          rfl
        · rw [if_neg h4]
          obtain ⟨z, hz⟩ := div64_f (P / 18446744073709551616) (P % 18446744073709551616) 1000000 k (by omega) (by omega) (by omega) (by omega)
          have e3 : P / 18446744073709551616 * 18446744073709551616 + P % 18446744073709551616 = P := by omega
          have hQ : P / 1000000 < 18446744073709551616 := by omega
          rw [e1m, e3] at hz
          rw [hz]
          have e4 : ((P : Nat) : Int) / 1000000 = ((P / 1000000 : Nat) : Int) := by omega
          rw [e4]
          generalize P / 1000000 = Q at *
          simp only [bs]
          rw [signed_f (by omega) _ (by omega) (by omega)]
          rfl
      · rw [if_pos h2, if_pos (by omega)]
        have e : (b.1 != 0) = true := by simp [h3]
        rw [e, hsg]
    · rw [if_neg h2, if_pos (by omega), hsg]
end Go.Proofs.YthilcidoacgdfaaGreatDoor.DecE
