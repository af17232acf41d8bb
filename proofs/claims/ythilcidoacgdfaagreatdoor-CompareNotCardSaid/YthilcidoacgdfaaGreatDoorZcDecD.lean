/- bits.Mul64 and bits.Div64, as the program's numbers: the whole product in two words; the quotient of two words by one. -/
import Derived.Test.YthilcidoacgdfaaGreatDoorZcDecB
import Derived.Laws.MathBits
import Derived.Laws.Bits64b
import Derived.Lib.ItoaNum
namespace Go.Proofs.YthilcidoacgdfaaGreatDoor.DecA
end Go.Proofs.YthilcidoacgdfaaGreatDoor.DecA
namespace Go.Proofs.YthilcidoacgdfaaGreatDoor.DecB
end Go.Proofs.YthilcidoacgdfaaGreatDoor.DecB
namespace Go.Proofs.YthilcidoacgdfaaGreatDoor.PF
end Go.Proofs.YthilcidoacgdfaaGreatDoor.PF
namespace Go.Proofs.YthilcidoacgdfaaGreatDoorW.PrintLast
end Go.Proofs.YthilcidoacgdfaaGreatDoorW.PrintLast
namespace Go.Proofs.YthilcidoacgdfaaGreatDoorW.PrintMore
end Go.Proofs.YthilcidoacgdfaaGreatDoorW.PrintMore
namespace Go.Proofs.YthilcidoacgdfaaGreatDoorW.PrintWords
end Go.Proofs.YthilcidoacgdfaaGreatDoorW.PrintWords
namespace Go.Proofs.YthilcidoacgdfaaGreatDoor.DecD
open Go.RowKit Go.Proofs.YthilcidoacgdfaaGreatDoor.PF Go.Proofs.YthilcidoacgdfaaGreatDoorW.PrintWords Go.Proofs.YthilcidoacgdfaaGreatDoorW.PrintLast Go.Proofs.YthilcidoacgdfaaGreatDoorW.PrintMore Go.Proofs.YthilcidoacgdfaaGreatDoor.DecA Go.Proofs.YthilcidoacgdfaaGreatDoor.DecB

theorem wrap_u64 (n : Int) : IntKind.u64.wrap n = n % 18446744073709551616 := by simp [IntKind.wrap, IntKind.signed, IntKind.bits]

theorem mul64_f (x y : Nat) (hx : x < 18446744073709551616) (hy : y < 18446744073709551616) :
    bits_Mul64.f x y = some (((x * y / 18446744073709551616 : Nat) : Int), ((x * y % 18446744073709551616 : Nat) : Int)) := by
  unfold bits_Mul64.f
  simp only [wrap_u64]
  rw [and_low32 (x : Int) (by omega) (by omega), and_low32 (y : Int) (by omega) (by omega), and_low32 (_ % 18446744073709551616) (by omega) (by omega)]
  rw [mul64_arith (x : Int) (y : Int) (by omega) (by omega) (by omega) (by omega)]
  simp

/-! ### Div64: one digit of 32 bits at a time -/
theorem ediv_of {n y q : Int} (hy : 0 < y) (h1 : q * y ≤ n) (h2 : n < q * y + y) : n / y = q := by
  have e : n = (n - q * y) + q * y := by omega
  rw [e, Int.add_mul_ediv_right _ _ (by omega), Int.ediv_eq_zero_of_lt (by omega) (by omega)]
  omega

/-- What the loop over the digit keeps: q is not below the digit; r is what is left beside the upper half. -/
structure Step (y v1 v0 u u1 q r : Int) : Prop where
  hv1 : 2147483648 ≤ v1
  hv1' : v1 < 4294967296
  hv0 : 0 ≤ v0
  hv0' : v0 < 4294967296
  hy : y = v1 * 4294967296 + v0
  hu : 0 ≤ u
  huy : u < y
  hu1 : 0 ≤ u1
  hu1' : u1 < 4294967296
  hq : 0 ≤ q
  hqb : q ≤ 4294967297
  hr : r = u - q * v1
  hr0 : 0 ≤ r
  hrb : r < 4294967296
  hup : u * 4294967296 + u1 < q * y + y

theorem Step.qy {y v1 v0 u u1 q r : Int} (h : Step y v1 v0 u u1 q r) : q * y = (q * v1) * 4294967296 + q * v0 := by rw [h.hy]; grind
theorem Step.big {y v1 v0 u u1 q r : Int} (h : Step y v1 v0 u u1 q r) (hq : 4294967296 ≤ q ∨ q * v0 > 4294967296 * r + u1) : u * 4294967296 + u1 < q * y := by
  have h1 := h.qy
  have h2 := h.hr
  have h3 := h.huy
  have h4 := h.hu1'
  rcases hq with hq | hq
  · have : 4294967296 * y ≤ q * y := Int.mul_le_mul_of_nonneg_right hq (by have := h.hu; omega)
    omega
  · generalize q * v1 = P at *
    generalize q * v0 = S at *
    omega
theorem Step.pos {y v1 v0 u u1 q r : Int} (h : Step y v1 v0 u u1 q r) (hq : u * 4294967296 + u1 < q * y) : 1 ≤ q := by
  apply Decidable.byContradiction; intro hn
  have : q = 0 := by have := h.hq; omega
  rw [this] at hq
  have := h.hu; have := h.hu1; omega
/-- The digit is found. -/
theorem Step.done {y v1 v0 u u1 q r : Int} (h : Step y v1 v0 u u1 q r) (hq : ¬ q * v0 > 4294967296 * r + u1) : (u * 4294967296 + u1) / y = q := by
  have h1 := h.qy
  have h2 := h.hr
  have h3 := h.hup
  refine ediv_of (by have := h.hu; have := h.huy; omega) ?_ h3
  generalize q * v1 = P at *
  generalize q * v0 = S at *
  omega
/-- One less: the digit is found, where what is left no longer fits. -/
theorem Step.last {y v1 v0 u u1 q r : Int} (h : Step y v1 v0 u u1 q r) (hq : u * 4294967296 + u1 < q * y) (hr : 4294967296 ≤ r + v1) : (u * 4294967296 + u1) / y = q - 1 := by
  have h1 := h.qy
  have h2 := h.hr
  have hpos := h.pos hq
  have e : (q - 1) * y = q * y - y := by rw [Int.sub_mul, Int.one_mul]
  have hs : (q - 1) * v0 ≤ 4294967296 * 4294967295 := Int.mul_le_mul (by have := h.hqb; omega) (by have := h.hv0'; omega) h.hv0 (by omega)
  rw [Int.sub_mul, Int.one_mul] at hs
  refine ediv_of (by have := h.hu; have := h.huy; omega) ?_ (by omega)
  rw [e]
  have h4 := h.hy
  have h5 := h.hu1
  generalize q * v1 = P at *
  generalize q * v0 = S at *
  omega
theorem Step.next {y v1 v0 u u1 q r : Int} (h : Step y v1 v0 u u1 q r) (hq : u * 4294967296 + u1 < q * y) (hr : ¬ 4294967296 ≤ r + v1) : Step y v1 v0 u u1 (q - 1) (r + v1) := by
  have hpos := h.pos hq
  have e : (q - 1) * y = q * y - y := by rw [Int.sub_mul, Int.one_mul]
  have e1 : (q - 1) * v1 = q * v1 - v1 := by rw [Int.sub_mul, Int.one_mul]
  exact ⟨h.hv1, h.hv1', h.hv0, h.hv0', h.hy, h.hu, h.huy, h.hu1, h.hu1', by omega, by have := h.hqb; omega, by rw [e1, h.hr]; omega, by have := h.hr0; have := h.hv1; omega, by omega, by omega⟩
theorem Step.first {y v1 v0 u u1 : Int} (hv1 : 2147483648 ≤ v1) (hv1' : v1 < 4294967296) (hv0 : 0 ≤ v0) (hv0' : v0 < 4294967296) (hy : y = v1 * 4294967296 + v0)
    (hu : 0 ≤ u) (huy : u < y) (hu1 : 0 ≤ u1) (hu1' : u1 < 4294967296) : Step y v1 v0 u u1 (u / v1) (u - u / v1 * v1) := by
  have h1 := Int.ediv_mul_add_emod u v1
  have h2 := Int.emod_nonneg u (show v1 ≠ 0 by omega)
  have h3 := Int.emod_lt_of_pos u (show 0 < v1 by omega)
  have hq0 : 0 ≤ u / v1 := Int.ediv_nonneg hu (by omega)
  have hqb : u / v1 ≤ 4294967297 := by
    have h4 : u / v1 < 4294967298 := by
      apply Int.ediv_lt_of_lt_mul (by omega)
      omega
    omega
  have hqy : (u / v1) * y = (u / v1 * v1) * 4294967296 + u / v1 * v0 := by rw [hy]; grind
  have hs : 0 ≤ u / v1 * v0 := Int.mul_nonneg hq0 hv0
  refine ⟨hv1, hv1', hv0, hv0', hy, hu, huy, hu1, hu1', hq0, hqb, rfl, by omega, by omega, ?_⟩
  rw [hqy]
  generalize u / v1 * v1 = P at *
  generalize u / v1 * v0 = S at *
  omega

theorem Step.fits {y v1 v0 u u1 q r : Int} (h : Step y v1 v0 u u1 q r) (hq : q < 4294967296) : IntKind.u64.wrap (q * v0) = q * v0 ∧ IntKind.u64.wrap (IntKind.u64.wrap (4294967296 * r) + u1) = 4294967296 * r + u1 := by
  have hs : 0 ≤ q * v0 := Int.mul_nonneg h.hq h.hv0
  have hs' : q * v0 ≤ 4294967295 * 4294967295 := Int.mul_le_mul (by omega) (by have := h.hv0'; omega) h.hv0 (by omega)
  have h1 := h.hr0; have h2 := h.hrb; have h3 := h.hu1; have h4 := h.hu1'
  exact ⟨u64 hs (by omega), by rw [u64 (x := 4294967296 * r) (by omega) (by omega), u64 (by omega) (by omega)]⟩

/-- The first loop. -/
theorem div_l0 {y v1 v0 u u1 : Int} (x8 x14 : Int) : ∀ (d : Nat) (q r : Int) (k : Nat), Step y v1 v0 u u1 q r → 4294967296 - r ≤ d * 2147483648 → 2 * d < k →
    ∃ k', bits_Div64.l0 k y x8 v1 v0 u u1 x14 q r = bits_Div64.j2 k' y x8 v1 v0 u u1 x14 ((u * 4294967296 + u1) / y) ∧ k ≤ k' + 2 * d := by
  intro d
  induction d with
  | zero => intro q r k h hd _; have := h.hrb; omega
  | succ d ih =>
    intro q r k h hd hk
    obtain ⟨k, rfl, _⟩ := succ_of (show 2 * d + 1 < k by omega)
    obtain ⟨k, rfl, _⟩ := succ_of (show 2 * d < k by omega)
    have h1 := h.hr0; have h2 := h.hrb; have h3 := h.hv1; have h4 := h.hv1'; have h5 := h.hqb; have h6 := h.hq
    have stop : ¬ q * v0 > 4294967296 * r + u1 → bits_Div64.j1 (k + 1) y x8 v1 v0 u u1 x14 q r false = bits_Div64.j2 k y x8 v1 v0 u u1 x14 ((u * 4294967296 + u1) / y) := by
      intro hn
      simp only [bits_Div64.j1]
      rw [if_neg (by simp), h.done hn]
    have go : u * 4294967296 + u1 < q * y → ∃ k', bits_Div64.j1 (k + 1) y x8 v1 v0 u u1 x14 q r true = bits_Div64.j2 k' y x8 v1 v0 u u1 x14 ((u * 4294967296 + u1) / y) ∧ k ≤ k' + 2 * d := by
      intro hn
      have hp := h.pos hn
      simp only [bits_Div64.j1]
      rw [if_pos trivial, u64 (x := r + v1) (by omega) (by omega), u64 (x := q - 1) (by omega) (by omega)]
      by_cases hr : 4294967296 ≤ r + v1
      · rw [if_pos (by omega), h.last hn hr]
        exact ⟨k, rfl, by omega⟩
      · rw [if_neg (by omega)]
        obtain ⟨k', e, hk'⟩ := ih (q - 1) (r + v1) k (h.next hn hr) (by omega) (by omega)
        exact ⟨k', e, by omega⟩
    rw [bits_Div64.l0]
    by_cases hb : q ≥ 4294967296
    · rw [if_pos hb]
      obtain ⟨k', e, hk'⟩ := go (h.big (.inl (by omega)))
      exact ⟨k', e, by omega⟩
    · rw [if_neg hb, (h.fits (by omega)).1, (h.fits (by omega)).2]
      by_cases hc : q * v0 > 4294967296 * r + u1
      · rw [decide_eq_true hc]
        obtain ⟨k', e, hk'⟩ := go (h.big (.inr hc))
        exact ⟨k', e, by omega⟩
      · rw [decide_eq_false hc]
        exact ⟨k, stop hc, by omega⟩
/-- The second one: the result's first word. -/
theorem div_l1 {y v1 v0 u u0 : Int} (x8 x15 x17 : Int) (h8 : 0 ≤ x8) : ∀ (d : Nat) (q r : Int) (k : Nat), Step y v1 v0 u u0 q r → 4294967296 - r ≤ d * 2147483648 → 2 * d < k →
    ∃ z, bits_Div64.l1 k y x8 v1 v0 u0 x15 r x17 q = some (IntKind.u64.wrap (IntKind.u64.wrap (x15 * 4294967296) + (u * 4294967296 + u0) / y), z) := by
  intro d
  induction d with
  | zero => intro q r k h hd _; have := h.hrb; omega
  | succ d ih =>
    intro q r k h hd hk
    obtain ⟨k, rfl, _⟩ := succ_of (show 2 * d + 1 < k by omega)
    obtain ⟨k, rfl, _⟩ := succ_of (show 2 * d < k by omega)
    have h1 := h.hr0; have h2 := h.hrb; have h3 := h.hv1; have h4 := h.hv1'; have h5 := h.hqb; have h6 := h.hq
    have stop : ¬ q * v0 > 4294967296 * r + u0 → ∃ z, bits_Div64.j4 (k + 1) y x8 v1 v0 u0 x15 r x17 q false = some (IntKind.u64.wrap (IntKind.u64.wrap (x15 * 4294967296) + (u * 4294967296 + u0) / y), z) := by
      intro hn
      simp only [bits_Div64.j4]
      rw [if_neg (by simp), if_pos h8, h.done hn]
      exact ⟨_, rfl⟩
    have go : u * 4294967296 + u0 < q * y → ∃ z, bits_Div64.j4 (k + 1) y x8 v1 v0 u0 x15 r x17 q true = some (IntKind.u64.wrap (IntKind.u64.wrap (x15 * 4294967296) + (u * 4294967296 + u0) / y), z) := by
      intro hn
      have hp := h.pos hn
      simp only [bits_Div64.j4]
      rw [if_pos trivial, u64 (x := r + v1) (by omega) (by omega), u64 (x := q - 1) (by omega) (by omega)]
      by_cases hr : 4294967296 ≤ r + v1
      · rw [if_pos (by omega), if_pos h8, h.last hn hr]
        exact ⟨_, rfl⟩
      · rw [if_neg (by omega)]
        exact ih (q - 1) (r + v1) k (h.next hn hr) (by omega) (by omega)
    rw [bits_Div64.l1]
    by_cases hb : q ≥ 4294967296
    · rw [if_pos hb]
      exact go (h.big (.inl (by omega)))
    · rw [if_neg hb, (h.fits (by omega)).1, (h.fits (by omega)).2]
      by_cases hc : q * v0 > 4294967296 * r + u0
      · rw [decide_eq_true hc]
        exact go (h.big (.inr hc))
      · rw [decide_eq_false hc]
        exact stop hc
theorem ediv_lt_of {n y b : Int} (hy : 0 < y) (h : n < b * y) : n / y < b := Int.ediv_lt_of_lt_mul hy h

/-- Both digits. -/
theorem div_two {y v1 v0 u u1 u0 : Int} (x8 : Int) (h8 : 0 ≤ x8) (k : Nat) (hk : 20 < k) (hv1 : 2147483648 ≤ v1) (hv1' : v1 < 4294967296) (hv0 : 0 ≤ v0) (hv0' : v0 < 4294967296) (hy : y = v1 * 4294967296 + v0)
    (hu : 0 ≤ u) (huy : u < y) (hu1 : 0 ≤ u1) (hu1' : u1 < 4294967296) (hu0 : 0 ≤ u0) (hu0' : u0 < 4294967296) :
    ∃ z, bits_Div64.l0 k y x8 v1 v0 u u1 u0 (u / v1) (u - u / v1 * v1) = some (((u * 4294967296 + u1) * 4294967296 + u0) / y, z) := by
  obtain ⟨k', h1, h2⟩ := div_l0 x8 u0 2 (u / v1) (u - u / v1 * v1) k (Step.first hv1 hv1' hv0 hv0' hy hu huy hu1 hu1') (by have := (Step.first hv1 hv1' hv0 hv0' hy hu huy hu1 hu1').hr0; omega) (by omega)
  rw [h1]
  obtain ⟨k', rfl, _⟩ := succ_of (show 10 < k' by omega)
  have hy0 : 0 < y := by omega
  have hN : 0 ≤ u * 4294967296 + u1 := by omega
  have hdm := Int.ediv_mul_add_emod (u * 4294967296 + u1) y
  have hm0 := Int.emod_nonneg (u * 4294967296 + u1) (show y ≠ 0 by omega)
  have hm1 := Int.emod_lt_of_pos (u * 4294967296 + u1) hy0
  have hq0 : 0 ≤ (u * 4294967296 + u1) / y := Int.ediv_nonneg hN (by omega)
  have hq1 : (u * 4294967296 + u1) / y < 4294967296 := ediv_lt_of hy0 (by omega)
  simp only [bits_Div64.j2]
  rw [if_neg (by omega)]
  have e : IntKind.u64.wrap (IntKind.u64.wrap (IntKind.u64.wrap (u * 4294967296) + u1) - IntKind.u64.wrap ((u * 4294967296 + u1) / y * y)) = (u * 4294967296 + u1) % y := by
    simp only [wrap_u64]
    generalize (u * 4294967296 + u1) / y * y = Z at *
    generalize (u * 4294967296 + u1) % y = m at *
    omega
  rw [e]
  generalize hqq : (u * 4294967296 + u1) / y = Q at *
  generalize hmm : (u * 4294967296 + u1) % y = m at *
  have hf := Step.first hv1 hv1' hv0 hv0' hy hm0 hm1 hu0 hu0'
  have e1 : IntKind.u64.wrap (Int.tdiv m v1) = m / v1 := by
    rw [Int.tdiv_eq_ediv_of_nonneg hm0]
    exact u64 hf.hq (by have := hf.hqb; omega)
  have e2 : IntKind.u64.wrap (m - IntKind.u64.wrap (IntKind.u64.wrap (Int.tdiv m v1) * v1)) = m - m / v1 * v1 := by
    rw [e1]
    have h3 := hf.hr0; have h4 := hf.hrb
    have h5 := Int.mul_nonneg hf.hq (show 0 ≤ v1 by omega)
    rw [u64 (x := m / v1 * v1) h5 (by omega), u64 h3 (by omega)]
  rw [e2, e1]
  obtain ⟨z, h6⟩ := div_l1 (y := y) (v1 := v1) (v0 := v0) (u := m) (u0 := u0) x8 Q m h8 2 _ _ k' hf (by have := hf.hr0; omega) (by omega)
  refine ⟨z, ?_⟩
  rw [h6]
  have hd1 : 0 ≤ (m * 4294967296 + u0) / y := Int.ediv_nonneg (by omega) (by omega)
  have hd2 : (m * 4294967296 + u0) / y < 4294967296 := ediv_lt_of hy0 (by omega)
  have hd3 : ((u * 4294967296 + u1) * 4294967296 + u0) / y = Q * 4294967296 + (m * 4294967296 + u0) / y := by
    rw [← hdm, show (Q * y + m) * 4294967296 + u0 = (m * 4294967296 + u0) + (Q * 4294967296) * y by grind, Int.add_mul_ediv_right _ _ (by omega)]
    omega
  rw [hd3, u64 (x := Q * 4294967296) (by omega) (by omega), u64 (by omega) (by omega)]

theorem bitLen_bounds (x : Nat) (h0 : x ≠ 0) (h : x < 18446744073709551616) : 1 ≤ Lib.bitLen x ∧ Lib.bitLen x ≤ 64 ∧ 2 ^ (Lib.bitLen x - 1) ≤ x ∧ x < 2 ^ Lib.bitLen x := by
  have := Lib.bitLenAux_bounds 64 x (by simpa using h) h0
  refine ⟨this.1, ?_, this.2.1, this.2.2⟩
  apply Decidable.byContradiction
  intro hn
  have h1 : 2 ^ 64 ≤ 2 ^ (Lib.bitLen x - 1) := Nat.pow_le_pow_right (by omega) (by omega)
  have h2 := this.2.1
  unfold Lib.bitLen at h1 hn
  omega
theorem shl_nat (x s : Nat) (hs : s ≤ 64) (h : x * 2 ^ s < 18446744073709551616) : shl .u64 (x : Int) (s : Int) = ((x * 2 ^ s : Nat) : Int) := by
  unfold shl
  have e : min (s : Int).toNat IntKind.u64.bits = s := by simp [IntKind.bits]; omega
  rw [e, u64]
  · simp
  · exact Int.mul_nonneg (by omega) (Int.pow_nonneg (by omega))
  · have : ((x * 2 ^ s : Nat) : Int) < 18446744073709551616 := by omega
    simp at this; omega
theorem shl_mod (x s : Nat) (hs : s ≤ 64) : shl .u64 (x : Int) (s : Int) = ((x * 2 ^ s % 18446744073709551616 : Nat) : Int) := by
  unfold shl
  have e : min (s : Int).toNat IntKind.u64.bits = s := by simp [IntKind.bits]; omega
  rw [e, wrap_u64]
  simp
theorem shr_nat (x s : Nat) (hs : s ≤ 64) : shr .u64 (x : Int) (s : Int) = ((x / 2 ^ s : Nat) : Int) := by
  unfold shr
  have e : min (s : Int).toNat IntKind.u64.bits = s := by simp [IntKind.bits]; omega
  rw [e]
  simp

/-- bits.Div64: the quotient. -/
theorem div64_f (hi lo y k : Nat) (hlo : lo < 18446744073709551616) (hy : y < 18446744073709551616) (hhy : hi < y) (hk : 30 < k) :
    ∃ z, bits_Div64.f k hi lo y = some ((((hi * 18446744073709551616 + lo) / y : Nat) : Int), z) := by
  unfold bits_Div64.f
  rw [if_neg (by omega), if_neg (by omega)]
  by_cases h0 : hi = 0
  · subst h0
    rw [if_pos (by rfl), Int.tdiv_eq_ediv_of_nonneg (by omega)]
    refine ⟨Int.tmod lo y, ?_⟩
    rw [Nat.zero_mul, Nat.zero_add]
    have hle : lo / y ≤ lo := Nat.div_le_self _ _
    have e : (lo : Int) / (y : Int) = ((lo / y : Nat) : Int) := by simp
    rw [e]
    generalize lo / y = D at *
    rw [u64 (by omega) (by omega)]
  · rw [if_neg (by omega)]
    have hb := bitLen_bounds y (by omega) hy
    unfold bits_LeadingZeros64.f
    rw [if_pos (by omega), Int.toNat_natCast]
    simp only [Option.bind_some]
    generalize Lib.bitLen y = b at *
    obtain ⟨hb1, hb2, hb3, hb4⟩ := hb
    have e1 : (64 - (b : Int)) = ((64 - b : Nat) : Int) := by omega
    rw [e1, u64 (x := ((64 - b : Nat) : Int)) (by omega) (by omega)]
    have e2 : (64 - ((64 - b : Nat) : Int)) = (b : Int) := by omega
    rw [e2, u64 (x := (b : Int)) (by omega) (by omega), if_pos (by omega), if_pos (by omega)]
    have hp : 2 ^ (64 - b) * 2 ^ b = 18446744073709551616 := by rw [← Nat.pow_add, show 64 - b + b = 64 by omega]
    have hp0 : 0 < 2 ^ (64 - b) := Nat.pow_pos (by omega)
    have hpb : 0 < 2 ^ b := Nat.pow_pos (by omega)
    have hyp : y * 2 ^ (64 - b) < 18446744073709551616 := by
      rw [← hp, Nat.mul_comm (2 ^ (64 - b)) (2 ^ b)]
      exact Nat.mul_lt_mul_of_pos_right hb4 hp0
    have hyl : 9223372036854775808 ≤ y * 2 ^ (64 - b) := by
      have : 2 ^ (b - 1) * 2 ^ (64 - b) ≤ y * 2 ^ (64 - b) := Nat.mul_le_mul_right _ hb3
      rw [← Nat.pow_add, show b - 1 + (64 - b) = 63 by omega] at this
      omega
    have hhp : hi * 2 ^ (64 - b) < y * 2 ^ (64 - b) := Nat.mul_lt_mul_of_pos_right hhy hp0
    rw [shl_nat y (64 - b) (by omega) hyp, shl_nat hi (64 - b) (by omega) (by omega), shl_mod lo (64 - b) (by omega), shr_nat lo b (by omega)]
    have hsplit : hi * 2 ^ (64 - b) + lo / 2 ^ b < 18446744073709551616 ∧ bits .or .u64 ((hi * 2 ^ (64 - b) : Nat) : Int) ((lo / 2 ^ b : Nat) : Int) = ((hi * 2 ^ (64 - b) + lo / 2 ^ b : Nat) : Int) ∧ (hi * 2 ^ (64 - b) + lo / 2 ^ b) * 18446744073709551616 + lo * 2 ^ (64 - b) % 18446744073709551616 = (hi * 18446744073709551616 + lo) * 2 ^ (64 - b) ∧ hi * 2 ^ (64 - b) + lo / 2 ^ b < y * 2 ^ (64 - b) := by
      have hlt : lo / 2 ^ b < 2 ^ (64 - b) := (Nat.div_lt_iff_lt_mul hpb).2 (by rw [hp]; exact hlo)
      have hle : hi * 2 ^ (64 - b) + 2 ^ (64 - b) ≤ y * 2 ^ (64 - b) := by
        have : (hi + 1) * 2 ^ (64 - b) ≤ y * 2 ^ (64 - b) := Nat.mul_le_mul_right _ (by omega)
        rw [Nat.add_mul, Nat.one_mul] at this
        exact this
      have hor : hi * 2 ^ (64 - b) ||| lo / 2 ^ b = hi * 2 ^ (64 - b) + lo / 2 ^ b := by
        rw [Nat.mul_comm hi, Nat.two_pow_add_eq_or_of_lt hlt]
      refine ⟨by omega, ?_, ?_, by omega⟩
      · rw [bits_or_u64_nat _ _ (by omega) (by omega), hor]
      · have e3 : lo * 2 ^ (64 - b) / 18446744073709551616 = lo / 2 ^ b := by
          rw [← hp, Nat.mul_comm lo, Nat.mul_div_mul_left _ _ hp0]
        have e4 := Nat.div_add_mod (lo * 2 ^ (64 - b)) 18446744073709551616
        rw [e3] at e4
        generalize lo * 2 ^ (64 - b) % 18446744073709551616 = m at *
        rw [Nat.add_mul (hi * 18446744073709551616), ← e4]
        grind
    obtain ⟨hs1, hs2, hs3, hs4⟩ := hsplit
    rw [hs2]
    have e5 : (y : Int) * 1 = y := by omega
    generalize hY : y * 2 ^ (64 - b) = Y at *
    generalize hU : hi * 2 ^ (64 - b) + lo / 2 ^ b = U at *
    generalize hL : lo * 2 ^ (64 - b) % 18446744073709551616 = L at *
    have hLb : L < 18446744073709551616 := by rw [← hL]; exact Nat.mod_lt _ (by omega)
    rw [and_low32 (Y : Int) (by omega) (by omega), and_low32 (L : Int) (by omega) (by omega)]
    rw [if_neg (by omega)]
    have hq : 0 ≤ (U : Int) / ((Y : Int) / 4294967296) := Int.ediv_nonneg (by omega) (by omega)
    have hf := Step.first (y := Y) (v1 := (Y : Int) / 4294967296) (v0 := (Y : Int) % 4294967296) (u := U) (u1 := (L : Int) / 4294967296) (by omega) (by omega) (by omega) (by omega) (by omega) (by omega) (by omega) (by omega) (by omega)
    have e6 : IntKind.u64.wrap (Int.tdiv (U : Int) ((Y : Int) / 4294967296)) = (U : Int) / ((Y : Int) / 4294967296) := by
      rw [Int.tdiv_eq_ediv_of_nonneg (by omega)]
      exact u64 hf.hq (by have := hf.hqb; omega)
    have e7 : IntKind.u64.wrap ((U : Int) - IntKind.u64.wrap (IntKind.u64.wrap (Int.tdiv (U : Int) ((Y : Int) / 4294967296)) * ((Y : Int) / 4294967296))) = (U : Int) - (U : Int) / ((Y : Int) / 4294967296) * ((Y : Int) / 4294967296) := by
      rw [e6]
      have h3 := hf.hr0; have h4 := hf.hrb
      have h5 := Int.mul_nonneg hf.hq (show 0 ≤ (Y : Int) / 4294967296 by omega)
      rw [u64 (x := (U : Int) / ((Y : Int) / 4294967296) * ((Y : Int) / 4294967296)) h5 (by omega), u64 h3 (by omega)]
    rw [e7, e6]
    obtain ⟨z, hz⟩ := div_two (y := Y) (v1 := (Y : Int) / 4294967296) (v0 := (Y : Int) % 4294967296) (u := U) (u1 := (L : Int) / 4294967296) (u0 := (L : Int) % 4294967296) ((64 - b : Nat) : Int) (by omega) k (by omega) (by omega) (by omega) (by omega) (by omega) (by omega) (by omega) (by omega) (by omega) (by omega) (by omega) (by omega)
    refine ⟨z, ?_⟩
    rw [hz]
    have e8 : ((U : Int) * 4294967296 + (L : Int) / 4294967296) * 4294967296 + (L : Int) % 4294967296 = ((U * 18446744073709551616 + L : Nat) : Int) := by omega
    have e9 : (hi * 18446744073709551616 + lo) * 2 ^ (64 - b) / Y = (hi * 18446744073709551616 + lo) / y := by
      rw [← hY, Nat.mul_div_mul_right _ _ hp0]
    rw [e8, hs3, ← e9]
    simp
end Go.Proofs.YthilcidoacgdfaaGreatDoor.DecD
