/- Comparisons, roundings, whole numbers: closed forms of the program's and of the reference's functions; and the nine laws as plain statements. -/
import Derived.Test.YticpobgkbapdmaaCdDecF
namespace Go.Proofs.Yticpobgkbapdmaa.DecA
end Go.Proofs.Yticpobgkbapdmaa.DecA
namespace Go.Proofs.Yticpobgkbapdmaa.DecB
end Go.Proofs.Yticpobgkbapdmaa.DecB
namespace Go.Proofs.Yticpobgkbapdmaa.DecC
end Go.Proofs.Yticpobgkbapdmaa.DecC
namespace Go.Proofs.Yticpobgkbapdmaa.DecD
end Go.Proofs.Yticpobgkbapdmaa.DecD
namespace Go.Proofs.Yticpobgkbapdmaa.DecE
end Go.Proofs.Yticpobgkbapdmaa.DecE
namespace Go.Proofs.Yticpobgkbapdmaa.DecF
end Go.Proofs.Yticpobgkbapdmaa.DecF
namespace Go.Proofs.Yticpobgkbapdmaa.PD
end Go.Proofs.Yticpobgkbapdmaa.PD
namespace Go.Proofs.YticpobgkbapdmaaW.PrintLast
end Go.Proofs.YticpobgkbapdmaaW.PrintLast
namespace Go.Proofs.YticpobgkbapdmaaW.PrintMore
end Go.Proofs.YticpobgkbapdmaaW.PrintMore
namespace Go.Proofs.YticpobgkbapdmaaW.PrintWords
end Go.Proofs.YticpobgkbapdmaaW.PrintWords
namespace Go.Proofs.Yticpobgkbapdmaa.DecG
set_option linter.unusedSimpArgs false
set_option linter.unusedVariables false
open Go.RowKit Go.Proofs.Yticpobgkbapdmaa.PD Go.Proofs.YticpobgkbapdmaaW.PrintWords Go.Proofs.YticpobgkbapdmaaW.PrintLast Go.Proofs.YticpobgkbapdmaaW.PrintMore Go.Proofs.Yticpobgkbapdmaa.DecA Go.Proofs.Yticpobgkbapdmaa.DecB Go.Proofs.Yticpobgkbapdmaa.DecC Go.Proofs.Yticpobgkbapdmaa.DecD Go.Proofs.Yticpobgkbapdmaa.DecE Go.Proofs.Yticpobgkbapdmaa.DecF

/-! ### Cmp -/
/-! ### whole numbers -/
theorem tdiv_tmod (v : Int) : (0 ≤ v → Int.tdiv v 1000000 = v / 1000000 ∧ Int.tmod v 1000000 = v % 1000000) ∧ (v < 0 → Int.tdiv v 1000000 = -((-v) / 1000000) ∧ Int.tmod v 1000000 = -((-v) % 1000000)) := by
  constructor
  · intro h
    exact ⟨Int.tdiv_eq_ediv_of_nonneg h, Int.tmod_eq_emod_of_nonneg h⟩
  · intro h
    have e : v = -(-v) := by omega
    constructor
    · conv => lhs; rw [e, Int.neg_tdiv, Int.tdiv_eq_ediv_of_nonneg (by omega)]
    · conv => lhs; rw [e, Int.neg_tmod, Int.tmod_eq_emod_of_nonneg (by omega)]
def wholeS (a : Int × Int) : Int × Bool := if a.1 = 0 then (if Int.tmod a.2 1000000 = 0 then (a.2 / 1000000, true) else (0, false)) else (0, false)
theorem whole_div {v : Int} (h : Int.tmod v 1000000 = 0) : Int.tdiv v 1000000 = v / 1000000 := by
  have := tdiv_tmod v
  by_cases c : 0 ≤ v
  · exact (this.1 c).1
  · have h2 := this.2 (by omega)
    omega
theorem dec_Whole_f {t v : Int} (h : I64 v) : dec_Whole.f t v = some (wholeS (nrm (t, v))) := by
  unfold dec_Whole.f
  rw [dec_right_f]
  simp only [bs]
  have na := nrm_nm (t := t) h
  generalize nrm (t, v) = a at *
  unfold wholeS
  by_cases h0 : a.1 = 0
  · have := na.num h0
    rw [if_pos h0, if_pos h0]
    by_cases h1 : Int.tmod a.2 1000000 = 0
    · rw [if_pos h1, if_pos h1, whole_div h1, w64 (by omega) (by omega)]
    · rw [if_neg h1, if_neg h1]
  · rw [if_neg h0, if_neg h0]
theorem ref_Whole_f {t v : Int} (h : I64 v) : breviaryref03_Whole.f t v = some (wholeS (nrm (t, v))) := by
  unfold breviaryref03_Whole.f
  rw [ref_none_f]
  simp only [bs]
  unfold wholeS
  by_cases h1 : (nrm (t, v)).1 = 1 ∨ (nrm (t, v)).1 = 1
  · rw [if_pos (by simpa using h1), if_neg (by omega)]
  · rw [if_neg (by simpa using h1)]
    have na := nrm_nm (t := t) h
    obtain ⟨e1, _⟩ := ref_none_not h1
    rw [e1] at na h1 ⊢
    simp only at h1 ⊢
    by_cases h0 : t = 0
    · have := na.num h0
      simp only at this
      rw [if_pos h0, if_pos h0]
      by_cases h1 : Int.tmod v 1000000 = 0
      · rw [if_pos h1, if_pos h1, whole_div h1, w64 (by omega) (by omega)]
      · rw [if_neg h1, if_neg h1]
    · rw [if_neg h0, if_neg h0]

theorem dec_times_f {k : Nat} (hk : 40 < k) {n : Int} (h : -9223372036854775807 ≤ n ∧ n ≤ 9223372036854775807) : dec_times.f k n = some (addN (n * 1000000)) := by
  unfold dec_times.f
  rw [size_f h]
  simp only [bs]
  obtain ⟨x, hx, hx'⟩ := ab_nat h
  obtain ⟨U, hU⟩ : ∃ U : Nat, U = 1000000 := ⟨_, rfl⟩
  have eU : (1000000 : Int) = (U : Int) := by omega
  rw [hx, eU, mul_words hx' (by omega)]
  have hP : (if decide (n < 0) = true then -((x * U : Nat) : Int) else ((x * U : Nat) : Int)) = n * U := by
    unfold ab at hx
    rw [Int.natCast_mul, ← hx]
    by_cases c : n < 0
    · rw [if_pos c, if_pos (decide_eq_true c)]; rw [Int.neg_mul]; omega
    · rw [if_neg c, if_neg (by simpa using c)]
  rw [← mk_is (by omega) hP]
  generalize x * U = P at *
  have e5 : P = P / 18446744073709551616 * 18446744073709551616 + P % 18446744073709551616 := by omega
  have hm : P % 18446744073709551616 < 18446744073709551616 := by omega
  generalize P / 18446744073709551616 = H at *
  generalize P % 18446744073709551616 = M at *
  simp only [bs]
  by_cases c : H = 0
  · have e6 : ((H : Int) != 0) = false := by simp [c]
    have e7 : P = M := by omega
    rw [e6, signed_f (by omega) _ (by omega) (by omega), e7]
    rfl
  · have e6 : ((H : Int) != 0) = true := by simp [c]
    rw [e6, signed_hi (by omega), mk_big (by omega)]
    rfl
theorem prod_dg' {k : Nat} (hk : 4000 < k) {x y : Nat} (hx : x < 10 ^ 40) (hy : y < 10 ^ 40) : breviaryref03_product.f k (dg x) (dg y) = some (dg (x * y)) := by
  rw [product_f (dg_le_length 40 x hx) (dg_le_length 40 y hy) hk (dg_dig x) (dg_dig y), val_dg, val_dg]
  congr 2
theorem mul_lt60 {x U : Nat} (hx : x ≤ 9223372036854775808) (hU : U ≤ 1000000) : x * U < 10 ^ 60 := by
  have : x * U ≤ 9223372036854775808 * 1000000 := Nat.mul_le_mul hx hU
  exact Nat.lt_of_le_of_lt this (by decide)
theorem made_times {k : Nat} (hk : 2000 < k) {n : Int} {x U : Nat} (b : Bool) (hx : x ≤ 9223372036854775808) (hU : U = 1000000) (h : (if b = true then -(x : Int) else x) = n) :
    breviaryref03_Made.f k b (dg (x * U)) = some (addN (n * 1000000)) := by
  rw [made_dg hk _ _ (mul_lt60 hx (by omega))]
  congr 1
  refine mk_is (by omega) ?_
  have eU : (1000000 : Int) = (U : Int) := by omega
  rw [eU, Int.natCast_mul, ← h]
  cases b
  · simp
  · simp [Int.neg_mul]
/-! ### Floor, Ceil, Round -/
def floorS (a : Int × Int) : Int × Int := if a.1 = 0 then addN (a.2 / 1000000 * 1000000) else a
def roundS (a : Int × Int) : Int × Int := if a.1 = 0 then addN ((a.2 + 500000) / 1000000 * 1000000) else a
theorem dec_parts_f (t v : Int) (h : -9223372036854775807 ≤ v ∧ v ≤ 9223372036854775807) : dec_parts.f t v = some (v / 1000000, v % 1000000) := by
  unfold dec_parts.f
  have := tdiv_tmod v
  by_cases c : 0 ≤ v
  · have h1 := this.1 c
    rw [h1.1, h1.2, if_neg (by omega), w64 (by omega) (by omega)]
  · have h1 := this.2 (by omega)
    rw [h1.1, h1.2]
    by_cases d : -((-v) % 1000000) < 0
    · rw [if_pos d, w64 (x := -(-v / 1000000)) (by omega) (by omega), w64 (by omega) (by omega), w64 (by omega) (by omega)]
      congr 2 <;> omega
    · rw [if_neg d, w64 (by omega) (by omega)]
      congr 2 <;> omega
theorem dec_Floor_f {k : Nat} (hk : 40 < k) {t v : Int} (h : I64 v) : dec_Floor.f k t v = some (floorS (nrm (t, v))) := by
  unfold dec_Floor.f
  rw [dec_right_f]
  simp only [bs]
  have na := nrm_nm (t := t) h
  generalize nrm (t, v) = a at *
  unfold floorS
  by_cases h0 : a.1 = 0
  · have := na.num h0
    rw [if_pos h0, if_pos h0, dec_parts_f _ _ this]
    simp only [bs]
    rw [dec_times_f hk (by omega)]
    rfl
  · rw [if_neg h0, if_neg h0]
theorem dec_Round_f {k : Nat} (hk : 40 < k) {t v : Int} (h : I64 v) : dec_Round.f k t v = some (roundS (nrm (t, v))) := by
  unfold dec_Round.f
  rw [dec_right_f]
  simp only [bs]
  have na := nrm_nm (t := t) h
  generalize nrm (t, v) = a at *
  unfold roundS
  by_cases h0 : a.1 = 0
  · have := na.num h0
    rw [if_pos h0, if_pos h0, dec_parts_f _ _ this]
    simp only [bs]
    by_cases c : a.2 % 1000000 ≥ 500000
    · rw [if_pos c, w64 (by omega) (by omega), dec_times_f hk (by omega)]
      simp only [bs]
      rw [show (a.2 + 500000) / 1000000 = a.2 / 1000000 + 1 by omega]
    · rw [if_neg c, dec_times_f hk (by omega)]
      simp only [bs]
      rw [show (a.2 + 500000) / 1000000 = a.2 / 1000000 by omega]
  · rw [if_neg h0, if_neg h0]
theorem dg_one : dg 1 = [1] := by rw [dg_pos 1 (by omega)]; rw [show 1 / 10 = 0 by omega, dg_zero]; rfl
theorem dg_len_pos (n : Nat) : decide (((dg n).length : Int) > 0) = decide (n ≠ 0) := by
  by_cases h : n = 0
  · subst h; rw [dg_zero]; rfl
  · rw [dg_pos n h]; simp [h]
theorem ref_Floor_f {k : Nat} (hk : 6000 < k) {t v : Int} (h : I64 v) : breviaryref03_Floor.f k t v = some (floorS (nrm (t, v))) := by
  obtain ⟨k, rfl, hk'⟩ := succ_of hk
  unfold breviaryref03_Floor.f
  rw [ref_none_f]
  simp only [bs]
  have na := nrm_nm (t := t) h
  unfold floorS
  by_cases h1 : (nrm (t, v)).1 = 1 ∨ (nrm (t, v)).1 = 1
  · rw [if_pos (by simpa using h1), if_neg (by omega)]
    congr 1
    exact Prod.ext (by simp; omega) (by rcases na with n | n; omega; exact n.2.symm)
  · rw [if_neg (by simpa using h1)]
    obtain ⟨e1, _⟩ := ref_none_not h1
    rw [e1] at na h1 ⊢
    simp only at h1 ⊢
    by_cases h0 : t = 0
    · have na' := na.num h0
      simp only at na'
      rw [if_pos h0, if_pos h0]
      obtain ⟨U, hU⟩ : ∃ U : Nat, U = 1000000 := ⟨_, rfl⟩
      obtain ⟨x, hx, hx'⟩ := ab_nat na'
      rw [ref_Size_f (by omega) na', hx, Int.toNat_natCast, unit_f (by omega), ← hU]
      simp only [bs]
      rw [quot_dg (by omega) (lt40 (by omega)) (by omega) (by omega)]
      have hq : x / U ≤ x := Nat.div_le_self _ _
      have hdm := Nat.div_add_mod x U
      have hml := Nat.mod_lt x (show 0 < U by omega)
      have hq2 : U * (x / U) = (x / U) * U := Nat.mul_comm _ _
      have hxv : (v < 0 ∧ (x : Int) = -v) ∨ (¬ v < 0 ∧ (x : Int) = v) := by unfold ab at hx; split at hx <;> omega
      rw [hU] at hdm hml hq2
      have hx10 : x / U = x / 1000000 ∧ x % U = x % 1000000 := by rw [hU]; exact ⟨rfl, rfl⟩
      have hfl : (v < 0 → v / 1000000 = -((x / 1000000 : Nat) : Int) - (if x % 1000000 = 0 then 0 else 1)) ∧ (¬ v < 0 → v / 1000000 = ((x / 1000000 : Nat) : Int)) := by
        constructor
        · intro hv; split <;> omega
        · intro hv; omega
      rw [← hx10.1, ← hx10.2] at hfl
      have hqb : x / U ≤ 9223372036854775807 := by omega
      generalize x / U = Q at *
      generalize x % U = R at *
      simp only [bs]
      have hj : ∀ b : Bool, (b = true → R ≠ 0 ∧ v < 0) → (b = false → R = 0 ∨ ¬ v < 0) → breviaryref03_Floor.j0 (k + 1) (dg Q) b t v = some (addN (v / 1000000 * 1000000)) := by
        intro b hb1 hb2
        simp only [breviaryref03_Floor.j0]
        cases b
        · rw [if_neg (by simp), unit_f (by omega), ← hU]
          simp only [bs]
          rw [prod_dg' (by omega) (lt40 (by omega)) (lt40 (by omega))]
          simp only [bs]
          rw [made_times (by omega) (decide (v < 0)) (by omega) hU (n := v / 1000000)]
          · rfl
          · by_cases c : v < 0
            · have := hb2 rfl
              rw [if_pos (decide_eq_true c), hfl.1 c, if_pos (by omega)]; omega
            · rw [if_neg (by simpa using c), hfl.2 c]
        · have hc := hb1 rfl
          rw [if_pos rfl, ← dg_one, plus_dg (by omega) (lt40 (by omega)) (lt40 (by omega)), unit_f (by omega), ← hU]
          simp only [bs]
          rw [prod_dg' (by omega) (lt40 (by omega)) (lt40 (by omega))]
          simp only [bs]
          rw [made_times (by omega) (decide (v < 0)) (by omega) hU (n := v / 1000000)]
          · rfl
          · rw [if_pos (decide_eq_true hc.2), hfl.1 hc.2, if_neg hc.1]; omega
      by_cases c : v < 0
      · rw [if_pos c, dg_len_pos]
        exact hj _ (fun h => ⟨of_decide_eq_true h, c⟩) (fun h => .inl (by simpa using h))
      · rw [if_neg c]
        exact hj _ (fun h => by cases h) (fun _ => .inr c)
    · rw [if_neg h0, if_neg h0]
theorem ref_Round_f {k : Nat} (hk : 6000 < k) {t v : Int} (h : I64 v) : breviaryref03_Round.f k t v = some (roundS (nrm (t, v))) := by
  obtain ⟨k, rfl, hk'⟩ := succ_of hk
  unfold breviaryref03_Round.f
  rw [ref_none_f]
  simp only [bs]
  have na := nrm_nm (t := t) h
  unfold roundS
  by_cases h1 : (nrm (t, v)).1 = 1 ∨ (nrm (t, v)).1 = 1
  · rw [if_pos (by simpa using h1), if_neg (by omega)]
    congr 1
    exact Prod.ext (by simp; omega) (by rcases na with n | n; omega; exact n.2.symm)
  · rw [if_neg (by simpa using h1)]
    obtain ⟨e1, _⟩ := ref_none_not h1
    rw [e1] at na h1 ⊢
    simp only at h1 ⊢
    by_cases h0 : t = 0
    · have na' := na.num h0
      simp only at na'
      rw [if_pos h0, if_pos h0]
      obtain ⟨U, hU⟩ : ∃ U : Nat, U = 1000000 := ⟨_, rfl⟩
      obtain ⟨x, hx, hx'⟩ := ab_nat na'
      rw [ref_Size_f (by omega) na', hx, Int.toNat_natCast, unit_f (by omega), ← hU]
      simp only [bs]
      rw [quot_dg (by omega) (lt40 (by omega)) (by omega) (by omega)]
      have hxv : (v < 0 ∧ (x : Int) = -v) ∨ (¬ v < 0 ∧ (x : Int) = v) := by unfold ab at hx; split at hx <;> omega
      have hx10 : x / U = x / 1000000 ∧ x % U = x % 1000000 := by rw [hU]; exact ⟨rfl, rfl⟩
      have hfl : (v < 0 → (v + 500000) / 1000000 = -((x / 1000000 : Nat) : Int) - (if 500000 < x % 1000000 then 1 else 0)) ∧ (¬ v < 0 → (v + 500000) / 1000000 = ((x / 1000000 : Nat) : Int) + (if x % 1000000 < 500000 then 0 else 1)) := by
        constructor
        · intro hv; split <;> omega
        · intro hv; split <;> omega
      have hqb : x / U ≤ 9223372036854775807 := by omega
      have hrb : x % U < 1000000 := by omega
      rw [← hx10.1, ← hx10.2] at hfl
      generalize x / U = Q at *
      generalize x % U = R at *
      simp only [bs]
      have hD : breviaryref03_Digits.f (k + 1) 500000 = some (dg 500000) := digits_f (n := 500000) (by decide) (by omega)
      obtain ⟨H, hH⟩ : ∃ H : Nat, H = 500000 := ⟨_, rfl⟩
      rw [hD, ← hH]
      simp only [bs]
      rw [least_dg (by omega) (lt40 (by omega)) (lt40 (by omega)), least_dg (by omega) (lt40 (by omega)) (lt40 (by omega))]
      simp only [bs]
      have hj : ∀ (b : Bool) (n : Int), n = (v + 500000) / 1000000 → (if decide (v < 0) = true then -(((if b then Q + 1 else Q) : Nat) : Int) else (((if b then Q + 1 else Q) : Nat) : Int)) = n → breviaryref03_Round.j0 (k + 1) (dg Q) b t v = some (addN ((v + 500000) / 1000000 * 1000000)) := by
        intro b n hn hb
        subst hn
        simp only [breviaryref03_Round.j0]
        cases b
        · rw [if_neg (by simp), unit_f (by omega), ← hU]
          simp only [bs]
          rw [prod_dg' (by omega) (lt40 (by omega)) (lt40 (by omega))]
          simp only [bs]
          simp only [Bool.false_eq_true, if_false] at hb
          rw [made_times (by omega) (decide (v < 0)) (by omega) hU hb]
          rfl
        · rw [if_pos rfl, ← dg_one, plus_dg (by omega) (lt40 (by omega)) (lt40 (by omega)), unit_f (by omega), ← hU]
          simp only [bs]
          rw [prod_dg' (by omega) (lt40 (by omega)) (lt40 (by omega))]
          simp only [bs]
          simp only [if_true] at hb
          rw [made_times (by omega) (decide (v < 0)) (by omega) hU hb]
          rfl
      by_cases c : v ≥ 0
      · rw [if_pos c]
        have hf := hfl.2 (by omega)
        by_cases d : R < H
        · rw [if_pos (decide_eq_true d), if_neg (by omega)]
          refine hj false _ rfl ?_
          rw [hf, if_neg (show ¬ (decide (v < 0) = true) by simp; omega), if_pos (show R < 500000 by omega)]; simp
        · rw [if_neg (by simpa using d)]
          refine hj true _ rfl ?_
          rw [hf, if_neg (show ¬ (decide (v < 0) = true) by simp; omega), if_neg (show ¬ R < 500000 by omega)]; simp
      · rw [if_neg c, if_pos (by omega)]
        have hf := hfl.1 (by omega)
        refine hj _ _ rfl ?_
        rw [hf, if_pos (by simp; omega)]
        by_cases d : H < R
        · rw [if_pos (show 500000 < R by omega)]; simp [d]; omega
        · rw [if_neg (show ¬ 500000 < R by omega)]; simp [d]
    · rw [if_neg h0, if_neg h0]
end Go.Proofs.Yticpobgkbapdmaa.DecG
