/- Quotients, what is left, sums, comparisons, roundings: the closed forms of the program's and of the reference's functions. -/
import Derived.Test.YticpobgkbapdmaaCpDecE
namespace Go.Proofs.Yticpobgkbapdmaa.DecA
end Go.Proofs.Yticpobgkbapdmaa.DecA
namespace Go.Proofs.Yticpobgkbapdmaa.DecB
end Go.Proofs.Yticpobgkbapdmaa.DecB
namespace Go.Proofs.Yticpobgkbapdmaa.DecC
end Go.Proofs.Yticpobgkbapdmaa.DecC
namespace Go.Proofs.Yticpobgkbapdmaa.DecD
end Go.Proofs.Yticpobgkbapdmaa.DecD
namespace Go.Proofs.Yticpobgkbapdmaa.DecE
end Go.Proofs.Yticpobgkbapdmaa.DecE
namespace Go.Proofs.Yticpobgkbapdmaa.PD
end Go.Proofs.Yticpobgkbapdmaa.PD
namespace Go.Proofs.YticpobgkbapdmaaW.PrintLast
end Go.Proofs.YticpobgkbapdmaaW.PrintLast
namespace Go.Proofs.YticpobgkbapdmaaW.PrintMore
end Go.Proofs.YticpobgkbapdmaaW.PrintMore
namespace Go.Proofs.YticpobgkbapdmaaW.PrintWords
end Go.Proofs.YticpobgkbapdmaaW.PrintWords
namespace Go.Proofs.Yticpobgkbapdmaa.DecF
set_option linter.unusedSimpArgs false
set_option linter.unusedVariables false
open Go.RowKit Go.Proofs.Yticpobgkbapdmaa.PD Go.Proofs.YticpobgkbapdmaaW.PrintWords Go.Proofs.YticpobgkbapdmaaW.PrintLast Go.Proofs.YticpobgkbapdmaaW.PrintMore Go.Proofs.Yticpobgkbapdmaa.DecA Go.Proofs.Yticpobgkbapdmaa.DecB Go.Proofs.Yticpobgkbapdmaa.DecC Go.Proofs.Yticpobgkbapdmaa.DecD Go.Proofs.Yticpobgkbapdmaa.DecE

/-! ### Div -/
def divS (a b : Int × Int) : Int × Int :=
  if (a.1 = 1 ∨ b.1 = 1) ∨ (a.1 ≠ 0 ∧ b.1 ≠ 0) then (1, 0) else if b.1 = 0 then (if b.2 = 0 then great (sgn a) else if a.1 = 0 then mk (decide (sgn a * sgn b < 0)) (ab a.2 * 1000000 / ab b.2) else great (sgn a * sgn b)) else (0, 0)
theorem ab_pos {v : Int} (h : v ≠ 0) : 0 < ab v := by unfold ab; split <;> omega
theorem dec_Div_f {k : Nat} (hk : 40 < k) {ta va tb vb : Int} (ha : I64 va) (hb : I64 vb) : dec_Div.f k ta va tb vb = some (divS (nrm (ta, va)) (nrm (tb, vb))) := by
  obtain ⟨k, rfl, hk'⟩ := succ_of hk
  unfold dec_Div.f
  rw [dec_right_f, dec_right_f]
  simp only [bs]
  have na := nrm_nm (t := ta) ha
  have nb := nrm_nm (t := tb) hb
  generalize nrm (ta, va) = a at *
  generalize nrm (tb, vb) = b at *
  rw [dec_none_f]
  simp only [bs]
  have hj : ∀ x14 : Bool, x14 = decide ((a.1 = 1 ∨ b.1 = 1) ∨ (a.1 ≠ 0 ∧ b.1 ≠ 0)) → dec_Div.j0 (k + 1) x14 a.1 a.2 b.1 b.2 = some (divS a b) := by
    intro x14 hx
    unfold divS
    simp only [dec_Div.j0]
    by_cases h1 : (a.1 = 1 ∨ b.1 = 1) ∨ (a.1 ≠ 0 ∧ b.1 ≠ 0)
    · rw [if_pos (by rw [hx]; exact decide_eq_true h1), if_pos h1]; rfl
    · rw [if_neg (by rw [hx, decide_eq_false h1]; simp), if_neg h1]
      by_cases h2 : b.1 = 0
      · rw [if_pos h2, if_pos h2]
        by_cases h3 : b.2 = 0
        · rw [if_pos h3, if_pos h3, sign_f (by omega)]
          simp only [bs]
          rw [great_f (sgn_cases a)]
          rfl
        · rw [if_neg h3, if_neg h3]
          by_cases h4 : a.1 = 0
          · rw [if_pos h4, if_pos h4, size_f (na.num h4)]
            simp only [bs]
            obtain ⟨x, hx, hx'⟩ := ab_nat (na.num h4)
            obtain ⟨y, hy, hy'⟩ := ab_nat (nb.num h2)
            have hyp : 0 < y := by have := ab_pos h3; omega
            obtain ⟨U, hU⟩ : ∃ U : Nat, U = 1000000 := ⟨_, rfl⟩
            have eU : (1000000 : Int) = (U : Int) := by omega
            rw [eU, hx, mul_words hx' (by omega)]
            have e2 : ((x : Int) * (U : Int)) = ((x * U : Nat) : Int) := by simp
            rw [e2]
            generalize x * U = P at *
            have hPb : P = P / 18446744073709551616 * 18446744073709551616 + P % 18446744073709551616 := by omega
            have hm : P % 18446744073709551616 < 18446744073709551616 := by omega
            generalize P / 18446744073709551616 = H at *
            generalize P % 18446744073709551616 = M at *
            simp only [bs]
            rw [sign_f (by omega), sign_f (by omega), size_f (nb.num h2)]
            simp only [bs]
            rw [w64_sgn_mul, hy]
            have e4 : ((P : Nat) : Int) / (y : Int) = ((P / y : Nat) : Int) := by simp
            rw [e4]
            by_cases h5 : (H : Int) ≥ (y : Int)
            · rw [if_pos h5, signed_hi (by omega), mk_big ?_]
              · rfl
              · have h6 : 18446744073709551616 ≤ P / y := by
                  rw [Nat.le_div_iff_mul_le hyp, hPb]
                  have : y * 18446744073709551616 ≤ H * 18446744073709551616 := Nat.mul_le_mul_right _ (by omega)
                  omega
                generalize P / y = Q at *
                omega
            · rw [if_neg h5]
              obtain ⟨z, hz⟩ := div64_f H M y k hm (by omega) (by omega) (by omega)
              rw [← hPb] at hz
              rw [hz]
              have h6 : P / y < 18446744073709551616 := by
                rw [Nat.div_lt_iff_lt_mul hyp]
                have : (H + 1) * 18446744073709551616 ≤ y * 18446744073709551616 := Nat.mul_le_mul_right _ (by omega)
                omega
              generalize P / y = Q at *
              simp only [bs]
              rw [signed_f (by omega) _ (by omega) (by omega)]
              rfl
          · rw [if_neg h4, if_neg h4, sign_f (by omega), sign_f (by omega)]
            simp only [bs]
            rw [w64_sgn_mul, great_f (sgn_mul_cases a b)]
            rfl
      · rw [if_neg h2, if_neg h2]
  by_cases h1 : a.1 = 1 ∨ b.1 = 1
  · rw [if_pos (by simpa using h1)]
    exact hj _ (by rw [decide_eq_true h1, decide_eq_true (.inl h1)])
  · rw [if_neg (by simpa using h1)]
    by_cases h2 : a.1 = 0
    · rw [if_pos h2]
      exact hj _ (by symm; apply decide_eq_false; omega)
    · rw [if_neg h2]
      apply hj
      by_cases h3 : b.1 = 0
      · rw [decide_eq_false (by omega)]; simp [h3]
      · rw [decide_eq_true (by omega)]; simp [h3]
theorem ref_Div_f {k : Nat} (hk : 5000 < k) {ta va tb vb : Int} (ha : I64 va) (hb : I64 vb) : breviaryref03_Div.f k ta va tb vb = some (divS (nrm (ta, va)) (nrm (tb, vb))) := by
  obtain ⟨k, rfl, hk'⟩ := succ_of hk
  unfold breviaryref03_Div.f
  rw [ref_none_f]
  simp only [bs]
  by_cases h1 : (nrm (ta, va)).1 = 1 ∨ (nrm (tb, vb)).1 = 1
  · rw [if_pos (by simpa using h1)]
    simp only [breviaryref03_Div.j0]
    rw [if_pos trivial]
    unfold divS
    rw [if_pos (.inl h1)]
  · rw [if_neg (by simpa using h1)]
    have na := nrm_nm (t := ta) ha
    have nb := nrm_nm (t := tb) hb
    obtain ⟨e1, e2⟩ := ref_none_not h1
    rw [e1] at na h1 ⊢
    rw [e2] at nb h1 ⊢
    have hj : ∀ x14 : Bool, x14 = decide (ta ≠ 0 ∧ tb ≠ 0) → breviaryref03_Div.j0 (k + 1) x14 ta va tb vb = some (divS (ta, va) (tb, vb)) := by
      intro x14 hx
      unfold divS
      simp only at h1 ⊢
      simp only [breviaryref03_Div.j0]
      by_cases h2 : ta ≠ 0 ∧ tb ≠ 0
      · rw [if_pos (by rw [hx]; exact decide_eq_true h2), if_pos (.inr h2)]
      · rw [if_neg (by rw [hx, decide_eq_false h2]; simp), if_neg (show ¬ ((ta = 1 ∨ tb = 1) ∨ ta ≠ 0 ∧ tb ≠ 0) by omega)]
        have s1 := ref_sign_f (k := k) (by omega) (ta, va)
        have s2 := ref_sign_f (k := k) (by omega) (tb, vb)
        simp only at s1 s2
        by_cases h3 : tb = 0
        · rw [if_pos h3, if_pos h3]
          by_cases h4 : vb = 0
          · rw [if_pos h4, if_pos h4, s1]
            simp only [bs]
            rw [ref_great_f]
            rfl
          · rw [if_neg h4, if_neg h4, s1, s2]
            simp only [bs]
            by_cases h5 : ta = 0
            · have na' := na.num h5
              have nb' := nb.num h3
              simp only at na' nb'
              obtain ⟨U, hU⟩ : ∃ U : Nat, U = 1000000 := ⟨_, rfl⟩
              have eU : (1000000 : Int) = (U : Int) := by omega
              rw [if_pos h5, if_pos h5, ref_Size_f (by omega) na', unit_f (by omega), ← hU, eU]
              simp only [bs]
              obtain ⟨x, hx, hx'⟩ := ab_nat na'
              obtain ⟨y, hy, hy'⟩ := ab_nat nb'
              have hyp : 0 < y := by have := ab_pos h4; omega
              rw [hx, Int.toNat_natCast, prod_dg (by omega) hx' (by omega)]
              have hP : x * U < 10 ^ 40 := unit_mul hx' (by omega)
              have e2 : ((x : Int) * (U : Int)) = ((x * U : Nat) : Int) := by simp
              rw [e2]
              generalize x * U = P at *
              simp only [bs]
              rw [ref_Size_f (by omega) nb', hy, Int.toNat_natCast]
              simp only [bs]
              rw [quot_dg (by omega) hP hyp hy']
              have hb60 : P / y < 10 ^ 60 := Nat.lt_of_le_of_lt (Nat.div_le_self _ _) (Nat.lt_trans hP (by decide))
              have e4 : ((P : Nat) : Int) / (y : Int) = ((P / y : Nat) : Int) := by simp
              rw [e4, w64_sgn_mul]
              generalize P / y = Q at *
              generalize P % y = R at *
              simp only [bs]
              rw [made_dg (by omega) _ _ hb60]
              rfl
            · rw [if_neg h5, if_neg h5, w64_sgn_mul, ref_great_f]
              rfl
        · rw [if_neg h3, if_neg h3]
    by_cases h2 : ta = 0
    · rw [if_pos h2]
      exact hj _ (by symm; apply decide_eq_false; omega)
    · rw [if_neg h2]
      apply hj
      by_cases h3 : tb = 0
      · rw [decide_eq_false (by omega)]; simp [h3]
      · rw [decide_eq_true (by omega)]; simp [h3]

/-! ### Mod -/
def modS (a b : Int × Int) : Int × Int :=
  if (a.1 = 1 ∨ b.1 = 1) ∨ a.1 ≠ 0 then (1, 0) else if b.1 = 0 then (if b.2 = 0 then (1, 0) else (0, Int.tmod a.2 b.2)) else a
theorem dec_Mod_f {k : Nat} (hk : 40 < k) {ta va tb vb : Int} (ha : I64 va) (hb : I64 vb) : dec_Mod.f k ta va tb vb = some (modS (nrm (ta, va)) (nrm (tb, vb))) := by
  obtain ⟨k, rfl, hk'⟩ := succ_of hk
  unfold dec_Mod.f
  rw [dec_right_f, dec_right_f]
  simp only [bs]
  generalize nrm (ta, va) = a at *
  generalize nrm (tb, vb) = b at *
  rw [dec_none_f]
  simp only [bs]
  unfold modS
  by_cases h1 : a.1 = 1 ∨ b.1 = 1
  · rw [if_pos (by simpa using h1), if_pos (.inl h1)]
    simp only [dec_Mod.j0]
    rw [if_pos (by simpa using h1)]; rfl
  · rw [if_neg (by simpa using h1)]
    simp only [dec_Mod.j0]
    by_cases h2 : a.1 = 0
    · rw [if_neg (by simp [h2]), if_neg (show ¬ ((a.1 = 1 ∨ b.1 = 1) ∨ a.1 ≠ 0) by omega)]
      by_cases h3 : b.1 = 0
      · rw [if_pos h3, if_pos h3]
        by_cases h4 : b.2 = 0
        · rw [if_pos h4, if_pos h4]; rfl
        · rw [if_neg h4, if_neg h4]
      · rw [if_neg h3, if_neg h3]
    · rw [if_pos (by simp [h2]), if_pos (.inr h2)]; rfl
theorem tmod_ab (a b : Int) (hb : b ≠ 0) : Int.tmod a b = if a < 0 then -(ab a % ab b) else ab a % ab b := by
  unfold ab
  by_cases h : a < 0
  · rw [if_pos h, if_pos h]
    have e : Int.tmod a b = -(Int.tmod (-a) b) := by rw [Int.neg_tmod]; omega
    rw [e, Int.tmod_eq_emod_of_nonneg (by omega)]
    by_cases h' : b < 0
    · rw [if_pos h', Int.emod_neg]
    · rw [if_neg h']
  · rw [if_neg h, if_neg h, Int.tmod_eq_emod_of_nonneg (by omega)]
    by_cases h' : b < 0
    · rw [if_pos h', Int.emod_neg]
    · rw [if_neg h']
theorem ref_Mod_f {k : Nat} (hk : 5000 < k) {ta va tb vb : Int} (ha : I64 va) (hb : I64 vb) : breviaryref03_Mod.f k ta va tb vb = some (modS (nrm (ta, va)) (nrm (tb, vb))) := by
  obtain ⟨k, rfl, hk'⟩ := succ_of hk
  unfold breviaryref03_Mod.f
  rw [ref_none_f]
  simp only [bs]
  unfold modS
  by_cases h1 : (nrm (ta, va)).1 = 1 ∨ (nrm (tb, vb)).1 = 1
  · rw [if_pos (by simpa using h1), if_pos (.inl h1)]
    simp only [breviaryref03_Mod.j0]
    rw [if_pos trivial]
  · rw [if_neg (by simpa using h1)]
    have na := nrm_nm (t := ta) ha
    have nb := nrm_nm (t := tb) hb
    obtain ⟨e1, e2⟩ := ref_none_not h1
    rw [e1] at na h1 ⊢
    rw [e2] at nb h1 ⊢
    simp only at h1 ⊢
    simp only [breviaryref03_Mod.j0]
    by_cases h2 : ta = 0
    · have hn : ¬ ((ta = 1 ∨ tb = 1) ∨ ta ≠ 0) := by omega
      rw [if_pos h2, if_neg hn]
      by_cases h3 : tb = 0
      · rw [if_pos h3]
        by_cases h4 : vb = 0
        · rw [if_pos (by simp [h4]), if_pos h3, if_pos h4]
        · have na' := na.num h2
          have nb' := nb.num h3
          simp only at na' nb'
          rw [if_neg (by simp [h4]), if_pos h3, if_pos h3, if_neg h4, ref_Size_f (by omega) na', ref_Size_f (by omega) nb']
          simp only [bs]
          obtain ⟨x, hx, hx'⟩ := ab_nat na'
          obtain ⟨y, hy, hy'⟩ := ab_nat nb'
          have hyp : 0 < y := by have := ab_pos h4; omega
          rw [tmod_ab _ _ h4, hx, hy, Int.toNat_natCast, Int.toNat_natCast, quot_dg (by omega) (Nat.lt_of_le_of_lt hx' (by decide)) hyp hy']
          have hR : x % y < y := Nat.mod_lt _ hyp
          have e4 : ((x : Nat) : Int) % (y : Int) = ((x % y : Nat) : Int) := by simp
          rw [e4]
          generalize x / y = Q at *
          generalize x % y = R at *
          simp only [bs]
          rw [made_dg (by omega) _ _ (Nat.lt_of_le_of_lt (show R ≤ 9223372036854775807 by omega) (by decide))]
          simp only [bs]
          unfold mk
          rw [if_neg (by omega)]
          by_cases h5 : va < 0 <;> simp [h5]
      · rw [if_neg h3, if_neg (by simp), if_neg h3, if_neg h3]
    · rw [if_neg h2, if_pos trivial, if_pos (.inr h2)]

/-! ### Neg, Add, Sub -/
end Go.Proofs.Yticpobgkbapdmaa.DecF
