/- Quotients, what is left, sums, comparisons, roundings: the closed forms of the program's and of the reference's functions. -/
import Derived.Test.YticpobgkbapdmaaCrDecE
namespace Go.Proofs.Yticpobgkbapdmaa.DecA
end Go.Proofs.Yticpobgkbapdmaa.DecA
namespace Go.Proofs.Yticpobgkbapdmaa.DecB
end Go.Proofs.Yticpobgkbapdmaa.DecB
namespace Go.Proofs.Yticpobgkbapdmaa.DecC
end Go.Proofs.Yticpobgkbapdmaa.DecC
namespace Go.Proofs.Yticpobgkbapdmaa.DecD
end Go.Proofs.Yticpobgkbapdmaa.DecD
namespace Go.Proofs.Yticpobgkbapdmaa.DecE
end Go.Proofs.Yticpobgkbapdmaa.DecE
namespace Go.Proofs.Yticpobgkbapdmaa.PD
end Go.Proofs.Yticpobgkbapdmaa.PD
namespace Go.Proofs.YticpobgkbapdmaaW.PrintLast
end Go.Proofs.YticpobgkbapdmaaW.PrintLast
namespace Go.Proofs.YticpobgkbapdmaaW.PrintMore
end Go.Proofs.YticpobgkbapdmaaW.PrintMore
namespace Go.Proofs.YticpobgkbapdmaaW.PrintWords
end Go.Proofs.YticpobgkbapdmaaW.PrintWords
namespace Go.Proofs.Yticpobgkbapdmaa.DecF
set_option linter.unusedSimpArgs false
set_option linter.unusedVariables false
open Go.RowKit Go.Proofs.Yticpobgkbapdmaa.PD Go.Proofs.YticpobgkbapdmaaW.PrintWords Go.Proofs.YticpobgkbapdmaaW.PrintLast Go.Proofs.YticpobgkbapdmaaW.PrintMore Go.Proofs.Yticpobgkbapdmaa.DecA Go.Proofs.Yticpobgkbapdmaa.DecB Go.Proofs.Yticpobgkbapdmaa.DecC Go.Proofs.Yticpobgkbapdmaa.DecD Go.Proofs.Yticpobgkbapdmaa.DecE

/-! ### Div -/
def divS (a b : Int × Int) : Int × Int :=
  if (a.1 = 1 ∨ b.1 = 1) ∨ (a.1 ≠ 0 ∧ b.1 ≠ 0) then (1, 0) else if b.1 = 0 then (if b.2 = 0 then great (sgn a) else if a.1 = 0 then mk (decide (sgn a * sgn b < 0)) (ab a.2 * 1000000 / ab b.2) else great (sgn a * sgn b)) else (0, 0)
theorem ab_pos {v : Int} (h : v ≠ 0) : 0 < ab v := by unfold ab; split <;> omega
theorem dec_Div_f {k : Nat} (hk : 40 < k) {ta va tb vb : Int} (ha : I64 va) (hb : I64 vb) : dec_Div.f k ta va tb vb = some (divS (nrm (ta, va)) (nrm (tb, vb))) := by
  obtain ⟨k, rfl, hk'⟩ := succ_of hk
  unfold dec_Div.f
  rw [dec_right_f, dec_right_f]
  simp only [bs]
  have na := nrm_nm (t := ta) ha
  have nb := nrm_nm (t := tb) hb
  generalize nrm (ta, va) = a at *
  generalize nrm (tb, vb) = b at *
  rw [dec_none_f]
  simp only [bs]
  have hj : ∀ x14 : Bool, x14 = decide ((a.1 = 1 ∨ b.1 = 1) ∨ (a.1 ≠ 0 ∧ b.1 ≠ 0)) → dec_Div.j0 (k + 1) x14 a.1 a.2 b.1 b.2 = some (divS a b) := by
    intro x14 hx
    unfold divS
    simp only [dec_Div.j0]
    by_cases h1 : (a.1 = 1 ∨ b.1 = 1) ∨ (a.1 ≠ 0 ∧ b.1 ≠ 0)
    · rw [if_pos (by rw [hx]; exact decide_eq_true h1), if_pos h1]; rfl
    · rw [if_neg (by rw [hx, decide_eq_false h1]; simp), if_neg h1]
      by_cases h2 : b.1 = 0
      · rw [if_pos h2, if_pos h2]
        by_cases h3 : b.2 = 0
        · rw [if_pos h3, if_pos h3, sign_f (by omega)]
          simp only [bs]
          rw [great_f (sgn_cases a)]
          rfl
        · rw [if_neg h3, if_neg h3]
          by_cases h4 : a.1 = 0
          · rw [if_pos h4, if_pos h4, size_f (na.num h4)]
            simp only [bs]
            obtain ⟨x, hx, hx'⟩ := ab_nat (na.num h4)
            obtain ⟨y, hy, hy'⟩ := ab_nat (nb.num h2)
            have hyp : 0 < y := by have := ab_pos h3; omega
            obtain ⟨U, hU⟩ : ∃ U : Nat, U = 1000000 := ⟨_, rfl⟩
            have eU : (1000000 : Int) = (U : Int) := by omega
            rw [eU, hx, mul_words hx' (by omega)]
            have e2 : ((x : Int) * (U : Int)) = ((x * U : Nat) : Int) := by simp
            rw [e2]
            generalize x * U = P at *
            have hPb : P = P / 18446744073709551616 * 18446744073709551616 + P % 18446744073709551616 := by omega
            have hm : P % 18446744073709551616 < 18446744073709551616 := by omega
            generalize P / 18446744073709551616 = H at *
            generalize P % 18446744073709551616 = M at *
            simp only [bs]
            rw [sign_f (by omega), sign_f (by omega), size_f (nb.num h2)]
            simp only [bs]
            rw [w64_sgn_mul, hy]
            have e4 : ((P : Nat) : Int) / (y : Int) = ((P / y : Nat) : Int) := by simp
            rw [e4]
            by_cases h5 : (H : Int) ≥ (y : Int)
            · rw [if_pos h5, signed_hi (by omega), mk_big ?_]
              · rfl
              · have h6 : 18446744073709551616 ≤ P / y := by
                  rw [Nat.le_div_iff_mul_le hyp, hPb]
                  have : y * 18446744073709551616 ≤ H * 18446744073709551616 := Nat.mul_le_mul_right _ (by omega)
                  omega
                generalize P / y = Q at *
                omega
            · rw [if_neg h5]
              obtain ⟨z, hz⟩ := div64_f H M y k hm (by omega) (by omega) (by omega)
              rw [← hPb] at hz
              rw [hz]
              have h6 : P / y < 18446744073709551616 := by
                rw [Nat.div_lt_iff_lt_mul hyp]
                have : (H + 1) * 18446744073709551616 ≤ y * 18446744073709551616 := Nat.mul_le_mul_right _ (by omega)
                omega
              generalize P / y = Q at *
              simp only [bs]
              rw [signed_f (by omega) _ (by omega) (by omega)]
              rfl
          · rw [if_neg h4, if_neg h4, sign_f (by omega), sign_f (by omega)]
            simp only [bs]
            rw [w64_sgn_mul, great_f (sgn_mul_cases a b)]
            rfl
      · rw [if_neg h2, if_neg h2]
  by_cases h1 : a.1 = 1 ∨ b.1 = 1
  · rw [if_pos (by simpa using h1)]
    exact hj _ (by rw [decide_eq_true h1, decide_eq_true (.inl h1)])
  · rw [if_neg (by simpa using h1)]
    by_cases h2 : a.1 = 0
    · rw [if_pos h2]
      exact hj _ (by symm; apply decide_eq_false; omega)
    · rw [if_neg h2]
      apply hj
      by_cases h3 : b.1 = 0
      · rw [decide_eq_false (by omega)]; simp [h3]
      · rw [decide_eq_true (by omega)]; simp [h3]
/-! ### Mod -/
/-! ### Neg, Add, Sub -/
def negS (a : Int × Int) : Int × Int := if a.1 = 0 then (0, -a.2) else if a.1 = 2 then (3, 0) else if a.1 = 3 then (2, 0) else a
theorem dec_Neg_f {t v : Int} (h : I64 v) : dec_Neg.f t v = some (negS (nrm (t, v))) := by
  unfold dec_Neg.f
  rw [dec_right_f]
  simp only [bs]
  have na := nrm_nm (t := t) h
  generalize nrm (t, v) = a at *
  unfold negS
  by_cases h0 : a.1 = 0
  · have := na.num h0
    rw [if_pos h0, if_pos h0, w64 (by omega) (by omega)]
  · rw [if_neg h0, if_neg h0]
    by_cases h2 : a.1 = 2
    · rw [if_pos h2, if_pos h2]; rfl
    · rw [if_neg h2, if_neg h2]
      by_cases h3 : a.1 = 3
      · rw [if_pos h3, if_pos h3]; rfl
      · rw [if_neg h3, if_neg h3]
/-- a sum, where it fits -/
def addN (s : Int) : Int × Int := if s > 9223372036854775807 then (2, 0) else if s < -9223372036854775807 then (3, 0) else (0, s)
def addS (a b : Int × Int) : Int × Int :=
  if a.1 = 1 ∨ b.1 = 1 then (1, 0) else if a.1 = 0 then (if b.1 = 0 then addN (a.2 + b.2) else b)
  else if b.1 = 0 then a else if a.1 = b.1 then a else (1, 0)
theorem nm_tag {a : Int × Int} (h : Nm a) : 0 ≤ a.1 ∧ a.1 ≤ 3 := by rcases h with h | h <;> omega
theorem dec_Add_f {k : Nat} (hk : 40 < k) {ta va tb vb : Int} (ha : I64 va) (hb : I64 vb) : dec_Add.f k ta va tb vb = some (addS (nrm (ta, va)) (nrm (tb, vb))) := by
  obtain ⟨k, rfl, hk'⟩ := succ_of hk
  unfold dec_Add.f
  rw [dec_right_f, dec_right_f]
  simp only [bs]
  have na := nrm_nm (t := ta) ha
  have nb := nrm_nm (t := tb) hb
  generalize nrm (ta, va) = a at *
  generalize nrm (tb, vb) = b at *
  have ta := nm_tag na
  have tb := nm_tag nb
  unfold dec_tagged.f addS
  by_cases h0 : a.1 = 0 ∧ b.1 = 0
  · have na' := na.num h0.1
    have nb' := nb.num h0.2
    rw [if_pos h0]
    simp only [bs]
    rw [if_neg (by simp), if_neg (show ¬ (a.1 = 1 ∨ b.1 = 1) by omega), if_pos h0.1, if_pos h0.2]
    unfold bits_Add64.f
    rw [wrap_u64, wrap_u64, if_pos (by omega)]
    simp only [bs]
    have ew : wrap64 ((a.2 % 18446744073709551616 + b.2 % 18446744073709551616 + 0) % 18446744073709551616) = wrap64 (a.2 + b.2) := by unfold wrap64; omega
    rw [ew]
    have hw : wrap64 (a.2 + b.2) = if a.2 + b.2 > 9223372036854775807 then a.2 + b.2 - 18446744073709551616 else if a.2 + b.2 < -9223372036854775808 then a.2 + b.2 + 18446744073709551616 else a.2 + b.2 := by
      unfold wrap64
      split
      · omega
      · split <;> omega
    rw [hw]
    generalize a.2 = x at *
    generalize b.2 = y at *
    unfold addN
    simp only [dec_Add.j0, dec_over.f, dec_under.f]
    by_cases p1 : x + y > 9223372036854775807
    · have q1 : x > 0 := by omega
      have q2 : y > 0 := by omega
      have q3 : x + y - 18446744073709551616 ≤ 0 := by omega
      simp [p1, q1, q2, q3]
    · by_cases p2 : x + y < -9223372036854775808
      · have q1 : ¬ x > 0 := by omega
        have q2 : x < 0 := by omega
        have q3 : y < 0 := by omega
        have q4 : x + y + 18446744073709551616 ≥ 0 := by omega
        have q5 : x + y < -9223372036854775807 := by omega
        simp only [p1, p2, q1, q2, q3, q4, q5, if_true, if_false]; simp
      · by_cases p3 : x + y < -9223372036854775807
        · have q0 : x + y = -9223372036854775808 := by omega
          have q1 : ¬ x > 0 := by omega
          have q2 : x < 0 := by omega
          have q3 : y < 0 := by omega
          rw [q0] at p1 p2 p3 ⊢
          simp [q1, q2, q3]
        · simp only [p1, p2, p3, if_false]
          by_cases q1 : x > 0
          · by_cases q2 : y > 0
            · have q3 : ¬ x + y ≤ 0 := by omega
              have q4 : ¬ x < 0 := by omega
              simp [q1, q2, q3, q4]
            · have q4 : ¬ x < 0 := by omega
              simp [q1, q2, q4]
          · by_cases q4 : x < 0
            · by_cases q5 : y < 0
              · have q6 : ¬ x + y ≥ 0 := by omega
                have q7 : ¬ x + y = -9223372036854775808 := by omega
                simp [q1, q4, q5, q6, q7]
              · simp [q1, q4, q5]
            · simp [q1, q4]
  · rw [if_neg h0, if_pos (by omega)]
    simp only [bs]
    rw [if_pos trivial]
    obtain ⟨t1, v1⟩ := a
    obtain ⟨t2, v2⟩ := b
    unfold Nm at na nb
    simp only at *
    rcases na with ⟨rfl, _, _⟩ | ⟨rfl | rfl | rfl, rfl⟩ <;> rcases nb with ⟨rfl, _, _⟩ | ⟨rfl | rfl | rfl, rfl⟩ <;> first | (exfalso; omega) | rfl
end Go.Proofs.Yticpobgkbapdmaa.DecF
