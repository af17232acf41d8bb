/- Quotients, what is left, sums, comparisons, roundings: the closed forms of the program's and of the reference's functions. -/
import Derived.Test.YticpobgkbapdmaaCsDecE
namespace Go.Proofs.Yticpobgkbapdmaa.DecA
end Go.Proofs.Yticpobgkbapdmaa.DecA
namespace Go.Proofs.Yticpobgkbapdmaa.DecB
end Go.Proofs.Yticpobgkbapdmaa.DecB
namespace Go.Proofs.Yticpobgkbapdmaa.DecC
end Go.Proofs.Yticpobgkbapdmaa.DecC
namespace Go.Proofs.Yticpobgkbapdmaa.DecD
end Go.Proofs.Yticpobgkbapdmaa.DecD
namespace Go.Proofs.Yticpobgkbapdmaa.DecE
end Go.Proofs.Yticpobgkbapdmaa.DecE
namespace Go.Proofs.Yticpobgkbapdmaa.PD
end Go.Proofs.Yticpobgkbapdmaa.PD
namespace Go.Proofs.YticpobgkbapdmaaW.PrintLast
end Go.Proofs.YticpobgkbapdmaaW.PrintLast
namespace Go.Proofs.YticpobgkbapdmaaW.PrintMore
end Go.Proofs.YticpobgkbapdmaaW.PrintMore
namespace Go.Proofs.YticpobgkbapdmaaW.PrintWords
end Go.Proofs.YticpobgkbapdmaaW.PrintWords
namespace Go.Proofs.Yticpobgkbapdmaa.DecF
set_option linter.unusedSimpArgs false
set_option linter.unusedVariables false
open Go.RowKit Go.Proofs.Yticpobgkbapdmaa.PD Go.Proofs.YticpobgkbapdmaaW.PrintWords Go.Proofs.YticpobgkbapdmaaW.PrintLast Go.Proofs.YticpobgkbapdmaaW.PrintMore Go.Proofs.Yticpobgkbapdmaa.DecA Go.Proofs.Yticpobgkbapdmaa.DecB Go.Proofs.Yticpobgkbapdmaa.DecC Go.Proofs.Yticpobgkbapdmaa.DecD Go.Proofs.Yticpobgkbapdmaa.DecE

/-! ### Div -/
def divS (a b : Int × Int) : Int × Int :=
  if (a.1 = 1 ∨ b.1 = 1) ∨ (a.1 ≠ 0 ∧ b.1 ≠ 0) then (1, 0) else if b.1 = 0 then (if b.2 = 0 then great (sgn a) else if a.1 = 0 then mk (decide (sgn a * sgn b < 0)) (ab a.2 * 1000000 / ab b.2) else great (sgn a * sgn b)) else (0, 0)
theorem ab_pos {v : Int} (h : v ≠ 0) : 0 < ab v := by unfold ab; split <;> omega
theorem dec_Div_f {k : Nat} (hk : 40 < k) {ta va tb vb : Int} (ha : I64 va) (hb : I64 vb) : dec_Div.f k ta va tb vb = some (divS (nrm (ta, va)) (nrm (tb, vb))) := by
  obtain ⟨k, rfl, hk'⟩ := succ_of hk
  unfold dec_Div.f
  rw [dec_right_f, dec_right_f]
  simp only [bs]
  have na := nrm_nm (t := ta) ha
  have nb := nrm_nm (t := tb) hb
  generalize nrm (ta, va) = a at *
  generalize nrm (tb, vb) = b at *
  rw [dec_none_f]
  simp only [bs]
  have hj : ∀ x14 : Bool, x14 = decide ((a.1 = 1 ∨ b.1 = 1) ∨ (a.1 ≠ 0 ∧ b.1 ≠ 0)) → dec_Div.j0 (k + 1) x14 a.1 a.2 b.1 b.2 = some (divS a b) := by
    intro x14 hx
    unfold divS
    simp only [dec_Div.j0]
    by_cases h1 : (a.1 = 1 ∨ b.1 = 1) ∨ (a.1 ≠ 0 ∧ b.1 ≠ 0)
    · rw [if_pos (by rw [hx]; exact decide_eq_true h1), if_pos h1]; rfl
    · rw [if_neg (by rw [hx, decide_eq_false h1]; simp), if_neg h1]
      by_cases h2 : b.1 = 0
      · rw [if_pos h2, if_pos h2]
        by_cases h3 : b.2 = 0
        · rw [if_pos h3, if_pos h3, sign_f (by omega)]
          simp only [bs]
          rw [great_f (sgn_cases a)]
          rfl
        · rw [if_neg h3, if_neg h3]
          by_cases h4 : a.1 = 0
          · rw [if_pos h4, if_pos h4, size_f (na.num h4)]
            simp only [bs]
            obtain ⟨x, hx, hx'⟩ := ab_nat (na.num h4)
            obtain ⟨y, hy, hy'⟩ := ab_nat (nb.num h2)
            have hyp : 0 < y := by have := ab_pos h3; omega
            obtain ⟨U, hU⟩ : ∃ U : Nat, U = 1000000 := ⟨_, rfl⟩
            have eU : (1000000 : Int) = (U : Int) := by omega
            rw [eU, hx, mul_words hx' (by omega)]
            have e2 : ((x : Int) * (U : Int)) = ((x * U : Nat) : Int) := by simp
            rw [e2]
            generalize x * U = P at *
            have hPb : P = P / 18446744073709551616 * 18446744073709551616 + P % 18446744073709551616 := by omega
            have hm : P % 18446744073709551616 < 18446744073709551616 := by omega
            generalize P / 18446744073709551616 = H at *
            generalize P % 18446744073709551616 = M at *
            simp only [bs]
            rw [sign_f (by omega), sign_f (by omega), size_f (nb.num h2)]
            simp only [bs]
            rw [w64_sgn_mul, hy]
            have e4 : ((P : Nat) : Int) / (y : Int) = ((P / y : Nat) : Int) := by simp
            rw [e4]
            by_cases h5 : (H : Int) ≥ (y : Int)
            · rw [if_pos h5, signed_hi (by omega), mk_big ?_]
              · rfl
              · have h6 : 18446744073709551616 ≤ P / y := by
                  rw [Nat.le_div_iff_mul_le hyp, hPb]
                  have : y * 18446744073709551616 ≤ H * 18446744073709551616 := Nat.mul_le_mul_right _ (by omega)
                  omega
                generalize P / y = Q at *
                omega
            · rw [if_neg h5]
              obtain ⟨z, hz⟩ := div64_f H M y k hm (by omega) (by omega) (by omega)
              rw [← hPb] at hz
              rw [hz]
              have h6 : P / y < 18446744073709551616 := by
                rw [Nat.div_lt_iff_lt_mul hyp]
                have : (H + 1) * 18446744073709551616 ≤ y * 18446744073709551616 := Nat.mul_le_mul_right _ (by omega)
                omega
              generalize P / y = Q at *
              simp only [bs]
              rw [signed_f (by omega) _ (by omega) (by omega)]
              rfl
          · rw [if_neg h4, if_neg h4, sign_f (by omega), sign_f (by omega)]
            simp only [bs]
            rw [w64_sgn_mul, great_f (sgn_mul_cases a b)]
            rfl
      · rw [if_neg h2, if_neg h2]
  by_cases h1 : a.1 = 1 ∨ b.1 = 1
  · rw [if_pos (by simpa using h1)]
    exact hj _ (by rw [decide_eq_true h1, decide_eq_true (.inl h1)])
  · rw [if_neg (by simpa using h1)]
    by_cases h2 : a.1 = 0
    · rw [if_pos h2]
      exact hj _ (by symm; apply decide_eq_false; omega)
    · rw [if_neg h2]
      apply hj
      by_cases h3 : b.1 = 0
      · rw [decide_eq_false (by omega)]; simp [h3]
      · rw [decide_eq_true (by omega)]; simp [h3]
/-! ### Mod -/
/-! ### Neg, Add, Sub -/
def negS (a : Int × Int) : Int × Int := if a.1 = 0 then (0, -a.2) else if a.1 = 2 then (3, 0) else if a.1 = 3 then (2, 0) else a
theorem dec_Neg_f {t v : Int} (h : I64 v) : dec_Neg.f t v = some (negS (nrm (t, v))) := by
  unfold dec_Neg.f
  rw [dec_right_f]
  simp only [bs]
  have na := nrm_nm (t := t) h
  generalize nrm (t, v) = a at *
  unfold negS
  by_cases h0 : a.1 = 0
  · have := na.num h0
    rw [if_pos h0, if_pos h0, w64 (by omega) (by omega)]
  · rw [if_neg h0, if_neg h0]
    by_cases h2 : a.1 = 2
    · rw [if_pos h2, if_pos h2]; rfl
    · rw [if_neg h2, if_neg h2]
      by_cases h3 : a.1 = 3
      · rw [if_pos h3, if_pos h3]; rfl
      · rw [if_neg h3, if_neg h3]
theorem ref_Neg_f {k : Nat} (hk : 40 < k) {t v : Int} (h : I64 v) : breviaryref03_Neg.f k t v = some (negS (nrm (t, v))) := by
  unfold breviaryref03_Neg.f
  rw [ref_none_f]
  simp only [bs]
  unfold negS
  by_cases h1 : (nrm (t, v)).1 = 1 ∨ (nrm (t, v)).1 = 1
  · rw [if_pos (by simpa using h1)]
    have h1' : (nrm (t, v)).1 = 1 := by omega
    rw [if_neg (by omega), if_neg (by omega), if_neg (by omega)]
    have na := nrm_nm (t := t) h
    congr 1
    exact Prod.ext h1'.symm (by rcases na with n | n; omega; exact n.2.symm)
  · rw [if_neg (by simpa using h1)]
    have na := nrm_nm (t := t) h
    obtain ⟨e1, _⟩ := ref_none_not h1
    rw [e1] at na h1 ⊢
    simp only at h1 ⊢
    by_cases h0 : t = 0
    · have na' := na.num h0
      simp only at na'
      rw [if_pos h0, if_pos h0, w64 (by omega) (by omega)]
    · have s1 := ref_sign_f (k := k) (by omega) (t, v)
      simp only at s1
      rw [if_neg h0, if_neg h0, s1]
      simp only [bs]
      have hc := sgn_cases (t, v)
      rw [w64 (by omega) (by omega), ref_great_f]
      simp only [bs]
      rcases na with n | n
      · simp only at n; omega
      · simp only at n
        have hv : v = 0 := n.2
        subst hv
        rcases n.1 with rfl | rfl | rfl
        · omega
        · simp [sgn, great]
        · simp [sgn, great]
/-- a sum, where it fits -/
def addN (s : Int) : Int × Int := if s > 9223372036854775807 then (2, 0) else if s < -9223372036854775807 then (3, 0) else (0, s)
theorem mk_is {b : Bool} {n s : Int} (h0 : 0 ≤ n) (h : (if b = true then -n else n) = s) : mk b n = addN s := by
  unfold mk addN
  cases b
  · simp at h; subst h
    by_cases c : n > 9223372036854775807
    · simp [c]
    · simp [c]; omega
  · simp at h; subst h
    by_cases c : n > 9223372036854775807
    · have : ¬ -n > 9223372036854775807 := by omega
      have h2 : -n < -9223372036854775807 := by omega
      simp only [c, this, h2, if_true, if_false]
    · have : ¬ -n > 9223372036854775807 := by omega
      have h2 : ¬ -n < -9223372036854775807 := by omega
      simp only [c, this, h2, if_true, if_false]
def addS (a b : Int × Int) : Int × Int :=
  if a.1 = 1 ∨ b.1 = 1 then (1, 0) else if a.1 = 0 then (if b.1 = 0 then addN (a.2 + b.2) else b)
  else if b.1 = 0 then a else if a.1 = b.1 then a else (1, 0)
theorem nm_tag {a : Int × Int} (h : Nm a) : 0 ≤ a.1 ∧ a.1 ≤ 3 := by rcases h with h | h <;> omega
theorem dec_Add_f {k : Nat} (hk : 40 < k) {ta va tb vb : Int} (ha : I64 va) (hb : I64 vb) : dec_Add.f k ta va tb vb = some (addS (nrm (ta, va)) (nrm (tb, vb))) := by
  obtain ⟨k, rfl, hk'⟩ := succ_of hk
  unfold dec_Add.f
  rw [dec_right_f, dec_right_f]
  simp only [bs]
  have na := nrm_nm (t := ta) ha
  have nb := nrm_nm (t := tb) hb
  generalize nrm (ta, va) = a at *
  generalize nrm (tb, vb) = b at *
  have ta := nm_tag na
  have tb := nm_tag nb
  unfold dec_tagged.f addS
  by_cases h0 : a.1 = 0 ∧ b.1 = 0
  · have na' := na.num h0.1
    have nb' := nb.num h0.2
    rw [if_pos h0]
    simp only [bs]
    rw [if_neg (by simp), if_neg (show ¬ (a.1 = 1 ∨ b.1 = 1) by omega), if_pos h0.1, if_pos h0.2]
    unfold bits_Add64.f
    rw [wrap_u64, wrap_u64, if_pos (by omega)]
    simp only [bs]
    have ew : wrap64 ((a.2 % 18446744073709551616 + b.2 % 18446744073709551616 + 0) % 18446744073709551616) = wrap64 (a.2 + b.2) := by unfold wrap64; omega
    rw [ew]
    have hw : wrap64 (a.2 + b.2) = if a.2 + b.2 > 9223372036854775807 then a.2 + b.2 - 18446744073709551616 else if a.2 + b.2 < -9223372036854775808 then a.2 + b.2 + 18446744073709551616 else a.2 + b.2 := by
      unfold wrap64
      split
      · omega
      · split <;> omega
    rw [hw]
    generalize a.2 = x at *
    generalize b.2 = y at *
    unfold addN
    simp only [dec_Add.j0, dec_over.f, dec_under.f]
    by_cases p1 : x + y > 9223372036854775807
    · have q1 : x > 0 := by omega
      have q2 : y > 0 := by omega
      have q3 : x + y - 18446744073709551616 ≤ 0 := by omega
      simp [p1, q1, q2, q3]
    · by_cases p2 : x + y < -9223372036854775808
      · have q1 : ¬ x > 0 := by omega
        have q2 : x < 0 := by omega
        have q3 : y < 0 := by omega
        have q4 : x + y + 18446744073709551616 ≥ 0 := by omega
        have q5 : x + y < -9223372036854775807 := by omega
        simp only [p1, p2, q1, q2, q3, q4, q5, if_true, if_false]; simp
      · by_cases p3 : x + y < -9223372036854775807
        · have q0 : x + y = -9223372036854775808 := by omega
          have q1 : ¬ x > 0 := by omega
          have q2 : x < 0 := by omega
          have q3 : y < 0 := by omega
          rw [q0] at p1 p2 p3 ⊢
          simp [q1, q2, q3]
        · simp only [p1, p2, p3, if_false]
          by_cases q1 : x > 0
          · by_cases q2 : y > 0
            · have q3 : ¬ x + y ≤ 0 := by omega
              have q4 : ¬ x < 0 := by omega
              simp [q1, q2, q3, q4]
            · have q4 : ¬ x < 0 := by omega
              simp [q1, q2, q4]
          · by_cases q4 : x < 0
            · by_cases q5 : y < 0
              · have q6 : ¬ x + y ≥ 0 := by omega
                have q7 : ¬ x + y = -9223372036854775808 := by omega
                simp [q1, q4, q5, q6, q7]
              · simp [q1, q4, q5]
            · simp [q1, q4]
  · rw [if_neg h0, if_pos (by omega)]
    simp only [bs]
    rw [if_pos trivial]
    obtain ⟨t1, v1⟩ := a
    obtain ⟨t2, v2⟩ := b
    unfold Nm at na nb
    simp only at *
    rcases na with ⟨rfl, _, _⟩ | ⟨rfl | rfl | rfl, rfl⟩ <;> rcases nb with ⟨rfl, _, _⟩ | ⟨rfl | rfl | rfl, rfl⟩ <;> first | (exfalso; omega) | rfl
theorem plus_dg {k : Nat} (hk : 2000 < k) {x y : Nat} (hx : x < 10 ^ 40) (hy : y < 10 ^ 40) : breviaryref03_plus.f k (dg x) (dg y) = some (dg (x + y)) := by
  rw [plus_f (by have := dg_le_length 40 x hx; omega) (by have := dg_le_length 40 y hy; omega) hk (dg_dig x) (dg_dig y), val_dg, val_dg]
  congr 2
theorem minus_dg {k : Nat} (hk : 2000 < k) {x y : Nat} (hx : x < 10 ^ 40) (hy : y ≤ x) : breviaryref03_minus.f k (dg x) (dg y) = some (dg (x - y)) := by
  rw [minus_f (by have := dg_le_length 40 x hx; omega) (dg_length_mono hy) hk (dg_dig x) (dg_dig y) (by rw [val_dg, val_dg]; omega), val_dg, val_dg]
  congr 2
  omega
theorem least_dg {k : Nat} (hk : 2000 < k) {x y : Nat} (hx : x < 10 ^ 40) (hy : y < 10 ^ 40) : breviaryref03_least.f k (dg x) (dg y) = some (decide (x < y)) := by
  have lx := dg_le_length 40 x hx
  have ly := dg_le_length 40 y hy
  rw [least_f (by omega) (by omega) (by omega) (dg_dig x) (dg_dig y) (val_lt_big (by omega) (dg_dig x)) (val_lt_big (by omega) (dg_dig y)), val_dg, val_dg]
  congr 1
  simp only [decide_eq_decide]
  omega
theorem lt40 {x : Nat} (h : x ≤ 18446744073709551616) : x < 10 ^ 40 := Nat.lt_of_le_of_lt h (by decide)
theorem lt60 {x : Nat} (h : x ≤ 36893488147419103232) : x < 10 ^ 60 := Nat.lt_of_le_of_lt h (by decide)
theorem sgn_num (v : Int) : sgn (0, v) = if v > 0 then 1 else if v < 0 then -1 else 0 := by unfold sgn; simp
theorem ref_Add_f {k : Nat} (hk : 5000 < k) {ta va tb vb : Int} (ha : I64 va) (hb : I64 vb) : breviaryref03_Add.f k ta va tb vb = some (addS (nrm (ta, va)) (nrm (tb, vb))) := by
  obtain ⟨k, rfl, hk'⟩ := succ_of hk
  unfold breviaryref03_Add.f
  rw [ref_none_f]
  simp only [bs]
  unfold addS
  by_cases h1 : (nrm (ta, va)).1 = 1 ∨ (nrm (tb, vb)).1 = 1
  · rw [if_pos (by simpa using h1), if_pos h1]
  · rw [if_neg (by simpa using h1), if_neg h1]
    have na := nrm_nm (t := ta) ha
    have nb := nrm_nm (t := tb) hb
    obtain ⟨e1, e2⟩ := ref_none_not h1
    rw [e1] at na h1 ⊢
    rw [e2] at nb h1 ⊢
    simp only at h1 ⊢
    simp only [breviaryref03_Add.j0]
    by_cases h2 : ta = 0
    · rw [if_pos h2, if_neg (by simp), if_pos h2, if_pos h2]
      by_cases h3 : tb = 0
      · rw [if_pos h3, if_pos h3]
        have na' := na.num h2
        have nb' := nb.num h3
        simp only at na' nb'
        rw [ref_Size_f (by omega) na', ref_Size_f (by omega) nb']
        simp only [bs]
        have s1 := ref_sign_f (k := k) (by omega) (ta, va)
        have s2 := ref_sign_f (k := k) (by omega) (tb, vb)
        simp only at s1 s2
        rw [s1, s2]
        simp only [bs]
        rw [w64_sgn_mul, h2, h3, sgn_num, sgn_num]
        obtain ⟨x, hx, hx'⟩ := ab_nat na'
        obtain ⟨y, hy, hy'⟩ := ab_nat nb'
        rw [hx, hy, Int.toNat_natCast, Int.toNat_natCast, plus_dg (by omega) (lt40 (by omega)) (lt40 (by omega)), least_dg (by omega) (lt40 (by omega)) (lt40 (by omega))]
        simp only [bs]
        rw [made_dg (by omega) _ _ (lt60 (by omega)), made_dg (by omega) _ _ (lt60 (by omega))]
        simp only [bs]
        have hx2 : (va < 0 ∧ (x : Int) = -va) ∨ (¬ va < 0 ∧ (x : Int) = va) := by unfold ab at hx; split at hx <;> omega
        have hy2 : (vb < 0 ∧ (y : Int) = -vb) ∨ (¬ vb < 0 ∧ (y : Int) = vb) := by unfold ab at hy; split at hy <;> omega
        have hneg : ∀ w : Int, (va > 0 ∧ vb < 0 ∨ va < 0 ∧ vb > 0) → w = ((if va > 0 then (1 : Int) else if va < 0 then -1 else 0) * if vb > 0 then 1 else if vb < 0 then -1 else 0) → ¬ w ≥ 0 := by
          intro w hc hw
          rcases hc with ⟨c1, c2⟩ | ⟨c1, c2⟩
          · simp [c1, c2, show ¬ vb > 0 by omega] at hw; omega
          · simp [c1, c2, show ¬ va > 0 by omega] at hw; omega
        have hpos : ∀ w : Int, ¬ (va > 0 ∧ vb < 0 ∨ va < 0 ∧ vb > 0) → w = ((if va > 0 then (1 : Int) else if va < 0 then -1 else 0) * if vb > 0 then 1 else if vb < 0 then -1 else 0) → w ≥ 0 := by
          intro w hc hw
          by_cases c1 : va > 0
          · by_cases c2 : vb > 0
            · simp [c1, c2] at hw; omega
            · have c3 : ¬ vb < 0 := by omega
              simp [c1, c2, c3] at hw; omega
          · by_cases c2 : va < 0
            · have c3 : ¬ vb > 0 := by omega
              by_cases c4 : vb < 0
              · simp [c1, c2, c3, c4] at hw; omega
              · simp [c1, c2, c3, c4] at hw; omega
            · simp [c1, c2] at hw; omega
        generalize ((if va > 0 then (1 : Int) else if va < 0 then -1 else 0) * if vb > 0 then 1 else if vb < 0 then -1 else 0) = w at *
        have hneg := hneg w
        have hpos := hpos w
        by_cases hc : va > 0 ∧ vb < 0 ∨ va < 0 ∧ vb > 0
        · rw [if_neg (hneg hc rfl)]
          by_cases r : x < y
          · rw [if_pos (decide_eq_true r), minus_dg (by omega) (lt40 (by omega)) (by omega)]
            simp only [bs]
            rw [made_dg (by omega) _ _ (lt60 (by omega))]
            simp only [bs]
            refine congrArg some (mk_is (by omega) ?_)
            by_cases q : vb < 0
            · rw [if_pos (decide_eq_true q)]; omega
            · rw [if_neg (by simpa using q)]; omega
          · rw [if_neg (by simpa using r), minus_dg (by omega) (lt40 (by omega)) (by omega)]
            simp only [bs]
            rw [made_dg (by omega) _ _ (lt60 (by omega))]
            simp only [bs]
            refine congrArg some (mk_is (by omega) ?_)
            by_cases q : va < 0
            · rw [if_pos (decide_eq_true q)]; omega
            · rw [if_neg (by simpa using q)]; omega
        · rw [if_pos (hpos hc rfl)]
          by_cases q : va < 0
          · rw [if_pos q]
            refine congrArg some (mk_is (by omega) ?_)
            rw [if_pos rfl]; omega
          · rw [if_neg q]
            refine congrArg some (mk_is (by omega) ?_)
            by_cases q' : vb < 0
            · rw [if_pos (decide_eq_true q')]; omega
            · rw [if_neg (by simpa using q')]; omega
      · rw [if_neg h3, if_neg h3]
    · rw [if_neg h2]
      by_cases h3 : tb = 0
      · rw [if_pos h3, if_neg (by simp), if_neg h2, if_neg h2, if_pos h3]
      · rw [if_neg h3]
        by_cases h4 : ta = tb
        · rw [if_neg (by simp [h4]), if_neg h2, if_neg h2, if_neg h3, if_pos h4]
        · rw [if_pos (by simpa using h4), if_neg h2, if_neg h3, if_neg h4]
end Go.Proofs.Yticpobgkbapdmaa.DecF
