/- The nine laws of the layer dec, as plain statements: what the program's function answers is what the document says. -/
import Derived.Test.YticpobgkbapdmaaCoDecG
namespace Go.Proofs.Yticpobgkbapdmaa.DecA
end Go.Proofs.Yticpobgkbapdmaa.DecA
namespace Go.Proofs.Yticpobgkbapdmaa.DecB
end Go.Proofs.Yticpobgkbapdmaa.DecB
namespace Go.Proofs.Yticpobgkbapdmaa.DecC
end Go.Proofs.Yticpobgkbapdmaa.DecC
namespace Go.Proofs.Yticpobgkbapdmaa.DecD
end Go.Proofs.Yticpobgkbapdmaa.DecD
namespace Go.Proofs.Yticpobgkbapdmaa.DecE
end Go.Proofs.Yticpobgkbapdmaa.DecE
namespace Go.Proofs.Yticpobgkbapdmaa.DecF
end Go.Proofs.Yticpobgkbapdmaa.DecF
namespace Go.Proofs.Yticpobgkbapdmaa.DecG
end Go.Proofs.Yticpobgkbapdmaa.DecG
namespace Go.Proofs.Yticpobgkbapdmaa.PD
end Go.Proofs.Yticpobgkbapdmaa.PD
namespace Go.Proofs.YticpobgkbapdmaaW.PrintLast
end Go.Proofs.YticpobgkbapdmaaW.PrintLast
namespace Go.Proofs.YticpobgkbapdmaaW.PrintMore
end Go.Proofs.YticpobgkbapdmaaW.PrintMore
namespace Go.Proofs.YticpobgkbapdmaaW.PrintWords
end Go.Proofs.YticpobgkbapdmaaW.PrintWords
namespace Go.Proofs.Yticpobgkbapdmaa.DecH
set_option linter.unusedSimpArgs false
set_option linter.unusedVariables false
open Go.RowKit Go.Proofs.Yticpobgkbapdmaa.PD Go.Proofs.YticpobgkbapdmaaW.PrintWords Go.Proofs.YticpobgkbapdmaaW.PrintLast Go.Proofs.YticpobgkbapdmaaW.PrintMore Go.Proofs.Yticpobgkbapdmaa.DecA Go.Proofs.Yticpobgkbapdmaa.DecB Go.Proofs.Yticpobgkbapdmaa.DecC Go.Proofs.Yticpobgkbapdmaa.DecD Go.Proofs.Yticpobgkbapdmaa.DecE Go.Proofs.Yticpobgkbapdmaa.DecF Go.Proofs.Yticpobgkbapdmaa.DecG

theorem works_f {k : Nat} (hk : 100 < k) : breviarylaw03_works.f k = some true := by
  unfold breviarylaw03_works.f
  rw [dec_Mul_f (by omega) (by unfold I64; omega) (by unfold I64; omega)]
  rw [show mulS (nrm (0, 1500000)) (nrm (0, 1500000)) = (0, 2250000) by decide]
  simp only [bs]
  rw [if_pos (by decide), dec_Div_f (by omega) (by unfold I64; omega) (by unfold I64; omega)]
  rw [show divS (nrm (0, 1000000)) (nrm (0, 3000000)) = (0, 333333) by decide]
  rfl

/-! ### orders -/
def kk (a : Int × Int) : Int := if a.1 = 2 then 9223372036854775808 else if a.1 = 3 then -9223372036854775808 else a.2
theorem cmp_key {a b : Int × Int} (ha : Nm a) (hb : Nm b) : (a.1 = 1 ∨ b.1 = 1 → cmpS a b = (0, false)) ∧ (¬ (a.1 = 1 ∨ b.1 = 1) → cmpS a b = (if kk a > kk b then 1 else if kk a = kk b then 0 else -1, true)) := by
  constructor
  · intro h; unfold cmpS; rw [if_pos h]
  · intro h
    unfold cmpS
    rw [if_neg h]
    obtain ⟨t1, v1⟩ := a
    obtain ⟨t2, v2⟩ := b
    unfold Nm at ha hb
    unfold kk
    simp only at *
    rcases ha with ⟨rfl, h1, h2⟩ | ⟨rfl | rfl | rfl, rfl⟩ <;> rcases hb with ⟨rfl, h3, h4⟩ | ⟨rfl | rfl | rfl, rfl⟩ <;> first | (exfalso; omega) | skip
    · by_cases c : v1 = v2
      · subst c; simp
      · by_cases d : v1 > v2
        · simp [c, d]
        · simp [c, d]
    · simp; omega
    · simp; omega
    · simp; omega
    · simp
    · simp
    · simp; omega
    · simp
    · simp
theorem DecOrders {ta va tb vb tc vc : Int} (ha : I64 va) (hb : I64 vb) (hc : I64 vc) : breviarylaw03_DecOrders.f 9000 ta va tb vb tc vc = some true := by
  unfold breviarylaw03_DecOrders.f
  rw [dec_Cmp_f, dec_Cmp_f, dec_Cmp_f, dec_Cmp_f]
  simp only [bs]
  have na := nrm_nm (t := ta) ha
  have nb := nrm_nm (t := tb) hb
  have nc := nrm_nm (t := tc) hc
  generalize nrm (ta, va) = a at *
  generalize nrm (tb, vb) = b at *
  generalize nrm (tc, vc) = c at *
  have kab := cmp_key na nb
  have kbc := cmp_key nb nc
  have kac := cmp_key na nc
  have kba := cmp_key nb na
  have hw := works_f (k := 8999) (by omega)
  have fin : ∀ (x y z : Int) (is was so : Bool), (is = true → was = true → x ≤ 0 → y ≤ 0 → so = true ∧ ¬ z > 0 ∧ ((x < 0 ∨ y < 0) → z ≠ 0)) →
      breviarylaw03_DecOrders.j0 9000 x is y was z so false = some true := by
    intro x y z is was so hh
    rw [breviarylaw03_DecOrders.j0, hw]
    simp only [bs]
    rw [if_neg (by simp)]
    by_cases h1 : is = true
    · rw [if_pos h1]
      by_cases h2 : was = true
      · rw [if_pos h2]
        by_cases h3 : x ≤ 0
        · rw [if_pos h3]
          by_cases h4 : y ≤ 0
          · rw [if_pos h4]
            obtain ⟨g1, g2, g3⟩ := hh h1 h2 h3 h4
            rw [if_pos g1, if_neg g2]
            by_cases h5 : x < 0
            · rw [if_pos h5, if_neg (g3 (.inl h5))]
            · rw [if_neg h5]
              by_cases h6 : y < 0
              · rw [if_pos h6, if_neg (g3 (.inr h6))]
              · rw [if_neg h6]
          · rw [if_neg h4]
        · rw [if_neg h3]
      · rw [if_neg h2]
    · rw [if_neg h1]
  by_cases h1 : a.1 = 1 ∨ b.1 = 1
  · rw [kab.1 h1, kba.1 (by omega)]
    rw [if_neg (by simp)]
    have e : ((0 : Int) != wrap64 (-0)) = false := by rw [w64 (by omega) (by omega)]; decide
    rw [e]
    exact fin _ _ _ _ _ _ (fun h => by cases h)
  · rw [kab.2 h1, kba.2 (by omega)]
    rw [if_neg (by simp)]
    have e : ((if kk b > kk a then (1 : Int) else if kk b = kk a then 0 else -1) != wrap64 (-(if kk a > kk b then (1 : Int) else if kk a = kk b then 0 else -1))) = false := by
      by_cases p : kk a > kk b
      · have p1 : ¬ kk b > kk a := by omega
        have p2 : ¬ kk b = kk a := by omega
        simp only [p, p1, p2, if_true, if_false]; rw [w64 (by omega) (by omega)]; decide
      · by_cases q : kk a = kk b
        · rw [q]; simp; rw [w64 (by omega) (by omega)]
        · have p1 : kk b > kk a := by omega
          simp only [p, p1, q, if_true, if_false]; rw [w64 (by omega) (by omega)]; decide
    simp only
    rw [e]
    refine fin _ _ _ _ _ _ ?_
    intro _ hwas hx hy
    by_cases h2 : b.1 = 1 ∨ c.1 = 1
    · rw [kbc.1 h2] at hwas; cases hwas
    · have h3 : ¬ (a.1 = 1 ∨ c.1 = 1) := by omega
      rw [kbc.2 h2] at hy ⊢
      rw [kac.2 h3]
      simp only at hx hy ⊢
      have hx' : kk a ≤ kk b := by
        apply Decidable.byContradiction; intro hn
        rw [if_pos (by omega)] at hx; omega
      have hy' : kk b ≤ kk c := by
        apply Decidable.byContradiction; intro hn
        rw [if_pos (by omega)] at hy; omega
      refine ⟨trivial, ?_, ?_⟩
      · rw [if_neg (show ¬ kk a > kk c by omega)]; split <;> omega
      · intro hlt
        rw [if_neg (show ¬ kk a > kk b by omega), if_neg (show ¬ kk b > kk c by omega)] at hlt
        rw [if_neg (show ¬ kk a > kk c by omega)]
        by_cases p : kk a = kk b
        · by_cases q : kk b = kk c
          · rw [if_pos p, if_pos q] at hlt; omega
          · rw [if_neg (show ¬ kk a = kk c by omega)]; omega
        · rw [if_neg (show ¬ kk a = kk c by omega)]; omega

/-! ### sums and products do not ask for order -/
/-! ### what is left -/
/-! ### shifts -/
end Go.Proofs.Yticpobgkbapdmaa.DecH
