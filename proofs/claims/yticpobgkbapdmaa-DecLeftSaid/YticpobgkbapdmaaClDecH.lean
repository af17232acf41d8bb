/- The nine laws of the layer dec, as plain statements: what the program's function answers is what the document says. -/
import Derived.Test.YticpobgkbapdmaaClDecG
namespace Go.Proofs.Yticpobgkbapdmaa.DecA
end Go.Proofs.Yticpobgkbapdmaa.DecA
namespace Go.Proofs.Yticpobgkbapdmaa.DecB
end Go.Proofs.Yticpobgkbapdmaa.DecB
namespace Go.Proofs.Yticpobgkbapdmaa.DecC
end Go.Proofs.Yticpobgkbapdmaa.DecC
namespace Go.Proofs.Yticpobgkbapdmaa.DecD
end Go.Proofs.Yticpobgkbapdmaa.DecD
namespace Go.Proofs.Yticpobgkbapdmaa.DecE
end Go.Proofs.Yticpobgkbapdmaa.DecE
namespace Go.Proofs.Yticpobgkbapdmaa.DecF
end Go.Proofs.Yticpobgkbapdmaa.DecF
namespace Go.Proofs.Yticpobgkbapdmaa.DecG
end Go.Proofs.Yticpobgkbapdmaa.DecG
namespace Go.Proofs.Yticpobgkbapdmaa.PD
end Go.Proofs.Yticpobgkbapdmaa.PD
namespace Go.Proofs.YticpobgkbapdmaaW.PrintLast
end Go.Proofs.YticpobgkbapdmaaW.PrintLast
namespace Go.Proofs.YticpobgkbapdmaaW.PrintMore
end Go.Proofs.YticpobgkbapdmaaW.PrintMore
namespace Go.Proofs.YticpobgkbapdmaaW.PrintWords
end Go.Proofs.YticpobgkbapdmaaW.PrintWords
namespace Go.Proofs.Yticpobgkbapdmaa.DecH
set_option linter.unusedSimpArgs false
set_option linter.unusedVariables false
open Go.RowKit Go.Proofs.Yticpobgkbapdmaa.PD Go.Proofs.YticpobgkbapdmaaW.PrintWords Go.Proofs.YticpobgkbapdmaaW.PrintLast Go.Proofs.YticpobgkbapdmaaW.PrintMore Go.Proofs.Yticpobgkbapdmaa.DecA Go.Proofs.Yticpobgkbapdmaa.DecB Go.Proofs.Yticpobgkbapdmaa.DecC Go.Proofs.Yticpobgkbapdmaa.DecD Go.Proofs.Yticpobgkbapdmaa.DecE Go.Proofs.Yticpobgkbapdmaa.DecF Go.Proofs.Yticpobgkbapdmaa.DecG

theorem tmod_bounds (a b : Int) (ha : -9223372036854775807 ≤ a ∧ a ≤ 9223372036854775807) (hb : b ≠ 0) : -9223372036854775807 ≤ Int.tmod a b ∧ Int.tmod a b ≤ 9223372036854775807 := by
  obtain ⟨x, hx, hx'⟩ := ab_nat ha
  have h1 := Int.emod_nonneg (ab a) (show ab b ≠ 0 by have := ab_pos hb; omega)
  have h2 : ab a % ab b ≤ ab a := by
    have e := Int.ediv_mul_add_emod (ab a) (ab b)
    have p : 0 ≤ ab a / ab b * ab b := Int.mul_nonneg (Int.ediv_nonneg (by omega) (by have := ab_pos hb; omega)) (by have := ab_pos hb; omega)
    omega
  rw [tmod_ab a b hb]
  split <;> omega
theorem works_f {k : Nat} (hk : 100 < k) : breviarylaw03_works.f k = some true := by
  unfold breviarylaw03_works.f
  rw [dec_Mul_f (by omega) (by unfold I64; omega) (by unfold I64; omega)]
  rw [show mulS (nrm (0, 1500000)) (nrm (0, 1500000)) = (0, 2250000) by decide]
  simp only [bs]
  rw [if_pos (by decide), dec_Div_f (by omega) (by unfold I64; omega) (by unfold I64; omega)]
  rw [show divS (nrm (0, 1000000)) (nrm (0, 3000000)) = (0, 333333) by decide]
  rfl

/-! ### orders -/
def kk (a : Int × Int) : Int := if a.1 = 2 then 9223372036854775808 else if a.1 = 3 then -9223372036854775808 else a.2
theorem kk_num {a : Int × Int} (h : a.1 = 0) : kk a = a.2 := by unfold kk; rw [if_neg (by omega), if_neg (by omega)]
theorem cmp_key {a b : Int × Int} (ha : Nm a) (hb : Nm b) : (a.1 = 1 ∨ b.1 = 1 → cmpS a b = (0, false)) ∧ (¬ (a.1 = 1 ∨ b.1 = 1) → cmpS a b = (if kk a > kk b then 1 else if kk a = kk b then 0 else -1, true)) := by
  constructor
  · intro h; unfold cmpS; rw [if_pos h]
  · intro h
    unfold cmpS
    rw [if_neg h]
    obtain ⟨t1, v1⟩ := a
    obtain ⟨t2, v2⟩ := b
    unfold Nm at ha hb
    unfold kk
    simp only at *
    rcases ha with ⟨rfl, h1, h2⟩ | ⟨rfl | rfl | rfl, rfl⟩ <;> rcases hb with ⟨rfl, h3, h4⟩ | ⟨rfl | rfl | rfl, rfl⟩ <;> first | (exfalso; omega) | skip
    · by_cases c : v1 = v2
      · subst c; simp
      · by_cases d : v1 > v2
        · simp [c, d]
        · simp [c, d]
    · simp; omega
    · simp; omega
    · simp; omega
    · simp
    · simp
    · simp; omega
    · simp
    · simp
/-! ### sums and products do not ask for order -/
theorem right_nrm {t v : Int} (h : rightB (t, v) = true) (h0 : I64 v) : Nm (t, v) := by have := nrm_nm (t := t) h0; rwa [nrm_of h] at this
/-! ### what is left -/
theorem DecLeft {ta va tb vb : Int} (ha : I64 va) (hb : I64 vb) : breviarylaw03_DecLeft.f 9000 ta va tb vb = some true := by
  have hw : ∀ k, 100 < k → breviarylaw03_works.f k = some true := fun k hk => works_f hk
  have na := nrm_nm (t := ta) ha
  have nb := nrm_nm (t := tb) hb
  unfold breviarylaw03_DecLeft.f
  rw [dec_Mod_f (by omega) ha hb]
  simp only [bs]
  have htrue : ∀ s : Int × Int, breviarylaw03_DecLeft.j0 9000 true ta va tb vb s.1 s.2 = some true := by
    intro s
    rw [breviarylaw03_DecLeft.j0, if_pos rfl, hw _ (by omega)]
    rfl
  by_cases h1 : ta = 0
  · rw [if_pos h1]
    by_cases h2 : tb = 0
    · rw [if_pos h2, dec_Right_f]
      simp only [bs]
      by_cases h3 : rightB (ta, va) = true
      · rw [if_pos h3, dec_Right_f]
        simp only [bs]
        by_cases h4 : rightB (tb, vb) = true
        · rw [if_pos h4]
          by_cases h5 : vb = 0
          · have e5 : (vb == 0) = true := by simp [h5]
            rw [e5]; exact htrue _
          · have e5 : (vb == 0) = false := by simp [h5]
            have na' := right_nrm h3 ha
            have nb' := right_nrm h4 hb
            have v1 := na'.num h1
            have v2 := nb'.num h2
            simp only at v1 v2
            rw [nrm_of h3, nrm_of h4]
            have em : modS (ta, va) (tb, vb) = (0, Int.tmod va vb) := by unfold modS; simp [h1, h2, h5]
            rw [em, e5]
            obtain ⟨r, hr⟩ : ∃ r, r = Int.tmod va vb := ⟨_, rfl⟩
            rw [← hr]
            have hb1 := tmod_bounds va vb v1 h5
            have hdiv : vb ∣ va - r := by rw [hr]; exact ⟨Int.tdiv va vb, by have := Int.mul_tdiv_add_tmod va vb; omega⟩
            have hab : ab r < ab vb := by
              rw [hr, tmod_ab _ _ h5]
              have p := ab_pos h5
              have q1 := Int.emod_nonneg (ab va) (show ab vb ≠ 0 by omega)
              have q2 := Int.emod_lt_of_pos (ab va) p
              split
              · unfold ab at q1 q2 p ⊢; repeat' split at *
                all_goals (try split) <;> omega
              · have : ab (ab va % ab vb) = ab va % ab vb := by rw [ab, if_neg (by omega)]
                rw [this]; exact q2
            have hsign : r ≠ 0 → (r < 0 ↔ va < 0) := by
              intro hne
              rw [hr, tmod_ab _ _ h5] at hne ⊢
              have p := ab_pos h5
              have q1 := Int.emod_nonneg (ab va) (show ab vb ≠ 0 by omega)
              by_cases c : va < 0
              · rw [if_pos c] at hne ⊢; constructor <;> intro <;> omega
              · rw [if_neg c] at hne ⊢; constructor <;> intro <;> omega
            rw [← hr] at hb1
            have ir : I64 r := by unfold I64; omega
            have nr : Nm (0, r) := .inl ⟨rfl, hb1⟩
            -- the last test
            have last : ∀ (x y : Int × Int), Nm x → Nm y → x.1 = 0 → y.1 = 0 → x.2 < y.2 → ∀ k, 200 < k →
                ((dec_Cmp.f x.1 x.2 y.1 y.2).bind fun bt => (if bt.2 = true then (if bt.1 < 0 then (if vb = 0 then (none) else (if (Int.tmod (wrap64 (va - r)) vb) = 0 then ((breviarylaw03_works.f k).bind fun t488 => (some t488)) else (none))) else (none)) else (none))) = some true := by
              intro x y nx ny x0 y0 hlt k hk
              rw [dec_Cmp_f]
              have ex : nrm (x.1, x.2) = x := nrm_nrm nx
              have ey : nrm (y.1, y.2) = y := nrm_nrm ny
              rw [ex, ey, (cmp_key nx ny).2 (by omega), kk_num x0, kk_num y0, if_neg (by omega), if_neg (by omega)]
              simp only [bs]
              have hrange : wrap64 (va - r) = va - r := by
                by_cases z : r = 0
                · rw [z]; exact w64 (by omega) (by omega)
                · have := hsign z
                  exact w64 (by omega) (by omega)
              rw [if_pos trivial, if_pos (by omega), if_neg h5, hrange, if_pos (Int.tmod_eq_zero_of_dvd hdiv), hw k (by omega)]
              rfl
            have j2 : ∀ x : Int × Int, Nm x → x.1 = 0 → x.2 = ab r → breviarylaw03_DecLeft.j2 8998 ta va tb vb 0 r x.1 x.2 tb vb = some true := by
              intro x nx x0 hx
              rw [breviarylaw03_DecLeft.j2]
              by_cases c : vb < 0
              · rw [if_pos c, dec_Neg_f hb, nrm_of h4]
                have en : negS (tb, vb) = (0, -vb) := by unfold negS; simp [h2]
                rw [en]
                simp only [bs]
                have e : ab vb = -vb := by (unfold ab; rw [if_pos c])
                exact last x (0, -vb) nx (.inl ⟨rfl, by simp only; omega, by simp only; omega⟩) x0 rfl (by simp only; rw [hx, ← e]; exact hab) _ (by omega)
              · rw [if_neg c]
                have e : ab vb = vb := by (unfold ab; rw [if_neg c])
                exact last x (tb, vb) nx nb' x0 h2 (by simp only; rw [hx]; omega) _ (by omega)
            have j1 : breviarylaw03_DecLeft.j1 8999 false ta va tb vb 0 r = some true := by
              rw [breviarylaw03_DecLeft.j1, if_neg (by simp)]
              by_cases c : r < 0
              · rw [if_pos c, dec_Neg_f ir]
                have er : nrm (0, r) = (0, r) := nrm_nrm nr
                have en : negS (0, r) = (0, -r) := by unfold negS; simp
                rw [er, en]
                simp only [bs]
                exact j2 (0, -r) (.inl ⟨rfl, by simp only; omega, by simp only; omega⟩) rfl (by simp only; unfold ab; rw [if_pos c])
              · rw [if_neg c]
                exact j2 (0, r) nr rfl (by simp only; unfold ab; rw [if_neg c])
            rw [breviarylaw03_DecLeft.j0, if_neg (by simp)]
            show (if (0 : Int) = 0 then (if r = 0 then breviarylaw03_DecLeft.j1 8999 false ta va tb vb 0 r else breviarylaw03_DecLeft.j1 8999 (decide (r < 0) != decide (va < 0)) ta va tb vb 0 r) else breviarylaw03_DecLeft.j1 8999 true ta va tb vb 0 r) = some true
            rw [if_pos rfl]
            by_cases c : r = 0
            · rw [if_pos c]; exact j1
            · rw [if_neg c]
              have e : (decide (r < 0) != decide (va < 0)) = false := by
                have := hsign c
                by_cases d : r < 0
                · have d2 := this.1 d; simp [d, d2]
                · have d2 : ¬ va < 0 := fun h => d (this.2 h); simp [d, d2]
              rw [e]; exact j1
        · rw [if_neg h4]; exact htrue _
      · rw [if_neg h3]; exact htrue _
    · rw [if_neg h2]; exact htrue _
  · rw [if_neg h1]; exact htrue _

/-! ### shifts -/
end Go.Proofs.Yticpobgkbapdmaa.DecH
