/- The nine laws of the layer dec, as plain statements: what the program's function answers is what the document says. -/
import Derived.Test.YticpobgkbapdmaaCrDecF
namespace Go.Proofs.Yticpobgkbapdmaa.DecA
end Go.Proofs.Yticpobgkbapdmaa.DecA
namespace Go.Proofs.Yticpobgkbapdmaa.DecB
end Go.Proofs.Yticpobgkbapdmaa.DecB
namespace Go.Proofs.Yticpobgkbapdmaa.DecC
end Go.Proofs.Yticpobgkbapdmaa.DecC
namespace Go.Proofs.Yticpobgkbapdmaa.DecD
end Go.Proofs.Yticpobgkbapdmaa.DecD
namespace Go.Proofs.Yticpobgkbapdmaa.DecE
end Go.Proofs.Yticpobgkbapdmaa.DecE
namespace Go.Proofs.Yticpobgkbapdmaa.DecF
end Go.Proofs.Yticpobgkbapdmaa.DecF
namespace Go.Proofs.Yticpobgkbapdmaa.DecG
end Go.Proofs.Yticpobgkbapdmaa.DecG
namespace Go.Proofs.Yticpobgkbapdmaa.PD
end Go.Proofs.Yticpobgkbapdmaa.PD
namespace Go.Proofs.YticpobgkbapdmaaW.PrintLast
end Go.Proofs.YticpobgkbapdmaaW.PrintLast
namespace Go.Proofs.YticpobgkbapdmaaW.PrintMore
end Go.Proofs.YticpobgkbapdmaaW.PrintMore
namespace Go.Proofs.YticpobgkbapdmaaW.PrintWords
end Go.Proofs.YticpobgkbapdmaaW.PrintWords
namespace Go.Proofs.Yticpobgkbapdmaa.DecH
set_option linter.unusedSimpArgs false
set_option linter.unusedVariables false
open Go.RowKit Go.Proofs.Yticpobgkbapdmaa.PD Go.Proofs.YticpobgkbapdmaaW.PrintWords Go.Proofs.YticpobgkbapdmaaW.PrintLast Go.Proofs.YticpobgkbapdmaaW.PrintMore Go.Proofs.Yticpobgkbapdmaa.DecA Go.Proofs.Yticpobgkbapdmaa.DecB Go.Proofs.Yticpobgkbapdmaa.DecC Go.Proofs.Yticpobgkbapdmaa.DecD Go.Proofs.Yticpobgkbapdmaa.DecE Go.Proofs.Yticpobgkbapdmaa.DecF Go.Proofs.Yticpobgkbapdmaa.DecG

theorem nm_i64 {a : Int × Int} (h : Nm a) : I64 a.2 := by unfold Nm at h; unfold I64; omega
theorem nm_addN (s : Int) : Nm (addN s) := by unfold addN Nm; split; simp; split; simp; simp; omega
theorem nm_neg {a : Int × Int} (h : Nm a) : Nm (negS a) := by
  unfold negS
  by_cases h0 : a.1 = 0
  · have := h.num h0
    rw [if_pos h0]; exact .inl ⟨rfl, by simp only; omega, by simp only; omega⟩
  · rw [if_neg h0]
    split
    · exact .inr ⟨.inr (.inr rfl), rfl⟩
    · split
      · exact .inr ⟨.inr (.inl rfl), rfl⟩
      · exact h
theorem nm_add {a b : Int × Int} (ha : Nm a) (hb : Nm b) : Nm (addS a b) := by
  unfold addS
  repeat' split
  all_goals first | exact ha | exact hb | exact nm_addN _ | exact .inr ⟨.inl rfl, rfl⟩
theorem works_f {k : Nat} (hk : 100 < k) : breviarylaw03_works.f k = some true := by
  unfold breviarylaw03_works.f
  rw [dec_Mul_f (by omega) (by unfold I64; omega) (by unfold I64; omega)]
  rw [show mulS (nrm (0, 1500000)) (nrm (0, 1500000)) = (0, 2250000) by decide]
  simp only [bs]
  rw [if_pos (by decide), dec_Div_f (by omega) (by unfold I64; omega) (by unfold I64; omega)]
  rw [show divS (nrm (0, 1000000)) (nrm (0, 3000000)) = (0, 333333) by decide]
  rfl

/-! ### orders -/
/-! ### sums and products do not ask for order -/
theorem addS_comm {a b : Int × Int} (ha : Nm a) (hb : Nm b) : addS a b = addS b a := by
  unfold addS
  by_cases h1 : a.1 = 1 ∨ b.1 = 1
  · rw [if_pos h1, if_pos (show b.1 = 1 ∨ a.1 = 1 by omega)]
  · rw [if_neg h1, if_neg (show ¬ (b.1 = 1 ∨ a.1 = 1) by omega)]
    by_cases h2 : a.1 = 0
    · simp only [h2, if_true]
      by_cases h3 : b.1 = 0
      · simp only [h3, if_true, Int.add_comm]
      · simp only [h3, if_false]
    · simp only [h2, if_false]
      by_cases h3 : b.1 = 0
      · simp only [h3, if_true]
      · simp only [h3, if_false]
        by_cases h4 : a.1 = b.1
        · rw [if_pos h4, if_pos h4.symm]
          have h5 : a.2 = b.2 := by unfold Nm at ha hb; omega
          exact Prod.ext h4 h5
        · rw [if_neg h4, if_neg (show ¬ b.1 = a.1 by omega)]
theorem mulS_comm (a b : Int × Int) : mulS a b = mulS b a := by
  unfold mulS
  rw [Int.mul_comm (sgn a), Int.mul_comm (ab a.2)]
  by_cases h1 : a.1 = 1 ∨ b.1 = 1
  · rw [if_pos h1, if_pos (show b.1 = 1 ∨ a.1 = 1 by omega)]
  · rw [if_neg h1, if_neg (show ¬ (b.1 = 1 ∨ a.1 = 1) by omega)]
    by_cases h2 : a.1 ≠ 0 ∨ b.1 ≠ 0
    · rw [if_pos h2, if_pos (show b.1 ≠ 0 ∨ a.1 ≠ 0 by omega)]
    · rw [if_neg h2, if_neg (show ¬ (b.1 ≠ 0 ∨ a.1 ≠ 0) by omega)]
theorem neqq (a : Int × Int) : ¬ ((!(a.1 == a.1) || (!(a.2 == a.2))) = true) := by simp
theorem right_nrm {t v : Int} (h : rightB (t, v) = true) (h0 : I64 v) : Nm (t, v) := by have := nrm_nm (t := t) h0; rwa [nrm_of h] at this
theorem DecOrder {ta va tb vb : Int} (ha : I64 va) (hb : I64 vb) : breviarylaw03_DecOrder.f 9000 ta va tb vb = some true := by
  have na := nrm_nm (t := ta) ha
  have nb := nrm_nm (t := tb) hb
  have ns := nm_add na nb
  have hw : ∀ k, 100 < k → breviarylaw03_works.f k = some true := fun k hk => works_f hk
  unfold breviarylaw03_DecOrder.f
  rw [dec_Add_f (by omega) ha hb, dec_Add_f (by omega) hb ha, addS_comm nb na]
  simp only [bs]
  rw [if_neg (neqq _), dec_Mul_f (by omega) ha hb, dec_Mul_f (by omega) hb ha, mulS_comm (nrm (tb, vb))]
  simp only [bs]
  rw [show (!((mulS (nrm (ta, va)) (nrm (tb, vb))).1 == (mulS (nrm (ta, va)) (nrm (tb, vb))).1) || (!((mulS (nrm (ta, va)) (nrm (tb, vb))).2 == (mulS (nrm (ta, va)) (nrm (tb, vb))).2))) = false by simp]
  rw [breviarylaw03_DecOrder.j0, if_neg (by simp), dec_Add_f (by omega) ha hb]
  simp only [bs]
  have hfalse : ∀ s : Int × Int, breviarylaw03_DecOrder.j1 8999 false ta va tb vb s.1 s.2 = some true := by
    intro s
    rw [breviarylaw03_DecOrder.j1, if_neg (by simp), hw _ (by omega)]
    rfl
  by_cases h1 : ta = 0
  · rw [if_pos h1]
    by_cases h2 : tb = 0
    · rw [if_pos h2, dec_Right_f]
      simp only [bs]
      by_cases h3 : rightB (ta, va) = true
      · rw [if_pos h3, dec_Right_f]
        simp only [bs]
        by_cases h4 : rightB (tb, vb) = true
        · rw [if_pos h4]
          by_cases h5 : (addS (nrm (ta, va)) (nrm (tb, vb))).1 = 0
          · have e5 : ((addS (nrm (ta, va)) (nrm (tb, vb))).1 == 0) = true := by simp [h5]
            rw [e5]
            have na' := right_nrm h3 ha
            have nb' := right_nrm h4 hb
            have i2 := nm_i64 ns
            rw [nrm_of h3, nrm_of h4] at h5 ns i2 ⊢
            rw [breviarylaw03_DecOrder.j1, if_pos rfl]
            unfold dec_Sub.f
            have n2 := nm_neg nb'
            rw [dec_Neg_f hb, nrm_of h4]
            simp only [bs]
            rw [dec_Add_f (by omega) i2 (nm_i64 n2)]
            simp only [bs]
            have e6 : nrm ((addS (ta, va) (tb, vb)).1, (addS (ta, va) (tb, vb)).2) = addS (ta, va) (tb, vb) := nrm_nrm ns
            have e7 : nrm ((negS (tb, vb)).1, (negS (tb, vb)).2) = negS (tb, vb) := nrm_nrm n2
            rw [e6, e7]
            have v1 := na'.num h1
            have v2 := nb'.num h2
            simp only at v1 v2
            have e8 : addS (ta, va) (tb, vb) = addN (va + vb) := by unfold addS; simp [h1, h2]
            rw [e8] at h5 ⊢
            have e9 : addN (va + vb) = (0, va + vb) ∧ -9223372036854775807 ≤ va + vb ∧ va + vb ≤ 9223372036854775807 := by
              unfold addN at h5 ⊢
              by_cases c1 : va + vb > 9223372036854775807
              · simp [c1] at h5
              · by_cases c2 : va + vb < -9223372036854775807
                · simp [c1] at h5
                · rw [if_neg c1, if_neg c2]; exact ⟨rfl, by omega, by omega⟩
            have e10 : negS (tb, vb) = (0, -vb) := by unfold negS; simp [h2]
            rw [e9.1, e10]
            have e11 : addS (0, va + vb) (0, -vb) = (0, va) := by
              have e12 : va + vb + -vb = va := by omega
              have e13 : addN va = (0, va) := by unfold addN; rw [if_neg (by omega), if_neg (by omega)]
              unfold addS
              simp [e12, e13]
            rw [e11, if_pos (by simp [h1]), hw _ (by omega)]
            rfl
          · have e5 : ((addS (nrm (ta, va)) (nrm (tb, vb))).1 == 0) = false := by simp [h5]
            rw [e5]
            exact hfalse _
        · rw [if_neg h4]; exact hfalse _
      · rw [if_neg h3]; exact hfalse _
    · rw [if_neg h2]; exact hfalse _
  · rw [if_neg h1]; exact hfalse _

/-! ### what is left -/
/-! ### shifts -/
end Go.Proofs.Yticpobgkbapdmaa.DecH
