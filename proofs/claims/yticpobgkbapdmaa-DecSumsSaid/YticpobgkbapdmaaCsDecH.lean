/- The nine laws of the layer dec, as plain statements: what the program's function answers is what the document says. -/
import Derived.Test.YticpobgkbapdmaaCsDecF
namespace Go.Proofs.Yticpobgkbapdmaa.DecA
end Go.Proofs.Yticpobgkbapdmaa.DecA
namespace Go.Proofs.Yticpobgkbapdmaa.DecB
end Go.Proofs.Yticpobgkbapdmaa.DecB
namespace Go.Proofs.Yticpobgkbapdmaa.DecC
end Go.Proofs.Yticpobgkbapdmaa.DecC
namespace Go.Proofs.Yticpobgkbapdmaa.DecD
end Go.Proofs.Yticpobgkbapdmaa.DecD
namespace Go.Proofs.Yticpobgkbapdmaa.DecE
end Go.Proofs.Yticpobgkbapdmaa.DecE
namespace Go.Proofs.Yticpobgkbapdmaa.DecF
end Go.Proofs.Yticpobgkbapdmaa.DecF
namespace Go.Proofs.Yticpobgkbapdmaa.DecG
end Go.Proofs.Yticpobgkbapdmaa.DecG
namespace Go.Proofs.Yticpobgkbapdmaa.PD
end Go.Proofs.Yticpobgkbapdmaa.PD
namespace Go.Proofs.YticpobgkbapdmaaW.PrintLast
end Go.Proofs.YticpobgkbapdmaaW.PrintLast
namespace Go.Proofs.YticpobgkbapdmaaW.PrintMore
end Go.Proofs.YticpobgkbapdmaaW.PrintMore
namespace Go.Proofs.YticpobgkbapdmaaW.PrintWords
end Go.Proofs.YticpobgkbapdmaaW.PrintWords
namespace Go.Proofs.Yticpobgkbapdmaa.DecH
set_option linter.unusedSimpArgs false
set_option linter.unusedVariables false
open Go.RowKit Go.Proofs.Yticpobgkbapdmaa.PD Go.Proofs.YticpobgkbapdmaaW.PrintWords Go.Proofs.YticpobgkbapdmaaW.PrintLast Go.Proofs.YticpobgkbapdmaaW.PrintMore Go.Proofs.Yticpobgkbapdmaa.DecA Go.Proofs.Yticpobgkbapdmaa.DecB Go.Proofs.Yticpobgkbapdmaa.DecC Go.Proofs.Yticpobgkbapdmaa.DecD Go.Proofs.Yticpobgkbapdmaa.DecE Go.Proofs.Yticpobgkbapdmaa.DecF Go.Proofs.Yticpobgkbapdmaa.DecG

theorem nm_i64 {a : Int × Int} (h : Nm a) : I64 a.2 := by unfold Nm at h; unfold I64; omega
theorem nm_neg {a : Int × Int} (h : Nm a) : Nm (negS a) := by
  unfold negS
  by_cases h0 : a.1 = 0
  · have := h.num h0
    rw [if_pos h0]; exact .inl ⟨rfl, by simp only; omega, by simp only; omega⟩
  · rw [if_neg h0]
    split
    · exact .inr ⟨.inr (.inr rfl), rfl⟩
    · split
      · exact .inr ⟨.inr (.inl rfl), rfl⟩
      · exact h
theorem eqq (a : Int × Int) : (a.1 == a.1 && (a.2 == a.2)) = true := by simp

theorem works_f {k : Nat} (hk : 100 < k) : breviarylaw03_works.f k = some true := by
  unfold breviarylaw03_works.f
  rw [dec_Mul_f (by omega) (by unfold I64; omega) (by unfold I64; omega)]
  rw [show mulS (nrm (0, 1500000)) (nrm (0, 1500000)) = (0, 2250000) by decide]
  simp only [bs]
  rw [if_pos (by decide), dec_Div_f (by omega) (by unfold I64; omega) (by unfold I64; omega)]
  rw [show divS (nrm (0, 1000000)) (nrm (0, 3000000)) = (0, 333333) by decide]
  rfl

theorem DecSums {ta va tb vb : Int} (ha : I64 va) (hb : I64 vb) : breviarylaw03_DecSums.f 9000 ta va tb vb = some true := by
  have nb := nm_i64 (nm_neg (nrm_nm (t := tb) hb))
  unfold breviarylaw03_DecSums.f
  rw [dec_Add_f (by omega) ha hb, ref_Add_f (by omega) ha hb]
  simp only [bs]
  unfold dec_Sub.f
  rw [if_pos (eqq _), dec_Neg_f hb, ref_Neg_f (by omega) hb]
  simp only [bs]
  rw [dec_Add_f (by omega) ha nb, ref_Add_f (by omega) ha nb]
  simp only [bs]
  rw [if_pos (eqq _), dec_Neg_f ha, ref_Neg_f (by omega) ha]
  simp only [bs]
  rw [if_pos (eqq _), dec_Right_f, ref_Right_f]
  simp only [bs]
  rw [if_pos (by simp), works_f (by omega)]
  rfl

/-! ### orders -/
/-! ### sums and products do not ask for order -/
/-! ### what is left -/
/-! ### shifts -/
end Go.Proofs.Yticpobgkbapdmaa.DecH
