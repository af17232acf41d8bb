/- The nine laws of the layer dec, as plain statements: what the program's function answers is what the document says. -/
import Derived.Test.YticpobgkbapdmaaCiDecG
namespace Go.Proofs.Yticpobgkbapdmaa.DecA
end Go.Proofs.Yticpobgkbapdmaa.DecA
namespace Go.Proofs.Yticpobgkbapdmaa.DecB
end Go.Proofs.Yticpobgkbapdmaa.DecB
namespace Go.Proofs.Yticpobgkbapdmaa.DecC
end Go.Proofs.Yticpobgkbapdmaa.DecC
namespace Go.Proofs.Yticpobgkbapdmaa.DecD
end Go.Proofs.Yticpobgkbapdmaa.DecD
namespace Go.Proofs.Yticpobgkbapdmaa.DecE
end Go.Proofs.Yticpobgkbapdmaa.DecE
namespace Go.Proofs.Yticpobgkbapdmaa.DecF
end Go.Proofs.Yticpobgkbapdmaa.DecF
namespace Go.Proofs.Yticpobgkbapdmaa.DecG
end Go.Proofs.Yticpobgkbapdmaa.DecG
namespace Go.Proofs.Yticpobgkbapdmaa.PD
end Go.Proofs.Yticpobgkbapdmaa.PD
namespace Go.Proofs.YticpobgkbapdmaaW.PrintLast
end Go.Proofs.YticpobgkbapdmaaW.PrintLast
namespace Go.Proofs.YticpobgkbapdmaaW.PrintMore
end Go.Proofs.YticpobgkbapdmaaW.PrintMore
namespace Go.Proofs.YticpobgkbapdmaaW.PrintWords
end Go.Proofs.YticpobgkbapdmaaW.PrintWords
namespace Go.Proofs.Yticpobgkbapdmaa.DecH
set_option linter.unusedSimpArgs false
set_option linter.unusedVariables false
open Go.RowKit Go.Proofs.Yticpobgkbapdmaa.PD Go.Proofs.YticpobgkbapdmaaW.PrintWords Go.Proofs.YticpobgkbapdmaaW.PrintLast Go.Proofs.YticpobgkbapdmaaW.PrintMore Go.Proofs.Yticpobgkbapdmaa.DecA Go.Proofs.Yticpobgkbapdmaa.DecB Go.Proofs.Yticpobgkbapdmaa.DecC Go.Proofs.Yticpobgkbapdmaa.DecD Go.Proofs.Yticpobgkbapdmaa.DecE Go.Proofs.Yticpobgkbapdmaa.DecF Go.Proofs.Yticpobgkbapdmaa.DecG

theorem nm_i64 {a : Int × Int} (h : Nm a) : I64 a.2 := by unfold Nm at h; unfold I64; omega
theorem nm_addN (s : Int) : Nm (addN s) := by unfold addN Nm; split; simp; split; simp; simp; omega
theorem eqq (a : Int × Int) : (a.1 == a.1 && (a.2 == a.2)) = true := by simp

theorem works_f {k : Nat} (hk : 100 < k) : breviarylaw03_works.f k = some true := by
  unfold breviarylaw03_works.f
  rw [dec_Mul_f (by omega) (by unfold I64; omega) (by unfold I64; omega)]
  rw [show mulS (nrm (0, 1500000)) (nrm (0, 1500000)) = (0, 2250000) by decide]
  simp only [bs]
  rw [if_pos (by decide), dec_Div_f (by omega) (by unfold I64; omega) (by unfold I64; omega)]
  rw [show divS (nrm (0, 1000000)) (nrm (0, 3000000)) = (0, 333333) by decide]
  rfl

theorem DecInts {n : Int} (h : I64 n) : breviarylaw03_DecInts.f 9000 n = some true := by
  have nd := nm_addN (n * 1000000)
  have id := nm_i64 nd
  unfold breviarylaw03_DecInts.f
  rw [dec_Int_f (by omega) h, ref_Int_f (by omega) h]
  simp only [bs]
  rw [dec_Whole_f id]
  simp only [bs]
  rw [if_pos (eqq _), works_f (by omega)]
  simp only [bs]
  have e : nrm ((addN (n * 1000000)).1, (addN (n * 1000000)).2) = addN (n * 1000000) := nrm_nrm nd
  rw [e]
  unfold wholeS
  by_cases c : (addN (n * 1000000)).1 = 0
  · have hv : (addN (n * 1000000)).2 = n * 1000000 := by
      unfold addN at c ⊢
      split at c
      · simp at c
      · split at c
        · simp at c
        · rename_i h1 h2; rw [if_neg h1, if_neg h2]
    have hm : Int.tmod (n * 1000000) 1000000 = 0 := Int.mul_tmod_left n 1000000
    rw [if_pos c, hv, if_pos hm]
    have hd : n * 1000000 / 1000000 = n := by omega
    simp [c, hd]
  · rw [if_neg c]
    simp [c]

/-! ### orders -/
/-! ### sums and products do not ask for order -/
/-! ### what is left -/
/-! ### shifts -/
end Go.Proofs.Yticpobgkbapdmaa.DecH
