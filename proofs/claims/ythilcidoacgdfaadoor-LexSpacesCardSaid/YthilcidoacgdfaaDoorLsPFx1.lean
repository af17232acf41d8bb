/- What the proof of this claim uses of PFx1: 2 declarations. -/
import Derived.Test.YthilcidoacgdfaaDoorLsPFx0
namespace Go.Proofs.YthilcidoacgdfaaDoorW.PrintLast
end Go.Proofs.YthilcidoacgdfaaDoorW.PrintLast
namespace Go.Proofs.YthilcidoacgdfaaDoorW.PrintMore
end Go.Proofs.YthilcidoacgdfaaDoorW.PrintMore
namespace Go.Proofs.YthilcidoacgdfaaDoorW.PrintWords
end Go.Proofs.YthilcidoacgdfaaDoorW.PrintWords
namespace Go.Proofs.YthilcidoacgdfaaDoor.PF
open Go.RowKit Go.Proofs.YthilcidoacgdfaaDoorW.PrintWords Go.Proofs.YthilcidoacgdfaaDoorW.PrintLast Go.Proofs.YthilcidoacgdfaaDoorW.PrintMore

set_option linter.unusedVariables false
set_option linter.unusedSimpArgs false

theorem eqA23 (d : Nat) (w : World) (x0 y0 : Int) (x1 y1 : Int) :
    (Op.equalIn (d + 2) 23 (.agg #[.int .i64 x0, .int .i64 x1]) (.agg #[.int .i64 y0, .int .i64 y1])).run Tryd.prog w = .ok (x0 == y0 && (x1 == y1)) w := by
  refine eqA_of Tryd.underlying23 (by kernel_rfl) ?_
  refine eqf_cons (by rfl) (by go_simp; rfl) (by go_simp; rfl) (by go_simp) ?_
  exact eqf_last (by rfl) (by go_simp; rfl) (by go_simp; rfl) (by go_simp)
theorem eqA38 (d : Nat) (w : World) (x0 y0 : Int) (x1 y1 : ByteArray) (x2 y2 : Int) (x3 y3 : Int) :
    (Op.equalIn (d + 3) 38 (.agg #[.int .i64 x0, .string x1, .int .i64 x2, .int .i64 x3]) (.agg #[.int .i64 y0, .string y1, .int .i64 y2, .int .i64 y3])).run Tryd.prog w = .ok (x0 == y0 && (x1.toList == y1.toList && ((x2 == y2 && (x3 == y3))))) w := by
  refine eqA_of Tryd.underlying38 (by kernel_rfl) ?_
  refine eqf_cons (by rfl) (by go_simp; rfl) (by go_simp; rfl) (by go_simp) ?_
  refine eqf_cons (by rfl) (by go_simp; rfl) (by go_simp; rfl) (by go_simp) ?_
  exact eqf_last (by rfl) (by go_simp) (by go_simp) (eqA23 (d + 0) w _ _ _ _)
end Go.Proofs.YthilcidoacgdfaaDoor.PF
