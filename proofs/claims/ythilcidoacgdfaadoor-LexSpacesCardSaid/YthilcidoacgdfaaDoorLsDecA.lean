/- The reference's lists of decimal digits, as plain Lean: each of its functions (trim, least, plus, minus, product, quotient, Digits, Made) comes to what it says of the numbers. No program in sight but the printed functions. -/
import Derived.Test.YthilcidoacgdfaaDoorLsPFx0
import Derived.Test.YthilcidoacgdfaaDoorLsPFx1
import Derived.Test.YthilcidoacgdfaaDoorLsPFx2
import Derived.Test.YthilcidoacgdfaaDoorLsPFx3
import Derived.Test.YthilcidoacgdfaaDoorLsPFx4
import Derived.Test.YthilcidoacgdfaaDoorLsPFx5
import Derived.Test.YthilcidoacgdfaaDoorLsPFx6
import Derived.Test.YthilcidoacgdfaaDoorLsPFx7
import Derived.Test.YthilcidoacgdfaaDoorLsPFx8
import Derived.Test.YthilcidoacgdfaaDoorLsPFx12
namespace Go.Proofs.YthilcidoacgdfaaDoor.PF
end Go.Proofs.YthilcidoacgdfaaDoor.PF
namespace Go.Proofs.YthilcidoacgdfaaDoorW.PrintLast
end Go.Proofs.YthilcidoacgdfaaDoorW.PrintLast
namespace Go.Proofs.YthilcidoacgdfaaDoorW.PrintMore
end Go.Proofs.YthilcidoacgdfaaDoorW.PrintMore
namespace Go.Proofs.YthilcidoacgdfaaDoorW.PrintWords
end Go.Proofs.YthilcidoacgdfaaDoorW.PrintWords
namespace Go.Proofs.YthilcidoacgdfaaDoor.DecA
open Go.RowKit Go.Proofs.YthilcidoacgdfaaDoor.PF Go.Proofs.YthilcidoacgdfaaDoorW.PrintWords Go.Proofs.YthilcidoacgdfaaDoorW.PrintLast Go.Proofs.YthilcidoacgdfaaDoorW.PrintMore

/-! ### lists of digits, the last one first -/
/-! ### a whole number in its bounds -/
theorem w64 {x : Int} (h : -9223372036854775808 ≤ x) (h' : x ≤ 9223372036854775807) : wrap64 x = x := by unfold wrap64; omega
theorem u64 {x : Int} (h : 0 ≤ x) (h' : x ≤ 18446744073709551615) : IntKind.u64.wrap x = x := by
  simp [IntKind.wrap, IntKind.signed, IntKind.bits] <;> omega
end Go.Proofs.YthilcidoacgdfaaDoor.DecA
