/- The nine law functions, called: they return true, and nothing that was there has turned. -/
import Derived.Test.YticpobgkbapdmaaCrDecH
import Derived.OpenShut
namespace Go.Proofs.Yticpobgkbapdmaa.DecE
end Go.Proofs.Yticpobgkbapdmaa.DecE
namespace Go.Proofs.Yticpobgkbapdmaa.PD
end Go.Proofs.Yticpobgkbapdmaa.PD
namespace Go.Proofs.Yticpobgkbapdmaa.DecI
open Go.RowKit Go.Proofs.Yticpobgkbapdmaa.PD Go.Proofs.Yticpobgkbapdmaa.DecE

theorem i64 {n : Int} (h : (Lit.int .i64 n).wf = true) : I64 n := bounds_i64 h

theorem order (ta va tb vb : Int) (w : World) (_ : (Lit.int .i64 ta).wf = true) (h1 : (Lit.int .i64 va).wf = true) (_ : (Lit.int .i64 tb).wf = true) (h3 : (Lit.int .i64 vb).wf = true) :
    Calls Try.prog 9 #[.agg #[.int .i64 ta, .int .i64 va], .agg #[.int .i64 tb, .int .i64 vb]] w fun e w' => e = .returned (.bool true) ∧ Below w.heap.size w w' :=
  breviarylaw03_DecOrder.calls 9000 ta va tb vb true w (DecH.DecOrder (i64 h1) (i64 h3))
end Go.Proofs.Yticpobgkbapdmaa.DecI
