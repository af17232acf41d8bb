/- The nine law functions, called: they return true, and nothing that was there has turned. -/
import Derived.Test.YticpobgkbapdmaaChDecH
import Derived.OpenShut
namespace Go.Proofs.Yticpobgkbapdmaa.DecE
end Go.Proofs.Yticpobgkbapdmaa.DecE
namespace Go.Proofs.Yticpobgkbapdmaa.PD
end Go.Proofs.Yticpobgkbapdmaa.PD
namespace Go.Proofs.Yticpobgkbapdmaa.DecI
open Go.RowKit Go.Proofs.Yticpobgkbapdmaa.PD Go.Proofs.Yticpobgkbapdmaa.DecE

theorem i64 {n : Int} (h : (Lit.int .i64 n).wf = true) : I64 n := bounds_i64 h

theorem shifts (t v n : Int) (w : World) (_ : (Lit.int .i64 t).wf = true) (h1 : (Lit.int .i64 v).wf = true) (_ : (Lit.int .i32 n).wf = true) :
    Calls Try.prog 11 #[.agg #[.int .i64 t, .int .i64 v], .int .i32 n] w fun e w' => e = .returned (.bool true) ∧ Below w.heap.size w w' :=
  breviarylaw03_DecShifts.calls 9000 t v n true w (DecH.DecShifts (i64 h1))
end Go.Proofs.Yticpobgkbapdmaa.DecI
