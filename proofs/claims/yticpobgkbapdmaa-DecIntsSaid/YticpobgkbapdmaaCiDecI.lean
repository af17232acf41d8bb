/- The nine law functions, called: they return true, and nothing that was there has turned. -/
import Derived.Test.YticpobgkbapdmaaCiDecH
import Derived.OpenShut
namespace Go.Proofs.Yticpobgkbapdmaa.DecE
end Go.Proofs.Yticpobgkbapdmaa.DecE
namespace Go.Proofs.Yticpobgkbapdmaa.PD
end Go.Proofs.Yticpobgkbapdmaa.PD
namespace Go.Proofs.Yticpobgkbapdmaa.DecI
open Go.RowKit Go.Proofs.Yticpobgkbapdmaa.PD Go.Proofs.Yticpobgkbapdmaa.DecE

theorem i64 {n : Int} (h : (Lit.int .i64 n).wf = true) : I64 n := bounds_i64 h

theorem ints (n : Int) (w : World) (h : (Lit.int .i64 n).wf = true) :
    Calls Try.prog 6 #[.int .i64 n] w fun e w' => e = .returned (.bool true) ∧ Below w.heap.size w w' :=
  breviarylaw03_DecInts.calls 9000 n true w (DecH.DecInts (i64 h))
end Go.Proofs.Yticpobgkbapdmaa.DecI
