/- char.Blank, Text, Name: ranges over a string. -/
import Derived.Test.YticpobgkbapdmaaDoorProg
import Derived.Test.YticpobgkbapdmaaDoorZjWWords
import Derived.Test.YticpobgkbapdmaaDoorZjWLast
import Derived.Test.YticpobgkbapdmaaDoorZjWMore
import Derived.Laws.Externs
import Derived.Great.BuildSlice
import Derived.Deep.WholeRow
import Derived.Deep.QuietTactic
import Derived.Test.YticpobgkbapdmaaDoorZjPR1x0
import Derived.Test.YticpobgkbapdmaaDoorZjPR1x2
import Derived.Test.YticpobgkbapdmaaDoorZjPR1x3
import Derived.Lib.OthersKept
import Derived.Lib.ValidU
import Derived.Test.YticpobgkbapdmaaDoorZjShelfV
namespace Go.Proofs.YticpobgkbapdmaaDoor.CharA
end Go.Proofs.YticpobgkbapdmaaDoor.CharA
namespace Go.Proofs.YticpobgkbapdmaaDoorW.PrintLast
end Go.Proofs.YticpobgkbapdmaaDoorW.PrintLast
namespace Go.Proofs.YticpobgkbapdmaaDoorW.PrintMore
end Go.Proofs.YticpobgkbapdmaaDoorW.PrintMore
namespace Go.Proofs.YticpobgkbapdmaaDoorW.PrintWords
end Go.Proofs.YticpobgkbapdmaaDoorW.PrintWords
namespace Go.Proofs.YticpobgkbapdmaaDoor.CharB
open Go.RowKit Go.Proofs.YticpobgkbapdmaaDoorW.PrintWords Go.Proofs.YticpobgkbapdmaaDoorW.PrintLast Go.Proofs.YticpobgkbapdmaaDoorW.PrintMore Go.Proofs.YticpobgkbapdmaaDoor.CharA
set_option linter.unusedVariables false
set_option linter.unusedSimpArgs false
theorem width_pos (s : ByteArray) (pos : Nat) (h : pos < s.size) : 1 ≤ (Utf8.decode s pos).2 := by
  by_cases ha : (s[pos]'h).toNat < 128
  · rw [decode_ascii s pos h ha]
    exact Nat.le_refl _
  · exact (decode_high s pos h (by omega)).2
end Go.Proofs.YticpobgkbapdmaaDoor.CharB
