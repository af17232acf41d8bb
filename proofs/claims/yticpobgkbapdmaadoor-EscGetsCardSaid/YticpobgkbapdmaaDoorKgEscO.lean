/- The laws of esc that put and get back, and that get one character: their walks. -/
import Derived.Test.YticpobgkbapdmaaDoorKgEscN
namespace Go.Proofs.YticpobgkbapdmaaDoor.CharA
end Go.Proofs.YticpobgkbapdmaaDoor.CharA
namespace Go.Proofs.YticpobgkbapdmaaDoor.CharB
end Go.Proofs.YticpobgkbapdmaaDoor.CharB
namespace Go.Proofs.YticpobgkbapdmaaDoor.CharC
end Go.Proofs.YticpobgkbapdmaaDoor.CharC
namespace Go.Proofs.YticpobgkbapdmaaDoor.CharD
end Go.Proofs.YticpobgkbapdmaaDoor.CharD
namespace Go.Proofs.YticpobgkbapdmaaDoor.CharE
end Go.Proofs.YticpobgkbapdmaaDoor.CharE
namespace Go.Proofs.YticpobgkbapdmaaDoor.CharF
end Go.Proofs.YticpobgkbapdmaaDoor.CharF
namespace Go.Proofs.YticpobgkbapdmaaDoor.CharH
end Go.Proofs.YticpobgkbapdmaaDoor.CharH
namespace Go.Proofs.YticpobgkbapdmaaDoor.EscA
end Go.Proofs.YticpobgkbapdmaaDoor.EscA
namespace Go.Proofs.YticpobgkbapdmaaDoor.EscB
end Go.Proofs.YticpobgkbapdmaaDoor.EscB
namespace Go.Proofs.YticpobgkbapdmaaDoor.EscC
end Go.Proofs.YticpobgkbapdmaaDoor.EscC
namespace Go.Proofs.YticpobgkbapdmaaDoor.EscD
end Go.Proofs.YticpobgkbapdmaaDoor.EscD
namespace Go.Proofs.YticpobgkbapdmaaDoor.EscF
end Go.Proofs.YticpobgkbapdmaaDoor.EscF
namespace Go.Proofs.YticpobgkbapdmaaDoor.EscG
end Go.Proofs.YticpobgkbapdmaaDoor.EscG
namespace Go.Proofs.YticpobgkbapdmaaDoor.EscI
end Go.Proofs.YticpobgkbapdmaaDoor.EscI
namespace Go.Proofs.YticpobgkbapdmaaDoor.EscJ
end Go.Proofs.YticpobgkbapdmaaDoor.EscJ
namespace Go.Proofs.YticpobgkbapdmaaDoor.EscK
end Go.Proofs.YticpobgkbapdmaaDoor.EscK
namespace Go.Proofs.YticpobgkbapdmaaDoor.EscL
end Go.Proofs.YticpobgkbapdmaaDoor.EscL
namespace Go.Proofs.YticpobgkbapdmaaDoor.EscM
end Go.Proofs.YticpobgkbapdmaaDoor.EscM
namespace Go.Proofs.YticpobgkbapdmaaDoor.EscN
end Go.Proofs.YticpobgkbapdmaaDoor.EscN
namespace Go.Proofs.YticpobgkbapdmaaDoor.SpanA
end Go.Proofs.YticpobgkbapdmaaDoor.SpanA
namespace Go.Proofs.YticpobgkbapdmaaDoor.SpanB
end Go.Proofs.YticpobgkbapdmaaDoor.SpanB
namespace Go.Proofs.YticpobgkbapdmaaDoor.SpanC
end Go.Proofs.YticpobgkbapdmaaDoor.SpanC
namespace Go.Proofs.YticpobgkbapdmaaDoor.SpanD
end Go.Proofs.YticpobgkbapdmaaDoor.SpanD
namespace Go.Proofs.YticpobgkbapdmaaDoor.SpanE
end Go.Proofs.YticpobgkbapdmaaDoor.SpanE
namespace Go.Proofs.YticpobgkbapdmaaDoor.SpanF
end Go.Proofs.YticpobgkbapdmaaDoor.SpanF
namespace Go.Proofs.YticpobgkbapdmaaDoorW.PrintLast
end Go.Proofs.YticpobgkbapdmaaDoorW.PrintLast
namespace Go.Proofs.YticpobgkbapdmaaDoorW.PrintMore
end Go.Proofs.YticpobgkbapdmaaDoorW.PrintMore
namespace Go.Proofs.YticpobgkbapdmaaDoorW.PrintWords
end Go.Proofs.YticpobgkbapdmaaDoorW.PrintWords
namespace Go.Proofs.YticpobgkbapdmaaDoor.EscO
open Go.RowKit Go.Shelf Go.Proofs.YticpobgkbapdmaaDoorW.PrintWords Go.Proofs.YticpobgkbapdmaaDoorW.PrintLast Go.Proofs.YticpobgkbapdmaaDoorW.PrintMore Go.Proofs.YticpobgkbapdmaaDoor.CharA Go.Proofs.YticpobgkbapdmaaDoor.CharB Go.Proofs.YticpobgkbapdmaaDoor.CharC Go.Proofs.YticpobgkbapdmaaDoor.CharD Go.Proofs.YticpobgkbapdmaaDoor.CharE Go.Proofs.YticpobgkbapdmaaDoor.CharF Go.Proofs.YticpobgkbapdmaaDoor.CharH Go.Proofs.YticpobgkbapdmaaDoor.SpanA Go.Proofs.YticpobgkbapdmaaDoor.SpanB Go.Proofs.YticpobgkbapdmaaDoor.SpanC Go.Proofs.YticpobgkbapdmaaDoor.SpanD Go.Proofs.YticpobgkbapdmaaDoor.SpanE Go.Proofs.YticpobgkbapdmaaDoor.SpanF Go.Proofs.YticpobgkbapdmaaDoor.EscA Go.Proofs.YticpobgkbapdmaaDoor.EscB Go.Proofs.YticpobgkbapdmaaDoor.EscC Go.Proofs.YticpobgkbapdmaaDoor.EscD Go.Proofs.YticpobgkbapdmaaDoor.EscF Go.Proofs.YticpobgkbapdmaaDoor.EscG Go.Proofs.YticpobgkbapdmaaDoor.EscI Go.Proofs.YticpobgkbapdmaaDoor.EscJ Go.Proofs.YticpobgkbapdmaaDoor.EscK Go.Proofs.YticpobgkbapdmaaDoor.EscL Go.Proofs.YticpobgkbapdmaaDoor.EscM Go.Proofs.YticpobgkbapdmaaDoor.EscN
set_option linter.unusedVariables false
set_option linter.unusedSimpArgs false
theorem fit_of (w : World) (hT : Tabs w) (hS : w.ShapedOpen Tryd.prog) : Fit w := by
  have hm := Tryd.laysM219.s1_3 w hS
  obtain ⟨m, hm⟩ := hm
  exact ⟨hT, ⟨m, hm⟩, World.block_lt_of_cell? w _ hm⟩
theorem getsW (s : ByteArray) (w : World) (hT : Tabs w) (hS : w.ShapedOpen Tryd.prog) (hs : s.size ≤ 9223372036854775807) : Calls Tryd.prog 14 #[.string s] w fun e w' => e = .returned (.bool true) ∧ Below w.heap.size w w' := EscGets_calls s w (fit_of w hT hS) hs
end Go.Proofs.YticpobgkbapdmaaDoor.EscO
