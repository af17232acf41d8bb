/-
  NARROWER THAN 'FOR EVERY INPUT', by the rows' own cells (each row's printed sentence says how): CharNames: laid · CharClasses: laid · CharWithin: laid · CharTexts: laid · CharJoin: laid · SpanCuts: laid · SpanJoin: laid · SpanMaps: laid · SpanParts: laid · SpanFinds: laid · EscOne: laid · EscGets: laid · EscPuts: laid · EscBack: laid.
  DERIVED. THE GIVEN ROWS OF THIS SEAT. 14 by the template 'for every input the law returns true; each argument reads behind the call as it read before'; 0 by the template 'total and deterministic' (their statements: YticpobgkbapdmaaDoorTotals.lean).
  GIVEN WITH THE SEED: the statements are not yours to turn. If you find one false, say at which input.
  Laid BY PROGRAM, IN A SANDBOX (cutbox-rows.mjs): the forced cells as the released guide's own fill.sh prints them over the translation 8b8056a0159c85af… (all of the seat's roots in one cut). By AI agents, Wed Nov 11 2026. No macro, syntax, notation, axiom, sorry.
-/
import Derived.Test.YticpobgkbapdmaaDoorChecked
import GoSem.PinnedTables
import GoSem.Claim
import GoSem.ClaimJoined
import GoSem.ClaimMapViews
import Derived.JoinedTies
import Derived.KernelRfl
namespace Go.Proofs.YticpobgkbapdmaaDoor
/- THE CELL 'sum', in the pinned program and in every row, IS THE sha256 OF THE DUMP (.gsa) THAT YticpobgkbapdmaaDoorProg.lean LOADS. Nothing in Lean hashes anything: it is a label: what it is worth is what the hold of that sum in a sandbox is worth. -/
noncomputable def Tryd.pinned : Pinned := { name := "yticpobgkbapdmaadoor", sum := "8b8056a0159c85afb3310a8408c875ba56ce06349f41f9f265a0462f510854cf", checked := Tryd.checked }
namespace Rows
def none {H : Type} : Left H := { results := [], args := [] }

/- WHAT THE LISTED PACKAGE-LEVEL VARIABLES READ AS WHEN THE CALL BEGINS. Each datum BY PROGRAM (the guide's laid-datum.mjs) off the statement by which the dump's own 'gosem.cut.vars' lays the variable. In a bare row this is a premise. The card (YticpobgkbapdmaaDoorCards.lean) ties it to the program's text. -/
def laid_unicode_utf8_acceptRanges {H : Type} : DataW H := .agg [.agg [.lit (.int .u8 128), .lit (.int .u8 191)], .agg [.lit (.int .u8 160), .lit (.int .u8 191)], .agg [.lit (.int .u8 128), .lit (.int .u8 159)], .agg [.lit (.int .u8 144), .lit (.int .u8 191)], .agg [.lit (.int .u8 128), .lit (.int .u8 143)], .agg [.lit (.int .u8 0), .lit (.int .u8 0)], .agg [.lit (.int .u8 0), .lit (.int .u8 0)], .agg [.lit (.int .u8 0), .lit (.int .u8 0)], .agg [.lit (.int .u8 0), .lit (.int .u8 0)], .agg [.lit (.int .u8 0), .lit (.int .u8 0)], .agg [.lit (.int .u8 0), .lit (.int .u8 0)], .agg [.lit (.int .u8 0), .lit (.int .u8 0)], .agg [.lit (.int .u8 0), .lit (.int .u8 0)], .agg [.lit (.int .u8 0), .lit (.int .u8 0)], .agg [.lit (.int .u8 0), .lit (.int .u8 0)], .agg [.lit (.int .u8 0), .lit (.int .u8 0)]]
/-- One of Go's own tables, pinned by name: the form's constant. -/
def laid_unicode_utf8_first : DataW Unit := Go.Pinned.utf8First

/-- 'breviarylaw01.CharNames': WHATEVER THE INPUT: true; the input reads as it did. -/
def charNamesSpec : ChangeSpec := { name := "charNames", fn := fun _ => fun
  | [d] => { results := [.lit (.bool true)], args := [d] }
  | _ => none }
def charNamesRow : OpenClaim := { program := "yticpobgkbapdmaadoor", sum := "8b8056a0159c85afb3310a8408c875ba56ce06349f41f9f265a0462f510854cf", func := "breviary/breviarylaw01.CharNames", spec := "charNames", named := ["unicode/utf8.first", "unicode/utf8.acceptRanges"], apart := false, laid := [("unicode/utf8.acceptRanges", laid_unicode_utf8_acceptRanges), ("unicode/utf8.first", laid_unicode_utf8_first)] }
def CharNamesSaid : Prop := charNamesRow.holds Tryd.pinned (OpenSpec.ofChange charNamesSpec)

/-- ITS FALSE NEIGHBOUR: 'it returns false'. Refute it at one input. -/
def charNamesWrong : ChangeSpec := { name := "charNames", fn := fun _ => fun
  | [d] => { results := [.lit (.bool false)], args := [d] }
  | _ => none }
def CharNamesWrongFalsely : Prop := charNamesRow.holds Tryd.pinned (OpenSpec.ofChange charNamesWrong)

/-- 'breviarylaw01.CharClasses': WHATEVER THE INPUT: true; the input reads as it did. -/
def charClassesSpec : ChangeSpec := { name := "charClasses", fn := fun _ => fun
  | [d] => { results := [.lit (.bool true)], args := [d] }
  | _ => none }
def charClassesRow : OpenClaim := { program := "yticpobgkbapdmaadoor", sum := "8b8056a0159c85afb3310a8408c875ba56ce06349f41f9f265a0462f510854cf", func := "breviary/breviarylaw01.CharClasses", spec := "charClasses", named := ["unicode/utf8.first", "unicode/utf8.acceptRanges"], apart := false, laid := [("unicode/utf8.acceptRanges", laid_unicode_utf8_acceptRanges), ("unicode/utf8.first", laid_unicode_utf8_first)] }
def CharClassesSaid : Prop := charClassesRow.holds Tryd.pinned (OpenSpec.ofChange charClassesSpec)

/-- ITS FALSE NEIGHBOUR: 'it returns false'. Refute it at one input. -/
def charClassesWrong : ChangeSpec := { name := "charClasses", fn := fun _ => fun
  | [d] => { results := [.lit (.bool false)], args := [d] }
  | _ => none }
def CharClassesWrongFalsely : Prop := charClassesRow.holds Tryd.pinned (OpenSpec.ofChange charClassesWrong)

/-- 'breviarylaw01.CharWithin': WHATEVER THE INPUT: true; the input reads as it did. -/
def charWithinSpec : ChangeSpec := { name := "charWithin", fn := fun _ => fun
  | [d1, d2] => { results := [.lit (.bool true)], args := [d1, d2] }
  | _ => none }
def charWithinRow : OpenClaim := { program := "yticpobgkbapdmaadoor", sum := "8b8056a0159c85afb3310a8408c875ba56ce06349f41f9f265a0462f510854cf", func := "breviary/breviarylaw01.CharWithin", spec := "charWithin", named := ["unicode/utf8.first", "unicode/utf8.acceptRanges"], apart := false, laid := [("unicode/utf8.acceptRanges", laid_unicode_utf8_acceptRanges), ("unicode/utf8.first", laid_unicode_utf8_first)] }
def CharWithinSaid : Prop := charWithinRow.holds Tryd.pinned (OpenSpec.ofChange charWithinSpec)

/-- ITS FALSE NEIGHBOUR: 'it returns false'. Refute it at one input. -/
def charWithinWrong : ChangeSpec := { name := "charWithin", fn := fun _ => fun
  | [d1, d2] => { results := [.lit (.bool false)], args := [d1, d2] }
  | _ => none }
def CharWithinWrongFalsely : Prop := charWithinRow.holds Tryd.pinned (OpenSpec.ofChange charWithinWrong)

/-- 'breviarylaw01.CharTexts': WHATEVER THE INPUT: true; the input reads as it did. -/
def charTextsSpec : ChangeSpec := { name := "charTexts", fn := fun _ => fun
  | [d] => { results := [.lit (.bool true)], args := [d] }
  | _ => none }
def charTextsRow : OpenClaim := { program := "yticpobgkbapdmaadoor", sum := "8b8056a0159c85afb3310a8408c875ba56ce06349f41f9f265a0462f510854cf", func := "breviary/breviarylaw01.CharTexts", spec := "charTexts", named := ["unicode/utf8.first", "unicode/utf8.acceptRanges"], apart := false, laid := [("unicode/utf8.acceptRanges", laid_unicode_utf8_acceptRanges), ("unicode/utf8.first", laid_unicode_utf8_first)] }
def CharTextsSaid : Prop := charTextsRow.holds Tryd.pinned (OpenSpec.ofChange charTextsSpec)

/-- ITS FALSE NEIGHBOUR: 'it returns false'. Refute it at one input. -/
def charTextsWrong : ChangeSpec := { name := "charTexts", fn := fun _ => fun
  | [d] => { results := [.lit (.bool false)], args := [d] }
  | _ => none }
def CharTextsWrongFalsely : Prop := charTextsRow.holds Tryd.pinned (OpenSpec.ofChange charTextsWrong)

/-- 'breviarylaw01.CharJoin': WHATEVER THE INPUT: true; the input reads as it did. -/
def charJoinSpec : ChangeSpec := { name := "charJoin", fn := fun _ => fun
  | [d1, d2] => { results := [.lit (.bool true)], args := [d1, d2] }
  | _ => none }
def charJoinRow : OpenClaim := { program := "yticpobgkbapdmaadoor", sum := "8b8056a0159c85afb3310a8408c875ba56ce06349f41f9f265a0462f510854cf", func := "breviary/breviarylaw01.CharJoin", spec := "charJoin", named := ["unicode/utf8.first", "unicode/utf8.acceptRanges"], apart := false, laid := [("unicode/utf8.acceptRanges", laid_unicode_utf8_acceptRanges), ("unicode/utf8.first", laid_unicode_utf8_first)] }
def CharJoinSaid : Prop := charJoinRow.holds Tryd.pinned (OpenSpec.ofChange charJoinSpec)

/-- ITS FALSE NEIGHBOUR: 'it returns false'. Refute it at one input. -/
def charJoinWrong : ChangeSpec := { name := "charJoin", fn := fun _ => fun
  | [d1, d2] => { results := [.lit (.bool false)], args := [d1, d2] }
  | _ => none }
def CharJoinWrongFalsely : Prop := charJoinRow.holds Tryd.pinned (OpenSpec.ofChange charJoinWrong)

/-- 'breviarylaw02.SpanCuts': WHATEVER THE INPUT: true; the input reads as it did. -/
def spanCutsSpec : ChangeSpec := { name := "spanCuts", fn := fun _ => fun
  | [d1, d2, d3] => { results := [.lit (.bool true)], args := [d1, d2, d3] }
  | _ => none }
def spanCutsRow : OpenClaim := { program := "yticpobgkbapdmaadoor", sum := "8b8056a0159c85afb3310a8408c875ba56ce06349f41f9f265a0462f510854cf", func := "breviary/breviarylaw02.SpanCuts", spec := "spanCuts", inPlace := ["internal/abi.NoEscape"], unfollowed := true, recurses := true, named := ["unicode/utf8.first", "unicode/utf8.acceptRanges"], apart := false, laid := [("unicode/utf8.acceptRanges", laid_unicode_utf8_acceptRanges), ("unicode/utf8.first", laid_unicode_utf8_first)] }
def SpanCutsSaid : Prop := spanCutsRow.holds Tryd.pinned (OpenSpec.ofChange spanCutsSpec)

/-- ITS FALSE NEIGHBOUR: 'it returns false'. Refute it at one input. -/
def spanCutsWrong : ChangeSpec := { name := "spanCuts", fn := fun _ => fun
  | [d1, d2, d3] => { results := [.lit (.bool false)], args := [d1, d2, d3] }
  | _ => none }
def SpanCutsWrongFalsely : Prop := spanCutsRow.holds Tryd.pinned (OpenSpec.ofChange spanCutsWrong)

/-- 'breviarylaw02.SpanJoin': WHATEVER THE INPUT: true; the input reads as it did. -/
def spanJoinSpec : ChangeSpec := { name := "spanJoin", fn := fun _ => fun
  | [d1, d2] => { results := [.lit (.bool true)], args := [d1, d2] }
  | _ => none }
def spanJoinRow : OpenClaim := { program := "yticpobgkbapdmaadoor", sum := "8b8056a0159c85afb3310a8408c875ba56ce06349f41f9f265a0462f510854cf", func := "breviary/breviarylaw02.SpanJoin", spec := "spanJoin", inPlace := ["internal/abi.NoEscape"], unfollowed := true, recurses := true, named := ["unicode/utf8.first", "unicode/utf8.acceptRanges"], apart := false, laid := [("unicode/utf8.acceptRanges", laid_unicode_utf8_acceptRanges), ("unicode/utf8.first", laid_unicode_utf8_first)] }
def SpanJoinSaid : Prop := spanJoinRow.holds Tryd.pinned (OpenSpec.ofChange spanJoinSpec)

/-- ITS FALSE NEIGHBOUR: 'it returns false'. Refute it at one input. -/
def spanJoinWrong : ChangeSpec := { name := "spanJoin", fn := fun _ => fun
  | [d1, d2] => { results := [.lit (.bool false)], args := [d1, d2] }
  | _ => none }
def SpanJoinWrongFalsely : Prop := spanJoinRow.holds Tryd.pinned (OpenSpec.ofChange spanJoinWrong)

/-- 'breviarylaw02.SpanMaps': WHATEVER THE INPUT: true; the input reads as it did. -/
def spanMapsSpec : ChangeSpec := { name := "spanMaps", fn := fun _ => fun
  | [d1, d2, d3] => { results := [.lit (.bool true)], args := [d1, d2, d3] }
  | _ => none }
def spanMapsRow : OpenClaim := { program := "yticpobgkbapdmaadoor", sum := "8b8056a0159c85afb3310a8408c875ba56ce06349f41f9f265a0462f510854cf", func := "breviary/breviarylaw02.SpanMaps", spec := "spanMaps", inPlace := ["internal/abi.NoEscape", "internal/bytealg.MakeNoZero"], unfollowed := true, recurses := true, named := ["unicode/utf8.first", "unicode/utf8.acceptRanges"], apart := false, laid := [("unicode/utf8.acceptRanges", laid_unicode_utf8_acceptRanges), ("unicode/utf8.first", laid_unicode_utf8_first)] }
def SpanMapsSaid : Prop := spanMapsRow.holds Tryd.pinned (OpenSpec.ofChange spanMapsSpec)

/-- ITS FALSE NEIGHBOUR: 'it returns false'. Refute it at one input. -/
def spanMapsWrong : ChangeSpec := { name := "spanMaps", fn := fun _ => fun
  | [d1, d2, d3] => { results := [.lit (.bool false)], args := [d1, d2, d3] }
  | _ => none }
def SpanMapsWrongFalsely : Prop := spanMapsRow.holds Tryd.pinned (OpenSpec.ofChange spanMapsWrong)

/-- 'breviarylaw02.SpanParts': WHATEVER THE INPUT: true; the input reads as it did. -/
def spanPartsSpec : ChangeSpec := { name := "spanParts", fn := fun _ => fun
  | [d1, d2] => { results := [.lit (.bool true)], args := [d1, d2] }
  | _ => none }
def spanPartsRow : OpenClaim := { program := "yticpobgkbapdmaadoor", sum := "8b8056a0159c85afb3310a8408c875ba56ce06349f41f9f265a0462f510854cf", func := "breviary/breviarylaw02.SpanParts", spec := "spanParts", inPlace := ["internal/abi.NoEscape", "internal/bytealg.MakeNoZero"], unfollowed := true, recurses := true, named := ["unicode/utf8.first", "unicode/utf8.acceptRanges"], apart := false, laid := [("unicode/utf8.acceptRanges", laid_unicode_utf8_acceptRanges), ("unicode/utf8.first", laid_unicode_utf8_first)] }
def SpanPartsSaid : Prop := spanPartsRow.holds Tryd.pinned (OpenSpec.ofChange spanPartsSpec)

/-- ITS FALSE NEIGHBOUR: 'it returns false'. Refute it at one input. -/
def spanPartsWrong : ChangeSpec := { name := "spanParts", fn := fun _ => fun
  | [d1, d2] => { results := [.lit (.bool false)], args := [d1, d2] }
  | _ => none }
def SpanPartsWrongFalsely : Prop := spanPartsRow.holds Tryd.pinned (OpenSpec.ofChange spanPartsWrong)

/-- 'breviarylaw02.SpanFinds': WHATEVER THE INPUT: true; the input reads as it did. -/
def spanFindsSpec : ChangeSpec := { name := "spanFinds", fn := fun _ => fun
  | [d1, d2] => { results := [.lit (.bool true)], args := [d1, d2] }
  | _ => none }
def spanFindsRow : OpenClaim := { program := "yticpobgkbapdmaadoor", sum := "8b8056a0159c85afb3310a8408c875ba56ce06349f41f9f265a0462f510854cf", func := "breviary/breviarylaw02.SpanFinds", spec := "spanFinds", inPlace := ["internal/abi.NoEscape", "internal/bytealg.IndexByteString", "internal/bytealg.IndexString"], unfollowed := true, recurses := true, named := ["unicode/utf8.first", "unicode/utf8.acceptRanges", "internal/bytealg.MaxLen"], apart := false, laid := [("unicode/utf8.acceptRanges", laid_unicode_utf8_acceptRanges), ("unicode/utf8.first", laid_unicode_utf8_first)] }
def SpanFindsSaid : Prop := spanFindsRow.holds Tryd.pinned (OpenSpec.ofChange spanFindsSpec)

/-- ITS FALSE NEIGHBOUR: 'it returns false'. Refute it at one input. -/
def spanFindsWrong : ChangeSpec := { name := "spanFinds", fn := fun _ => fun
  | [d1, d2] => { results := [.lit (.bool false)], args := [d1, d2] }
  | _ => none }
def SpanFindsWrongFalsely : Prop := spanFindsRow.holds Tryd.pinned (OpenSpec.ofChange spanFindsWrong)

/-- 'breviarylaw05.EscOne': WHATEVER THE INPUT: true; the input reads as it did. -/
def escOneSpec : ChangeSpec := { name := "escOne", fn := fun _ => fun
  | [d] => { results := [.lit (.bool true)], args := [d] }
  | _ => none }
def escOneRow : OpenClaim := { program := "yticpobgkbapdmaadoor", sum := "8b8056a0159c85afb3310a8408c875ba56ce06349f41f9f265a0462f510854cf", func := "breviary/breviarylaw05.EscOne", spec := "escOne", inPlace := ["internal/abi.NoEscape", "internal/bytealg.IndexByteString", "internal/bytealg.IndexString"], unfollowed := true, recurses := true, named := ["unicode/utf8.first", "unicode/utf8.acceptRanges", "internal/bytealg.MaxLen"], apart := false, laid := [("unicode/utf8.acceptRanges", laid_unicode_utf8_acceptRanges), ("unicode/utf8.first", laid_unicode_utf8_first)] }
def EscOneSaid : Prop := escOneRow.holds Tryd.pinned (OpenSpec.ofChange escOneSpec)

/-- ITS FALSE NEIGHBOUR: 'it returns false'. Refute it at one input. -/
def escOneWrong : ChangeSpec := { name := "escOne", fn := fun _ => fun
  | [d] => { results := [.lit (.bool false)], args := [d] }
  | _ => none }
def EscOneWrongFalsely : Prop := escOneRow.holds Tryd.pinned (OpenSpec.ofChange escOneWrong)

/-- 'breviarylaw05.EscGets': WHATEVER THE INPUT: true; the input reads as it did. -/
def escGetsSpec : ChangeSpec := { name := "escGets", fn := fun _ => fun
  | [d] => { results := [.lit (.bool true)], args := [d] }
  | _ => none }
def escGetsRow : OpenClaim := { program := "yticpobgkbapdmaadoor", sum := "8b8056a0159c85afb3310a8408c875ba56ce06349f41f9f265a0462f510854cf", func := "breviary/breviarylaw05.EscGets", spec := "escGets", inPlace := ["internal/abi.NoEscape", "internal/bytealg.IndexByteString", "internal/bytealg.IndexString"], unfollowed := true, recurses := true, named := ["unicode/utf8.first", "unicode/utf8.acceptRanges", "internal/bytealg.MaxLen"], apart := false, laid := [("unicode/utf8.acceptRanges", laid_unicode_utf8_acceptRanges), ("unicode/utf8.first", laid_unicode_utf8_first)] }
def EscGetsSaid : Prop := escGetsRow.holds Tryd.pinned (OpenSpec.ofChange escGetsSpec)

/-- ITS FALSE NEIGHBOUR: 'it returns false'. Refute it at one input. -/
def escGetsWrong : ChangeSpec := { name := "escGets", fn := fun _ => fun
  | [d] => { results := [.lit (.bool false)], args := [d] }
  | _ => none }
def EscGetsWrongFalsely : Prop := escGetsRow.holds Tryd.pinned (OpenSpec.ofChange escGetsWrong)

/-- 'breviarylaw05.EscPuts': WHATEVER THE INPUT: true; the input reads as it did. -/
def escPutsSpec : ChangeSpec := { name := "escPuts", fn := fun _ => fun
  | [d] => { results := [.lit (.bool true)], args := [d] }
  | _ => none }
def escPutsRow : OpenClaim := { program := "yticpobgkbapdmaadoor", sum := "8b8056a0159c85afb3310a8408c875ba56ce06349f41f9f265a0462f510854cf", func := "breviary/breviarylaw05.EscPuts", spec := "escPuts", inPlace := ["internal/abi.NoEscape", "internal/bytealg.IndexByteString", "internal/bytealg.IndexString"], unfollowed := true, recurses := true, named := ["unicode/utf8.first", "unicode/utf8.acceptRanges", "internal/bytealg.MaxLen"], apart := false, laid := [("unicode/utf8.acceptRanges", laid_unicode_utf8_acceptRanges), ("unicode/utf8.first", laid_unicode_utf8_first)] }
def EscPutsSaid : Prop := escPutsRow.holds Tryd.pinned (OpenSpec.ofChange escPutsSpec)

/-- ITS FALSE NEIGHBOUR: 'it returns false'. Refute it at one input. -/
def escPutsWrong : ChangeSpec := { name := "escPuts", fn := fun _ => fun
  | [d] => { results := [.lit (.bool false)], args := [d] }
  | _ => none }
def EscPutsWrongFalsely : Prop := escPutsRow.holds Tryd.pinned (OpenSpec.ofChange escPutsWrong)

/-- 'breviarylaw05.EscBack': WHATEVER THE INPUT: true; the input reads as it did. -/
def escBackSpec : ChangeSpec := { name := "escBack", fn := fun _ => fun
  | [d] => { results := [.lit (.bool true)], args := [d] }
  | _ => none }
def escBackRow : OpenClaim := { program := "yticpobgkbapdmaadoor", sum := "8b8056a0159c85afb3310a8408c875ba56ce06349f41f9f265a0462f510854cf", func := "breviary/breviarylaw05.EscBack", spec := "escBack", inPlace := ["internal/abi.NoEscape", "internal/bytealg.IndexByteString", "internal/bytealg.IndexString"], unfollowed := true, recurses := true, named := ["unicode/utf8.first", "unicode/utf8.acceptRanges", "internal/bytealg.MaxLen"], apart := false, laid := [("unicode/utf8.acceptRanges", laid_unicode_utf8_acceptRanges), ("unicode/utf8.first", laid_unicode_utf8_first)] }
def EscBackSaid : Prop := escBackRow.holds Tryd.pinned (OpenSpec.ofChange escBackSpec)

/-- ITS FALSE NEIGHBOUR: 'it returns false'. Refute it at one input. -/
def escBackWrong : ChangeSpec := { name := "escBack", fn := fun _ => fun
  | [d] => { results := [.lit (.bool false)], args := [d] }
  | _ => none }
def EscBackWrongFalsely : Prop := escBackRow.holds Tryd.pinned (OpenSpec.ofChange escBackWrong)

/- THE SECOND FORM. 'bulk': how many values and letters a reading holds, each counted each time it is reached (what is shared counts as often as it is met; a slice's spare places count too). A statement '..UptoSaid' is the law's where the arguments, and the package variables that the reading takes, are together of bulk at most 1048576: NARROWER than '..Said'. Prove '..Said' where nothing that the law and all that it calls make is longer than what came in: it says more and counts as full. Else prove '..UptoSaid'. A law counts once. -/
mutual
def uptoBulk {H : Type} : DataW H → Nat
  | .lit (.string bytes) => bytes.length + 1
  | .lit _ => 1
  | .nil => 1
  | .ptr d => uptoBulk d + 1
  | .slice elems spare => uptoBulkAll elems + uptoBulkAll spare + 1
  | .agg parts => uptoBulkAll parts + 1
  | .iface _ d => uptoBulk d + 1
  | .map entries => uptoBulkEntries entries + 1
  | .held _ => 1
def uptoBulkAll {H : Type} : List (DataW H) → Nat
  | [] => 0
  | d :: r => uptoBulk d + uptoBulkAll r
def uptoBulkEntries {H : Type} : List (Lit × DataW H) → Nat
  | [] => 0
  | x :: r => uptoBulkEntry x + uptoBulkEntries r
def uptoBulkEntry {H : Type} : Lit × DataW H → Nat
  | (.string bytes, d) => bytes.length + uptoBulk d + 1
  | (_, d) => uptoBulk d + 1
 end
def uptoSmall : (H : Type) → List (DataW H) → Bool := fun _ ds => decide (uptoBulkAll ds ≤ 1048576)
def OpenSpec.upto (s : _root_.Go.ChangeSpec) : _root_.Go.OpenSpec := { _root_.Go.OpenSpec.ofChange s with cond := some uptoSmall }

/-- 'breviarylaw01.CharNames', WHERE WHAT IT READS IS OF BULK AT MOST 1048576: true; the input reads as it did. -/
def charNamesUptoRow : OpenClaim := { program := "yticpobgkbapdmaadoor", sum := "8b8056a0159c85afb3310a8408c875ba56ce06349f41f9f265a0462f510854cf", func := "breviary/breviarylaw01.CharNames", spec := "charNames", named := ["unicode/utf8.first", "unicode/utf8.acceptRanges"], apart := false, laid := [("unicode/utf8.acceptRanges", laid_unicode_utf8_acceptRanges), ("unicode/utf8.first", laid_unicode_utf8_first)], narrowed := true }
def CharNamesUptoSaid : Prop := charNamesUptoRow.holds Tryd.pinned (OpenSpec.upto charNamesSpec)

/-- 'breviarylaw01.CharClasses', WHERE WHAT IT READS IS OF BULK AT MOST 1048576: true; the input reads as it did. -/
def charClassesUptoRow : OpenClaim := { program := "yticpobgkbapdmaadoor", sum := "8b8056a0159c85afb3310a8408c875ba56ce06349f41f9f265a0462f510854cf", func := "breviary/breviarylaw01.CharClasses", spec := "charClasses", named := ["unicode/utf8.first", "unicode/utf8.acceptRanges"], apart := false, laid := [("unicode/utf8.acceptRanges", laid_unicode_utf8_acceptRanges), ("unicode/utf8.first", laid_unicode_utf8_first)], narrowed := true }
def CharClassesUptoSaid : Prop := charClassesUptoRow.holds Tryd.pinned (OpenSpec.upto charClassesSpec)

/-- 'breviarylaw01.CharWithin', WHERE WHAT IT READS IS OF BULK AT MOST 1048576: true; the input reads as it did. -/
def charWithinUptoRow : OpenClaim := { program := "yticpobgkbapdmaadoor", sum := "8b8056a0159c85afb3310a8408c875ba56ce06349f41f9f265a0462f510854cf", func := "breviary/breviarylaw01.CharWithin", spec := "charWithin", named := ["unicode/utf8.first", "unicode/utf8.acceptRanges"], apart := false, laid := [("unicode/utf8.acceptRanges", laid_unicode_utf8_acceptRanges), ("unicode/utf8.first", laid_unicode_utf8_first)], narrowed := true }
def CharWithinUptoSaid : Prop := charWithinUptoRow.holds Tryd.pinned (OpenSpec.upto charWithinSpec)

/-- 'breviarylaw01.CharTexts', WHERE WHAT IT READS IS OF BULK AT MOST 1048576: true; the input reads as it did. -/
def charTextsUptoRow : OpenClaim := { program := "yticpobgkbapdmaadoor", sum := "8b8056a0159c85afb3310a8408c875ba56ce06349f41f9f265a0462f510854cf", func := "breviary/breviarylaw01.CharTexts", spec := "charTexts", named := ["unicode/utf8.first", "unicode/utf8.acceptRanges"], apart := false, laid := [("unicode/utf8.acceptRanges", laid_unicode_utf8_acceptRanges), ("unicode/utf8.first", laid_unicode_utf8_first)], narrowed := true }
def CharTextsUptoSaid : Prop := charTextsUptoRow.holds Tryd.pinned (OpenSpec.upto charTextsSpec)

/-- 'breviarylaw01.CharJoin', WHERE WHAT IT READS IS OF BULK AT MOST 1048576: true; the input reads as it did. -/
def charJoinUptoRow : OpenClaim := { program := "yticpobgkbapdmaadoor", sum := "8b8056a0159c85afb3310a8408c875ba56ce06349f41f9f265a0462f510854cf", func := "breviary/breviarylaw01.CharJoin", spec := "charJoin", named := ["unicode/utf8.first", "unicode/utf8.acceptRanges"], apart := false, laid := [("unicode/utf8.acceptRanges", laid_unicode_utf8_acceptRanges), ("unicode/utf8.first", laid_unicode_utf8_first)], narrowed := true }
def CharJoinUptoSaid : Prop := charJoinUptoRow.holds Tryd.pinned (OpenSpec.upto charJoinSpec)

/-- 'breviarylaw02.SpanCuts', WHERE WHAT IT READS IS OF BULK AT MOST 1048576: true; the input reads as it did. -/
def spanCutsUptoRow : OpenClaim := { program := "yticpobgkbapdmaadoor", sum := "8b8056a0159c85afb3310a8408c875ba56ce06349f41f9f265a0462f510854cf", func := "breviary/breviarylaw02.SpanCuts", spec := "spanCuts", inPlace := ["internal/abi.NoEscape"], unfollowed := true, recurses := true, named := ["unicode/utf8.first", "unicode/utf8.acceptRanges"], apart := false, laid := [("unicode/utf8.acceptRanges", laid_unicode_utf8_acceptRanges), ("unicode/utf8.first", laid_unicode_utf8_first)], narrowed := true }
def SpanCutsUptoSaid : Prop := spanCutsUptoRow.holds Tryd.pinned (OpenSpec.upto spanCutsSpec)

/-- 'breviarylaw02.SpanJoin', WHERE WHAT IT READS IS OF BULK AT MOST 1048576: true; the input reads as it did. -/
def spanJoinUptoRow : OpenClaim := { program := "yticpobgkbapdmaadoor", sum := "8b8056a0159c85afb3310a8408c875ba56ce06349f41f9f265a0462f510854cf", func := "breviary/breviarylaw02.SpanJoin", spec := "spanJoin", inPlace := ["internal/abi.NoEscape"], unfollowed := true, recurses := true, named := ["unicode/utf8.first", "unicode/utf8.acceptRanges"], apart := false, laid := [("unicode/utf8.acceptRanges", laid_unicode_utf8_acceptRanges), ("unicode/utf8.first", laid_unicode_utf8_first)], narrowed := true }
def SpanJoinUptoSaid : Prop := spanJoinUptoRow.holds Tryd.pinned (OpenSpec.upto spanJoinSpec)

/-- 'breviarylaw02.SpanMaps', WHERE WHAT IT READS IS OF BULK AT MOST 1048576: true; the input reads as it did. -/
def spanMapsUptoRow : OpenClaim := { program := "yticpobgkbapdmaadoor", sum := "8b8056a0159c85afb3310a8408c875ba56ce06349f41f9f265a0462f510854cf", func := "breviary/breviarylaw02.SpanMaps", spec := "spanMaps", inPlace := ["internal/abi.NoEscape", "internal/bytealg.MakeNoZero"], unfollowed := true, recurses := true, named := ["unicode/utf8.first", "unicode/utf8.acceptRanges"], apart := false, laid := [("unicode/utf8.acceptRanges", laid_unicode_utf8_acceptRanges), ("unicode/utf8.first", laid_unicode_utf8_first)], narrowed := true }
def SpanMapsUptoSaid : Prop := spanMapsUptoRow.holds Tryd.pinned (OpenSpec.upto spanMapsSpec)

/-- 'breviarylaw02.SpanParts', WHERE WHAT IT READS IS OF BULK AT MOST 1048576: true; the input reads as it did. -/
def spanPartsUptoRow : OpenClaim := { program := "yticpobgkbapdmaadoor", sum := "8b8056a0159c85afb3310a8408c875ba56ce06349f41f9f265a0462f510854cf", func := "breviary/breviarylaw02.SpanParts", spec := "spanParts", inPlace := ["internal/abi.NoEscape", "internal/bytealg.MakeNoZero"], unfollowed := true, recurses := true, named := ["unicode/utf8.first", "unicode/utf8.acceptRanges"], apart := false, laid := [("unicode/utf8.acceptRanges", laid_unicode_utf8_acceptRanges), ("unicode/utf8.first", laid_unicode_utf8_first)], narrowed := true }
def SpanPartsUptoSaid : Prop := spanPartsUptoRow.holds Tryd.pinned (OpenSpec.upto spanPartsSpec)

/-- 'breviarylaw02.SpanFinds', WHERE WHAT IT READS IS OF BULK AT MOST 1048576: true; the input reads as it did. -/
def spanFindsUptoRow : OpenClaim := { program := "yticpobgkbapdmaadoor", sum := "8b8056a0159c85afb3310a8408c875ba56ce06349f41f9f265a0462f510854cf", func := "breviary/breviarylaw02.SpanFinds", spec := "spanFinds", inPlace := ["internal/abi.NoEscape", "internal/bytealg.IndexByteString", "internal/bytealg.IndexString"], unfollowed := true, recurses := true, named := ["unicode/utf8.first", "unicode/utf8.acceptRanges", "internal/bytealg.MaxLen"], apart := false, laid := [("unicode/utf8.acceptRanges", laid_unicode_utf8_acceptRanges), ("unicode/utf8.first", laid_unicode_utf8_first)], narrowed := true }
def SpanFindsUptoSaid : Prop := spanFindsUptoRow.holds Tryd.pinned (OpenSpec.upto spanFindsSpec)

/-- 'breviarylaw05.EscOne', WHERE WHAT IT READS IS OF BULK AT MOST 1048576: true; the input reads as it did. -/
def escOneUptoRow : OpenClaim := { program := "yticpobgkbapdmaadoor", sum := "8b8056a0159c85afb3310a8408c875ba56ce06349f41f9f265a0462f510854cf", func := "breviary/breviarylaw05.EscOne", spec := "escOne", inPlace := ["internal/abi.NoEscape", "internal/bytealg.IndexByteString", "internal/bytealg.IndexString"], unfollowed := true, recurses := true, named := ["unicode/utf8.first", "unicode/utf8.acceptRanges", "internal/bytealg.MaxLen"], apart := false, laid := [("unicode/utf8.acceptRanges", laid_unicode_utf8_acceptRanges), ("unicode/utf8.first", laid_unicode_utf8_first)], narrowed := true }
def EscOneUptoSaid : Prop := escOneUptoRow.holds Tryd.pinned (OpenSpec.upto escOneSpec)

/-- 'breviarylaw05.EscGets', WHERE WHAT IT READS IS OF BULK AT MOST 1048576: true; the input reads as it did. -/
def escGetsUptoRow : OpenClaim := { program := "yticpobgkbapdmaadoor", sum := "8b8056a0159c85afb3310a8408c875ba56ce06349f41f9f265a0462f510854cf", func := "breviary/breviarylaw05.EscGets", spec := "escGets", inPlace := ["internal/abi.NoEscape", "internal/bytealg.IndexByteString", "internal/bytealg.IndexString"], unfollowed := true, recurses := true, named := ["unicode/utf8.first", "unicode/utf8.acceptRanges", "internal/bytealg.MaxLen"], apart := false, laid := [("unicode/utf8.acceptRanges", laid_unicode_utf8_acceptRanges), ("unicode/utf8.first", laid_unicode_utf8_first)], narrowed := true }
def EscGetsUptoSaid : Prop := escGetsUptoRow.holds Tryd.pinned (OpenSpec.upto escGetsSpec)

/-- 'breviarylaw05.EscPuts', WHERE WHAT IT READS IS OF BULK AT MOST 1048576: true; the input reads as it did. -/
def escPutsUptoRow : OpenClaim := { program := "yticpobgkbapdmaadoor", sum := "8b8056a0159c85afb3310a8408c875ba56ce06349f41f9f265a0462f510854cf", func := "breviary/breviarylaw05.EscPuts", spec := "escPuts", inPlace := ["internal/abi.NoEscape", "internal/bytealg.IndexByteString", "internal/bytealg.IndexString"], unfollowed := true, recurses := true, named := ["unicode/utf8.first", "unicode/utf8.acceptRanges", "internal/bytealg.MaxLen"], apart := false, laid := [("unicode/utf8.acceptRanges", laid_unicode_utf8_acceptRanges), ("unicode/utf8.first", laid_unicode_utf8_first)], narrowed := true }
def EscPutsUptoSaid : Prop := escPutsUptoRow.holds Tryd.pinned (OpenSpec.upto escPutsSpec)

/-- 'breviarylaw05.EscBack', WHERE WHAT IT READS IS OF BULK AT MOST 1048576: true; the input reads as it did. -/
def escBackUptoRow : OpenClaim := { program := "yticpobgkbapdmaadoor", sum := "8b8056a0159c85afb3310a8408c875ba56ce06349f41f9f265a0462f510854cf", func := "breviary/breviarylaw05.EscBack", spec := "escBack", inPlace := ["internal/abi.NoEscape", "internal/bytealg.IndexByteString", "internal/bytealg.IndexString"], unfollowed := true, recurses := true, named := ["unicode/utf8.first", "unicode/utf8.acceptRanges", "internal/bytealg.MaxLen"], apart := false, laid := [("unicode/utf8.acceptRanges", laid_unicode_utf8_acceptRanges), ("unicode/utf8.first", laid_unicode_utf8_first)], narrowed := true }
def EscBackUptoSaid : Prop := escBackUptoRow.holds Tryd.pinned (OpenSpec.upto escBackSpec)

end Rows
end Go.Proofs.YticpobgkbapdmaaDoor
