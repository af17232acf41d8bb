/-
  DERIVED. GIVEN WITH THE SEED: THE CARDS: each row of YticpobgkbapdmaaDoorRows.lean that lists a variable, with what it lists TIED to the program's text (the seventh form; the later family's looks); each row that meets fmt, with fmt's text TOLD by the authors' own Lean function (tested against real Go, not proved from fmt's source: count such statements apart). THE CARD IS WHAT COUNTS. Prove the row's statement (the work); the ties are given (YticpobgkbapdmaaDoorTie.lean); close each card by the builder's one call (the guide's Derived/Test/ToyasCard.lean, 'card_holds'). Laid BY PROGRAM, IN A SANDBOX (cutbox-door.mjs). By AI agents, Wed Nov 11 2026. No macro, syntax, notation, axiom, sorry.
-/
import Derived.Test.YticpobgkbapdmaaDoorRows
import GoSem.ClaimSeven
namespace Go.Proofs.YticpobgkbapdmaaDoor
namespace Rows

/-- THE TIED CARD OF 'breviarylaw01.CharNames'. -/
def charNamesCard : Claim7 := { stood := { row := charNamesRow, standIns := [], harness := (true, "3e50931e1c741a1bf5d0136f3fcf26dfab68f0846a4f1b66127e22e13f9b1195"), looks := false }, kinds := [], alts := [], laidByText := true, laidKinds := [.data, .pinned], laidTests := true, laidLooks := .later }
def CharNamesCardSaid : Prop := Claim7.holds Tryd.pinned (.plain (OpenSpec.ofChange charNamesSpec)) charNamesCard

/-- THE TIED CARD OF 'breviarylaw01.CharClasses'. -/
def charClassesCard : Claim7 := { stood := { row := charClassesRow, standIns := [], harness := (true, "3e50931e1c741a1bf5d0136f3fcf26dfab68f0846a4f1b66127e22e13f9b1195"), looks := false }, kinds := [], alts := [], laidByText := true, laidKinds := [.data, .pinned], laidTests := true, laidLooks := .later }
def CharClassesCardSaid : Prop := Claim7.holds Tryd.pinned (.plain (OpenSpec.ofChange charClassesSpec)) charClassesCard

/-- THE TIED CARD OF 'breviarylaw01.CharWithin'. -/
def charWithinCard : Claim7 := { stood := { row := charWithinRow, standIns := [], harness := (true, "3e50931e1c741a1bf5d0136f3fcf26dfab68f0846a4f1b66127e22e13f9b1195"), looks := false }, kinds := [], alts := [], laidByText := true, laidKinds := [.data, .pinned], laidTests := true, laidLooks := .later }
def CharWithinCardSaid : Prop := Claim7.holds Tryd.pinned (.plain (OpenSpec.ofChange charWithinSpec)) charWithinCard

/-- THE TIED CARD OF 'breviarylaw01.CharTexts'. -/
def charTextsCard : Claim7 := { stood := { row := charTextsRow, standIns := [], harness := (true, "3e50931e1c741a1bf5d0136f3fcf26dfab68f0846a4f1b66127e22e13f9b1195"), looks := false }, kinds := [], alts := [], laidByText := true, laidKinds := [.data, .pinned], laidTests := true, laidLooks := .later }
def CharTextsCardSaid : Prop := Claim7.holds Tryd.pinned (.plain (OpenSpec.ofChange charTextsSpec)) charTextsCard

/-- THE TIED CARD OF 'breviarylaw01.CharJoin'. -/
def charJoinCard : Claim7 := { stood := { row := charJoinRow, standIns := [], harness := (true, "3e50931e1c741a1bf5d0136f3fcf26dfab68f0846a4f1b66127e22e13f9b1195"), looks := false }, kinds := [], alts := [], laidByText := true, laidKinds := [.data, .pinned], laidTests := true, laidLooks := .later }
def CharJoinCardSaid : Prop := Claim7.holds Tryd.pinned (.plain (OpenSpec.ofChange charJoinSpec)) charJoinCard

/-- THE TIED CARD OF 'breviarylaw02.SpanCuts'. -/
def spanCutsCard : Claim7 := { stood := { row := spanCutsRow, standIns := [], harness := (true, "3e50931e1c741a1bf5d0136f3fcf26dfab68f0846a4f1b66127e22e13f9b1195"), looks := false }, kinds := [], alts := [], laidByText := true, laidKinds := [.data, .pinned], laidTests := true, laidLooks := .later }
def SpanCutsCardSaid : Prop := Claim7.holds Tryd.pinned (.plain (OpenSpec.ofChange spanCutsSpec)) spanCutsCard

/-- THE TIED CARD OF 'breviarylaw02.SpanJoin'. -/
def spanJoinCard : Claim7 := { stood := { row := spanJoinRow, standIns := [], harness := (true, "3e50931e1c741a1bf5d0136f3fcf26dfab68f0846a4f1b66127e22e13f9b1195"), looks := false }, kinds := [], alts := [], laidByText := true, laidKinds := [.data, .pinned], laidTests := true, laidLooks := .later }
def SpanJoinCardSaid : Prop := Claim7.holds Tryd.pinned (.plain (OpenSpec.ofChange spanJoinSpec)) spanJoinCard

/-- THE TIED CARD OF 'breviarylaw02.SpanMaps'. -/
def spanMapsCard : Claim7 := { stood := { row := spanMapsRow, standIns := [], harness := (true, "3e50931e1c741a1bf5d0136f3fcf26dfab68f0846a4f1b66127e22e13f9b1195"), looks := false }, kinds := [], alts := [], laidByText := true, laidKinds := [.data, .pinned], laidTests := true, laidLooks := .later }
def SpanMapsCardSaid : Prop := Claim7.holds Tryd.pinned (.plain (OpenSpec.ofChange spanMapsSpec)) spanMapsCard

/-- THE TIED CARD OF 'breviarylaw02.SpanParts'. -/
def spanPartsCard : Claim7 := { stood := { row := spanPartsRow, standIns := [], harness := (true, "3e50931e1c741a1bf5d0136f3fcf26dfab68f0846a4f1b66127e22e13f9b1195"), looks := false }, kinds := [], alts := [], laidByText := true, laidKinds := [.data, .pinned], laidTests := true, laidLooks := .later }
def SpanPartsCardSaid : Prop := Claim7.holds Tryd.pinned (.plain (OpenSpec.ofChange spanPartsSpec)) spanPartsCard

/-- THE TIED CARD OF 'breviarylaw02.SpanFinds'. -/
def spanFindsCard : Claim7 := { stood := { row := spanFindsRow, standIns := [], harness := (true, "3e50931e1c741a1bf5d0136f3fcf26dfab68f0846a4f1b66127e22e13f9b1195"), looks := false }, kinds := [], alts := [], laidByText := true, laidKinds := [.data, .pinned], laidTests := true, laidLooks := .later }
def SpanFindsCardSaid : Prop := Claim7.holds Tryd.pinned (.plain (OpenSpec.ofChange spanFindsSpec)) spanFindsCard

/-- THE TIED CARD OF 'breviarylaw05.EscOne'. -/
def escOneCard : Claim7 := { stood := { row := escOneRow, standIns := [], harness := (true, "3e50931e1c741a1bf5d0136f3fcf26dfab68f0846a4f1b66127e22e13f9b1195"), looks := false }, kinds := [], alts := [], laidByText := true, laidKinds := [.data, .pinned], laidTests := true, laidLooks := .later }
def EscOneCardSaid : Prop := Claim7.holds Tryd.pinned (.plain (OpenSpec.ofChange escOneSpec)) escOneCard

/-- THE TIED CARD OF 'breviarylaw05.EscGets'. -/
def escGetsCard : Claim7 := { stood := { row := escGetsRow, standIns := [], harness := (true, "3e50931e1c741a1bf5d0136f3fcf26dfab68f0846a4f1b66127e22e13f9b1195"), looks := false }, kinds := [], alts := [], laidByText := true, laidKinds := [.data, .pinned], laidTests := true, laidLooks := .later }
def EscGetsCardSaid : Prop := Claim7.holds Tryd.pinned (.plain (OpenSpec.ofChange escGetsSpec)) escGetsCard

/-- THE TIED CARD OF 'breviarylaw05.EscPuts'. -/
def escPutsCard : Claim7 := { stood := { row := escPutsRow, standIns := [], harness := (true, "3e50931e1c741a1bf5d0136f3fcf26dfab68f0846a4f1b66127e22e13f9b1195"), looks := false }, kinds := [], alts := [], laidByText := true, laidKinds := [.data, .pinned], laidTests := true, laidLooks := .later }
def EscPutsCardSaid : Prop := Claim7.holds Tryd.pinned (.plain (OpenSpec.ofChange escPutsSpec)) escPutsCard

/-- THE TIED CARD OF 'breviarylaw05.EscBack'. -/
def escBackCard : Claim7 := { stood := { row := escBackRow, standIns := [], harness := (true, "3e50931e1c741a1bf5d0136f3fcf26dfab68f0846a4f1b66127e22e13f9b1195"), looks := false }, kinds := [], alts := [], laidByText := true, laidKinds := [.data, .pinned], laidTests := true, laidLooks := .later }
def EscBackCardSaid : Prop := Claim7.holds Tryd.pinned (.plain (OpenSpec.ofChange escBackSpec)) escBackCard

/-- THE SECOND FORM's CARD OF 'breviarylaw01.CharNames'. -/
def charNamesUptoCard : Claim7 := { stood := { row := charNamesUptoRow, standIns := [], harness := (true, "3e50931e1c741a1bf5d0136f3fcf26dfab68f0846a4f1b66127e22e13f9b1195"), looks := false }, kinds := [], alts := [], laidByText := true, laidKinds := [.data, .pinned], laidTests := true, laidLooks := .later }
def CharNamesUptoCardSaid : Prop := Claim7.holds Tryd.pinned (.plain (OpenSpec.upto charNamesSpec)) charNamesUptoCard

/-- THE SECOND FORM's CARD OF 'breviarylaw01.CharClasses'. -/
def charClassesUptoCard : Claim7 := { stood := { row := charClassesUptoRow, standIns := [], harness := (true, "3e50931e1c741a1bf5d0136f3fcf26dfab68f0846a4f1b66127e22e13f9b1195"), looks := false }, kinds := [], alts := [], laidByText := true, laidKinds := [.data, .pinned], laidTests := true, laidLooks := .later }
def CharClassesUptoCardSaid : Prop := Claim7.holds Tryd.pinned (.plain (OpenSpec.upto charClassesSpec)) charClassesUptoCard

/-- THE SECOND FORM's CARD OF 'breviarylaw01.CharWithin'. -/
def charWithinUptoCard : Claim7 := { stood := { row := charWithinUptoRow, standIns := [], harness := (true, "3e50931e1c741a1bf5d0136f3fcf26dfab68f0846a4f1b66127e22e13f9b1195"), looks := false }, kinds := [], alts := [], laidByText := true, laidKinds := [.data, .pinned], laidTests := true, laidLooks := .later }
def CharWithinUptoCardSaid : Prop := Claim7.holds Tryd.pinned (.plain (OpenSpec.upto charWithinSpec)) charWithinUptoCard

/-- THE SECOND FORM's CARD OF 'breviarylaw01.CharTexts'. -/
def charTextsUptoCard : Claim7 := { stood := { row := charTextsUptoRow, standIns := [], harness := (true, "3e50931e1c741a1bf5d0136f3fcf26dfab68f0846a4f1b66127e22e13f9b1195"), looks := false }, kinds := [], alts := [], laidByText := true, laidKinds := [.data, .pinned], laidTests := true, laidLooks := .later }
def CharTextsUptoCardSaid : Prop := Claim7.holds Tryd.pinned (.plain (OpenSpec.upto charTextsSpec)) charTextsUptoCard

/-- THE SECOND FORM's CARD OF 'breviarylaw01.CharJoin'. -/
def charJoinUptoCard : Claim7 := { stood := { row := charJoinUptoRow, standIns := [], harness := (true, "3e50931e1c741a1bf5d0136f3fcf26dfab68f0846a4f1b66127e22e13f9b1195"), looks := false }, kinds := [], alts := [], laidByText := true, laidKinds := [.data, .pinned], laidTests := true, laidLooks := .later }
def CharJoinUptoCardSaid : Prop := Claim7.holds Tryd.pinned (.plain (OpenSpec.upto charJoinSpec)) charJoinUptoCard

/-- THE SECOND FORM's CARD OF 'breviarylaw02.SpanCuts'. -/
def spanCutsUptoCard : Claim7 := { stood := { row := spanCutsUptoRow, standIns := [], harness := (true, "3e50931e1c741a1bf5d0136f3fcf26dfab68f0846a4f1b66127e22e13f9b1195"), looks := false }, kinds := [], alts := [], laidByText := true, laidKinds := [.data, .pinned], laidTests := true, laidLooks := .later }
def SpanCutsUptoCardSaid : Prop := Claim7.holds Tryd.pinned (.plain (OpenSpec.upto spanCutsSpec)) spanCutsUptoCard

/-- THE SECOND FORM's CARD OF 'breviarylaw02.SpanJoin'. -/
def spanJoinUptoCard : Claim7 := { stood := { row := spanJoinUptoRow, standIns := [], harness := (true, "3e50931e1c741a1bf5d0136f3fcf26dfab68f0846a4f1b66127e22e13f9b1195"), looks := false }, kinds := [], alts := [], laidByText := true, laidKinds := [.data, .pinned], laidTests := true, laidLooks := .later }
def SpanJoinUptoCardSaid : Prop := Claim7.holds Tryd.pinned (.plain (OpenSpec.upto spanJoinSpec)) spanJoinUptoCard

/-- THE SECOND FORM's CARD OF 'breviarylaw02.SpanMaps'. -/
def spanMapsUptoCard : Claim7 := { stood := { row := spanMapsUptoRow, standIns := [], harness := (true, "3e50931e1c741a1bf5d0136f3fcf26dfab68f0846a4f1b66127e22e13f9b1195"), looks := false }, kinds := [], alts := [], laidByText := true, laidKinds := [.data, .pinned], laidTests := true, laidLooks := .later }
def SpanMapsUptoCardSaid : Prop := Claim7.holds Tryd.pinned (.plain (OpenSpec.upto spanMapsSpec)) spanMapsUptoCard

/-- THE SECOND FORM's CARD OF 'breviarylaw02.SpanParts'. -/
def spanPartsUptoCard : Claim7 := { stood := { row := spanPartsUptoRow, standIns := [], harness := (true, "3e50931e1c741a1bf5d0136f3fcf26dfab68f0846a4f1b66127e22e13f9b1195"), looks := false }, kinds := [], alts := [], laidByText := true, laidKinds := [.data, .pinned], laidTests := true, laidLooks := .later }
def SpanPartsUptoCardSaid : Prop := Claim7.holds Tryd.pinned (.plain (OpenSpec.upto spanPartsSpec)) spanPartsUptoCard

/-- THE SECOND FORM's CARD OF 'breviarylaw02.SpanFinds'. -/
def spanFindsUptoCard : Claim7 := { stood := { row := spanFindsUptoRow, standIns := [], harness := (true, "3e50931e1c741a1bf5d0136f3fcf26dfab68f0846a4f1b66127e22e13f9b1195"), looks := false }, kinds := [], alts := [], laidByText := true, laidKinds := [.data, .pinned], laidTests := true, laidLooks := .later }
def SpanFindsUptoCardSaid : Prop := Claim7.holds Tryd.pinned (.plain (OpenSpec.upto spanFindsSpec)) spanFindsUptoCard

/-- THE SECOND FORM's CARD OF 'breviarylaw05.EscOne'. -/
def escOneUptoCard : Claim7 := { stood := { row := escOneUptoRow, standIns := [], harness := (true, "3e50931e1c741a1bf5d0136f3fcf26dfab68f0846a4f1b66127e22e13f9b1195"), looks := false }, kinds := [], alts := [], laidByText := true, laidKinds := [.data, .pinned], laidTests := true, laidLooks := .later }
def EscOneUptoCardSaid : Prop := Claim7.holds Tryd.pinned (.plain (OpenSpec.upto escOneSpec)) escOneUptoCard

/-- THE SECOND FORM's CARD OF 'breviarylaw05.EscGets'. -/
def escGetsUptoCard : Claim7 := { stood := { row := escGetsUptoRow, standIns := [], harness := (true, "3e50931e1c741a1bf5d0136f3fcf26dfab68f0846a4f1b66127e22e13f9b1195"), looks := false }, kinds := [], alts := [], laidByText := true, laidKinds := [.data, .pinned], laidTests := true, laidLooks := .later }
def EscGetsUptoCardSaid : Prop := Claim7.holds Tryd.pinned (.plain (OpenSpec.upto escGetsSpec)) escGetsUptoCard

/-- THE SECOND FORM's CARD OF 'breviarylaw05.EscPuts'. -/
def escPutsUptoCard : Claim7 := { stood := { row := escPutsUptoRow, standIns := [], harness := (true, "3e50931e1c741a1bf5d0136f3fcf26dfab68f0846a4f1b66127e22e13f9b1195"), looks := false }, kinds := [], alts := [], laidByText := true, laidKinds := [.data, .pinned], laidTests := true, laidLooks := .later }
def EscPutsUptoCardSaid : Prop := Claim7.holds Tryd.pinned (.plain (OpenSpec.upto escPutsSpec)) escPutsUptoCard

/-- THE SECOND FORM's CARD OF 'breviarylaw05.EscBack'. -/
def escBackUptoCard : Claim7 := { stood := { row := escBackUptoRow, standIns := [], harness := (true, "3e50931e1c741a1bf5d0136f3fcf26dfab68f0846a4f1b66127e22e13f9b1195"), looks := false }, kinds := [], alts := [], laidByText := true, laidKinds := [.data, .pinned], laidTests := true, laidLooks := .later }
def EscBackUptoCardSaid : Prop := Claim7.holds Tryd.pinned (.plain (OpenSpec.upto escBackSpec)) escBackUptoCard
end Rows
end Go.Proofs.YticpobgkbapdmaaDoor
