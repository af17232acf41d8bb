/-
  DERIVED. GIVEN WITH THE SEED: THE CARDS: each row of YtocdckniokhbbaaGreatDoorRows.lean that lists a variable, with what it lists TIED to the program's text (the seventh form; the later family's looks); each row that meets fmt, with fmt's text TOLD by the authors' own Lean function (tested against real Go, not proved from fmt's source: count such statements apart). THE CARD IS WHAT COUNTS. Prove the row's statement (the work); the ties are given (YtocdckniokhbbaaGreatDoorTie.lean); close each card by the builder's one call (the guide's Derived/Test/ToyasCard.lean, 'card_holds'). Laid BY PROGRAM, IN A SANDBOX (cutbox-door.mjs). By AI agents, Wed Nov 11 2026. No macro, syntax, notation, axiom, sorry.
-/
import Derived.Test.YtocdckniokhbbaaGreatDoorRows
import GoSem.ClaimSeven
namespace Go.Proofs.YtocdckniokhbbaaGreatDoor
namespace Rows

/-- THE TIED CARD OF 'breviarylaw13.SyntaxParses'. -/
def syntaxParsesCard : Claim7 := { stood := { row := syntaxParsesRow, standIns := [], harness := (true, "4bebf68cdccaee8e17372eb471c56f6cc6ca2a7dbdf5a5a3132b4a2cec75b0c5"), looks := true }, kinds := [], alts := [], laidByText := true, laidKinds := [.data, .pinned], laidTests := true, laidLooks := .later }
def SyntaxParsesCardSaid : Prop := Claim7.holds Tryz.pinned (.plain (OpenSpec.ofChange syntaxParsesSpec)) syntaxParsesCard

/-- THE TIED CARD OF 'breviarylaw13.SyntaxBrackets'. -/
def syntaxBracketsCard : Claim7 := { stood := { row := syntaxBracketsRow, standIns := [], harness := (true, "4bebf68cdccaee8e17372eb471c56f6cc6ca2a7dbdf5a5a3132b4a2cec75b0c5"), looks := true }, kinds := [], alts := [], laidByText := true, laidKinds := [.data, .pinned], laidTests := true, laidLooks := .later }
def SyntaxBracketsCardSaid : Prop := Claim7.holds Tryz.pinned (.plain (OpenSpec.ofChange syntaxBracketsSpec)) syntaxBracketsCard

/-- THE TIED CARD OF 'breviarylaw13.SyntaxRanks'. -/
def syntaxRanksCard : Claim7 := { stood := { row := syntaxRanksRow, standIns := [], harness := (true, "4bebf68cdccaee8e17372eb471c56f6cc6ca2a7dbdf5a5a3132b4a2cec75b0c5"), looks := true }, kinds := [], alts := [], laidByText := true, laidKinds := [.data, .pinned], laidTests := true, laidLooks := .later }
def SyntaxRanksCardSaid : Prop := Claim7.holds Tryz.pinned (.plain (OpenSpec.ofChange syntaxRanksSpec)) syntaxRanksCard

/-- THE TIED CARD OF 'breviarylaw13.SyntaxSame'. -/
def syntaxSameCard : Claim7 := { stood := { row := syntaxSameRow, standIns := [], harness := (true, "4bebf68cdccaee8e17372eb471c56f6cc6ca2a7dbdf5a5a3132b4a2cec75b0c5"), looks := true }, kinds := [], alts := [], laidByText := true, laidKinds := [.data, .pinned], laidTests := true, laidLooks := .later }
def SyntaxSameCardSaid : Prop := Claim7.holds Tryz.pinned (.plain (OpenSpec.ofChange syntaxSameSpec)) syntaxSameCard

/-- THE TIED CARD OF 'breviarylaw15.CheckFuncs'. -/
def checkFuncsCard : Claim7 := { stood := { row := checkFuncsRow, standIns := [], harness := (true, "4bebf68cdccaee8e17372eb471c56f6cc6ca2a7dbdf5a5a3132b4a2cec75b0c5"), looks := true }, kinds := [], alts := [], laidByText := true, laidKinds := [.data, .pinned], laidTests := true, laidLooks := .later }
def CheckFuncsCardSaid : Prop := Claim7.holds Tryz.pinned (.plain (OpenSpec.ofChange checkFuncsSpec)) checkFuncsCard

/-- THE TIED CARD OF 'breviarylaw15.CheckTypes'. -/
def checkTypesCard : Claim7 := { stood := { row := checkTypesRow, standIns := [], harness := (true, "4bebf68cdccaee8e17372eb471c56f6cc6ca2a7dbdf5a5a3132b4a2cec75b0c5"), looks := true }, kinds := [], alts := [], laidByText := true, laidKinds := [.data, .pinned], laidTests := true, laidLooks := .later }
def CheckTypesCardSaid : Prop := Claim7.holds Tryz.pinned (.plain (OpenSpec.ofChange checkTypesSpec)) checkTypesCard

/-- THE TIED CARD OF 'breviarylaw15.CheckTexts'. -/
def checkTextsCard : Claim7 := { stood := { row := checkTextsRow, standIns := [], harness := (true, "4bebf68cdccaee8e17372eb471c56f6cc6ca2a7dbdf5a5a3132b4a2cec75b0c5"), looks := true }, kinds := [], alts := [], laidByText := true, laidKinds := [.data, .pinned], laidTests := true, laidLooks := .later }
def CheckTextsCardSaid : Prop := Claim7.holds Tryz.pinned (.plain (OpenSpec.ofChange checkTextsSpec)) checkTextsCard

/-- THE TIED CARD OF 'breviarylaw15.CheckKinds'. -/
def checkKindsCard : Claim7 := { stood := { row := checkKindsRow, standIns := [], harness := (true, "4bebf68cdccaee8e17372eb471c56f6cc6ca2a7dbdf5a5a3132b4a2cec75b0c5"), looks := true }, kinds := [], alts := [], laidByText := true, laidKinds := [.data, .pinned], laidTests := true, laidLooks := .later }
def CheckKindsCardSaid : Prop := Claim7.holds Tryz.pinned (.plain (OpenSpec.ofChange checkKindsSpec)) checkKindsCard

/-- THE SECOND FORM's CARD OF 'breviarylaw13.SyntaxParses'. -/
def syntaxParsesUptoCard : Claim7 := { stood := { row := syntaxParsesUptoRow, standIns := [], harness := (true, "4bebf68cdccaee8e17372eb471c56f6cc6ca2a7dbdf5a5a3132b4a2cec75b0c5"), looks := true }, kinds := [], alts := [], laidByText := true, laidKinds := [.data, .pinned], laidTests := true, laidLooks := .later }
def SyntaxParsesUptoCardSaid : Prop := Claim7.holds Tryz.pinned (.plain (OpenSpec.upto syntaxParsesSpec)) syntaxParsesUptoCard

/-- THE SECOND FORM's CARD OF 'breviarylaw13.SyntaxBrackets'. -/
def syntaxBracketsUptoCard : Claim7 := { stood := { row := syntaxBracketsUptoRow, standIns := [], harness := (true, "4bebf68cdccaee8e17372eb471c56f6cc6ca2a7dbdf5a5a3132b4a2cec75b0c5"), looks := true }, kinds := [], alts := [], laidByText := true, laidKinds := [.data, .pinned], laidTests := true, laidLooks := .later }
def SyntaxBracketsUptoCardSaid : Prop := Claim7.holds Tryz.pinned (.plain (OpenSpec.upto syntaxBracketsSpec)) syntaxBracketsUptoCard

/-- THE SECOND FORM's CARD OF 'breviarylaw13.SyntaxRanks'. -/
def syntaxRanksUptoCard : Claim7 := { stood := { row := syntaxRanksUptoRow, standIns := [], harness := (true, "4bebf68cdccaee8e17372eb471c56f6cc6ca2a7dbdf5a5a3132b4a2cec75b0c5"), looks := true }, kinds := [], alts := [], laidByText := true, laidKinds := [.data, .pinned], laidTests := true, laidLooks := .later }
def SyntaxRanksUptoCardSaid : Prop := Claim7.holds Tryz.pinned (.plain (OpenSpec.upto syntaxRanksSpec)) syntaxRanksUptoCard

/-- THE SECOND FORM's CARD OF 'breviarylaw13.SyntaxSame'. -/
def syntaxSameUptoCard : Claim7 := { stood := { row := syntaxSameUptoRow, standIns := [], harness := (true, "4bebf68cdccaee8e17372eb471c56f6cc6ca2a7dbdf5a5a3132b4a2cec75b0c5"), looks := true }, kinds := [], alts := [], laidByText := true, laidKinds := [.data, .pinned], laidTests := true, laidLooks := .later }
def SyntaxSameUptoCardSaid : Prop := Claim7.holds Tryz.pinned (.plain (OpenSpec.upto syntaxSameSpec)) syntaxSameUptoCard

/-- THE SECOND FORM's CARD OF 'breviarylaw15.CheckFuncs'. -/
def checkFuncsUptoCard : Claim7 := { stood := { row := checkFuncsUptoRow, standIns := [], harness := (true, "4bebf68cdccaee8e17372eb471c56f6cc6ca2a7dbdf5a5a3132b4a2cec75b0c5"), looks := true }, kinds := [], alts := [], laidByText := true, laidKinds := [.data, .pinned], laidTests := true, laidLooks := .later }
def CheckFuncsUptoCardSaid : Prop := Claim7.holds Tryz.pinned (.plain (OpenSpec.upto checkFuncsSpec)) checkFuncsUptoCard

/-- THE SECOND FORM's CARD OF 'breviarylaw15.CheckTypes'. -/
def checkTypesUptoCard : Claim7 := { stood := { row := checkTypesUptoRow, standIns := [], harness := (true, "4bebf68cdccaee8e17372eb471c56f6cc6ca2a7dbdf5a5a3132b4a2cec75b0c5"), looks := true }, kinds := [], alts := [], laidByText := true, laidKinds := [.data, .pinned], laidTests := true, laidLooks := .later }
def CheckTypesUptoCardSaid : Prop := Claim7.holds Tryz.pinned (.plain (OpenSpec.upto checkTypesSpec)) checkTypesUptoCard

/-- THE SECOND FORM's CARD OF 'breviarylaw15.CheckTexts'. -/
def checkTextsUptoCard : Claim7 := { stood := { row := checkTextsUptoRow, standIns := [], harness := (true, "4bebf68cdccaee8e17372eb471c56f6cc6ca2a7dbdf5a5a3132b4a2cec75b0c5"), looks := true }, kinds := [], alts := [], laidByText := true, laidKinds := [.data, .pinned], laidTests := true, laidLooks := .later }
def CheckTextsUptoCardSaid : Prop := Claim7.holds Tryz.pinned (.plain (OpenSpec.upto checkTextsSpec)) checkTextsUptoCard

/-- THE SECOND FORM's CARD OF 'breviarylaw15.CheckKinds'. -/
def checkKindsUptoCard : Claim7 := { stood := { row := checkKindsUptoRow, standIns := [], harness := (true, "4bebf68cdccaee8e17372eb471c56f6cc6ca2a7dbdf5a5a3132b4a2cec75b0c5"), looks := true }, kinds := [], alts := [], laidByText := true, laidKinds := [.data, .pinned], laidTests := true, laidLooks := .later }
def CheckKindsUptoCardSaid : Prop := Claim7.holds Tryz.pinned (.plain (OpenSpec.upto checkKindsSpec)) checkKindsUptoCard
end Rows
end Go.Proofs.YtocdckniokhbbaaGreatDoor
