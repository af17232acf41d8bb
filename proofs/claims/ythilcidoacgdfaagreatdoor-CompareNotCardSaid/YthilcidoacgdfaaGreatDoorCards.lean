/-
  DERIVED. GIVEN WITH THE SEED: THE CARDS: each row of YthilcidoacgdfaaGreatDoorRows.lean that lists a variable, with what it lists TIED to the program's text (the seventh form; the later family's looks); each row that meets fmt, with fmt's text TOLD by the authors' own Lean function (tested against real Go, not proved from fmt's source: count such statements apart). THE CARD IS WHAT COUNTS. Prove the row's statement (the work); the ties are given (YthilcidoacgdfaaGreatDoorTie.lean); close each card by the builder's one call (the guide's Derived/Test/ToyasCard.lean, 'card_holds'). Laid BY PROGRAM, IN A SANDBOX (cutbox-door.mjs). By AI agents, Wed Nov 11 2026. No macro, syntax, notation, axiom, sorry.
-/
import Derived.Test.YthilcidoacgdfaaGreatDoorRows
import GoSem.ClaimSeven
namespace Go.Proofs.YthilcidoacgdfaaGreatDoor
namespace Rows

/-- THE TIED CARD OF 'breviarylaw12.LexWords'. -/
def lexWordsCard : Claim7 := { stood := { row := lexWordsRow, standIns := [], harness := (true, "d99cff95e6d271bb5b47b750599ec43b22b5f8b3d1a944e396234d3e90ef07d4"), looks := true }, kinds := [], alts := [], laidByText := true, laidKinds := [.data, .pinned], laidTests := true, laidLooks := .later }
def LexWordsCardSaid : Prop := Claim7.holds Tryz.pinned (.plain (OpenSpec.ofChange lexWordsSpec)) lexWordsCard

/-- THE TIED CARD OF 'breviarylaw16.ValueBack'. -/
def valueBackCard : Claim7 := { stood := { row := valueBackRow, standIns := [], harness := (true, "d99cff95e6d271bb5b47b750599ec43b22b5f8b3d1a944e396234d3e90ef07d4"), looks := true }, kinds := [], alts := [], laidByText := true, laidKinds := [.data, .pinned], laidTests := true, laidLooks := .later }
def ValueBackCardSaid : Prop := Claim7.holds Tryz.pinned (.plain (OpenSpec.ofChange valueBackSpec)) valueBackCard

/-- THE TIED CARD OF 'breviarylaw17.CompareNot'. -/
def compareNotCard : Claim7 := { stood := { row := compareNotRow, standIns := [], harness := (true, "d99cff95e6d271bb5b47b750599ec43b22b5f8b3d1a944e396234d3e90ef07d4"), looks := true }, kinds := [], alts := [], laidByText := true, laidKinds := [.data, .pinned], laidTests := true, laidLooks := .later }
def CompareNotCardSaid : Prop := Claim7.holds Tryz.pinned (.plain (OpenSpec.ofChange compareNotSpec)) compareNotCard

/-- THE TIED CARD OF 'breviarylaw17.CompareSelf'. -/
def compareSelfCard : Claim7 := { stood := { row := compareSelfRow, standIns := [], harness := (true, "d99cff95e6d271bb5b47b750599ec43b22b5f8b3d1a944e396234d3e90ef07d4"), looks := true }, kinds := [], alts := [], laidByText := true, laidKinds := [.data, .pinned], laidTests := true, laidLooks := .later }
def CompareSelfCardSaid : Prop := Claim7.holds Tryz.pinned (.plain (OpenSpec.ofChange compareSelfSpec)) compareSelfCard

/-- THE SECOND FORM's CARD OF 'breviarylaw12.LexWords'. -/
def lexWordsUptoCard : Claim7 := { stood := { row := lexWordsUptoRow, standIns := [], harness := (true, "d99cff95e6d271bb5b47b750599ec43b22b5f8b3d1a944e396234d3e90ef07d4"), looks := true }, kinds := [], alts := [], laidByText := true, laidKinds := [.data, .pinned], laidTests := true, laidLooks := .later }
def LexWordsUptoCardSaid : Prop := Claim7.holds Tryz.pinned (.plain (OpenSpec.upto lexWordsSpec)) lexWordsUptoCard

/-- THE SECOND FORM's CARD OF 'breviarylaw16.ValueBack'. -/
def valueBackUptoCard : Claim7 := { stood := { row := valueBackUptoRow, standIns := [], harness := (true, "d99cff95e6d271bb5b47b750599ec43b22b5f8b3d1a944e396234d3e90ef07d4"), looks := true }, kinds := [], alts := [], laidByText := true, laidKinds := [.data, .pinned], laidTests := true, laidLooks := .later }
def ValueBackUptoCardSaid : Prop := Claim7.holds Tryz.pinned (.plain (OpenSpec.upto valueBackSpec)) valueBackUptoCard

/-- THE SECOND FORM's CARD OF 'breviarylaw17.CompareNot'. -/
def compareNotUptoCard : Claim7 := { stood := { row := compareNotUptoRow, standIns := [], harness := (true, "d99cff95e6d271bb5b47b750599ec43b22b5f8b3d1a944e396234d3e90ef07d4"), looks := true }, kinds := [], alts := [], laidByText := true, laidKinds := [.data, .pinned], laidTests := true, laidLooks := .later }
def CompareNotUptoCardSaid : Prop := Claim7.holds Tryz.pinned (.plain (OpenSpec.upto compareNotSpec)) compareNotUptoCard

/-- THE SECOND FORM's CARD OF 'breviarylaw17.CompareSelf'. -/
def compareSelfUptoCard : Claim7 := { stood := { row := compareSelfUptoRow, standIns := [], harness := (true, "d99cff95e6d271bb5b47b750599ec43b22b5f8b3d1a944e396234d3e90ef07d4"), looks := true }, kinds := [], alts := [], laidByText := true, laidKinds := [.data, .pinned], laidTests := true, laidLooks := .later }
def CompareSelfUptoCardSaid : Prop := Claim7.holds Tryz.pinned (.plain (OpenSpec.upto compareSelfSpec)) compareSelfUptoCard
end Rows
end Go.Proofs.YthilcidoacgdfaaGreatDoor
