/-
  DERIVED. GIVEN WITH THE SEED: THE CARDS: each row of YthilcidoacgdfaaDoorRows.lean that lists a variable, with what it lists TIED to the program's text (the seventh form; the later family's looks); each row that meets fmt, with fmt's text TOLD by the authors' own Lean function (tested against real Go, not proved from fmt's source: count such statements apart). THE CARD IS WHAT COUNTS. Prove the row's statement (the work); the ties are given (YthilcidoacgdfaaDoorTie.lean); close each card by the builder's one call (the guide's Derived/Test/ToyasCard.lean, 'card_holds'). Laid BY PROGRAM, IN A SANDBOX (cutbox-door.mjs). By AI agents, Wed Nov 11 2026. No macro, syntax, notation, axiom, sorry.
-/
import Derived.Test.YthilcidoacgdfaaDoorRows
import GoSem.ClaimSeven
namespace Go.Proofs.YthilcidoacgdfaaDoor
namespace Rows

/-- THE TIED CARD OF 'breviarylaw04.FigureShows'. -/
def figureShowsCard : Claim7 := { stood := { row := figureShowsRow, standIns := [], harness := (true, "d8a1a5e7b315963e9c972af1376db8640308488ff53d08524443ef30edd5c548"), looks := false }, kinds := [], alts := [], laidByText := true, laidKinds := [.data, .pinned], laidTests := true, laidLooks := .later }
def FigureShowsCardSaid : Prop := Claim7.holds Tryd.pinned (.plain (OpenSpec.ofChange figureShowsSpec)) figureShowsCard

/-- THE TIED CARD OF 'breviarylaw04.FigureReads'. -/
def figureReadsCard : Claim7 := { stood := { row := figureReadsRow, standIns := [], harness := (true, "d8a1a5e7b315963e9c972af1376db8640308488ff53d08524443ef30edd5c548"), looks := false }, kinds := [], alts := [], laidByText := true, laidKinds := [.data, .pinned], laidTests := true, laidLooks := .later }
def FigureReadsCardSaid : Prop := Claim7.holds Tryd.pinned (.plain (OpenSpec.ofChange figureReadsSpec)) figureReadsCard

/-- THE TIED CARD OF 'breviarylaw04.FigureBack'. -/
def figureBackCard : Claim7 := { stood := { row := figureBackRow, standIns := [], harness := (true, "d8a1a5e7b315963e9c972af1376db8640308488ff53d08524443ef30edd5c548"), looks := false }, kinds := [], alts := [], laidByText := true, laidKinds := [.data, .pinned], laidTests := true, laidLooks := .later }
def FigureBackCardSaid : Prop := Claim7.holds Tryd.pinned (.plain (OpenSpec.ofChange figureBackSpec)) figureBackCard

/-- THE TIED CARD OF 'breviarylaw04.FigureAgain'. -/
def figureAgainCard : Claim7 := { stood := { row := figureAgainRow, standIns := [], harness := (true, "d8a1a5e7b315963e9c972af1376db8640308488ff53d08524443ef30edd5c548"), looks := false }, kinds := [], alts := [], laidByText := true, laidKinds := [.data, .pinned], laidTests := true, laidLooks := .later }
def FigureAgainCardSaid : Prop := Claim7.holds Tryd.pinned (.plain (OpenSpec.ofChange figureAgainSpec)) figureAgainCard

/-- THE TIED CARD OF 'breviarylaw04.FigureOne'. -/
def figureOneCard : Claim7 := { stood := { row := figureOneRow, standIns := [], harness := (true, "d8a1a5e7b315963e9c972af1376db8640308488ff53d08524443ef30edd5c548"), looks := false }, kinds := [], alts := [], laidByText := true, laidKinds := [.data, .pinned], laidTests := true, laidLooks := .later }
def FigureOneCardSaid : Prop := Claim7.holds Tryd.pinned (.plain (OpenSpec.ofChange figureOneSpec)) figureOneCard

/-- THE TIED CARD OF 'breviarylaw12.LexAgain'. -/
def lexAgainCard : Claim7 := { stood := { row := lexAgainRow, standIns := [], harness := (true, "d8a1a5e7b315963e9c972af1376db8640308488ff53d08524443ef30edd5c548"), looks := false }, kinds := [], alts := [], laidByText := true, laidKinds := [.data, .pinned], laidTests := true, laidLooks := .later }
def LexAgainCardSaid : Prop := Claim7.holds Tryd.pinned (.plain (OpenSpec.ofChange lexAgainSpec)) lexAgainCard

/-- THE TIED CARD OF 'breviarylaw12.LexStars'. -/
def lexStarsCard : Claim7 := { stood := { row := lexStarsRow, standIns := [], harness := (true, "d8a1a5e7b315963e9c972af1376db8640308488ff53d08524443ef30edd5c548"), looks := false }, kinds := [], alts := [], laidByText := true, laidKinds := [.data, .pinned], laidTests := true, laidLooks := .later }
def LexStarsCardSaid : Prop := Claim7.holds Tryd.pinned (.plain (OpenSpec.ofChange lexStarsSpec)) lexStarsCard

/-- THE TIED CARD OF 'breviarylaw12.LexSpaces'. -/
def lexSpacesCard : Claim7 := { stood := { row := lexSpacesRow, standIns := [], harness := (true, "d8a1a5e7b315963e9c972af1376db8640308488ff53d08524443ef30edd5c548"), looks := false }, kinds := [], alts := [], laidByText := true, laidKinds := [.data, .pinned], laidTests := true, laidLooks := .later }
def LexSpacesCardSaid : Prop := Claim7.holds Tryd.pinned (.plain (OpenSpec.ofChange lexSpacesSpec)) lexSpacesCard

/-- THE SECOND FORM's CARD OF 'breviarylaw04.FigureShows'. -/
def figureShowsUptoCard : Claim7 := { stood := { row := figureShowsUptoRow, standIns := [], harness := (true, "d8a1a5e7b315963e9c972af1376db8640308488ff53d08524443ef30edd5c548"), looks := false }, kinds := [], alts := [], laidByText := true, laidKinds := [.data, .pinned], laidTests := true, laidLooks := .later }
def FigureShowsUptoCardSaid : Prop := Claim7.holds Tryd.pinned (.plain (OpenSpec.upto figureShowsSpec)) figureShowsUptoCard

/-- THE SECOND FORM's CARD OF 'breviarylaw04.FigureReads'. -/
def figureReadsUptoCard : Claim7 := { stood := { row := figureReadsUptoRow, standIns := [], harness := (true, "d8a1a5e7b315963e9c972af1376db8640308488ff53d08524443ef30edd5c548"), looks := false }, kinds := [], alts := [], laidByText := true, laidKinds := [.data, .pinned], laidTests := true, laidLooks := .later }
def FigureReadsUptoCardSaid : Prop := Claim7.holds Tryd.pinned (.plain (OpenSpec.upto figureReadsSpec)) figureReadsUptoCard

/-- THE SECOND FORM's CARD OF 'breviarylaw04.FigureBack'. -/
def figureBackUptoCard : Claim7 := { stood := { row := figureBackUptoRow, standIns := [], harness := (true, "d8a1a5e7b315963e9c972af1376db8640308488ff53d08524443ef30edd5c548"), looks := false }, kinds := [], alts := [], laidByText := true, laidKinds := [.data, .pinned], laidTests := true, laidLooks := .later }
def FigureBackUptoCardSaid : Prop := Claim7.holds Tryd.pinned (.plain (OpenSpec.upto figureBackSpec)) figureBackUptoCard

/-- THE SECOND FORM's CARD OF 'breviarylaw04.FigureAgain'. -/
def figureAgainUptoCard : Claim7 := { stood := { row := figureAgainUptoRow, standIns := [], harness := (true, "d8a1a5e7b315963e9c972af1376db8640308488ff53d08524443ef30edd5c548"), looks := false }, kinds := [], alts := [], laidByText := true, laidKinds := [.data, .pinned], laidTests := true, laidLooks := .later }
def FigureAgainUptoCardSaid : Prop := Claim7.holds Tryd.pinned (.plain (OpenSpec.upto figureAgainSpec)) figureAgainUptoCard

/-- THE SECOND FORM's CARD OF 'breviarylaw04.FigureOne'. -/
def figureOneUptoCard : Claim7 := { stood := { row := figureOneUptoRow, standIns := [], harness := (true, "d8a1a5e7b315963e9c972af1376db8640308488ff53d08524443ef30edd5c548"), looks := false }, kinds := [], alts := [], laidByText := true, laidKinds := [.data, .pinned], laidTests := true, laidLooks := .later }
def FigureOneUptoCardSaid : Prop := Claim7.holds Tryd.pinned (.plain (OpenSpec.upto figureOneSpec)) figureOneUptoCard

/-- THE SECOND FORM's CARD OF 'breviarylaw12.LexAgain'. -/
def lexAgainUptoCard : Claim7 := { stood := { row := lexAgainUptoRow, standIns := [], harness := (true, "d8a1a5e7b315963e9c972af1376db8640308488ff53d08524443ef30edd5c548"), looks := false }, kinds := [], alts := [], laidByText := true, laidKinds := [.data, .pinned], laidTests := true, laidLooks := .later }
def LexAgainUptoCardSaid : Prop := Claim7.holds Tryd.pinned (.plain (OpenSpec.upto lexAgainSpec)) lexAgainUptoCard

/-- THE SECOND FORM's CARD OF 'breviarylaw12.LexStars'. -/
def lexStarsUptoCard : Claim7 := { stood := { row := lexStarsUptoRow, standIns := [], harness := (true, "d8a1a5e7b315963e9c972af1376db8640308488ff53d08524443ef30edd5c548"), looks := false }, kinds := [], alts := [], laidByText := true, laidKinds := [.data, .pinned], laidTests := true, laidLooks := .later }
def LexStarsUptoCardSaid : Prop := Claim7.holds Tryd.pinned (.plain (OpenSpec.upto lexStarsSpec)) lexStarsUptoCard

/-- THE SECOND FORM's CARD OF 'breviarylaw12.LexSpaces'. -/
def lexSpacesUptoCard : Claim7 := { stood := { row := lexSpacesUptoRow, standIns := [], harness := (true, "d8a1a5e7b315963e9c972af1376db8640308488ff53d08524443ef30edd5c548"), looks := false }, kinds := [], alts := [], laidByText := true, laidKinds := [.data, .pinned], laidTests := true, laidLooks := .later }
def LexSpacesUptoCardSaid : Prop := Claim7.holds Tryd.pinned (.plain (OpenSpec.upto lexSpacesSpec)) lexSpacesUptoCard
end Rows
end Go.Proofs.YthilcidoacgdfaaDoor
