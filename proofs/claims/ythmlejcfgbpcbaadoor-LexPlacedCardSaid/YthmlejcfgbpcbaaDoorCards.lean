/-
  DERIVED. GIVEN WITH THE SEED: THE CARDS: each row of YthmlejcfgbpcbaaDoorRows.lean that lists a variable, with what it lists TIED to the program's text (the seventh form; the later family's looks); each row that meets fmt, with fmt's text TOLD by the authors' own Lean function (tested against real Go, not proved from fmt's source: count such statements apart). THE CARD IS WHAT COUNTS. Prove the row's statement (the work); the ties are given (YthmlejcfgbpcbaaDoorTie.lean); close each card by the builder's one call (the guide's Derived/Test/ToyasCard.lean, 'card_holds'). Laid BY PROGRAM, IN A SANDBOX (cutbox-door.mjs). By AI agents, Wed Nov 11 2026. No macro, syntax, notation, axiom, sorry.
-/
import Derived.Test.YthmlejcfgbpcbaaDoorRows
import GoSem.ClaimSeven
namespace Go.Proofs.YthmlejcfgbpcbaaDoor
namespace Rows

/-- THE TIED CARD OF 'dripstonelaw01.LexScans'. -/
def lexScansCard : Claim7 := { stood := { row := lexScansRow, standIns := [], harness := (true, "23c33b467d2bd80078b50dfb00103e5091ed1073ec3f27099c28af2820ef364f"), looks := true }, kinds := [], alts := [], laidByText := true, laidKinds := [.data, .data, .data, .sentinel, .sentinel], laidTests := true, laidLooks := .later }
def LexScansCardSaid : Prop := Claim7.holds Tryd.pinned (.plain (OpenSpec.ofChange lexScansSpec)) lexScansCard

/-- THE TIED CARD OF 'dripstonelaw01.LexKinds'. -/
def lexKindsCard : Claim7 := { stood := { row := lexKindsRow, standIns := [], harness := (true, "23c33b467d2bd80078b50dfb00103e5091ed1073ec3f27099c28af2820ef364f"), looks := true }, kinds := [], alts := [], laidByText := true, laidKinds := [.data, .data, .data, .sentinel, .sentinel], laidTests := true, laidLooks := .later }
def LexKindsCardSaid : Prop := Claim7.holds Tryd.pinned (.plain (OpenSpec.ofChange lexKindsSpec)) lexKindsCard

/-- THE TIED CARD OF 'dripstonelaw01.LexJoins'. -/
def lexJoinsCard : Claim7 := { stood := { row := lexJoinsRow, standIns := [], harness := (true, "23c33b467d2bd80078b50dfb00103e5091ed1073ec3f27099c28af2820ef364f"), looks := true }, kinds := [], alts := [], laidByText := true, laidKinds := [.data, .data, .data, .sentinel, .sentinel], laidTests := true, laidLooks := .later }
def LexJoinsCardSaid : Prop := Claim7.holds Tryd.pinned (.plain (OpenSpec.ofChange lexJoinsSpec)) lexJoinsCard

/-- THE TIED CARD OF 'dripstonelaw01.LexDiffs'. -/
def lexDiffsCard : Claim7 := { stood := { row := lexDiffsRow, standIns := [], harness := (true, "23c33b467d2bd80078b50dfb00103e5091ed1073ec3f27099c28af2820ef364f"), looks := true }, kinds := [], alts := [], laidByText := true, laidKinds := [.data, .data, .data, .sentinel, .sentinel], laidTests := true, laidLooks := .later }
def LexDiffsCardSaid : Prop := Claim7.holds Tryd.pinned (.plain (OpenSpec.ofChange lexDiffsSpec)) lexDiffsCard

/-- THE TIED CARD OF 'dripstonelaw01.LexRescans'. -/
def lexRescansCard : Claim7 := { stood := { row := lexRescansRow, standIns := [], harness := (true, "23c33b467d2bd80078b50dfb00103e5091ed1073ec3f27099c28af2820ef364f"), looks := true }, kinds := [], alts := [], laidByText := true, laidKinds := [.data, .data, .data, .sentinel, .sentinel], laidTests := true, laidLooks := .later }
def LexRescansCardSaid : Prop := Claim7.holds Tryd.pinned (.plain (OpenSpec.ofChange lexRescansSpec)) lexRescansCard

/-- THE TIED CARD OF 'dripstonelaw01.LexAgain'. -/
def lexAgainCard : Claim7 := { stood := { row := lexAgainRow, standIns := [], harness := (true, "23c33b467d2bd80078b50dfb00103e5091ed1073ec3f27099c28af2820ef364f"), looks := true }, kinds := [], alts := [], laidByText := true, laidKinds := [.data, .data, .data, .sentinel, .sentinel], laidTests := true, laidLooks := .later }
def LexAgainCardSaid : Prop := Claim7.holds Tryd.pinned (.plain (OpenSpec.ofChange lexAgainSpec)) lexAgainCard

/-- THE TIED CARD OF 'dripstonelaw01.LexSigns'. -/
def lexSignsCard : Claim7 := { stood := { row := lexSignsRow, standIns := [], harness := (true, "23c33b467d2bd80078b50dfb00103e5091ed1073ec3f27099c28af2820ef364f"), looks := true }, kinds := [], alts := [], laidByText := true, laidKinds := [.data, .data, .data, .sentinel, .sentinel], laidTests := true, laidLooks := .later }
def LexSignsCardSaid : Prop := Claim7.holds Tryd.pinned (.plain (OpenSpec.ofChange lexSignsSpec)) lexSignsCard

/-- THE TIED CARD OF 'dripstonelaw01.LexDiffed'. -/
def lexDiffedCard : Claim7 := { stood := { row := lexDiffedRow, standIns := [], harness := (true, "23c33b467d2bd80078b50dfb00103e5091ed1073ec3f27099c28af2820ef364f"), looks := true }, kinds := [], alts := [], laidByText := true, laidKinds := [.data, .data, .data, .sentinel, .sentinel], laidTests := true, laidLooks := .later }
def LexDiffedCardSaid : Prop := Claim7.holds Tryd.pinned (.plain (OpenSpec.ofChange lexDiffedSpec)) lexDiffedCard

/-- THE TIED CARD OF 'dripstonelaw01.LexPatches'. -/
def lexPatchesCard : Claim7 := { stood := { row := lexPatchesRow, standIns := [], harness := (true, "23c33b467d2bd80078b50dfb00103e5091ed1073ec3f27099c28af2820ef364f"), looks := true }, kinds := [], alts := [], laidByText := true, laidKinds := [.data, .data, .data, .sentinel, .sentinel], laidTests := true, laidLooks := .later }
def LexPatchesCardSaid : Prop := Claim7.holds Tryd.pinned (.plain (OpenSpec.ofChange lexPatchesSpec)) lexPatchesCard

/-- THE TIED CARD OF 'dripstonelaw01.LexEdits'. -/
def lexEditsCard : Claim7 := { stood := { row := lexEditsRow, standIns := [], harness := (true, "23c33b467d2bd80078b50dfb00103e5091ed1073ec3f27099c28af2820ef364f"), looks := true }, kinds := [], alts := [], laidByText := true, laidKinds := [.data, .data, .data, .sentinel, .sentinel], laidTests := true, laidLooks := .later }
def LexEditsCardSaid : Prop := Claim7.holds Tryd.pinned (.plain (OpenSpec.ofChange lexEditsSpec)) lexEditsCard

/-- THE TIED CARD OF 'dripstonelaw01.LexUndone'. -/
def lexUndoneCard : Claim7 := { stood := { row := lexUndoneRow, standIns := [], harness := (true, "23c33b467d2bd80078b50dfb00103e5091ed1073ec3f27099c28af2820ef364f"), looks := true }, kinds := [], alts := [], laidByText := true, laidKinds := [.data, .data, .data, .sentinel, .sentinel], laidTests := true, laidLooks := .later }
def LexUndoneCardSaid : Prop := Claim7.holds Tryd.pinned (.plain (OpenSpec.ofChange lexUndoneSpec)) lexUndoneCard

/-- THE TIED CARD OF 'dripstonelaw01.LexBoths'. -/
def lexBothsCard : Claim7 := { stood := { row := lexBothsRow, standIns := [], harness := (true, "23c33b467d2bd80078b50dfb00103e5091ed1073ec3f27099c28af2820ef364f"), looks := true }, kinds := [], alts := [], laidByText := true, laidKinds := [.data, .data, .data, .sentinel, .sentinel], laidTests := true, laidLooks := .later }
def LexBothsCardSaid : Prop := Claim7.holds Tryd.pinned (.plain (OpenSpec.ofChange lexBothsSpec)) lexBothsCard

/-- THE TIED CARD OF 'dripstonelaw01.LexTwo'. -/
def lexTwoCard : Claim7 := { stood := { row := lexTwoRow, standIns := [], harness := (true, "23c33b467d2bd80078b50dfb00103e5091ed1073ec3f27099c28af2820ef364f"), looks := true }, kinds := [], alts := [], laidByText := true, laidKinds := [.data, .data, .data, .sentinel, .sentinel], laidTests := true, laidLooks := .later }
def LexTwoCardSaid : Prop := Claim7.holds Tryd.pinned (.plain (OpenSpec.ofChange lexTwoSpec)) lexTwoCard

/-- THE TIED CARD OF 'dripstonelaw01.LexKept'. -/
def lexKeptCard : Claim7 := { stood := { row := lexKeptRow, standIns := [], harness := (true, "23c33b467d2bd80078b50dfb00103e5091ed1073ec3f27099c28af2820ef364f"), looks := true }, kinds := [], alts := [], laidByText := true, laidKinds := [.data, .data, .data, .sentinel, .sentinel], laidTests := true, laidLooks := .later }
def LexKeptCardSaid : Prop := Claim7.holds Tryd.pinned (.plain (OpenSpec.ofChange lexKeptSpec)) lexKeptCard

/-- THE TIED CARD OF 'dripstonelaw01.LexBlanks'. -/
def lexBlanksCard : Claim7 := { stood := { row := lexBlanksRow, standIns := [], harness := (true, "23c33b467d2bd80078b50dfb00103e5091ed1073ec3f27099c28af2820ef364f"), looks := true }, kinds := [], alts := [], laidByText := true, laidKinds := [.data, .data, .data, .sentinel, .sentinel], laidTests := true, laidLooks := .later }
def LexBlanksCardSaid : Prop := Claim7.holds Tryd.pinned (.plain (OpenSpec.ofChange lexBlanksSpec)) lexBlanksCard

/-- THE TIED CARD OF 'dripstonelaw01.LexComments'. -/
def lexCommentsCard : Claim7 := { stood := { row := lexCommentsRow, standIns := [], harness := (true, "23c33b467d2bd80078b50dfb00103e5091ed1073ec3f27099c28af2820ef364f"), looks := true }, kinds := [], alts := [], laidByText := true, laidKinds := [.data, .data, .data, .sentinel, .sentinel], laidTests := true, laidLooks := .later }
def LexCommentsCardSaid : Prop := Claim7.holds Tryd.pinned (.plain (OpenSpec.ofChange lexCommentsSpec)) lexCommentsCard

/-- THE TIED CARD OF 'dripstonelaw01.LexPlaces'. -/
def lexPlacesCard : Claim7 := { stood := { row := lexPlacesRow, standIns := [], harness := (true, "23c33b467d2bd80078b50dfb00103e5091ed1073ec3f27099c28af2820ef364f"), looks := true }, kinds := [], alts := [], laidByText := true, laidKinds := [.data, .data, .data, .data, .sentinel, .sentinel, .pinned], laidTests := true, laidLooks := .later }
def LexPlacesCardSaid : Prop := Claim7.holds Tryd.pinned (.plain (OpenSpec.ofChange lexPlacesSpec)) lexPlacesCard

/-- THE TIED CARD OF 'dripstonelaw01.LexPlaced'. -/
def lexPlacedCard : Claim7 := { stood := { row := lexPlacedRow, standIns := [], harness := (true, "23c33b467d2bd80078b50dfb00103e5091ed1073ec3f27099c28af2820ef364f"), looks := true }, kinds := [], alts := [], laidByText := true, laidKinds := [.data, .data, .data, .data, .sentinel, .sentinel, .pinned], laidTests := true, laidLooks := .later }
def LexPlacedCardSaid : Prop := Claim7.holds Tryd.pinned (.plain (OpenSpec.ofChange lexPlacedSpec)) lexPlacedCard

/-- THE SECOND FORM's CARD OF 'dripstonelaw01.LexScans'. -/
def lexScansUptoCard : Claim7 := { stood := { row := lexScansUptoRow, standIns := [], harness := (true, "23c33b467d2bd80078b50dfb00103e5091ed1073ec3f27099c28af2820ef364f"), looks := true }, kinds := [], alts := [], laidByText := true, laidKinds := [.data, .data, .data, .sentinel, .sentinel], laidTests := true, laidLooks := .later }
def LexScansUptoCardSaid : Prop := Claim7.holds Tryd.pinned (.plain (OpenSpec.upto lexScansSpec)) lexScansUptoCard

/-- THE SECOND FORM's CARD OF 'dripstonelaw01.LexKinds'. -/
def lexKindsUptoCard : Claim7 := { stood := { row := lexKindsUptoRow, standIns := [], harness := (true, "23c33b467d2bd80078b50dfb00103e5091ed1073ec3f27099c28af2820ef364f"), looks := true }, kinds := [], alts := [], laidByText := true, laidKinds := [.data, .data, .data, .sentinel, .sentinel], laidTests := true, laidLooks := .later }
def LexKindsUptoCardSaid : Prop := Claim7.holds Tryd.pinned (.plain (OpenSpec.upto lexKindsSpec)) lexKindsUptoCard

/-- THE SECOND FORM's CARD OF 'dripstonelaw01.LexJoins'. -/
def lexJoinsUptoCard : Claim7 := { stood := { row := lexJoinsUptoRow, standIns := [], harness := (true, "23c33b467d2bd80078b50dfb00103e5091ed1073ec3f27099c28af2820ef364f"), looks := true }, kinds := [], alts := [], laidByText := true, laidKinds := [.data, .data, .data, .sentinel, .sentinel], laidTests := true, laidLooks := .later }
def LexJoinsUptoCardSaid : Prop := Claim7.holds Tryd.pinned (.plain (OpenSpec.upto lexJoinsSpec)) lexJoinsUptoCard

/-- THE SECOND FORM's CARD OF 'dripstonelaw01.LexDiffs'. -/
def lexDiffsUptoCard : Claim7 := { stood := { row := lexDiffsUptoRow, standIns := [], harness := (true, "23c33b467d2bd80078b50dfb00103e5091ed1073ec3f27099c28af2820ef364f"), looks := true }, kinds := [], alts := [], laidByText := true, laidKinds := [.data, .data, .data, .sentinel, .sentinel], laidTests := true, laidLooks := .later }
def LexDiffsUptoCardSaid : Prop := Claim7.holds Tryd.pinned (.plain (OpenSpec.upto lexDiffsSpec)) lexDiffsUptoCard

/-- THE SECOND FORM's CARD OF 'dripstonelaw01.LexRescans'. -/
def lexRescansUptoCard : Claim7 := { stood := { row := lexRescansUptoRow, standIns := [], harness := (true, "23c33b467d2bd80078b50dfb00103e5091ed1073ec3f27099c28af2820ef364f"), looks := true }, kinds := [], alts := [], laidByText := true, laidKinds := [.data, .data, .data, .sentinel, .sentinel], laidTests := true, laidLooks := .later }
def LexRescansUptoCardSaid : Prop := Claim7.holds Tryd.pinned (.plain (OpenSpec.upto lexRescansSpec)) lexRescansUptoCard

/-- THE SECOND FORM's CARD OF 'dripstonelaw01.LexAgain'. -/
def lexAgainUptoCard : Claim7 := { stood := { row := lexAgainUptoRow, standIns := [], harness := (true, "23c33b467d2bd80078b50dfb00103e5091ed1073ec3f27099c28af2820ef364f"), looks := true }, kinds := [], alts := [], laidByText := true, laidKinds := [.data, .data, .data, .sentinel, .sentinel], laidTests := true, laidLooks := .later }
def LexAgainUptoCardSaid : Prop := Claim7.holds Tryd.pinned (.plain (OpenSpec.upto lexAgainSpec)) lexAgainUptoCard

/-- THE SECOND FORM's CARD OF 'dripstonelaw01.LexSigns'. -/
def lexSignsUptoCard : Claim7 := { stood := { row := lexSignsUptoRow, standIns := [], harness := (true, "23c33b467d2bd80078b50dfb00103e5091ed1073ec3f27099c28af2820ef364f"), looks := true }, kinds := [], alts := [], laidByText := true, laidKinds := [.data, .data, .data, .sentinel, .sentinel], laidTests := true, laidLooks := .later }
def LexSignsUptoCardSaid : Prop := Claim7.holds Tryd.pinned (.plain (OpenSpec.upto lexSignsSpec)) lexSignsUptoCard

/-- THE SECOND FORM's CARD OF 'dripstonelaw01.LexDiffed'. -/
def lexDiffedUptoCard : Claim7 := { stood := { row := lexDiffedUptoRow, standIns := [], harness := (true, "23c33b467d2bd80078b50dfb00103e5091ed1073ec3f27099c28af2820ef364f"), looks := true }, kinds := [], alts := [], laidByText := true, laidKinds := [.data, .data, .data, .sentinel, .sentinel], laidTests := true, laidLooks := .later }
def LexDiffedUptoCardSaid : Prop := Claim7.holds Tryd.pinned (.plain (OpenSpec.upto lexDiffedSpec)) lexDiffedUptoCard

/-- THE SECOND FORM's CARD OF 'dripstonelaw01.LexPatches'. -/
def lexPatchesUptoCard : Claim7 := { stood := { row := lexPatchesUptoRow, standIns := [], harness := (true, "23c33b467d2bd80078b50dfb00103e5091ed1073ec3f27099c28af2820ef364f"), looks := true }, kinds := [], alts := [], laidByText := true, laidKinds := [.data, .data, .data, .sentinel, .sentinel], laidTests := true, laidLooks := .later }
def LexPatchesUptoCardSaid : Prop := Claim7.holds Tryd.pinned (.plain (OpenSpec.upto lexPatchesSpec)) lexPatchesUptoCard

/-- THE SECOND FORM's CARD OF 'dripstonelaw01.LexEdits'. -/
def lexEditsUptoCard : Claim7 := { stood := { row := lexEditsUptoRow, standIns := [], harness := (true, "23c33b467d2bd80078b50dfb00103e5091ed1073ec3f27099c28af2820ef364f"), looks := true }, kinds := [], alts := [], laidByText := true, laidKinds := [.data, .data, .data, .sentinel, .sentinel], laidTests := true, laidLooks := .later }
def LexEditsUptoCardSaid : Prop := Claim7.holds Tryd.pinned (.plain (OpenSpec.upto lexEditsSpec)) lexEditsUptoCard

/-- THE SECOND FORM's CARD OF 'dripstonelaw01.LexUndone'. -/
def lexUndoneUptoCard : Claim7 := { stood := { row := lexUndoneUptoRow, standIns := [], harness := (true, "23c33b467d2bd80078b50dfb00103e5091ed1073ec3f27099c28af2820ef364f"), looks := true }, kinds := [], alts := [], laidByText := true, laidKinds := [.data, .data, .data, .sentinel, .sentinel], laidTests := true, laidLooks := .later }
def LexUndoneUptoCardSaid : Prop := Claim7.holds Tryd.pinned (.plain (OpenSpec.upto lexUndoneSpec)) lexUndoneUptoCard

/-- THE SECOND FORM's CARD OF 'dripstonelaw01.LexBoths'. -/
def lexBothsUptoCard : Claim7 := { stood := { row := lexBothsUptoRow, standIns := [], harness := (true, "23c33b467d2bd80078b50dfb00103e5091ed1073ec3f27099c28af2820ef364f"), looks := true }, kinds := [], alts := [], laidByText := true, laidKinds := [.data, .data, .data, .sentinel, .sentinel], laidTests := true, laidLooks := .later }
def LexBothsUptoCardSaid : Prop := Claim7.holds Tryd.pinned (.plain (OpenSpec.upto lexBothsSpec)) lexBothsUptoCard

/-- THE SECOND FORM's CARD OF 'dripstonelaw01.LexTwo'. -/
def lexTwoUptoCard : Claim7 := { stood := { row := lexTwoUptoRow, standIns := [], harness := (true, "23c33b467d2bd80078b50dfb00103e5091ed1073ec3f27099c28af2820ef364f"), looks := true }, kinds := [], alts := [], laidByText := true, laidKinds := [.data, .data, .data, .sentinel, .sentinel], laidTests := true, laidLooks := .later }
def LexTwoUptoCardSaid : Prop := Claim7.holds Tryd.pinned (.plain (OpenSpec.upto lexTwoSpec)) lexTwoUptoCard

/-- THE SECOND FORM's CARD OF 'dripstonelaw01.LexKept'. -/
def lexKeptUptoCard : Claim7 := { stood := { row := lexKeptUptoRow, standIns := [], harness := (true, "23c33b467d2bd80078b50dfb00103e5091ed1073ec3f27099c28af2820ef364f"), looks := true }, kinds := [], alts := [], laidByText := true, laidKinds := [.data, .data, .data, .sentinel, .sentinel], laidTests := true, laidLooks := .later }
def LexKeptUptoCardSaid : Prop := Claim7.holds Tryd.pinned (.plain (OpenSpec.upto lexKeptSpec)) lexKeptUptoCard

/-- THE SECOND FORM's CARD OF 'dripstonelaw01.LexBlanks'. -/
def lexBlanksUptoCard : Claim7 := { stood := { row := lexBlanksUptoRow, standIns := [], harness := (true, "23c33b467d2bd80078b50dfb00103e5091ed1073ec3f27099c28af2820ef364f"), looks := true }, kinds := [], alts := [], laidByText := true, laidKinds := [.data, .data, .data, .sentinel, .sentinel], laidTests := true, laidLooks := .later }
def LexBlanksUptoCardSaid : Prop := Claim7.holds Tryd.pinned (.plain (OpenSpec.upto lexBlanksSpec)) lexBlanksUptoCard

/-- THE SECOND FORM's CARD OF 'dripstonelaw01.LexComments'. -/
def lexCommentsUptoCard : Claim7 := { stood := { row := lexCommentsUptoRow, standIns := [], harness := (true, "23c33b467d2bd80078b50dfb00103e5091ed1073ec3f27099c28af2820ef364f"), looks := true }, kinds := [], alts := [], laidByText := true, laidKinds := [.data, .data, .data, .sentinel, .sentinel], laidTests := true, laidLooks := .later }
def LexCommentsUptoCardSaid : Prop := Claim7.holds Tryd.pinned (.plain (OpenSpec.upto lexCommentsSpec)) lexCommentsUptoCard

/-- THE SECOND FORM's CARD OF 'dripstonelaw01.LexPlaces'. -/
def lexPlacesUptoCard : Claim7 := { stood := { row := lexPlacesUptoRow, standIns := [], harness := (true, "23c33b467d2bd80078b50dfb00103e5091ed1073ec3f27099c28af2820ef364f"), looks := true }, kinds := [], alts := [], laidByText := true, laidKinds := [.data, .data, .data, .data, .sentinel, .sentinel, .pinned], laidTests := true, laidLooks := .later }
def LexPlacesUptoCardSaid : Prop := Claim7.holds Tryd.pinned (.plain (OpenSpec.upto lexPlacesSpec)) lexPlacesUptoCard

/-- THE SECOND FORM's CARD OF 'dripstonelaw01.LexPlaced'. -/
def lexPlacedUptoCard : Claim7 := { stood := { row := lexPlacedUptoRow, standIns := [], harness := (true, "23c33b467d2bd80078b50dfb00103e5091ed1073ec3f27099c28af2820ef364f"), looks := true }, kinds := [], alts := [], laidByText := true, laidKinds := [.data, .data, .data, .data, .sentinel, .sentinel, .pinned], laidTests := true, laidLooks := .later }
def LexPlacedUptoCardSaid : Prop := Claim7.holds Tryd.pinned (.plain (OpenSpec.upto lexPlacedSpec)) lexPlacedUptoCard
end Rows
end Go.Proofs.YthmlejcfgbpcbaaDoor
