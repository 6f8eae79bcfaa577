/-
  DERIVED. GIVEN WITH THE SEED: THE CARDS: each row of YtlpbcjimfefmeaaDoorRows.lean that lists a variable, with what it lists TIED to the program's text (the seventh form; the later family's looks); each row that meets fmt, with fmt's text TOLD by the authors' own Lean function (tested against real Go, not proved from fmt's source: count such statements apart). THE CARD IS WHAT COUNTS. Prove the row's statement (the work); the ties are given (YtlpbcjimfefmeaaDoorTie.lean); close each card by the builder's one call (the guide's Derived/Test/ToyasCard.lean, 'card_holds'). Laid BY PROGRAM, IN A SANDBOX (cutbox-door.mjs). By AI agents, Wed Nov 11 2026. No macro, syntax, notation, axiom, sorry.
-/
import Derived.Test.YtlpbcjimfefmeaaDoorRows
import GoSem.ClaimSeven
namespace Go.Proofs.YtlpbcjimfefmeaaDoor
namespace Rows

/-- THE TIED CARD OF 'spindlelaw12.KindsParts'. -/
def kindsPartsCard : Claim7 := { stood := { row := kindsPartsRow, standIns := [], harness := (true, "cf42731a651e014d08acccc7a6b7226b91d302eb31de3bc321540593b0e7289b"), looks := false }, kinds := [], alts := [], laidByText := true, laidKinds := [.data], laidTests := true, laidLooks := .later }
def KindsPartsCardSaid : Prop := Claim7.holds Tryd.pinned (.plain (OpenSpec.ofChange kindsPartsSpec)) kindsPartsCard

/-- THE TIED CARD OF 'spindlelaw12.KindsExamples'. -/
def kindsExamplesCard : Claim7 := { stood := { row := kindsExamplesRow, standIns := [], harness := (true, "cf42731a651e014d08acccc7a6b7226b91d302eb31de3bc321540593b0e7289b"), looks := false }, kinds := [], alts := [], laidByText := true, laidKinds := [.data], laidTests := true, laidLooks := .later }
def KindsExamplesCardSaid : Prop := Claim7.holds Tryd.pinned (.plain (OpenSpec.ofChange kindsExamplesSpec)) kindsExamplesCard

/-- THE TIED CARD OF 'spindlelaw12.KindsBack'. -/
def kindsBackCard : Claim7 := { stood := { row := kindsBackRow, standIns := [], harness := (true, "cf42731a651e014d08acccc7a6b7226b91d302eb31de3bc321540593b0e7289b"), looks := false }, kinds := [], alts := [], laidByText := true, laidKinds := [.data], laidTests := true, laidLooks := .later }
def KindsBackCardSaid : Prop := Claim7.holds Tryd.pinned (.plain (OpenSpec.ofChange kindsBackSpec)) kindsBackCard

/-- THE TIED CARD OF 'spindlelaw12.KindsCovers'. -/
def kindsCoversCard : Claim7 := { stood := { row := kindsCoversRow, standIns := [], harness := (true, "cf42731a651e014d08acccc7a6b7226b91d302eb31de3bc321540593b0e7289b"), looks := false }, kinds := [], alts := [], laidByText := true, laidKinds := [.data], laidTests := true, laidLooks := .later }
def KindsCoversCardSaid : Prop := Claim7.holds Tryd.pinned (.plain (OpenSpec.ofChange kindsCoversSpec)) kindsCoversCard

/-- THE TIED CARD OF 'spindlelaw12.KindsRects'. -/
def kindsRectsCard : Claim7 := { stood := { row := kindsRectsRow, standIns := [], harness := (true, "cf42731a651e014d08acccc7a6b7226b91d302eb31de3bc321540593b0e7289b"), looks := false }, kinds := [], alts := [], laidByText := true, laidKinds := [.data], laidTests := true, laidLooks := .later }
def KindsRectsCardSaid : Prop := Claim7.holds Tryd.pinned (.plain (OpenSpec.ofChange kindsRectsSpec)) kindsRectsCard

/-- THE TIED CARD OF 'spindlelaw16.IncMoves'. -/
def incMovesCard : Claim7 := { stood := { row := incMovesRow, standIns := [], harness := (true, "cf42731a651e014d08acccc7a6b7226b91d302eb31de3bc321540593b0e7289b"), looks := false }, kinds := [], alts := [], laidByText := true, laidKinds := [.data], laidTests := true, laidLooks := .later }
def IncMovesCardSaid : Prop := Claim7.holds Tryd.pinned (.plain (OpenSpec.ofChange incMovesSpec)) incMovesCard

/-- THE TIED CARD OF 'spindlelaw16.IncSigns'. -/
def incSignsCard : Claim7 := { stood := { row := incSignsRow, standIns := [], harness := (true, "cf42731a651e014d08acccc7a6b7226b91d302eb31de3bc321540593b0e7289b"), looks := false }, kinds := [], alts := [], laidByText := true, laidKinds := [.data], laidTests := true, laidLooks := .later }
def IncSignsCardSaid : Prop := Claim7.holds Tryd.pinned (.plain (OpenSpec.ofChange incSignsSpec)) incSignsCard

/-- THE TIED CARD OF 'spindlelaw16.IncBlind'. -/
def incBlindCard : Claim7 := { stood := { row := incBlindRow, standIns := [], harness := (true, "cf42731a651e014d08acccc7a6b7226b91d302eb31de3bc321540593b0e7289b"), looks := false }, kinds := [], alts := [], laidByText := true, laidKinds := [.data], laidTests := true, laidLooks := .later }
def IncBlindCardSaid : Prop := Claim7.holds Tryd.pinned (.plain (OpenSpec.ofChange incBlindSpec)) incBlindCard

/-- THE SECOND FORM's CARD OF 'spindlelaw12.KindsParts'. -/
def kindsPartsUptoCard : Claim7 := { stood := { row := kindsPartsUptoRow, standIns := [], harness := (true, "cf42731a651e014d08acccc7a6b7226b91d302eb31de3bc321540593b0e7289b"), looks := false }, kinds := [], alts := [], laidByText := true, laidKinds := [.data], laidTests := true, laidLooks := .later }
def KindsPartsUptoCardSaid : Prop := Claim7.holds Tryd.pinned (.plain (OpenSpec.upto kindsPartsSpec)) kindsPartsUptoCard

/-- THE SECOND FORM's CARD OF 'spindlelaw12.KindsExamples'. -/
def kindsExamplesUptoCard : Claim7 := { stood := { row := kindsExamplesUptoRow, standIns := [], harness := (true, "cf42731a651e014d08acccc7a6b7226b91d302eb31de3bc321540593b0e7289b"), looks := false }, kinds := [], alts := [], laidByText := true, laidKinds := [.data], laidTests := true, laidLooks := .later }
def KindsExamplesUptoCardSaid : Prop := Claim7.holds Tryd.pinned (.plain (OpenSpec.upto kindsExamplesSpec)) kindsExamplesUptoCard

/-- THE SECOND FORM's CARD OF 'spindlelaw12.KindsBack'. -/
def kindsBackUptoCard : Claim7 := { stood := { row := kindsBackUptoRow, standIns := [], harness := (true, "cf42731a651e014d08acccc7a6b7226b91d302eb31de3bc321540593b0e7289b"), looks := false }, kinds := [], alts := [], laidByText := true, laidKinds := [.data], laidTests := true, laidLooks := .later }
def KindsBackUptoCardSaid : Prop := Claim7.holds Tryd.pinned (.plain (OpenSpec.upto kindsBackSpec)) kindsBackUptoCard

/-- THE SECOND FORM's CARD OF 'spindlelaw12.KindsCovers'. -/
def kindsCoversUptoCard : Claim7 := { stood := { row := kindsCoversUptoRow, standIns := [], harness := (true, "cf42731a651e014d08acccc7a6b7226b91d302eb31de3bc321540593b0e7289b"), looks := false }, kinds := [], alts := [], laidByText := true, laidKinds := [.data], laidTests := true, laidLooks := .later }
def KindsCoversUptoCardSaid : Prop := Claim7.holds Tryd.pinned (.plain (OpenSpec.upto kindsCoversSpec)) kindsCoversUptoCard

/-- THE SECOND FORM's CARD OF 'spindlelaw12.KindsRects'. -/
def kindsRectsUptoCard : Claim7 := { stood := { row := kindsRectsUptoRow, standIns := [], harness := (true, "cf42731a651e014d08acccc7a6b7226b91d302eb31de3bc321540593b0e7289b"), looks := false }, kinds := [], alts := [], laidByText := true, laidKinds := [.data], laidTests := true, laidLooks := .later }
def KindsRectsUptoCardSaid : Prop := Claim7.holds Tryd.pinned (.plain (OpenSpec.upto kindsRectsSpec)) kindsRectsUptoCard

/-- THE SECOND FORM's CARD OF 'spindlelaw16.IncMoves'. -/
def incMovesUptoCard : Claim7 := { stood := { row := incMovesUptoRow, standIns := [], harness := (true, "cf42731a651e014d08acccc7a6b7226b91d302eb31de3bc321540593b0e7289b"), looks := false }, kinds := [], alts := [], laidByText := true, laidKinds := [.data], laidTests := true, laidLooks := .later }
def IncMovesUptoCardSaid : Prop := Claim7.holds Tryd.pinned (.plain (OpenSpec.upto incMovesSpec)) incMovesUptoCard

/-- THE SECOND FORM's CARD OF 'spindlelaw16.IncSigns'. -/
def incSignsUptoCard : Claim7 := { stood := { row := incSignsUptoRow, standIns := [], harness := (true, "cf42731a651e014d08acccc7a6b7226b91d302eb31de3bc321540593b0e7289b"), looks := false }, kinds := [], alts := [], laidByText := true, laidKinds := [.data], laidTests := true, laidLooks := .later }
def IncSignsUptoCardSaid : Prop := Claim7.holds Tryd.pinned (.plain (OpenSpec.upto incSignsSpec)) incSignsUptoCard

/-- THE SECOND FORM's CARD OF 'spindlelaw16.IncBlind'. -/
def incBlindUptoCard : Claim7 := { stood := { row := incBlindUptoRow, standIns := [], harness := (true, "cf42731a651e014d08acccc7a6b7226b91d302eb31de3bc321540593b0e7289b"), looks := false }, kinds := [], alts := [], laidByText := true, laidKinds := [.data], laidTests := true, laidLooks := .later }
def IncBlindUptoCardSaid : Prop := Claim7.holds Tryd.pinned (.plain (OpenSpec.upto incBlindSpec)) incBlindUptoCard
end Rows
end Go.Proofs.YtlpbcjimfefmeaaDoor
