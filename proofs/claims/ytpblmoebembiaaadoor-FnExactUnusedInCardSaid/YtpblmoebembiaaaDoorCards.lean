/-
  DERIVED. GIVEN WITH THE SEED: THE CARDS: each row of YtpblmoebembiaaaDoorRows.lean that lists a variable, with what it lists TIED to the program's text (the seventh form; the later family's looks); each row that meets fmt, with fmt's text TOLD by the authors' own Lean function (tested against real Go, not proved from fmt's source: count such statements apart). THE CARD IS WHAT COUNTS. Prove the row's statement (the work); the ties are given (YtpblmoebembiaaaDoorTie.lean); close each card by the builder's one call (the guide's Derived/Test/ToyasCard.lean, 'card_holds'). Laid BY PROGRAM, IN A SANDBOX (cutbox-door.mjs). By AI agents, Wed Nov 11 2026. No macro, syntax, notation, axiom, sorry.
-/
import Derived.Test.YtpblmoebembiaaaDoorRows
import GoSem.ClaimSeven
namespace Go.Proofs.YtpblmoebembiaaaDoor
namespace Rows

/-- THE TIED CARD OF 'laws.FnExactValidPlate'. -/
def fnExactValidPlateCard : Claim7 := { stood := { row := fnExactValidPlateRow, standIns := [], harness := (true, "fd81f4eac2a947e25687325224f0ec43f12b5a10288e017e3484bb386139fe77"), looks := false }, kinds := [], alts := [], laidByText := true, laidKinds := [.data, .pinned], laidTests := true, laidLooks := .later }
def FnExactValidPlateCardSaid : Prop := Claim7.holds Tryd.pinned (.plain (OpenSpec.ofChange fnExactValidPlateSpec)) fnExactValidPlateCard

/-- THE TIED CARD OF 'laws.FnExactValidKnown'. -/
def fnExactValidKnownCard : Claim7 := { stood := { row := fnExactValidKnownRow, standIns := [], harness := (true, "fd81f4eac2a947e25687325224f0ec43f12b5a10288e017e3484bb386139fe77"), looks := false }, kinds := [], alts := [], laidByText := true, laidKinds := [.data, .pinned], laidTests := true, laidLooks := .later }
def FnExactValidKnownCardSaid : Prop := Claim7.holds Tryd.pinned (.plain (OpenSpec.ofChange fnExactValidKnownSpec)) fnExactValidKnownCard

/-- THE TIED CARD OF 'laws.FnMerges'. -/
def fnMergesCard : Claim7 := { stood := { row := fnMergesRow, standIns := [], harness := (true, "fd81f4eac2a947e25687325224f0ec43f12b5a10288e017e3484bb386139fe77"), looks := false }, kinds := [], alts := [], laidByText := true, laidKinds := [.data, .pinned], laidTests := true, laidLooks := .later }
def FnMergesCardSaid : Prop := Claim7.holds Tryd.pinned (.plain (OpenSpec.ofChange fnMergesSpec)) fnMergesCard

/-- THE TIED CARD OF 'laws.FnExactValidEdits'. -/
def fnExactValidEditsCard : Claim7 := { stood := { row := fnExactValidEditsRow, standIns := [], harness := (true, "fd81f4eac2a947e25687325224f0ec43f12b5a10288e017e3484bb386139fe77"), looks := false }, kinds := [], alts := [], laidByText := true, laidKinds := [.data, .pinned], laidTests := true, laidLooks := .later }
def FnExactValidEditsCardSaid : Prop := Claim7.holds Tryd.pinned (.plain (OpenSpec.ofChange fnExactValidEditsSpec)) fnExactValidEditsCard

/-- THE TIED CARD OF 'laws.FnExactValidCatalogue'. -/
def fnExactValidCatalogueCard : Claim7 := { stood := { row := fnExactValidCatalogueRow, standIns := [], harness := (true, "fd81f4eac2a947e25687325224f0ec43f12b5a10288e017e3484bb386139fe77"), looks := false }, kinds := [], alts := [], laidByText := true, laidKinds := [.data, .pinned], laidTests := true, laidLooks := .later }
def FnExactValidCatalogueCardSaid : Prop := Claim7.holds Tryd.pinned (.plain (OpenSpec.ofChange fnExactValidCatalogueSpec)) fnExactValidCatalogueCard

/-- THE TIED CARD OF 'laws.FnExactValidEditions'. -/
def fnExactValidEditionsCard : Claim7 := { stood := { row := fnExactValidEditionsRow, standIns := [], harness := (true, "fd81f4eac2a947e25687325224f0ec43f12b5a10288e017e3484bb386139fe77"), looks := false }, kinds := [], alts := [], laidByText := true, laidKinds := [.data, .pinned], laidTests := true, laidLooks := .later }
def FnExactValidEditionsCardSaid : Prop := Claim7.holds Tryd.pinned (.plain (OpenSpec.ofChange fnExactValidEditionsSpec)) fnExactValidEditionsCard

/-- THE TIED CARD OF 'laws.FnExactConflictsOf'. -/
def fnExactConflictsOfCard : Claim7 := { stood := { row := fnExactConflictsOfRow, standIns := [], harness := (true, "fd81f4eac2a947e25687325224f0ec43f12b5a10288e017e3484bb386139fe77"), looks := false }, kinds := [], alts := [], laidByText := true, laidKinds := [.data, .pinned], laidTests := true, laidLooks := .later }
def FnExactConflictsOfCardSaid : Prop := Claim7.holds Tryd.pinned (.plain (OpenSpec.ofChange fnExactConflictsOfSpec)) fnExactConflictsOfCard

/-- THE TIED CARD OF 'laws.FnExactEditionIn'. -/
def fnExactEditionInCard : Claim7 := { stood := { row := fnExactEditionInRow, standIns := [], harness := (true, "fd81f4eac2a947e25687325224f0ec43f12b5a10288e017e3484bb386139fe77"), looks := false }, kinds := [], alts := [], laidByText := true, laidKinds := [.data, .pinned], laidTests := true, laidLooks := .later }
def FnExactEditionInCardSaid : Prop := Claim7.holds Tryd.pinned (.plain (OpenSpec.ofChange fnExactEditionInSpec)) fnExactEditionInCard

/-- THE TIED CARD OF 'laws.FnExactMergePlates'. -/
def fnExactMergePlatesCard : Claim7 := { stood := { row := fnExactMergePlatesRow, standIns := [], harness := (true, "fd81f4eac2a947e25687325224f0ec43f12b5a10288e017e3484bb386139fe77"), looks := false }, kinds := [], alts := [], laidByText := true, laidKinds := [.data, .pinned], laidTests := true, laidLooks := .later }
def FnExactMergePlatesCardSaid : Prop := Claim7.holds Tryd.pinned (.plain (OpenSpec.ofChange fnExactMergePlatesSpec)) fnExactMergePlatesCard

/-- THE TIED CARD OF 'laws.FnExactUnusedIn'. -/
def fnExactUnusedInCard : Claim7 := { stood := { row := fnExactUnusedInRow, standIns := [], harness := (true, "fd81f4eac2a947e25687325224f0ec43f12b5a10288e017e3484bb386139fe77"), looks := false }, kinds := [], alts := [], laidByText := true, laidKinds := [.data, .pinned], laidTests := true, laidLooks := .later }
def FnExactUnusedInCardSaid : Prop := Claim7.holds Tryd.pinned (.plain (OpenSpec.ofChange fnExactUnusedInSpec)) fnExactUnusedInCard

/-- THE TIED CARD OF 'laws.FnExactEditsBetween'. -/
def fnExactEditsBetweenCard : Claim7 := { stood := { row := fnExactEditsBetweenRow, standIns := [], harness := (true, "fd81f4eac2a947e25687325224f0ec43f12b5a10288e017e3484bb386139fe77"), looks := false }, kinds := [], alts := [], laidByText := true, laidKinds := [.data, .pinned], laidTests := true, laidLooks := .later }
def FnExactEditsBetweenCardSaid : Prop := Claim7.holds Tryd.pinned (.plain (OpenSpec.ofChange fnExactEditsBetweenSpec)) fnExactEditsBetweenCard

/-- THE SECOND FORM's CARD OF 'laws.FnExactValidPlate'. -/
def fnExactValidPlateUptoCard : Claim7 := { stood := { row := fnExactValidPlateUptoRow, standIns := [], harness := (true, "fd81f4eac2a947e25687325224f0ec43f12b5a10288e017e3484bb386139fe77"), looks := false }, kinds := [], alts := [], laidByText := true, laidKinds := [.data, .pinned], laidTests := true, laidLooks := .later }
def FnExactValidPlateUptoCardSaid : Prop := Claim7.holds Tryd.pinned (.plain (OpenSpec.upto fnExactValidPlateSpec)) fnExactValidPlateUptoCard

/-- THE SECOND FORM's CARD OF 'laws.FnExactValidKnown'. -/
def fnExactValidKnownUptoCard : Claim7 := { stood := { row := fnExactValidKnownUptoRow, standIns := [], harness := (true, "fd81f4eac2a947e25687325224f0ec43f12b5a10288e017e3484bb386139fe77"), looks := false }, kinds := [], alts := [], laidByText := true, laidKinds := [.data, .pinned], laidTests := true, laidLooks := .later }
def FnExactValidKnownUptoCardSaid : Prop := Claim7.holds Tryd.pinned (.plain (OpenSpec.upto fnExactValidKnownSpec)) fnExactValidKnownUptoCard

/-- THE SECOND FORM's CARD OF 'laws.FnMerges'. -/
def fnMergesUptoCard : Claim7 := { stood := { row := fnMergesUptoRow, standIns := [], harness := (true, "fd81f4eac2a947e25687325224f0ec43f12b5a10288e017e3484bb386139fe77"), looks := false }, kinds := [], alts := [], laidByText := true, laidKinds := [.data, .pinned], laidTests := true, laidLooks := .later }
def FnMergesUptoCardSaid : Prop := Claim7.holds Tryd.pinned (.plain (OpenSpec.upto fnMergesSpec)) fnMergesUptoCard

/-- THE SECOND FORM's CARD OF 'laws.FnExactValidEdits'. -/
def fnExactValidEditsUptoCard : Claim7 := { stood := { row := fnExactValidEditsUptoRow, standIns := [], harness := (true, "fd81f4eac2a947e25687325224f0ec43f12b5a10288e017e3484bb386139fe77"), looks := false }, kinds := [], alts := [], laidByText := true, laidKinds := [.data, .pinned], laidTests := true, laidLooks := .later }
def FnExactValidEditsUptoCardSaid : Prop := Claim7.holds Tryd.pinned (.plain (OpenSpec.upto fnExactValidEditsSpec)) fnExactValidEditsUptoCard

/-- THE SECOND FORM's CARD OF 'laws.FnExactValidCatalogue'. -/
def fnExactValidCatalogueUptoCard : Claim7 := { stood := { row := fnExactValidCatalogueUptoRow, standIns := [], harness := (true, "fd81f4eac2a947e25687325224f0ec43f12b5a10288e017e3484bb386139fe77"), looks := false }, kinds := [], alts := [], laidByText := true, laidKinds := [.data, .pinned], laidTests := true, laidLooks := .later }
def FnExactValidCatalogueUptoCardSaid : Prop := Claim7.holds Tryd.pinned (.plain (OpenSpec.upto fnExactValidCatalogueSpec)) fnExactValidCatalogueUptoCard

/-- THE SECOND FORM's CARD OF 'laws.FnExactValidEditions'. -/
def fnExactValidEditionsUptoCard : Claim7 := { stood := { row := fnExactValidEditionsUptoRow, standIns := [], harness := (true, "fd81f4eac2a947e25687325224f0ec43f12b5a10288e017e3484bb386139fe77"), looks := false }, kinds := [], alts := [], laidByText := true, laidKinds := [.data, .pinned], laidTests := true, laidLooks := .later }
def FnExactValidEditionsUptoCardSaid : Prop := Claim7.holds Tryd.pinned (.plain (OpenSpec.upto fnExactValidEditionsSpec)) fnExactValidEditionsUptoCard

/-- THE SECOND FORM's CARD OF 'laws.FnExactConflictsOf'. -/
def fnExactConflictsOfUptoCard : Claim7 := { stood := { row := fnExactConflictsOfUptoRow, standIns := [], harness := (true, "fd81f4eac2a947e25687325224f0ec43f12b5a10288e017e3484bb386139fe77"), looks := false }, kinds := [], alts := [], laidByText := true, laidKinds := [.data, .pinned], laidTests := true, laidLooks := .later }
def FnExactConflictsOfUptoCardSaid : Prop := Claim7.holds Tryd.pinned (.plain (OpenSpec.upto fnExactConflictsOfSpec)) fnExactConflictsOfUptoCard

/-- THE SECOND FORM's CARD OF 'laws.FnExactEditionIn'. -/
def fnExactEditionInUptoCard : Claim7 := { stood := { row := fnExactEditionInUptoRow, standIns := [], harness := (true, "fd81f4eac2a947e25687325224f0ec43f12b5a10288e017e3484bb386139fe77"), looks := false }, kinds := [], alts := [], laidByText := true, laidKinds := [.data, .pinned], laidTests := true, laidLooks := .later }
def FnExactEditionInUptoCardSaid : Prop := Claim7.holds Tryd.pinned (.plain (OpenSpec.upto fnExactEditionInSpec)) fnExactEditionInUptoCard

/-- THE SECOND FORM's CARD OF 'laws.FnExactMergePlates'. -/
def fnExactMergePlatesUptoCard : Claim7 := { stood := { row := fnExactMergePlatesUptoRow, standIns := [], harness := (true, "fd81f4eac2a947e25687325224f0ec43f12b5a10288e017e3484bb386139fe77"), looks := false }, kinds := [], alts := [], laidByText := true, laidKinds := [.data, .pinned], laidTests := true, laidLooks := .later }
def FnExactMergePlatesUptoCardSaid : Prop := Claim7.holds Tryd.pinned (.plain (OpenSpec.upto fnExactMergePlatesSpec)) fnExactMergePlatesUptoCard

/-- THE SECOND FORM's CARD OF 'laws.FnExactUnusedIn'. -/
def fnExactUnusedInUptoCard : Claim7 := { stood := { row := fnExactUnusedInUptoRow, standIns := [], harness := (true, "fd81f4eac2a947e25687325224f0ec43f12b5a10288e017e3484bb386139fe77"), looks := false }, kinds := [], alts := [], laidByText := true, laidKinds := [.data, .pinned], laidTests := true, laidLooks := .later }
def FnExactUnusedInUptoCardSaid : Prop := Claim7.holds Tryd.pinned (.plain (OpenSpec.upto fnExactUnusedInSpec)) fnExactUnusedInUptoCard

/-- THE SECOND FORM's CARD OF 'laws.FnExactEditsBetween'. -/
def fnExactEditsBetweenUptoCard : Claim7 := { stood := { row := fnExactEditsBetweenUptoRow, standIns := [], harness := (true, "fd81f4eac2a947e25687325224f0ec43f12b5a10288e017e3484bb386139fe77"), looks := false }, kinds := [], alts := [], laidByText := true, laidKinds := [.data, .pinned], laidTests := true, laidLooks := .later }
def FnExactEditsBetweenUptoCardSaid : Prop := Claim7.holds Tryd.pinned (.plain (OpenSpec.upto fnExactEditsBetweenSpec)) fnExactEditsBetweenUptoCard
end Rows
end Go.Proofs.YtpblmoebembiaaaDoor
