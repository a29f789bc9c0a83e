/-
  DERIVED. GIVEN WITH THE SEED: THE CARDS: each row of YtombhkdipldkiaaDoorRows.lean that lists a variable, with what it lists TIED to the program's text (the seventh form; the later family's looks); each row that meets fmt, with fmt's text TOLD by the authors' own Lean function (tested against real Go, not proved from fmt's source: count such statements apart). THE CARD IS WHAT COUNTS. Prove the row's statement (the work); the ties are given (YtombhkdipldkiaaDoorTie.lean); close each card by the builder's one call (the guide's Derived/Test/ToyasCard.lean, 'card_holds'). Laid BY PROGRAM, IN A SANDBOX (cutbox-door.mjs). By AI agents, Wed Nov 11 2026. No macro, syntax, notation, axiom, sorry.
-/
import Derived.Test.YtombhkdipldkiaaDoorRows
import GoSem.ClaimSeven
namespace Go.Proofs.YtombhkdipldkiaaDoor
namespace Rows

/-- THE TIED CARD OF 'laws.FnExactFirstShown'. -/
def fnExactFirstShownCard : Claim7 := { stood := { row := fnExactFirstShownRow, standIns := [], harness := (true, "18be9983159563319864430eebd87e3d65edd0c9b17e9ddb35e8b248053f0fd5"), looks := false }, kinds := [], alts := [], laidByText := true, laidKinds := [.data, .pinned], laidTests := true, laidLooks := .later }
def FnExactFirstShownCardSaid : Prop := Claim7.holds Tryd.pinned (.plain (OpenSpec.ofChange fnExactFirstShownSpec)) fnExactFirstShownCard

/-- THE TIED CARD OF 'laws.FnExactValidFigure'. -/
def fnExactValidFigureCard : Claim7 := { stood := { row := fnExactValidFigureRow, standIns := [], harness := (true, "18be9983159563319864430eebd87e3d65edd0c9b17e9ddb35e8b248053f0fd5"), looks := false }, kinds := [], alts := [], laidByText := true, laidKinds := [.data, .pinned], laidTests := true, laidLooks := .later }
def FnExactValidFigureCardSaid : Prop := Claim7.holds Tryd.pinned (.plain (OpenSpec.ofChange fnExactValidFigureSpec)) fnExactValidFigureCard

/-- THE TIED CARD OF 'laws.FnExactCountClasses'. -/
def fnExactCountClassesCard : Claim7 := { stood := { row := fnExactCountClassesRow, standIns := [], harness := (true, "18be9983159563319864430eebd87e3d65edd0c9b17e9ddb35e8b248053f0fd5"), looks := false }, kinds := [], alts := [], laidByText := true, laidKinds := [.data, .pinned], laidTests := true, laidLooks := .later }
def FnExactCountClassesCardSaid : Prop := Claim7.holds Tryd.pinned (.plain (OpenSpec.ofChange fnExactCountClassesSpec)) fnExactCountClassesCard

/-- THE TIED CARD OF 'laws.FnExactEditionOf'. -/
def fnExactEditionOfCard : Claim7 := { stood := { row := fnExactEditionOfRow, standIns := [], harness := (true, "18be9983159563319864430eebd87e3d65edd0c9b17e9ddb35e8b248053f0fd5"), looks := false }, kinds := [], alts := [], laidByText := true, laidKinds := [.data, .pinned], laidTests := true, laidLooks := .later }
def FnExactEditionOfCardSaid : Prop := Claim7.holds Tryd.pinned (.plain (OpenSpec.ofChange fnExactEditionOfSpec)) fnExactEditionOfCard

/-- THE TIED CARD OF 'laws.FnExactBrighterThan'. -/
def fnExactBrighterThanCard : Claim7 := { stood := { row := fnExactBrighterThanRow, standIns := [], harness := (true, "18be9983159563319864430eebd87e3d65edd0c9b17e9ddb35e8b248053f0fd5"), looks := false }, kinds := [], alts := [], laidByText := true, laidKinds := [.data, .pinned], laidTests := true, laidLooks := .later }
def FnExactBrighterThanCardSaid : Prop := Claim7.holds Tryd.pinned (.plain (OpenSpec.ofChange fnExactBrighterThanSpec)) fnExactBrighterThanCard

/-- THE TIED CARD OF 'laws.FnExactDateBy'. -/
def fnExactDateByCard : Claim7 := { stood := { row := fnExactDateByRow, standIns := [], harness := (true, "18be9983159563319864430eebd87e3d65edd0c9b17e9ddb35e8b248053f0fd5"), looks := false }, kinds := [], alts := [], laidByText := true, laidKinds := [.data, .pinned], laidTests := true, laidLooks := .later }
def FnExactDateByCardSaid : Prop := Claim7.holds Tryd.pinned (.plain (OpenSpec.ofChange fnExactDateBySpec)) fnExactDateByCard

/-- THE TIED CARD OF 'laws.FnExactNearestEdition'. -/
def fnExactNearestEditionCard : Claim7 := { stood := { row := fnExactNearestEditionRow, standIns := [], harness := (true, "18be9983159563319864430eebd87e3d65edd0c9b17e9ddb35e8b248053f0fd5"), looks := false }, kinds := [], alts := [], laidByText := true, laidKinds := [.data, .pinned], laidTests := true, laidLooks := .later }
def FnExactNearestEditionCardSaid : Prop := Claim7.holds Tryd.pinned (.plain (OpenSpec.ofChange fnExactNearestEditionSpec)) fnExactNearestEditionCard

/-- THE TIED CARD OF 'laws.FnExactApplyEdits'. -/
def fnExactApplyEditsCard : Claim7 := { stood := { row := fnExactApplyEditsRow, standIns := [], harness := (true, "18be9983159563319864430eebd87e3d65edd0c9b17e9ddb35e8b248053f0fd5"), looks := false }, kinds := [], alts := [], laidByText := true, laidKinds := [.data, .pinned], laidTests := true, laidLooks := .later }
def FnExactApplyEditsCardSaid : Prop := Claim7.holds Tryd.pinned (.plain (OpenSpec.ofChange fnExactApplyEditsSpec)) fnExactApplyEditsCard

/-- THE TIED CARD OF 'laws.FnExactUndoEdits'. -/
def fnExactUndoEditsCard : Claim7 := { stood := { row := fnExactUndoEditsRow, standIns := [], harness := (true, "18be9983159563319864430eebd87e3d65edd0c9b17e9ddb35e8b248053f0fd5"), looks := false }, kinds := [], alts := [], laidByText := true, laidKinds := [.data, .pinned], laidTests := true, laidLooks := .later }
def FnExactUndoEditsCardSaid : Prop := Claim7.holds Tryd.pinned (.plain (OpenSpec.ofChange fnExactUndoEditsSpec)) fnExactUndoEditsCard

/-- THE TIED CARD OF 'laws.FnExactNewNames'. -/
def fnExactNewNamesCard : Claim7 := { stood := { row := fnExactNewNamesRow, standIns := [], harness := (true, "18be9983159563319864430eebd87e3d65edd0c9b17e9ddb35e8b248053f0fd5"), looks := false }, kinds := [], alts := [], laidByText := true, laidKinds := [.data, .pinned], laidTests := true, laidLooks := .later }
def FnExactNewNamesCardSaid : Prop := Claim7.holds Tryd.pinned (.plain (OpenSpec.ofChange fnExactNewNamesSpec)) fnExactNewNamesCard

/-- THE TIED CARD OF 'laws.FnExactOldNames'. -/
def fnExactOldNamesCard : Claim7 := { stood := { row := fnExactOldNamesRow, standIns := [], harness := (true, "18be9983159563319864430eebd87e3d65edd0c9b17e9ddb35e8b248053f0fd5"), looks := false }, kinds := [], alts := [], laidByText := true, laidKinds := [.data, .pinned], laidTests := true, laidLooks := .later }
def FnExactOldNamesCardSaid : Prop := Claim7.holds Tryd.pinned (.plain (OpenSpec.ofChange fnExactOldNamesSpec)) fnExactOldNamesCard

/-- THE TIED CARD OF 'laws.FnExactEditText'. -/
def fnExactEditTextCard : Claim7 := { stood := { row := fnExactEditTextRow, standIns := [], harness := (true, "18be9983159563319864430eebd87e3d65edd0c9b17e9ddb35e8b248053f0fd5"), looks := false }, kinds := [], alts := [], laidByText := true, laidKinds := [.data, .data, .data, .data, .pinned], laidTests := true, laidLooks := .later }
def FnExactEditTextCardSaid : Prop := Claim7.holds Tryd.pinned (.plain (OpenSpec.ofChange fnExactEditTextSpec)) fnExactEditTextCard

/-- THE SECOND FORM's CARD OF 'laws.FnExactFirstShown'. -/
def fnExactFirstShownUptoCard : Claim7 := { stood := { row := fnExactFirstShownUptoRow, standIns := [], harness := (true, "18be9983159563319864430eebd87e3d65edd0c9b17e9ddb35e8b248053f0fd5"), looks := false }, kinds := [], alts := [], laidByText := true, laidKinds := [.data, .pinned], laidTests := true, laidLooks := .later }
def FnExactFirstShownUptoCardSaid : Prop := Claim7.holds Tryd.pinned (.plain (OpenSpec.upto fnExactFirstShownSpec)) fnExactFirstShownUptoCard

/-- THE SECOND FORM's CARD OF 'laws.FnExactValidFigure'. -/
def fnExactValidFigureUptoCard : Claim7 := { stood := { row := fnExactValidFigureUptoRow, standIns := [], harness := (true, "18be9983159563319864430eebd87e3d65edd0c9b17e9ddb35e8b248053f0fd5"), looks := false }, kinds := [], alts := [], laidByText := true, laidKinds := [.data, .pinned], laidTests := true, laidLooks := .later }
def FnExactValidFigureUptoCardSaid : Prop := Claim7.holds Tryd.pinned (.plain (OpenSpec.upto fnExactValidFigureSpec)) fnExactValidFigureUptoCard

/-- THE SECOND FORM's CARD OF 'laws.FnExactCountClasses'. -/
def fnExactCountClassesUptoCard : Claim7 := { stood := { row := fnExactCountClassesUptoRow, standIns := [], harness := (true, "18be9983159563319864430eebd87e3d65edd0c9b17e9ddb35e8b248053f0fd5"), looks := false }, kinds := [], alts := [], laidByText := true, laidKinds := [.data, .pinned], laidTests := true, laidLooks := .later }
def FnExactCountClassesUptoCardSaid : Prop := Claim7.holds Tryd.pinned (.plain (OpenSpec.upto fnExactCountClassesSpec)) fnExactCountClassesUptoCard

/-- THE SECOND FORM's CARD OF 'laws.FnExactEditionOf'. -/
def fnExactEditionOfUptoCard : Claim7 := { stood := { row := fnExactEditionOfUptoRow, standIns := [], harness := (true, "18be9983159563319864430eebd87e3d65edd0c9b17e9ddb35e8b248053f0fd5"), looks := false }, kinds := [], alts := [], laidByText := true, laidKinds := [.data, .pinned], laidTests := true, laidLooks := .later }
def FnExactEditionOfUptoCardSaid : Prop := Claim7.holds Tryd.pinned (.plain (OpenSpec.upto fnExactEditionOfSpec)) fnExactEditionOfUptoCard

/-- THE SECOND FORM's CARD OF 'laws.FnExactBrighterThan'. -/
def fnExactBrighterThanUptoCard : Claim7 := { stood := { row := fnExactBrighterThanUptoRow, standIns := [], harness := (true, "18be9983159563319864430eebd87e3d65edd0c9b17e9ddb35e8b248053f0fd5"), looks := false }, kinds := [], alts := [], laidByText := true, laidKinds := [.data, .pinned], laidTests := true, laidLooks := .later }
def FnExactBrighterThanUptoCardSaid : Prop := Claim7.holds Tryd.pinned (.plain (OpenSpec.upto fnExactBrighterThanSpec)) fnExactBrighterThanUptoCard

/-- THE SECOND FORM's CARD OF 'laws.FnExactDateBy'. -/
def fnExactDateByUptoCard : Claim7 := { stood := { row := fnExactDateByUptoRow, standIns := [], harness := (true, "18be9983159563319864430eebd87e3d65edd0c9b17e9ddb35e8b248053f0fd5"), looks := false }, kinds := [], alts := [], laidByText := true, laidKinds := [.data, .pinned], laidTests := true, laidLooks := .later }
def FnExactDateByUptoCardSaid : Prop := Claim7.holds Tryd.pinned (.plain (OpenSpec.upto fnExactDateBySpec)) fnExactDateByUptoCard

/-- THE SECOND FORM's CARD OF 'laws.FnExactNearestEdition'. -/
def fnExactNearestEditionUptoCard : Claim7 := { stood := { row := fnExactNearestEditionUptoRow, standIns := [], harness := (true, "18be9983159563319864430eebd87e3d65edd0c9b17e9ddb35e8b248053f0fd5"), looks := false }, kinds := [], alts := [], laidByText := true, laidKinds := [.data, .pinned], laidTests := true, laidLooks := .later }
def FnExactNearestEditionUptoCardSaid : Prop := Claim7.holds Tryd.pinned (.plain (OpenSpec.upto fnExactNearestEditionSpec)) fnExactNearestEditionUptoCard

/-- THE SECOND FORM's CARD OF 'laws.FnExactApplyEdits'. -/
def fnExactApplyEditsUptoCard : Claim7 := { stood := { row := fnExactApplyEditsUptoRow, standIns := [], harness := (true, "18be9983159563319864430eebd87e3d65edd0c9b17e9ddb35e8b248053f0fd5"), looks := false }, kinds := [], alts := [], laidByText := true, laidKinds := [.data, .pinned], laidTests := true, laidLooks := .later }
def FnExactApplyEditsUptoCardSaid : Prop := Claim7.holds Tryd.pinned (.plain (OpenSpec.upto fnExactApplyEditsSpec)) fnExactApplyEditsUptoCard

/-- THE SECOND FORM's CARD OF 'laws.FnExactUndoEdits'. -/
def fnExactUndoEditsUptoCard : Claim7 := { stood := { row := fnExactUndoEditsUptoRow, standIns := [], harness := (true, "18be9983159563319864430eebd87e3d65edd0c9b17e9ddb35e8b248053f0fd5"), looks := false }, kinds := [], alts := [], laidByText := true, laidKinds := [.data, .pinned], laidTests := true, laidLooks := .later }
def FnExactUndoEditsUptoCardSaid : Prop := Claim7.holds Tryd.pinned (.plain (OpenSpec.upto fnExactUndoEditsSpec)) fnExactUndoEditsUptoCard

/-- THE SECOND FORM's CARD OF 'laws.FnExactNewNames'. -/
def fnExactNewNamesUptoCard : Claim7 := { stood := { row := fnExactNewNamesUptoRow, standIns := [], harness := (true, "18be9983159563319864430eebd87e3d65edd0c9b17e9ddb35e8b248053f0fd5"), looks := false }, kinds := [], alts := [], laidByText := true, laidKinds := [.data, .pinned], laidTests := true, laidLooks := .later }
def FnExactNewNamesUptoCardSaid : Prop := Claim7.holds Tryd.pinned (.plain (OpenSpec.upto fnExactNewNamesSpec)) fnExactNewNamesUptoCard

/-- THE SECOND FORM's CARD OF 'laws.FnExactOldNames'. -/
def fnExactOldNamesUptoCard : Claim7 := { stood := { row := fnExactOldNamesUptoRow, standIns := [], harness := (true, "18be9983159563319864430eebd87e3d65edd0c9b17e9ddb35e8b248053f0fd5"), looks := false }, kinds := [], alts := [], laidByText := true, laidKinds := [.data, .pinned], laidTests := true, laidLooks := .later }
def FnExactOldNamesUptoCardSaid : Prop := Claim7.holds Tryd.pinned (.plain (OpenSpec.upto fnExactOldNamesSpec)) fnExactOldNamesUptoCard

/-- THE SECOND FORM's CARD OF 'laws.FnExactEditText'. -/
def fnExactEditTextUptoCard : Claim7 := { stood := { row := fnExactEditTextUptoRow, standIns := [], harness := (true, "18be9983159563319864430eebd87e3d65edd0c9b17e9ddb35e8b248053f0fd5"), looks := false }, kinds := [], alts := [], laidByText := true, laidKinds := [.data, .data, .data, .data, .pinned], laidTests := true, laidLooks := .later }
def FnExactEditTextUptoCardSaid : Prop := Claim7.holds Tryd.pinned (.plain (OpenSpec.upto fnExactEditTextSpec)) fnExactEditTextUptoCard
end Rows
end Go.Proofs.YtombhkdipldkiaaDoor
