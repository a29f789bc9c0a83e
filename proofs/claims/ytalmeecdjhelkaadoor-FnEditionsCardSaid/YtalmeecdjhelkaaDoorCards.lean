/-
  DERIVED. GIVEN WITH THE SEED: THE CARDS: each row of YtalmeecdjhelkaaDoorRows.lean that lists a variable, with what it lists TIED to the program's text (the seventh form; the later family's looks); each row that meets fmt, with fmt's text TOLD by the authors' own Lean function (tested against real Go, not proved from fmt's source: count such statements apart). THE CARD IS WHAT COUNTS. Prove the row's statement (the work); the ties are given (YtalmeecdjhelkaaDoorTie.lean); close each card by the builder's one call (the guide's Derived/Test/ToyasCard.lean, 'card_holds'). Laid BY PROGRAM, IN A SANDBOX (cutbox-door.mjs). By AI agents, Wed Nov 11 2026. No macro, syntax, notation, axiom, sorry.
-/
import Derived.Test.YtalmeecdjhelkaaDoorRows
import GoSem.ClaimSeven
namespace Go.Proofs.YtalmeecdjhelkaaDoor
namespace Rows

/-- THE TIED CARD OF 'laws.FnExactNewNames'. -/
def fnExactNewNamesCard : Claim7 := { stood := { row := fnExactNewNamesRow, standIns := [], harness := (true, "280ef4ed1c9e1d228f53580604383e98986172a3b46b953b5acb9ae4f582810f"), looks := false }, kinds := [], alts := [], laidByText := true, laidKinds := [.data, .pinned], laidTests := true, laidLooks := .later }
def FnExactNewNamesCardSaid : Prop := Claim7.holds Tryd.pinned (.plain (OpenSpec.ofChange fnExactNewNamesSpec)) fnExactNewNamesCard

/-- THE TIED CARD OF 'laws.FnExactOldNames'. -/
def fnExactOldNamesCard : Claim7 := { stood := { row := fnExactOldNamesRow, standIns := [], harness := (true, "280ef4ed1c9e1d228f53580604383e98986172a3b46b953b5acb9ae4f582810f"), looks := false }, kinds := [], alts := [], laidByText := true, laidKinds := [.data, .pinned], laidTests := true, laidLooks := .later }
def FnExactOldNamesCardSaid : Prop := Claim7.holds Tryd.pinned (.plain (OpenSpec.ofChange fnExactOldNamesSpec)) fnExactOldNamesCard

/-- THE TIED CARD OF 'laws.FnExactTooLate'. -/
def fnExactTooLateCard : Claim7 := { stood := { row := fnExactTooLateRow, standIns := [], harness := (true, "280ef4ed1c9e1d228f53580604383e98986172a3b46b953b5acb9ae4f582810f"), looks := false }, kinds := [], alts := [], laidByText := true, laidKinds := [.data, .pinned], laidTests := true, laidLooks := .later }
def FnExactTooLateCardSaid : Prop := Claim7.holds Tryd.pinned (.plain (OpenSpec.ofChange fnExactTooLateSpec)) fnExactTooLateCard

/-- THE TIED CARD OF 'laws.FnExactUndoEdits'. -/
def fnExactUndoEditsCard : Claim7 := { stood := { row := fnExactUndoEditsRow, standIns := [], harness := (true, "280ef4ed1c9e1d228f53580604383e98986172a3b46b953b5acb9ae4f582810f"), looks := false }, kinds := [], alts := [], laidByText := true, laidKinds := [.data, .pinned], laidTests := true, laidLooks := .later }
def FnExactUndoEditsCardSaid : Prop := Claim7.holds Tryd.pinned (.plain (OpenSpec.ofChange fnExactUndoEditsSpec)) fnExactUndoEditsCard

/-- THE TIED CARD OF 'laws.FnDates'. -/
def fnDatesCard : Claim7 := { stood := { row := fnDatesRow, standIns := [], harness := (true, "280ef4ed1c9e1d228f53580604383e98986172a3b46b953b5acb9ae4f582810f"), looks := false }, kinds := [], alts := [], laidByText := true, laidKinds := [.data, .pinned], laidTests := true, laidLooks := .later }
def FnDatesCardSaid : Prop := Claim7.holds Tryd.pinned (.plain (OpenSpec.ofChange fnDatesSpec)) fnDatesCard

/-- THE TIED CARD OF 'laws.FnEditions'. -/
def fnEditionsCard : Claim7 := { stood := { row := fnEditionsRow, standIns := [], harness := (true, "280ef4ed1c9e1d228f53580604383e98986172a3b46b953b5acb9ae4f582810f"), looks := false }, kinds := [], alts := [], laidByText := true, laidKinds := [.data, .pinned], laidTests := true, laidLooks := .later }
def FnEditionsCardSaid : Prop := Claim7.holds Tryd.pinned (.plain (OpenSpec.ofChange fnEditionsSpec)) fnEditionsCard

/-- THE SECOND FORM's CARD OF 'laws.FnExactNewNames'. -/
def fnExactNewNamesUptoCard : Claim7 := { stood := { row := fnExactNewNamesUptoRow, standIns := [], harness := (true, "280ef4ed1c9e1d228f53580604383e98986172a3b46b953b5acb9ae4f582810f"), looks := false }, kinds := [], alts := [], laidByText := true, laidKinds := [.data, .pinned], laidTests := true, laidLooks := .later }
def FnExactNewNamesUptoCardSaid : Prop := Claim7.holds Tryd.pinned (.plain (OpenSpec.upto fnExactNewNamesSpec)) fnExactNewNamesUptoCard

/-- THE SECOND FORM's CARD OF 'laws.FnExactOldNames'. -/
def fnExactOldNamesUptoCard : Claim7 := { stood := { row := fnExactOldNamesUptoRow, standIns := [], harness := (true, "280ef4ed1c9e1d228f53580604383e98986172a3b46b953b5acb9ae4f582810f"), looks := false }, kinds := [], alts := [], laidByText := true, laidKinds := [.data, .pinned], laidTests := true, laidLooks := .later }
def FnExactOldNamesUptoCardSaid : Prop := Claim7.holds Tryd.pinned (.plain (OpenSpec.upto fnExactOldNamesSpec)) fnExactOldNamesUptoCard

/-- THE SECOND FORM's CARD OF 'laws.FnExactTooLate'. -/
def fnExactTooLateUptoCard : Claim7 := { stood := { row := fnExactTooLateUptoRow, standIns := [], harness := (true, "280ef4ed1c9e1d228f53580604383e98986172a3b46b953b5acb9ae4f582810f"), looks := false }, kinds := [], alts := [], laidByText := true, laidKinds := [.data, .pinned], laidTests := true, laidLooks := .later }
def FnExactTooLateUptoCardSaid : Prop := Claim7.holds Tryd.pinned (.plain (OpenSpec.upto fnExactTooLateSpec)) fnExactTooLateUptoCard

/-- THE SECOND FORM's CARD OF 'laws.FnExactUndoEdits'. -/
def fnExactUndoEditsUptoCard : Claim7 := { stood := { row := fnExactUndoEditsUptoRow, standIns := [], harness := (true, "280ef4ed1c9e1d228f53580604383e98986172a3b46b953b5acb9ae4f582810f"), looks := false }, kinds := [], alts := [], laidByText := true, laidKinds := [.data, .pinned], laidTests := true, laidLooks := .later }
def FnExactUndoEditsUptoCardSaid : Prop := Claim7.holds Tryd.pinned (.plain (OpenSpec.upto fnExactUndoEditsSpec)) fnExactUndoEditsUptoCard

/-- THE SECOND FORM's CARD OF 'laws.FnDates'. -/
def fnDatesUptoCard : Claim7 := { stood := { row := fnDatesUptoRow, standIns := [], harness := (true, "280ef4ed1c9e1d228f53580604383e98986172a3b46b953b5acb9ae4f582810f"), looks := false }, kinds := [], alts := [], laidByText := true, laidKinds := [.data, .pinned], laidTests := true, laidLooks := .later }
def FnDatesUptoCardSaid : Prop := Claim7.holds Tryd.pinned (.plain (OpenSpec.upto fnDatesSpec)) fnDatesUptoCard

/-- THE SECOND FORM's CARD OF 'laws.FnEditions'. -/
def fnEditionsUptoCard : Claim7 := { stood := { row := fnEditionsUptoRow, standIns := [], harness := (true, "280ef4ed1c9e1d228f53580604383e98986172a3b46b953b5acb9ae4f582810f"), looks := false }, kinds := [], alts := [], laidByText := true, laidKinds := [.data, .pinned], laidTests := true, laidLooks := .later }
def FnEditionsUptoCardSaid : Prop := Claim7.holds Tryd.pinned (.plain (OpenSpec.upto fnEditionsSpec)) fnEditionsUptoCard
end Rows
end Go.Proofs.YtalmeecdjhelkaaDoor
