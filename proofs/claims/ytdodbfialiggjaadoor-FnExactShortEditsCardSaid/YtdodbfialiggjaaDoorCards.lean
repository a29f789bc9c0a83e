/-
  DERIVED. GIVEN WITH THE SEED: THE CARDS: each row of YtdodbfialiggjaaDoorRows.lean that lists a variable, with what it lists TIED to the program's text (the seventh form; the later family's looks); each row that meets fmt, with fmt's text TOLD by the authors' own Lean function (tested against real Go, not proved from fmt's source: count such statements apart). THE CARD IS WHAT COUNTS. Prove the row's statement (the work); the ties are given (YtdodbfialiggjaaDoorTie.lean); close each card by the builder's one call (the guide's Derived/Test/ToyasCard.lean, 'card_holds'). Laid BY PROGRAM, IN A SANDBOX (cutbox-door.mjs). By AI agents, Wed Nov 11 2026. No macro, syntax, notation, axiom, sorry.
-/
import Derived.Test.YtdodbfialiggjaaDoorRows
import GoSem.ClaimSeven
namespace Go.Proofs.YtdodbfialiggjaaDoor
namespace Rows

/-- THE TIED CARD OF 'laws.FnExactStarText'. -/
def fnExactStarTextCard : Claim7 := { stood := { row := fnExactStarTextRow, standIns := [], harness := (true, "acc26487ae85da5968f07464264217c453d5aebb6280a9ab1fde6601e1a0a44a"), looks := true }, kinds := [], alts := [], laidByText := true, laidKinds := [.data, .data, .data, .data, .pinned], laidTests := true, laidLooks := .later }
def FnExactStarTextCardSaid : Prop := Claim7.holds Tryd.pinned (.plain (OpenSpec.ofChange fnExactStarTextSpec)) fnExactStarTextCard

/-- THE TIED CARD OF 'laws.FnExactShortEdits'. -/
def fnExactShortEditsCard : Claim7 := { stood := { row := fnExactShortEditsRow, standIns := [], harness := (true, "acc26487ae85da5968f07464264217c453d5aebb6280a9ab1fde6601e1a0a44a"), looks := true }, kinds := [], alts := [], laidByText := true, laidKinds := [.data, .pinned], laidTests := true, laidLooks := .later }
def FnExactShortEditsCardSaid : Prop := Claim7.holds Tryd.pinned (.plain (OpenSpec.ofChange fnExactShortEditsSpec)) fnExactShortEditsCard

/-- THE TIED CARD OF 'laws.FnExactGiveLand'. -/
def fnExactGiveLandCard : Claim7 := { stood := { row := fnExactGiveLandRow, standIns := [], harness := (true, "acc26487ae85da5968f07464264217c453d5aebb6280a9ab1fde6601e1a0a44a"), looks := true }, kinds := [], alts := [], laidByText := true, laidKinds := [.data, .pinned], laidTests := true, laidLooks := .later }
def FnExactGiveLandCardSaid : Prop := Claim7.holds Tryd.pinned (.plain (OpenSpec.ofChange fnExactGiveLandSpec)) fnExactGiveLandCard

/-- THE TIED CARD OF 'laws.FnExactGridBorders'. -/
def fnExactGridBordersCard : Claim7 := { stood := { row := fnExactGridBordersRow, standIns := [], harness := (true, "acc26487ae85da5968f07464264217c453d5aebb6280a9ab1fde6601e1a0a44a"), looks := true }, kinds := [], alts := [], laidByText := true, laidKinds := [.data, .pinned], laidTests := true, laidLooks := .later }
def FnExactGridBordersCardSaid : Prop := Claim7.holds Tryd.pinned (.plain (OpenSpec.ofChange fnExactGridBordersSpec)) fnExactGridBordersCard

/-- THE TIED CARD OF 'laws.FnExactReadEdit'. -/
def fnExactReadEditCard : Claim7 := { stood := { row := fnExactReadEditRow, standIns := [], harness := (true, "acc26487ae85da5968f07464264217c453d5aebb6280a9ab1fde6601e1a0a44a"), looks := true }, kinds := [], alts := [], laidByText := true, laidKinds := [.data, .data, .data, .data, .sentinel, .sentinel, .pinned], laidTests := true, laidLooks := .later }
def FnExactReadEditCardSaid : Prop := Claim7.holds Tryd.pinned (.plain (OpenSpec.ofChange fnExactReadEditSpec)) fnExactReadEditCard

/-- THE SECOND FORM's CARD OF 'laws.FnExactStarText'. -/
def fnExactStarTextUptoCard : Claim7 := { stood := { row := fnExactStarTextUptoRow, standIns := [], harness := (true, "acc26487ae85da5968f07464264217c453d5aebb6280a9ab1fde6601e1a0a44a"), looks := true }, kinds := [], alts := [], laidByText := true, laidKinds := [.data, .data, .data, .data, .pinned], laidTests := true, laidLooks := .later }
def FnExactStarTextUptoCardSaid : Prop := Claim7.holds Tryd.pinned (.plain (OpenSpec.upto fnExactStarTextSpec)) fnExactStarTextUptoCard

/-- THE SECOND FORM's CARD OF 'laws.FnExactShortEdits'. -/
def fnExactShortEditsUptoCard : Claim7 := { stood := { row := fnExactShortEditsUptoRow, standIns := [], harness := (true, "acc26487ae85da5968f07464264217c453d5aebb6280a9ab1fde6601e1a0a44a"), looks := true }, kinds := [], alts := [], laidByText := true, laidKinds := [.data, .pinned], laidTests := true, laidLooks := .later }
def FnExactShortEditsUptoCardSaid : Prop := Claim7.holds Tryd.pinned (.plain (OpenSpec.upto fnExactShortEditsSpec)) fnExactShortEditsUptoCard

/-- THE SECOND FORM's CARD OF 'laws.FnExactGiveLand'. -/
def fnExactGiveLandUptoCard : Claim7 := { stood := { row := fnExactGiveLandUptoRow, standIns := [], harness := (true, "acc26487ae85da5968f07464264217c453d5aebb6280a9ab1fde6601e1a0a44a"), looks := true }, kinds := [], alts := [], laidByText := true, laidKinds := [.data, .pinned], laidTests := true, laidLooks := .later }
def FnExactGiveLandUptoCardSaid : Prop := Claim7.holds Tryd.pinned (.plain (OpenSpec.upto fnExactGiveLandSpec)) fnExactGiveLandUptoCard

/-- THE SECOND FORM's CARD OF 'laws.FnExactGridBorders'. -/
def fnExactGridBordersUptoCard : Claim7 := { stood := { row := fnExactGridBordersUptoRow, standIns := [], harness := (true, "acc26487ae85da5968f07464264217c453d5aebb6280a9ab1fde6601e1a0a44a"), looks := true }, kinds := [], alts := [], laidByText := true, laidKinds := [.data, .pinned], laidTests := true, laidLooks := .later }
def FnExactGridBordersUptoCardSaid : Prop := Claim7.holds Tryd.pinned (.plain (OpenSpec.upto fnExactGridBordersSpec)) fnExactGridBordersUptoCard

/-- THE SECOND FORM's CARD OF 'laws.FnExactReadEdit'. -/
def fnExactReadEditUptoCard : Claim7 := { stood := { row := fnExactReadEditUptoRow, standIns := [], harness := (true, "acc26487ae85da5968f07464264217c453d5aebb6280a9ab1fde6601e1a0a44a"), looks := true }, kinds := [], alts := [], laidByText := true, laidKinds := [.data, .data, .data, .data, .sentinel, .sentinel, .pinned], laidTests := true, laidLooks := .later }
def FnExactReadEditUptoCardSaid : Prop := Claim7.holds Tryd.pinned (.plain (OpenSpec.upto fnExactReadEditSpec)) fnExactReadEditUptoCard
end Rows
end Go.Proofs.YtdodbfialiggjaaDoor
