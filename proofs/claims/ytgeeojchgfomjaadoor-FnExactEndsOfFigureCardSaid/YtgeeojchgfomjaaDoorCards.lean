/-
  DERIVED. GIVEN WITH THE SEED: THE CARDS: each row of YtgeeojchgfomjaaDoorRows.lean that lists a variable, with what it lists TIED to the program's text (the seventh form; the later family's looks); each row that meets fmt, with fmt's text TOLD by the authors' own Lean function (tested against real Go, not proved from fmt's source: count such statements apart). THE CARD IS WHAT COUNTS. Prove the row's statement (the work); the ties are given (YtgeeojchgfomjaaDoorTie.lean); close each card by the builder's one call (the guide's Derived/Test/ToyasCard.lean, 'card_holds'). Laid BY PROGRAM, IN A SANDBOX (cutbox-door.mjs). By AI agents, Wed Nov 11 2026. No macro, syntax, notation, axiom, sorry.
-/
import Derived.Test.YtgeeojchgfomjaaDoorRows
import GoSem.ClaimSeven
namespace Go.Proofs.YtgeeojchgfomjaaDoor
namespace Rows

/-- THE TIED CARD OF 'laws.FnExactValidCatalogue'. -/
def fnExactValidCatalogueCard : Claim7 := { stood := { row := fnExactValidCatalogueRow, standIns := [], harness := (true, "d25b0f4d51f1a41d325d8697d121a1838de9828453b85c29be75d70658b0b3fe"), looks := false }, kinds := [], alts := [], laidByText := true, laidKinds := [.data, .pinned], laidTests := true, laidLooks := .later }
def FnExactValidCatalogueCardSaid : Prop := Claim7.holds Tryd.pinned (.plain (OpenSpec.ofChange fnExactValidCatalogueSpec)) fnExactValidCatalogueCard

/-- THE TIED CARD OF 'laws.FnExactFigureWithout'. -/
def fnExactFigureWithoutCard : Claim7 := { stood := { row := fnExactFigureWithoutRow, standIns := [], harness := (true, "d25b0f4d51f1a41d325d8697d121a1838de9828453b85c29be75d70658b0b3fe"), looks := false }, kinds := [], alts := [], laidByText := true, laidKinds := [.data, .pinned], laidTests := true, laidLooks := .later }
def FnExactFigureWithoutCardSaid : Prop := Claim7.holds Tryd.pinned (.plain (OpenSpec.ofChange fnExactFigureWithoutSpec)) fnExactFigureWithoutCard

/-- THE TIED CARD OF 'laws.FnExactFigureText'. -/
def fnExactFigureTextCard : Claim7 := { stood := { row := fnExactFigureTextRow, standIns := [], harness := (true, "d25b0f4d51f1a41d325d8697d121a1838de9828453b85c29be75d70658b0b3fe"), looks := false }, kinds := [], alts := [], laidByText := true, laidKinds := [.data, .pinned], laidTests := true, laidLooks := .later }
def FnExactFigureTextCardSaid : Prop := Claim7.holds Tryd.pinned (.plain (OpenSpec.ofChange fnExactFigureTextSpec)) fnExactFigureTextCard

/-- THE TIED CARD OF 'laws.FnExactStarText'. -/
def fnExactStarTextCard : Claim7 := { stood := { row := fnExactStarTextRow, standIns := [], harness := (true, "d25b0f4d51f1a41d325d8697d121a1838de9828453b85c29be75d70658b0b3fe"), looks := false }, kinds := [], alts := [], laidByText := true, laidKinds := [.data, .data, .data, .data, .pinned], laidTests := true, laidLooks := .later }
def FnExactStarTextCardSaid : Prop := Claim7.holds Tryd.pinned (.plain (OpenSpec.ofChange fnExactStarTextSpec)) fnExactStarTextCard

/-- THE TIED CARD OF 'laws.FnExactFaintestOf'. -/
def fnExactFaintestOfCard : Claim7 := { stood := { row := fnExactFaintestOfRow, standIns := [], harness := (true, "d25b0f4d51f1a41d325d8697d121a1838de9828453b85c29be75d70658b0b3fe"), looks := false }, kinds := [], alts := [], laidByText := true, laidKinds := [.data, .pinned], laidTests := true, laidLooks := .later }
def FnExactFaintestOfCardSaid : Prop := Claim7.holds Tryd.pinned (.plain (OpenSpec.ofChange fnExactFaintestOfSpec)) fnExactFaintestOfCard

/-- THE TIED CARD OF 'laws.FnExactIsOnePiece'. -/
def fnExactIsOnePieceCard : Claim7 := { stood := { row := fnExactIsOnePieceRow, standIns := [], harness := (true, "d25b0f4d51f1a41d325d8697d121a1838de9828453b85c29be75d70658b0b3fe"), looks := false }, kinds := [], alts := [], laidByText := true, laidKinds := [.data, .pinned], laidTests := true, laidLooks := .later }
def FnExactIsOnePieceCardSaid : Prop := Claim7.holds Tryd.pinned (.plain (OpenSpec.ofChange fnExactIsOnePieceSpec)) fnExactIsOnePieceCard

/-- THE TIED CARD OF 'laws.FnExactStarsOfFigure'. -/
def fnExactStarsOfFigureCard : Claim7 := { stood := { row := fnExactStarsOfFigureRow, standIns := [], harness := (true, "d25b0f4d51f1a41d325d8697d121a1838de9828453b85c29be75d70658b0b3fe"), looks := false }, kinds := [], alts := [], laidByText := true, laidKinds := [.data, .pinned], laidTests := true, laidLooks := .later }
def FnExactStarsOfFigureCardSaid : Prop := Claim7.holds Tryd.pinned (.plain (OpenSpec.ofChange fnExactStarsOfFigureSpec)) fnExactStarsOfFigureCard

/-- THE TIED CARD OF 'laws.FnExactOneStroke'. -/
def fnExactOneStrokeCard : Claim7 := { stood := { row := fnExactOneStrokeRow, standIns := [], harness := (true, "d25b0f4d51f1a41d325d8697d121a1838de9828453b85c29be75d70658b0b3fe"), looks := false }, kinds := [], alts := [], laidByText := true, laidKinds := [.data, .pinned], laidTests := true, laidLooks := .later }
def FnExactOneStrokeCardSaid : Prop := Claim7.holds Tryd.pinned (.plain (OpenSpec.ofChange fnExactOneStrokeSpec)) fnExactOneStrokeCard

/-- THE TIED CARD OF 'laws.FnExactEndsOfFigure'. -/
def fnExactEndsOfFigureCard : Claim7 := { stood := { row := fnExactEndsOfFigureRow, standIns := [], harness := (true, "d25b0f4d51f1a41d325d8697d121a1838de9828453b85c29be75d70658b0b3fe"), looks := false }, kinds := [], alts := [], laidByText := true, laidKinds := [.data, .pinned], laidTests := true, laidLooks := .later }
def FnExactEndsOfFigureCardSaid : Prop := Claim7.holds Tryd.pinned (.plain (OpenSpec.ofChange fnExactEndsOfFigureSpec)) fnExactEndsOfFigureCard

/-- THE TIED CARD OF 'laws.FnMerges'. -/
def fnMergesCard : Claim7 := { stood := { row := fnMergesRow, standIns := [], harness := (true, "d25b0f4d51f1a41d325d8697d121a1838de9828453b85c29be75d70658b0b3fe"), looks := false }, kinds := [], alts := [], laidByText := true, laidKinds := [.data, .pinned], laidTests := true, laidLooks := .later }
def FnMergesCardSaid : Prop := Claim7.holds Tryd.pinned (.plain (OpenSpec.ofChange fnMergesSpec)) fnMergesCard

/-- THE TIED CARD OF 'laws.FnDates'. -/
def fnDatesCard : Claim7 := { stood := { row := fnDatesRow, standIns := [], harness := (true, "d25b0f4d51f1a41d325d8697d121a1838de9828453b85c29be75d70658b0b3fe"), looks := false }, kinds := [], alts := [], laidByText := true, laidKinds := [.data, .pinned], laidTests := true, laidLooks := .later }
def FnDatesCardSaid : Prop := Claim7.holds Tryd.pinned (.plain (OpenSpec.ofChange fnDatesSpec)) fnDatesCard

/-- THE TIED CARD OF 'laws.FnExactShortEdits'. -/
def fnExactShortEditsCard : Claim7 := { stood := { row := fnExactShortEditsRow, standIns := [], harness := (true, "d25b0f4d51f1a41d325d8697d121a1838de9828453b85c29be75d70658b0b3fe"), looks := false }, kinds := [], alts := [], laidByText := true, laidKinds := [.data, .pinned], laidTests := true, laidLooks := .later }
def FnExactShortEditsCardSaid : Prop := Claim7.holds Tryd.pinned (.plain (OpenSpec.ofChange fnExactShortEditsSpec)) fnExactShortEditsCard

/-- THE SECOND FORM's CARD OF 'laws.FnExactValidCatalogue'. -/
def fnExactValidCatalogueUptoCard : Claim7 := { stood := { row := fnExactValidCatalogueUptoRow, standIns := [], harness := (true, "d25b0f4d51f1a41d325d8697d121a1838de9828453b85c29be75d70658b0b3fe"), looks := false }, kinds := [], alts := [], laidByText := true, laidKinds := [.data, .pinned], laidTests := true, laidLooks := .later }
def FnExactValidCatalogueUptoCardSaid : Prop := Claim7.holds Tryd.pinned (.plain (OpenSpec.upto fnExactValidCatalogueSpec)) fnExactValidCatalogueUptoCard

/-- THE SECOND FORM's CARD OF 'laws.FnExactFigureWithout'. -/
def fnExactFigureWithoutUptoCard : Claim7 := { stood := { row := fnExactFigureWithoutUptoRow, standIns := [], harness := (true, "d25b0f4d51f1a41d325d8697d121a1838de9828453b85c29be75d70658b0b3fe"), looks := false }, kinds := [], alts := [], laidByText := true, laidKinds := [.data, .pinned], laidTests := true, laidLooks := .later }
def FnExactFigureWithoutUptoCardSaid : Prop := Claim7.holds Tryd.pinned (.plain (OpenSpec.upto fnExactFigureWithoutSpec)) fnExactFigureWithoutUptoCard

/-- THE SECOND FORM's CARD OF 'laws.FnExactFigureText'. -/
def fnExactFigureTextUptoCard : Claim7 := { stood := { row := fnExactFigureTextUptoRow, standIns := [], harness := (true, "d25b0f4d51f1a41d325d8697d121a1838de9828453b85c29be75d70658b0b3fe"), looks := false }, kinds := [], alts := [], laidByText := true, laidKinds := [.data, .pinned], laidTests := true, laidLooks := .later }
def FnExactFigureTextUptoCardSaid : Prop := Claim7.holds Tryd.pinned (.plain (OpenSpec.upto fnExactFigureTextSpec)) fnExactFigureTextUptoCard

/-- THE SECOND FORM's CARD OF 'laws.FnExactStarText'. -/
def fnExactStarTextUptoCard : Claim7 := { stood := { row := fnExactStarTextUptoRow, standIns := [], harness := (true, "d25b0f4d51f1a41d325d8697d121a1838de9828453b85c29be75d70658b0b3fe"), looks := false }, kinds := [], alts := [], laidByText := true, laidKinds := [.data, .data, .data, .data, .pinned], laidTests := true, laidLooks := .later }
def FnExactStarTextUptoCardSaid : Prop := Claim7.holds Tryd.pinned (.plain (OpenSpec.upto fnExactStarTextSpec)) fnExactStarTextUptoCard

/-- THE SECOND FORM's CARD OF 'laws.FnExactFaintestOf'. -/
def fnExactFaintestOfUptoCard : Claim7 := { stood := { row := fnExactFaintestOfUptoRow, standIns := [], harness := (true, "d25b0f4d51f1a41d325d8697d121a1838de9828453b85c29be75d70658b0b3fe"), looks := false }, kinds := [], alts := [], laidByText := true, laidKinds := [.data, .pinned], laidTests := true, laidLooks := .later }
def FnExactFaintestOfUptoCardSaid : Prop := Claim7.holds Tryd.pinned (.plain (OpenSpec.upto fnExactFaintestOfSpec)) fnExactFaintestOfUptoCard

/-- THE SECOND FORM's CARD OF 'laws.FnExactIsOnePiece'. -/
def fnExactIsOnePieceUptoCard : Claim7 := { stood := { row := fnExactIsOnePieceUptoRow, standIns := [], harness := (true, "d25b0f4d51f1a41d325d8697d121a1838de9828453b85c29be75d70658b0b3fe"), looks := false }, kinds := [], alts := [], laidByText := true, laidKinds := [.data, .pinned], laidTests := true, laidLooks := .later }
def FnExactIsOnePieceUptoCardSaid : Prop := Claim7.holds Tryd.pinned (.plain (OpenSpec.upto fnExactIsOnePieceSpec)) fnExactIsOnePieceUptoCard

/-- THE SECOND FORM's CARD OF 'laws.FnExactStarsOfFigure'. -/
def fnExactStarsOfFigureUptoCard : Claim7 := { stood := { row := fnExactStarsOfFigureUptoRow, standIns := [], harness := (true, "d25b0f4d51f1a41d325d8697d121a1838de9828453b85c29be75d70658b0b3fe"), looks := false }, kinds := [], alts := [], laidByText := true, laidKinds := [.data, .pinned], laidTests := true, laidLooks := .later }
def FnExactStarsOfFigureUptoCardSaid : Prop := Claim7.holds Tryd.pinned (.plain (OpenSpec.upto fnExactStarsOfFigureSpec)) fnExactStarsOfFigureUptoCard

/-- THE SECOND FORM's CARD OF 'laws.FnExactOneStroke'. -/
def fnExactOneStrokeUptoCard : Claim7 := { stood := { row := fnExactOneStrokeUptoRow, standIns := [], harness := (true, "d25b0f4d51f1a41d325d8697d121a1838de9828453b85c29be75d70658b0b3fe"), looks := false }, kinds := [], alts := [], laidByText := true, laidKinds := [.data, .pinned], laidTests := true, laidLooks := .later }
def FnExactOneStrokeUptoCardSaid : Prop := Claim7.holds Tryd.pinned (.plain (OpenSpec.upto fnExactOneStrokeSpec)) fnExactOneStrokeUptoCard

/-- THE SECOND FORM's CARD OF 'laws.FnExactEndsOfFigure'. -/
def fnExactEndsOfFigureUptoCard : Claim7 := { stood := { row := fnExactEndsOfFigureUptoRow, standIns := [], harness := (true, "d25b0f4d51f1a41d325d8697d121a1838de9828453b85c29be75d70658b0b3fe"), looks := false }, kinds := [], alts := [], laidByText := true, laidKinds := [.data, .pinned], laidTests := true, laidLooks := .later }
def FnExactEndsOfFigureUptoCardSaid : Prop := Claim7.holds Tryd.pinned (.plain (OpenSpec.upto fnExactEndsOfFigureSpec)) fnExactEndsOfFigureUptoCard

/-- THE SECOND FORM's CARD OF 'laws.FnMerges'. -/
def fnMergesUptoCard : Claim7 := { stood := { row := fnMergesUptoRow, standIns := [], harness := (true, "d25b0f4d51f1a41d325d8697d121a1838de9828453b85c29be75d70658b0b3fe"), looks := false }, kinds := [], alts := [], laidByText := true, laidKinds := [.data, .pinned], laidTests := true, laidLooks := .later }
def FnMergesUptoCardSaid : Prop := Claim7.holds Tryd.pinned (.plain (OpenSpec.upto fnMergesSpec)) fnMergesUptoCard

/-- THE SECOND FORM's CARD OF 'laws.FnDates'. -/
def fnDatesUptoCard : Claim7 := { stood := { row := fnDatesUptoRow, standIns := [], harness := (true, "d25b0f4d51f1a41d325d8697d121a1838de9828453b85c29be75d70658b0b3fe"), looks := false }, kinds := [], alts := [], laidByText := true, laidKinds := [.data, .pinned], laidTests := true, laidLooks := .later }
def FnDatesUptoCardSaid : Prop := Claim7.holds Tryd.pinned (.plain (OpenSpec.upto fnDatesSpec)) fnDatesUptoCard

/-- THE SECOND FORM's CARD OF 'laws.FnExactShortEdits'. -/
def fnExactShortEditsUptoCard : Claim7 := { stood := { row := fnExactShortEditsUptoRow, standIns := [], harness := (true, "d25b0f4d51f1a41d325d8697d121a1838de9828453b85c29be75d70658b0b3fe"), looks := false }, kinds := [], alts := [], laidByText := true, laidKinds := [.data, .pinned], laidTests := true, laidLooks := .later }
def FnExactShortEditsUptoCardSaid : Prop := Claim7.holds Tryd.pinned (.plain (OpenSpec.upto fnExactShortEditsSpec)) fnExactShortEditsUptoCard
end Rows
end Go.Proofs.YtgeeojchgfomjaaDoor
