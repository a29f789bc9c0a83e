/-
  DERIVED. GIVEN WITH THE SEED: THE CARDS: each row of YtdkmngghknohgaaDoorRows.lean that lists a variable, with what it lists TIED to the program's text (the seventh form; the later family's looks); each row that meets fmt, with fmt's text TOLD by the authors' own Lean function (tested against real Go, not proved from fmt's source: count such statements apart). THE CARD IS WHAT COUNTS. Prove the row's statement (the work); the ties are given (YtdkmngghknohgaaDoorTie.lean); close each card by the builder's one call (the guide's Derived/Test/ToyasCard.lean, 'card_holds'). Laid BY PROGRAM, IN A SANDBOX (cutbox-door.mjs). By AI agents, Wed Nov 11 2026. No macro, syntax, notation, axiom, sorry.
-/
import Derived.Test.YtdkmngghknohgaaDoorRows
import GoSem.ClaimSeven
namespace Go.Proofs.YtdkmngghknohgaaDoor
namespace Rows

/-- THE TIED CARD OF 'laws.FnIslands'. -/
def fnIslandsCard : Claim7 := { stood := { row := fnIslandsRow, standIns := [], harness := (true, "dabe703b19fde5d46160627f2fe3b095164bea6f5fe52b82cad484f743897ffb"), looks := false }, kinds := [], alts := [], laidByText := true, laidKinds := [.data, .pinned], laidTests := true, laidLooks := .later }
def FnIslandsCardSaid : Prop := Claim7.holds Tryd.pinned (.plain (OpenSpec.ofChange fnIslandsSpec)) fnIslandsCard

/-- THE TIED CARD OF 'laws.FnGrids'. -/
def fnGridsCard : Claim7 := { stood := { row := fnGridsRow, standIns := [], harness := (true, "dabe703b19fde5d46160627f2fe3b095164bea6f5fe52b82cad484f743897ffb"), looks := false }, kinds := [], alts := [], laidByText := true, laidKinds := [.data, .pinned], laidTests := true, laidLooks := .later }
def FnGridsCardSaid : Prop := Claim7.holds Tryd.pinned (.plain (OpenSpec.ofChange fnGridsSpec)) fnGridsCard

/-- THE SECOND FORM's CARD OF 'laws.FnIslands'. -/
def fnIslandsUptoCard : Claim7 := { stood := { row := fnIslandsUptoRow, standIns := [], harness := (true, "dabe703b19fde5d46160627f2fe3b095164bea6f5fe52b82cad484f743897ffb"), looks := false }, kinds := [], alts := [], laidByText := true, laidKinds := [.data, .pinned], laidTests := true, laidLooks := .later }
def FnIslandsUptoCardSaid : Prop := Claim7.holds Tryd.pinned (.plain (OpenSpec.upto fnIslandsSpec)) fnIslandsUptoCard

/-- THE SECOND FORM's CARD OF 'laws.FnGrids'. -/
def fnGridsUptoCard : Claim7 := { stood := { row := fnGridsUptoRow, standIns := [], harness := (true, "dabe703b19fde5d46160627f2fe3b095164bea6f5fe52b82cad484f743897ffb"), looks := false }, kinds := [], alts := [], laidByText := true, laidKinds := [.data, .pinned], laidTests := true, laidLooks := .later }
def FnGridsUptoCardSaid : Prop := Claim7.holds Tryd.pinned (.plain (OpenSpec.upto fnGridsSpec)) fnGridsUptoCard
end Rows
end Go.Proofs.YtdkmngghknohgaaDoor
