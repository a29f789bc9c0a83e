/-
  No cell of these rows narrows 'for every input' (looked for: loops, veiled, ifaces, maps, wideKeys, modest, calm, conditions, laid).
  DERIVED. THE GIVEN ROWS OF THIS SEAT. 12 by the template 'for every input the law returns true; each argument reads behind the call as it read before'; 0 by the template 'total and deterministic' (their statements: YtoehbcdhplagfaaTotals.lean).
  GIVEN WITH THE SEED: the statements are not yours to turn. If you find one false, say at which input.
  Laid BY PROGRAM, IN A SANDBOX (cutbox-rows.mjs): the forced cells as the released guide's own fill.sh prints them over the translation 29a7e7ef1e9f3403… (all of the seat's roots in one cut). By AI agents, Wed Nov 11 2026. No macro, syntax, notation, axiom, sorry.
-/
import Derived.Test.YtoehbcdhplagfaaChecked
import GoSem.Claim
import GoSem.ClaimJoined
import GoSem.ClaimMapViews
import Derived.JoinedTies
import Derived.KernelRfl
namespace Go.Proofs.Ytoehbcdhplagfaa
/- THE CELL 'sum', in the pinned program and in every row, IS THE sha256 OF THE DUMP (.gsa) THAT YtoehbcdhplagfaaProg.lean LOADS. Nothing in Lean hashes anything: it is a label: what it is worth is what the hold of that sum in a sandbox is worth. -/
noncomputable def Try.pinned : Pinned := { name := "ytoehbcdhplagfaa", sum := "29a7e7ef1e9f3403a2a2e52b0bf47a6efdc9ee26d04e9860a8340289399c46de", checked := Try.checked }
namespace Rows
def none {H : Type} : Left H := { results := [], args := [] }

/-- 'laws.FnExactWetSides': WHATEVER THE INPUT: true; the input reads as it did. -/
def fnExactWetSidesSpec : ChangeSpec := { name := "fnExactWetSides", fn := fun _ => fun
  | [d] => { results := [.lit (.bool true)], args := [d] }
  | _ => none }
def fnExactWetSidesRow : OpenClaim := { program := "ytoehbcdhplagfaa", sum := "29a7e7ef1e9f3403a2a2e52b0bf47a6efdc9ee26d04e9860a8340289399c46de", func := "loop.example/g01055/laws.FnExactWetSides", spec := "fnExactWetSides", apart := false }
def FnExactWetSidesSaid : Prop := fnExactWetSidesRow.holds Try.pinned (OpenSpec.ofChange fnExactWetSidesSpec)

/-- ITS FALSE NEIGHBOUR: 'it returns false'. Refute it at one input. -/
def fnExactWetSidesWrong : ChangeSpec := { name := "fnExactWetSides", fn := fun _ => fun
  | [d] => { results := [.lit (.bool false)], args := [d] }
  | _ => none }
def FnExactWetSidesWrongFalsely : Prop := fnExactWetSidesRow.holds Try.pinned (OpenSpec.ofChange fnExactWetSidesWrong)

/-- 'laws.FnExactBetterGrain': WHATEVER THE INPUT: true; the input reads as it did. -/
def fnExactBetterGrainSpec : ChangeSpec := { name := "fnExactBetterGrain", fn := fun _ => fun
  | [d1, d2, d3] => { results := [.lit (.bool true)], args := [d1, d2, d3] }
  | _ => none }
def fnExactBetterGrainRow : OpenClaim := { program := "ytoehbcdhplagfaa", sum := "29a7e7ef1e9f3403a2a2e52b0bf47a6efdc9ee26d04e9860a8340289399c46de", func := "loop.example/g01055/laws.FnExactBetterGrain", spec := "fnExactBetterGrain", apart := false }
def FnExactBetterGrainSaid : Prop := fnExactBetterGrainRow.holds Try.pinned (OpenSpec.ofChange fnExactBetterGrainSpec)

/-- ITS FALSE NEIGHBOUR: 'it returns false'. Refute it at one input. -/
def fnExactBetterGrainWrong : ChangeSpec := { name := "fnExactBetterGrain", fn := fun _ => fun
  | [d1, d2, d3] => { results := [.lit (.bool false)], args := [d1, d2, d3] }
  | _ => none }
def FnExactBetterGrainWrongFalsely : Prop := fnExactBetterGrainRow.holds Try.pinned (OpenSpec.ofChange fnExactBetterGrainWrong)

/-- 'laws.FnExactCarryBack': WHATEVER THE INPUT: true; the input reads as it did. -/
def fnExactCarryBackSpec : ChangeSpec := { name := "fnExactCarryBack", fn := fun _ => fun
  | [d1, d2, d3] => { results := [.lit (.bool true)], args := [d1, d2, d3] }
  | _ => none }
def fnExactCarryBackRow : OpenClaim := { program := "ytoehbcdhplagfaa", sum := "29a7e7ef1e9f3403a2a2e52b0bf47a6efdc9ee26d04e9860a8340289399c46de", func := "loop.example/g01055/laws.FnExactCarryBack", spec := "fnExactCarryBack", apart := false }
def FnExactCarryBackSaid : Prop := fnExactCarryBackRow.holds Try.pinned (OpenSpec.ofChange fnExactCarryBackSpec)

/-- ITS FALSE NEIGHBOUR: 'it returns false'. Refute it at one input. -/
def fnExactCarryBackWrong : ChangeSpec := { name := "fnExactCarryBack", fn := fun _ => fun
  | [d1, d2, d3] => { results := [.lit (.bool false)], args := [d1, d2, d3] }
  | _ => none }
def FnExactCarryBackWrongFalsely : Prop := fnExactCarryBackRow.holds Try.pinned (OpenSpec.ofChange fnExactCarryBackWrong)

/-- 'laws.FnExactCarryStar': WHATEVER THE INPUT: true; the input reads as it did. -/
def fnExactCarryStarSpec : ChangeSpec := { name := "fnExactCarryStar", fn := fun _ => fun
  | [d1, d2, d3] => { results := [.lit (.bool true)], args := [d1, d2, d3] }
  | _ => none }
def fnExactCarryStarRow : OpenClaim := { program := "ytoehbcdhplagfaa", sum := "29a7e7ef1e9f3403a2a2e52b0bf47a6efdc9ee26d04e9860a8340289399c46de", func := "loop.example/g01055/laws.FnExactCarryStar", spec := "fnExactCarryStar", apart := false }
def FnExactCarryStarSaid : Prop := fnExactCarryStarRow.holds Try.pinned (OpenSpec.ofChange fnExactCarryStarSpec)

/-- ITS FALSE NEIGHBOUR: 'it returns false'. Refute it at one input. -/
def fnExactCarryStarWrong : ChangeSpec := { name := "fnExactCarryStar", fn := fun _ => fun
  | [d1, d2, d3] => { results := [.lit (.bool false)], args := [d1, d2, d3] }
  | _ => none }
def FnExactCarryStarWrongFalsely : Prop := fnExactCarryStarRow.holds Try.pinned (OpenSpec.ofChange fnExactCarryStarWrong)

/-- 'laws.FnExactCutsFrom': WHATEVER THE INPUT: true; the input reads as it did. -/
def fnExactCutsFromSpec : ChangeSpec := { name := "fnExactCutsFrom", fn := fun _ => fun
  | [d1, d2, d3] => { results := [.lit (.bool true)], args := [d1, d2, d3] }
  | _ => none }
def fnExactCutsFromRow : OpenClaim := { program := "ytoehbcdhplagfaa", sum := "29a7e7ef1e9f3403a2a2e52b0bf47a6efdc9ee26d04e9860a8340289399c46de", func := "loop.example/g01055/laws.FnExactCutsFrom", spec := "fnExactCutsFrom", apart := false }
def FnExactCutsFromSaid : Prop := fnExactCutsFromRow.holds Try.pinned (OpenSpec.ofChange fnExactCutsFromSpec)

/-- ITS FALSE NEIGHBOUR: 'it returns false'. Refute it at one input. -/
def fnExactCutsFromWrong : ChangeSpec := { name := "fnExactCutsFrom", fn := fun _ => fun
  | [d1, d2, d3] => { results := [.lit (.bool false)], args := [d1, d2, d3] }
  | _ => none }
def FnExactCutsFromWrongFalsely : Prop := fnExactCutsFromRow.holds Try.pinned (OpenSpec.ofChange fnExactCutsFromWrong)

/-- 'laws.FnExactPapersFor': WHATEVER THE INPUT: true; the input reads as it did. -/
def fnExactPapersForSpec : ChangeSpec := { name := "fnExactPapersFor", fn := fun _ => fun
  | [d1, d2, d3, d4] => { results := [.lit (.bool true)], args := [d1, d2, d3, d4] }
  | _ => none }
def fnExactPapersForRow : OpenClaim := { program := "ytoehbcdhplagfaa", sum := "29a7e7ef1e9f3403a2a2e52b0bf47a6efdc9ee26d04e9860a8340289399c46de", func := "loop.example/g01055/laws.FnExactPapersFor", spec := "fnExactPapersFor", apart := false }
def FnExactPapersForSaid : Prop := fnExactPapersForRow.holds Try.pinned (OpenSpec.ofChange fnExactPapersForSpec)

/-- ITS FALSE NEIGHBOUR: 'it returns false'. Refute it at one input. -/
def fnExactPapersForWrong : ChangeSpec := { name := "fnExactPapersFor", fn := fun _ => fun
  | [d1, d2, d3, d4] => { results := [.lit (.bool false)], args := [d1, d2, d3, d4] }
  | _ => none }
def FnExactPapersForWrongFalsely : Prop := fnExactPapersForRow.holds Try.pinned (OpenSpec.ofChange fnExactPapersForWrong)

/-- 'laws.FnExactMatchSheets': WHATEVER THE INPUT: true; the input reads as it did. -/
def fnExactMatchSheetsSpec : ChangeSpec := { name := "fnExactMatchSheets", fn := fun _ => fun
  | [d] => { results := [.lit (.bool true)], args := [d] }
  | _ => none }
def fnExactMatchSheetsRow : OpenClaim := { program := "ytoehbcdhplagfaa", sum := "29a7e7ef1e9f3403a2a2e52b0bf47a6efdc9ee26d04e9860a8340289399c46de", func := "loop.example/g01055/laws.FnExactMatchSheets", spec := "fnExactMatchSheets", apart := false }
def FnExactMatchSheetsSaid : Prop := fnExactMatchSheetsRow.holds Try.pinned (OpenSpec.ofChange fnExactMatchSheetsSpec)

/-- ITS FALSE NEIGHBOUR: 'it returns false'. Refute it at one input. -/
def fnExactMatchSheetsWrong : ChangeSpec := { name := "fnExactMatchSheets", fn := fun _ => fun
  | [d] => { results := [.lit (.bool false)], args := [d] }
  | _ => none }
def FnExactMatchSheetsWrongFalsely : Prop := fnExactMatchSheetsRow.holds Try.pinned (OpenSpec.ofChange fnExactMatchSheetsWrong)

/-- 'laws.FnGlobeYears': WHATEVER THE INPUT: true; the input reads as it did. -/
def fnGlobeYearsSpec : ChangeSpec := { name := "fnGlobeYears", fn := fun _ => fun
  | [d1, d2] => { results := [.lit (.bool true)], args := [d1, d2] }
  | _ => none }
def fnGlobeYearsRow : OpenClaim := { program := "ytoehbcdhplagfaa", sum := "29a7e7ef1e9f3403a2a2e52b0bf47a6efdc9ee26d04e9860a8340289399c46de", func := "loop.example/g01055/laws.FnGlobeYears", spec := "fnGlobeYears", unfollowed := true, recurses := true, apart := false }
def FnGlobeYearsSaid : Prop := fnGlobeYearsRow.holds Try.pinned (OpenSpec.ofChange fnGlobeYearsSpec)

/-- ITS FALSE NEIGHBOUR: 'it returns false'. Refute it at one input. -/
def fnGlobeYearsWrong : ChangeSpec := { name := "fnGlobeYears", fn := fun _ => fun
  | [d1, d2] => { results := [.lit (.bool false)], args := [d1, d2] }
  | _ => none }
def FnGlobeYearsWrongFalsely : Prop := fnGlobeYearsRow.holds Try.pinned (OpenSpec.ofChange fnGlobeYearsWrong)

/-- 'laws.FnCarried': WHATEVER THE INPUT: true; the input reads as it did. -/
def fnCarriedSpec : ChangeSpec := { name := "fnCarried", fn := fun _ => fun
  | [d1, d2] => { results := [.lit (.bool true)], args := [d1, d2] }
  | _ => none }
def fnCarriedRow : OpenClaim := { program := "ytoehbcdhplagfaa", sum := "29a7e7ef1e9f3403a2a2e52b0bf47a6efdc9ee26d04e9860a8340289399c46de", func := "loop.example/g01055/laws.FnCarried", spec := "fnCarried", unfollowed := true, recurses := true, apart := false }
def FnCarriedSaid : Prop := fnCarriedRow.holds Try.pinned (OpenSpec.ofChange fnCarriedSpec)

/-- ITS FALSE NEIGHBOUR: 'it returns false'. Refute it at one input. -/
def fnCarriedWrong : ChangeSpec := { name := "fnCarried", fn := fun _ => fun
  | [d1, d2] => { results := [.lit (.bool false)], args := [d1, d2] }
  | _ => none }
def FnCarriedWrongFalsely : Prop := fnCarriedRow.holds Try.pinned (OpenSpec.ofChange fnCarriedWrong)

/-- 'laws.FnExactYearOfGlobe': WHATEVER THE INPUT: true; the input reads as it did. -/
def fnExactYearOfGlobeSpec : ChangeSpec := { name := "fnExactYearOfGlobe", fn := fun _ => fun
  | [d1, d2, d3] => { results := [.lit (.bool true)], args := [d1, d2, d3] }
  | _ => none }
def fnExactYearOfGlobeRow : OpenClaim := { program := "ytoehbcdhplagfaa", sum := "29a7e7ef1e9f3403a2a2e52b0bf47a6efdc9ee26d04e9860a8340289399c46de", func := "loop.example/g01055/laws.FnExactYearOfGlobe", spec := "fnExactYearOfGlobe", unfollowed := true, recurses := true, apart := false }
def FnExactYearOfGlobeSaid : Prop := fnExactYearOfGlobeRow.holds Try.pinned (OpenSpec.ofChange fnExactYearOfGlobeSpec)

/-- ITS FALSE NEIGHBOUR: 'it returns false'. Refute it at one input. -/
def fnExactYearOfGlobeWrong : ChangeSpec := { name := "fnExactYearOfGlobe", fn := fun _ => fun
  | [d1, d2, d3] => { results := [.lit (.bool false)], args := [d1, d2, d3] }
  | _ => none }
def FnExactYearOfGlobeWrongFalsely : Prop := fnExactYearOfGlobeRow.holds Try.pinned (OpenSpec.ofChange fnExactYearOfGlobeWrong)

/-- 'laws.FnExactMovedStars': WHATEVER THE INPUT: true; the input reads as it did. -/
def fnExactMovedStarsSpec : ChangeSpec := { name := "fnExactMovedStars", fn := fun _ => fun
  | [d1, d2, d3, d4] => { results := [.lit (.bool true)], args := [d1, d2, d3, d4] }
  | _ => none }
def fnExactMovedStarsRow : OpenClaim := { program := "ytoehbcdhplagfaa", sum := "29a7e7ef1e9f3403a2a2e52b0bf47a6efdc9ee26d04e9860a8340289399c46de", func := "loop.example/g01055/laws.FnExactMovedStars", spec := "fnExactMovedStars", unfollowed := true, recurses := true, apart := false }
def FnExactMovedStarsSaid : Prop := fnExactMovedStarsRow.holds Try.pinned (OpenSpec.ofChange fnExactMovedStarsSpec)

/-- ITS FALSE NEIGHBOUR: 'it returns false'. Refute it at one input. -/
def fnExactMovedStarsWrong : ChangeSpec := { name := "fnExactMovedStars", fn := fun _ => fun
  | [d1, d2, d3, d4] => { results := [.lit (.bool false)], args := [d1, d2, d3, d4] }
  | _ => none }
def FnExactMovedStarsWrongFalsely : Prop := fnExactMovedStarsRow.holds Try.pinned (OpenSpec.ofChange fnExactMovedStarsWrong)

/-- 'laws.FnExactHeightFromPole': WHATEVER THE INPUT: true; the input reads as it did. -/
def fnExactHeightFromPoleSpec : ChangeSpec := { name := "fnExactHeightFromPole", fn := fun _ => fun
  | [d1, d2, d3] => { results := [.lit (.bool true)], args := [d1, d2, d3] }
  | _ => none }
def fnExactHeightFromPoleRow : OpenClaim := { program := "ytoehbcdhplagfaa", sum := "29a7e7ef1e9f3403a2a2e52b0bf47a6efdc9ee26d04e9860a8340289399c46de", func := "loop.example/g01055/laws.FnExactHeightFromPole", spec := "fnExactHeightFromPole", recurses := true, apart := false }
def FnExactHeightFromPoleSaid : Prop := fnExactHeightFromPoleRow.holds Try.pinned (OpenSpec.ofChange fnExactHeightFromPoleSpec)

/-- ITS FALSE NEIGHBOUR: 'it returns false'. Refute it at one input. -/
def fnExactHeightFromPoleWrong : ChangeSpec := { name := "fnExactHeightFromPole", fn := fun _ => fun
  | [d1, d2, d3] => { results := [.lit (.bool false)], args := [d1, d2, d3] }
  | _ => none }
def FnExactHeightFromPoleWrongFalsely : Prop := fnExactHeightFromPoleRow.holds Try.pinned (OpenSpec.ofChange fnExactHeightFromPoleWrong)

/- THE SECOND FORM. 'bulk': how many values and letters a reading holds, each counted each time it is reached (what is shared counts as often as it is met; a slice's spare places count too). A statement '..UptoSaid' is the law's where the arguments, and the package variables that the reading takes, are together of bulk at most 1048576: NARROWER than '..Said'. Prove '..Said' where nothing that the law and all that it calls make is longer than what came in: it says more and counts as full. Else prove '..UptoSaid'. A law counts once. -/
mutual
def uptoBulk {H : Type} : DataW H → Nat
  | .lit (.string bytes) => bytes.length + 1
  | .lit _ => 1
  | .nil => 1
  | .ptr d => uptoBulk d + 1
  | .slice elems spare => uptoBulkAll elems + uptoBulkAll spare + 1
  | .agg parts => uptoBulkAll parts + 1
  | .iface _ d => uptoBulk d + 1
  | .map entries => uptoBulkEntries entries + 1
  | .held _ => 1
def uptoBulkAll {H : Type} : List (DataW H) → Nat
  | [] => 0
  | d :: r => uptoBulk d + uptoBulkAll r
def uptoBulkEntries {H : Type} : List (Lit × DataW H) → Nat
  | [] => 0
  | x :: r => uptoBulkEntry x + uptoBulkEntries r
def uptoBulkEntry {H : Type} : Lit × DataW H → Nat
  | (.string bytes, d) => bytes.length + uptoBulk d + 1
  | (_, d) => uptoBulk d + 1
 end
def uptoSmall : (H : Type) → List (DataW H) → Bool := fun _ ds => decide (uptoBulkAll ds ≤ 1048576)
def OpenSpec.upto (s : _root_.Go.ChangeSpec) : _root_.Go.OpenSpec := { _root_.Go.OpenSpec.ofChange s with cond := some uptoSmall }

/-- 'laws.FnExactWetSides', WHERE WHAT IT READS IS OF BULK AT MOST 1048576: true; the input reads as it did. -/
def fnExactWetSidesUptoRow : OpenClaim := { program := "ytoehbcdhplagfaa", sum := "29a7e7ef1e9f3403a2a2e52b0bf47a6efdc9ee26d04e9860a8340289399c46de", func := "loop.example/g01055/laws.FnExactWetSides", spec := "fnExactWetSides", apart := false, narrowed := true }
def FnExactWetSidesUptoSaid : Prop := fnExactWetSidesUptoRow.holds Try.pinned (OpenSpec.upto fnExactWetSidesSpec)

/-- 'laws.FnExactBetterGrain', WHERE WHAT IT READS IS OF BULK AT MOST 1048576: true; the input reads as it did. -/
def fnExactBetterGrainUptoRow : OpenClaim := { program := "ytoehbcdhplagfaa", sum := "29a7e7ef1e9f3403a2a2e52b0bf47a6efdc9ee26d04e9860a8340289399c46de", func := "loop.example/g01055/laws.FnExactBetterGrain", spec := "fnExactBetterGrain", apart := false, narrowed := true }
def FnExactBetterGrainUptoSaid : Prop := fnExactBetterGrainUptoRow.holds Try.pinned (OpenSpec.upto fnExactBetterGrainSpec)

/-- 'laws.FnExactCarryBack', WHERE WHAT IT READS IS OF BULK AT MOST 1048576: true; the input reads as it did. -/
def fnExactCarryBackUptoRow : OpenClaim := { program := "ytoehbcdhplagfaa", sum := "29a7e7ef1e9f3403a2a2e52b0bf47a6efdc9ee26d04e9860a8340289399c46de", func := "loop.example/g01055/laws.FnExactCarryBack", spec := "fnExactCarryBack", apart := false, narrowed := true }
def FnExactCarryBackUptoSaid : Prop := fnExactCarryBackUptoRow.holds Try.pinned (OpenSpec.upto fnExactCarryBackSpec)

/-- 'laws.FnExactCarryStar', WHERE WHAT IT READS IS OF BULK AT MOST 1048576: true; the input reads as it did. -/
def fnExactCarryStarUptoRow : OpenClaim := { program := "ytoehbcdhplagfaa", sum := "29a7e7ef1e9f3403a2a2e52b0bf47a6efdc9ee26d04e9860a8340289399c46de", func := "loop.example/g01055/laws.FnExactCarryStar", spec := "fnExactCarryStar", apart := false, narrowed := true }
def FnExactCarryStarUptoSaid : Prop := fnExactCarryStarUptoRow.holds Try.pinned (OpenSpec.upto fnExactCarryStarSpec)

/-- 'laws.FnExactCutsFrom', WHERE WHAT IT READS IS OF BULK AT MOST 1048576: true; the input reads as it did. -/
def fnExactCutsFromUptoRow : OpenClaim := { program := "ytoehbcdhplagfaa", sum := "29a7e7ef1e9f3403a2a2e52b0bf47a6efdc9ee26d04e9860a8340289399c46de", func := "loop.example/g01055/laws.FnExactCutsFrom", spec := "fnExactCutsFrom", apart := false, narrowed := true }
def FnExactCutsFromUptoSaid : Prop := fnExactCutsFromUptoRow.holds Try.pinned (OpenSpec.upto fnExactCutsFromSpec)

/-- 'laws.FnExactPapersFor', WHERE WHAT IT READS IS OF BULK AT MOST 1048576: true; the input reads as it did. -/
def fnExactPapersForUptoRow : OpenClaim := { program := "ytoehbcdhplagfaa", sum := "29a7e7ef1e9f3403a2a2e52b0bf47a6efdc9ee26d04e9860a8340289399c46de", func := "loop.example/g01055/laws.FnExactPapersFor", spec := "fnExactPapersFor", apart := false, narrowed := true }
def FnExactPapersForUptoSaid : Prop := fnExactPapersForUptoRow.holds Try.pinned (OpenSpec.upto fnExactPapersForSpec)

/-- 'laws.FnExactMatchSheets', WHERE WHAT IT READS IS OF BULK AT MOST 1048576: true; the input reads as it did. -/
def fnExactMatchSheetsUptoRow : OpenClaim := { program := "ytoehbcdhplagfaa", sum := "29a7e7ef1e9f3403a2a2e52b0bf47a6efdc9ee26d04e9860a8340289399c46de", func := "loop.example/g01055/laws.FnExactMatchSheets", spec := "fnExactMatchSheets", apart := false, narrowed := true }
def FnExactMatchSheetsUptoSaid : Prop := fnExactMatchSheetsUptoRow.holds Try.pinned (OpenSpec.upto fnExactMatchSheetsSpec)

/-- 'laws.FnGlobeYears', WHERE WHAT IT READS IS OF BULK AT MOST 1048576: true; the input reads as it did. -/
def fnGlobeYearsUptoRow : OpenClaim := { program := "ytoehbcdhplagfaa", sum := "29a7e7ef1e9f3403a2a2e52b0bf47a6efdc9ee26d04e9860a8340289399c46de", func := "loop.example/g01055/laws.FnGlobeYears", spec := "fnGlobeYears", unfollowed := true, recurses := true, apart := false, narrowed := true }
def FnGlobeYearsUptoSaid : Prop := fnGlobeYearsUptoRow.holds Try.pinned (OpenSpec.upto fnGlobeYearsSpec)

/-- 'laws.FnCarried', WHERE WHAT IT READS IS OF BULK AT MOST 1048576: true; the input reads as it did. -/
def fnCarriedUptoRow : OpenClaim := { program := "ytoehbcdhplagfaa", sum := "29a7e7ef1e9f3403a2a2e52b0bf47a6efdc9ee26d04e9860a8340289399c46de", func := "loop.example/g01055/laws.FnCarried", spec := "fnCarried", unfollowed := true, recurses := true, apart := false, narrowed := true }
def FnCarriedUptoSaid : Prop := fnCarriedUptoRow.holds Try.pinned (OpenSpec.upto fnCarriedSpec)

/-- 'laws.FnExactYearOfGlobe', WHERE WHAT IT READS IS OF BULK AT MOST 1048576: true; the input reads as it did. -/
def fnExactYearOfGlobeUptoRow : OpenClaim := { program := "ytoehbcdhplagfaa", sum := "29a7e7ef1e9f3403a2a2e52b0bf47a6efdc9ee26d04e9860a8340289399c46de", func := "loop.example/g01055/laws.FnExactYearOfGlobe", spec := "fnExactYearOfGlobe", unfollowed := true, recurses := true, apart := false, narrowed := true }
def FnExactYearOfGlobeUptoSaid : Prop := fnExactYearOfGlobeUptoRow.holds Try.pinned (OpenSpec.upto fnExactYearOfGlobeSpec)

/-- 'laws.FnExactMovedStars', WHERE WHAT IT READS IS OF BULK AT MOST 1048576: true; the input reads as it did. -/
def fnExactMovedStarsUptoRow : OpenClaim := { program := "ytoehbcdhplagfaa", sum := "29a7e7ef1e9f3403a2a2e52b0bf47a6efdc9ee26d04e9860a8340289399c46de", func := "loop.example/g01055/laws.FnExactMovedStars", spec := "fnExactMovedStars", unfollowed := true, recurses := true, apart := false, narrowed := true }
def FnExactMovedStarsUptoSaid : Prop := fnExactMovedStarsUptoRow.holds Try.pinned (OpenSpec.upto fnExactMovedStarsSpec)

/-- 'laws.FnExactHeightFromPole', WHERE WHAT IT READS IS OF BULK AT MOST 1048576: true; the input reads as it did. -/
def fnExactHeightFromPoleUptoRow : OpenClaim := { program := "ytoehbcdhplagfaa", sum := "29a7e7ef1e9f3403a2a2e52b0bf47a6efdc9ee26d04e9860a8340289399c46de", func := "loop.example/g01055/laws.FnExactHeightFromPole", spec := "fnExactHeightFromPole", recurses := true, apart := false, narrowed := true }
def FnExactHeightFromPoleUptoSaid : Prop := fnExactHeightFromPoleUptoRow.holds Try.pinned (OpenSpec.upto fnExactHeightFromPoleSpec)

end Rows
end Go.Proofs.Ytoehbcdhplagfaa
