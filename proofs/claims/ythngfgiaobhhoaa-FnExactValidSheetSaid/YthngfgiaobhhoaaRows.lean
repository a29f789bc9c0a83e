/-
  No cell of these rows narrows 'for every input' (looked for: loops, veiled, ifaces, maps, wideKeys, modest, calm, conditions, laid).
  DERIVED. THE GIVEN ROWS OF THIS SEAT. 8 by the template 'for every input the law returns true; each argument reads behind the call as it read before'; 0 by the template 'total and deterministic' (their statements: YthngfgiaobhhoaaTotals.lean).
  GIVEN WITH THE SEED: the statements are not yours to turn. If you find one false, say at which input.
  Laid BY PROGRAM, IN A SANDBOX (cutbox-rows.mjs): the forced cells as the released guide's own fill.sh prints them over the translation 234ce0f61cddf43a… (all of the seat's roots in one cut). By AI agents, Wed Nov 11 2026. No macro, syntax, notation, axiom, sorry.
-/
import Derived.Test.YthngfgiaobhhoaaChecked
import GoSem.Claim
import GoSem.ClaimJoined
import GoSem.ClaimMapViews
import Derived.JoinedTies
import Derived.KernelRfl
namespace Go.Proofs.Ythngfgiaobhhoaa
/- THE CELL 'sum', in the pinned program and in every row, IS THE sha256 OF THE DUMP (.gsa) THAT YthngfgiaobhhoaaProg.lean LOADS. Nothing in Lean hashes anything: it is a label: what it is worth is what the hold of that sum in a sandbox is worth. -/
noncomputable def Try.pinned : Pinned := { name := "ythngfgiaobhhoaa", sum := "234ce0f61cddf43a321139adba8f680d65812819d99c5d290f33ee4252171c9b", checked := Try.checked }
namespace Rows
def none {H : Type} : Left H := { results := [], args := [] }

/-- 'laws.FnExactValidSheet': WHATEVER THE INPUT: true; the input reads as it did. -/
def fnExactValidSheetSpec : ChangeSpec := { name := "fnExactValidSheet", fn := fun _ => fun
  | [d] => { results := [.lit (.bool true)], args := [d] }
  | _ => none }
def fnExactValidSheetRow : OpenClaim := { program := "ythngfgiaobhhoaa", sum := "234ce0f61cddf43a321139adba8f680d65812819d99c5d290f33ee4252171c9b", func := "loop.example/g01055/laws.FnExactValidSheet", spec := "fnExactValidSheet", apart := false }
def FnExactValidSheetSaid : Prop := fnExactValidSheetRow.holds Try.pinned (OpenSpec.ofChange fnExactValidSheetSpec)

/-- ITS FALSE NEIGHBOUR: 'it returns false'. Refute it at one input. -/
def fnExactValidSheetWrong : ChangeSpec := { name := "fnExactValidSheet", fn := fun _ => fun
  | [d] => { results := [.lit (.bool false)], args := [d] }
  | _ => none }
def FnExactValidSheetWrongFalsely : Prop := fnExactValidSheetRow.holds Try.pinned (OpenSpec.ofChange fnExactValidSheetWrong)

/-- 'laws.FnExactDriedSide': WHATEVER THE INPUT: true; the input reads as it did. -/
def fnExactDriedSideSpec : ChangeSpec := { name := "fnExactDriedSide", fn := fun _ => fun
  | [d1, d2, d3] => { results := [.lit (.bool true)], args := [d1, d2, d3] }
  | _ => none }
def fnExactDriedSideRow : OpenClaim := { program := "ythngfgiaobhhoaa", sum := "234ce0f61cddf43a321139adba8f680d65812819d99c5d290f33ee4252171c9b", func := "loop.example/g01055/laws.FnExactDriedSide", spec := "fnExactDriedSide", apart := false }
def FnExactDriedSideSaid : Prop := fnExactDriedSideRow.holds Try.pinned (OpenSpec.ofChange fnExactDriedSideSpec)

/-- ITS FALSE NEIGHBOUR: 'it returns false'. Refute it at one input. -/
def fnExactDriedSideWrong : ChangeSpec := { name := "fnExactDriedSide", fn := fun _ => fun
  | [d1, d2, d3] => { results := [.lit (.bool false)], args := [d1, d2, d3] }
  | _ => none }
def FnExactDriedSideWrongFalsely : Prop := fnExactDriedSideRow.holds Try.pinned (OpenSpec.ofChange fnExactDriedSideWrong)

/-- 'laws.FnExactRoundYears': WHATEVER THE INPUT: true; the input reads as it did. -/
def fnExactRoundYearsSpec : ChangeSpec := { name := "fnExactRoundYears", fn := fun _ => fun
  | [d] => { results := [.lit (.bool true)], args := [d] }
  | _ => none }
def fnExactRoundYearsRow : OpenClaim := { program := "ythngfgiaobhhoaa", sum := "234ce0f61cddf43a321139adba8f680d65812819d99c5d290f33ee4252171c9b", func := "loop.example/g01055/laws.FnExactRoundYears", spec := "fnExactRoundYears", apart := false }
def FnExactRoundYearsSaid : Prop := fnExactRoundYearsRow.holds Try.pinned (OpenSpec.ofChange fnExactRoundYearsSpec)

/-- ITS FALSE NEIGHBOUR: 'it returns false'. Refute it at one input. -/
def fnExactRoundYearsWrong : ChangeSpec := { name := "fnExactRoundYears", fn := fun _ => fun
  | [d] => { results := [.lit (.bool false)], args := [d] }
  | _ => none }
def FnExactRoundYearsWrongFalsely : Prop := fnExactRoundYearsRow.holds Try.pinned (OpenSpec.ofChange fnExactRoundYearsWrong)

/-- 'laws.FnExactDryFor': WHATEVER THE INPUT: true; the input reads as it did. -/
def fnExactDryForSpec : ChangeSpec := { name := "fnExactDryFor", fn := fun _ => fun
  | [d1, d2] => { results := [.lit (.bool true)], args := [d1, d2] }
  | _ => none }
def fnExactDryForRow : OpenClaim := { program := "ythngfgiaobhhoaa", sum := "234ce0f61cddf43a321139adba8f680d65812819d99c5d290f33ee4252171c9b", func := "loop.example/g01055/laws.FnExactDryFor", spec := "fnExactDryFor", apart := false }
def FnExactDryForSaid : Prop := fnExactDryForRow.holds Try.pinned (OpenSpec.ofChange fnExactDryForSpec)

/-- ITS FALSE NEIGHBOUR: 'it returns false'. Refute it at one input. -/
def fnExactDryForWrong : ChangeSpec := { name := "fnExactDryFor", fn := fun _ => fun
  | [d1, d2] => { results := [.lit (.bool false)], args := [d1, d2] }
  | _ => none }
def FnExactDryForWrongFalsely : Prop := fnExactDryForRow.holds Try.pinned (OpenSpec.ofChange fnExactDryForWrong)

/-- 'laws.FnExactWetError': WHATEVER THE INPUT: true; the input reads as it did. -/
def fnExactWetErrorSpec : ChangeSpec := { name := "fnExactWetError", fn := fun _ => fun
  | [d1, d2, d3] => { results := [.lit (.bool true)], args := [d1, d2, d3] }
  | _ => none }
def fnExactWetErrorRow : OpenClaim := { program := "ythngfgiaobhhoaa", sum := "234ce0f61cddf43a321139adba8f680d65812819d99c5d290f33ee4252171c9b", func := "loop.example/g01055/laws.FnExactWetError", spec := "fnExactWetError", apart := false }
def FnExactWetErrorSaid : Prop := fnExactWetErrorRow.holds Try.pinned (OpenSpec.ofChange fnExactWetErrorSpec)

/-- ITS FALSE NEIGHBOUR: 'it returns false'. Refute it at one input. -/
def fnExactWetErrorWrong : ChangeSpec := { name := "fnExactWetError", fn := fun _ => fun
  | [d1, d2, d3] => { results := [.lit (.bool false)], args := [d1, d2, d3] }
  | _ => none }
def FnExactWetErrorWrongFalsely : Prop := fnExactWetErrorRow.holds Try.pinned (OpenSpec.ofChange fnExactWetErrorWrong)

/-- 'laws.FnExactSamePlate': WHATEVER THE INPUT: true; the input reads as it did. -/
def fnExactSamePlateSpec : ChangeSpec := { name := "fnExactSamePlate", fn := fun _ => fun
  | [d1, d2] => { results := [.lit (.bool true)], args := [d1, d2] }
  | _ => none }
def fnExactSamePlateRow : OpenClaim := { program := "ythngfgiaobhhoaa", sum := "234ce0f61cddf43a321139adba8f680d65812819d99c5d290f33ee4252171c9b", func := "loop.example/g01055/laws.FnExactSamePlate", spec := "fnExactSamePlate", apart := false }
def FnExactSamePlateSaid : Prop := fnExactSamePlateRow.holds Try.pinned (OpenSpec.ofChange fnExactSamePlateSpec)

/-- ITS FALSE NEIGHBOUR: 'it returns false'. Refute it at one input. -/
def fnExactSamePlateWrong : ChangeSpec := { name := "fnExactSamePlate", fn := fun _ => fun
  | [d1, d2] => { results := [.lit (.bool false)], args := [d1, d2] }
  | _ => none }
def FnExactSamePlateWrongFalsely : Prop := fnExactSamePlateRow.holds Try.pinned (OpenSpec.ofChange fnExactSamePlateWrong)

/-- 'laws.FnExactFirstYear': WHATEVER THE INPUT: true; the input reads as it did. -/
def fnExactFirstYearSpec : ChangeSpec := { name := "fnExactFirstYear", fn := fun _ => fun
  | [d1, d2, d3] => { results := [.lit (.bool true)], args := [d1, d2, d3] }
  | _ => none }
def fnExactFirstYearRow : OpenClaim := { program := "ythngfgiaobhhoaa", sum := "234ce0f61cddf43a321139adba8f680d65812819d99c5d290f33ee4252171c9b", func := "loop.example/g01055/laws.FnExactFirstYear", spec := "fnExactFirstYear", apart := false }
def FnExactFirstYearSaid : Prop := fnExactFirstYearRow.holds Try.pinned (OpenSpec.ofChange fnExactFirstYearSpec)

/-- ITS FALSE NEIGHBOUR: 'it returns false'. Refute it at one input. -/
def fnExactFirstYearWrong : ChangeSpec := { name := "fnExactFirstYear", fn := fun _ => fun
  | [d1, d2, d3] => { results := [.lit (.bool false)], args := [d1, d2, d3] }
  | _ => none }
def FnExactFirstYearWrongFalsely : Prop := fnExactFirstYearRow.holds Try.pinned (OpenSpec.ofChange fnExactFirstYearWrong)

/-- 'laws.FnPapers': WHATEVER THE INPUT: true; the input reads as it did. -/
def fnPapersSpec : ChangeSpec := { name := "fnPapers", fn := fun _ => fun
  | [d1, d2] => { results := [.lit (.bool true)], args := [d1, d2] }
  | _ => none }
def fnPapersRow : OpenClaim := { program := "ythngfgiaobhhoaa", sum := "234ce0f61cddf43a321139adba8f680d65812819d99c5d290f33ee4252171c9b", func := "loop.example/g01055/laws.FnPapers", spec := "fnPapers", apart := false }
def FnPapersSaid : Prop := fnPapersRow.holds Try.pinned (OpenSpec.ofChange fnPapersSpec)

/-- ITS FALSE NEIGHBOUR: 'it returns false'. Refute it at one input. -/
def fnPapersWrong : ChangeSpec := { name := "fnPapers", fn := fun _ => fun
  | [d1, d2] => { results := [.lit (.bool false)], args := [d1, d2] }
  | _ => none }
def FnPapersWrongFalsely : Prop := fnPapersRow.holds Try.pinned (OpenSpec.ofChange fnPapersWrong)

/- THE SECOND FORM. 'bulk': how many values and letters a reading holds, each counted each time it is reached (what is shared counts as often as it is met; a slice's spare places count too). A statement '..UptoSaid' is the law's where the arguments, and the package variables that the reading takes, are together of bulk at most 1048576: NARROWER than '..Said'. Prove '..Said' where nothing that the law and all that it calls make is longer than what came in: it says more and counts as full. Else prove '..UptoSaid'. A law counts once. -/
mutual
def uptoBulk {H : Type} : DataW H → Nat
  | .lit (.string bytes) => bytes.length + 1
  | .lit _ => 1
  | .nil => 1
  | .ptr d => uptoBulk d + 1
  | .slice elems spare => uptoBulkAll elems + uptoBulkAll spare + 1
  | .agg parts => uptoBulkAll parts + 1
  | .iface _ d => uptoBulk d + 1
  | .map entries => uptoBulkEntries entries + 1
  | .held _ => 1
def uptoBulkAll {H : Type} : List (DataW H) → Nat
  | [] => 0
  | d :: r => uptoBulk d + uptoBulkAll r
def uptoBulkEntries {H : Type} : List (Lit × DataW H) → Nat
  | [] => 0
  | x :: r => uptoBulkEntry x + uptoBulkEntries r
def uptoBulkEntry {H : Type} : Lit × DataW H → Nat
  | (.string bytes, d) => bytes.length + uptoBulk d + 1
  | (_, d) => uptoBulk d + 1
 end
def uptoSmall : (H : Type) → List (DataW H) → Bool := fun _ ds => decide (uptoBulkAll ds ≤ 1048576)
def OpenSpec.upto (s : _root_.Go.ChangeSpec) : _root_.Go.OpenSpec := { _root_.Go.OpenSpec.ofChange s with cond := some uptoSmall }

/-- 'laws.FnExactValidSheet', WHERE WHAT IT READS IS OF BULK AT MOST 1048576: true; the input reads as it did. -/
def fnExactValidSheetUptoRow : OpenClaim := { program := "ythngfgiaobhhoaa", sum := "234ce0f61cddf43a321139adba8f680d65812819d99c5d290f33ee4252171c9b", func := "loop.example/g01055/laws.FnExactValidSheet", spec := "fnExactValidSheet", apart := false, narrowed := true }
def FnExactValidSheetUptoSaid : Prop := fnExactValidSheetUptoRow.holds Try.pinned (OpenSpec.upto fnExactValidSheetSpec)

/-- 'laws.FnExactDriedSide', WHERE WHAT IT READS IS OF BULK AT MOST 1048576: true; the input reads as it did. -/
def fnExactDriedSideUptoRow : OpenClaim := { program := "ythngfgiaobhhoaa", sum := "234ce0f61cddf43a321139adba8f680d65812819d99c5d290f33ee4252171c9b", func := "loop.example/g01055/laws.FnExactDriedSide", spec := "fnExactDriedSide", apart := false, narrowed := true }
def FnExactDriedSideUptoSaid : Prop := fnExactDriedSideUptoRow.holds Try.pinned (OpenSpec.upto fnExactDriedSideSpec)

/-- 'laws.FnExactRoundYears', WHERE WHAT IT READS IS OF BULK AT MOST 1048576: true; the input reads as it did. -/
def fnExactRoundYearsUptoRow : OpenClaim := { program := "ythngfgiaobhhoaa", sum := "234ce0f61cddf43a321139adba8f680d65812819d99c5d290f33ee4252171c9b", func := "loop.example/g01055/laws.FnExactRoundYears", spec := "fnExactRoundYears", apart := false, narrowed := true }
def FnExactRoundYearsUptoSaid : Prop := fnExactRoundYearsUptoRow.holds Try.pinned (OpenSpec.upto fnExactRoundYearsSpec)

/-- 'laws.FnExactDryFor', WHERE WHAT IT READS IS OF BULK AT MOST 1048576: true; the input reads as it did. -/
def fnExactDryForUptoRow : OpenClaim := { program := "ythngfgiaobhhoaa", sum := "234ce0f61cddf43a321139adba8f680d65812819d99c5d290f33ee4252171c9b", func := "loop.example/g01055/laws.FnExactDryFor", spec := "fnExactDryFor", apart := false, narrowed := true }
def FnExactDryForUptoSaid : Prop := fnExactDryForUptoRow.holds Try.pinned (OpenSpec.upto fnExactDryForSpec)

/-- 'laws.FnExactWetError', WHERE WHAT IT READS IS OF BULK AT MOST 1048576: true; the input reads as it did. -/
def fnExactWetErrorUptoRow : OpenClaim := { program := "ythngfgiaobhhoaa", sum := "234ce0f61cddf43a321139adba8f680d65812819d99c5d290f33ee4252171c9b", func := "loop.example/g01055/laws.FnExactWetError", spec := "fnExactWetError", apart := false, narrowed := true }
def FnExactWetErrorUptoSaid : Prop := fnExactWetErrorUptoRow.holds Try.pinned (OpenSpec.upto fnExactWetErrorSpec)

/-- 'laws.FnExactSamePlate', WHERE WHAT IT READS IS OF BULK AT MOST 1048576: true; the input reads as it did. -/
def fnExactSamePlateUptoRow : OpenClaim := { program := "ythngfgiaobhhoaa", sum := "234ce0f61cddf43a321139adba8f680d65812819d99c5d290f33ee4252171c9b", func := "loop.example/g01055/laws.FnExactSamePlate", spec := "fnExactSamePlate", apart := false, narrowed := true }
def FnExactSamePlateUptoSaid : Prop := fnExactSamePlateUptoRow.holds Try.pinned (OpenSpec.upto fnExactSamePlateSpec)

/-- 'laws.FnExactFirstYear', WHERE WHAT IT READS IS OF BULK AT MOST 1048576: true; the input reads as it did. -/
def fnExactFirstYearUptoRow : OpenClaim := { program := "ythngfgiaobhhoaa", sum := "234ce0f61cddf43a321139adba8f680d65812819d99c5d290f33ee4252171c9b", func := "loop.example/g01055/laws.FnExactFirstYear", spec := "fnExactFirstYear", apart := false, narrowed := true }
def FnExactFirstYearUptoSaid : Prop := fnExactFirstYearUptoRow.holds Try.pinned (OpenSpec.upto fnExactFirstYearSpec)

/-- 'laws.FnPapers', WHERE WHAT IT READS IS OF BULK AT MOST 1048576: true; the input reads as it did. -/
def fnPapersUptoRow : OpenClaim := { program := "ythngfgiaobhhoaa", sum := "234ce0f61cddf43a321139adba8f680d65812819d99c5d290f33ee4252171c9b", func := "loop.example/g01055/laws.FnPapers", spec := "fnPapers", apart := false, narrowed := true }
def FnPapersUptoSaid : Prop := fnPapersUptoRow.holds Try.pinned (OpenSpec.upto fnPapersSpec)

end Rows
end Go.Proofs.Ythngfgiaobhhoaa
