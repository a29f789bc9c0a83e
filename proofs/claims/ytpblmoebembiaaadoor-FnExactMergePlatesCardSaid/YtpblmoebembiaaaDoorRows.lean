/-
  NARROWER THAN 'FOR EVERY INPUT', by the rows' own cells (each row's printed sentence says how): FnExactValidPlate: laid · FnExactValidKnown: laid · FnMerges: laid · FnExactValidEdits: laid · FnExactValidCatalogue: laid · FnExactValidEditions: laid · FnExactConflictsOf: laid · FnExactEditionIn: laid · FnExactMergePlates: laid · FnExactUnusedIn: laid · FnExactEditsBetween: laid.
  DERIVED. THE GIVEN ROWS OF THIS SEAT. 11 by the template 'for every input the law returns true; each argument reads behind the call as it read before'; 0 by the template 'total and deterministic' (their statements: YtpblmoebembiaaaDoorTotals.lean).
  GIVEN WITH THE SEED: the statements are not yours to turn. If you find one false, say at which input.
  Laid BY PROGRAM, IN A SANDBOX (cutbox-rows.mjs): the forced cells as the released guide's own fill.sh prints them over the translation 38fc1ee54991a25d… (all of the seat's roots in one cut). By AI agents, Wed Nov 11 2026. No macro, syntax, notation, axiom, sorry.
-/
import Derived.Test.YtpblmoebembiaaaDoorChecked
import GoSem.PinnedTables
import GoSem.Claim
import GoSem.ClaimJoined
import GoSem.ClaimMapViews
import Derived.JoinedTies
import Derived.KernelRfl
namespace Go.Proofs.YtpblmoebembiaaaDoor
/- THE CELL 'sum', in the pinned program and in every row, IS THE sha256 OF THE DUMP (.gsa) THAT YtpblmoebembiaaaDoorProg.lean LOADS. Nothing in Lean hashes anything: it is a label: what it is worth is what the hold of that sum in a sandbox is worth. -/
noncomputable def Tryd.pinned : Pinned := { name := "ytpblmoebembiaaadoor", sum := "38fc1ee54991a25d0ad116df4bae522949c6c3d84f2e1d8e02a4a620f63bfdcd", checked := Tryd.checked }
namespace Rows
def none {H : Type} : Left H := { results := [], args := [] }

/- WHAT THE LISTED PACKAGE-LEVEL VARIABLES READ AS WHEN THE CALL BEGINS. Each datum BY PROGRAM (the guide's laid-datum.mjs) off the statement by which the dump's own 'gosem.cut.vars' lays the variable. In a bare row this is a premise. The card (YtpblmoebembiaaaDoorCards.lean) ties it to the program's text. -/
def laid_unicode_utf8_acceptRanges {H : Type} : DataW H := .agg [.agg [.lit (.int .u8 128), .lit (.int .u8 191)], .agg [.lit (.int .u8 160), .lit (.int .u8 191)], .agg [.lit (.int .u8 128), .lit (.int .u8 159)], .agg [.lit (.int .u8 144), .lit (.int .u8 191)], .agg [.lit (.int .u8 128), .lit (.int .u8 143)], .agg [.lit (.int .u8 0), .lit (.int .u8 0)], .agg [.lit (.int .u8 0), .lit (.int .u8 0)], .agg [.lit (.int .u8 0), .lit (.int .u8 0)], .agg [.lit (.int .u8 0), .lit (.int .u8 0)], .agg [.lit (.int .u8 0), .lit (.int .u8 0)], .agg [.lit (.int .u8 0), .lit (.int .u8 0)], .agg [.lit (.int .u8 0), .lit (.int .u8 0)], .agg [.lit (.int .u8 0), .lit (.int .u8 0)], .agg [.lit (.int .u8 0), .lit (.int .u8 0)], .agg [.lit (.int .u8 0), .lit (.int .u8 0)], .agg [.lit (.int .u8 0), .lit (.int .u8 0)]]
/-- One of Go's own tables, pinned by name: the form's constant. -/
def laid_unicode_utf8_first : DataW Unit := Go.Pinned.utf8First

/-- 'laws.FnExactValidPlate': WHATEVER THE INPUT: true; the input reads as it did. -/
def fnExactValidPlateSpec : ChangeSpec := { name := "fnExactValidPlate", fn := fun _ => fun
  | [d] => { results := [.lit (.bool true)], args := [d] }
  | _ => none }
def fnExactValidPlateRow : OpenClaim := { program := "ytpblmoebembiaaadoor", sum := "38fc1ee54991a25d0ad116df4bae522949c6c3d84f2e1d8e02a4a620f63bfdcd", func := "loop.example/g01055/laws.FnExactValidPlate", spec := "fnExactValidPlate", inPlace := ["internal/bytealg.IndexByteString", "internal/bytealg.IndexString"], unfollowed := true, recurses := true, named := ["unicode/utf8.first", "unicode/utf8.acceptRanges", "internal/bytealg.MaxLen"], apart := false, laid := [("unicode/utf8.acceptRanges", laid_unicode_utf8_acceptRanges), ("unicode/utf8.first", laid_unicode_utf8_first)] }
def FnExactValidPlateSaid : Prop := fnExactValidPlateRow.holds Tryd.pinned (OpenSpec.ofChange fnExactValidPlateSpec)

/-- ITS FALSE NEIGHBOUR: 'it returns false'. Refute it at one input. -/
def fnExactValidPlateWrong : ChangeSpec := { name := "fnExactValidPlate", fn := fun _ => fun
  | [d] => { results := [.lit (.bool false)], args := [d] }
  | _ => none }
def FnExactValidPlateWrongFalsely : Prop := fnExactValidPlateRow.holds Tryd.pinned (OpenSpec.ofChange fnExactValidPlateWrong)

/-- 'laws.FnExactValidKnown': WHATEVER THE INPUT: true; the input reads as it did. -/
def fnExactValidKnownSpec : ChangeSpec := { name := "fnExactValidKnown", fn := fun _ => fun
  | [d] => { results := [.lit (.bool true)], args := [d] }
  | _ => none }
def fnExactValidKnownRow : OpenClaim := { program := "ytpblmoebembiaaadoor", sum := "38fc1ee54991a25d0ad116df4bae522949c6c3d84f2e1d8e02a4a620f63bfdcd", func := "loop.example/g01055/laws.FnExactValidKnown", spec := "fnExactValidKnown", inPlace := ["internal/bytealg.IndexByteString", "internal/bytealg.IndexString"], named := ["unicode/utf8.first", "unicode/utf8.acceptRanges", "internal/bytealg.MaxLen"], apart := false, laid := [("unicode/utf8.acceptRanges", laid_unicode_utf8_acceptRanges), ("unicode/utf8.first", laid_unicode_utf8_first)] }
def FnExactValidKnownSaid : Prop := fnExactValidKnownRow.holds Tryd.pinned (OpenSpec.ofChange fnExactValidKnownSpec)

/-- ITS FALSE NEIGHBOUR: 'it returns false'. Refute it at one input. -/
def fnExactValidKnownWrong : ChangeSpec := { name := "fnExactValidKnown", fn := fun _ => fun
  | [d] => { results := [.lit (.bool false)], args := [d] }
  | _ => none }
def FnExactValidKnownWrongFalsely : Prop := fnExactValidKnownRow.holds Tryd.pinned (OpenSpec.ofChange fnExactValidKnownWrong)

/-- 'laws.FnMerges': WHATEVER THE INPUT: true; the input reads as it did. -/
def fnMergesSpec : ChangeSpec := { name := "fnMerges", fn := fun _ => fun
  | [d] => { results := [.lit (.bool true)], args := [d] }
  | _ => none }
def fnMergesRow : OpenClaim := { program := "ytpblmoebembiaaadoor", sum := "38fc1ee54991a25d0ad116df4bae522949c6c3d84f2e1d8e02a4a620f63bfdcd", func := "loop.example/g01055/laws.FnMerges", spec := "fnMerges", inPlace := ["internal/bytealg.IndexByteString", "internal/bytealg.IndexString"], unfollowed := true, recurses := true, named := ["unicode/utf8.first", "unicode/utf8.acceptRanges", "internal/bytealg.MaxLen"], apart := false, laid := [("unicode/utf8.acceptRanges", laid_unicode_utf8_acceptRanges), ("unicode/utf8.first", laid_unicode_utf8_first)] }
def FnMergesSaid : Prop := fnMergesRow.holds Tryd.pinned (OpenSpec.ofChange fnMergesSpec)

/-- ITS FALSE NEIGHBOUR: 'it returns false'. Refute it at one input. -/
def fnMergesWrong : ChangeSpec := { name := "fnMerges", fn := fun _ => fun
  | [d] => { results := [.lit (.bool false)], args := [d] }
  | _ => none }
def FnMergesWrongFalsely : Prop := fnMergesRow.holds Tryd.pinned (OpenSpec.ofChange fnMergesWrong)

/-- 'laws.FnExactValidEdits': WHATEVER THE INPUT: true; the input reads as it did. -/
def fnExactValidEditsSpec : ChangeSpec := { name := "fnExactValidEdits", fn := fun _ => fun
  | [d] => { results := [.lit (.bool true)], args := [d] }
  | _ => none }
def fnExactValidEditsRow : OpenClaim := { program := "ytpblmoebembiaaadoor", sum := "38fc1ee54991a25d0ad116df4bae522949c6c3d84f2e1d8e02a4a620f63bfdcd", func := "loop.example/g01055/laws.FnExactValidEdits", spec := "fnExactValidEdits", inPlace := ["internal/bytealg.IndexByteString", "internal/bytealg.IndexString"], unfollowed := true, recurses := true, named := ["unicode/utf8.first", "unicode/utf8.acceptRanges", "internal/bytealg.MaxLen"], apart := false, laid := [("unicode/utf8.acceptRanges", laid_unicode_utf8_acceptRanges), ("unicode/utf8.first", laid_unicode_utf8_first)] }
def FnExactValidEditsSaid : Prop := fnExactValidEditsRow.holds Tryd.pinned (OpenSpec.ofChange fnExactValidEditsSpec)

/-- ITS FALSE NEIGHBOUR: 'it returns false'. Refute it at one input. -/
def fnExactValidEditsWrong : ChangeSpec := { name := "fnExactValidEdits", fn := fun _ => fun
  | [d] => { results := [.lit (.bool false)], args := [d] }
  | _ => none }
def FnExactValidEditsWrongFalsely : Prop := fnExactValidEditsRow.holds Tryd.pinned (OpenSpec.ofChange fnExactValidEditsWrong)

/-- 'laws.FnExactValidCatalogue': WHATEVER THE INPUT: true; the input reads as it did. -/
def fnExactValidCatalogueSpec : ChangeSpec := { name := "fnExactValidCatalogue", fn := fun _ => fun
  | [d] => { results := [.lit (.bool true)], args := [d] }
  | _ => none }
def fnExactValidCatalogueRow : OpenClaim := { program := "ytpblmoebembiaaadoor", sum := "38fc1ee54991a25d0ad116df4bae522949c6c3d84f2e1d8e02a4a620f63bfdcd", func := "loop.example/g01055/laws.FnExactValidCatalogue", spec := "fnExactValidCatalogue", inPlace := ["internal/bytealg.IndexByteString", "internal/bytealg.IndexString"], unfollowed := true, recurses := true, named := ["unicode/utf8.first", "unicode/utf8.acceptRanges", "internal/bytealg.MaxLen"], apart := false, laid := [("unicode/utf8.acceptRanges", laid_unicode_utf8_acceptRanges), ("unicode/utf8.first", laid_unicode_utf8_first)] }
def FnExactValidCatalogueSaid : Prop := fnExactValidCatalogueRow.holds Tryd.pinned (OpenSpec.ofChange fnExactValidCatalogueSpec)

/-- ITS FALSE NEIGHBOUR: 'it returns false'. Refute it at one input. -/
def fnExactValidCatalogueWrong : ChangeSpec := { name := "fnExactValidCatalogue", fn := fun _ => fun
  | [d] => { results := [.lit (.bool false)], args := [d] }
  | _ => none }
def FnExactValidCatalogueWrongFalsely : Prop := fnExactValidCatalogueRow.holds Tryd.pinned (OpenSpec.ofChange fnExactValidCatalogueWrong)

/-- 'laws.FnExactValidEditions': WHATEVER THE INPUT: true; the input reads as it did. -/
def fnExactValidEditionsSpec : ChangeSpec := { name := "fnExactValidEditions", fn := fun _ => fun
  | [d] => { results := [.lit (.bool true)], args := [d] }
  | _ => none }
def fnExactValidEditionsRow : OpenClaim := { program := "ytpblmoebembiaaadoor", sum := "38fc1ee54991a25d0ad116df4bae522949c6c3d84f2e1d8e02a4a620f63bfdcd", func := "loop.example/g01055/laws.FnExactValidEditions", spec := "fnExactValidEditions", inPlace := ["internal/bytealg.IndexByteString", "internal/bytealg.IndexString"], named := ["unicode/utf8.first", "unicode/utf8.acceptRanges", "internal/bytealg.MaxLen"], apart := false, laid := [("unicode/utf8.acceptRanges", laid_unicode_utf8_acceptRanges), ("unicode/utf8.first", laid_unicode_utf8_first)] }
def FnExactValidEditionsSaid : Prop := fnExactValidEditionsRow.holds Tryd.pinned (OpenSpec.ofChange fnExactValidEditionsSpec)

/-- ITS FALSE NEIGHBOUR: 'it returns false'. Refute it at one input. -/
def fnExactValidEditionsWrong : ChangeSpec := { name := "fnExactValidEditions", fn := fun _ => fun
  | [d] => { results := [.lit (.bool false)], args := [d] }
  | _ => none }
def FnExactValidEditionsWrongFalsely : Prop := fnExactValidEditionsRow.holds Tryd.pinned (OpenSpec.ofChange fnExactValidEditionsWrong)

/-- 'laws.FnExactConflictsOf': WHATEVER THE INPUT: true; the input reads as it did. -/
def fnExactConflictsOfSpec : ChangeSpec := { name := "fnExactConflictsOf", fn := fun _ => fun
  | [d1, d2, d3] => { results := [.lit (.bool true)], args := [d1, d2, d3] }
  | _ => none }
def fnExactConflictsOfRow : OpenClaim := { program := "ytpblmoebembiaaadoor", sum := "38fc1ee54991a25d0ad116df4bae522949c6c3d84f2e1d8e02a4a620f63bfdcd", func := "loop.example/g01055/laws.FnExactConflictsOf", spec := "fnExactConflictsOf", inPlace := ["internal/bytealg.IndexByteString", "internal/bytealg.IndexString"], unfollowed := true, recurses := true, named := ["unicode/utf8.first", "unicode/utf8.acceptRanges", "internal/bytealg.MaxLen"], apart := false, laid := [("unicode/utf8.acceptRanges", laid_unicode_utf8_acceptRanges), ("unicode/utf8.first", laid_unicode_utf8_first)] }
def FnExactConflictsOfSaid : Prop := fnExactConflictsOfRow.holds Tryd.pinned (OpenSpec.ofChange fnExactConflictsOfSpec)

/-- ITS FALSE NEIGHBOUR: 'it returns false'. Refute it at one input. -/
def fnExactConflictsOfWrong : ChangeSpec := { name := "fnExactConflictsOf", fn := fun _ => fun
  | [d1, d2, d3] => { results := [.lit (.bool false)], args := [d1, d2, d3] }
  | _ => none }
def FnExactConflictsOfWrongFalsely : Prop := fnExactConflictsOfRow.holds Tryd.pinned (OpenSpec.ofChange fnExactConflictsOfWrong)

/-- 'laws.FnExactEditionIn': WHATEVER THE INPUT: true; the input reads as it did. -/
def fnExactEditionInSpec : ChangeSpec := { name := "fnExactEditionIn", fn := fun _ => fun
  | [d1, d2] => { results := [.lit (.bool true)], args := [d1, d2] }
  | _ => none }
def fnExactEditionInRow : OpenClaim := { program := "ytpblmoebembiaaadoor", sum := "38fc1ee54991a25d0ad116df4bae522949c6c3d84f2e1d8e02a4a620f63bfdcd", func := "loop.example/g01055/laws.FnExactEditionIn", spec := "fnExactEditionIn", inPlace := ["internal/bytealg.IndexByteString", "internal/bytealg.IndexString"], named := ["unicode/utf8.first", "unicode/utf8.acceptRanges", "internal/bytealg.MaxLen"], apart := false, laid := [("unicode/utf8.acceptRanges", laid_unicode_utf8_acceptRanges), ("unicode/utf8.first", laid_unicode_utf8_first)] }
def FnExactEditionInSaid : Prop := fnExactEditionInRow.holds Tryd.pinned (OpenSpec.ofChange fnExactEditionInSpec)

/-- ITS FALSE NEIGHBOUR: 'it returns false'. Refute it at one input. -/
def fnExactEditionInWrong : ChangeSpec := { name := "fnExactEditionIn", fn := fun _ => fun
  | [d1, d2] => { results := [.lit (.bool false)], args := [d1, d2] }
  | _ => none }
def FnExactEditionInWrongFalsely : Prop := fnExactEditionInRow.holds Tryd.pinned (OpenSpec.ofChange fnExactEditionInWrong)

/-- 'laws.FnExactMergePlates': WHATEVER THE INPUT: true; the input reads as it did. -/
def fnExactMergePlatesSpec : ChangeSpec := { name := "fnExactMergePlates", fn := fun _ => fun
  | [d1, d2, d3] => { results := [.lit (.bool true)], args := [d1, d2, d3] }
  | _ => none }
def fnExactMergePlatesRow : OpenClaim := { program := "ytpblmoebembiaaadoor", sum := "38fc1ee54991a25d0ad116df4bae522949c6c3d84f2e1d8e02a4a620f63bfdcd", func := "loop.example/g01055/laws.FnExactMergePlates", spec := "fnExactMergePlates", inPlace := ["internal/bytealg.IndexByteString", "internal/bytealg.IndexString"], unfollowed := true, recurses := true, named := ["unicode/utf8.first", "unicode/utf8.acceptRanges", "internal/bytealg.MaxLen"], apart := false, laid := [("unicode/utf8.acceptRanges", laid_unicode_utf8_acceptRanges), ("unicode/utf8.first", laid_unicode_utf8_first)] }
def FnExactMergePlatesSaid : Prop := fnExactMergePlatesRow.holds Tryd.pinned (OpenSpec.ofChange fnExactMergePlatesSpec)

/-- ITS FALSE NEIGHBOUR: 'it returns false'. Refute it at one input. -/
def fnExactMergePlatesWrong : ChangeSpec := { name := "fnExactMergePlates", fn := fun _ => fun
  | [d1, d2, d3] => { results := [.lit (.bool false)], args := [d1, d2, d3] }
  | _ => none }
def FnExactMergePlatesWrongFalsely : Prop := fnExactMergePlatesRow.holds Tryd.pinned (OpenSpec.ofChange fnExactMergePlatesWrong)

/-- 'laws.FnExactUnusedIn': WHATEVER THE INPUT: true; the input reads as it did. -/
def fnExactUnusedInSpec : ChangeSpec := { name := "fnExactUnusedIn", fn := fun _ => fun
  | [d1, d2] => { results := [.lit (.bool true)], args := [d1, d2] }
  | _ => none }
def fnExactUnusedInRow : OpenClaim := { program := "ytpblmoebembiaaadoor", sum := "38fc1ee54991a25d0ad116df4bae522949c6c3d84f2e1d8e02a4a620f63bfdcd", func := "loop.example/g01055/laws.FnExactUnusedIn", spec := "fnExactUnusedIn", inPlace := ["internal/bytealg.IndexByteString", "internal/bytealg.IndexString"], named := ["unicode/utf8.first", "unicode/utf8.acceptRanges", "internal/bytealg.MaxLen"], apart := false, laid := [("unicode/utf8.acceptRanges", laid_unicode_utf8_acceptRanges), ("unicode/utf8.first", laid_unicode_utf8_first)] }
def FnExactUnusedInSaid : Prop := fnExactUnusedInRow.holds Tryd.pinned (OpenSpec.ofChange fnExactUnusedInSpec)

/-- ITS FALSE NEIGHBOUR: 'it returns false'. Refute it at one input. -/
def fnExactUnusedInWrong : ChangeSpec := { name := "fnExactUnusedIn", fn := fun _ => fun
  | [d1, d2] => { results := [.lit (.bool false)], args := [d1, d2] }
  | _ => none }
def FnExactUnusedInWrongFalsely : Prop := fnExactUnusedInRow.holds Tryd.pinned (OpenSpec.ofChange fnExactUnusedInWrong)

/-- 'laws.FnExactEditsBetween': WHATEVER THE INPUT: true; the input reads as it did. -/
def fnExactEditsBetweenSpec : ChangeSpec := { name := "fnExactEditsBetween", fn := fun _ => fun
  | [d1, d2] => { results := [.lit (.bool true)], args := [d1, d2] }
  | _ => none }
def fnExactEditsBetweenRow : OpenClaim := { program := "ytpblmoebembiaaadoor", sum := "38fc1ee54991a25d0ad116df4bae522949c6c3d84f2e1d8e02a4a620f63bfdcd", func := "loop.example/g01055/laws.FnExactEditsBetween", spec := "fnExactEditsBetween", inPlace := ["internal/bytealg.IndexByteString", "internal/bytealg.IndexString"], unfollowed := true, recurses := true, named := ["unicode/utf8.first", "unicode/utf8.acceptRanges", "internal/bytealg.MaxLen"], apart := false, laid := [("unicode/utf8.acceptRanges", laid_unicode_utf8_acceptRanges), ("unicode/utf8.first", laid_unicode_utf8_first)] }
def FnExactEditsBetweenSaid : Prop := fnExactEditsBetweenRow.holds Tryd.pinned (OpenSpec.ofChange fnExactEditsBetweenSpec)

/-- ITS FALSE NEIGHBOUR: 'it returns false'. Refute it at one input. -/
def fnExactEditsBetweenWrong : ChangeSpec := { name := "fnExactEditsBetween", fn := fun _ => fun
  | [d1, d2] => { results := [.lit (.bool false)], args := [d1, d2] }
  | _ => none }
def FnExactEditsBetweenWrongFalsely : Prop := fnExactEditsBetweenRow.holds Tryd.pinned (OpenSpec.ofChange fnExactEditsBetweenWrong)

/- THE SECOND FORM. 'bulk': how many values and letters a reading holds, each counted each time it is reached (what is shared counts as often as it is met; a slice's spare places count too). A statement '..UptoSaid' is the law's where the arguments, and the package variables that the reading takes, are together of bulk at most 1048576: NARROWER than '..Said'. Prove '..Said' where nothing that the law and all that it calls make is longer than what came in: it says more and counts as full. Else prove '..UptoSaid'. A law counts once. -/
mutual
def uptoBulk {H : Type} : DataW H → Nat
  | .lit (.string bytes) => bytes.length + 1
  | .lit _ => 1
  | .nil => 1
  | .ptr d => uptoBulk d + 1
  | .slice elems spare => uptoBulkAll elems + uptoBulkAll spare + 1
  | .agg parts => uptoBulkAll parts + 1
  | .iface _ d => uptoBulk d + 1
  | .map entries => uptoBulkEntries entries + 1
  | .held _ => 1
def uptoBulkAll {H : Type} : List (DataW H) → Nat
  | [] => 0
  | d :: r => uptoBulk d + uptoBulkAll r
def uptoBulkEntries {H : Type} : List (Lit × DataW H) → Nat
  | [] => 0
  | x :: r => uptoBulkEntry x + uptoBulkEntries r
def uptoBulkEntry {H : Type} : Lit × DataW H → Nat
  | (.string bytes, d) => bytes.length + uptoBulk d + 1
  | (_, d) => uptoBulk d + 1
 end
def uptoSmall : (H : Type) → List (DataW H) → Bool := fun _ ds => decide (uptoBulkAll ds ≤ 1048576)
def OpenSpec.upto (s : _root_.Go.ChangeSpec) : _root_.Go.OpenSpec := { _root_.Go.OpenSpec.ofChange s with cond := some uptoSmall }

/-- 'laws.FnExactValidPlate', WHERE WHAT IT READS IS OF BULK AT MOST 1048576: true; the input reads as it did. -/
def fnExactValidPlateUptoRow : OpenClaim := { program := "ytpblmoebembiaaadoor", sum := "38fc1ee54991a25d0ad116df4bae522949c6c3d84f2e1d8e02a4a620f63bfdcd", func := "loop.example/g01055/laws.FnExactValidPlate", spec := "fnExactValidPlate", inPlace := ["internal/bytealg.IndexByteString", "internal/bytealg.IndexString"], unfollowed := true, recurses := true, named := ["unicode/utf8.first", "unicode/utf8.acceptRanges", "internal/bytealg.MaxLen"], apart := false, laid := [("unicode/utf8.acceptRanges", laid_unicode_utf8_acceptRanges), ("unicode/utf8.first", laid_unicode_utf8_first)], narrowed := true }
def FnExactValidPlateUptoSaid : Prop := fnExactValidPlateUptoRow.holds Tryd.pinned (OpenSpec.upto fnExactValidPlateSpec)

/-- 'laws.FnExactValidKnown', WHERE WHAT IT READS IS OF BULK AT MOST 1048576: true; the input reads as it did. -/
def fnExactValidKnownUptoRow : OpenClaim := { program := "ytpblmoebembiaaadoor", sum := "38fc1ee54991a25d0ad116df4bae522949c6c3d84f2e1d8e02a4a620f63bfdcd", func := "loop.example/g01055/laws.FnExactValidKnown", spec := "fnExactValidKnown", inPlace := ["internal/bytealg.IndexByteString", "internal/bytealg.IndexString"], named := ["unicode/utf8.first", "unicode/utf8.acceptRanges", "internal/bytealg.MaxLen"], apart := false, laid := [("unicode/utf8.acceptRanges", laid_unicode_utf8_acceptRanges), ("unicode/utf8.first", laid_unicode_utf8_first)], narrowed := true }
def FnExactValidKnownUptoSaid : Prop := fnExactValidKnownUptoRow.holds Tryd.pinned (OpenSpec.upto fnExactValidKnownSpec)

/-- 'laws.FnMerges', WHERE WHAT IT READS IS OF BULK AT MOST 1048576: true; the input reads as it did. -/
def fnMergesUptoRow : OpenClaim := { program := "ytpblmoebembiaaadoor", sum := "38fc1ee54991a25d0ad116df4bae522949c6c3d84f2e1d8e02a4a620f63bfdcd", func := "loop.example/g01055/laws.FnMerges", spec := "fnMerges", inPlace := ["internal/bytealg.IndexByteString", "internal/bytealg.IndexString"], unfollowed := true, recurses := true, named := ["unicode/utf8.first", "unicode/utf8.acceptRanges", "internal/bytealg.MaxLen"], apart := false, laid := [("unicode/utf8.acceptRanges", laid_unicode_utf8_acceptRanges), ("unicode/utf8.first", laid_unicode_utf8_first)], narrowed := true }
def FnMergesUptoSaid : Prop := fnMergesUptoRow.holds Tryd.pinned (OpenSpec.upto fnMergesSpec)

/-- 'laws.FnExactValidEdits', WHERE WHAT IT READS IS OF BULK AT MOST 1048576: true; the input reads as it did. -/
def fnExactValidEditsUptoRow : OpenClaim := { program := "ytpblmoebembiaaadoor", sum := "38fc1ee54991a25d0ad116df4bae522949c6c3d84f2e1d8e02a4a620f63bfdcd", func := "loop.example/g01055/laws.FnExactValidEdits", spec := "fnExactValidEdits", inPlace := ["internal/bytealg.IndexByteString", "internal/bytealg.IndexString"], unfollowed := true, recurses := true, named := ["unicode/utf8.first", "unicode/utf8.acceptRanges", "internal/bytealg.MaxLen"], apart := false, laid := [("unicode/utf8.acceptRanges", laid_unicode_utf8_acceptRanges), ("unicode/utf8.first", laid_unicode_utf8_first)], narrowed := true }
def FnExactValidEditsUptoSaid : Prop := fnExactValidEditsUptoRow.holds Tryd.pinned (OpenSpec.upto fnExactValidEditsSpec)

/-- 'laws.FnExactValidCatalogue', WHERE WHAT IT READS IS OF BULK AT MOST 1048576: true; the input reads as it did. -/
def fnExactValidCatalogueUptoRow : OpenClaim := { program := "ytpblmoebembiaaadoor", sum := "38fc1ee54991a25d0ad116df4bae522949c6c3d84f2e1d8e02a4a620f63bfdcd", func := "loop.example/g01055/laws.FnExactValidCatalogue", spec := "fnExactValidCatalogue", inPlace := ["internal/bytealg.IndexByteString", "internal/bytealg.IndexString"], unfollowed := true, recurses := true, named := ["unicode/utf8.first", "unicode/utf8.acceptRanges", "internal/bytealg.MaxLen"], apart := false, laid := [("unicode/utf8.acceptRanges", laid_unicode_utf8_acceptRanges), ("unicode/utf8.first", laid_unicode_utf8_first)], narrowed := true }
def FnExactValidCatalogueUptoSaid : Prop := fnExactValidCatalogueUptoRow.holds Tryd.pinned (OpenSpec.upto fnExactValidCatalogueSpec)

/-- 'laws.FnExactValidEditions', WHERE WHAT IT READS IS OF BULK AT MOST 1048576: true; the input reads as it did. -/
def fnExactValidEditionsUptoRow : OpenClaim := { program := "ytpblmoebembiaaadoor", sum := "38fc1ee54991a25d0ad116df4bae522949c6c3d84f2e1d8e02a4a620f63bfdcd", func := "loop.example/g01055/laws.FnExactValidEditions", spec := "fnExactValidEditions", inPlace := ["internal/bytealg.IndexByteString", "internal/bytealg.IndexString"], named := ["unicode/utf8.first", "unicode/utf8.acceptRanges", "internal/bytealg.MaxLen"], apart := false, laid := [("unicode/utf8.acceptRanges", laid_unicode_utf8_acceptRanges), ("unicode/utf8.first", laid_unicode_utf8_first)], narrowed := true }
def FnExactValidEditionsUptoSaid : Prop := fnExactValidEditionsUptoRow.holds Tryd.pinned (OpenSpec.upto fnExactValidEditionsSpec)

/-- 'laws.FnExactConflictsOf', WHERE WHAT IT READS IS OF BULK AT MOST 1048576: true; the input reads as it did. -/
def fnExactConflictsOfUptoRow : OpenClaim := { program := "ytpblmoebembiaaadoor", sum := "38fc1ee54991a25d0ad116df4bae522949c6c3d84f2e1d8e02a4a620f63bfdcd", func := "loop.example/g01055/laws.FnExactConflictsOf", spec := "fnExactConflictsOf", inPlace := ["internal/bytealg.IndexByteString", "internal/bytealg.IndexString"], unfollowed := true, recurses := true, named := ["unicode/utf8.first", "unicode/utf8.acceptRanges", "internal/bytealg.MaxLen"], apart := false, laid := [("unicode/utf8.acceptRanges", laid_unicode_utf8_acceptRanges), ("unicode/utf8.first", laid_unicode_utf8_first)], narrowed := true }
def FnExactConflictsOfUptoSaid : Prop := fnExactConflictsOfUptoRow.holds Tryd.pinned (OpenSpec.upto fnExactConflictsOfSpec)

/-- 'laws.FnExactEditionIn', WHERE WHAT IT READS IS OF BULK AT MOST 1048576: true; the input reads as it did. -/
def fnExactEditionInUptoRow : OpenClaim := { program := "ytpblmoebembiaaadoor", sum := "38fc1ee54991a25d0ad116df4bae522949c6c3d84f2e1d8e02a4a620f63bfdcd", func := "loop.example/g01055/laws.FnExactEditionIn", spec := "fnExactEditionIn", inPlace := ["internal/bytealg.IndexByteString", "internal/bytealg.IndexString"], named := ["unicode/utf8.first", "unicode/utf8.acceptRanges", "internal/bytealg.MaxLen"], apart := false, laid := [("unicode/utf8.acceptRanges", laid_unicode_utf8_acceptRanges), ("unicode/utf8.first", laid_unicode_utf8_first)], narrowed := true }
def FnExactEditionInUptoSaid : Prop := fnExactEditionInUptoRow.holds Tryd.pinned (OpenSpec.upto fnExactEditionInSpec)

/-- 'laws.FnExactMergePlates', WHERE WHAT IT READS IS OF BULK AT MOST 1048576: true; the input reads as it did. -/
def fnExactMergePlatesUptoRow : OpenClaim := { program := "ytpblmoebembiaaadoor", sum := "38fc1ee54991a25d0ad116df4bae522949c6c3d84f2e1d8e02a4a620f63bfdcd", func := "loop.example/g01055/laws.FnExactMergePlates", spec := "fnExactMergePlates", inPlace := ["internal/bytealg.IndexByteString", "internal/bytealg.IndexString"], unfollowed := true, recurses := true, named := ["unicode/utf8.first", "unicode/utf8.acceptRanges", "internal/bytealg.MaxLen"], apart := false, laid := [("unicode/utf8.acceptRanges", laid_unicode_utf8_acceptRanges), ("unicode/utf8.first", laid_unicode_utf8_first)], narrowed := true }
def FnExactMergePlatesUptoSaid : Prop := fnExactMergePlatesUptoRow.holds Tryd.pinned (OpenSpec.upto fnExactMergePlatesSpec)

/-- 'laws.FnExactUnusedIn', WHERE WHAT IT READS IS OF BULK AT MOST 1048576: true; the input reads as it did. -/
def fnExactUnusedInUptoRow : OpenClaim := { program := "ytpblmoebembiaaadoor", sum := "38fc1ee54991a25d0ad116df4bae522949c6c3d84f2e1d8e02a4a620f63bfdcd", func := "loop.example/g01055/laws.FnExactUnusedIn", spec := "fnExactUnusedIn", inPlace := ["internal/bytealg.IndexByteString", "internal/bytealg.IndexString"], named := ["unicode/utf8.first", "unicode/utf8.acceptRanges", "internal/bytealg.MaxLen"], apart := false, laid := [("unicode/utf8.acceptRanges", laid_unicode_utf8_acceptRanges), ("unicode/utf8.first", laid_unicode_utf8_first)], narrowed := true }
def FnExactUnusedInUptoSaid : Prop := fnExactUnusedInUptoRow.holds Tryd.pinned (OpenSpec.upto fnExactUnusedInSpec)

/-- 'laws.FnExactEditsBetween', WHERE WHAT IT READS IS OF BULK AT MOST 1048576: true; the input reads as it did. -/
def fnExactEditsBetweenUptoRow : OpenClaim := { program := "ytpblmoebembiaaadoor", sum := "38fc1ee54991a25d0ad116df4bae522949c6c3d84f2e1d8e02a4a620f63bfdcd", func := "loop.example/g01055/laws.FnExactEditsBetween", spec := "fnExactEditsBetween", inPlace := ["internal/bytealg.IndexByteString", "internal/bytealg.IndexString"], unfollowed := true, recurses := true, named := ["unicode/utf8.first", "unicode/utf8.acceptRanges", "internal/bytealg.MaxLen"], apart := false, laid := [("unicode/utf8.acceptRanges", laid_unicode_utf8_acceptRanges), ("unicode/utf8.first", laid_unicode_utf8_first)], narrowed := true }
def FnExactEditsBetweenUptoSaid : Prop := fnExactEditsBetweenUptoRow.holds Tryd.pinned (OpenSpec.upto fnExactEditsBetweenSpec)

end Rows
end Go.Proofs.YtpblmoebembiaaaDoor
