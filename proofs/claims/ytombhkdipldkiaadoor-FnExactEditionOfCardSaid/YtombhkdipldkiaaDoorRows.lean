/-
  NARROWER THAN 'FOR EVERY INPUT', by the rows' own cells (each row's printed sentence says how): FnExactFirstShown: laid · FnExactValidFigure: laid · FnExactCountClasses: laid · FnExactEditionOf: laid · FnExactBrighterThan: laid · FnExactDateBy: laid · FnExactNearestEdition: laid · FnExactApplyEdits: laid · FnExactUndoEdits: laid · FnExactNewNames: laid · FnExactOldNames: laid · FnExactEditText: laid.
  DERIVED. THE GIVEN ROWS OF THIS SEAT. 12 by the template 'for every input the law returns true; each argument reads behind the call as it read before'; 0 by the template 'total and deterministic' (their statements: YtombhkdipldkiaaDoorTotals.lean).
  GIVEN WITH THE SEED: the statements are not yours to turn. If you find one false, say at which input.
  Laid BY PROGRAM, IN A SANDBOX (cutbox-rows.mjs): the forced cells as the released guide's own fill.sh prints them over the translation 37aa18fb7bf4c610… (all of the seat's roots in one cut). By AI agents, Wed Nov 11 2026. No macro, syntax, notation, axiom, sorry.
-/
import Derived.Test.YtombhkdipldkiaaDoorChecked
import GoSem.PinnedTables
import GoSem.Claim
import GoSem.ClaimJoined
import GoSem.ClaimMapViews
import Derived.JoinedTies
import Derived.KernelRfl
namespace Go.Proofs.YtombhkdipldkiaaDoor
/- THE CELL 'sum', in the pinned program and in every row, IS THE sha256 OF THE DUMP (.gsa) THAT YtombhkdipldkiaaDoorProg.lean LOADS. Nothing in Lean hashes anything: it is a label: what it is worth is what the hold of that sum in a sandbox is worth. -/
noncomputable def Tryd.pinned : Pinned := { name := "ytombhkdipldkiaadoor", sum := "37aa18fb7bf4c610f501f26a3a56be4dc30e931faffbe3cab2c2ac952bb7498d", checked := Tryd.checked }
namespace Rows
def none {H : Type} : Left H := { results := [], args := [] }

/- WHAT THE LISTED PACKAGE-LEVEL VARIABLES READ AS WHEN THE CALL BEGINS. Each datum BY PROGRAM (the guide's laid-datum.mjs) off the statement by which the dump's own 'gosem.cut.vars' lays the variable. In a bare row this is a premise. The card (YtombhkdipldkiaaDoorCards.lean) ties it to the program's text. -/
def laid_unicode_utf8_acceptRanges {H : Type} : DataW H := .agg [.agg [.lit (.int .u8 128), .lit (.int .u8 191)], .agg [.lit (.int .u8 160), .lit (.int .u8 191)], .agg [.lit (.int .u8 128), .lit (.int .u8 159)], .agg [.lit (.int .u8 144), .lit (.int .u8 191)], .agg [.lit (.int .u8 128), .lit (.int .u8 143)], .agg [.lit (.int .u8 0), .lit (.int .u8 0)], .agg [.lit (.int .u8 0), .lit (.int .u8 0)], .agg [.lit (.int .u8 0), .lit (.int .u8 0)], .agg [.lit (.int .u8 0), .lit (.int .u8 0)], .agg [.lit (.int .u8 0), .lit (.int .u8 0)], .agg [.lit (.int .u8 0), .lit (.int .u8 0)], .agg [.lit (.int .u8 0), .lit (.int .u8 0)], .agg [.lit (.int .u8 0), .lit (.int .u8 0)], .agg [.lit (.int .u8 0), .lit (.int .u8 0)], .agg [.lit (.int .u8 0), .lit (.int .u8 0)], .agg [.lit (.int .u8 0), .lit (.int .u8 0)]]
/-- One of Go's own tables, pinned by name: the form's constant. -/
def laid_unicode_utf8_first : DataW Unit := Go.Pinned.utf8First
def laid_math_bits_deBruijn32tab {H : Type} : DataW H := .agg [.lit (.int .u8 0), .lit (.int .u8 1), .lit (.int .u8 28), .lit (.int .u8 2), .lit (.int .u8 29), .lit (.int .u8 14), .lit (.int .u8 24), .lit (.int .u8 3), .lit (.int .u8 30), .lit (.int .u8 22), .lit (.int .u8 20), .lit (.int .u8 15), .lit (.int .u8 25), .lit (.int .u8 17), .lit (.int .u8 4), .lit (.int .u8 8), .lit (.int .u8 31), .lit (.int .u8 27), .lit (.int .u8 13), .lit (.int .u8 23), .lit (.int .u8 21), .lit (.int .u8 19), .lit (.int .u8 16), .lit (.int .u8 7), .lit (.int .u8 26), .lit (.int .u8 12), .lit (.int .u8 18), .lit (.int .u8 6), .lit (.int .u8 11), .lit (.int .u8 5), .lit (.int .u8 10), .lit (.int .u8 9)]
def laid_math_bits_deBruijn64tab {H : Type} : DataW H := .agg [.lit (.int .u8 0), .lit (.int .u8 1), .lit (.int .u8 56), .lit (.int .u8 2), .lit (.int .u8 57), .lit (.int .u8 49), .lit (.int .u8 28), .lit (.int .u8 3), .lit (.int .u8 61), .lit (.int .u8 58), .lit (.int .u8 42), .lit (.int .u8 50), .lit (.int .u8 38), .lit (.int .u8 29), .lit (.int .u8 17), .lit (.int .u8 4), .lit (.int .u8 62), .lit (.int .u8 47), .lit (.int .u8 59), .lit (.int .u8 36), .lit (.int .u8 45), .lit (.int .u8 43), .lit (.int .u8 51), .lit (.int .u8 22), .lit (.int .u8 53), .lit (.int .u8 39), .lit (.int .u8 33), .lit (.int .u8 30), .lit (.int .u8 24), .lit (.int .u8 18), .lit (.int .u8 12), .lit (.int .u8 5), .lit (.int .u8 63), .lit (.int .u8 55), .lit (.int .u8 48), .lit (.int .u8 27), .lit (.int .u8 60), .lit (.int .u8 41), .lit (.int .u8 37), .lit (.int .u8 16), .lit (.int .u8 46), .lit (.int .u8 35), .lit (.int .u8 44), .lit (.int .u8 21), .lit (.int .u8 52), .lit (.int .u8 32), .lit (.int .u8 23), .lit (.int .u8 11), .lit (.int .u8 54), .lit (.int .u8 26), .lit (.int .u8 40), .lit (.int .u8 15), .lit (.int .u8 34), .lit (.int .u8 20), .lit (.int .u8 31), .lit (.int .u8 10), .lit (.int .u8 25), .lit (.int .u8 14), .lit (.int .u8 19), .lit (.int .u8 9), .lit (.int .u8 13), .lit (.int .u8 8), .lit (.int .u8 7), .lit (.int .u8 6)]
def laid_internal_strconv_uint64pow10 {H : Type} : DataW H := .agg [.lit (.int .u64 1), .lit (.int .u64 10), .lit (.int .u64 100), .lit (.int .u64 1000), .lit (.int .u64 10000), .lit (.int .u64 100000), .lit (.int .u64 1000000), .lit (.int .u64 10000000), .lit (.int .u64 100000000), .lit (.int .u64 1000000000), .lit (.int .u64 10000000000), .lit (.int .u64 100000000000), .lit (.int .u64 1000000000000), .lit (.int .u64 10000000000000), .lit (.int .u64 100000000000000), .lit (.int .u64 1000000000000000), .lit (.int .u64 10000000000000000), .lit (.int .u64 100000000000000000), .lit (.int .u64 1000000000000000000), .lit (.int .u64 10000000000000000000)]

/-- 'laws.FnExactFirstShown': WHATEVER THE INPUT: true; the input reads as it did. -/
def fnExactFirstShownSpec : ChangeSpec := { name := "fnExactFirstShown", fn := fun _ => fun
  | [d1, d2] => { results := [.lit (.bool true)], args := [d1, d2] }
  | _ => none }
def fnExactFirstShownRow : OpenClaim := { program := "ytombhkdipldkiaadoor", sum := "37aa18fb7bf4c610f501f26a3a56be4dc30e931faffbe3cab2c2ac952bb7498d", func := "loop.example/g01055/laws.FnExactFirstShown", spec := "fnExactFirstShown", inPlace := ["internal/bytealg.IndexByteString", "internal/bytealg.IndexString"], named := ["unicode/utf8.first", "unicode/utf8.acceptRanges", "internal/bytealg.MaxLen"], apart := false, laid := [("unicode/utf8.acceptRanges", laid_unicode_utf8_acceptRanges), ("unicode/utf8.first", laid_unicode_utf8_first)] }
def FnExactFirstShownSaid : Prop := fnExactFirstShownRow.holds Tryd.pinned (OpenSpec.ofChange fnExactFirstShownSpec)

/-- ITS FALSE NEIGHBOUR: 'it returns false'. Refute it at one input. -/
def fnExactFirstShownWrong : ChangeSpec := { name := "fnExactFirstShown", fn := fun _ => fun
  | [d1, d2] => { results := [.lit (.bool false)], args := [d1, d2] }
  | _ => none }
def FnExactFirstShownWrongFalsely : Prop := fnExactFirstShownRow.holds Tryd.pinned (OpenSpec.ofChange fnExactFirstShownWrong)

/-- 'laws.FnExactValidFigure': WHATEVER THE INPUT: true; the input reads as it did. -/
def fnExactValidFigureSpec : ChangeSpec := { name := "fnExactValidFigure", fn := fun _ => fun
  | [d1, d2] => { results := [.lit (.bool true)], args := [d1, d2] }
  | _ => none }
def fnExactValidFigureRow : OpenClaim := { program := "ytombhkdipldkiaadoor", sum := "37aa18fb7bf4c610f501f26a3a56be4dc30e931faffbe3cab2c2ac952bb7498d", func := "loop.example/g01055/laws.FnExactValidFigure", spec := "fnExactValidFigure", inPlace := ["internal/bytealg.IndexByteString", "internal/bytealg.IndexString"], unfollowed := true, recurses := true, named := ["unicode/utf8.first", "unicode/utf8.acceptRanges", "internal/bytealg.MaxLen"], apart := false, laid := [("unicode/utf8.acceptRanges", laid_unicode_utf8_acceptRanges), ("unicode/utf8.first", laid_unicode_utf8_first)] }
def FnExactValidFigureSaid : Prop := fnExactValidFigureRow.holds Tryd.pinned (OpenSpec.ofChange fnExactValidFigureSpec)

/-- ITS FALSE NEIGHBOUR: 'it returns false'. Refute it at one input. -/
def fnExactValidFigureWrong : ChangeSpec := { name := "fnExactValidFigure", fn := fun _ => fun
  | [d1, d2] => { results := [.lit (.bool false)], args := [d1, d2] }
  | _ => none }
def FnExactValidFigureWrongFalsely : Prop := fnExactValidFigureRow.holds Tryd.pinned (OpenSpec.ofChange fnExactValidFigureWrong)

/-- 'laws.FnExactCountClasses': WHATEVER THE INPUT: true; the input reads as it did. -/
def fnExactCountClassesSpec : ChangeSpec := { name := "fnExactCountClasses", fn := fun _ => fun
  | [d] => { results := [.lit (.bool true)], args := [d] }
  | _ => none }
def fnExactCountClassesRow : OpenClaim := { program := "ytombhkdipldkiaadoor", sum := "37aa18fb7bf4c610f501f26a3a56be4dc30e931faffbe3cab2c2ac952bb7498d", func := "loop.example/g01055/laws.FnExactCountClasses", spec := "fnExactCountClasses", inPlace := ["internal/bytealg.IndexByteString", "internal/bytealg.IndexString"], unfollowed := true, recurses := true, named := ["unicode/utf8.first", "unicode/utf8.acceptRanges", "internal/bytealg.MaxLen"], apart := false, laid := [("unicode/utf8.acceptRanges", laid_unicode_utf8_acceptRanges), ("unicode/utf8.first", laid_unicode_utf8_first)] }
def FnExactCountClassesSaid : Prop := fnExactCountClassesRow.holds Tryd.pinned (OpenSpec.ofChange fnExactCountClassesSpec)

/-- ITS FALSE NEIGHBOUR: 'it returns false'. Refute it at one input. -/
def fnExactCountClassesWrong : ChangeSpec := { name := "fnExactCountClasses", fn := fun _ => fun
  | [d] => { results := [.lit (.bool false)], args := [d] }
  | _ => none }
def FnExactCountClassesWrongFalsely : Prop := fnExactCountClassesRow.holds Tryd.pinned (OpenSpec.ofChange fnExactCountClassesWrong)

/-- 'laws.FnExactEditionOf': WHATEVER THE INPUT: true; the input reads as it did. -/
def fnExactEditionOfSpec : ChangeSpec := { name := "fnExactEditionOf", fn := fun _ => fun
  | [d1, d2] => { results := [.lit (.bool true)], args := [d1, d2] }
  | _ => none }
def fnExactEditionOfRow : OpenClaim := { program := "ytombhkdipldkiaadoor", sum := "37aa18fb7bf4c610f501f26a3a56be4dc30e931faffbe3cab2c2ac952bb7498d", func := "loop.example/g01055/laws.FnExactEditionOf", spec := "fnExactEditionOf", inPlace := ["internal/bytealg.IndexByteString", "internal/bytealg.IndexString"], unfollowed := true, recurses := true, named := ["unicode/utf8.first", "unicode/utf8.acceptRanges", "internal/bytealg.MaxLen"], apart := false, laid := [("unicode/utf8.acceptRanges", laid_unicode_utf8_acceptRanges), ("unicode/utf8.first", laid_unicode_utf8_first)] }
def FnExactEditionOfSaid : Prop := fnExactEditionOfRow.holds Tryd.pinned (OpenSpec.ofChange fnExactEditionOfSpec)

/-- ITS FALSE NEIGHBOUR: 'it returns false'. Refute it at one input. -/
def fnExactEditionOfWrong : ChangeSpec := { name := "fnExactEditionOf", fn := fun _ => fun
  | [d1, d2] => { results := [.lit (.bool false)], args := [d1, d2] }
  | _ => none }
def FnExactEditionOfWrongFalsely : Prop := fnExactEditionOfRow.holds Tryd.pinned (OpenSpec.ofChange fnExactEditionOfWrong)

/-- 'laws.FnExactBrighterThan': WHATEVER THE INPUT: true; the input reads as it did. -/
def fnExactBrighterThanSpec : ChangeSpec := { name := "fnExactBrighterThan", fn := fun _ => fun
  | [d1, d2] => { results := [.lit (.bool true)], args := [d1, d2] }
  | _ => none }
def fnExactBrighterThanRow : OpenClaim := { program := "ytombhkdipldkiaadoor", sum := "37aa18fb7bf4c610f501f26a3a56be4dc30e931faffbe3cab2c2ac952bb7498d", func := "loop.example/g01055/laws.FnExactBrighterThan", spec := "fnExactBrighterThan", inPlace := ["internal/bytealg.IndexByteString", "internal/bytealg.IndexString"], unfollowed := true, recurses := true, named := ["unicode/utf8.first", "unicode/utf8.acceptRanges", "internal/bytealg.MaxLen"], apart := false, laid := [("unicode/utf8.acceptRanges", laid_unicode_utf8_acceptRanges), ("unicode/utf8.first", laid_unicode_utf8_first)] }
def FnExactBrighterThanSaid : Prop := fnExactBrighterThanRow.holds Tryd.pinned (OpenSpec.ofChange fnExactBrighterThanSpec)

/-- ITS FALSE NEIGHBOUR: 'it returns false'. Refute it at one input. -/
def fnExactBrighterThanWrong : ChangeSpec := { name := "fnExactBrighterThan", fn := fun _ => fun
  | [d1, d2] => { results := [.lit (.bool false)], args := [d1, d2] }
  | _ => none }
def FnExactBrighterThanWrongFalsely : Prop := fnExactBrighterThanRow.holds Tryd.pinned (OpenSpec.ofChange fnExactBrighterThanWrong)

/-- 'laws.FnExactDateBy': WHATEVER THE INPUT: true; the input reads as it did. -/
def fnExactDateBySpec : ChangeSpec := { name := "fnExactDateBy", fn := fun _ => fun
  | [d1, d2] => { results := [.lit (.bool true)], args := [d1, d2] }
  | _ => none }
def fnExactDateByRow : OpenClaim := { program := "ytombhkdipldkiaadoor", sum := "37aa18fb7bf4c610f501f26a3a56be4dc30e931faffbe3cab2c2ac952bb7498d", func := "loop.example/g01055/laws.FnExactDateBy", spec := "fnExactDateBy", inPlace := ["internal/bytealg.IndexByteString", "internal/bytealg.IndexString"], unfollowed := true, recurses := true, named := ["unicode/utf8.first", "unicode/utf8.acceptRanges", "internal/bytealg.MaxLen"], apart := false, laid := [("unicode/utf8.acceptRanges", laid_unicode_utf8_acceptRanges), ("unicode/utf8.first", laid_unicode_utf8_first)] }
def FnExactDateBySaid : Prop := fnExactDateByRow.holds Tryd.pinned (OpenSpec.ofChange fnExactDateBySpec)

/-- ITS FALSE NEIGHBOUR: 'it returns false'. Refute it at one input. -/
def fnExactDateByWrong : ChangeSpec := { name := "fnExactDateBy", fn := fun _ => fun
  | [d1, d2] => { results := [.lit (.bool false)], args := [d1, d2] }
  | _ => none }
def FnExactDateByWrongFalsely : Prop := fnExactDateByRow.holds Tryd.pinned (OpenSpec.ofChange fnExactDateByWrong)

/-- 'laws.FnExactNearestEdition': WHATEVER THE INPUT: true; the input reads as it did. -/
def fnExactNearestEditionSpec : ChangeSpec := { name := "fnExactNearestEdition", fn := fun _ => fun
  | [d1, d2] => { results := [.lit (.bool true)], args := [d1, d2] }
  | _ => none }
def fnExactNearestEditionRow : OpenClaim := { program := "ytombhkdipldkiaadoor", sum := "37aa18fb7bf4c610f501f26a3a56be4dc30e931faffbe3cab2c2ac952bb7498d", func := "loop.example/g01055/laws.FnExactNearestEdition", spec := "fnExactNearestEdition", inPlace := ["internal/bytealg.IndexByteString", "internal/bytealg.IndexString"], named := ["unicode/utf8.first", "unicode/utf8.acceptRanges", "internal/bytealg.MaxLen"], apart := false, laid := [("unicode/utf8.acceptRanges", laid_unicode_utf8_acceptRanges), ("unicode/utf8.first", laid_unicode_utf8_first)] }
def FnExactNearestEditionSaid : Prop := fnExactNearestEditionRow.holds Tryd.pinned (OpenSpec.ofChange fnExactNearestEditionSpec)

/-- ITS FALSE NEIGHBOUR: 'it returns false'. Refute it at one input. -/
def fnExactNearestEditionWrong : ChangeSpec := { name := "fnExactNearestEdition", fn := fun _ => fun
  | [d1, d2] => { results := [.lit (.bool false)], args := [d1, d2] }
  | _ => none }
def FnExactNearestEditionWrongFalsely : Prop := fnExactNearestEditionRow.holds Tryd.pinned (OpenSpec.ofChange fnExactNearestEditionWrong)

/-- 'laws.FnExactApplyEdits': WHATEVER THE INPUT: true; the input reads as it did. -/
def fnExactApplyEditsSpec : ChangeSpec := { name := "fnExactApplyEdits", fn := fun _ => fun
  | [d1, d2] => { results := [.lit (.bool true)], args := [d1, d2] }
  | _ => none }
def fnExactApplyEditsRow : OpenClaim := { program := "ytombhkdipldkiaadoor", sum := "37aa18fb7bf4c610f501f26a3a56be4dc30e931faffbe3cab2c2ac952bb7498d", func := "loop.example/g01055/laws.FnExactApplyEdits", spec := "fnExactApplyEdits", inPlace := ["internal/bytealg.IndexByteString", "internal/bytealg.IndexString"], unfollowed := true, recurses := true, named := ["unicode/utf8.first", "unicode/utf8.acceptRanges", "internal/bytealg.MaxLen"], apart := false, laid := [("unicode/utf8.acceptRanges", laid_unicode_utf8_acceptRanges), ("unicode/utf8.first", laid_unicode_utf8_first)] }
def FnExactApplyEditsSaid : Prop := fnExactApplyEditsRow.holds Tryd.pinned (OpenSpec.ofChange fnExactApplyEditsSpec)

/-- ITS FALSE NEIGHBOUR: 'it returns false'. Refute it at one input. -/
def fnExactApplyEditsWrong : ChangeSpec := { name := "fnExactApplyEdits", fn := fun _ => fun
  | [d1, d2] => { results := [.lit (.bool false)], args := [d1, d2] }
  | _ => none }
def FnExactApplyEditsWrongFalsely : Prop := fnExactApplyEditsRow.holds Tryd.pinned (OpenSpec.ofChange fnExactApplyEditsWrong)

/-- 'laws.FnExactUndoEdits': WHATEVER THE INPUT: true; the input reads as it did. -/
def fnExactUndoEditsSpec : ChangeSpec := { name := "fnExactUndoEdits", fn := fun _ => fun
  | [d1, d2] => { results := [.lit (.bool true)], args := [d1, d2] }
  | _ => none }
def fnExactUndoEditsRow : OpenClaim := { program := "ytombhkdipldkiaadoor", sum := "37aa18fb7bf4c610f501f26a3a56be4dc30e931faffbe3cab2c2ac952bb7498d", func := "loop.example/g01055/laws.FnExactUndoEdits", spec := "fnExactUndoEdits", inPlace := ["internal/bytealg.IndexByteString", "internal/bytealg.IndexString"], unfollowed := true, recurses := true, named := ["unicode/utf8.first", "unicode/utf8.acceptRanges", "internal/bytealg.MaxLen"], apart := false, laid := [("unicode/utf8.acceptRanges", laid_unicode_utf8_acceptRanges), ("unicode/utf8.first", laid_unicode_utf8_first)] }
def FnExactUndoEditsSaid : Prop := fnExactUndoEditsRow.holds Tryd.pinned (OpenSpec.ofChange fnExactUndoEditsSpec)

/-- ITS FALSE NEIGHBOUR: 'it returns false'. Refute it at one input. -/
def fnExactUndoEditsWrong : ChangeSpec := { name := "fnExactUndoEdits", fn := fun _ => fun
  | [d1, d2] => { results := [.lit (.bool false)], args := [d1, d2] }
  | _ => none }
def FnExactUndoEditsWrongFalsely : Prop := fnExactUndoEditsRow.holds Tryd.pinned (OpenSpec.ofChange fnExactUndoEditsWrong)

/-- 'laws.FnExactNewNames': WHATEVER THE INPUT: true; the input reads as it did. -/
def fnExactNewNamesSpec : ChangeSpec := { name := "fnExactNewNames", fn := fun _ => fun
  | [d1, d2] => { results := [.lit (.bool true)], args := [d1, d2] }
  | _ => none }
def fnExactNewNamesRow : OpenClaim := { program := "ytombhkdipldkiaadoor", sum := "37aa18fb7bf4c610f501f26a3a56be4dc30e931faffbe3cab2c2ac952bb7498d", func := "loop.example/g01055/laws.FnExactNewNames", spec := "fnExactNewNames", inPlace := ["internal/bytealg.IndexByteString", "internal/bytealg.IndexString"], named := ["unicode/utf8.first", "unicode/utf8.acceptRanges", "internal/bytealg.MaxLen"], apart := false, laid := [("unicode/utf8.acceptRanges", laid_unicode_utf8_acceptRanges), ("unicode/utf8.first", laid_unicode_utf8_first)] }
def FnExactNewNamesSaid : Prop := fnExactNewNamesRow.holds Tryd.pinned (OpenSpec.ofChange fnExactNewNamesSpec)

/-- ITS FALSE NEIGHBOUR: 'it returns false'. Refute it at one input. -/
def fnExactNewNamesWrong : ChangeSpec := { name := "fnExactNewNames", fn := fun _ => fun
  | [d1, d2] => { results := [.lit (.bool false)], args := [d1, d2] }
  | _ => none }
def FnExactNewNamesWrongFalsely : Prop := fnExactNewNamesRow.holds Tryd.pinned (OpenSpec.ofChange fnExactNewNamesWrong)

/-- 'laws.FnExactOldNames': WHATEVER THE INPUT: true; the input reads as it did. -/
def fnExactOldNamesSpec : ChangeSpec := { name := "fnExactOldNames", fn := fun _ => fun
  | [d1, d2] => { results := [.lit (.bool true)], args := [d1, d2] }
  | _ => none }
def fnExactOldNamesRow : OpenClaim := { program := "ytombhkdipldkiaadoor", sum := "37aa18fb7bf4c610f501f26a3a56be4dc30e931faffbe3cab2c2ac952bb7498d", func := "loop.example/g01055/laws.FnExactOldNames", spec := "fnExactOldNames", inPlace := ["internal/bytealg.IndexByteString", "internal/bytealg.IndexString"], named := ["unicode/utf8.first", "unicode/utf8.acceptRanges", "internal/bytealg.MaxLen"], apart := false, laid := [("unicode/utf8.acceptRanges", laid_unicode_utf8_acceptRanges), ("unicode/utf8.first", laid_unicode_utf8_first)] }
def FnExactOldNamesSaid : Prop := fnExactOldNamesRow.holds Tryd.pinned (OpenSpec.ofChange fnExactOldNamesSpec)

/-- ITS FALSE NEIGHBOUR: 'it returns false'. Refute it at one input. -/
def fnExactOldNamesWrong : ChangeSpec := { name := "fnExactOldNames", fn := fun _ => fun
  | [d1, d2] => { results := [.lit (.bool false)], args := [d1, d2] }
  | _ => none }
def FnExactOldNamesWrongFalsely : Prop := fnExactOldNamesRow.holds Tryd.pinned (OpenSpec.ofChange fnExactOldNamesWrong)

/-- 'laws.FnExactEditText': WHATEVER THE INPUT: true; the input reads as it did. -/
def fnExactEditTextSpec : ChangeSpec := { name := "fnExactEditText", fn := fun _ => fun
  | [d] => { results := [.lit (.bool true)], args := [d] }
  | _ => none }
def fnExactEditTextRow : OpenClaim := { program := "ytombhkdipldkiaadoor", sum := "37aa18fb7bf4c610f501f26a3a56be4dc30e931faffbe3cab2c2ac952bb7498d", func := "loop.example/g01055/laws.FnExactEditText", spec := "fnExactEditText", inPlace := ["internal/bytealg.IndexByteString", "internal/bytealg.IndexString"], named := ["unicode/utf8.first", "unicode/utf8.acceptRanges", "internal/strconv.uint64pow10", "math/bits.deBruijn32tab", "math/bits.deBruijn64tab", "internal/bytealg.MaxLen"], apart := false, laid := [("math/bits.deBruijn32tab", laid_math_bits_deBruijn32tab), ("math/bits.deBruijn64tab", laid_math_bits_deBruijn64tab), ("internal/strconv.uint64pow10", laid_internal_strconv_uint64pow10), ("unicode/utf8.acceptRanges", laid_unicode_utf8_acceptRanges), ("unicode/utf8.first", laid_unicode_utf8_first)] }
def FnExactEditTextSaid : Prop := fnExactEditTextRow.holds Tryd.pinned (OpenSpec.ofChange fnExactEditTextSpec)

/-- ITS FALSE NEIGHBOUR: 'it returns false'. Refute it at one input. -/
def fnExactEditTextWrong : ChangeSpec := { name := "fnExactEditText", fn := fun _ => fun
  | [d] => { results := [.lit (.bool false)], args := [d] }
  | _ => none }
def FnExactEditTextWrongFalsely : Prop := fnExactEditTextRow.holds Tryd.pinned (OpenSpec.ofChange fnExactEditTextWrong)

/- THE SECOND FORM. 'bulk': how many values and letters a reading holds, each counted each time it is reached (what is shared counts as often as it is met; a slice's spare places count too). A statement '..UptoSaid' is the law's where the arguments, and the package variables that the reading takes, are together of bulk at most 1048576: NARROWER than '..Said'. Prove '..Said' where nothing that the law and all that it calls make is longer than what came in: it says more and counts as full. Else prove '..UptoSaid'. A law counts once. -/
mutual
def uptoBulk {H : Type} : DataW H → Nat
  | .lit (.string bytes) => bytes.length + 1
  | .lit _ => 1
  | .nil => 1
  | .ptr d => uptoBulk d + 1
  | .slice elems spare => uptoBulkAll elems + uptoBulkAll spare + 1
  | .agg parts => uptoBulkAll parts + 1
  | .iface _ d => uptoBulk d + 1
  | .map entries => uptoBulkEntries entries + 1
  | .held _ => 1
def uptoBulkAll {H : Type} : List (DataW H) → Nat
  | [] => 0
  | d :: r => uptoBulk d + uptoBulkAll r
def uptoBulkEntries {H : Type} : List (Lit × DataW H) → Nat
  | [] => 0
  | x :: r => uptoBulkEntry x + uptoBulkEntries r
def uptoBulkEntry {H : Type} : Lit × DataW H → Nat
  | (.string bytes, d) => bytes.length + uptoBulk d + 1
  | (_, d) => uptoBulk d + 1
 end
def uptoSmall : (H : Type) → List (DataW H) → Bool := fun _ ds => decide (uptoBulkAll ds ≤ 1048576)
def OpenSpec.upto (s : _root_.Go.ChangeSpec) : _root_.Go.OpenSpec := { _root_.Go.OpenSpec.ofChange s with cond := some uptoSmall }

/-- 'laws.FnExactFirstShown', WHERE WHAT IT READS IS OF BULK AT MOST 1048576: true; the input reads as it did. -/
def fnExactFirstShownUptoRow : OpenClaim := { program := "ytombhkdipldkiaadoor", sum := "37aa18fb7bf4c610f501f26a3a56be4dc30e931faffbe3cab2c2ac952bb7498d", func := "loop.example/g01055/laws.FnExactFirstShown", spec := "fnExactFirstShown", inPlace := ["internal/bytealg.IndexByteString", "internal/bytealg.IndexString"], named := ["unicode/utf8.first", "unicode/utf8.acceptRanges", "internal/bytealg.MaxLen"], apart := false, laid := [("unicode/utf8.acceptRanges", laid_unicode_utf8_acceptRanges), ("unicode/utf8.first", laid_unicode_utf8_first)], narrowed := true }
def FnExactFirstShownUptoSaid : Prop := fnExactFirstShownUptoRow.holds Tryd.pinned (OpenSpec.upto fnExactFirstShownSpec)

/-- 'laws.FnExactValidFigure', WHERE WHAT IT READS IS OF BULK AT MOST 1048576: true; the input reads as it did. -/
def fnExactValidFigureUptoRow : OpenClaim := { program := "ytombhkdipldkiaadoor", sum := "37aa18fb7bf4c610f501f26a3a56be4dc30e931faffbe3cab2c2ac952bb7498d", func := "loop.example/g01055/laws.FnExactValidFigure", spec := "fnExactValidFigure", inPlace := ["internal/bytealg.IndexByteString", "internal/bytealg.IndexString"], unfollowed := true, recurses := true, named := ["unicode/utf8.first", "unicode/utf8.acceptRanges", "internal/bytealg.MaxLen"], apart := false, laid := [("unicode/utf8.acceptRanges", laid_unicode_utf8_acceptRanges), ("unicode/utf8.first", laid_unicode_utf8_first)], narrowed := true }
def FnExactValidFigureUptoSaid : Prop := fnExactValidFigureUptoRow.holds Tryd.pinned (OpenSpec.upto fnExactValidFigureSpec)

/-- 'laws.FnExactCountClasses', WHERE WHAT IT READS IS OF BULK AT MOST 1048576: true; the input reads as it did. -/
def fnExactCountClassesUptoRow : OpenClaim := { program := "ytombhkdipldkiaadoor", sum := "37aa18fb7bf4c610f501f26a3a56be4dc30e931faffbe3cab2c2ac952bb7498d", func := "loop.example/g01055/laws.FnExactCountClasses", spec := "fnExactCountClasses", inPlace := ["internal/bytealg.IndexByteString", "internal/bytealg.IndexString"], unfollowed := true, recurses := true, named := ["unicode/utf8.first", "unicode/utf8.acceptRanges", "internal/bytealg.MaxLen"], apart := false, laid := [("unicode/utf8.acceptRanges", laid_unicode_utf8_acceptRanges), ("unicode/utf8.first", laid_unicode_utf8_first)], narrowed := true }
def FnExactCountClassesUptoSaid : Prop := fnExactCountClassesUptoRow.holds Tryd.pinned (OpenSpec.upto fnExactCountClassesSpec)

/-- 'laws.FnExactEditionOf', WHERE WHAT IT READS IS OF BULK AT MOST 1048576: true; the input reads as it did. -/
def fnExactEditionOfUptoRow : OpenClaim := { program := "ytombhkdipldkiaadoor", sum := "37aa18fb7bf4c610f501f26a3a56be4dc30e931faffbe3cab2c2ac952bb7498d", func := "loop.example/g01055/laws.FnExactEditionOf", spec := "fnExactEditionOf", inPlace := ["internal/bytealg.IndexByteString", "internal/bytealg.IndexString"], unfollowed := true, recurses := true, named := ["unicode/utf8.first", "unicode/utf8.acceptRanges", "internal/bytealg.MaxLen"], apart := false, laid := [("unicode/utf8.acceptRanges", laid_unicode_utf8_acceptRanges), ("unicode/utf8.first", laid_unicode_utf8_first)], narrowed := true }
def FnExactEditionOfUptoSaid : Prop := fnExactEditionOfUptoRow.holds Tryd.pinned (OpenSpec.upto fnExactEditionOfSpec)

/-- 'laws.FnExactBrighterThan', WHERE WHAT IT READS IS OF BULK AT MOST 1048576: true; the input reads as it did. -/
def fnExactBrighterThanUptoRow : OpenClaim := { program := "ytombhkdipldkiaadoor", sum := "37aa18fb7bf4c610f501f26a3a56be4dc30e931faffbe3cab2c2ac952bb7498d", func := "loop.example/g01055/laws.FnExactBrighterThan", spec := "fnExactBrighterThan", inPlace := ["internal/bytealg.IndexByteString", "internal/bytealg.IndexString"], unfollowed := true, recurses := true, named := ["unicode/utf8.first", "unicode/utf8.acceptRanges", "internal/bytealg.MaxLen"], apart := false, laid := [("unicode/utf8.acceptRanges", laid_unicode_utf8_acceptRanges), ("unicode/utf8.first", laid_unicode_utf8_first)], narrowed := true }
def FnExactBrighterThanUptoSaid : Prop := fnExactBrighterThanUptoRow.holds Tryd.pinned (OpenSpec.upto fnExactBrighterThanSpec)

/-- 'laws.FnExactDateBy', WHERE WHAT IT READS IS OF BULK AT MOST 1048576: true; the input reads as it did. -/
def fnExactDateByUptoRow : OpenClaim := { program := "ytombhkdipldkiaadoor", sum := "37aa18fb7bf4c610f501f26a3a56be4dc30e931faffbe3cab2c2ac952bb7498d", func := "loop.example/g01055/laws.FnExactDateBy", spec := "fnExactDateBy", inPlace := ["internal/bytealg.IndexByteString", "internal/bytealg.IndexString"], unfollowed := true, recurses := true, named := ["unicode/utf8.first", "unicode/utf8.acceptRanges", "internal/bytealg.MaxLen"], apart := false, laid := [("unicode/utf8.acceptRanges", laid_unicode_utf8_acceptRanges), ("unicode/utf8.first", laid_unicode_utf8_first)], narrowed := true }
def FnExactDateByUptoSaid : Prop := fnExactDateByUptoRow.holds Tryd.pinned (OpenSpec.upto fnExactDateBySpec)

/-- 'laws.FnExactNearestEdition', WHERE WHAT IT READS IS OF BULK AT MOST 1048576: true; the input reads as it did. -/
def fnExactNearestEditionUptoRow : OpenClaim := { program := "ytombhkdipldkiaadoor", sum := "37aa18fb7bf4c610f501f26a3a56be4dc30e931faffbe3cab2c2ac952bb7498d", func := "loop.example/g01055/laws.FnExactNearestEdition", spec := "fnExactNearestEdition", inPlace := ["internal/bytealg.IndexByteString", "internal/bytealg.IndexString"], named := ["unicode/utf8.first", "unicode/utf8.acceptRanges", "internal/bytealg.MaxLen"], apart := false, laid := [("unicode/utf8.acceptRanges", laid_unicode_utf8_acceptRanges), ("unicode/utf8.first", laid_unicode_utf8_first)], narrowed := true }
def FnExactNearestEditionUptoSaid : Prop := fnExactNearestEditionUptoRow.holds Tryd.pinned (OpenSpec.upto fnExactNearestEditionSpec)

/-- 'laws.FnExactApplyEdits', WHERE WHAT IT READS IS OF BULK AT MOST 1048576: true; the input reads as it did. -/
def fnExactApplyEditsUptoRow : OpenClaim := { program := "ytombhkdipldkiaadoor", sum := "37aa18fb7bf4c610f501f26a3a56be4dc30e931faffbe3cab2c2ac952bb7498d", func := "loop.example/g01055/laws.FnExactApplyEdits", spec := "fnExactApplyEdits", inPlace := ["internal/bytealg.IndexByteString", "internal/bytealg.IndexString"], unfollowed := true, recurses := true, named := ["unicode/utf8.first", "unicode/utf8.acceptRanges", "internal/bytealg.MaxLen"], apart := false, laid := [("unicode/utf8.acceptRanges", laid_unicode_utf8_acceptRanges), ("unicode/utf8.first", laid_unicode_utf8_first)], narrowed := true }
def FnExactApplyEditsUptoSaid : Prop := fnExactApplyEditsUptoRow.holds Tryd.pinned (OpenSpec.upto fnExactApplyEditsSpec)

/-- 'laws.FnExactUndoEdits', WHERE WHAT IT READS IS OF BULK AT MOST 1048576: true; the input reads as it did. -/
def fnExactUndoEditsUptoRow : OpenClaim := { program := "ytombhkdipldkiaadoor", sum := "37aa18fb7bf4c610f501f26a3a56be4dc30e931faffbe3cab2c2ac952bb7498d", func := "loop.example/g01055/laws.FnExactUndoEdits", spec := "fnExactUndoEdits", inPlace := ["internal/bytealg.IndexByteString", "internal/bytealg.IndexString"], unfollowed := true, recurses := true, named := ["unicode/utf8.first", "unicode/utf8.acceptRanges", "internal/bytealg.MaxLen"], apart := false, laid := [("unicode/utf8.acceptRanges", laid_unicode_utf8_acceptRanges), ("unicode/utf8.first", laid_unicode_utf8_first)], narrowed := true }
def FnExactUndoEditsUptoSaid : Prop := fnExactUndoEditsUptoRow.holds Tryd.pinned (OpenSpec.upto fnExactUndoEditsSpec)

/-- 'laws.FnExactNewNames', WHERE WHAT IT READS IS OF BULK AT MOST 1048576: true; the input reads as it did. -/
def fnExactNewNamesUptoRow : OpenClaim := { program := "ytombhkdipldkiaadoor", sum := "37aa18fb7bf4c610f501f26a3a56be4dc30e931faffbe3cab2c2ac952bb7498d", func := "loop.example/g01055/laws.FnExactNewNames", spec := "fnExactNewNames", inPlace := ["internal/bytealg.IndexByteString", "internal/bytealg.IndexString"], named := ["unicode/utf8.first", "unicode/utf8.acceptRanges", "internal/bytealg.MaxLen"], apart := false, laid := [("unicode/utf8.acceptRanges", laid_unicode_utf8_acceptRanges), ("unicode/utf8.first", laid_unicode_utf8_first)], narrowed := true }
def FnExactNewNamesUptoSaid : Prop := fnExactNewNamesUptoRow.holds Tryd.pinned (OpenSpec.upto fnExactNewNamesSpec)

/-- 'laws.FnExactOldNames', WHERE WHAT IT READS IS OF BULK AT MOST 1048576: true; the input reads as it did. -/
def fnExactOldNamesUptoRow : OpenClaim := { program := "ytombhkdipldkiaadoor", sum := "37aa18fb7bf4c610f501f26a3a56be4dc30e931faffbe3cab2c2ac952bb7498d", func := "loop.example/g01055/laws.FnExactOldNames", spec := "fnExactOldNames", inPlace := ["internal/bytealg.IndexByteString", "internal/bytealg.IndexString"], named := ["unicode/utf8.first", "unicode/utf8.acceptRanges", "internal/bytealg.MaxLen"], apart := false, laid := [("unicode/utf8.acceptRanges", laid_unicode_utf8_acceptRanges), ("unicode/utf8.first", laid_unicode_utf8_first)], narrowed := true }
def FnExactOldNamesUptoSaid : Prop := fnExactOldNamesUptoRow.holds Tryd.pinned (OpenSpec.upto fnExactOldNamesSpec)

/-- 'laws.FnExactEditText', WHERE WHAT IT READS IS OF BULK AT MOST 1048576: true; the input reads as it did. -/
def fnExactEditTextUptoRow : OpenClaim := { program := "ytombhkdipldkiaadoor", sum := "37aa18fb7bf4c610f501f26a3a56be4dc30e931faffbe3cab2c2ac952bb7498d", func := "loop.example/g01055/laws.FnExactEditText", spec := "fnExactEditText", inPlace := ["internal/bytealg.IndexByteString", "internal/bytealg.IndexString"], named := ["unicode/utf8.first", "unicode/utf8.acceptRanges", "internal/strconv.uint64pow10", "math/bits.deBruijn32tab", "math/bits.deBruijn64tab", "internal/bytealg.MaxLen"], apart := false, laid := [("math/bits.deBruijn32tab", laid_math_bits_deBruijn32tab), ("math/bits.deBruijn64tab", laid_math_bits_deBruijn64tab), ("internal/strconv.uint64pow10", laid_internal_strconv_uint64pow10), ("unicode/utf8.acceptRanges", laid_unicode_utf8_acceptRanges), ("unicode/utf8.first", laid_unicode_utf8_first)], narrowed := true }
def FnExactEditTextUptoSaid : Prop := fnExactEditTextUptoRow.holds Tryd.pinned (OpenSpec.upto fnExactEditTextSpec)

end Rows
end Go.Proofs.YtombhkdipldkiaaDoor
