/-
  NARROWER THAN 'FOR EVERY INPUT', by the rows' own cells (each row's printed sentence says how): FnExactValidCatalogue: laid · FnExactFigureWithout: laid · FnExactFigureText: laid · FnExactStarText: laid · FnExactFaintestOf: laid · FnExactIsOnePiece: laid · FnExactStarsOfFigure: laid · FnExactOneStroke: laid · FnExactEndsOfFigure: laid · FnMerges: laid · FnDates: laid · FnExactShortEdits: laid.
  DERIVED. THE GIVEN ROWS OF THIS SEAT. 12 by the template 'for every input the law returns true; each argument reads behind the call as it read before'; 0 by the template 'total and deterministic' (their statements: YtgeeojchgfomjaaDoorTotals.lean).
  GIVEN WITH THE SEED: the statements are not yours to turn. If you find one false, say at which input.
  Laid BY PROGRAM, IN A SANDBOX (cutbox-rows.mjs): the forced cells as the released guide's own fill.sh prints them over the translation a08c684fc2642df1… (all of the seat's roots in one cut). By AI agents, Wed Nov 11 2026. No macro, syntax, notation, axiom, sorry.
-/
import Derived.Test.YtgeeojchgfomjaaDoorChecked
import GoSem.PinnedTables
import GoSem.Claim
import GoSem.ClaimJoined
import GoSem.ClaimMapViews
import Derived.JoinedTies
import Derived.KernelRfl
namespace Go.Proofs.YtgeeojchgfomjaaDoor
/- THE CELL 'sum', in the pinned program and in every row, IS THE sha256 OF THE DUMP (.gsa) THAT YtgeeojchgfomjaaDoorProg.lean LOADS. Nothing in Lean hashes anything: it is a label: what it is worth is what the hold of that sum in a sandbox is worth. -/
noncomputable def Tryd.pinned : Pinned := { name := "ytgeeojchgfomjaadoor", sum := "a08c684fc2642df1db709cac4454e0e762657b9b1da8c47aa1616aa6e0bb9cfe", checked := Tryd.checked }
namespace Rows
def none {H : Type} : Left H := { results := [], args := [] }

/- WHAT THE LISTED PACKAGE-LEVEL VARIABLES READ AS WHEN THE CALL BEGINS. Each datum BY PROGRAM (the guide's laid-datum.mjs) off the statement by which the dump's own 'gosem.cut.vars' lays the variable. In a bare row this is a premise. The card (YtgeeojchgfomjaaDoorCards.lean) ties it to the program's text. -/
def laid_unicode_utf8_acceptRanges {H : Type} : DataW H := .agg [.agg [.lit (.int .u8 128), .lit (.int .u8 191)], .agg [.lit (.int .u8 160), .lit (.int .u8 191)], .agg [.lit (.int .u8 128), .lit (.int .u8 159)], .agg [.lit (.int .u8 144), .lit (.int .u8 191)], .agg [.lit (.int .u8 128), .lit (.int .u8 143)], .agg [.lit (.int .u8 0), .lit (.int .u8 0)], .agg [.lit (.int .u8 0), .lit (.int .u8 0)], .agg [.lit (.int .u8 0), .lit (.int .u8 0)], .agg [.lit (.int .u8 0), .lit (.int .u8 0)], .agg [.lit (.int .u8 0), .lit (.int .u8 0)], .agg [.lit (.int .u8 0), .lit (.int .u8 0)], .agg [.lit (.int .u8 0), .lit (.int .u8 0)], .agg [.lit (.int .u8 0), .lit (.int .u8 0)], .agg [.lit (.int .u8 0), .lit (.int .u8 0)], .agg [.lit (.int .u8 0), .lit (.int .u8 0)], .agg [.lit (.int .u8 0), .lit (.int .u8 0)]]
/-- One of Go's own tables, pinned by name: the form's constant. -/
def laid_unicode_utf8_first : DataW Unit := Go.Pinned.utf8First
def laid_math_bits_deBruijn32tab {H : Type} : DataW H := .agg [.lit (.int .u8 0), .lit (.int .u8 1), .lit (.int .u8 28), .lit (.int .u8 2), .lit (.int .u8 29), .lit (.int .u8 14), .lit (.int .u8 24), .lit (.int .u8 3), .lit (.int .u8 30), .lit (.int .u8 22), .lit (.int .u8 20), .lit (.int .u8 15), .lit (.int .u8 25), .lit (.int .u8 17), .lit (.int .u8 4), .lit (.int .u8 8), .lit (.int .u8 31), .lit (.int .u8 27), .lit (.int .u8 13), .lit (.int .u8 23), .lit (.int .u8 21), .lit (.int .u8 19), .lit (.int .u8 16), .lit (.int .u8 7), .lit (.int .u8 26), .lit (.int .u8 12), .lit (.int .u8 18), .lit (.int .u8 6), .lit (.int .u8 11), .lit (.int .u8 5), .lit (.int .u8 10), .lit (.int .u8 9)]
def laid_math_bits_deBruijn64tab {H : Type} : DataW H := .agg [.lit (.int .u8 0), .lit (.int .u8 1), .lit (.int .u8 56), .lit (.int .u8 2), .lit (.int .u8 57), .lit (.int .u8 49), .lit (.int .u8 28), .lit (.int .u8 3), .lit (.int .u8 61), .lit (.int .u8 58), .lit (.int .u8 42), .lit (.int .u8 50), .lit (.int .u8 38), .lit (.int .u8 29), .lit (.int .u8 17), .lit (.int .u8 4), .lit (.int .u8 62), .lit (.int .u8 47), .lit (.int .u8 59), .lit (.int .u8 36), .lit (.int .u8 45), .lit (.int .u8 43), .lit (.int .u8 51), .lit (.int .u8 22), .lit (.int .u8 53), .lit (.int .u8 39), .lit (.int .u8 33), .lit (.int .u8 30), .lit (.int .u8 24), .lit (.int .u8 18), .lit (.int .u8 12), .lit (.int .u8 5), .lit (.int .u8 63), .lit (.int .u8 55), .lit (.int .u8 48), .lit (.int .u8 27), .lit (.int .u8 60), .lit (.int .u8 41), .lit (.int .u8 37), .lit (.int .u8 16), .lit (.int .u8 46), .lit (.int .u8 35), .lit (.int .u8 44), .lit (.int .u8 21), .lit (.int .u8 52), .lit (.int .u8 32), .lit (.int .u8 23), .lit (.int .u8 11), .lit (.int .u8 54), .lit (.int .u8 26), .lit (.int .u8 40), .lit (.int .u8 15), .lit (.int .u8 34), .lit (.int .u8 20), .lit (.int .u8 31), .lit (.int .u8 10), .lit (.int .u8 25), .lit (.int .u8 14), .lit (.int .u8 19), .lit (.int .u8 9), .lit (.int .u8 13), .lit (.int .u8 8), .lit (.int .u8 7), .lit (.int .u8 6)]
def laid_internal_strconv_uint64pow10 {H : Type} : DataW H := .agg [.lit (.int .u64 1), .lit (.int .u64 10), .lit (.int .u64 100), .lit (.int .u64 1000), .lit (.int .u64 10000), .lit (.int .u64 100000), .lit (.int .u64 1000000), .lit (.int .u64 10000000), .lit (.int .u64 100000000), .lit (.int .u64 1000000000), .lit (.int .u64 10000000000), .lit (.int .u64 100000000000), .lit (.int .u64 1000000000000), .lit (.int .u64 10000000000000), .lit (.int .u64 100000000000000), .lit (.int .u64 1000000000000000), .lit (.int .u64 10000000000000000), .lit (.int .u64 100000000000000000), .lit (.int .u64 1000000000000000000), .lit (.int .u64 10000000000000000000)]

/-- 'laws.FnExactValidCatalogue': WHATEVER THE INPUT: true; the input reads as it did. -/
def fnExactValidCatalogueSpec : ChangeSpec := { name := "fnExactValidCatalogue", fn := fun _ => fun
  | [d] => { results := [.lit (.bool true)], args := [d] }
  | _ => none }
def fnExactValidCatalogueRow : OpenClaim := { program := "ytgeeojchgfomjaadoor", sum := "a08c684fc2642df1db709cac4454e0e762657b9b1da8c47aa1616aa6e0bb9cfe", func := "loop.example/g01055/laws.FnExactValidCatalogue", spec := "fnExactValidCatalogue", inPlace := ["internal/bytealg.IndexByteString", "internal/bytealg.IndexString"], unfollowed := true, recurses := true, named := ["unicode/utf8.first", "unicode/utf8.acceptRanges", "internal/bytealg.MaxLen"], apart := false, laid := [("unicode/utf8.acceptRanges", laid_unicode_utf8_acceptRanges), ("unicode/utf8.first", laid_unicode_utf8_first)] }
def FnExactValidCatalogueSaid : Prop := fnExactValidCatalogueRow.holds Tryd.pinned (OpenSpec.ofChange fnExactValidCatalogueSpec)

/-- ITS FALSE NEIGHBOUR: 'it returns false'. Refute it at one input. -/
def fnExactValidCatalogueWrong : ChangeSpec := { name := "fnExactValidCatalogue", fn := fun _ => fun
  | [d] => { results := [.lit (.bool false)], args := [d] }
  | _ => none }
def FnExactValidCatalogueWrongFalsely : Prop := fnExactValidCatalogueRow.holds Tryd.pinned (OpenSpec.ofChange fnExactValidCatalogueWrong)

/-- 'laws.FnExactFigureWithout': WHATEVER THE INPUT: true; the input reads as it did. -/
def fnExactFigureWithoutSpec : ChangeSpec := { name := "fnExactFigureWithout", fn := fun _ => fun
  | [d1, d2, d3] => { results := [.lit (.bool true)], args := [d1, d2, d3] }
  | _ => none }
def fnExactFigureWithoutRow : OpenClaim := { program := "ytgeeojchgfomjaadoor", sum := "a08c684fc2642df1db709cac4454e0e762657b9b1da8c47aa1616aa6e0bb9cfe", func := "loop.example/g01055/laws.FnExactFigureWithout", spec := "fnExactFigureWithout", inPlace := ["internal/bytealg.IndexByteString", "internal/bytealg.IndexString"], unfollowed := true, recurses := true, named := ["unicode/utf8.first", "unicode/utf8.acceptRanges", "internal/bytealg.MaxLen"], apart := false, laid := [("unicode/utf8.acceptRanges", laid_unicode_utf8_acceptRanges), ("unicode/utf8.first", laid_unicode_utf8_first)] }
def FnExactFigureWithoutSaid : Prop := fnExactFigureWithoutRow.holds Tryd.pinned (OpenSpec.ofChange fnExactFigureWithoutSpec)

/-- ITS FALSE NEIGHBOUR: 'it returns false'. Refute it at one input. -/
def fnExactFigureWithoutWrong : ChangeSpec := { name := "fnExactFigureWithout", fn := fun _ => fun
  | [d1, d2, d3] => { results := [.lit (.bool false)], args := [d1, d2, d3] }
  | _ => none }
def FnExactFigureWithoutWrongFalsely : Prop := fnExactFigureWithoutRow.holds Tryd.pinned (OpenSpec.ofChange fnExactFigureWithoutWrong)

/-- 'laws.FnExactFigureText': WHATEVER THE INPUT: true; the input reads as it did. -/
def fnExactFigureTextSpec : ChangeSpec := { name := "fnExactFigureText", fn := fun _ => fun
  | [d1, d2] => { results := [.lit (.bool true)], args := [d1, d2] }
  | _ => none }
def fnExactFigureTextRow : OpenClaim := { program := "ytgeeojchgfomjaadoor", sum := "a08c684fc2642df1db709cac4454e0e762657b9b1da8c47aa1616aa6e0bb9cfe", func := "loop.example/g01055/laws.FnExactFigureText", spec := "fnExactFigureText", inPlace := ["internal/bytealg.IndexByteString", "internal/bytealg.IndexString", "internal/abi.NoEscape", "internal/bytealg.MakeNoZero"], unfollowed := true, recurses := true, named := ["unicode/utf8.first", "unicode/utf8.acceptRanges", "internal/bytealg.MaxLen"], apart := false, laid := [("unicode/utf8.acceptRanges", laid_unicode_utf8_acceptRanges), ("unicode/utf8.first", laid_unicode_utf8_first)] }
def FnExactFigureTextSaid : Prop := fnExactFigureTextRow.holds Tryd.pinned (OpenSpec.ofChange fnExactFigureTextSpec)

/-- ITS FALSE NEIGHBOUR: 'it returns false'. Refute it at one input. -/
def fnExactFigureTextWrong : ChangeSpec := { name := "fnExactFigureText", fn := fun _ => fun
  | [d1, d2] => { results := [.lit (.bool false)], args := [d1, d2] }
  | _ => none }
def FnExactFigureTextWrongFalsely : Prop := fnExactFigureTextRow.holds Tryd.pinned (OpenSpec.ofChange fnExactFigureTextWrong)

/-- 'laws.FnExactStarText': WHATEVER THE INPUT: true; the input reads as it did. -/
def fnExactStarTextSpec : ChangeSpec := { name := "fnExactStarText", fn := fun _ => fun
  | [d] => { results := [.lit (.bool true)], args := [d] }
  | _ => none }
def fnExactStarTextRow : OpenClaim := { program := "ytgeeojchgfomjaadoor", sum := "a08c684fc2642df1db709cac4454e0e762657b9b1da8c47aa1616aa6e0bb9cfe", func := "loop.example/g01055/laws.FnExactStarText", spec := "fnExactStarText", inPlace := ["internal/bytealg.IndexByteString", "internal/bytealg.IndexString"], named := ["unicode/utf8.first", "unicode/utf8.acceptRanges", "internal/strconv.uint64pow10", "math/bits.deBruijn32tab", "math/bits.deBruijn64tab", "internal/bytealg.MaxLen"], apart := false, laid := [("math/bits.deBruijn32tab", laid_math_bits_deBruijn32tab), ("math/bits.deBruijn64tab", laid_math_bits_deBruijn64tab), ("internal/strconv.uint64pow10", laid_internal_strconv_uint64pow10), ("unicode/utf8.acceptRanges", laid_unicode_utf8_acceptRanges), ("unicode/utf8.first", laid_unicode_utf8_first)] }
def FnExactStarTextSaid : Prop := fnExactStarTextRow.holds Tryd.pinned (OpenSpec.ofChange fnExactStarTextSpec)

/-- ITS FALSE NEIGHBOUR: 'it returns false'. Refute it at one input. -/
def fnExactStarTextWrong : ChangeSpec := { name := "fnExactStarText", fn := fun _ => fun
  | [d] => { results := [.lit (.bool false)], args := [d] }
  | _ => none }
def FnExactStarTextWrongFalsely : Prop := fnExactStarTextRow.holds Tryd.pinned (OpenSpec.ofChange fnExactStarTextWrong)

/-- 'laws.FnExactFaintestOf': WHATEVER THE INPUT: true; the input reads as it did. -/
def fnExactFaintestOfSpec : ChangeSpec := { name := "fnExactFaintestOf", fn := fun _ => fun
  | [d1, d2] => { results := [.lit (.bool true)], args := [d1, d2] }
  | _ => none }
def fnExactFaintestOfRow : OpenClaim := { program := "ytgeeojchgfomjaadoor", sum := "a08c684fc2642df1db709cac4454e0e762657b9b1da8c47aa1616aa6e0bb9cfe", func := "loop.example/g01055/laws.FnExactFaintestOf", spec := "fnExactFaintestOf", inPlace := ["internal/bytealg.IndexByteString", "internal/bytealg.IndexString"], unfollowed := true, recurses := true, named := ["unicode/utf8.first", "unicode/utf8.acceptRanges", "internal/bytealg.MaxLen"], apart := false, laid := [("unicode/utf8.acceptRanges", laid_unicode_utf8_acceptRanges), ("unicode/utf8.first", laid_unicode_utf8_first)] }
def FnExactFaintestOfSaid : Prop := fnExactFaintestOfRow.holds Tryd.pinned (OpenSpec.ofChange fnExactFaintestOfSpec)

/-- ITS FALSE NEIGHBOUR: 'it returns false'. Refute it at one input. -/
def fnExactFaintestOfWrong : ChangeSpec := { name := "fnExactFaintestOf", fn := fun _ => fun
  | [d1, d2] => { results := [.lit (.bool false)], args := [d1, d2] }
  | _ => none }
def FnExactFaintestOfWrongFalsely : Prop := fnExactFaintestOfRow.holds Tryd.pinned (OpenSpec.ofChange fnExactFaintestOfWrong)

/-- 'laws.FnExactIsOnePiece': WHATEVER THE INPUT: true; the input reads as it did. -/
def fnExactIsOnePieceSpec : ChangeSpec := { name := "fnExactIsOnePiece", fn := fun _ => fun
  | [d1, d2] => { results := [.lit (.bool true)], args := [d1, d2] }
  | _ => none }
def fnExactIsOnePieceRow : OpenClaim := { program := "ytgeeojchgfomjaadoor", sum := "a08c684fc2642df1db709cac4454e0e762657b9b1da8c47aa1616aa6e0bb9cfe", func := "loop.example/g01055/laws.FnExactIsOnePiece", spec := "fnExactIsOnePiece", inPlace := ["internal/bytealg.IndexByteString", "internal/bytealg.IndexString"], unfollowed := true, recurses := true, named := ["unicode/utf8.first", "unicode/utf8.acceptRanges", "internal/bytealg.MaxLen"], apart := false, laid := [("unicode/utf8.acceptRanges", laid_unicode_utf8_acceptRanges), ("unicode/utf8.first", laid_unicode_utf8_first)] }
def FnExactIsOnePieceSaid : Prop := fnExactIsOnePieceRow.holds Tryd.pinned (OpenSpec.ofChange fnExactIsOnePieceSpec)

/-- ITS FALSE NEIGHBOUR: 'it returns false'. Refute it at one input. -/
def fnExactIsOnePieceWrong : ChangeSpec := { name := "fnExactIsOnePiece", fn := fun _ => fun
  | [d1, d2] => { results := [.lit (.bool false)], args := [d1, d2] }
  | _ => none }
def FnExactIsOnePieceWrongFalsely : Prop := fnExactIsOnePieceRow.holds Tryd.pinned (OpenSpec.ofChange fnExactIsOnePieceWrong)

/-- 'laws.FnExactStarsOfFigure': WHATEVER THE INPUT: true; the input reads as it did. -/
def fnExactStarsOfFigureSpec : ChangeSpec := { name := "fnExactStarsOfFigure", fn := fun _ => fun
  | [d1, d2] => { results := [.lit (.bool true)], args := [d1, d2] }
  | _ => none }
def fnExactStarsOfFigureRow : OpenClaim := { program := "ytgeeojchgfomjaadoor", sum := "a08c684fc2642df1db709cac4454e0e762657b9b1da8c47aa1616aa6e0bb9cfe", func := "loop.example/g01055/laws.FnExactStarsOfFigure", spec := "fnExactStarsOfFigure", inPlace := ["internal/bytealg.IndexByteString", "internal/bytealg.IndexString"], unfollowed := true, recurses := true, named := ["unicode/utf8.first", "unicode/utf8.acceptRanges", "internal/bytealg.MaxLen"], apart := false, laid := [("unicode/utf8.acceptRanges", laid_unicode_utf8_acceptRanges), ("unicode/utf8.first", laid_unicode_utf8_first)] }
def FnExactStarsOfFigureSaid : Prop := fnExactStarsOfFigureRow.holds Tryd.pinned (OpenSpec.ofChange fnExactStarsOfFigureSpec)

/-- ITS FALSE NEIGHBOUR: 'it returns false'. Refute it at one input. -/
def fnExactStarsOfFigureWrong : ChangeSpec := { name := "fnExactStarsOfFigure", fn := fun _ => fun
  | [d1, d2] => { results := [.lit (.bool false)], args := [d1, d2] }
  | _ => none }
def FnExactStarsOfFigureWrongFalsely : Prop := fnExactStarsOfFigureRow.holds Tryd.pinned (OpenSpec.ofChange fnExactStarsOfFigureWrong)

/-- 'laws.FnExactOneStroke': WHATEVER THE INPUT: true; the input reads as it did. -/
def fnExactOneStrokeSpec : ChangeSpec := { name := "fnExactOneStroke", fn := fun _ => fun
  | [d1, d2] => { results := [.lit (.bool true)], args := [d1, d2] }
  | _ => none }
def fnExactOneStrokeRow : OpenClaim := { program := "ytgeeojchgfomjaadoor", sum := "a08c684fc2642df1db709cac4454e0e762657b9b1da8c47aa1616aa6e0bb9cfe", func := "loop.example/g01055/laws.FnExactOneStroke", spec := "fnExactOneStroke", inPlace := ["internal/bytealg.IndexByteString", "internal/bytealg.IndexString"], unfollowed := true, recurses := true, named := ["unicode/utf8.first", "unicode/utf8.acceptRanges", "internal/bytealg.MaxLen"], apart := false, laid := [("unicode/utf8.acceptRanges", laid_unicode_utf8_acceptRanges), ("unicode/utf8.first", laid_unicode_utf8_first)] }
def FnExactOneStrokeSaid : Prop := fnExactOneStrokeRow.holds Tryd.pinned (OpenSpec.ofChange fnExactOneStrokeSpec)

/-- ITS FALSE NEIGHBOUR: 'it returns false'. Refute it at one input. -/
def fnExactOneStrokeWrong : ChangeSpec := { name := "fnExactOneStroke", fn := fun _ => fun
  | [d1, d2] => { results := [.lit (.bool false)], args := [d1, d2] }
  | _ => none }
def FnExactOneStrokeWrongFalsely : Prop := fnExactOneStrokeRow.holds Tryd.pinned (OpenSpec.ofChange fnExactOneStrokeWrong)

/-- 'laws.FnExactEndsOfFigure': WHATEVER THE INPUT: true; the input reads as it did. -/
def fnExactEndsOfFigureSpec : ChangeSpec := { name := "fnExactEndsOfFigure", fn := fun _ => fun
  | [d1, d2] => { results := [.lit (.bool true)], args := [d1, d2] }
  | _ => none }
def fnExactEndsOfFigureRow : OpenClaim := { program := "ytgeeojchgfomjaadoor", sum := "a08c684fc2642df1db709cac4454e0e762657b9b1da8c47aa1616aa6e0bb9cfe", func := "loop.example/g01055/laws.FnExactEndsOfFigure", spec := "fnExactEndsOfFigure", inPlace := ["internal/bytealg.IndexByteString", "internal/bytealg.IndexString"], unfollowed := true, recurses := true, named := ["unicode/utf8.first", "unicode/utf8.acceptRanges", "internal/bytealg.MaxLen"], apart := false, laid := [("unicode/utf8.acceptRanges", laid_unicode_utf8_acceptRanges), ("unicode/utf8.first", laid_unicode_utf8_first)] }
def FnExactEndsOfFigureSaid : Prop := fnExactEndsOfFigureRow.holds Tryd.pinned (OpenSpec.ofChange fnExactEndsOfFigureSpec)

/-- ITS FALSE NEIGHBOUR: 'it returns false'. Refute it at one input. -/
def fnExactEndsOfFigureWrong : ChangeSpec := { name := "fnExactEndsOfFigure", fn := fun _ => fun
  | [d1, d2] => { results := [.lit (.bool false)], args := [d1, d2] }
  | _ => none }
def FnExactEndsOfFigureWrongFalsely : Prop := fnExactEndsOfFigureRow.holds Tryd.pinned (OpenSpec.ofChange fnExactEndsOfFigureWrong)

/-- 'laws.FnMerges': WHATEVER THE INPUT: true; the input reads as it did. -/
def fnMergesSpec : ChangeSpec := { name := "fnMerges", fn := fun _ => fun
  | [d] => { results := [.lit (.bool true)], args := [d] }
  | _ => none }
def fnMergesRow : OpenClaim := { program := "ytgeeojchgfomjaadoor", sum := "a08c684fc2642df1db709cac4454e0e762657b9b1da8c47aa1616aa6e0bb9cfe", func := "loop.example/g01055/laws.FnMerges", spec := "fnMerges", inPlace := ["internal/bytealg.IndexByteString", "internal/bytealg.IndexString"], unfollowed := true, recurses := true, named := ["unicode/utf8.first", "unicode/utf8.acceptRanges", "internal/bytealg.MaxLen"], apart := false, laid := [("unicode/utf8.acceptRanges", laid_unicode_utf8_acceptRanges), ("unicode/utf8.first", laid_unicode_utf8_first)] }
def FnMergesSaid : Prop := fnMergesRow.holds Tryd.pinned (OpenSpec.ofChange fnMergesSpec)

/-- ITS FALSE NEIGHBOUR: 'it returns false'. Refute it at one input. -/
def fnMergesWrong : ChangeSpec := { name := "fnMerges", fn := fun _ => fun
  | [d] => { results := [.lit (.bool false)], args := [d] }
  | _ => none }
def FnMergesWrongFalsely : Prop := fnMergesRow.holds Tryd.pinned (OpenSpec.ofChange fnMergesWrong)

/-- 'laws.FnDates': WHATEVER THE INPUT: true; the input reads as it did. -/
def fnDatesSpec : ChangeSpec := { name := "fnDates", fn := fun _ => fun
  | [d] => { results := [.lit (.bool true)], args := [d] }
  | _ => none }
def fnDatesRow : OpenClaim := { program := "ytgeeojchgfomjaadoor", sum := "a08c684fc2642df1db709cac4454e0e762657b9b1da8c47aa1616aa6e0bb9cfe", func := "loop.example/g01055/laws.FnDates", spec := "fnDates", inPlace := ["internal/bytealg.IndexByteString", "internal/bytealg.IndexString"], unfollowed := true, recurses := true, named := ["unicode/utf8.first", "unicode/utf8.acceptRanges", "internal/bytealg.MaxLen"], apart := false, laid := [("unicode/utf8.acceptRanges", laid_unicode_utf8_acceptRanges), ("unicode/utf8.first", laid_unicode_utf8_first)] }
def FnDatesSaid : Prop := fnDatesRow.holds Tryd.pinned (OpenSpec.ofChange fnDatesSpec)

/-- ITS FALSE NEIGHBOUR: 'it returns false'. Refute it at one input. -/
def fnDatesWrong : ChangeSpec := { name := "fnDates", fn := fun _ => fun
  | [d] => { results := [.lit (.bool false)], args := [d] }
  | _ => none }
def FnDatesWrongFalsely : Prop := fnDatesRow.holds Tryd.pinned (OpenSpec.ofChange fnDatesWrong)

/-- 'laws.FnExactShortEdits': WHATEVER THE INPUT: true; the input reads as it did. -/
def fnExactShortEditsSpec : ChangeSpec := { name := "fnExactShortEdits", fn := fun _ => fun
  | [d] => { results := [.lit (.bool true)], args := [d] }
  | _ => none }
def fnExactShortEditsRow : OpenClaim := { program := "ytgeeojchgfomjaadoor", sum := "a08c684fc2642df1db709cac4454e0e762657b9b1da8c47aa1616aa6e0bb9cfe", func := "loop.example/g01055/laws.FnExactShortEdits", spec := "fnExactShortEdits", inPlace := ["internal/bytealg.IndexByteString", "internal/bytealg.IndexString", "slices.overlaps[loop.example/g01055/impl.Edit]"], unfollowed := true, recurses := true, named := ["unicode/utf8.first", "unicode/utf8.acceptRanges", "internal/bytealg.MaxLen"], apart := false, laid := [("unicode/utf8.acceptRanges", laid_unicode_utf8_acceptRanges), ("unicode/utf8.first", laid_unicode_utf8_first)] }
def FnExactShortEditsSaid : Prop := fnExactShortEditsRow.holds Tryd.pinned (OpenSpec.ofChange fnExactShortEditsSpec)

/-- ITS FALSE NEIGHBOUR: 'it returns false'. Refute it at one input. -/
def fnExactShortEditsWrong : ChangeSpec := { name := "fnExactShortEdits", fn := fun _ => fun
  | [d] => { results := [.lit (.bool false)], args := [d] }
  | _ => none }
def FnExactShortEditsWrongFalsely : Prop := fnExactShortEditsRow.holds Tryd.pinned (OpenSpec.ofChange fnExactShortEditsWrong)

/- THE SECOND FORM. 'bulk': how many values and letters a reading holds, each counted each time it is reached (what is shared counts as often as it is met; a slice's spare places count too). A statement '..UptoSaid' is the law's where the arguments, and the package variables that the reading takes, are together of bulk at most 1048576: NARROWER than '..Said'. Prove '..Said' where nothing that the law and all that it calls make is longer than what came in: it says more and counts as full. Else prove '..UptoSaid'. A law counts once. -/
mutual
def uptoBulk {H : Type} : DataW H → Nat
  | .lit (.string bytes) => bytes.length + 1
  | .lit _ => 1
  | .nil => 1
  | .ptr d => uptoBulk d + 1
  | .slice elems spare => uptoBulkAll elems + uptoBulkAll spare + 1
  | .agg parts => uptoBulkAll parts + 1
  | .iface _ d => uptoBulk d + 1
  | .map entries => uptoBulkEntries entries + 1
  | .held _ => 1
def uptoBulkAll {H : Type} : List (DataW H) → Nat
  | [] => 0
  | d :: r => uptoBulk d + uptoBulkAll r
def uptoBulkEntries {H : Type} : List (Lit × DataW H) → Nat
  | [] => 0
  | x :: r => uptoBulkEntry x + uptoBulkEntries r
def uptoBulkEntry {H : Type} : Lit × DataW H → Nat
  | (.string bytes, d) => bytes.length + uptoBulk d + 1
  | (_, d) => uptoBulk d + 1
 end
def uptoSmall : (H : Type) → List (DataW H) → Bool := fun _ ds => decide (uptoBulkAll ds ≤ 1048576)
def OpenSpec.upto (s : _root_.Go.ChangeSpec) : _root_.Go.OpenSpec := { _root_.Go.OpenSpec.ofChange s with cond := some uptoSmall }

/-- 'laws.FnExactValidCatalogue', WHERE WHAT IT READS IS OF BULK AT MOST 1048576: true; the input reads as it did. -/
def fnExactValidCatalogueUptoRow : OpenClaim := { program := "ytgeeojchgfomjaadoor", sum := "a08c684fc2642df1db709cac4454e0e762657b9b1da8c47aa1616aa6e0bb9cfe", func := "loop.example/g01055/laws.FnExactValidCatalogue", spec := "fnExactValidCatalogue", inPlace := ["internal/bytealg.IndexByteString", "internal/bytealg.IndexString"], unfollowed := true, recurses := true, named := ["unicode/utf8.first", "unicode/utf8.acceptRanges", "internal/bytealg.MaxLen"], apart := false, laid := [("unicode/utf8.acceptRanges", laid_unicode_utf8_acceptRanges), ("unicode/utf8.first", laid_unicode_utf8_first)], narrowed := true }
def FnExactValidCatalogueUptoSaid : Prop := fnExactValidCatalogueUptoRow.holds Tryd.pinned (OpenSpec.upto fnExactValidCatalogueSpec)

/-- 'laws.FnExactFigureWithout', WHERE WHAT IT READS IS OF BULK AT MOST 1048576: true; the input reads as it did. -/
def fnExactFigureWithoutUptoRow : OpenClaim := { program := "ytgeeojchgfomjaadoor", sum := "a08c684fc2642df1db709cac4454e0e762657b9b1da8c47aa1616aa6e0bb9cfe", func := "loop.example/g01055/laws.FnExactFigureWithout", spec := "fnExactFigureWithout", inPlace := ["internal/bytealg.IndexByteString", "internal/bytealg.IndexString"], unfollowed := true, recurses := true, named := ["unicode/utf8.first", "unicode/utf8.acceptRanges", "internal/bytealg.MaxLen"], apart := false, laid := [("unicode/utf8.acceptRanges", laid_unicode_utf8_acceptRanges), ("unicode/utf8.first", laid_unicode_utf8_first)], narrowed := true }
def FnExactFigureWithoutUptoSaid : Prop := fnExactFigureWithoutUptoRow.holds Tryd.pinned (OpenSpec.upto fnExactFigureWithoutSpec)

/-- 'laws.FnExactFigureText', WHERE WHAT IT READS IS OF BULK AT MOST 1048576: true; the input reads as it did. -/
def fnExactFigureTextUptoRow : OpenClaim := { program := "ytgeeojchgfomjaadoor", sum := "a08c684fc2642df1db709cac4454e0e762657b9b1da8c47aa1616aa6e0bb9cfe", func := "loop.example/g01055/laws.FnExactFigureText", spec := "fnExactFigureText", inPlace := ["internal/bytealg.IndexByteString", "internal/bytealg.IndexString", "internal/abi.NoEscape", "internal/bytealg.MakeNoZero"], unfollowed := true, recurses := true, named := ["unicode/utf8.first", "unicode/utf8.acceptRanges", "internal/bytealg.MaxLen"], apart := false, laid := [("unicode/utf8.acceptRanges", laid_unicode_utf8_acceptRanges), ("unicode/utf8.first", laid_unicode_utf8_first)], narrowed := true }
def FnExactFigureTextUptoSaid : Prop := fnExactFigureTextUptoRow.holds Tryd.pinned (OpenSpec.upto fnExactFigureTextSpec)

/-- 'laws.FnExactStarText', WHERE WHAT IT READS IS OF BULK AT MOST 1048576: true; the input reads as it did. -/
def fnExactStarTextUptoRow : OpenClaim := { program := "ytgeeojchgfomjaadoor", sum := "a08c684fc2642df1db709cac4454e0e762657b9b1da8c47aa1616aa6e0bb9cfe", func := "loop.example/g01055/laws.FnExactStarText", spec := "fnExactStarText", inPlace := ["internal/bytealg.IndexByteString", "internal/bytealg.IndexString"], named := ["unicode/utf8.first", "unicode/utf8.acceptRanges", "internal/strconv.uint64pow10", "math/bits.deBruijn32tab", "math/bits.deBruijn64tab", "internal/bytealg.MaxLen"], apart := false, laid := [("math/bits.deBruijn32tab", laid_math_bits_deBruijn32tab), ("math/bits.deBruijn64tab", laid_math_bits_deBruijn64tab), ("internal/strconv.uint64pow10", laid_internal_strconv_uint64pow10), ("unicode/utf8.acceptRanges", laid_unicode_utf8_acceptRanges), ("unicode/utf8.first", laid_unicode_utf8_first)], narrowed := true }
def FnExactStarTextUptoSaid : Prop := fnExactStarTextUptoRow.holds Tryd.pinned (OpenSpec.upto fnExactStarTextSpec)

/-- 'laws.FnExactFaintestOf', WHERE WHAT IT READS IS OF BULK AT MOST 1048576: true; the input reads as it did. -/
def fnExactFaintestOfUptoRow : OpenClaim := { program := "ytgeeojchgfomjaadoor", sum := "a08c684fc2642df1db709cac4454e0e762657b9b1da8c47aa1616aa6e0bb9cfe", func := "loop.example/g01055/laws.FnExactFaintestOf", spec := "fnExactFaintestOf", inPlace := ["internal/bytealg.IndexByteString", "internal/bytealg.IndexString"], unfollowed := true, recurses := true, named := ["unicode/utf8.first", "unicode/utf8.acceptRanges", "internal/bytealg.MaxLen"], apart := false, laid := [("unicode/utf8.acceptRanges", laid_unicode_utf8_acceptRanges), ("unicode/utf8.first", laid_unicode_utf8_first)], narrowed := true }
def FnExactFaintestOfUptoSaid : Prop := fnExactFaintestOfUptoRow.holds Tryd.pinned (OpenSpec.upto fnExactFaintestOfSpec)

/-- 'laws.FnExactIsOnePiece', WHERE WHAT IT READS IS OF BULK AT MOST 1048576: true; the input reads as it did. -/
def fnExactIsOnePieceUptoRow : OpenClaim := { program := "ytgeeojchgfomjaadoor", sum := "a08c684fc2642df1db709cac4454e0e762657b9b1da8c47aa1616aa6e0bb9cfe", func := "loop.example/g01055/laws.FnExactIsOnePiece", spec := "fnExactIsOnePiece", inPlace := ["internal/bytealg.IndexByteString", "internal/bytealg.IndexString"], unfollowed := true, recurses := true, named := ["unicode/utf8.first", "unicode/utf8.acceptRanges", "internal/bytealg.MaxLen"], apart := false, laid := [("unicode/utf8.acceptRanges", laid_unicode_utf8_acceptRanges), ("unicode/utf8.first", laid_unicode_utf8_first)], narrowed := true }
def FnExactIsOnePieceUptoSaid : Prop := fnExactIsOnePieceUptoRow.holds Tryd.pinned (OpenSpec.upto fnExactIsOnePieceSpec)

/-- 'laws.FnExactStarsOfFigure', WHERE WHAT IT READS IS OF BULK AT MOST 1048576: true; the input reads as it did. -/
def fnExactStarsOfFigureUptoRow : OpenClaim := { program := "ytgeeojchgfomjaadoor", sum := "a08c684fc2642df1db709cac4454e0e762657b9b1da8c47aa1616aa6e0bb9cfe", func := "loop.example/g01055/laws.FnExactStarsOfFigure", spec := "fnExactStarsOfFigure", inPlace := ["internal/bytealg.IndexByteString", "internal/bytealg.IndexString"], unfollowed := true, recurses := true, named := ["unicode/utf8.first", "unicode/utf8.acceptRanges", "internal/bytealg.MaxLen"], apart := false, laid := [("unicode/utf8.acceptRanges", laid_unicode_utf8_acceptRanges), ("unicode/utf8.first", laid_unicode_utf8_first)], narrowed := true }
def FnExactStarsOfFigureUptoSaid : Prop := fnExactStarsOfFigureUptoRow.holds Tryd.pinned (OpenSpec.upto fnExactStarsOfFigureSpec)

/-- 'laws.FnExactOneStroke', WHERE WHAT IT READS IS OF BULK AT MOST 1048576: true; the input reads as it did. -/
def fnExactOneStrokeUptoRow : OpenClaim := { program := "ytgeeojchgfomjaadoor", sum := "a08c684fc2642df1db709cac4454e0e762657b9b1da8c47aa1616aa6e0bb9cfe", func := "loop.example/g01055/laws.FnExactOneStroke", spec := "fnExactOneStroke", inPlace := ["internal/bytealg.IndexByteString", "internal/bytealg.IndexString"], unfollowed := true, recurses := true, named := ["unicode/utf8.first", "unicode/utf8.acceptRanges", "internal/bytealg.MaxLen"], apart := false, laid := [("unicode/utf8.acceptRanges", laid_unicode_utf8_acceptRanges), ("unicode/utf8.first", laid_unicode_utf8_first)], narrowed := true }
def FnExactOneStrokeUptoSaid : Prop := fnExactOneStrokeUptoRow.holds Tryd.pinned (OpenSpec.upto fnExactOneStrokeSpec)

/-- 'laws.FnExactEndsOfFigure', WHERE WHAT IT READS IS OF BULK AT MOST 1048576: true; the input reads as it did. -/
def fnExactEndsOfFigureUptoRow : OpenClaim := { program := "ytgeeojchgfomjaadoor", sum := "a08c684fc2642df1db709cac4454e0e762657b9b1da8c47aa1616aa6e0bb9cfe", func := "loop.example/g01055/laws.FnExactEndsOfFigure", spec := "fnExactEndsOfFigure", inPlace := ["internal/bytealg.IndexByteString", "internal/bytealg.IndexString"], unfollowed := true, recurses := true, named := ["unicode/utf8.first", "unicode/utf8.acceptRanges", "internal/bytealg.MaxLen"], apart := false, laid := [("unicode/utf8.acceptRanges", laid_unicode_utf8_acceptRanges), ("unicode/utf8.first", laid_unicode_utf8_first)], narrowed := true }
def FnExactEndsOfFigureUptoSaid : Prop := fnExactEndsOfFigureUptoRow.holds Tryd.pinned (OpenSpec.upto fnExactEndsOfFigureSpec)

/-- 'laws.FnMerges', WHERE WHAT IT READS IS OF BULK AT MOST 1048576: true; the input reads as it did. -/
def fnMergesUptoRow : OpenClaim := { program := "ytgeeojchgfomjaadoor", sum := "a08c684fc2642df1db709cac4454e0e762657b9b1da8c47aa1616aa6e0bb9cfe", func := "loop.example/g01055/laws.FnMerges", spec := "fnMerges", inPlace := ["internal/bytealg.IndexByteString", "internal/bytealg.IndexString"], unfollowed := true, recurses := true, named := ["unicode/utf8.first", "unicode/utf8.acceptRanges", "internal/bytealg.MaxLen"], apart := false, laid := [("unicode/utf8.acceptRanges", laid_unicode_utf8_acceptRanges), ("unicode/utf8.first", laid_unicode_utf8_first)], narrowed := true }
def FnMergesUptoSaid : Prop := fnMergesUptoRow.holds Tryd.pinned (OpenSpec.upto fnMergesSpec)

/-- 'laws.FnDates', WHERE WHAT IT READS IS OF BULK AT MOST 1048576: true; the input reads as it did. -/
def fnDatesUptoRow : OpenClaim := { program := "ytgeeojchgfomjaadoor", sum := "a08c684fc2642df1db709cac4454e0e762657b9b1da8c47aa1616aa6e0bb9cfe", func := "loop.example/g01055/laws.FnDates", spec := "fnDates", inPlace := ["internal/bytealg.IndexByteString", "internal/bytealg.IndexString"], unfollowed := true, recurses := true, named := ["unicode/utf8.first", "unicode/utf8.acceptRanges", "internal/bytealg.MaxLen"], apart := false, laid := [("unicode/utf8.acceptRanges", laid_unicode_utf8_acceptRanges), ("unicode/utf8.first", laid_unicode_utf8_first)], narrowed := true }
def FnDatesUptoSaid : Prop := fnDatesUptoRow.holds Tryd.pinned (OpenSpec.upto fnDatesSpec)

/-- 'laws.FnExactShortEdits', WHERE WHAT IT READS IS OF BULK AT MOST 1048576: true; the input reads as it did. -/
def fnExactShortEditsUptoRow : OpenClaim := { program := "ytgeeojchgfomjaadoor", sum := "a08c684fc2642df1db709cac4454e0e762657b9b1da8c47aa1616aa6e0bb9cfe", func := "loop.example/g01055/laws.FnExactShortEdits", spec := "fnExactShortEdits", inPlace := ["internal/bytealg.IndexByteString", "internal/bytealg.IndexString", "slices.overlaps[loop.example/g01055/impl.Edit]"], unfollowed := true, recurses := true, named := ["unicode/utf8.first", "unicode/utf8.acceptRanges", "internal/bytealg.MaxLen"], apart := false, laid := [("unicode/utf8.acceptRanges", laid_unicode_utf8_acceptRanges), ("unicode/utf8.first", laid_unicode_utf8_first)], narrowed := true }
def FnExactShortEditsUptoSaid : Prop := fnExactShortEditsUptoRow.holds Tryd.pinned (OpenSpec.upto fnExactShortEditsSpec)

end Rows
end Go.Proofs.YtgeeojchgfomjaaDoor
