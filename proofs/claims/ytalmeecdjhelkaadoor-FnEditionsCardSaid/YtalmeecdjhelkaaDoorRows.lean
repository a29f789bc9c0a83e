/-
  NARROWER THAN 'FOR EVERY INPUT', by the rows' own cells (each row's printed sentence says how): FnExactNewNames: laid · FnExactOldNames: laid · FnExactTooLate: laid · FnExactUndoEdits: laid · FnDates: laid · FnEditions: laid.
  DERIVED. THE GIVEN ROWS OF THIS SEAT. 6 by the template 'for every input the law returns true; each argument reads behind the call as it read before'; 0 by the template 'total and deterministic' (their statements: YtalmeecdjhelkaaDoorTotals.lean).
  GIVEN WITH THE SEED: the statements are not yours to turn. If you find one false, say at which input.
  Laid BY PROGRAM, IN A SANDBOX (cutbox-rows.mjs): the forced cells as the released guide's own fill.sh prints them over the translation 59f3510f4cf27c28… (all of the seat's roots in one cut). By AI agents, Wed Nov 11 2026. No macro, syntax, notation, axiom, sorry.
-/
import Derived.Test.YtalmeecdjhelkaaDoorChecked
import GoSem.PinnedTables
import GoSem.Claim
import GoSem.ClaimJoined
import GoSem.ClaimMapViews
import Derived.JoinedTies
import Derived.KernelRfl
namespace Go.Proofs.YtalmeecdjhelkaaDoor
/- THE CELL 'sum', in the pinned program and in every row, IS THE sha256 OF THE DUMP (.gsa) THAT YtalmeecdjhelkaaDoorProg.lean LOADS. Nothing in Lean hashes anything: it is a label: what it is worth is what the hold of that sum in a sandbox is worth. -/
noncomputable def Tryd.pinned : Pinned := { name := "ytalmeecdjhelkaadoor", sum := "59f3510f4cf27c28d8d9105aae4eac6306378ccdfadbf0c7800f2a91de3e6e95", checked := Tryd.checked }
namespace Rows
def none {H : Type} : Left H := { results := [], args := [] }

/- WHAT THE LISTED PACKAGE-LEVEL VARIABLES READ AS WHEN THE CALL BEGINS. Each datum BY PROGRAM (the guide's laid-datum.mjs) off the statement by which the dump's own 'gosem.cut.vars' lays the variable. In a bare row this is a premise. The card (YtalmeecdjhelkaaDoorCards.lean) ties it to the program's text. -/
def laid_unicode_utf8_acceptRanges {H : Type} : DataW H := .agg [.agg [.lit (.int .u8 128), .lit (.int .u8 191)], .agg [.lit (.int .u8 160), .lit (.int .u8 191)], .agg [.lit (.int .u8 128), .lit (.int .u8 159)], .agg [.lit (.int .u8 144), .lit (.int .u8 191)], .agg [.lit (.int .u8 128), .lit (.int .u8 143)], .agg [.lit (.int .u8 0), .lit (.int .u8 0)], .agg [.lit (.int .u8 0), .lit (.int .u8 0)], .agg [.lit (.int .u8 0), .lit (.int .u8 0)], .agg [.lit (.int .u8 0), .lit (.int .u8 0)], .agg [.lit (.int .u8 0), .lit (.int .u8 0)], .agg [.lit (.int .u8 0), .lit (.int .u8 0)], .agg [.lit (.int .u8 0), .lit (.int .u8 0)], .agg [.lit (.int .u8 0), .lit (.int .u8 0)], .agg [.lit (.int .u8 0), .lit (.int .u8 0)], .agg [.lit (.int .u8 0), .lit (.int .u8 0)], .agg [.lit (.int .u8 0), .lit (.int .u8 0)]]
/-- One of Go's own tables, pinned by name: the form's constant. -/
def laid_unicode_utf8_first : DataW Unit := Go.Pinned.utf8First

/-- 'laws.FnExactNewNames': WHATEVER THE INPUT: true; the input reads as it did. -/
def fnExactNewNamesSpec : ChangeSpec := { name := "fnExactNewNames", fn := fun _ => fun
  | [d1, d2] => { results := [.lit (.bool true)], args := [d1, d2] }
  | _ => none }
def fnExactNewNamesRow : OpenClaim := { program := "ytalmeecdjhelkaadoor", sum := "59f3510f4cf27c28d8d9105aae4eac6306378ccdfadbf0c7800f2a91de3e6e95", func := "loop.example/g01055/laws.FnExactNewNames", spec := "fnExactNewNames", inPlace := ["internal/bytealg.IndexByteString", "internal/bytealg.IndexString"], named := ["unicode/utf8.first", "unicode/utf8.acceptRanges", "internal/bytealg.MaxLen"], apart := false, laid := [("unicode/utf8.acceptRanges", laid_unicode_utf8_acceptRanges), ("unicode/utf8.first", laid_unicode_utf8_first)] }
def FnExactNewNamesSaid : Prop := fnExactNewNamesRow.holds Tryd.pinned (OpenSpec.ofChange fnExactNewNamesSpec)

/-- ITS FALSE NEIGHBOUR: 'it returns false'. Refute it at one input. -/
def fnExactNewNamesWrong : ChangeSpec := { name := "fnExactNewNames", fn := fun _ => fun
  | [d1, d2] => { results := [.lit (.bool false)], args := [d1, d2] }
  | _ => none }
def FnExactNewNamesWrongFalsely : Prop := fnExactNewNamesRow.holds Tryd.pinned (OpenSpec.ofChange fnExactNewNamesWrong)

/-- 'laws.FnExactOldNames': WHATEVER THE INPUT: true; the input reads as it did. -/
def fnExactOldNamesSpec : ChangeSpec := { name := "fnExactOldNames", fn := fun _ => fun
  | [d1, d2] => { results := [.lit (.bool true)], args := [d1, d2] }
  | _ => none }
def fnExactOldNamesRow : OpenClaim := { program := "ytalmeecdjhelkaadoor", sum := "59f3510f4cf27c28d8d9105aae4eac6306378ccdfadbf0c7800f2a91de3e6e95", func := "loop.example/g01055/laws.FnExactOldNames", spec := "fnExactOldNames", inPlace := ["internal/bytealg.IndexByteString", "internal/bytealg.IndexString"], named := ["unicode/utf8.first", "unicode/utf8.acceptRanges", "internal/bytealg.MaxLen"], apart := false, laid := [("unicode/utf8.acceptRanges", laid_unicode_utf8_acceptRanges), ("unicode/utf8.first", laid_unicode_utf8_first)] }
def FnExactOldNamesSaid : Prop := fnExactOldNamesRow.holds Tryd.pinned (OpenSpec.ofChange fnExactOldNamesSpec)

/-- ITS FALSE NEIGHBOUR: 'it returns false'. Refute it at one input. -/
def fnExactOldNamesWrong : ChangeSpec := { name := "fnExactOldNames", fn := fun _ => fun
  | [d1, d2] => { results := [.lit (.bool false)], args := [d1, d2] }
  | _ => none }
def FnExactOldNamesWrongFalsely : Prop := fnExactOldNamesRow.holds Tryd.pinned (OpenSpec.ofChange fnExactOldNamesWrong)

/-- 'laws.FnExactTooLate': WHATEVER THE INPUT: true; the input reads as it did. -/
def fnExactTooLateSpec : ChangeSpec := { name := "fnExactTooLate", fn := fun _ => fun
  | [d1, d2, d3] => { results := [.lit (.bool true)], args := [d1, d2, d3] }
  | _ => none }
def fnExactTooLateRow : OpenClaim := { program := "ytalmeecdjhelkaadoor", sum := "59f3510f4cf27c28d8d9105aae4eac6306378ccdfadbf0c7800f2a91de3e6e95", func := "loop.example/g01055/laws.FnExactTooLate", spec := "fnExactTooLate", inPlace := ["internal/bytealg.IndexByteString", "internal/bytealg.IndexString"], unfollowed := true, recurses := true, named := ["unicode/utf8.first", "unicode/utf8.acceptRanges", "internal/bytealg.MaxLen"], apart := false, laid := [("unicode/utf8.acceptRanges", laid_unicode_utf8_acceptRanges), ("unicode/utf8.first", laid_unicode_utf8_first)] }
def FnExactTooLateSaid : Prop := fnExactTooLateRow.holds Tryd.pinned (OpenSpec.ofChange fnExactTooLateSpec)

/-- ITS FALSE NEIGHBOUR: 'it returns false'. Refute it at one input. -/
def fnExactTooLateWrong : ChangeSpec := { name := "fnExactTooLate", fn := fun _ => fun
  | [d1, d2, d3] => { results := [.lit (.bool false)], args := [d1, d2, d3] }
  | _ => none }
def FnExactTooLateWrongFalsely : Prop := fnExactTooLateRow.holds Tryd.pinned (OpenSpec.ofChange fnExactTooLateWrong)

/-- 'laws.FnExactUndoEdits': WHATEVER THE INPUT: true; the input reads as it did. -/
def fnExactUndoEditsSpec : ChangeSpec := { name := "fnExactUndoEdits", fn := fun _ => fun
  | [d1, d2] => { results := [.lit (.bool true)], args := [d1, d2] }
  | _ => none }
def fnExactUndoEditsRow : OpenClaim := { program := "ytalmeecdjhelkaadoor", sum := "59f3510f4cf27c28d8d9105aae4eac6306378ccdfadbf0c7800f2a91de3e6e95", func := "loop.example/g01055/laws.FnExactUndoEdits", spec := "fnExactUndoEdits", inPlace := ["internal/bytealg.IndexByteString", "internal/bytealg.IndexString"], unfollowed := true, recurses := true, named := ["unicode/utf8.first", "unicode/utf8.acceptRanges", "internal/bytealg.MaxLen"], apart := false, laid := [("unicode/utf8.acceptRanges", laid_unicode_utf8_acceptRanges), ("unicode/utf8.first", laid_unicode_utf8_first)] }
def FnExactUndoEditsSaid : Prop := fnExactUndoEditsRow.holds Tryd.pinned (OpenSpec.ofChange fnExactUndoEditsSpec)

/-- ITS FALSE NEIGHBOUR: 'it returns false'. Refute it at one input. -/
def fnExactUndoEditsWrong : ChangeSpec := { name := "fnExactUndoEdits", fn := fun _ => fun
  | [d1, d2] => { results := [.lit (.bool false)], args := [d1, d2] }
  | _ => none }
def FnExactUndoEditsWrongFalsely : Prop := fnExactUndoEditsRow.holds Tryd.pinned (OpenSpec.ofChange fnExactUndoEditsWrong)

/-- 'laws.FnDates': WHATEVER THE INPUT: true; the input reads as it did. -/
def fnDatesSpec : ChangeSpec := { name := "fnDates", fn := fun _ => fun
  | [d] => { results := [.lit (.bool true)], args := [d] }
  | _ => none }
def fnDatesRow : OpenClaim := { program := "ytalmeecdjhelkaadoor", sum := "59f3510f4cf27c28d8d9105aae4eac6306378ccdfadbf0c7800f2a91de3e6e95", func := "loop.example/g01055/laws.FnDates", spec := "fnDates", inPlace := ["internal/bytealg.IndexByteString", "internal/bytealg.IndexString"], unfollowed := true, recurses := true, named := ["unicode/utf8.first", "unicode/utf8.acceptRanges", "internal/bytealg.MaxLen"], apart := false, laid := [("unicode/utf8.acceptRanges", laid_unicode_utf8_acceptRanges), ("unicode/utf8.first", laid_unicode_utf8_first)] }
def FnDatesSaid : Prop := fnDatesRow.holds Tryd.pinned (OpenSpec.ofChange fnDatesSpec)

/-- ITS FALSE NEIGHBOUR: 'it returns false'. Refute it at one input. -/
def fnDatesWrong : ChangeSpec := { name := "fnDates", fn := fun _ => fun
  | [d] => { results := [.lit (.bool false)], args := [d] }
  | _ => none }
def FnDatesWrongFalsely : Prop := fnDatesRow.holds Tryd.pinned (OpenSpec.ofChange fnDatesWrong)

/-- 'laws.FnEditions': WHATEVER THE INPUT: true; the input reads as it did. -/
def fnEditionsSpec : ChangeSpec := { name := "fnEditions", fn := fun _ => fun
  | [d] => { results := [.lit (.bool true)], args := [d] }
  | _ => none }
def fnEditionsRow : OpenClaim := { program := "ytalmeecdjhelkaadoor", sum := "59f3510f4cf27c28d8d9105aae4eac6306378ccdfadbf0c7800f2a91de3e6e95", func := "loop.example/g01055/laws.FnEditions", spec := "fnEditions", inPlace := ["internal/bytealg.IndexByteString", "internal/bytealg.IndexString"], unfollowed := true, recurses := true, named := ["unicode/utf8.first", "unicode/utf8.acceptRanges", "internal/bytealg.MaxLen"], apart := false, laid := [("unicode/utf8.acceptRanges", laid_unicode_utf8_acceptRanges), ("unicode/utf8.first", laid_unicode_utf8_first)] }
def FnEditionsSaid : Prop := fnEditionsRow.holds Tryd.pinned (OpenSpec.ofChange fnEditionsSpec)

/-- ITS FALSE NEIGHBOUR: 'it returns false'. Refute it at one input. -/
def fnEditionsWrong : ChangeSpec := { name := "fnEditions", fn := fun _ => fun
  | [d] => { results := [.lit (.bool false)], args := [d] }
  | _ => none }
def FnEditionsWrongFalsely : Prop := fnEditionsRow.holds Tryd.pinned (OpenSpec.ofChange fnEditionsWrong)

/- THE SECOND FORM. 'bulk': how many values and letters a reading holds, each counted each time it is reached (what is shared counts as often as it is met; a slice's spare places count too). A statement '..UptoSaid' is the law's where the arguments, and the package variables that the reading takes, are together of bulk at most 1048576: NARROWER than '..Said'. Prove '..Said' where nothing that the law and all that it calls make is longer than what came in: it says more and counts as full. Else prove '..UptoSaid'. A law counts once. -/
mutual
def uptoBulk {H : Type} : DataW H → Nat
  | .lit (.string bytes) => bytes.length + 1
  | .lit _ => 1
  | .nil => 1
  | .ptr d => uptoBulk d + 1
  | .slice elems spare => uptoBulkAll elems + uptoBulkAll spare + 1
  | .agg parts => uptoBulkAll parts + 1
  | .iface _ d => uptoBulk d + 1
  | .map entries => uptoBulkEntries entries + 1
  | .held _ => 1
def uptoBulkAll {H : Type} : List (DataW H) → Nat
  | [] => 0
  | d :: r => uptoBulk d + uptoBulkAll r
def uptoBulkEntries {H : Type} : List (Lit × DataW H) → Nat
  | [] => 0
  | x :: r => uptoBulkEntry x + uptoBulkEntries r
def uptoBulkEntry {H : Type} : Lit × DataW H → Nat
  | (.string bytes, d) => bytes.length + uptoBulk d + 1
  | (_, d) => uptoBulk d + 1
 end
def uptoSmall : (H : Type) → List (DataW H) → Bool := fun _ ds => decide (uptoBulkAll ds ≤ 1048576)
def OpenSpec.upto (s : _root_.Go.ChangeSpec) : _root_.Go.OpenSpec := { _root_.Go.OpenSpec.ofChange s with cond := some uptoSmall }

/-- 'laws.FnExactNewNames', WHERE WHAT IT READS IS OF BULK AT MOST 1048576: true; the input reads as it did. -/
def fnExactNewNamesUptoRow : OpenClaim := { program := "ytalmeecdjhelkaadoor", sum := "59f3510f4cf27c28d8d9105aae4eac6306378ccdfadbf0c7800f2a91de3e6e95", func := "loop.example/g01055/laws.FnExactNewNames", spec := "fnExactNewNames", inPlace := ["internal/bytealg.IndexByteString", "internal/bytealg.IndexString"], named := ["unicode/utf8.first", "unicode/utf8.acceptRanges", "internal/bytealg.MaxLen"], apart := false, laid := [("unicode/utf8.acceptRanges", laid_unicode_utf8_acceptRanges), ("unicode/utf8.first", laid_unicode_utf8_first)], narrowed := true }
def FnExactNewNamesUptoSaid : Prop := fnExactNewNamesUptoRow.holds Tryd.pinned (OpenSpec.upto fnExactNewNamesSpec)

/-- 'laws.FnExactOldNames', WHERE WHAT IT READS IS OF BULK AT MOST 1048576: true; the input reads as it did. -/
def fnExactOldNamesUptoRow : OpenClaim := { program := "ytalmeecdjhelkaadoor", sum := "59f3510f4cf27c28d8d9105aae4eac6306378ccdfadbf0c7800f2a91de3e6e95", func := "loop.example/g01055/laws.FnExactOldNames", spec := "fnExactOldNames", inPlace := ["internal/bytealg.IndexByteString", "internal/bytealg.IndexString"], named := ["unicode/utf8.first", "unicode/utf8.acceptRanges", "internal/bytealg.MaxLen"], apart := false, laid := [("unicode/utf8.acceptRanges", laid_unicode_utf8_acceptRanges), ("unicode/utf8.first", laid_unicode_utf8_first)], narrowed := true }
def FnExactOldNamesUptoSaid : Prop := fnExactOldNamesUptoRow.holds Tryd.pinned (OpenSpec.upto fnExactOldNamesSpec)

/-- 'laws.FnExactTooLate', WHERE WHAT IT READS IS OF BULK AT MOST 1048576: true; the input reads as it did. -/
def fnExactTooLateUptoRow : OpenClaim := { program := "ytalmeecdjhelkaadoor", sum := "59f3510f4cf27c28d8d9105aae4eac6306378ccdfadbf0c7800f2a91de3e6e95", func := "loop.example/g01055/laws.FnExactTooLate", spec := "fnExactTooLate", inPlace := ["internal/bytealg.IndexByteString", "internal/bytealg.IndexString"], unfollowed := true, recurses := true, named := ["unicode/utf8.first", "unicode/utf8.acceptRanges", "internal/bytealg.MaxLen"], apart := false, laid := [("unicode/utf8.acceptRanges", laid_unicode_utf8_acceptRanges), ("unicode/utf8.first", laid_unicode_utf8_first)], narrowed := true }
def FnExactTooLateUptoSaid : Prop := fnExactTooLateUptoRow.holds Tryd.pinned (OpenSpec.upto fnExactTooLateSpec)

/-- 'laws.FnExactUndoEdits', WHERE WHAT IT READS IS OF BULK AT MOST 1048576: true; the input reads as it did. -/
def fnExactUndoEditsUptoRow : OpenClaim := { program := "ytalmeecdjhelkaadoor", sum := "59f3510f4cf27c28d8d9105aae4eac6306378ccdfadbf0c7800f2a91de3e6e95", func := "loop.example/g01055/laws.FnExactUndoEdits", spec := "fnExactUndoEdits", inPlace := ["internal/bytealg.IndexByteString", "internal/bytealg.IndexString"], unfollowed := true, recurses := true, named := ["unicode/utf8.first", "unicode/utf8.acceptRanges", "internal/bytealg.MaxLen"], apart := false, laid := [("unicode/utf8.acceptRanges", laid_unicode_utf8_acceptRanges), ("unicode/utf8.first", laid_unicode_utf8_first)], narrowed := true }
def FnExactUndoEditsUptoSaid : Prop := fnExactUndoEditsUptoRow.holds Tryd.pinned (OpenSpec.upto fnExactUndoEditsSpec)

/-- 'laws.FnDates', WHERE WHAT IT READS IS OF BULK AT MOST 1048576: true; the input reads as it did. -/
def fnDatesUptoRow : OpenClaim := { program := "ytalmeecdjhelkaadoor", sum := "59f3510f4cf27c28d8d9105aae4eac6306378ccdfadbf0c7800f2a91de3e6e95", func := "loop.example/g01055/laws.FnDates", spec := "fnDates", inPlace := ["internal/bytealg.IndexByteString", "internal/bytealg.IndexString"], unfollowed := true, recurses := true, named := ["unicode/utf8.first", "unicode/utf8.acceptRanges", "internal/bytealg.MaxLen"], apart := false, laid := [("unicode/utf8.acceptRanges", laid_unicode_utf8_acceptRanges), ("unicode/utf8.first", laid_unicode_utf8_first)], narrowed := true }
def FnDatesUptoSaid : Prop := fnDatesUptoRow.holds Tryd.pinned (OpenSpec.upto fnDatesSpec)

/-- 'laws.FnEditions', WHERE WHAT IT READS IS OF BULK AT MOST 1048576: true; the input reads as it did. -/
def fnEditionsUptoRow : OpenClaim := { program := "ytalmeecdjhelkaadoor", sum := "59f3510f4cf27c28d8d9105aae4eac6306378ccdfadbf0c7800f2a91de3e6e95", func := "loop.example/g01055/laws.FnEditions", spec := "fnEditions", inPlace := ["internal/bytealg.IndexByteString", "internal/bytealg.IndexString"], unfollowed := true, recurses := true, named := ["unicode/utf8.first", "unicode/utf8.acceptRanges", "internal/bytealg.MaxLen"], apart := false, laid := [("unicode/utf8.acceptRanges", laid_unicode_utf8_acceptRanges), ("unicode/utf8.first", laid_unicode_utf8_first)], narrowed := true }
def FnEditionsUptoSaid : Prop := fnEditionsUptoRow.holds Tryd.pinned (OpenSpec.upto fnEditionsSpec)

end Rows
end Go.Proofs.YtalmeecdjhelkaaDoor
