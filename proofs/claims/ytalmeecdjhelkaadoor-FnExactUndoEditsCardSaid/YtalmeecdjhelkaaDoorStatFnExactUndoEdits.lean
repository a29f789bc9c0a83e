/- The plain statement that the row of FnExactUndoEdits comes to: for all values that its arguments can read as, the printed function tells true. -/
import Derived.Test.YtalmeecdjhelkaaDoorPFnExactUndoEditsx6
namespace Go.Proofs.YtalmeecdjhelkaaDoor.PFnExactUndoEdits
open Go.RowKit Go.Proofs.YtalmeecdjhelkaaDoorW.PrintWords
def laws_FnExactUndoEdits.Pure : Prop := ∀ (l0 : List ByteArray) (l1 : List (S98)), l0.length ≤ maxLen → (∀ y ∈ l0, y.size ≤ maxLen) → l1.length ≤ maxLen → (∀ y ∈ l1, (Lit.int .i64 y.f0).wf = true ∧ y.f1.size ≤ maxLen ∧ y.f2.size ≤ maxLen) → ∃ k, laws_FnExactUndoEdits.f k l0 l1 = some true
end Go.Proofs.YtalmeecdjhelkaaDoor.PFnExactUndoEdits
