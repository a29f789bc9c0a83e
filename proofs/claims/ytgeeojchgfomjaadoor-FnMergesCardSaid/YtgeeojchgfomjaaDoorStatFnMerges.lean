/- The plain statement that the row of FnMerges comes to: for all values that its arguments can read as, the printed function tells true. -/
import Derived.Test.YtgeeojchgfomjaaDoorPFnMergesx4
namespace Go.Proofs.YtgeeojchgfomjaaDoor.PFnMerges
open Go.RowKit Go.Proofs.YtgeeojchgfomjaaDoorW.PrintWords
def laws_FnMerges.Pure : Prop := ∀ (l0 : List Int), l0.length ≤ maxLen → (∀ y ∈ l0, (Lit.int .u8 y).wf = true) → ∃ k, laws_FnMerges.f k l0 = some true
end Go.Proofs.YtgeeojchgfomjaaDoor.PFnMerges
