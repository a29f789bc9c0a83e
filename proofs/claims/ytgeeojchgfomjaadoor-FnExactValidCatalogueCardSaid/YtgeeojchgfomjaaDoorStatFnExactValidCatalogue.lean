/- The plain statement that the row of FnExactValidCatalogue comes to: for all values that its arguments can read as, the printed function tells true. -/
import Derived.Test.YtgeeojchgfomjaaDoorPFnExactValidCataloguex3
namespace Go.Proofs.YtgeeojchgfomjaaDoor.PFnExactValidCatalogue
open Go.RowKit Go.Proofs.YtgeeojchgfomjaaDoorW.PrintWords
def laws_FnExactValidCatalogue.Pure : Prop := ∀ (l0 : List (S44)), l0.length ≤ maxLen → (∀ y ∈ l0, y.f0.size ≤ maxLen ∧ (Lit.int .i64 y.f1).wf = true ∧ (Lit.int .i64 y.f2.f0).wf = true ∧ (Lit.int .i64 y.f2.f1).wf = true) → ∃ k, laws_FnExactValidCatalogue.f k l0 = some true
end Go.Proofs.YtgeeojchgfomjaaDoor.PFnExactValidCatalogue
