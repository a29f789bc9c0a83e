/- The plain statement that the row of FnExactEndsOfFigure comes to: for all values that its arguments can read as, the printed function tells true. -/
import Derived.Test.YtgeeojchgfomjaaDoorPFnExactEndsOfFigurex8
namespace Go.Proofs.YtgeeojchgfomjaaDoor.PFnExactEndsOfFigure
open Go.RowKit Go.Proofs.YtgeeojchgfomjaaDoorW.PrintWords
def laws_FnExactEndsOfFigure.Pure : Prop := ∀ (l0 : List (S44)) (l1 : List (S105)), l0.length ≤ maxLen → (∀ y ∈ l0, y.f0.size ≤ maxLen ∧ (Lit.int .i64 y.f1).wf = true ∧ (Lit.int .i64 y.f2.f0).wf = true ∧ (Lit.int .i64 y.f2.f1).wf = true) → l1.length ≤ maxLen → (∀ y ∈ l1, (Lit.int .i64 y.f0).wf = true ∧ (Lit.int .i64 y.f1).wf = true) → ∃ k, laws_FnExactEndsOfFigure.f k l0 l1 = some true
end Go.Proofs.YtgeeojchgfomjaaDoor.PFnExactEndsOfFigure
