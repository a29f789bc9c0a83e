/- The plain statement that the row of FnExactCountClasses comes to: for all values that its arguments can read as, the printed function tells true. -/
import Derived.Test.YtombhkdipldkiaaDoorPFnExactCountClassesx5
namespace Go.Proofs.YtombhkdipldkiaaDoor.PFnExactCountClasses
open Go.RowKit Go.Proofs.YtombhkdipldkiaaDoorW.PrintWords
def laws_FnExactCountClasses.Pure : Prop := ∀ (l0 : List (S99)), l0.length ≤ maxLen → (∀ y ∈ l0, y.f0.size ≤ maxLen ∧ (Lit.int .i64 y.f1).wf = true ∧ (Lit.int .i64 y.f2.f0).wf = true ∧ (Lit.int .i64 y.f2.f1).wf = true) → ∃ k, laws_FnExactCountClasses.f k l0 = some true
end Go.Proofs.YtombhkdipldkiaaDoor.PFnExactCountClasses
