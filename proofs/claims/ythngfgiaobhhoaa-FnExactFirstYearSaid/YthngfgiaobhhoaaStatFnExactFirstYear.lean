/- The plain statement that the row of FnExactFirstYear comes to: for all values that its arguments can read as, the printed function tells true. -/
import Derived.Test.YthngfgiaobhhoaaPFnExactFirstYearx1
namespace Go.Proofs.Ythngfgiaobhhoaa.PFnExactFirstYear
open Go.RowKit Go.Proofs.YthngfgiaobhhoaaW.PrintWords
def laws_FnExactFirstYear.Pure : Prop := ∀ (a0_0 : Int) (a0_1 : Int) (a1 : Int) (a2 : Int), (Lit.int .i64 a0_0).wf = true → (Lit.int .i64 a0_1).wf = true → (Lit.int .i64 a1).wf = true → (Lit.int .i64 a2).wf = true → ∃ k, laws_FnExactFirstYear.f k a0_0 a0_1 a1 a2 = some true
end Go.Proofs.Ythngfgiaobhhoaa.PFnExactFirstYear
