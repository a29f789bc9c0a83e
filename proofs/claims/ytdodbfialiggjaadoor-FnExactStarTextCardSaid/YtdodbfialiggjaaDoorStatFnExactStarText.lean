/- The plain statement that the row of FnExactStarText comes to: for all values that its arguments can read as, the printed function tells true. -/
import Derived.Test.YtdodbfialiggjaaDoorPFnExactStarTextx3
namespace Go.Proofs.YtdodbfialiggjaaDoor.PFnExactStarText
open Go.RowKit Go.Proofs.YtdodbfialiggjaaDoorW.PrintWords
def laws_FnExactStarText.Pure : Prop := ∀ (a0_0 : ByteArray) (a0_1 : Int) (a0_2 : Int) (a0_3 : Int), a0_0.size ≤ maxLen → (Lit.int .i64 a0_1).wf = true → (Lit.int .i64 a0_2).wf = true → (Lit.int .i64 a0_3).wf = true → ∃ k, laws_FnExactStarText.f k a0_0 a0_1 a0_2 a0_3 = some true
end Go.Proofs.YtdodbfialiggjaaDoor.PFnExactStarText
