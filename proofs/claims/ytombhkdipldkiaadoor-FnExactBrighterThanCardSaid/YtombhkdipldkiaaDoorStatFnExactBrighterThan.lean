/- The plain statement that the row of FnExactBrighterThan comes to: for all values that its arguments can read as, the printed function tells true. -/
import Derived.Test.YtombhkdipldkiaaDoorPFnExactBrighterThanx5
namespace Go.Proofs.YtombhkdipldkiaaDoor.PFnExactBrighterThan
open Go.RowKit Go.Proofs.YtombhkdipldkiaaDoorW.PrintWords
def laws_FnExactBrighterThan.Pure : Prop := ∀ (l0 : List (S99)) (a1 : Int), l0.length ≤ maxLen → (∀ y ∈ l0, y.f0.size ≤ maxLen ∧ (Lit.int .i64 y.f1).wf = true ∧ (Lit.int .i64 y.f2.f0).wf = true ∧ (Lit.int .i64 y.f2.f1).wf = true) → (Lit.int .i64 a1).wf = true → ∃ k, laws_FnExactBrighterThan.f k l0 a1 = some true
end Go.Proofs.YtombhkdipldkiaaDoor.PFnExactBrighterThan
