/- The plain statement that the row of FnExactMovedStars comes to: for all values that its arguments can read as, the printed function tells true. -/
import Derived.Test.YtoehbcdhplagfaaPFnExactMovedStarsx4
namespace Go.Proofs.Ytoehbcdhplagfaa.PFnExactMovedStars
open Go.RowKit Go.Proofs.YtoehbcdhplagfaaW.PrintWords
def laws_FnExactMovedStars.Pure : Prop := ∀ (l0 : List (S36)) (a1 : Int) (a2 : Int) (a3 : Int), l0.length ≤ maxLen → (∀ y ∈ l0, (Lit.int .i64 y.f0).wf = true ∧ (Lit.int .i64 y.f1).wf = true) → (Lit.int .i64 a1).wf = true → (Lit.int .i64 a2).wf = true → (Lit.int .i64 a3).wf = true → ∃ k, laws_FnExactMovedStars.f k l0 a1 a2 a3 = some true
end Go.Proofs.Ytoehbcdhplagfaa.PFnExactMovedStars
