/- The plain statement that the row of FnExactOldNames comes to: for all values that its arguments can read as, the printed function tells true. -/
import Derived.Test.YtalmeecdjhelkaaDoorPFnExactOldNamesx9
namespace Go.Proofs.YtalmeecdjhelkaaDoor.PFnExactOldNames
open Go.RowKit Go.Proofs.YtalmeecdjhelkaaDoorW.PrintWords
def laws_FnExactOldNames.Pure : Prop := ∀ (l0 : List (S80)) (a1 : Int), l0.length ≤ maxLen → (∀ y ∈ l0, (Lit.int .i64 y.f0).wf = true ∧ y.f1.length ≤ maxLen ∧ (∀ z ∈ y.f1, z.size ≤ maxLen)) → (Lit.int .i64 a1).wf = true → ∃ k, laws_FnExactOldNames.f k l0 a1 = some true
end Go.Proofs.YtalmeecdjhelkaaDoor.PFnExactOldNames
