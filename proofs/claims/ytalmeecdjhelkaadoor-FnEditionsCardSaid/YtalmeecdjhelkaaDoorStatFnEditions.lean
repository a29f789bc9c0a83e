/- The plain statement that the row of FnEditions comes to: for all values that its arguments can read as, the printed function tells true. -/
import Derived.Test.YtalmeecdjhelkaaDoorPFnEditionsx15
namespace Go.Proofs.YtalmeecdjhelkaaDoor.PFnEditions
open Go.RowKit Go.Proofs.YtalmeecdjhelkaaDoorW.PrintWords
def laws_FnEditions.Pure : Prop := ∀ (l0 : List Int), l0.length ≤ maxLen → (∀ y ∈ l0, (Lit.int .u8 y).wf = true) → ∃ k, laws_FnEditions.f k l0 = some true
end Go.Proofs.YtalmeecdjhelkaaDoor.PFnEditions
