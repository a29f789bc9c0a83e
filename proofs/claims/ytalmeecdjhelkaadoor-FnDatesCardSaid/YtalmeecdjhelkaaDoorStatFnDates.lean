/- The plain statement that the row of FnDates comes to: for all values that its arguments can read as, the printed function tells true. -/
import Derived.Test.YtalmeecdjhelkaaDoorPFnDatesx18
namespace Go.Proofs.YtalmeecdjhelkaaDoor.PFnDates
open Go.RowKit Go.Proofs.YtalmeecdjhelkaaDoorW.PrintWords
def laws_FnDates.Pure : Prop := ∀ (l0 : List Int), l0.length ≤ maxLen → (∀ y ∈ l0, (Lit.int .u8 y).wf = true) → ∃ k, laws_FnDates.f k l0 = some true
end Go.Proofs.YtalmeecdjhelkaaDoor.PFnDates
