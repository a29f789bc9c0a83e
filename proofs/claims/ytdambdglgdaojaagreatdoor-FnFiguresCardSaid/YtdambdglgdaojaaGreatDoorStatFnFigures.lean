/- The plain statement that the row of FnFigures comes to: for all values that its arguments can read as, the printed function tells true. -/
import Derived.Test.YtdambdglgdaojaaGreatDoorPFnFiguresx14
namespace Go.Proofs.YtdambdglgdaojaaGreatDoor.PFnFigures
open Go.RowKit Go.Proofs.YtdambdglgdaojaaGreatDoorW.PrintWords
def laws_FnFigures.Pure : Prop := ∀ (l0 : List Int), l0.length ≤ maxLen → (∀ y ∈ l0, (Lit.int .u8 y).wf = true) → ∃ k, laws_FnFigures.f k l0 = some true
end Go.Proofs.YtdambdglgdaojaaGreatDoor.PFnFigures
