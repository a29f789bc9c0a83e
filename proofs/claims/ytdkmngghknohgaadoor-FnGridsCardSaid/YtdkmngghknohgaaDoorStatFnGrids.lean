/- The plain statement that the row of FnGrids comes to: for all values that its arguments can read as, the printed function tells true. -/
import Derived.Test.YtdkmngghknohgaaDoorPFnGridsx15
namespace Go.Proofs.YtdkmngghknohgaaDoor.PFnGrids
open Go.RowKit Go.Proofs.YtdkmngghknohgaaDoorW.PrintWords
def laws_FnGrids.Pure : Prop := ∀ (l0 : List Int), l0.length ≤ maxLen → (∀ y ∈ l0, (Lit.int .u8 y).wf = true) → ∃ k, laws_FnGrids.f k l0 = some true
end Go.Proofs.YtdkmngghknohgaaDoor.PFnGrids
