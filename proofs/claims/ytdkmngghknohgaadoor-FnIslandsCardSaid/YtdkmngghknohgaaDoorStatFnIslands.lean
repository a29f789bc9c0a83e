/- The plain statement that the row of FnIslands comes to: for all values that its arguments can read as, the printed function tells true. -/
import Derived.Test.YtdkmngghknohgaaDoorPFnIslandsx12
namespace Go.Proofs.YtdkmngghknohgaaDoor.PFnIslands
open Go.RowKit Go.Proofs.YtdkmngghknohgaaDoorW.PrintWords
def laws_FnIslands.Pure : Prop := ∀ (l0 : List Int), l0.length ≤ maxLen → (∀ y ∈ l0, (Lit.int .u8 y).wf = true) → ∃ k, laws_FnIslands.f k l0 = some true
end Go.Proofs.YtdkmngghknohgaaDoor.PFnIslands
