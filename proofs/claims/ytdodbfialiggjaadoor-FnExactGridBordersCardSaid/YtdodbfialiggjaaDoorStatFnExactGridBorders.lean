/- The plain statement that the row of FnExactGridBorders comes to: for all values that its arguments can read as, the printed function tells true. -/
import Derived.Test.YtdodbfialiggjaaDoorPFnExactGridBordersx8
namespace Go.Proofs.YtdodbfialiggjaaDoor.PFnExactGridBorders
open Go.RowKit Go.Proofs.YtdodbfialiggjaaDoorW.PrintWords
def laws_FnExactGridBorders.Pure : Prop := ∀ (l0 : List ByteArray), l0.length ≤ maxLen → (∀ y ∈ l0, y.size ≤ maxLen) → ∃ k, laws_FnExactGridBorders.f k l0 = some true
end Go.Proofs.YtdodbfialiggjaaDoor.PFnExactGridBorders
