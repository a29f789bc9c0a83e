/- The plain statement that the row of FnExactGiveLand comes to: for all values that its arguments can read as, the printed function tells true. -/
import Derived.Test.YtdodbfialiggjaaDoorPFnExactGiveLandx5
namespace Go.Proofs.YtdodbfialiggjaaDoor.PFnExactGiveLand
open Go.RowKit Go.Proofs.YtdodbfialiggjaaDoorW.PrintWords
def laws_FnExactGiveLand.Pure : Prop := ∀ (l0 : List ByteArray) (a1 : ByteArray) (a2 : ByteArray), l0.length ≤ maxLen → (∀ y ∈ l0, y.size ≤ maxLen) → a1.size ≤ 140737488351232 → a2.size ≤ 140737488351232 → ∃ k, laws_FnExactGiveLand.f k l0 a1 a2 = some true
end Go.Proofs.YtdodbfialiggjaaDoor.PFnExactGiveLand
