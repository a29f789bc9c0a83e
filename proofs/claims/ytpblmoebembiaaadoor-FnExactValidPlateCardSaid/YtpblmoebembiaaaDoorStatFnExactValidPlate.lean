/- The plain statement that the row of FnExactValidPlate comes to: for all values that its arguments can read as, the printed function tells true. -/
import Derived.Test.YtpblmoebembiaaaDoorPFnExactValidPlatex2
namespace Go.Proofs.YtpblmoebembiaaaDoor.PFnExactValidPlate
open Go.RowKit Go.Proofs.YtpblmoebembiaaaDoorW.PrintWords
def laws_FnExactValidPlate.Pure : Prop := ∀ (l0 : List ByteArray), l0.length ≤ maxLen → (∀ y ∈ l0, y.size ≤ maxLen) → ∃ k, laws_FnExactValidPlate.f k l0 = some true
end Go.Proofs.YtpblmoebembiaaaDoor.PFnExactValidPlate
