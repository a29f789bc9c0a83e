/- The plain statement that the row of FnExactSamePlate comes to: for all values that its arguments can read as, the printed function tells true. -/
import Derived.Test.YthngfgiaobhhoaaPFnExactSamePlatex2
namespace Go.Proofs.Ythngfgiaobhhoaa.PFnExactSamePlate
open Go.RowKit Go.Proofs.YthngfgiaobhhoaaW.PrintWords
def laws_FnExactSamePlate.Pure : Prop := ∀ (l0 : List ByteArray) (l1 : List ByteArray), l0.length ≤ maxLen → (∀ y ∈ l0, y.size ≤ maxLen) → l1.length ≤ maxLen → (∀ y ∈ l1, y.size ≤ maxLen) → ∃ k, laws_FnExactSamePlate.f k l0 l1 = some true
end Go.Proofs.Ythngfgiaobhhoaa.PFnExactSamePlate
