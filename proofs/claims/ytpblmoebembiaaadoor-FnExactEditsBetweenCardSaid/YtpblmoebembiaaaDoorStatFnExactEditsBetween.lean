/- The plain statement that the row of FnExactEditsBetween comes to: for all values that its arguments can read as, the printed function tells true. -/
import Derived.Test.YtpblmoebembiaaaDoorPFnExactEditsBetweenx7
namespace Go.Proofs.YtpblmoebembiaaaDoor.PFnExactEditsBetween
open Go.RowKit Go.Proofs.YtpblmoebembiaaaDoorW.PrintWords
def laws_FnExactEditsBetween.Pure : Prop := ∀ (l0 : List ByteArray) (l1 : List ByteArray), l0.length ≤ maxLen → (∀ y ∈ l0, y.size ≤ maxLen) → l1.length ≤ maxLen → (∀ y ∈ l1, y.size ≤ maxLen) → ∃ k, laws_FnExactEditsBetween.f k l0 l1 = some true
end Go.Proofs.YtpblmoebembiaaaDoor.PFnExactEditsBetween
