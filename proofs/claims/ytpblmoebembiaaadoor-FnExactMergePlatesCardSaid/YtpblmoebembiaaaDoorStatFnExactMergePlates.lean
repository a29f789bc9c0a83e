/- The plain statement that the row of FnExactMergePlates comes to: for all values that its arguments can read as, the printed function tells true. -/
import Derived.Test.YtpblmoebembiaaaDoorPFnExactMergePlatesx6
namespace Go.Proofs.YtpblmoebembiaaaDoor.PFnExactMergePlates
open Go.RowKit Go.Proofs.YtpblmoebembiaaaDoorW.PrintWords
def laws_FnExactMergePlates.Pure : Prop := ∀ (l0 : List ByteArray) (l1 : List ByteArray) (l2 : List ByteArray), l0.length ≤ maxLen → (∀ y ∈ l0, y.size ≤ maxLen) → l1.length ≤ maxLen → (∀ y ∈ l1, y.size ≤ maxLen) → l2.length ≤ maxLen → (∀ y ∈ l2, y.size ≤ maxLen) → ∃ k, laws_FnExactMergePlates.f k l0 l1 l2 = some true
end Go.Proofs.YtpblmoebembiaaaDoor.PFnExactMergePlates
