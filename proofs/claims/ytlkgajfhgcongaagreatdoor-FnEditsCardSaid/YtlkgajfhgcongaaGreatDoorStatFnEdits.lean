/- The plain statement that the row of FnEdits comes to: for all values that its arguments can read as, the printed function tells true. -/
import Derived.Test.YtlkgajfhgcongaaGreatDoorPFnEditsx10
namespace Go.Proofs.YtlkgajfhgcongaaGreatDoor.PFnEdits
open Go.RowKit Go.Proofs.YtlkgajfhgcongaaGreatDoorW.PrintWords
def laws_FnEdits.Pure : Prop := ∀ (l0 : List Int) (l1 : List Int), l0.length ≤ maxLen → (∀ y ∈ l0, (Lit.int .u8 y).wf = true) → l1.length ≤ maxLen → (∀ y ∈ l1, (Lit.int .u8 y).wf = true) → ∃ k, laws_FnEdits.f k l0 l1 = some true
end Go.Proofs.YtlkgajfhgcongaaGreatDoor.PFnEdits
