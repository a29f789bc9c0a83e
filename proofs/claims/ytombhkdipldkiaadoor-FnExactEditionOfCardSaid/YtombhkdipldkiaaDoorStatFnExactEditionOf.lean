/- The plain statement that the row of FnExactEditionOf comes to: for all values that its arguments can read as, the printed function tells true. -/
import Derived.Test.YtombhkdipldkiaaDoorPFnExactEditionOfx9
namespace Go.Proofs.YtombhkdipldkiaaDoor.PFnExactEditionOf
open Go.RowKit Go.Proofs.YtombhkdipldkiaaDoorW.PrintWords
def laws_FnExactEditionOf.Pure : Prop := ∀ (l0 : List (S87)) (l1 : List ByteArray), l0.length ≤ maxLen → (∀ y ∈ l0, (Lit.int .i64 y.f0).wf = true ∧ y.f1.length ≤ maxLen ∧ (∀ z ∈ y.f1, z.size ≤ maxLen)) → l1.length ≤ maxLen → (∀ y ∈ l1, y.size ≤ maxLen) → ∃ k, laws_FnExactEditionOf.f k l0 l1 = some true
end Go.Proofs.YtombhkdipldkiaaDoor.PFnExactEditionOf
