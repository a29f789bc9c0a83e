/- The plain statement that the row of FnExactFirstShown comes to: for all values that its arguments can read as, the printed function tells true. -/
import Derived.Test.YtombhkdipldkiaaDoorPFnExactFirstShownx7
namespace Go.Proofs.YtombhkdipldkiaaDoor.PFnExactFirstShown
open Go.RowKit Go.Proofs.YtombhkdipldkiaaDoorW.PrintWords
def laws_FnExactFirstShown.Pure : Prop := ∀ (l0 : List (S87)) (a1 : ByteArray), l0.length ≤ maxLen → (∀ y ∈ l0, (Lit.int .i64 y.f0).wf = true ∧ y.f1.length ≤ maxLen ∧ (∀ z ∈ y.f1, z.size ≤ maxLen)) → a1.size ≤ 140737488351232 → ∃ k, laws_FnExactFirstShown.f k l0 a1 = some true
end Go.Proofs.YtombhkdipldkiaaDoor.PFnExactFirstShown
