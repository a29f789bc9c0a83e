/- The plain statement that the row of FnExactDateBy comes to: for all values that its arguments can read as, the printed function tells true. -/
import Derived.Test.YtombhkdipldkiaaDoorPFnExactDateByx8
namespace Go.Proofs.YtombhkdipldkiaaDoor.PFnExactDateBy
open Go.RowKit Go.Proofs.YtombhkdipldkiaaDoorW.PrintWords
def laws_FnExactDateBy.Pure : Prop := ∀ (l0 : List (S121)) (l1 : List ByteArray), l0.length ≤ maxLen → (∀ y ∈ l0, y.f0.size ≤ maxLen ∧ (Lit.int .i64 y.f1).wf = true ∧ (Lit.int .i64 y.f2).wf = true) → l1.length ≤ maxLen → (∀ y ∈ l1, y.size ≤ maxLen) → ∃ k, laws_FnExactDateBy.f k l0 l1 = some true
end Go.Proofs.YtombhkdipldkiaaDoor.PFnExactDateBy
