/- The plain statement that the row of FnExactEditText comes to: for all values that its arguments can read as, the printed function tells true. -/
import Derived.Test.YtombhkdipldkiaaDoorPFnExactEditTextx3
namespace Go.Proofs.YtombhkdipldkiaaDoor.PFnExactEditText
open Go.RowKit Go.Proofs.YtombhkdipldkiaaDoorW.PrintWords
def laws_FnExactEditText.Pure : Prop := ∀ (a0_0 : Int) (a0_1 : ByteArray) (a0_2 : ByteArray), (Lit.int .i64 a0_0).wf = true → a0_1.size ≤ maxLen → a0_2.size ≤ maxLen → ∃ k, laws_FnExactEditText.f k a0_0 a0_1 a0_2 = some true
end Go.Proofs.YtombhkdipldkiaaDoor.PFnExactEditText
