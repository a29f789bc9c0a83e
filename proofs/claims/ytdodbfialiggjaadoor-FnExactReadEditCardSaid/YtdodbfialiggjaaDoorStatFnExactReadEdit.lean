/- The plain statement that the row of FnExactReadEdit comes to: for all values that its arguments can read as, the printed function tells true. -/
import Derived.Test.YtdodbfialiggjaaDoorPFnExactReadEditx6
namespace Go.Proofs.YtdodbfialiggjaaDoor.PFnExactReadEdit
open Go.RowKit Go.Proofs.YtdodbfialiggjaaDoorW.PrintWords
def laws_FnExactReadEdit.Pure : Prop := ∀ (a0 : ByteArray), a0.size ≤ 140737488351232 → ∃ k, laws_FnExactReadEdit.f k a0 = some true
end Go.Proofs.YtdodbfialiggjaaDoor.PFnExactReadEdit
