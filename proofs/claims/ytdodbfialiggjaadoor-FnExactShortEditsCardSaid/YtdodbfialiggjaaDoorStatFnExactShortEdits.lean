/- The plain statement that the row of FnExactShortEdits comes to: for all values that its arguments can read as, the printed function tells true. -/
import Derived.Test.YtdodbfialiggjaaDoorPFnExactShortEditsx7
namespace Go.Proofs.YtdodbfialiggjaaDoor.PFnExactShortEdits
open Go.RowKit Go.Proofs.YtdodbfialiggjaaDoorW.PrintWords
def laws_FnExactShortEdits.Pure : Prop := ∀ (l0 : List (S64)), l0.length ≤ maxLen → (∀ y ∈ l0, (Lit.int .i64 y.f0).wf = true ∧ y.f1.size ≤ maxLen ∧ y.f2.size ≤ maxLen) → ∃ k, laws_FnExactShortEdits.f k l0 = some true
end Go.Proofs.YtdodbfialiggjaaDoor.PFnExactShortEdits
