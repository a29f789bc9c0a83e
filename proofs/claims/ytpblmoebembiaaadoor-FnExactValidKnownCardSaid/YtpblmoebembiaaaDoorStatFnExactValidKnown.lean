/- The plain statement that the row of FnExactValidKnown comes to: for all values that its arguments can read as, the printed function tells true. -/
import Derived.Test.YtpblmoebembiaaaDoorPFnExactValidKnownx5
namespace Go.Proofs.YtpblmoebembiaaaDoor.PFnExactValidKnown
open Go.RowKit Go.Proofs.YtpblmoebembiaaaDoorW.PrintWords
def laws_FnExactValidKnown.Pure : Prop := ∀ (l0 : List (S82)), l0.length ≤ maxLen → (∀ y ∈ l0, y.f0.size ≤ maxLen ∧ (Lit.int .i64 y.f1).wf = true ∧ (Lit.int .i64 y.f2).wf = true) → ∃ k, laws_FnExactValidKnown.f k l0 = some true
end Go.Proofs.YtpblmoebembiaaaDoor.PFnExactValidKnown
