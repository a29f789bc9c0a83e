/- The plain statement that the row of FnExactValidEdits comes to: for all values that its arguments can read as, the printed function tells true. -/
import Derived.Test.YtpblmoebembiaaaDoorPFnExactValidEditsx3
namespace Go.Proofs.YtpblmoebembiaaaDoor.PFnExactValidEdits
open Go.RowKit Go.Proofs.YtpblmoebembiaaaDoorW.PrintWords
def laws_FnExactValidEdits.Pure : Prop := ∀ (l0 : List (S96)), l0.length ≤ maxLen → (∀ y ∈ l0, (Lit.int .i64 y.f0).wf = true ∧ y.f1.size ≤ maxLen ∧ y.f2.size ≤ maxLen) → ∃ k, laws_FnExactValidEdits.f k l0 = some true
end Go.Proofs.YtpblmoebembiaaaDoor.PFnExactValidEdits
