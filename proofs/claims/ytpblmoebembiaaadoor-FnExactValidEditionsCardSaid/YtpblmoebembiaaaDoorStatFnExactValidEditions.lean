/- The plain statement that the row of FnExactValidEditions comes to: for all values that its arguments can read as, the printed function tells true. -/
import Derived.Test.YtpblmoebembiaaaDoorPFnExactValidEditionsx5
namespace Go.Proofs.YtpblmoebembiaaaDoor.PFnExactValidEditions
open Go.RowKit Go.Proofs.YtpblmoebembiaaaDoorW.PrintWords
def laws_FnExactValidEditions.Pure : Prop := ∀ (l0 : List (S116)), l0.length ≤ maxLen → (∀ y ∈ l0, (Lit.int .i64 y.f0).wf = true ∧ y.f1.length ≤ maxLen ∧ (∀ z ∈ y.f1, z.size ≤ maxLen)) → ∃ k, laws_FnExactValidEditions.f k l0 = some true
end Go.Proofs.YtpblmoebembiaaaDoor.PFnExactValidEditions
