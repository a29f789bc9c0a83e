/- The plain statement that the row of FnExactUnusedIn comes to: for all values that its arguments can read as, the printed function tells true. -/
import Derived.Test.YtpblmoebembiaaaDoorPFnExactUnusedInx8
namespace Go.Proofs.YtpblmoebembiaaaDoor.PFnExactUnusedIn
open Go.RowKit Go.Proofs.YtpblmoebembiaaaDoorW.PrintWords
def laws_FnExactUnusedIn.Pure : Prop := ∀ (l0 : List (S82)) (a1 : Int), l0.length ≤ maxLen → (∀ y ∈ l0, y.f0.size ≤ maxLen ∧ (Lit.int .i64 y.f1).wf = true ∧ (Lit.int .i64 y.f2).wf = true) → (Lit.int .i64 a1).wf = true → ∃ k, laws_FnExactUnusedIn.f k l0 a1 = some true
end Go.Proofs.YtpblmoebembiaaaDoor.PFnExactUnusedIn
