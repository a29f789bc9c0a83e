/- The plain statement that the row of FnExactEditionIn comes to: for all values that its arguments can read as, the printed function tells true. -/
import Derived.Test.YtpblmoebembiaaaDoorPFnExactEditionInx7
namespace Go.Proofs.YtpblmoebembiaaaDoor.PFnExactEditionIn
open Go.RowKit Go.Proofs.YtpblmoebembiaaaDoorW.PrintWords
def laws_FnExactEditionIn.Pure : Prop := ∀ (l0 : List (S116)) (a1 : Int), l0.length ≤ maxLen → (∀ y ∈ l0, (Lit.int .i64 y.f0).wf = true ∧ y.f1.length ≤ maxLen ∧ (∀ z ∈ y.f1, z.size ≤ maxLen)) → (Lit.int .i64 a1).wf = true → ∃ k, laws_FnExactEditionIn.f k l0 a1 = some true
end Go.Proofs.YtpblmoebembiaaaDoor.PFnExactEditionIn
