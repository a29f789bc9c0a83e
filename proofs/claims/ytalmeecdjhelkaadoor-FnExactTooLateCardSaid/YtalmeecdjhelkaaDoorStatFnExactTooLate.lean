/- The plain statement that the row of FnExactTooLate comes to: for all values that its arguments can read as, the printed function tells true. -/
import Derived.Test.YtalmeecdjhelkaaDoorPFnExactTooLatex17
namespace Go.Proofs.YtalmeecdjhelkaaDoor.PFnExactTooLate
open Go.RowKit Go.Proofs.YtalmeecdjhelkaaDoorW.PrintWords
def laws_FnExactTooLate.Pure : Prop := ∀ (l0 : List (S80)) (l1 : List (S89)) (a2 : Int), l0.length ≤ maxLen → (∀ y ∈ l0, (Lit.int .i64 y.f0).wf = true ∧ y.f1.length ≤ maxLen ∧ (∀ z ∈ y.f1, z.size ≤ maxLen)) → l1.length ≤ maxLen → (∀ y ∈ l1, y.f0.size ≤ maxLen ∧ (Lit.int .i64 y.f1).wf = true ∧ (Lit.int .i64 y.f2).wf = true) → (Lit.int .i64 a2).wf = true → ∃ k, laws_FnExactTooLate.f k l0 l1 a2 = some true
end Go.Proofs.YtalmeecdjhelkaaDoor.PFnExactTooLate
