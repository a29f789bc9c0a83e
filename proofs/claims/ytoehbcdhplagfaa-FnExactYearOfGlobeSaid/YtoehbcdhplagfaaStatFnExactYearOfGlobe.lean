/- The plain statement that the row of FnExactYearOfGlobe comes to: for all values that its arguments can read as, the printed function tells true. -/
import Derived.Test.YtoehbcdhplagfaaPFnExactYearOfGlobex4
namespace Go.Proofs.Ytoehbcdhplagfaa.PFnExactYearOfGlobe
open Go.RowKit Go.Proofs.YtoehbcdhplagfaaW.PrintWords
def laws_FnExactYearOfGlobe.Pure : Prop := ∀ (l0 : List (S36)) (l1 : List (S36)) (a2 : Int), l0.length ≤ maxLen → (∀ y ∈ l0, (Lit.int .i64 y.f0).wf = true ∧ (Lit.int .i64 y.f1).wf = true) → l1.length ≤ maxLen → (∀ y ∈ l1, (Lit.int .i64 y.f0).wf = true ∧ (Lit.int .i64 y.f1).wf = true) → (Lit.int .i64 a2).wf = true → ∃ k, laws_FnExactYearOfGlobe.f k l0 l1 a2 = some true
end Go.Proofs.Ytoehbcdhplagfaa.PFnExactYearOfGlobe
