/- The plain statement that the row of FnExactMatchSheets comes to: for all values that its arguments can read as, the printed function tells true. -/
import Derived.Test.YtoehbcdhplagfaaPFnExactMatchSheetsx5
namespace Go.Proofs.Ytoehbcdhplagfaa.PFnExactMatchSheets
open Go.RowKit Go.Proofs.YtoehbcdhplagfaaW.PrintWords
def laws_FnExactMatchSheets.Pure : Prop := ∀ (l0 : List (S23)), l0.length ≤ maxLen → (∀ y ∈ l0, (Lit.int .i64 y.f0).wf = true ∧ (Lit.int .i64 y.f1).wf = true ∧ (Lit.int .i64 y.f2).wf = true ∧ (Lit.int .i64 y.f3).wf = true) → ∃ k, laws_FnExactMatchSheets.f k l0 = some true
end Go.Proofs.Ytoehbcdhplagfaa.PFnExactMatchSheets
