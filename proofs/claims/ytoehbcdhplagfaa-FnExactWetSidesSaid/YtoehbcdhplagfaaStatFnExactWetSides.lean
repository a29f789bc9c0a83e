/- The plain statement that the row of FnExactWetSides comes to: for all values that its arguments can read as, the printed function tells true. -/
import Derived.Test.YtoehbcdhplagfaaPFnExactWetSidesx2
namespace Go.Proofs.Ytoehbcdhplagfaa.PFnExactWetSides
open Go.RowKit Go.Proofs.YtoehbcdhplagfaaW.PrintWords
def laws_FnExactWetSides.Pure : Prop := ∀ (a0_0 : Int) (a0_1 : Int) (a0_2 : Int) (a0_3 : Int), (Lit.int .i64 a0_0).wf = true → (Lit.int .i64 a0_1).wf = true → (Lit.int .i64 a0_2).wf = true → (Lit.int .i64 a0_3).wf = true → ∃ k, laws_FnExactWetSides.f k a0_0 a0_1 a0_2 a0_3 = some true
end Go.Proofs.Ytoehbcdhplagfaa.PFnExactWetSides
