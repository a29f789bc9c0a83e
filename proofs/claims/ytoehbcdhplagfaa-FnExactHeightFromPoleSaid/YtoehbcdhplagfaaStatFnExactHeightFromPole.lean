/- The plain statement that the row of FnExactHeightFromPole comes to: for all values that its arguments can read as, the printed function tells true. -/
import Derived.Test.YtoehbcdhplagfaaPFnExactHeightFromPolex4
namespace Go.Proofs.Ytoehbcdhplagfaa.PFnExactHeightFromPole
open Go.RowKit Go.Proofs.YtoehbcdhplagfaaW.PrintWords
def laws_FnExactHeightFromPole.Pure : Prop := ∀ (a0_0 : Int) (a0_1 : Int) (a1 : Int) (a2 : Int), (Lit.int .i64 a0_0).wf = true → (Lit.int .i64 a0_1).wf = true → (Lit.int .i64 a1).wf = true → (Lit.int .i64 a2).wf = true → ∃ k, laws_FnExactHeightFromPole.f k a0_0 a0_1 a1 a2 = some true
end Go.Proofs.Ytoehbcdhplagfaa.PFnExactHeightFromPole
