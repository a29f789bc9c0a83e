/- The plain statement that the row of FnExactCarryStar comes to: for all values that its arguments can read as, the printed function tells true. -/
import Derived.Test.YtoehbcdhplagfaaPFnExactCarryStarx1
namespace Go.Proofs.Ytoehbcdhplagfaa.PFnExactCarryStar
open Go.RowKit Go.Proofs.YtoehbcdhplagfaaW.PrintWords
def laws_FnExactCarryStar.Pure : Prop := ∀ (a0_0 : Int) (a0_1 : Int) (a1 : Int) (a2 : Int), (Lit.int .i64 a0_0).wf = true → (Lit.int .i64 a0_1).wf = true → (Lit.int .i64 a1).wf = true → (Lit.int .i64 a2).wf = true → laws_FnExactCarryStar.f a0_0 a0_1 a1 a2 = some true
end Go.Proofs.Ytoehbcdhplagfaa.PFnExactCarryStar
