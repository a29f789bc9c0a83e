/- The plain statement that the row of FnExactBetterGrain comes to: for all values that its arguments can read as, the printed function tells true. -/
import Derived.Test.YtoehbcdhplagfaaPFnExactBetterGrainx1
namespace Go.Proofs.Ytoehbcdhplagfaa.PFnExactBetterGrain
open Go.RowKit Go.Proofs.YtoehbcdhplagfaaW.PrintWords
def laws_FnExactBetterGrain.Pure : Prop := ∀ (a0_0 : Int) (a0_1 : Int) (a0_2 : Int) (a0_3 : Int) (a1 : Int) (a2 : Int), (Lit.int .i64 a0_0).wf = true → (Lit.int .i64 a0_1).wf = true → (Lit.int .i64 a0_2).wf = true → (Lit.int .i64 a0_3).wf = true → (Lit.int .i64 a1).wf = true → (Lit.int .i64 a2).wf = true → laws_FnExactBetterGrain.f a0_0 a0_1 a0_2 a0_3 a1 a2 = some true
end Go.Proofs.Ytoehbcdhplagfaa.PFnExactBetterGrain
