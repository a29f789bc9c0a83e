/- The plain statement that the row of FnExactPapersFor comes to: for all values that its arguments can read as, the printed function tells true. -/
import Derived.Test.YtoehbcdhplagfaaPFnExactPapersForx2
namespace Go.Proofs.Ytoehbcdhplagfaa.PFnExactPapersFor
open Go.RowKit Go.Proofs.YtoehbcdhplagfaaW.PrintWords
def laws_FnExactPapersFor.Pure : Prop := ∀ (a0_0 : Int) (a0_1 : Int) (a0_2 : Int) (a0_3 : Int) (a1 : Int) (a2 : Int) (a3 : Int), (Lit.int .i64 a0_0).wf = true → (Lit.int .i64 a0_1).wf = true → (Lit.int .i64 a0_2).wf = true → (Lit.int .i64 a0_3).wf = true → (Lit.int .i64 a1).wf = true → (Lit.int .i64 a2).wf = true → (Lit.int .i64 a3).wf = true → ∃ k, laws_FnExactPapersFor.f k a0_0 a0_1 a0_2 a0_3 a1 a2 a3 = some true
end Go.Proofs.Ytoehbcdhplagfaa.PFnExactPapersFor
