/- The plain statement that the row of FnExactValidSheet comes to: for all values that its arguments can read as, the printed function tells true. -/
import Derived.Test.YthngfgiaobhhoaaPFnExactValidSheetx1
namespace Go.Proofs.Ythngfgiaobhhoaa.PFnExactValidSheet
open Go.RowKit Go.Proofs.YthngfgiaobhhoaaW.PrintWords
def laws_FnExactValidSheet.Pure : Prop := ∀ (a0_0 : Int) (a0_1 : Int) (a0_2 : Int) (a0_3 : Int), (Lit.int .i64 a0_0).wf = true → (Lit.int .i64 a0_1).wf = true → (Lit.int .i64 a0_2).wf = true → (Lit.int .i64 a0_3).wf = true → laws_FnExactValidSheet.f a0_0 a0_1 a0_2 a0_3 = some true
end Go.Proofs.Ythngfgiaobhhoaa.PFnExactValidSheet
