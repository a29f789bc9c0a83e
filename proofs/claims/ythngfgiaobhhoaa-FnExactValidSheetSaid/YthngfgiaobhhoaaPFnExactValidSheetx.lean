-- Made by a program of this session (gprint.py) out of the kit's print of the translation and texts of my own.
import Derived.Test.YthngfgiaobhhoaaPFnExactValidSheetx0
import Derived.Test.YthngfgiaobhhoaaPFnExactValidSheetx1
namespace Go.Proofs.Ythngfgiaobhhoaa.PFnExactValidSheet
open Go.RowKit Go.Proofs.YthngfgiaobhhoaaW.PrintWords Go.Proofs.YthngfgiaobhhoaaW.PrintLast Go.Proofs.YthngfgiaobhhoaaW.PrintMore
attribute [local go_sem] max2_int min2_int max_two min_two max_three min_three max_four min_four   -- for this text's walks alone
set_option linter.unusedVariables false
set_option linter.unusedSimpArgs false

end Go.Proofs.Ythngfgiaobhhoaa.PFnExactValidSheet
