-- Made by a program of this session (gprint.py) out of the kit's print of the translation and texts of my own.
import Derived.Test.YtombhkdipldkiaaDoorPFnExactEditTextx0
import Derived.Test.YtombhkdipldkiaaDoorPFnExactEditTextx1
import Derived.Test.YtombhkdipldkiaaDoorPFnExactEditTextx2
import Derived.Test.YtombhkdipldkiaaDoorPFnExactEditTextx3
namespace Go.Proofs.YtombhkdipldkiaaDoor.PFnExactEditText
open Go.RowKit Go.Proofs.YtombhkdipldkiaaDoorW.PrintWords Go.Proofs.YtombhkdipldkiaaDoorW.PrintLast Go.Proofs.YtombhkdipldkiaaDoorW.PrintMore
attribute [local go_sem] max2_int min2_int max_two min_two max_three min_three max_four min_four   -- for this text's walks alone
set_option linter.unusedVariables false
set_option linter.unusedSimpArgs false

end Go.Proofs.YtombhkdipldkiaaDoor.PFnExactEditText
