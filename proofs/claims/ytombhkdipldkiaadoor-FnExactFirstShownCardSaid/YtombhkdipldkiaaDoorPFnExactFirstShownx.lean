-- Made by a program of this session (gprint.py) out of the kit's print of the translation and texts of my own.
import Derived.Test.YtombhkdipldkiaaDoorPFnExactFirstShownx0
import Derived.Test.YtombhkdipldkiaaDoorPFnExactFirstShownx1
import Derived.Test.YtombhkdipldkiaaDoorPFnExactFirstShownx2
import Derived.Test.YtombhkdipldkiaaDoorPFnExactFirstShownx3
import Derived.Test.YtombhkdipldkiaaDoorPFnExactFirstShownx4
import Derived.Test.YtombhkdipldkiaaDoorPFnExactFirstShownx5
import Derived.Test.YtombhkdipldkiaaDoorPFnExactFirstShownx6
import Derived.Test.YtombhkdipldkiaaDoorPFnExactFirstShownx7
namespace Go.Proofs.YtombhkdipldkiaaDoor.PFnExactFirstShown
open Go.RowKit Go.Proofs.YtombhkdipldkiaaDoorW.PrintWords Go.Proofs.YtombhkdipldkiaaDoorW.PrintLast Go.Proofs.YtombhkdipldkiaaDoorW.PrintMore
attribute [local go_sem] max2_int min2_int max_two min_two max_three min_three max_four min_four   -- for this text's walks alone
set_option linter.unusedVariables false
set_option linter.unusedSimpArgs false

end Go.Proofs.YtombhkdipldkiaaDoor.PFnExactFirstShown
