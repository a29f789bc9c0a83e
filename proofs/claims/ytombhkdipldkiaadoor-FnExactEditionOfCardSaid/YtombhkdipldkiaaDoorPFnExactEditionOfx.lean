-- Made by a program of this session (gprint.py) out of the kit's print of the translation and texts of my own.
import Derived.Test.YtombhkdipldkiaaDoorPFnExactEditionOfx0
import Derived.Test.YtombhkdipldkiaaDoorPFnExactEditionOfx1
import Derived.Test.YtombhkdipldkiaaDoorPFnExactEditionOfx2
import Derived.Test.YtombhkdipldkiaaDoorPFnExactEditionOfx3
import Derived.Test.YtombhkdipldkiaaDoorPFnExactEditionOfx4
import Derived.Test.YtombhkdipldkiaaDoorPFnExactEditionOfx5
import Derived.Test.YtombhkdipldkiaaDoorPFnExactEditionOfx6
import Derived.Test.YtombhkdipldkiaaDoorPFnExactEditionOfx7
import Derived.Test.YtombhkdipldkiaaDoorPFnExactEditionOfx8
import Derived.Test.YtombhkdipldkiaaDoorPFnExactEditionOfx9
namespace Go.Proofs.YtombhkdipldkiaaDoor.PFnExactEditionOf
open Go.RowKit Go.Proofs.YtombhkdipldkiaaDoorW.PrintWords Go.Proofs.YtombhkdipldkiaaDoorW.PrintLast Go.Proofs.YtombhkdipldkiaaDoorW.PrintMore
attribute [local go_sem] max2_int min2_int max_two min_two max_three min_three max_four min_four   -- for this text's walks alone
set_option linter.unusedVariables false
set_option linter.unusedSimpArgs false

end Go.Proofs.YtombhkdipldkiaaDoor.PFnExactEditionOf
