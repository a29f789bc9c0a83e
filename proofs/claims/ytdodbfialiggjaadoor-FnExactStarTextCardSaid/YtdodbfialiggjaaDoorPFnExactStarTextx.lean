-- Made by a program of this session (gprint.py) out of the kit's print of the translation and texts of my own.
import Derived.Test.YtdodbfialiggjaaDoorPFnExactStarTextx0
import Derived.Test.YtdodbfialiggjaaDoorPFnExactStarTextx1
import Derived.Test.YtdodbfialiggjaaDoorPFnExactStarTextx2
import Derived.Test.YtdodbfialiggjaaDoorPFnExactStarTextx3
namespace Go.Proofs.YtdodbfialiggjaaDoor.PFnExactStarText
open Go.RowKit Go.Proofs.YtdodbfialiggjaaDoorW.PrintWords Go.Proofs.YtdodbfialiggjaaDoorW.PrintLast Go.Proofs.YtdodbfialiggjaaDoorW.PrintMore
attribute [local go_sem] max2_int min2_int max_two min_two max_three min_three max_four min_four   -- for this text's walks alone
set_option linter.unusedVariables false
set_option linter.unusedSimpArgs false

end Go.Proofs.YtdodbfialiggjaaDoor.PFnExactStarText
