-- Made by a program of this session (gprint.py) out of the kit's print of the translation and texts of my own.
import Derived.Test.YtdodbfialiggjaaDoorPFnExactGiveLandx0
import Derived.Test.YtdodbfialiggjaaDoorPFnExactGiveLandx1
import Derived.Test.YtdodbfialiggjaaDoorPFnExactGiveLandx2
import Derived.Test.YtdodbfialiggjaaDoorPFnExactGiveLandx3
import Derived.Test.YtdodbfialiggjaaDoorPFnExactGiveLandx4
import Derived.Test.YtdodbfialiggjaaDoorPFnExactGiveLandx5
namespace Go.Proofs.YtdodbfialiggjaaDoor.PFnExactGiveLand
open Go.RowKit Go.Proofs.YtdodbfialiggjaaDoorW.PrintWords Go.Proofs.YtdodbfialiggjaaDoorW.PrintLast Go.Proofs.YtdodbfialiggjaaDoorW.PrintMore
attribute [local go_sem] max2_int min2_int max_two min_two max_three min_three max_four min_four   -- for this text's walks alone
set_option linter.unusedVariables false
set_option linter.unusedSimpArgs false

end Go.Proofs.YtdodbfialiggjaaDoor.PFnExactGiveLand
