-- Made by a program of this session (gprint.py) out of the kit's print of the translation and texts of my own.
import Derived.Test.YtdodbfialiggjaaDoorPFnExactShortEditsx0
import Derived.Test.YtdodbfialiggjaaDoorPFnExactShortEditsx1
import Derived.Test.YtdodbfialiggjaaDoorPFnExactShortEditsx2
import Derived.Test.YtdodbfialiggjaaDoorPFnExactShortEditsx3
import Derived.Test.YtdodbfialiggjaaDoorPFnExactShortEditsx4
import Derived.Test.YtdodbfialiggjaaDoorPFnExactShortEditsx5
import Derived.Test.YtdodbfialiggjaaDoorPFnExactShortEditsx6
import Derived.Test.YtdodbfialiggjaaDoorPFnExactShortEditsx7
namespace Go.Proofs.YtdodbfialiggjaaDoor.PFnExactShortEdits
open Go.RowKit Go.Proofs.YtdodbfialiggjaaDoorW.PrintWords Go.Proofs.YtdodbfialiggjaaDoorW.PrintLast Go.Proofs.YtdodbfialiggjaaDoorW.PrintMore
attribute [local go_sem] max2_int min2_int max_two min_two max_three min_three max_four min_four   -- for this text's walks alone
set_option linter.unusedVariables false
set_option linter.unusedSimpArgs false

end Go.Proofs.YtdodbfialiggjaaDoor.PFnExactShortEdits
