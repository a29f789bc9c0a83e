-- Made by a program of this session (gprint.py) out of the kit's print of the translation and texts of my own.
import Derived.Test.YtpblmoebembiaaaDoorPFnExactUnusedInx0
import Derived.Test.YtpblmoebembiaaaDoorPFnExactUnusedInx1
import Derived.Test.YtpblmoebembiaaaDoorPFnExactUnusedInx2
import Derived.Test.YtpblmoebembiaaaDoorPFnExactUnusedInx3
import Derived.Test.YtpblmoebembiaaaDoorPFnExactUnusedInx4
import Derived.Test.YtpblmoebembiaaaDoorPFnExactUnusedInx5
import Derived.Test.YtpblmoebembiaaaDoorPFnExactUnusedInx6
import Derived.Test.YtpblmoebembiaaaDoorPFnExactUnusedInx7
import Derived.Test.YtpblmoebembiaaaDoorPFnExactUnusedInx8
namespace Go.Proofs.YtpblmoebembiaaaDoor.PFnExactUnusedIn
open Go.RowKit Go.Proofs.YtpblmoebembiaaaDoorW.PrintWords Go.Proofs.YtpblmoebembiaaaDoorW.PrintLast Go.Proofs.YtpblmoebembiaaaDoorW.PrintMore
attribute [local go_sem] max2_int min2_int max_two min_two max_three min_three max_four min_four   -- for this text's walks alone
set_option linter.unusedVariables false
set_option linter.unusedSimpArgs false

end Go.Proofs.YtpblmoebembiaaaDoor.PFnExactUnusedIn
