-- Made by a program of this session (gprint.py) out of the kit's print of the translation and texts of my own.
import Derived.Test.YtpblmoebembiaaaDoorPFnExactMergePlatesx0
import Derived.Test.YtpblmoebembiaaaDoorPFnExactMergePlatesx1
import Derived.Test.YtpblmoebembiaaaDoorPFnExactMergePlatesx2
import Derived.Test.YtpblmoebembiaaaDoorPFnExactMergePlatesx3
import Derived.Test.YtpblmoebembiaaaDoorPFnExactMergePlatesx4
import Derived.Test.YtpblmoebembiaaaDoorPFnExactMergePlatesx5
import Derived.Test.YtpblmoebembiaaaDoorPFnExactMergePlatesx6
namespace Go.Proofs.YtpblmoebembiaaaDoor.PFnExactMergePlates
open Go.RowKit Go.Proofs.YtpblmoebembiaaaDoorW.PrintWords Go.Proofs.YtpblmoebembiaaaDoorW.PrintLast Go.Proofs.YtpblmoebembiaaaDoorW.PrintMore
attribute [local go_sem] max2_int min2_int max_two min_two max_three min_three max_four min_four   -- for this text's walks alone
set_option linter.unusedVariables false
set_option linter.unusedSimpArgs false

end Go.Proofs.YtpblmoebembiaaaDoor.PFnExactMergePlates
