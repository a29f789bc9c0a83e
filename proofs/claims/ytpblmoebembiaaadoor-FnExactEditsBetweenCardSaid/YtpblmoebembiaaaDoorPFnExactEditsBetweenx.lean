-- Made by a program of this session (gprint.py) out of the kit's print of the translation and texts of my own.
import Derived.Test.YtpblmoebembiaaaDoorPFnExactEditsBetweenx0
import Derived.Test.YtpblmoebembiaaaDoorPFnExactEditsBetweenx1
import Derived.Test.YtpblmoebembiaaaDoorPFnExactEditsBetweenx2
import Derived.Test.YtpblmoebembiaaaDoorPFnExactEditsBetweenx3
import Derived.Test.YtpblmoebembiaaaDoorPFnExactEditsBetweenx4
import Derived.Test.YtpblmoebembiaaaDoorPFnExactEditsBetweenx5
import Derived.Test.YtpblmoebembiaaaDoorPFnExactEditsBetweenx6
import Derived.Test.YtpblmoebembiaaaDoorPFnExactEditsBetweenx7
namespace Go.Proofs.YtpblmoebembiaaaDoor.PFnExactEditsBetween
open Go.RowKit Go.Proofs.YtpblmoebembiaaaDoorW.PrintWords Go.Proofs.YtpblmoebembiaaaDoorW.PrintLast Go.Proofs.YtpblmoebembiaaaDoorW.PrintMore
attribute [local go_sem] max2_int min2_int max_two min_two max_three min_three max_four min_four   -- for this text's walks alone
set_option linter.unusedVariables false
set_option linter.unusedSimpArgs false

end Go.Proofs.YtpblmoebembiaaaDoor.PFnExactEditsBetween
