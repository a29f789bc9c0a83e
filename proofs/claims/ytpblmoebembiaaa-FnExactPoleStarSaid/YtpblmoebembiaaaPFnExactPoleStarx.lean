-- Made by a program of this session (gprint.py) out of the kit's print of the translation and texts of my own.
import Derived.Test.YtpblmoebembiaaaPFnExactPoleStarx0
import Derived.Test.YtpblmoebembiaaaPFnExactPoleStarx1
import Derived.Test.YtpblmoebembiaaaPFnExactPoleStarx2
import Derived.Test.YtpblmoebembiaaaPFnExactPoleStarx3
import Derived.Test.YtpblmoebembiaaaPFnExactPoleStarx4
import Derived.Test.YtpblmoebembiaaaPFnExactPoleStarx5
import Derived.Test.YtpblmoebembiaaaPFnExactPoleStarx6
namespace Go.Proofs.Ytpblmoebembiaaa.PFnExactPoleStar
open Go.RowKit Go.Proofs.YtpblmoebembiaaaW.PrintWords Go.Proofs.YtpblmoebembiaaaW.PrintLast Go.Proofs.YtpblmoebembiaaaW.PrintMore
attribute [local go_sem] max2_int min2_int max_two min_two max_three min_three max_four min_four   -- for this text's walks alone
set_option linter.unusedVariables false
set_option linter.unusedSimpArgs false

end Go.Proofs.Ytpblmoebembiaaa.PFnExactPoleStar
