-- Made by a program of this session (gprint.py) out of the kit's print of the translation and texts of my own.
import Derived.Test.YtalmeecdjhelkaaDoorPFnExactNewNamesx0
import Derived.Test.YtalmeecdjhelkaaDoorPFnExactNewNamesx1
import Derived.Test.YtalmeecdjhelkaaDoorPFnExactNewNamesx2
import Derived.Test.YtalmeecdjhelkaaDoorPFnExactNewNamesx3
import Derived.Test.YtalmeecdjhelkaaDoorPFnExactNewNamesx4
import Derived.Test.YtalmeecdjhelkaaDoorPFnExactNewNamesx5
import Derived.Test.YtalmeecdjhelkaaDoorPFnExactNewNamesx6
import Derived.Test.YtalmeecdjhelkaaDoorPFnExactNewNamesx7
import Derived.Test.YtalmeecdjhelkaaDoorPFnExactNewNamesx8
namespace Go.Proofs.YtalmeecdjhelkaaDoor.PFnExactNewNames
open Go.RowKit Go.Proofs.YtalmeecdjhelkaaDoorW.PrintWords Go.Proofs.YtalmeecdjhelkaaDoorW.PrintLast Go.Proofs.YtalmeecdjhelkaaDoorW.PrintMore
attribute [local go_sem] max2_int min2_int max_two min_two max_three min_three max_four min_four   -- for this text's walks alone
set_option linter.unusedVariables false
set_option linter.unusedSimpArgs false

end Go.Proofs.YtalmeecdjhelkaaDoor.PFnExactNewNames
