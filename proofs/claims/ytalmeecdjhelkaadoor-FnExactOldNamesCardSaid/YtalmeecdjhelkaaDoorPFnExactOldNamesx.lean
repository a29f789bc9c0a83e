-- Made by a program of this session (gprint.py) out of the kit's print of the translation and texts of my own.
import Derived.Test.YtalmeecdjhelkaaDoorPFnExactOldNamesx0
import Derived.Test.YtalmeecdjhelkaaDoorPFnExactOldNamesx1
import Derived.Test.YtalmeecdjhelkaaDoorPFnExactOldNamesx2
import Derived.Test.YtalmeecdjhelkaaDoorPFnExactOldNamesx3
import Derived.Test.YtalmeecdjhelkaaDoorPFnExactOldNamesx4
import Derived.Test.YtalmeecdjhelkaaDoorPFnExactOldNamesx5
import Derived.Test.YtalmeecdjhelkaaDoorPFnExactOldNamesx6
import Derived.Test.YtalmeecdjhelkaaDoorPFnExactOldNamesx7
import Derived.Test.YtalmeecdjhelkaaDoorPFnExactOldNamesx8
import Derived.Test.YtalmeecdjhelkaaDoorPFnExactOldNamesx9
namespace Go.Proofs.YtalmeecdjhelkaaDoor.PFnExactOldNames
open Go.RowKit Go.Proofs.YtalmeecdjhelkaaDoorW.PrintWords Go.Proofs.YtalmeecdjhelkaaDoorW.PrintLast Go.Proofs.YtalmeecdjhelkaaDoorW.PrintMore
attribute [local go_sem] max2_int min2_int max_two min_two max_three min_three max_four min_four   -- for this text's walks alone
set_option linter.unusedVariables false
set_option linter.unusedSimpArgs false

end Go.Proofs.YtalmeecdjhelkaaDoor.PFnExactOldNames
