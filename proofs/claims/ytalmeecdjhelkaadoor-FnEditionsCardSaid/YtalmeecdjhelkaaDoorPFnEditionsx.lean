-- Made by a program of this session (gprint.py) out of the kit's print of the translation and texts of my own. SLIM
import Derived.Test.YtalmeecdjhelkaaDoorPFnEditionsx0
import Derived.Test.YtalmeecdjhelkaaDoorPFnEditionsx1
import Derived.Test.YtalmeecdjhelkaaDoorPFnEditionsx2
import Derived.Test.YtalmeecdjhelkaaDoorPFnEditionsx3
import Derived.Test.YtalmeecdjhelkaaDoorPFnEditionsx4
import Derived.Test.YtalmeecdjhelkaaDoorPFnEditionsx5
import Derived.Test.YtalmeecdjhelkaaDoorPFnEditionsx6
import Derived.Test.YtalmeecdjhelkaaDoorPFnEditionsx7
import Derived.Test.YtalmeecdjhelkaaDoorPFnEditionsx8
import Derived.Test.YtalmeecdjhelkaaDoorPFnEditionsx9
import Derived.Test.YtalmeecdjhelkaaDoorPFnEditionsx10
import Derived.Test.YtalmeecdjhelkaaDoorPFnEditionsx11
import Derived.Test.YtalmeecdjhelkaaDoorPFnEditionsx12
import Derived.Test.YtalmeecdjhelkaaDoorPFnEditionsx13
import Derived.Test.YtalmeecdjhelkaaDoorPFnEditionsx14
import Derived.Test.YtalmeecdjhelkaaDoorPFnEditionsx15
namespace Go.Proofs.YtalmeecdjhelkaaDoor.PFnEditions
open Go.RowKit Go.Proofs.YtalmeecdjhelkaaDoorW.PrintWords Go.Proofs.YtalmeecdjhelkaaDoorW.PrintLast Go.Proofs.YtalmeecdjhelkaaDoorW.PrintMore
attribute [local go_sem] max2_int min2_int max_two min_two max_three min_three max_four min_four   -- for this text's walks alone
set_option linter.unusedVariables false
set_option linter.unusedSimpArgs false

end Go.Proofs.YtalmeecdjhelkaaDoor.PFnEditions
