-- Made by a program of this session (gprint.py) out of the kit's print of the translation and texts of my own. SLIM
import Derived.Test.YtalmeecdjhelkaaDoorPFnDatesx0
import Derived.Test.YtalmeecdjhelkaaDoorPFnDatesx1
import Derived.Test.YtalmeecdjhelkaaDoorPFnDatesx2
import Derived.Test.YtalmeecdjhelkaaDoorPFnDatesx3
import Derived.Test.YtalmeecdjhelkaaDoorPFnDatesx4
import Derived.Test.YtalmeecdjhelkaaDoorPFnDatesx5
import Derived.Test.YtalmeecdjhelkaaDoorPFnDatesx6
import Derived.Test.YtalmeecdjhelkaaDoorPFnDatesx7
import Derived.Test.YtalmeecdjhelkaaDoorPFnDatesx8
import Derived.Test.YtalmeecdjhelkaaDoorPFnDatesx9
import Derived.Test.YtalmeecdjhelkaaDoorPFnDatesx10
import Derived.Test.YtalmeecdjhelkaaDoorPFnDatesx11
import Derived.Test.YtalmeecdjhelkaaDoorPFnDatesx12
import Derived.Test.YtalmeecdjhelkaaDoorPFnDatesx13
import Derived.Test.YtalmeecdjhelkaaDoorPFnDatesx14
import Derived.Test.YtalmeecdjhelkaaDoorPFnDatesx15
import Derived.Test.YtalmeecdjhelkaaDoorPFnDatesx16
import Derived.Test.YtalmeecdjhelkaaDoorPFnDatesx17
import Derived.Test.YtalmeecdjhelkaaDoorPFnDatesx18
namespace Go.Proofs.YtalmeecdjhelkaaDoor.PFnDates
open Go.RowKit Go.Proofs.YtalmeecdjhelkaaDoorW.PrintWords Go.Proofs.YtalmeecdjhelkaaDoorW.PrintLast Go.Proofs.YtalmeecdjhelkaaDoorW.PrintMore
attribute [local go_sem] max2_int min2_int max_two min_two max_three min_three max_four min_four   -- for this text's walks alone
set_option linter.unusedVariables false
set_option linter.unusedSimpArgs false

end Go.Proofs.YtalmeecdjhelkaaDoor.PFnDates
