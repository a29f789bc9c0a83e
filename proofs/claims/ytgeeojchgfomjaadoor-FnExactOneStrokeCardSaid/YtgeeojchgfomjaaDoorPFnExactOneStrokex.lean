-- Made by a program of this session (gprint.py) out of the kit's print of the translation and texts of my own.
import Derived.Test.YtgeeojchgfomjaaDoorPFnExactOneStrokex0
import Derived.Test.YtgeeojchgfomjaaDoorPFnExactOneStrokex1
import Derived.Test.YtgeeojchgfomjaaDoorPFnExactOneStrokex2
import Derived.Test.YtgeeojchgfomjaaDoorPFnExactOneStrokex3
import Derived.Test.YtgeeojchgfomjaaDoorPFnExactOneStrokex4
import Derived.Test.YtgeeojchgfomjaaDoorPFnExactOneStrokex5
import Derived.Test.YtgeeojchgfomjaaDoorPFnExactOneStrokex6
import Derived.Test.YtgeeojchgfomjaaDoorPFnExactOneStrokex7
import Derived.Test.YtgeeojchgfomjaaDoorPFnExactOneStrokex8
import Derived.Test.YtgeeojchgfomjaaDoorPFnExactOneStrokex9
namespace Go.Proofs.YtgeeojchgfomjaaDoor.PFnExactOneStroke
open Go.RowKit Go.Proofs.YtgeeojchgfomjaaDoorW.PrintWords Go.Proofs.YtgeeojchgfomjaaDoorW.PrintLast Go.Proofs.YtgeeojchgfomjaaDoorW.PrintMore
attribute [local go_sem] max2_int min2_int max_two min_two max_three min_three max_four min_four   -- for this text's walks alone
set_option linter.unusedVariables false
set_option linter.unusedSimpArgs false

end Go.Proofs.YtgeeojchgfomjaaDoor.PFnExactOneStroke
