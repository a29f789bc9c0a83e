-- Made by a program of this session (gprint.py) out of the kit's print of the translation and texts of my own.
import Derived.Test.YtgeeojchgfomjaaDoorPFnExactEndsOfFigurex0
import Derived.Test.YtgeeojchgfomjaaDoorPFnExactEndsOfFigurex1
import Derived.Test.YtgeeojchgfomjaaDoorPFnExactEndsOfFigurex2
import Derived.Test.YtgeeojchgfomjaaDoorPFnExactEndsOfFigurex3
import Derived.Test.YtgeeojchgfomjaaDoorPFnExactEndsOfFigurex4
import Derived.Test.YtgeeojchgfomjaaDoorPFnExactEndsOfFigurex5
import Derived.Test.YtgeeojchgfomjaaDoorPFnExactEndsOfFigurex6
import Derived.Test.YtgeeojchgfomjaaDoorPFnExactEndsOfFigurex7
import Derived.Test.YtgeeojchgfomjaaDoorPFnExactEndsOfFigurex8
namespace Go.Proofs.YtgeeojchgfomjaaDoor.PFnExactEndsOfFigure
open Go.RowKit Go.Proofs.YtgeeojchgfomjaaDoorW.PrintWords Go.Proofs.YtgeeojchgfomjaaDoorW.PrintLast Go.Proofs.YtgeeojchgfomjaaDoorW.PrintMore
attribute [local go_sem] max2_int min2_int max_two min_two max_three min_three max_four min_four   -- for this text's walks alone
set_option linter.unusedVariables false
set_option linter.unusedSimpArgs false

end Go.Proofs.YtgeeojchgfomjaaDoor.PFnExactEndsOfFigure
