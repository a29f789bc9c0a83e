-- Made by a program of this session (gprint.py) out of the kit's print of the translation and texts of my own.
import Derived.Test.YtgeeojchgfomjaaDoorPFnExactIsOnePiecex0
import Derived.Test.YtgeeojchgfomjaaDoorPFnExactIsOnePiecex1
import Derived.Test.YtgeeojchgfomjaaDoorPFnExactIsOnePiecex2
import Derived.Test.YtgeeojchgfomjaaDoorPFnExactIsOnePiecex3
import Derived.Test.YtgeeojchgfomjaaDoorPFnExactIsOnePiecex4
import Derived.Test.YtgeeojchgfomjaaDoorPFnExactIsOnePiecex5
import Derived.Test.YtgeeojchgfomjaaDoorPFnExactIsOnePiecex6
import Derived.Test.YtgeeojchgfomjaaDoorPFnExactIsOnePiecex7
import Derived.Test.YtgeeojchgfomjaaDoorPFnExactIsOnePiecex8
import Derived.Test.YtgeeojchgfomjaaDoorPFnExactIsOnePiecex9
namespace Go.Proofs.YtgeeojchgfomjaaDoor.PFnExactIsOnePiece
open Go.RowKit Go.Proofs.YtgeeojchgfomjaaDoorW.PrintWords Go.Proofs.YtgeeojchgfomjaaDoorW.PrintLast Go.Proofs.YtgeeojchgfomjaaDoorW.PrintMore
attribute [local go_sem] max2_int min2_int max_two min_two max_three min_three max_four min_four   -- for this text's walks alone
set_option linter.unusedVariables false
set_option linter.unusedSimpArgs false

end Go.Proofs.YtgeeojchgfomjaaDoor.PFnExactIsOnePiece
