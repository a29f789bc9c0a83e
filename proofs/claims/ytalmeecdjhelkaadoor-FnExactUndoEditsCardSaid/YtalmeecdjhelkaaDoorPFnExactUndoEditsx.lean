-- Made by a program of this session (gprint.py) out of the kit's print of the translation and texts of my own.
import Derived.Test.YtalmeecdjhelkaaDoorPFnExactUndoEditsx0
import Derived.Test.YtalmeecdjhelkaaDoorPFnExactUndoEditsx1
import Derived.Test.YtalmeecdjhelkaaDoorPFnExactUndoEditsx2
import Derived.Test.YtalmeecdjhelkaaDoorPFnExactUndoEditsx3
import Derived.Test.YtalmeecdjhelkaaDoorPFnExactUndoEditsx4
import Derived.Test.YtalmeecdjhelkaaDoorPFnExactUndoEditsx5
import Derived.Test.YtalmeecdjhelkaaDoorPFnExactUndoEditsx6
namespace Go.Proofs.YtalmeecdjhelkaaDoor.PFnExactUndoEdits
open Go.RowKit Go.Proofs.YtalmeecdjhelkaaDoorW.PrintWords Go.Proofs.YtalmeecdjhelkaaDoorW.PrintLast Go.Proofs.YtalmeecdjhelkaaDoorW.PrintMore
attribute [local go_sem] max2_int min2_int max_two min_two max_three min_three max_four min_four   -- for this text's walks alone
set_option linter.unusedVariables false
set_option linter.unusedSimpArgs false

end Go.Proofs.YtalmeecdjhelkaaDoor.PFnExactUndoEdits
