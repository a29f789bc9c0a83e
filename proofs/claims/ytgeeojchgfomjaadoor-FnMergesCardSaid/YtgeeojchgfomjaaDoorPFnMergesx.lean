-- Made by a program of this session (gprint.py) out of the kit's print of the translation and texts of my own.
import Derived.Test.YtgeeojchgfomjaaDoorPFnMergesx0
import Derived.Test.YtgeeojchgfomjaaDoorPFnMergesx1
import Derived.Test.YtgeeojchgfomjaaDoorPFnMergesx2
import Derived.Test.YtgeeojchgfomjaaDoorPFnMergesx3
import Derived.Test.YtgeeojchgfomjaaDoorPFnMergesx4
namespace Go.Proofs.YtgeeojchgfomjaaDoor.PFnMerges
open Go.RowKit Go.Proofs.YtgeeojchgfomjaaDoorW.PrintWords Go.Proofs.YtgeeojchgfomjaaDoorW.PrintLast Go.Proofs.YtgeeojchgfomjaaDoorW.PrintMore
attribute [local go_sem] max2_int min2_int max_two min_two max_three min_three max_four min_four   -- for this text's walks alone
set_option linter.unusedVariables false
set_option linter.unusedSimpArgs false

end Go.Proofs.YtgeeojchgfomjaaDoor.PFnMerges
