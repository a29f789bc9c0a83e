-- Made by a program of this session (gprint.py) out of the kit's print of the translation and texts of my own.
import Derived.Test.YtgeeojchgfomjaaDoorPFnExactFigureTextx0
import Derived.Test.YtgeeojchgfomjaaDoorPFnExactFigureTextx1
import Derived.Test.YtgeeojchgfomjaaDoorPFnExactFigureTextx2
import Derived.Test.YtgeeojchgfomjaaDoorPFnExactFigureTextx3
import Derived.Test.YtgeeojchgfomjaaDoorPFnExactFigureTextx4
import Derived.Test.YtgeeojchgfomjaaDoorPFnExactFigureTextx5
import Derived.Test.YtgeeojchgfomjaaDoorPFnExactFigureTextx6
namespace Go.Proofs.YtgeeojchgfomjaaDoor.PFnExactFigureText
open Go.RowKit Go.Proofs.YtgeeojchgfomjaaDoorW.PrintWords Go.Proofs.YtgeeojchgfomjaaDoorW.PrintLast Go.Proofs.YtgeeojchgfomjaaDoorW.PrintMore
attribute [local go_sem] max2_int min2_int max_two min_two max_three min_three max_four min_four   -- for this text's walks alone
set_option linter.unusedVariables false
set_option linter.unusedSimpArgs false

end Go.Proofs.YtgeeojchgfomjaaDoor.PFnExactFigureText
