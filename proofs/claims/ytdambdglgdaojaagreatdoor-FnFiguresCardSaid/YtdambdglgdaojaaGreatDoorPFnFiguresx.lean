-- Made by a program of this session (gprint.py) out of the kit's print of the translation and texts of my own. SLIM
import Derived.Test.YtdambdglgdaojaaGreatDoorPFnFiguresx0
import Derived.Test.YtdambdglgdaojaaGreatDoorPFnFiguresx1
import Derived.Test.YtdambdglgdaojaaGreatDoorPFnFiguresx2
import Derived.Test.YtdambdglgdaojaaGreatDoorPFnFiguresx3
import Derived.Test.YtdambdglgdaojaaGreatDoorPFnFiguresx4
import Derived.Test.YtdambdglgdaojaaGreatDoorPFnFiguresx5
import Derived.Test.YtdambdglgdaojaaGreatDoorPFnFiguresx6
import Derived.Test.YtdambdglgdaojaaGreatDoorPFnFiguresx7
import Derived.Test.YtdambdglgdaojaaGreatDoorPFnFiguresx8
import Derived.Test.YtdambdglgdaojaaGreatDoorPFnFiguresx9
import Derived.Test.YtdambdglgdaojaaGreatDoorPFnFiguresx10
import Derived.Test.YtdambdglgdaojaaGreatDoorPFnFiguresx11
import Derived.Test.YtdambdglgdaojaaGreatDoorPFnFiguresx12
import Derived.Test.YtdambdglgdaojaaGreatDoorPFnFiguresx13
import Derived.Test.YtdambdglgdaojaaGreatDoorPFnFiguresx14
namespace Go.Proofs.YtdambdglgdaojaaGreatDoor.PFnFigures
open Go.RowKit Go.Proofs.YtdambdglgdaojaaGreatDoorW.PrintWords Go.Proofs.YtdambdglgdaojaaGreatDoorW.PrintLast Go.Proofs.YtdambdglgdaojaaGreatDoorW.PrintMore
attribute [local go_sem] max2_int min2_int max_two min_two max_three min_three max_four min_four   -- for this text's walks alone
set_option linter.unusedVariables false
set_option linter.unusedSimpArgs false

end Go.Proofs.YtdambdglgdaojaaGreatDoor.PFnFigures
