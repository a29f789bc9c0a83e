-- Made by a program of this session (gprint.py) out of the kit's print of the translation and texts of my own. SLIM
import Derived.Test.YtdkmngghknohgaaDoorPFnGridsx0
import Derived.Test.YtdkmngghknohgaaDoorPFnGridsx1
import Derived.Test.YtdkmngghknohgaaDoorPFnGridsx2
import Derived.Test.YtdkmngghknohgaaDoorPFnGridsx3
import Derived.Test.YtdkmngghknohgaaDoorPFnGridsx4
import Derived.Test.YtdkmngghknohgaaDoorPFnGridsx5
import Derived.Test.YtdkmngghknohgaaDoorPFnGridsx6
import Derived.Test.YtdkmngghknohgaaDoorPFnGridsx7
import Derived.Test.YtdkmngghknohgaaDoorPFnGridsx8
import Derived.Test.YtdkmngghknohgaaDoorPFnGridsx9
import Derived.Test.YtdkmngghknohgaaDoorPFnGridsx10
import Derived.Test.YtdkmngghknohgaaDoorPFnGridsx11
import Derived.Test.YtdkmngghknohgaaDoorPFnGridsx12
import Derived.Test.YtdkmngghknohgaaDoorPFnGridsx13
import Derived.Test.YtdkmngghknohgaaDoorPFnGridsx14
import Derived.Test.YtdkmngghknohgaaDoorPFnGridsx15
namespace Go.Proofs.YtdkmngghknohgaaDoor.PFnGrids
open Go.RowKit Go.Proofs.YtdkmngghknohgaaDoorW.PrintWords Go.Proofs.YtdkmngghknohgaaDoorW.PrintLast Go.Proofs.YtdkmngghknohgaaDoorW.PrintMore
attribute [local go_sem] max2_int min2_int max_two min_two max_three min_three max_four min_four   -- for this text's walks alone
set_option linter.unusedVariables false
set_option linter.unusedSimpArgs false

end Go.Proofs.YtdkmngghknohgaaDoor.PFnGrids
