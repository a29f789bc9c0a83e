-- Made by a program of this session (gprint.py) out of the kit's print of the translation and texts of my own. SLIM
import Derived.Test.YtdkmngghknohgaaDoorPFnIslandsx0
import Derived.Test.YtdkmngghknohgaaDoorPFnIslandsx1
import Derived.Test.YtdkmngghknohgaaDoorPFnIslandsx2
import Derived.Test.YtdkmngghknohgaaDoorPFnIslandsx3
import Derived.Test.YtdkmngghknohgaaDoorPFnIslandsx4
import Derived.Test.YtdkmngghknohgaaDoorPFnIslandsx5
import Derived.Test.YtdkmngghknohgaaDoorPFnIslandsx6
import Derived.Test.YtdkmngghknohgaaDoorPFnIslandsx7
import Derived.Test.YtdkmngghknohgaaDoorPFnIslandsx8
import Derived.Test.YtdkmngghknohgaaDoorPFnIslandsx9
import Derived.Test.YtdkmngghknohgaaDoorPFnIslandsx10
import Derived.Test.YtdkmngghknohgaaDoorPFnIslandsx11
import Derived.Test.YtdkmngghknohgaaDoorPFnIslandsx12
namespace Go.Proofs.YtdkmngghknohgaaDoor.PFnIslands
open Go.RowKit Go.Proofs.YtdkmngghknohgaaDoorW.PrintWords Go.Proofs.YtdkmngghknohgaaDoorW.PrintLast Go.Proofs.YtdkmngghknohgaaDoorW.PrintMore
attribute [local go_sem] max2_int min2_int max_two min_two max_three min_three max_four min_four   -- for this text's walks alone
set_option linter.unusedVariables false
set_option linter.unusedSimpArgs false

end Go.Proofs.YtdkmngghknohgaaDoor.PFnIslands
