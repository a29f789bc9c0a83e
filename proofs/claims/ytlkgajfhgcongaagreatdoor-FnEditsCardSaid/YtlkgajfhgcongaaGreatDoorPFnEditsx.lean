-- Made by a program of this session (gprint.py) out of the kit's print of the translation and texts of my own. SLIM
import Derived.Test.YtlkgajfhgcongaaGreatDoorPFnEditsx0
import Derived.Test.YtlkgajfhgcongaaGreatDoorPFnEditsx1
import Derived.Test.YtlkgajfhgcongaaGreatDoorPFnEditsx2
import Derived.Test.YtlkgajfhgcongaaGreatDoorPFnEditsx3
import Derived.Test.YtlkgajfhgcongaaGreatDoorPFnEditsx4
import Derived.Test.YtlkgajfhgcongaaGreatDoorPFnEditsx5
import Derived.Test.YtlkgajfhgcongaaGreatDoorPFnEditsx6
import Derived.Test.YtlkgajfhgcongaaGreatDoorPFnEditsx7
import Derived.Test.YtlkgajfhgcongaaGreatDoorPFnEditsx8
import Derived.Test.YtlkgajfhgcongaaGreatDoorPFnEditsx9
import Derived.Test.YtlkgajfhgcongaaGreatDoorPFnEditsx10
namespace Go.Proofs.YtlkgajfhgcongaaGreatDoor.PFnEdits
open Go.RowKit Go.Proofs.YtlkgajfhgcongaaGreatDoorW.PrintWords Go.Proofs.YtlkgajfhgcongaaGreatDoorW.PrintLast Go.Proofs.YtlkgajfhgcongaaGreatDoorW.PrintMore
attribute [local go_sem] max2_int min2_int max_two min_two max_three min_three max_four min_four   -- for this text's walks alone
set_option linter.unusedVariables false
set_option linter.unusedSimpArgs false

end Go.Proofs.YtlkgajfhgcongaaGreatDoor.PFnEdits
