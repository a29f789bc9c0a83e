-- Made by a program of this session (gprint.py) out of the kit's print of the translation and texts of my own.
import Derived.Test.YtoehbcdhplagfaaPFnExactMatchSheetsx0
import Derived.Test.YtoehbcdhplagfaaPFnExactMatchSheetsx1
import Derived.Test.YtoehbcdhplagfaaPFnExactMatchSheetsx2
import Derived.Test.YtoehbcdhplagfaaPFnExactMatchSheetsx3
import Derived.Test.YtoehbcdhplagfaaPFnExactMatchSheetsx4
import Derived.Test.YtoehbcdhplagfaaPFnExactMatchSheetsx5
namespace Go.Proofs.Ytoehbcdhplagfaa.PFnExactMatchSheets
open Go.RowKit Go.Proofs.YtoehbcdhplagfaaW.PrintWords Go.Proofs.YtoehbcdhplagfaaW.PrintLast Go.Proofs.YtoehbcdhplagfaaW.PrintMore
attribute [local go_sem] max2_int min2_int max_two min_two max_three min_three max_four min_four   -- for this text's walks alone
set_option linter.unusedVariables false
set_option linter.unusedSimpArgs false

end Go.Proofs.Ytoehbcdhplagfaa.PFnExactMatchSheets
