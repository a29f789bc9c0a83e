-- Made by a program of this session (gprint.py) out of the kit's print of the translation and texts of my own.
import Derived.Test.YtdhpkmpekbikpaaProg
import Derived.Below
import Derived.Deep.Draws
import Derived.Deep.AppendLies
import Derived.OwnWalk
import Derived.Laws.BytesArg
import Derived.Laws.MakeOwn
import Derived.Laws.OwnMore
import Derived.Deep.OwnRows
import Derived.Tactics
import Derived.Lib.ConvBytes
import Derived.Laws.Slices
import Derived.WalkKit
import Derived.KernelRfl
import Derived.RowKit3
import Derived.Deep.LoopGhost
import Derived.Deep.QuietTactic
import Derived.BigQuiet
import Derived.WideLaws
import Derived.Deep.DeepCutAuto
import Derived.Deep.CutBlock
import Derived.Deep.RegionHeld3
import Derived.Laws.Rows
import Derived.Lib.AppendStr
import Derived.Laws.Cover1
import Derived.ArgAppend
import Derived.OrdersHeld
import Derived.Laws.BitsLemmas
import Derived.RowKit
import Derived.Test.YtdhpkmpekbikpaaWWords
import Derived.Test.YtdhpkmpekbikpaaWLast
import Derived.Test.YtdhpkmpekbikpaaWTab
import Derived.Test.YtdhpkmpekbikpaaWFour
import Derived.Test.YtdhpkmpekbikpaaWQPut
import Derived.Test.YtdhpkmpekbikpaaWApart
import Derived.Test.YtdhpkmpekbikpaaWArr
import Derived.Test.YtdhpkmpekbikpaaWZeros
import Derived.Test.YtdhpkmpekbikpaaWFoot
import Derived.Test.YtdhpkmpekbikpaaWKept
import Derived.Test.YtdhpkmpekbikpaaWShare
import Derived.Test.YtdhpkmpekbikpaaWN
import Derived.Test.YtdhpkmpekbikpaaWFootNe
import Derived.Test.YtdhpkmpekbikpaaWAt
import Derived.Test.YtdhpkmpekbikpaaWEqStruct
import Derived.Test.YtdhpkmpekbikpaaWRepsOne
import Derived.Test.YtdhpkmpekbikpaaWInv
import Derived.Test.YtdhpkmpekbikpaaWInvWords
import Derived.Test.YtdhpkmpekbikpaaWGuard
import Derived.Test.YtdhpkmpekbikpaaWNEv
import Derived.Test.YtdhpkmpekbikpaaWMore
namespace Go.Proofs.Ytdhpkmpekbikpaa.PFnPapers
open Go.RowKit Go.Proofs.YtdhpkmpekbikpaaW.PrintWords Go.Proofs.YtdhpkmpekbikpaaW.PrintLast Go.Proofs.YtdhpkmpekbikpaaW.PrintMore
attribute [local go_sem] max2_int min2_int max_two min_two max_three min_three max_four min_four   -- for this text's walks alone
set_option linter.unusedVariables false
set_option linter.unusedSimpArgs false



def errW : Option Int → Value
  | none => .nilIface
  | some c => .iface 0 (.int .i64 c)
theorem errW_none : errW none = .nilIface := rfl
theorem errW_some (c : Int) : errW (some c) = .iface 0 (.int .i64 c) := rfl

-- the values' own types

end Go.Proofs.Ytdhpkmpekbikpaa.PFnPapers
