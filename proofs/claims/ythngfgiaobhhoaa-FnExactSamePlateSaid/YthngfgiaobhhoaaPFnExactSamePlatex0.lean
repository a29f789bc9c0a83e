-- Made by a program of this session (gprint.py) out of the kit's print of the translation and texts of my own.
import Derived.Test.YthngfgiaobhhoaaProg
import Derived.Below
import Derived.Deep.Draws
import Derived.Deep.AppendLies
import Derived.Maps.AppendAt
import Derived.OwnWalk
import Derived.Laws.BytesArg
import Derived.Laws.MakeOwn
import Derived.Laws.OwnMore
import Derived.Deep.OwnRows
import Derived.Tactics
import Derived.Lib.ConvBytes
import Derived.Laws.Slices
import Derived.WalkKit
import Derived.KernelRfl
import Derived.RowKit3
import Derived.Deep.LoopGhost
import Derived.Deep.QuietTactic
import Derived.BigQuiet
import Derived.WideLaws
import Derived.Deep.DeepCutAuto
import Derived.Deep.CutBlock
import Derived.Deep.RegionHeld3
import Derived.Laws.Rows
import Derived.Lib.AppendStr
import Derived.ArgAppend
import Derived.Laws.IdiomCopy
import Derived.OrdersHeld
import Derived.Laws.BitsLemmas
import Derived.RowKit
import Derived.Test.YthngfgiaobhhoaaWWords
import Derived.Test.YthngfgiaobhhoaaWLast
import Derived.Test.YthngfgiaobhhoaaWTab
import Derived.Test.YthngfgiaobhhoaaWFour
import Derived.Test.YthngfgiaobhhoaaWQPut
import Derived.Test.YthngfgiaobhhoaaWApart
import Derived.Test.YthngfgiaobhhoaaWArr
import Derived.Test.YthngfgiaobhhoaaWZeros
import Derived.Test.YthngfgiaobhhoaaWFoot
import Derived.Test.YthngfgiaobhhoaaWKept
import Derived.Test.YthngfgiaobhhoaaWShare
import Derived.Test.YthngfgiaobhhoaaWN
import Derived.Test.YthngfgiaobhhoaaWFootNe
import Derived.Test.YthngfgiaobhhoaaWAt
import Derived.Test.YthngfgiaobhhoaaWEqStruct
import Derived.Test.YthngfgiaobhhoaaWRepsOne
import Derived.Test.YthngfgiaobhhoaaWInv
import Derived.Test.YthngfgiaobhhoaaWInvWords
import Derived.Test.YthngfgiaobhhoaaWGuard
import Derived.Test.YthngfgiaobhhoaaWNEv
import Derived.Test.YthngfgiaobhhoaaWMore
namespace Go.Proofs.Ythngfgiaobhhoaa.PFnExactSamePlate
open Go.RowKit Go.Proofs.YthngfgiaobhhoaaW.PrintWords Go.Proofs.YthngfgiaobhhoaaW.PrintLast Go.Proofs.YthngfgiaobhhoaaW.PrintMore
attribute [local go_sem] max2_int min2_int max_two min_two max_three min_three max_four min_four   -- for this text's walks alone
set_option linter.unusedVariables false
set_option linter.unusedSimpArgs false



def errW : Option Int → Value
  | none => .nilIface
  | some c => .iface 0 (.int .i64 c)
theorem errW_none : errW none = .nilIface := rfl
theorem errW_some (c : Int) : errW (some c) = .iface 0 (.int .i64 c) := rfl

theorem info9 : (Try.prog.info? 9).map (fun i => (i.zero, i.size, i.bytes)) = some (some (.string ⟨#[]⟩), 1, 16) := by kernel_rfl
-- the values' own types

end Go.Proofs.Ythngfgiaobhhoaa.PFnExactSamePlate
