/- A part of the row of FnExactEditionOf: the row's facts on the program. -/
import Derived.Test.YtombhkdipldkiaaDoorLiftFnExactEditionOf
import Derived.Test.YtombhkdipldkiaaDoorRows
import Derived.Test.YtombhkdipldkiaaDoorPFnExactEditionOfx
import Derived.Test.YtombhkdipldkiaaDoorPureFnExactEditionOf
import Derived.Test.YtombhkdipldkiaaDoorRd
import Derived.Test.YtombhkdipldkiaaDoorCards
import Derived.Test.YtombhkdipldkiaaDoorTie
import Derived.WalkKit
import Derived.ProofKit
import Derived.OpenShut
import Derived.ShutString
import Derived.ChangeOld
import Derived.Below
import Derived.SizedLaws
import Derived.Lib.SmallJoins
import Derived.LaidMore
import Derived.Lay
import Derived.SevenTiedAt
import Derived.Stop.Joined
namespace Go.Proofs.YtombhkdipldkiaaDoor.fnExactEditionOf
open Go.ChangeShapes Go.WideShapes Go.ChangeAt Go.RowKit Go.Proofs.YtombhkdipldkiaaDoor.Rd Go.Proofs.YtombhkdipldkiaaDoor.PFnExactEditionOf Go.Proofs.YtombhkdipldkiaaDoorW.PrintWords
open Go.ChangeMaps (open_string shut_string)
set_option linter.unusedVariables false
set_option maxHeartbeats 16000000 in
theorem closed : joinedFacts Tryd.pinned.checked.prog 6 Tryd.f6 Rows.fnExactEditionOfSpec Rows.fnExactEditionOfRow = true := by
  unfold joinedFacts
  repeat' (with_reducible refine Bool.and_eq_true_iff.2 ⟨?_, ?_⟩)
  all_goals (as_aux_lemma => kernel_rfl)
theorem over : Rows.fnExactEditionOfRow.holds Tryd.pinned (OpenSpec.ofChange Rows.fnExactEditionOfSpec) :=
  OpenClaim.holds_of_wide 6 Tryd.f6 rfl rfl rfl rfl rfl rfl rfl ⟨rfl, rfl, rfl, rfl, rfl⟩ rfl rfl rfl rfl rfl (by kernel_rfl) Tryd.func6 closed
    (of_decide_eq_true (by kernel_rfl)) (by unfold Func.isWrapper; first | (rw [if_pos (by decide +kernel)]; kernel_rfl) | (rw [if_neg (by decide +kernel)]; exact ⟨rfl, rfl⟩))
    (fun os started H enc _ => lifted os started H enc)
end Go.Proofs.YtombhkdipldkiaaDoor.fnExactEditionOf
