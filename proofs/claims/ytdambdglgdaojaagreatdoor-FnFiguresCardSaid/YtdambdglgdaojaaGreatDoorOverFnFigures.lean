/- A part of the row of FnFigures: the row's facts on the program. -/
import Derived.Test.YtdambdglgdaojaaGreatDoorVFnFigures
import Derived.Test.YtdambdglgdaojaaGreatDoorLiftFnFigures
import Derived.Test.YtdambdglgdaojaaGreatDoorRows
import Derived.Test.YtdambdglgdaojaaGreatDoorPFnFiguresx
import Derived.Test.YtdambdglgdaojaaGreatDoorPureFnFigures
import Derived.Test.YtdambdglgdaojaaGreatDoorCards
import Derived.Test.YtdambdglgdaojaaGreatDoorTie
import Derived.WalkKit
import Derived.ProofKit
import Derived.OpenShut
import Derived.ShutString
import Derived.ChangeOld
import Derived.Below
import Derived.SizedLaws
import Derived.Lib.SmallJoins
import Derived.LaidMore
import Derived.Lay
import Derived.SevenTiedAt
import Derived.Stop.Joined
namespace Go.Proofs.YtdambdglgdaojaaGreatDoor.fnFigures
open Go.ChangeShapes Go.WideShapes Go.ChangeAt Go.RowKit Go.Proofs.YtdambdglgdaojaaGreatDoor.Rd Go.Proofs.YtdambdglgdaojaaGreatDoor.PFnFigures Go.Proofs.YtdambdglgdaojaaGreatDoorW.PrintWords
open Go.ChangeMaps (open_string shut_string)
set_option linter.unusedVariables false
set_option maxHeartbeats 16000000 in
theorem closed : joinedFacts Tryz.pinned.checked.prog 3 Tryz.f3 Rows.fnFiguresSpec Rows.fnFiguresRow = true := by
  unfold joinedFacts
  repeat' (with_reducible refine Bool.and_eq_true_iff.2 ⟨?_, ?_⟩)
  all_goals (as_aux_lemma => kernel_rfl)
theorem over : Rows.fnFiguresRow.holds Tryz.pinned (OpenSpec.ofChange Rows.fnFiguresSpec) :=
  OpenClaim.holds_of_wide 3 Tryz.f3 rfl rfl rfl rfl rfl rfl rfl ⟨rfl, rfl, rfl, rfl, rfl⟩ rfl rfl rfl rfl rfl (by kernel_rfl) Tryz.func3 closed
    (of_decide_eq_true (by kernel_rfl)) (by unfold Func.isWrapper; first | (rw [if_pos (by decide +kernel)]; kernel_rfl) | (rw [if_neg (by decide +kernel)]; exact ⟨rfl, rfl⟩))
    (fun os started H enc _ => lifted os started H enc)
end Go.Proofs.YtdambdglgdaojaaGreatDoor.fnFigures
