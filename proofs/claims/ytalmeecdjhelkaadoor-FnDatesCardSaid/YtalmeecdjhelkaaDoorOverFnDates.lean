/- A part of the row of FnDates: the row's facts on the program. -/
import Derived.Test.YtalmeecdjhelkaaDoorVFnDates
import Derived.Test.YtalmeecdjhelkaaDoorLiftFnDates
import Derived.Test.YtalmeecdjhelkaaDoorRows
import Derived.Test.YtalmeecdjhelkaaDoorPFnDatesx
import Derived.Test.YtalmeecdjhelkaaDoorPureFnDates
import Derived.Test.YtalmeecdjhelkaaDoorCards
import Derived.Test.YtalmeecdjhelkaaDoorTie
import Derived.WalkKit
import Derived.ProofKit
import Derived.OpenShut
import Derived.ShutString
import Derived.ChangeOld
import Derived.Below
import Derived.SizedLaws
import Derived.Lib.SmallJoins
import Derived.LaidMore
import Derived.Lay
import Derived.SevenTiedAt
import Derived.Stop.Joined
namespace Go.Proofs.YtalmeecdjhelkaaDoor.fnDates
open Go.ChangeShapes Go.WideShapes Go.ChangeAt Go.RowKit Go.Proofs.YtalmeecdjhelkaaDoor.Rd Go.Proofs.YtalmeecdjhelkaaDoor.PFnDates Go.Proofs.YtalmeecdjhelkaaDoorW.PrintWords
open Go.ChangeMaps (open_string shut_string)
set_option linter.unusedVariables false
set_option maxHeartbeats 16000000 in
theorem closed : joinedFacts Tryd.pinned.checked.prog 7 Tryd.f7 Rows.fnDatesSpec Rows.fnDatesRow = true := by
  unfold joinedFacts
  repeat' (with_reducible refine Bool.and_eq_true_iff.2 ⟨?_, ?_⟩)
  all_goals (as_aux_lemma => kernel_rfl)
theorem over : Rows.fnDatesRow.holds Tryd.pinned (OpenSpec.ofChange Rows.fnDatesSpec) :=
  OpenClaim.holds_of_wide 7 Tryd.f7 rfl rfl rfl rfl rfl rfl rfl ⟨rfl, rfl, rfl, rfl, rfl⟩ rfl rfl rfl rfl rfl (by kernel_rfl) Tryd.func7 closed
    (of_decide_eq_true (by kernel_rfl)) (by unfold Func.isWrapper; first | (rw [if_pos (by decide +kernel)]; kernel_rfl) | (rw [if_neg (by decide +kernel)]; exact ⟨rfl, rfl⟩))
    (fun os started H enc _ => lifted os started H enc)
end Go.Proofs.YtalmeecdjhelkaaDoor.fnDates
