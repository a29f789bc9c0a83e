/- A part of the row of FnEditions: the row's facts on the program. -/
import Derived.Test.YtalmeecdjhelkaaDoorVFnEditions
import Derived.Test.YtalmeecdjhelkaaDoorLiftFnEditions
import Derived.Test.YtalmeecdjhelkaaDoorRows
import Derived.Test.YtalmeecdjhelkaaDoorPFnEditionsx
import Derived.Test.YtalmeecdjhelkaaDoorPureFnEditions
import Derived.Test.YtalmeecdjhelkaaDoorCards
import Derived.Test.YtalmeecdjhelkaaDoorTie
import Derived.WalkKit
import Derived.ProofKit
import Derived.OpenShut
import Derived.ShutString
import Derived.ChangeOld
import Derived.Below
import Derived.SizedLaws
import Derived.Lib.SmallJoins
import Derived.LaidMore
import Derived.Lay
import Derived.SevenTiedAt
import Derived.Stop.Joined
namespace Go.Proofs.YtalmeecdjhelkaaDoor.fnEditions
open Go.ChangeShapes Go.WideShapes Go.ChangeAt Go.RowKit Go.Proofs.YtalmeecdjhelkaaDoor.Rd Go.Proofs.YtalmeecdjhelkaaDoor.PFnEditions Go.Proofs.YtalmeecdjhelkaaDoorW.PrintWords
open Go.ChangeMaps (open_string shut_string)
set_option linter.unusedVariables false
set_option maxHeartbeats 16000000 in
theorem closed : joinedFacts Tryd.pinned.checked.prog 8 Tryd.f8 Rows.fnEditionsSpec Rows.fnEditionsRow = true := by
  unfold joinedFacts
  repeat' (with_reducible refine Bool.and_eq_true_iff.2 ⟨?_, ?_⟩)
  all_goals (as_aux_lemma => kernel_rfl)
theorem over : Rows.fnEditionsRow.holds Tryd.pinned (OpenSpec.ofChange Rows.fnEditionsSpec) :=
  OpenClaim.holds_of_wide 8 Tryd.f8 rfl rfl rfl rfl rfl rfl rfl ⟨rfl, rfl, rfl, rfl, rfl⟩ rfl rfl rfl rfl rfl (by kernel_rfl) Tryd.func8 closed
    (of_decide_eq_true (by kernel_rfl)) (by unfold Func.isWrapper; first | (rw [if_pos (by decide +kernel)]; kernel_rfl) | (rw [if_neg (by decide +kernel)]; exact ⟨rfl, rfl⟩))
    (fun os started H enc _ => lifted os started H enc)
end Go.Proofs.YtalmeecdjhelkaaDoor.fnEditions
