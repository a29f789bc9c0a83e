/- A part of the row of FnExactShortEdits: the row's facts on the program. -/
import Derived.Test.YtdodbfialiggjaaDoorLiftFnExactShortEdits
import Derived.Test.YtdodbfialiggjaaDoorRows
import Derived.Test.YtdodbfialiggjaaDoorPFnExactShortEditsx
import Derived.Test.YtdodbfialiggjaaDoorPureFnExactShortEdits
import Derived.Test.YtdodbfialiggjaaDoorRd
import Derived.Test.YtdodbfialiggjaaDoorCards
import Derived.Test.YtdodbfialiggjaaDoorTie
import Derived.WalkKit
import Derived.ProofKit
import Derived.OpenShut
import Derived.ShutString
import Derived.ChangeOld
import Derived.Below
import Derived.SizedLaws
import Derived.Lib.SmallJoins
import Derived.LaidMore
import Derived.Lay
import Derived.SevenTiedAt
import Derived.Stop.Joined
namespace Go.Proofs.YtdodbfialiggjaaDoor.fnExactShortEdits
open Go.ChangeShapes Go.WideShapes Go.ChangeAt Go.RowKit Go.Proofs.YtdodbfialiggjaaDoor.Rd Go.Proofs.YtdodbfialiggjaaDoor.PFnExactShortEdits Go.Proofs.YtdodbfialiggjaaDoorW.PrintWords
open Go.ChangeMaps (open_string shut_string)
set_option linter.unusedVariables false
set_option maxHeartbeats 16000000 in
theorem closed : joinedFacts Tryd.pinned.checked.prog 4 Tryd.f4 Rows.fnExactShortEditsSpec Rows.fnExactShortEditsRow = true := by
  unfold joinedFacts
  repeat' (with_reducible refine Bool.and_eq_true_iff.2 ⟨?_, ?_⟩)
  all_goals (as_aux_lemma => kernel_rfl)
theorem over : Rows.fnExactShortEditsRow.holds Tryd.pinned (OpenSpec.ofChange Rows.fnExactShortEditsSpec) :=
  OpenClaim.holds_of_wide 4 Tryd.f4 rfl rfl rfl rfl rfl rfl rfl ⟨rfl, rfl, rfl, rfl, rfl⟩ rfl rfl rfl rfl rfl (by kernel_rfl) Tryd.func4 closed
    (of_decide_eq_true (by kernel_rfl)) (by unfold Func.isWrapper; first | (rw [if_pos (by decide +kernel)]; kernel_rfl) | (rw [if_neg (by decide +kernel)]; exact ⟨rfl, rfl⟩))
    (fun os started H enc _ => lifted os started H enc)
end Go.Proofs.YtdodbfialiggjaaDoor.fnExactShortEdits
