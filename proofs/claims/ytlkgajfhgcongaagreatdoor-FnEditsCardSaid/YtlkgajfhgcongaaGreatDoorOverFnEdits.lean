/- A part of the row of FnEdits: the row's facts on the program. -/
import Derived.Test.YtlkgajfhgcongaaGreatDoorVFnEdits
import Derived.Test.YtlkgajfhgcongaaGreatDoorLiftFnEdits
import Derived.Test.YtlkgajfhgcongaaGreatDoorRows
import Derived.Test.YtlkgajfhgcongaaGreatDoorPFnEditsx
import Derived.Test.YtlkgajfhgcongaaGreatDoorPureFnEdits
import Derived.Test.YtlkgajfhgcongaaGreatDoorCards
import Derived.Test.YtlkgajfhgcongaaGreatDoorTie
import Derived.WalkKit
import Derived.ProofKit
import Derived.OpenShut
import Derived.ShutString
import Derived.ChangeOld
import Derived.Below
import Derived.SizedLaws
import Derived.Lib.SmallJoins
import Derived.LaidMore
import Derived.Lay
import Derived.SevenTiedAt
import Derived.Stop.Joined
namespace Go.Proofs.YtlkgajfhgcongaaGreatDoor.fnEdits
open Go.ChangeShapes Go.WideShapes Go.ChangeAt Go.RowKit Go.Proofs.YtlkgajfhgcongaaGreatDoor.Rd Go.Proofs.YtlkgajfhgcongaaGreatDoor.PFnEdits Go.Proofs.YtlkgajfhgcongaaGreatDoorW.PrintWords
open Go.ChangeMaps (open_string shut_string)
set_option linter.unusedVariables false
set_option maxHeartbeats 16000000 in
theorem closed : joinedFacts Tryz.pinned.checked.prog 3 Tryz.f3 Rows.fnEditsSpec Rows.fnEditsRow = true := by
  unfold joinedFacts
  repeat' (with_reducible refine Bool.and_eq_true_iff.2 ⟨?_, ?_⟩)
  all_goals (as_aux_lemma => kernel_rfl)
theorem over : Rows.fnEditsRow.holds Tryz.pinned (OpenSpec.ofChange Rows.fnEditsSpec) :=
  OpenClaim.holds_of_wide 3 Tryz.f3 rfl rfl rfl rfl rfl rfl rfl ⟨rfl, rfl, rfl, rfl, rfl⟩ rfl rfl rfl rfl rfl (by kernel_rfl) Tryz.func3 closed
    (of_decide_eq_true (by kernel_rfl)) (by unfold Func.isWrapper; first | (rw [if_pos (by decide +kernel)]; kernel_rfl) | (rw [if_neg (by decide +kernel)]; exact ⟨rfl, rfl⟩))
    (fun os started H enc _ => lifted os started H enc)
end Go.Proofs.YtlkgajfhgcongaaGreatDoor.fnEdits
