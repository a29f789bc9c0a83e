/- A part of the row of FnCatalogues: the row's facts on the program. -/
import Derived.Test.YtnjalpniedpgmaaGreatDoorVFnCatalogues
import Derived.Test.YtnjalpniedpgmaaGreatDoorLiftFnCatalogues
import Derived.Test.YtnjalpniedpgmaaGreatDoorRows
import Derived.Test.YtnjalpniedpgmaaGreatDoorPFnCataloguesx
import Derived.Test.YtnjalpniedpgmaaGreatDoorPureFnCatalogues
import Derived.Test.YtnjalpniedpgmaaGreatDoorCards
import Derived.Test.YtnjalpniedpgmaaGreatDoorTie
import Derived.WalkKit
import Derived.ProofKit
import Derived.OpenShut
import Derived.ShutString
import Derived.ChangeOld
import Derived.Below
import Derived.SizedLaws
import Derived.Lib.SmallJoins
import Derived.LaidMore
import Derived.Lay
import Derived.SevenTiedAt
import Derived.Stop.Joined
namespace Go.Proofs.YtnjalpniedpgmaaGreatDoor.fnCatalogues
open Go.ChangeShapes Go.WideShapes Go.ChangeAt Go.RowKit Go.Proofs.YtnjalpniedpgmaaGreatDoor.Rd Go.Proofs.YtnjalpniedpgmaaGreatDoor.PFnCatalogues Go.Proofs.YtnjalpniedpgmaaGreatDoorW.PrintWords
open Go.ChangeMaps (open_string shut_string)
set_option linter.unusedVariables false
set_option maxHeartbeats 16000000 in
theorem closed : joinedFacts Tryz.pinned.checked.prog 3 Tryz.f3 Rows.fnCataloguesSpec Rows.fnCataloguesRow = true := by
  unfold joinedFacts
  repeat' (with_reducible refine Bool.and_eq_true_iff.2 ⟨?_, ?_⟩)
  all_goals (as_aux_lemma => kernel_rfl)
theorem over : Rows.fnCataloguesRow.holds Tryz.pinned (OpenSpec.ofChange Rows.fnCataloguesSpec) :=
  OpenClaim.holds_of_wide 3 Tryz.f3 rfl rfl rfl rfl rfl rfl rfl ⟨rfl, rfl, rfl, rfl, rfl⟩ rfl rfl rfl rfl rfl (by kernel_rfl) Tryz.func3 closed
    (of_decide_eq_true (by kernel_rfl)) (by unfold Func.isWrapper; first | (rw [if_pos (by decide +kernel)]; kernel_rfl) | (rw [if_neg (by decide +kernel)]; exact ⟨rfl, rfl⟩))
    (fun os started H enc _ => lifted os started H enc)
end Go.Proofs.YtnjalpniedpgmaaGreatDoor.fnCatalogues
