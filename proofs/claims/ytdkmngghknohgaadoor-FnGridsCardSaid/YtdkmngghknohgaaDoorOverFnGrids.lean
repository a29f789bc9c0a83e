/- A part of the row of FnGrids: the row's facts on the program. -/
import Derived.Test.YtdkmngghknohgaaDoorVFnGrids
import Derived.Test.YtdkmngghknohgaaDoorLiftFnGrids
import Derived.Test.YtdkmngghknohgaaDoorRows
import Derived.Test.YtdkmngghknohgaaDoorPFnGridsx
import Derived.Test.YtdkmngghknohgaaDoorPureFnGrids
import Derived.Test.YtdkmngghknohgaaDoorCards
import Derived.Test.YtdkmngghknohgaaDoorTie
import Derived.WalkKit
import Derived.ProofKit
import Derived.OpenShut
import Derived.ShutString
import Derived.ChangeOld
import Derived.Below
import Derived.SizedLaws
import Derived.Lib.SmallJoins
import Derived.LaidMore
import Derived.Lay
import Derived.SevenTiedAt
import Derived.Stop.Joined
namespace Go.Proofs.YtdkmngghknohgaaDoor.fnGrids
open Go.ChangeShapes Go.WideShapes Go.ChangeAt Go.RowKit Go.Proofs.YtdkmngghknohgaaDoor.Rd Go.Proofs.YtdkmngghknohgaaDoor.PFnGrids Go.Proofs.YtdkmngghknohgaaDoorW.PrintWords
open Go.ChangeMaps (open_string shut_string)
set_option linter.unusedVariables false
set_option maxHeartbeats 16000000 in
theorem closed : joinedFacts Tryd.pinned.checked.prog 4 Tryd.f4 Rows.fnGridsSpec Rows.fnGridsRow = true := by
  unfold joinedFacts
  repeat' (with_reducible refine Bool.and_eq_true_iff.2 ⟨?_, ?_⟩)
  all_goals (as_aux_lemma => kernel_rfl)
theorem over : Rows.fnGridsRow.holds Tryd.pinned (OpenSpec.ofChange Rows.fnGridsSpec) :=
  OpenClaim.holds_of_wide 4 Tryd.f4 rfl rfl rfl rfl rfl rfl rfl ⟨rfl, rfl, rfl, rfl, rfl⟩ rfl rfl rfl rfl rfl (by kernel_rfl) Tryd.func4 closed
    (of_decide_eq_true (by kernel_rfl)) (by unfold Func.isWrapper; first | (rw [if_pos (by decide +kernel)]; kernel_rfl) | (rw [if_neg (by decide +kernel)]; exact ⟨rfl, rfl⟩))
    (fun os started H enc _ => lifted os started H enc)
end Go.Proofs.YtdkmngghknohgaaDoor.fnGrids
