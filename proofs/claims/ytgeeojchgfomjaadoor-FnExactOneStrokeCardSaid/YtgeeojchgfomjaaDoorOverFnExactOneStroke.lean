/- A part of the row of FnExactOneStroke: the row's facts on the program. -/
import Derived.Test.YtgeeojchgfomjaaDoorLiftFnExactOneStroke
import Derived.Test.YtgeeojchgfomjaaDoorRows
import Derived.Test.YtgeeojchgfomjaaDoorPFnExactOneStrokex
import Derived.Test.YtgeeojchgfomjaaDoorPureFnExactOneStroke
import Derived.Test.YtgeeojchgfomjaaDoorRd
import Derived.Test.YtgeeojchgfomjaaDoorCards
import Derived.Test.YtgeeojchgfomjaaDoorTie
import Derived.WalkKit
import Derived.ProofKit
import Derived.OpenShut
import Derived.ShutString
import Derived.ChangeOld
import Derived.Below
import Derived.SizedLaws
import Derived.Lib.SmallJoins
import Derived.LaidMore
import Derived.Lay
import Derived.SevenTiedAt
import Derived.Stop.Joined
namespace Go.Proofs.YtgeeojchgfomjaaDoor.fnExactOneStroke
open Go.ChangeShapes Go.WideShapes Go.ChangeAt Go.RowKit Go.Proofs.YtgeeojchgfomjaaDoor.Rd Go.Proofs.YtgeeojchgfomjaaDoor.PFnExactOneStroke Go.Proofs.YtgeeojchgfomjaaDoorW.PrintWords
open Go.ChangeMaps (open_string shut_string)
set_option linter.unusedVariables false
set_option maxHeartbeats 16000000 in
theorem closed : joinedFacts Tryd.pinned.checked.prog 10 Tryd.f10 Rows.fnExactOneStrokeSpec Rows.fnExactOneStrokeRow = true := by
  unfold joinedFacts
  repeat' (with_reducible refine Bool.and_eq_true_iff.2 ⟨?_, ?_⟩)
  all_goals (as_aux_lemma => kernel_rfl)
theorem over : Rows.fnExactOneStrokeRow.holds Tryd.pinned (OpenSpec.ofChange Rows.fnExactOneStrokeSpec) :=
  OpenClaim.holds_of_wide 10 Tryd.f10 rfl rfl rfl rfl rfl rfl rfl ⟨rfl, rfl, rfl, rfl, rfl⟩ rfl rfl rfl rfl rfl (by kernel_rfl) Tryd.func10 closed
    (of_decide_eq_true (by kernel_rfl)) (by unfold Func.isWrapper; first | (rw [if_pos (by decide +kernel)]; kernel_rfl) | (rw [if_neg (by decide +kernel)]; exact ⟨rfl, rfl⟩))
    (fun os started H enc _ => lifted os started H enc)
end Go.Proofs.YtgeeojchgfomjaaDoor.fnExactOneStroke
