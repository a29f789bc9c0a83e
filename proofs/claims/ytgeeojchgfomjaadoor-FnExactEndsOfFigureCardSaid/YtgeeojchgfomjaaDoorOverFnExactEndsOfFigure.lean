/- A part of the row of FnExactEndsOfFigure: the row's facts on the program. -/
import Derived.Test.YtgeeojchgfomjaaDoorLiftFnExactEndsOfFigure
import Derived.Test.YtgeeojchgfomjaaDoorRows
import Derived.Test.YtgeeojchgfomjaaDoorPFnExactEndsOfFigurex
import Derived.Test.YtgeeojchgfomjaaDoorPureFnExactEndsOfFigure
import Derived.Test.YtgeeojchgfomjaaDoorRd
import Derived.Test.YtgeeojchgfomjaaDoorCards
import Derived.Test.YtgeeojchgfomjaaDoorTie
import Derived.WalkKit
import Derived.ProofKit
import Derived.OpenShut
import Derived.ShutString
import Derived.ChangeOld
import Derived.Below
import Derived.SizedLaws
import Derived.Lib.SmallJoins
import Derived.LaidMore
import Derived.Lay
import Derived.SevenTiedAt
import Derived.Stop.Joined
namespace Go.Proofs.YtgeeojchgfomjaaDoor.fnExactEndsOfFigure
open Go.ChangeShapes Go.WideShapes Go.ChangeAt Go.RowKit Go.Proofs.YtgeeojchgfomjaaDoor.Rd Go.Proofs.YtgeeojchgfomjaaDoor.PFnExactEndsOfFigure Go.Proofs.YtgeeojchgfomjaaDoorW.PrintWords
open Go.ChangeMaps (open_string shut_string)
set_option linter.unusedVariables false
set_option maxHeartbeats 16000000 in
theorem closed : joinedFacts Tryd.pinned.checked.prog 11 Tryd.f11 Rows.fnExactEndsOfFigureSpec Rows.fnExactEndsOfFigureRow = true := by
  unfold joinedFacts
  repeat' (with_reducible refine Bool.and_eq_true_iff.2 ⟨?_, ?_⟩)
  all_goals (as_aux_lemma => kernel_rfl)
theorem over : Rows.fnExactEndsOfFigureRow.holds Tryd.pinned (OpenSpec.ofChange Rows.fnExactEndsOfFigureSpec) :=
  OpenClaim.holds_of_wide 11 Tryd.f11 rfl rfl rfl rfl rfl rfl rfl ⟨rfl, rfl, rfl, rfl, rfl⟩ rfl rfl rfl rfl rfl (by kernel_rfl) Tryd.func11 closed
    (of_decide_eq_true (by kernel_rfl)) (by unfold Func.isWrapper; first | (rw [if_pos (by decide +kernel)]; kernel_rfl) | (rw [if_neg (by decide +kernel)]; exact ⟨rfl, rfl⟩))
    (fun os started H enc _ => lifted os started H enc)
end Go.Proofs.YtgeeojchgfomjaaDoor.fnExactEndsOfFigure
