/- The law FnExactEndsOfFigure: called with any arguments it returns true, and each argument reads as before. Conditions: the two tables of Go's library that the row lists read as the program's text lays them (the card ties them). -/
import Derived.Test.YtgeeojchgfomjaaDoorOverFnExactEndsOfFigure
import Derived.Test.YtgeeojchgfomjaaDoorRows
import Derived.Test.YtgeeojchgfomjaaDoorPFnExactEndsOfFigurex
import Derived.Test.YtgeeojchgfomjaaDoorPureFnExactEndsOfFigure
import Derived.Test.YtgeeojchgfomjaaDoorRd
import Derived.Test.YtgeeojchgfomjaaDoorCards
import Derived.Test.YtgeeojchgfomjaaDoorTie
import Derived.WalkKit
import Derived.ProofKit
import Derived.OpenShut
import Derived.ShutString
import Derived.ChangeOld
import Derived.Below
import Derived.SizedLaws
import Derived.Lib.SmallJoins
import Derived.LaidMore
import Derived.Lay
import Derived.SevenTiedAt
import Derived.Stop.Joined
namespace Go.Proofs.YtgeeojchgfomjaaDoor.fnExactEndsOfFigure
open Go.ChangeShapes Go.WideShapes Go.ChangeAt Go.RowKit Go.Proofs.YtgeeojchgfomjaaDoor.Rd Go.Proofs.YtgeeojchgfomjaaDoor.PFnExactEndsOfFigure Go.Proofs.YtgeeojchgfomjaaDoorW.PrintWords
open Go.ChangeMaps (open_string shut_string)
set_option linter.unusedVariables false
set_option maxHeartbeats 16000000 in
theorem proved : Rows.FnExactEndsOfFigureCardSaid :=
  Claim7.holds_tied_plain_at .later [] [.data, .pinned] true (true, "d25b0f4d51f1a41d325d8697d121a1838de9828453b85c29be75d70658b0b3fe") false over (fun _ h => by cases h) (by as_aux_lemma => kernel_rfl) (fun _ h => by cases h) fnExactEndsOfFigure_row_tie rfl ⟨rfl, rfl⟩ (by as_aux_lemma => kernel_rfl) rfl
    (fun f fn hf hfn => by
      obtain rfl : f = 11 := Option.some.inj ((show Tryd.prog.funcNamed "loop.example/g01055/laws.FnExactEndsOfFigure" = some 11 by as_aux_lemma => kernel_rfl).symm.trans hf) |>.symm
      obtain rfl : fn = Tryd.f11 := (Option.some.inj (Tryd.func11.symm.trans hfn)).symm
      exact ⟨by as_aux_lemma => kernel_rfl, fun j t ht => by
        rw [Tryd.params11] at ht
        have hm : t ∈ [22, 29] := by simpa using Array.mem_of_getElem? ht
        have hall : ([22, 29].all fun u => !Tryd.prog.wantsStandIn u) = true := by as_aux_lemma => kernel_rfl
        exact (show Tryd.prog.wantsStandIn t = false by simpa using List.all_eq_true.1 hall t hm)⟩)
    (by as_aux_lemma => kernel_rfl)
#print axioms proved
end Go.Proofs.YtgeeojchgfomjaaDoor.fnExactEndsOfFigure
namespace Go.Proofs.YtgeeojchgfomjaaDoor
/-- The row, under a short name, for the claim. -/
theorem fnExactEndsOfFigure_holds : Rows.FnExactEndsOfFigureCardSaid := fnExactEndsOfFigure.proved
end Go.Proofs.YtgeeojchgfomjaaDoor
