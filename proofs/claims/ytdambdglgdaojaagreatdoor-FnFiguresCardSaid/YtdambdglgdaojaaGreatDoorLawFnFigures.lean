/- The law FnFigures: called with any arguments it returns true, and each argument reads as before. Conditions: the two tables of Go's library that the row lists read as the program's text lays them (the card ties them). -/
import Derived.Test.YtdambdglgdaojaaGreatDoorVFnFigures
import Derived.Test.YtdambdglgdaojaaGreatDoorOverFnFigures
import Derived.Test.YtdambdglgdaojaaGreatDoorRows
import Derived.Test.YtdambdglgdaojaaGreatDoorPFnFiguresx
import Derived.Test.YtdambdglgdaojaaGreatDoorPureFnFigures
import Derived.Test.YtdambdglgdaojaaGreatDoorCards
import Derived.Test.YtdambdglgdaojaaGreatDoorTie
import Derived.WalkKit
import Derived.ProofKit
import Derived.OpenShut
import Derived.ShutString
import Derived.ChangeOld
import Derived.Below
import Derived.SizedLaws
import Derived.Lib.SmallJoins
import Derived.LaidMore
import Derived.Lay
import Derived.SevenTiedAt
import Derived.Stop.Joined
namespace Go.Proofs.YtdambdglgdaojaaGreatDoor.fnFigures
open Go.ChangeShapes Go.WideShapes Go.ChangeAt Go.RowKit Go.Proofs.YtdambdglgdaojaaGreatDoor.Rd Go.Proofs.YtdambdglgdaojaaGreatDoor.PFnFigures Go.Proofs.YtdambdglgdaojaaGreatDoorW.PrintWords
open Go.ChangeMaps (open_string shut_string)
set_option linter.unusedVariables false
set_option maxHeartbeats 16000000 in
theorem proved : Rows.FnFiguresCardSaid :=
  Claim7.holds_tied_plain_at .later [] [.data, .pinned] true (true, "62cb76d9156315764dcce3e428c862797f0cdc7808bac464308ddb12bf18edf2") false over (fun _ h => by cases h) (by as_aux_lemma => kernel_rfl) (fun _ h => by cases h) fnFigures_row_tie rfl ⟨rfl, rfl⟩ (by as_aux_lemma => kernel_rfl) rfl
    (fun f fn hf hfn => by
      obtain rfl : f = 3 := Option.some.inj ((show Tryz.prog.funcNamed "loop.example/g01055/laws.FnFigures" = some 3 by as_aux_lemma => kernel_rfl).symm.trans hf) |>.symm
      obtain rfl : fn = Tryz.f3 := (Option.some.inj (Tryz.func3.symm.trans hfn)).symm
      exact ⟨by as_aux_lemma => kernel_rfl, fun j t ht => by
        rw [Tryz.params3] at ht
        have hm : t ∈ [22] := by simpa using Array.mem_of_getElem? ht
        have hall : ([22].all fun u => !Tryz.prog.wantsStandIn u) = true := by as_aux_lemma => kernel_rfl
        exact (show Tryz.prog.wantsStandIn t = false by simpa using List.all_eq_true.1 hall t hm)⟩)
    (by as_aux_lemma => kernel_rfl)
#print axioms proved
end Go.Proofs.YtdambdglgdaojaaGreatDoor.fnFigures
namespace Go.Proofs.YtdambdglgdaojaaGreatDoor
/-- The row, under a short name, for the claim. -/
theorem fnFigures_holds : Rows.FnFiguresCardSaid := fnFigures.proved
end Go.Proofs.YtdambdglgdaojaaGreatDoor
