/- The law FnEditions: called with any arguments it returns true, and each argument reads as before. Conditions: the two tables of Go's library that the row lists read as the program's text lays them (the card ties them). -/
import Derived.Test.YtalmeecdjhelkaaDoorVFnEditions
import Derived.Test.YtalmeecdjhelkaaDoorOverFnEditions
import Derived.Test.YtalmeecdjhelkaaDoorRows
import Derived.Test.YtalmeecdjhelkaaDoorPFnEditionsx
import Derived.Test.YtalmeecdjhelkaaDoorPureFnEditions
import Derived.Test.YtalmeecdjhelkaaDoorCards
import Derived.Test.YtalmeecdjhelkaaDoorTie
import Derived.WalkKit
import Derived.ProofKit
import Derived.OpenShut
import Derived.ShutString
import Derived.ChangeOld
import Derived.Below
import Derived.SizedLaws
import Derived.Lib.SmallJoins
import Derived.LaidMore
import Derived.Lay
import Derived.SevenTiedAt
import Derived.Stop.Joined
namespace Go.Proofs.YtalmeecdjhelkaaDoor.fnEditions
open Go.ChangeShapes Go.WideShapes Go.ChangeAt Go.RowKit Go.Proofs.YtalmeecdjhelkaaDoor.Rd Go.Proofs.YtalmeecdjhelkaaDoor.PFnEditions Go.Proofs.YtalmeecdjhelkaaDoorW.PrintWords
open Go.ChangeMaps (open_string shut_string)
set_option linter.unusedVariables false
set_option maxHeartbeats 16000000 in
theorem proved : Rows.FnEditionsCardSaid :=
  Claim7.holds_tied_plain_at .later [] [.data, .pinned] true (true, "280ef4ed1c9e1d228f53580604383e98986172a3b46b953b5acb9ae4f582810f") false over (fun _ h => by cases h) (by as_aux_lemma => kernel_rfl) (fun _ h => by cases h) fnEditions_row_tie rfl ⟨rfl, rfl⟩ (by as_aux_lemma => kernel_rfl) rfl
    (fun f fn hf hfn => by
      obtain rfl : f = 8 := Option.some.inj ((show Tryd.prog.funcNamed "loop.example/g01055/laws.FnEditions" = some 8 by as_aux_lemma => kernel_rfl).symm.trans hf) |>.symm
      obtain rfl : fn = Tryd.f8 := (Option.some.inj (Tryd.func8.symm.trans hfn)).symm
      exact ⟨by as_aux_lemma => kernel_rfl, fun j t ht => by
        rw [Tryd.params8] at ht
        have hm : t ∈ [51] := by simpa using Array.mem_of_getElem? ht
        have hall : ([51].all fun u => !Tryd.prog.wantsStandIn u) = true := by as_aux_lemma => kernel_rfl
        exact (show Tryd.prog.wantsStandIn t = false by simpa using List.all_eq_true.1 hall t hm)⟩)
    (by as_aux_lemma => kernel_rfl)
#print axioms proved
end Go.Proofs.YtalmeecdjhelkaaDoor.fnEditions
namespace Go.Proofs.YtalmeecdjhelkaaDoor
/-- The row, under a short name, for the claim. -/
theorem fnEditions_holds : Rows.FnEditionsCardSaid := fnEditions.proved
end Go.Proofs.YtalmeecdjhelkaaDoor
