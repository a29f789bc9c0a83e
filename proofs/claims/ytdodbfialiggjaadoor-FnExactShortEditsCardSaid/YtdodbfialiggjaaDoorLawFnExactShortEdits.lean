/- The law FnExactShortEdits: called with any arguments it returns true, and each argument reads as before. Conditions: the two tables of Go's library that the row lists read as the program's text lays them (the card ties them). -/
import Derived.Test.YtdodbfialiggjaaDoorOverFnExactShortEdits
import Derived.Test.YtdodbfialiggjaaDoorRows
import Derived.Test.YtdodbfialiggjaaDoorPFnExactShortEditsx
import Derived.Test.YtdodbfialiggjaaDoorPureFnExactShortEdits
import Derived.Test.YtdodbfialiggjaaDoorRd
import Derived.Test.YtdodbfialiggjaaDoorCards
import Derived.Test.YtdodbfialiggjaaDoorTie
import Derived.WalkKit
import Derived.ProofKit
import Derived.OpenShut
import Derived.ShutString
import Derived.ChangeOld
import Derived.Below
import Derived.SizedLaws
import Derived.Lib.SmallJoins
import Derived.LaidMore
import Derived.Lay
import Derived.SevenTiedAt
import Derived.Stop.Joined
namespace Go.Proofs.YtdodbfialiggjaaDoor.fnExactShortEdits
open Go.ChangeShapes Go.WideShapes Go.ChangeAt Go.RowKit Go.Proofs.YtdodbfialiggjaaDoor.Rd Go.Proofs.YtdodbfialiggjaaDoor.PFnExactShortEdits Go.Proofs.YtdodbfialiggjaaDoorW.PrintWords
open Go.ChangeMaps (open_string shut_string)
set_option linter.unusedVariables false
set_option maxHeartbeats 16000000 in
theorem proved : Rows.FnExactShortEditsCardSaid :=
  Claim7.holds_tied_plain_at .later [] [.data, .pinned] true (true, "acc26487ae85da5968f07464264217c453d5aebb6280a9ab1fde6601e1a0a44a") true over (fun _ h => by cases h) (by as_aux_lemma => kernel_rfl) (fun _ h => by cases h) fnExactShortEdits_row_tie rfl ⟨rfl, rfl⟩ (by as_aux_lemma => kernel_rfl) rfl
    (fun f fn hf hfn => by
      obtain rfl : f = 4 := Option.some.inj ((show Tryd.prog.funcNamed "loop.example/g01055/laws.FnExactShortEdits" = some 4 by as_aux_lemma => kernel_rfl).symm.trans hf) |>.symm
      obtain rfl : fn = Tryd.f4 := (Option.some.inj (Tryd.func4.symm.trans hfn)).symm
      exact ⟨by as_aux_lemma => kernel_rfl, fun j t ht => by
        rw [Tryd.params4] at ht
        have hm : t ∈ [33] := by simpa using Array.mem_of_getElem? ht
        have hall : ([33].all fun u => !Tryd.prog.wantsStandIn u) = true := by as_aux_lemma => kernel_rfl
        exact (show Tryd.prog.wantsStandIn t = false by simpa using List.all_eq_true.1 hall t hm)⟩)
    (by as_aux_lemma => kernel_rfl)
#print axioms proved
end Go.Proofs.YtdodbfialiggjaaDoor.fnExactShortEdits
namespace Go.Proofs.YtdodbfialiggjaaDoor
/-- The row, under a short name, for the claim. -/
theorem fnExactShortEdits_holds : Rows.FnExactShortEditsCardSaid := fnExactShortEdits.proved
end Go.Proofs.YtdodbfialiggjaaDoor
