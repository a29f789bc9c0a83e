/- The law FnEdits: called with any arguments it returns true, and each argument reads as before. Conditions: the two tables of Go's library that the row lists read as the program's text lays them (the card ties them). -/
import Derived.Test.YtlkgajfhgcongaaGreatDoorVFnEdits
import Derived.Test.YtlkgajfhgcongaaGreatDoorOverFnEdits
import Derived.Test.YtlkgajfhgcongaaGreatDoorRows
import Derived.Test.YtlkgajfhgcongaaGreatDoorPFnEditsx
import Derived.Test.YtlkgajfhgcongaaGreatDoorPureFnEdits
import Derived.Test.YtlkgajfhgcongaaGreatDoorCards
import Derived.Test.YtlkgajfhgcongaaGreatDoorTie
import Derived.WalkKit
import Derived.ProofKit
import Derived.OpenShut
import Derived.ShutString
import Derived.ChangeOld
import Derived.Below
import Derived.SizedLaws
import Derived.Lib.SmallJoins
import Derived.LaidMore
import Derived.Lay
import Derived.SevenTiedAt
import Derived.Stop.Joined
namespace Go.Proofs.YtlkgajfhgcongaaGreatDoor.fnEdits
open Go.ChangeShapes Go.WideShapes Go.ChangeAt Go.RowKit Go.Proofs.YtlkgajfhgcongaaGreatDoor.Rd Go.Proofs.YtlkgajfhgcongaaGreatDoor.PFnEdits Go.Proofs.YtlkgajfhgcongaaGreatDoorW.PrintWords
open Go.ChangeMaps (open_string shut_string)
set_option linter.unusedVariables false
set_option maxHeartbeats 16000000 in
theorem proved : Rows.FnEditsCardSaid :=
  Claim7.holds_tied_plain_at .later [] [.data, .data, .data, .data, .sentinel, .sentinel, .pinned] true (true, "be1e3acb31419a13da15fff8f2f08f4789c6b1e9ac9b4050cc89000cf3be776c") true over (fun _ h => by cases h) (by as_aux_lemma => kernel_rfl) (fun _ h => by cases h) fnEdits_row_tie rfl ⟨rfl, rfl⟩ (by as_aux_lemma => kernel_rfl) rfl
    (fun f fn hf hfn => by
      obtain rfl : f = 3 := Option.some.inj ((show Tryz.prog.funcNamed "loop.example/g01055/laws.FnEdits" = some 3 by as_aux_lemma => kernel_rfl).symm.trans hf) |>.symm
      obtain rfl : fn = Tryz.f3 := (Option.some.inj (Tryz.func3.symm.trans hfn)).symm
      exact ⟨by as_aux_lemma => kernel_rfl, fun j t ht => by
        rw [Tryz.params3] at ht
        have hm : t ∈ [22, 22] := by simpa using Array.mem_of_getElem? ht
        have hall : ([22, 22].all fun u => !Tryz.prog.wantsStandIn u) = true := by as_aux_lemma => kernel_rfl
        exact (show Tryz.prog.wantsStandIn t = false by simpa using List.all_eq_true.1 hall t hm)⟩)
    (by as_aux_lemma => kernel_rfl)
#print axioms proved
end Go.Proofs.YtlkgajfhgcongaaGreatDoor.fnEdits
namespace Go.Proofs.YtlkgajfhgcongaaGreatDoor
/-- The row, under a short name, for the claim. -/
theorem fnEdits_holds : Rows.FnEditsCardSaid := fnEdits.proved
end Go.Proofs.YtlkgajfhgcongaaGreatDoor
