/- The law FnCatalogues: called with any arguments it returns true, and each argument reads as before. Conditions: the two tables of Go's library that the row lists read as the program's text lays them (the card ties them). -/
import Derived.Test.YtnjalpniedpgmaaGreatDoorVFnCatalogues
import Derived.Test.YtnjalpniedpgmaaGreatDoorOverFnCatalogues
import Derived.Test.YtnjalpniedpgmaaGreatDoorRows
import Derived.Test.YtnjalpniedpgmaaGreatDoorPFnCataloguesx
import Derived.Test.YtnjalpniedpgmaaGreatDoorPureFnCatalogues
import Derived.Test.YtnjalpniedpgmaaGreatDoorCards
import Derived.Test.YtnjalpniedpgmaaGreatDoorTie
import Derived.WalkKit
import Derived.ProofKit
import Derived.OpenShut
import Derived.ShutString
import Derived.ChangeOld
import Derived.Below
import Derived.SizedLaws
import Derived.Lib.SmallJoins
import Derived.LaidMore
import Derived.Lay
import Derived.SevenTiedAt
import Derived.Stop.Joined
namespace Go.Proofs.YtnjalpniedpgmaaGreatDoor.fnCatalogues
open Go.ChangeShapes Go.WideShapes Go.ChangeAt Go.RowKit Go.Proofs.YtnjalpniedpgmaaGreatDoor.Rd Go.Proofs.YtnjalpniedpgmaaGreatDoor.PFnCatalogues Go.Proofs.YtnjalpniedpgmaaGreatDoorW.PrintWords
open Go.ChangeMaps (open_string shut_string)
set_option linter.unusedVariables false
set_option maxHeartbeats 16000000 in
theorem proved : Rows.FnCataloguesCardSaid :=
  Claim7.holds_tied_plain_at .later [] [.data, .data, .data, .data, .pinned] true (true, "4447dc2d097abbed43b6f689d0ed91403ae47594a04ccd1c1c5a186f0f9eb0d0") false over (fun _ h => by cases h) (by as_aux_lemma => kernel_rfl) (fun _ h => by cases h) fnCatalogues_row_tie rfl ⟨rfl, rfl⟩ (by as_aux_lemma => kernel_rfl) rfl
    (fun f fn hf hfn => by
      obtain rfl : f = 3 := Option.some.inj ((show Tryz.prog.funcNamed "loop.example/g01055/laws.FnCatalogues" = some 3 by as_aux_lemma => kernel_rfl).symm.trans hf) |>.symm
      obtain rfl : fn = Tryz.f3 := (Option.some.inj (Tryz.func3.symm.trans hfn)).symm
      exact ⟨by as_aux_lemma => kernel_rfl, fun j t ht => by
        rw [Tryz.params3] at ht
        have hm : t ∈ [22] := by simpa using Array.mem_of_getElem? ht
        have hall : ([22].all fun u => !Tryz.prog.wantsStandIn u) = true := by as_aux_lemma => kernel_rfl
        exact (show Tryz.prog.wantsStandIn t = false by simpa using List.all_eq_true.1 hall t hm)⟩)
    (by as_aux_lemma => kernel_rfl)
#print axioms proved
end Go.Proofs.YtnjalpniedpgmaaGreatDoor.fnCatalogues
namespace Go.Proofs.YtnjalpniedpgmaaGreatDoor
/-- The row, under a short name, for the claim. -/
theorem fnCatalogues_holds : Rows.FnCataloguesCardSaid := fnCatalogues.proved
end Go.Proofs.YtnjalpniedpgmaaGreatDoor
