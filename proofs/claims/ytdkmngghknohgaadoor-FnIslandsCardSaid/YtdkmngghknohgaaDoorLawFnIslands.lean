/- The law FnIslands: called with any arguments it returns true, and each argument reads as before. Conditions: the two tables of Go's library that the row lists read as the program's text lays them (the card ties them). -/
import Derived.Test.YtdkmngghknohgaaDoorVFnIslands
import Derived.Test.YtdkmngghknohgaaDoorOverFnIslands
import Derived.Test.YtdkmngghknohgaaDoorRows
import Derived.Test.YtdkmngghknohgaaDoorPFnIslandsx
import Derived.Test.YtdkmngghknohgaaDoorPureFnIslands
import Derived.Test.YtdkmngghknohgaaDoorCards
import Derived.Test.YtdkmngghknohgaaDoorTie
import Derived.WalkKit
import Derived.ProofKit
import Derived.OpenShut
import Derived.ShutString
import Derived.ChangeOld
import Derived.Below
import Derived.SizedLaws
import Derived.Lib.SmallJoins
import Derived.LaidMore
import Derived.Lay
import Derived.SevenTiedAt
import Derived.Stop.Joined
namespace Go.Proofs.YtdkmngghknohgaaDoor.fnIslands
open Go.ChangeShapes Go.WideShapes Go.ChangeAt Go.RowKit Go.Proofs.YtdkmngghknohgaaDoor.Rd Go.Proofs.YtdkmngghknohgaaDoor.PFnIslands Go.Proofs.YtdkmngghknohgaaDoorW.PrintWords
open Go.ChangeMaps (open_string shut_string)
set_option linter.unusedVariables false
set_option maxHeartbeats 16000000 in
theorem proved : Rows.FnIslandsCardSaid :=
  Claim7.holds_tied_plain_at .later [] [.data, .pinned] true (true, "dabe703b19fde5d46160627f2fe3b095164bea6f5fe52b82cad484f743897ffb") false over (fun _ h => by cases h) (by as_aux_lemma => kernel_rfl) (fun _ h => by cases h) fnIslands_row_tie rfl ⟨rfl, rfl⟩ (by as_aux_lemma => kernel_rfl) rfl
    (fun f fn hf hfn => by
      obtain rfl : f = 3 := Option.some.inj ((show Tryd.prog.funcNamed "loop.example/g01055/laws.FnIslands" = some 3 by as_aux_lemma => kernel_rfl).symm.trans hf) |>.symm
      obtain rfl : fn = Tryd.f3 := (Option.some.inj (Tryd.func3.symm.trans hfn)).symm
      exact ⟨by as_aux_lemma => kernel_rfl, fun j t ht => by
        rw [Tryd.params3] at ht
        have hm : t ∈ [22] := by simpa using Array.mem_of_getElem? ht
        have hall : ([22].all fun u => !Tryd.prog.wantsStandIn u) = true := by as_aux_lemma => kernel_rfl
        exact (show Tryd.prog.wantsStandIn t = false by simpa using List.all_eq_true.1 hall t hm)⟩)
    (by as_aux_lemma => kernel_rfl)
#print axioms proved
end Go.Proofs.YtdkmngghknohgaaDoor.fnIslands
namespace Go.Proofs.YtdkmngghknohgaaDoor
/-- The row, under a short name, for the claim. -/
theorem fnIslands_holds : Rows.FnIslandsCardSaid := fnIslands.proved
end Go.Proofs.YtdkmngghknohgaaDoor
