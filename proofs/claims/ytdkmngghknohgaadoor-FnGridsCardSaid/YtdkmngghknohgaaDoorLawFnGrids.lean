/- The law FnGrids: called with any arguments it returns true, and each argument reads as before. Conditions: the two tables of Go's library that the row lists read as the program's text lays them (the card ties them). -/
import Derived.Test.YtdkmngghknohgaaDoorVFnGrids
import Derived.Test.YtdkmngghknohgaaDoorOverFnGrids
import Derived.Test.YtdkmngghknohgaaDoorRows
import Derived.Test.YtdkmngghknohgaaDoorPFnGridsx
import Derived.Test.YtdkmngghknohgaaDoorPureFnGrids
import Derived.Test.YtdkmngghknohgaaDoorCards
import Derived.Test.YtdkmngghknohgaaDoorTie
import Derived.WalkKit
import Derived.ProofKit
import Derived.OpenShut
import Derived.ShutString
import Derived.ChangeOld
import Derived.Below
import Derived.SizedLaws
import Derived.Lib.SmallJoins
import Derived.LaidMore
import Derived.Lay
import Derived.SevenTiedAt
import Derived.Stop.Joined
namespace Go.Proofs.YtdkmngghknohgaaDoor.fnGrids
open Go.ChangeShapes Go.WideShapes Go.ChangeAt Go.RowKit Go.Proofs.YtdkmngghknohgaaDoor.Rd Go.Proofs.YtdkmngghknohgaaDoor.PFnGrids Go.Proofs.YtdkmngghknohgaaDoorW.PrintWords
open Go.ChangeMaps (open_string shut_string)
set_option linter.unusedVariables false
set_option maxHeartbeats 16000000 in
theorem proved : Rows.FnGridsCardSaid :=
  Claim7.holds_tied_plain_at .later [] [.data, .pinned] true (true, "dabe703b19fde5d46160627f2fe3b095164bea6f5fe52b82cad484f743897ffb") false over (fun _ h => by cases h) (by as_aux_lemma => kernel_rfl) (fun _ h => by cases h) fnGrids_row_tie rfl ⟨rfl, rfl⟩ (by as_aux_lemma => kernel_rfl) rfl
    (fun f fn hf hfn => by
      obtain rfl : f = 4 := Option.some.inj ((show Tryd.prog.funcNamed "loop.example/g01055/laws.FnGrids" = some 4 by as_aux_lemma => kernel_rfl).symm.trans hf) |>.symm
      obtain rfl : fn = Tryd.f4 := (Option.some.inj (Tryd.func4.symm.trans hfn)).symm
      exact ⟨by as_aux_lemma => kernel_rfl, fun j t ht => by
        rw [Tryd.params4] at ht
        have hm : t ∈ [22] := by simpa using Array.mem_of_getElem? ht
        have hall : ([22].all fun u => !Tryd.prog.wantsStandIn u) = true := by as_aux_lemma => kernel_rfl
        exact (show Tryd.prog.wantsStandIn t = false by simpa using List.all_eq_true.1 hall t hm)⟩)
    (by as_aux_lemma => kernel_rfl)
#print axioms proved
end Go.Proofs.YtdkmngghknohgaaDoor.fnGrids
namespace Go.Proofs.YtdkmngghknohgaaDoor
/-- The row, under a short name, for the claim. -/
theorem fnGrids_holds : Rows.FnGridsCardSaid := fnGrids.proved
end Go.Proofs.YtdkmngghknohgaaDoor
