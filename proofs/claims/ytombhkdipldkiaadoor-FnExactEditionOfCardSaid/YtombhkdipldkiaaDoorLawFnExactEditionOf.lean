/- The law FnExactEditionOf: called with any arguments it returns true, and each argument reads as before. Conditions: the two tables of Go's library that the row lists read as the program's text lays them (the card ties them). -/
import Derived.Test.YtombhkdipldkiaaDoorOverFnExactEditionOf
import Derived.Test.YtombhkdipldkiaaDoorRows
import Derived.Test.YtombhkdipldkiaaDoorPFnExactEditionOfx
import Derived.Test.YtombhkdipldkiaaDoorPureFnExactEditionOf
import Derived.Test.YtombhkdipldkiaaDoorRd
import Derived.Test.YtombhkdipldkiaaDoorCards
import Derived.Test.YtombhkdipldkiaaDoorTie
import Derived.WalkKit
import Derived.ProofKit
import Derived.OpenShut
import Derived.ShutString
import Derived.ChangeOld
import Derived.Below
import Derived.SizedLaws
import Derived.Lib.SmallJoins
import Derived.LaidMore
import Derived.Lay
import Derived.SevenTiedAt
import Derived.Stop.Joined
namespace Go.Proofs.YtombhkdipldkiaaDoor.fnExactEditionOf
open Go.ChangeShapes Go.WideShapes Go.ChangeAt Go.RowKit Go.Proofs.YtombhkdipldkiaaDoor.Rd Go.Proofs.YtombhkdipldkiaaDoor.PFnExactEditionOf Go.Proofs.YtombhkdipldkiaaDoorW.PrintWords
open Go.ChangeMaps (open_string shut_string)
set_option linter.unusedVariables false
set_option maxHeartbeats 16000000 in
theorem proved : Rows.FnExactEditionOfCardSaid :=
  Claim7.holds_tied_plain_at .later [] [.data, .pinned] true (true, "18be9983159563319864430eebd87e3d65edd0c9b17e9ddb35e8b248053f0fd5") false over (fun _ h => by cases h) (by as_aux_lemma => kernel_rfl) (fun _ h => by cases h) fnExactEditionOf_row_tie rfl ⟨rfl, rfl⟩ (by as_aux_lemma => kernel_rfl) rfl
    (fun f fn hf hfn => by
      obtain rfl : f = 6 := Option.some.inj ((show Tryd.prog.funcNamed "loop.example/g01055/laws.FnExactEditionOf" = some 6 by as_aux_lemma => kernel_rfl).symm.trans hf) |>.symm
      obtain rfl : fn = Tryd.f6 := (Option.some.inj (Tryd.func6.symm.trans hfn)).symm
      exact ⟨by as_aux_lemma => kernel_rfl, fun j t ht => by
        rw [Tryd.params6] at ht
        have hm : t ∈ [22, 49] := by simpa using Array.mem_of_getElem? ht
        have hall : ([22, 49].all fun u => !Tryd.prog.wantsStandIn u) = true := by as_aux_lemma => kernel_rfl
        exact (show Tryd.prog.wantsStandIn t = false by simpa using List.all_eq_true.1 hall t hm)⟩)
    (by as_aux_lemma => kernel_rfl)
#print axioms proved
end Go.Proofs.YtombhkdipldkiaaDoor.fnExactEditionOf
namespace Go.Proofs.YtombhkdipldkiaaDoor
/-- The row, under a short name, for the claim. -/
theorem fnExactEditionOf_holds : Rows.FnExactEditionOfCardSaid := fnExactEditionOf.proved
end Go.Proofs.YtombhkdipldkiaaDoor
