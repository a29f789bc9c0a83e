/- The plain statement that the row of FnCatalogues comes to: for all values that its arguments can read as, the printed function tells true. -/
import Derived.Test.YtnjalpniedpgmaaGreatDoorPFnCataloguesx13
namespace Go.Proofs.YtnjalpniedpgmaaGreatDoor.PFnCatalogues
open Go.RowKit Go.Proofs.YtnjalpniedpgmaaGreatDoorW.PrintWords
def laws_FnCatalogues.Pure : Prop := ∀ (l0 : List Int), l0.length ≤ maxLen → (∀ y ∈ l0, (Lit.int .u8 y).wf = true) → ∃ k, laws_FnCatalogues.f k l0 = some true
end Go.Proofs.YtnjalpniedpgmaaGreatDoor.PFnCatalogues
