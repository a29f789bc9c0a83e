-- Made by a program of this session (gprint.py) out of the kit's print of the translation and texts of my own. SLIM
import Derived.Test.YtalmeecdjhelkaaDoorPFnEditionsx0
import Derived.Test.YtalmeecdjhelkaaDoorPFnEditionsx2
namespace Go.Proofs.YtalmeecdjhelkaaDoor.PFnEditions
open Go.RowKit Go.Proofs.YtalmeecdjhelkaaDoorW.PrintWords Go.Proofs.YtalmeecdjhelkaaDoorW.PrintLast Go.Proofs.YtalmeecdjhelkaaDoorW.PrintMore
set_option maxHeartbeats 64000000
set_option maxRecDepth 100000
attribute [local go_sem] max2_int min2_int max_two min_two max_three min_three max_four min_four   -- for this text's walks alone
set_option linter.unusedVariables false
set_option linter.unusedSimpArgs false

/-! ### spec_ValidEditions: function 59 -/
def spec_ValidEditions.f (k : Nat) (l0 : List (S64)) : Option (Bool) := (spec_l14Ok.f k l0).bind fun t436 => (some t436)
theorem spec_ValidEditions.mono : ∀ a0 k, LeO (spec_ValidEditions.f k a0) (spec_ValidEditions.f (k + 1) a0) := by
 intro a0 k;(unfold spec_ValidEditions.f)
 repeat' first | with_reducible (first | exact spec_l14Ok.mono _ _ | exact LeO.refl _ | exact LeO.none _ | refine LeO.ite ?_ ?_ | refine LeO.bind ?_ (fun _ => ?_)) | exact spec_l14Ok.mono _ _ | exact LeO.none _ | refine LeO.ite ?_ ?_ | refine LeO.bind ?_ (fun _ => ?_)
theorem spec_ValidEditions.calls (k : Nat) (A0 : Option Addr) (c0 : Nat) (l0 : List (S64)) (r : Bool) (w : World) (hr0 : Kd.C k64 w A0 l0.length l0) (hc0 : l0.length ≤ c0) (h : spec_ValidEditions.f k l0 = some r) :
  Calls Tryd.prog 59 #[.slice A0 l0.length c0] w fun e w' => e = .returned (.bool r) ∧ Below w.heap.size w w' := by
 (have HR0 := Aside0.mk hr0);(have HC0 := Aside0.mk hc0);clear hr0 hc0;(have HB := Aside0.mk (Below.refl w.heap.size w));(have H : ((spec_l14Ok.f k l0).bind fun t436 => (some t436)) = some r := h);clear h;(replace H := Option.bind_eq_some_iff.mp H);(obtain ⟨t436, A20, H⟩ := H);(replace H : (some t436) = some r := H);(have A2 := Aside0.mk A20);clear A20;(obtain rfl := Option.some.inj H)
 go_enter Tryd.func59, Tryd.ntmps59
 (go_wp2_with (first | ((with_reducible refine gate_callee (f := 71) rfl ?_); refine goesL_ (some 4) rfl rfl Tryd.func71 (by kernel_rfl) rfl #[.slice A0 l0.length c0] rfl zq1 ?_; (with_reducible refine (spec_l14Ok.calls k _ _ l0 t436 _ ?side1 ?side2 A2.out).mono ?_); (case side1 => exact zq88); (case side2 => exact HC0.out); rintro e w3 ⟨rfl, hb⟩; refine ⟨_, rfl, ?_⟩; have n0_ := Aside0.mk (below_step zq55 hb); clear HB; have HB := n0_; clear n0_; (try clear hb); (try clear hb2); (try clear hk); (try clear hi))));(go_ret);(exact ⟨zq34, zq55⟩)

end Go.Proofs.YtalmeecdjhelkaaDoor.PFnEditions
