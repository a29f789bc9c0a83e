-- Made by a program of this session (gprint.py) out of the kit's print of the translation and texts of my own. SLIM
import Derived.Test.YtalmeecdjhelkaaDoorPFnDatesx0
import Derived.Test.YtalmeecdjhelkaaDoorPFnDatesx1
import Derived.Test.YtalmeecdjhelkaaDoorPFnDatesx2
namespace Go.Proofs.YtalmeecdjhelkaaDoor.PFnDates
open Go.RowKit Go.Proofs.YtalmeecdjhelkaaDoorW.PrintWords Go.Proofs.YtalmeecdjhelkaaDoorW.PrintLast Go.Proofs.YtalmeecdjhelkaaDoorW.PrintMore
set_option maxHeartbeats 64000000
set_option maxRecDepth 100000
attribute [local go_sem] max2_int min2_int max_two min_two max_three min_three max_four min_four   -- for this text's walks alone
set_option linter.unusedVariables false
set_option linter.unusedSimpArgs false

/-! ### spec_l14One: function 61 -/
def spec_l14One.f (k : Nat) (l0 : List (S64)) (a1 : Int) : Option (Int) := (spec_l14Ok.f k l0).bind fun t115 => (if t115 = true then ((spec_l00In.f a1 0 (wrap64 ((l0.length : Int) - 1))).bind fun t116 => (if t116 = true then (some 0) else (some 2))) else (some 1))
theorem spec_l14One.mono : ∀ a0 a1 k, LeO (spec_l14One.f k a0 a1) (spec_l14One.f (k + 1) a0 a1) := by
 intro a0 a1 k;(unfold spec_l14One.f)
 repeat' first | with_reducible (first | exact spec_l14Ok.mono _ _ | exact LeO.refl _ | exact LeO.none _ | refine LeO.ite ?_ ?_ | refine LeO.bind ?_ (fun _ => ?_)) | exact spec_l14Ok.mono _ _ | exact LeO.none _ | refine LeO.ite ?_ ?_ | refine LeO.bind ?_ (fun _ => ?_)
theorem spec_l14One.calls (k : Nat) (A0 : Option Addr) (c0 : Nat) (l0 : List (S64)) (a1 : Int) (r : Int) (w : World) (hr0 : Kd.C k64 w A0 l0.length l0) (hc0 : l0.length ≤ c0) (h : spec_l14One.f k l0 a1 = some r) :
  Calls Tryd.prog 61 #[.slice A0 l0.length c0, .int .i64 a1] w fun e w' => e = .returned (.int .i64 r) ∧ Below w.heap.size w w' := by
 (have HR0 := Aside0.mk hr0);(have HC0 := Aside0.mk hc0);clear hr0 hc0;(have HB := Aside0.mk (Below.refl w.heap.size w));(have H : ((spec_l14Ok.f k l0).bind fun t115 => (if t115 = true then ((spec_l00In.f a1 0 (wrap64 ((l0.length : Int) - 1))).bind fun t116 => (if t116 = true then (some 0) else (some 2))) else (some 1))) = some r := h);clear h;(replace H := Option.bind_eq_some_iff.mp H);(obtain ⟨t115, A30, H⟩ := H);(replace H : (if t115 = true then ((spec_l00In.f a1 0 (wrap64 ((l0.length : Int) - 1))).bind fun t116 => (if t116 = true then (some 0) else (some 2))) else (some 1)) = some r := H);(have A3 := Aside0.mk A30);clear A30;(by_cases c4 : t115 = true)
 ·subst c4
  (have H1 : ((spec_l00In.f a1 0 (wrap64 ((l0.length : Int) - 1))).bind fun t116 => (if t116 = true then (some 0) else (some 2))) = some r := zq80);clear H;(have H := H1);clear H1;(replace H := Option.bind_eq_some_iff.mp H);(obtain ⟨t116, A50, H⟩ := H);(replace H : (if t116 = true then (some 0) else (some 2)) = some r := H);(have A5 := Aside0.mk A50);clear A50;(by_cases c6 : t116 = true)
  ·subst c6
   (have H1 : (some 0) = some r := zq80);clear H;(have H := H1);clear H1;(obtain rfl := Option.some.inj H)
   go_enter Tryd.func61, Tryd.ntmps61
   (go_wp2_with (first | ((with_reducible refine gate_callee (f := 71) rfl ?_); refine goesL_ (some 6) rfl rfl Tryd.func71 (by kernel_rfl) rfl #[.slice A0 l0.length c0] rfl zq0 ?_; (with_reducible refine (spec_l14Ok.calls k _ _ l0 true _ ?side1 ?side2 A3.out).mono ?_); (case side1 => exact zq74); (case side2 => exact HC0.out); rintro e w7 ⟨rfl, hb⟩; refine ⟨_, rfl, ?_⟩; have n0_ := Aside0.mk (below_step zq45 hb); clear HB; have HB := n0_; clear n0_; (try clear hb); (try clear hb2); (try clear hk); (try clear hi)) | ((with_reducible refine gate_callee (f := 74) rfl ?_); refine goesL_ (some 12) rfl rfl Tryd.func74 (by kernel_rfl) rfl #[.int .i64 a1, .int .i64 0, .int .i64 (wrap64 ((l0.length : Int) - 1))] rfl zq0 ?_; (with_reducible refine (spec_l00In.calls a1 0 (wrap64 ((l0.length : Int) - 1)) true _ A5.out).mono ?_); rintro e w' ⟨rfl, ⟨nd, rfl⟩⟩; refine ⟨_, rfl, ?_⟩)));(go_ret);(exact ⟨zq27, zq45⟩)
  ·replace c6 := Bool.eq_false_iff.mpr c6
   subst c6;(have H1 : (some 2) = some r := zq79);clear H;(have H := H1);clear H1;(obtain rfl := Option.some.inj H)
   go_enter Tryd.func61, Tryd.ntmps61
   (go_wp2_with (first | ((with_reducible refine gate_callee (f := 71) rfl ?_); refine goesL_ (some 6) rfl rfl Tryd.func71 (by kernel_rfl) rfl #[.slice A0 l0.length c0] rfl zq0 ?_; (with_reducible refine (spec_l14Ok.calls k _ _ l0 true _ ?side1 ?side2 A3.out).mono ?_); (case side1 => exact zq74); (case side2 => exact HC0.out); rintro e w8 ⟨rfl, hb⟩; refine ⟨_, rfl, ?_⟩; have n0_ := Aside0.mk (below_step zq45 hb); clear HB; have HB := n0_; clear n0_; (try clear hb); (try clear hb2); (try clear hk); (try clear hi)) | ((with_reducible refine gate_callee (f := 74) rfl ?_); refine goesL_ (some 12) rfl rfl Tryd.func74 (by kernel_rfl) rfl #[.int .i64 a1, .int .i64 0, .int .i64 (wrap64 ((l0.length : Int) - 1))] rfl zq0 ?_; (with_reducible refine (spec_l00In.calls a1 0 (wrap64 ((l0.length : Int) - 1)) false _ A5.out).mono ?_); rintro e w' ⟨rfl, ⟨nd, rfl⟩⟩; refine ⟨_, rfl, ?_⟩)));(go_ret);(exact ⟨zq27, zq45⟩)
 ·replace c4 := Bool.eq_false_iff.mpr c4
  subst c4;(have H1 : (some 1) = some r := zq79);clear H;(have H := H1);clear H1;(obtain rfl := Option.some.inj H)
  go_enter Tryd.func61, Tryd.ntmps61
  (go_wp2_with (first | ((with_reducible refine gate_callee (f := 71) rfl ?_); refine goesL_ (some 6) rfl rfl Tryd.func71 (by kernel_rfl) rfl #[.slice A0 l0.length c0] rfl zq0 ?_; (with_reducible refine (spec_l14Ok.calls k _ _ l0 false _ ?side1 ?side2 A3.out).mono ?_); (case side1 => exact zq74); (case side2 => exact HC0.out); rintro e w9 ⟨rfl, hb⟩; refine ⟨_, rfl, ?_⟩; have n0_ := Aside0.mk (below_step zq45 hb); clear HB; have HB := n0_; clear n0_; (try clear hb); (try clear hb2); (try clear hk); (try clear hi))));(go_ret);(exact ⟨zq27, zq45⟩)

end Go.Proofs.YtalmeecdjhelkaaDoor.PFnDates
