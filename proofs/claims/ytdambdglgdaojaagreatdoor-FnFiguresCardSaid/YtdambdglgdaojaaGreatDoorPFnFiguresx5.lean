-- Made by a program of this session (gprint.py) out of the kit's print of the translation and texts of my own. SLIM
import Derived.Test.YtdambdglgdaojaaGreatDoorPFnFiguresx0
import Derived.Test.YtdambdglgdaojaaGreatDoorPFnFiguresx4
namespace Go.Proofs.YtdambdglgdaojaaGreatDoor.PFnFigures
open Go.RowKit Go.Proofs.YtdambdglgdaojaaGreatDoorW.PrintWords Go.Proofs.YtdambdglgdaojaaGreatDoorW.PrintLast Go.Proofs.YtdambdglgdaojaaGreatDoorW.PrintMore
set_option maxHeartbeats 64000000
set_option maxRecDepth 100000
attribute [local go_sem] max2_int min2_int max_two min_two max_three min_three max_four min_four   -- for this text's walks alone
set_option linter.unusedVariables false
set_option linter.unusedSimpArgs false

/-! ### impl_IsName: function 60 -/
def impl_IsName.f (a0 : ByteArray) : Option (Bool) := if (a0.size : Int) < 1 then (some false) else (if (a0.size : Int) > 12 then (some false) else (if 0 < (a0.size : Int) then (if (bt a0 0) < 97 then (some false) else (if (bt a0 0) > 122 then (some false) else ((strings_Trim.f a0 (⟨#[97, 98, 99, 100, 101, 102, 103, 104, 105, 106, 107, 108, 109, 110, 111, 112, 113, 114, 115, 116, 117, 118, 119, 120, 121, 122, 48, 49, 50, 51, 52, 53, 54, 55, 56, 57, 45]⟩ : ByteArray)).bind fun t304 => (some (t304.toList == ([] : List UInt8)))))) else (none)))
theorem impl_IsName.calls (a0 : ByteArray) (r : Bool) (w : World) (h : impl_IsName.f a0 = some r) :
  Calls Tryz.prog 60 #[.string a0] w fun e w' => e = .returned (.bool r) ∧ Below w.heap.size w w' := by
 (have HB := Aside0.mk (Below.refl w.heap.size w));(have H : (if (a0.size : Int) < 1 then (some false) else (if (a0.size : Int) > 12 then (some false) else (if 0 < (a0.size : Int) then (if (bt a0 0) < 97 then (some false) else (if (bt a0 0) > 122 then (some false) else ((strings_Trim.f a0 (⟨#[97, 98, 99, 100, 101, 102, 103, 104, 105, 106, 107, 108, 109, 110, 111, 112, 113, 114, 115, 116, 117, 118, 119, 120, 121, 122, 48, 49, 50, 51, 52, 53, 54, 55, 56, 57, 45]⟩ : ByteArray)).bind fun t304 => (some (t304.toList == ([] : List UInt8)))))) else (none)))) = some r := h);clear h;(by_cases c2 : (a0.size : Int) < 1)
 ·rw [if_pos c2] at H
  (have c2b0 : decide ((a0.size : Int) < 1) = true := decide_eq_true c2);(have c2b1 : decide (a0.size < 1) = true := decide_eq_true (by omega));clear c2;(obtain rfl := Option.some.inj H)
  go_enter Tryz.func60, Tryz.ntmps60
  (go_wp2);(go_ret);(exact ⟨zq43, zq79⟩)
 ·rw [if_neg c2] at H
  (have c2b0 : decide ((a0.size : Int) < 1) = false := decide_eq_false c2);(have c2b1 : decide (a0.size < 1) = false := decide_eq_false (by omega));clear c2;(by_cases c3 : (a0.size : Int) > 12)
  ·rw [if_pos c3] at H
   (have c3b0 : decide (12 < (a0.size : Int)) = true := decide_eq_true c3);(have c3b1 : decide (12 < a0.size) = true := decide_eq_true (by omega));clear c3;(obtain rfl := Option.some.inj H)
   go_enter Tryz.func60, Tryz.ntmps60
   (go_wp2);(go_ret);(exact ⟨zq43, zq79⟩)
  ·rw [if_neg c3] at H
   (have c3b0 : decide (12 < (a0.size : Int)) = false := decide_eq_false c3);(have c3b1 : decide (12 < a0.size) = false := decide_eq_false (by omega));clear c3;(by_cases c4 : 0 < (a0.size : Int))
   ·rw [if_pos c4] at H
    (have c4b0 : decide (0 < (a0.size : Int)) = true := decide_eq_true c4);(have c4b1 : decide (0 < a0.size) = true := decide_eq_true (by omega));clear c4;(by_cases c6 : (bt a0 0) < 97)
    ·rw [if_pos c6] at H
     (have c6b0 : decide ((bt a0 0) < 97) = true := decide_eq_true c6);clear c6;(obtain rfl := Option.some.inj H);(have p5 : 0 ≤ (0 : Int) := (by omega));(have q5 : 0 < a0.size := (by have : (0 : Int) < (a0.size : Int) := of_decide_eq_true zq39; omega));(have hx5 : ∀ h : 0 < a0.size, ((a0[0]'h).toNat : Int) = bt a0 0 := bt_at a0 0);clear p5;(have qi5 : (0 < (a0.size : Int)) = True := eq_true (of_decide_eq_true zq39));(replace q5 := eq_true q5)
     go_enter Tryz.func60, Tryz.ntmps60
     (go_wp2);(go_ret);(exact ⟨zq43, zq79⟩)
    ·rw [if_neg c6] at H
     (have c6b0 : decide ((bt a0 0) < 97) = false := decide_eq_false c6);clear c6;(by_cases c8 : (bt a0 0) > 122)
     ·rw [if_pos c8] at H
      (have c8b0 : decide (122 < (bt a0 0)) = true := decide_eq_true c8);clear c8;(obtain rfl := Option.some.inj H);(have p5 : 0 ≤ (0 : Int) := (by omega));(have q5 : 0 < a0.size := (by have : (0 : Int) < (a0.size : Int) := of_decide_eq_true zq39; omega));(have hx5 : ∀ h : 0 < a0.size, ((a0[0]'h).toNat : Int) = bt a0 0 := bt_at a0 0);clear p5;(have qi5 : (0 < (a0.size : Int)) = True := eq_true (of_decide_eq_true zq39));(replace q5 := eq_true q5);(have p7 : 0 ≤ (0 : Int) := (by omega));(have q7 : 0 < a0.size := (by have : (0 : Int) < (a0.size : Int) := of_decide_eq_true zq39; omega));(have hx7 : ∀ h : 0 < a0.size, ((a0[0]'h).toNat : Int) = bt a0 0 := bt_at a0 0);clear p7;(have qi7 : (0 < (a0.size : Int)) = True := eq_true (of_decide_eq_true zq39));(replace q7 := eq_true q7)
      go_enter Tryz.func60, Tryz.ntmps60
      (go_wp2);(go_ret);(exact ⟨zq43, zq79⟩)
     ·rw [if_neg c8] at H
      (have c8b0 : decide (122 < (bt a0 0)) = false := decide_eq_false c8);clear c8;(replace H := Option.bind_eq_some_iff.mp H);(obtain ⟨t304, A90, H⟩ := H);(replace H : (some (t304.toList == ([] : List UInt8))) = some r := H);(have A9 := Aside0.mk A90);clear A90;(obtain rfl := Option.some.inj H);(have p5 : 0 ≤ (0 : Int) := (by omega));(have q5 : 0 < a0.size := (by have : (0 : Int) < (a0.size : Int) := of_decide_eq_true zq39; omega));(have hx5 : ∀ h : 0 < a0.size, ((a0[0]'h).toNat : Int) = bt a0 0 := bt_at a0 0);clear p5;(have qi5 : (0 < (a0.size : Int)) = True := eq_true (of_decide_eq_true zq39));(replace q5 := eq_true q5);(have p7 : 0 ≤ (0 : Int) := (by omega));(have q7 : 0 < a0.size := (by have : (0 : Int) < (a0.size : Int) := of_decide_eq_true zq39; omega));(have hx7 : ∀ h : 0 < a0.size, ((a0[0]'h).toNat : Int) = bt a0 0 := bt_at a0 0);clear p7;(have qi7 : (0 < (a0.size : Int)) = True := eq_true (of_decide_eq_true zq39));(replace q7 := eq_true q7)
      go_enter Tryz.func60, Tryz.ntmps60
      (go_wp2_with (first | ((with_reducible refine gate_callee (f := 67) rfl ?_); refine goesL_ (some 22) rfl rfl Tryz.func67 (by kernel_rfl) rfl #[.string a0, .string (⟨#[97, 98, 99, 100, 101, 102, 103, 104, 105, 106, 107, 108, 109, 110, 111, 112, 113, 114, 115, 116, 117, 118, 119, 120, 121, 122, 48, 49, 50, 51, 52, 53, 54, 55, 56, 57, 45]⟩ : ByteArray)] rfl zq0 ?_; (with_reducible refine (strings_Trim.calls a0 (⟨#[97, 98, 99, 100, 101, 102, 103, 104, 105, 106, 107, 108, 109, 110, 111, 112, 113, 114, 115, 116, 117, 118, 119, 120, 121, 122, 48, 49, 50, 51, 52, 53, 54, 55, 56, 57, 45]⟩ : ByteArray) t304 _ A9.out).mono ?_); rintro e w10 ⟨rfl, hb⟩; refine ⟨_, rfl, ?_⟩; have n0_ := Aside0.mk (below_step zq79 hb); clear HB; have HB := n0_; clear n0_; (try clear hb); (try clear hb2); (try clear hk); (try clear hi))));(go_ret);(exact ⟨zq43, zq79⟩)
   ·rw [if_neg c4] at H
    exact absurd H (by simp)

/-! ### impl_ValidSpot: function 61 -/
def impl_ValidSpot.f (a0_0 : Int) (a0_1 : Int) : Option (Bool) := (impl_within.f a0_0 (-324000) 324000).bind fun t306 => (if t306 = true then ((impl_within.f a0_1 (-648000) 647999).bind fun t307 => (some t307)) else (some false))
theorem impl_ValidSpot.calls (a0_0 : Int) (a0_1 : Int) (r : Bool) (w : World) (h : impl_ValidSpot.f a0_0 a0_1 = some r) :
  Calls Tryz.prog 61 #[.agg #[.int .i64 a0_0, .int .i64 a0_1]] w fun e w' => e = .returned (.bool r) ∧ Below w.heap.size w w' := by
 (have hu51 := Tryz.underlying51);(have HB := Aside0.mk (Below.refl w.heap.size w));(have H : ((impl_within.f a0_0 (-324000) 324000).bind fun t306 => (if t306 = true then ((impl_within.f a0_1 (-648000) 647999).bind fun t307 => (some t307)) else (some false))) = some r := h);clear h;(replace H := Option.bind_eq_some_iff.mp H);(obtain ⟨t306, A20, H⟩ := H);(replace H : (if t306 = true then ((impl_within.f a0_1 (-648000) 647999).bind fun t307 => (some t307)) else (some false)) = some r := H);(have A2 := Aside0.mk A20);clear A20;(by_cases c3 : t306 = true)
 ·subst c3
  (have H1 : ((impl_within.f a0_1 (-648000) 647999).bind fun t307 => (some t307)) = some r := zq118);clear H;(have H := H1);clear H1;(replace H := Option.bind_eq_some_iff.mp H);(obtain ⟨t307, A40, H⟩ := H);(replace H : (some t307) = some r := H);(have A4 := Aside0.mk A40);clear A40;(obtain rfl := Option.some.inj H)
  go_enter Tryz.func61, Tryz.ntmps61
  (go_wp2_with (first | ((with_reducible refine gate_dst (N := 1) rfl ?_); refine box_event ?hg (N := 1) ?hd (cs := #[.int .i64 a0_0, .int .i64 a0_1]) (t := 51) ?hr ?_; (case hd => rfl); (case hg => rfl); (case hr => first | (go_simp; done) | (go_simp; rfl)); intro gb305 hg w5 hbox hb; have n0_ := Aside0.mk (below_step zq79 hb); have n1_ := Aside0.mk (hbox); have n2_ := Aside0.mk ((zq111 : w.heap.size ≤ gb305)); have n3_ := Aside0.mk ((zq111 : w.heap.size ≤ gb305)); clear HB; have HB := n0_; have BK305 := n1_; have GW305 := n2_; have GE305 := n3_; clear n0_ n1_ n2_ n3_; clear hb hbox hg; have hcz6_0 : w5.cell? ⟨gb305, 0, none⟩ = some (.int .i64 a0_0) := (blk_cell BK305.out 0).trans rfl; have hcz6_1 : w5.cell? ⟨gb305, 1, none⟩ = some (.int .i64 a0_1) := (blk_cell BK305.out 1).trans rfl; have hfz6_0 := blk_frozen BK305.out 0; have hfz6_1 := blk_frozen BK305.out 1) | ((with_reducible refine gate_callee (f := 43) rfl ?_); refine goesL_ (some 5) rfl rfl Tryz.func43 (by kernel_rfl) rfl #[.int .i64 a0_0, .int .i64 (-324000), .int .i64 324000] rfl zq0 ?_; (with_reducible refine (impl_within.calls a0_0 (-324000) 324000 true _ A2.out).mono ?_); rintro e w' ⟨rfl, ⟨nd, rfl⟩⟩; refine ⟨_, rfl, ?_⟩) | (go_at_call 43; (with_reducible refine (impl_within.calls a0_1 (-648000) 647999 t307 _ A4.out).mono ?_); rintro e w' ⟨rfl, ⟨nd, rfl⟩⟩)));(go_ret);(exact ⟨zq43, zq69⟩)
 ·replace c3 := Bool.eq_false_iff.mpr c3
  subst c3;(have H1 : (some false) = some r := zq117);clear H;(have H := H1);clear H1;(obtain rfl := Option.some.inj H)
  go_enter Tryz.func61, Tryz.ntmps61
  (go_wp2_with (first | ((with_reducible refine gate_dst (N := 1) rfl ?_); refine box_event ?hg (N := 1) ?hd (cs := #[.int .i64 a0_0, .int .i64 a0_1]) (t := 51) ?hr ?_; (case hd => rfl); (case hg => rfl); (case hr => first | (go_simp; done) | (go_simp; rfl)); intro gb305 hg w7 hbox hb; have n0_ := Aside0.mk (below_step zq79 hb); have n1_ := Aside0.mk (hbox); have n2_ := Aside0.mk ((zq111 : w.heap.size ≤ gb305)); have n3_ := Aside0.mk ((zq111 : w.heap.size ≤ gb305)); clear HB; have HB := n0_; have BK305 := n1_; have GW305 := n2_; have GE305 := n3_; clear n0_ n1_ n2_ n3_; clear hb hbox hg; have hcz8_0 : w7.cell? ⟨gb305, 0, none⟩ = some (.int .i64 a0_0) := (blk_cell BK305.out 0).trans rfl; have hcz8_1 : w7.cell? ⟨gb305, 1, none⟩ = some (.int .i64 a0_1) := (blk_cell BK305.out 1).trans rfl; have hfz8_0 := blk_frozen BK305.out 0; have hfz8_1 := blk_frozen BK305.out 1) | ((with_reducible refine gate_callee (f := 43) rfl ?_); refine goesL_ (some 5) rfl rfl Tryz.func43 (by kernel_rfl) rfl #[.int .i64 a0_0, .int .i64 (-324000), .int .i64 324000] rfl zq0 ?_; (with_reducible refine (impl_within.calls a0_0 (-324000) 324000 false _ A2.out).mono ?_); rintro e w' ⟨rfl, ⟨nd, rfl⟩⟩; refine ⟨_, rfl, ?_⟩)));(go_ret);(exact ⟨zq43, zq69⟩)

/-! ### impl_isStar: function 50 -/
def impl_isStar.f (a0_0 : ByteArray) (a0_1 : Int) (a0_2 : Int) (a0_3 : Int) : Option (Bool) := (impl_IsName.f a0_0).bind fun t309 => (if t309 = true then ((impl_isClass.f a0_1).bind fun t310 => (if t310 = true then ((impl_ValidSpot.f a0_2 a0_3).bind fun t311 => (some t311)) else (some false))) else (some false))
theorem impl_isStar.calls (a0_0 : ByteArray) (a0_1 : Int) (a0_2 : Int) (a0_3 : Int) (r : Bool) (w : World) (h : impl_isStar.f a0_0 a0_1 a0_2 a0_3 = some r) :
  Calls Tryz.prog 50 #[.agg #[.string a0_0, .int .i64 a0_1, .int .i64 a0_2, .int .i64 a0_3]] w fun e w' => e = .returned (.bool r) ∧ Below w.heap.size w w' := by
 (have hu53 := Tryz.underlying53);(have hu51 := Tryz.underlying51);(have HB := Aside0.mk (Below.refl w.heap.size w));(have H : ((impl_IsName.f a0_0).bind fun t309 => (if t309 = true then ((impl_isClass.f a0_1).bind fun t310 => (if t310 = true then ((impl_ValidSpot.f a0_2 a0_3).bind fun t311 => (some t311)) else (some false))) else (some false))) = some r := h);clear h;(replace H := Option.bind_eq_some_iff.mp H);(obtain ⟨t309, A20, H⟩ := H);(replace H : (if t309 = true then ((impl_isClass.f a0_1).bind fun t310 => (if t310 = true then ((impl_ValidSpot.f a0_2 a0_3).bind fun t311 => (some t311)) else (some false))) else (some false)) = some r := H);(have A2 := Aside0.mk A20);clear A20;(by_cases c3 : t309 = true)
 ·subst c3
  (have H1 : ((impl_isClass.f a0_1).bind fun t310 => (if t310 = true then ((impl_ValidSpot.f a0_2 a0_3).bind fun t311 => (some t311)) else (some false))) = some r := zq118);clear H;(have H := H1);clear H1;(replace H := Option.bind_eq_some_iff.mp H);(obtain ⟨t310, A40, H⟩ := H);(replace H : (if t310 = true then ((impl_ValidSpot.f a0_2 a0_3).bind fun t311 => (some t311)) else (some false)) = some r := H);(have A4 := Aside0.mk A40);clear A40;(by_cases c5 : t310 = true)
  ·subst c5
   (have H1 : ((impl_ValidSpot.f a0_2 a0_3).bind fun t311 => (some t311)) = some r := zq118);clear H;(have H := H1);clear H1;(replace H := Option.bind_eq_some_iff.mp H);(obtain ⟨t311, A60, H⟩ := H);(replace H : (some t311) = some r := H);(have A6 := Aside0.mk A60);clear A60;(obtain rfl := Option.some.inj H)
   go_enter Tryz.func50, Tryz.ntmps50
   (go_wp2_with (first | ((with_reducible refine gate_dst (N := 1) rfl ?_); refine box_event ?hg (N := 1) ?hd (cs := #[.string a0_0, .int .i64 a0_1, .int .i64 a0_2, .int .i64 a0_3]) (t := 53) ?hr ?_; (case hd => rfl); (case hg => rfl); (case hr => first | (go_simp; done) | (go_simp; rfl)); intro gb308 hg w7 hbox hb; have n0_ := Aside0.mk (below_step zq79 hb); have n1_ := Aside0.mk (hbox); have n2_ := Aside0.mk ((zq111 : w.heap.size ≤ gb308)); have n3_ := Aside0.mk ((zq111 : w.heap.size ≤ gb308)); clear HB; have HB := n0_; have BK308 := n1_; have GW308 := n2_; have GE308 := n3_; clear n0_ n1_ n2_ n3_; clear hb hbox hg; have hcz8_0 : w7.cell? ⟨gb308, 0, none⟩ = some (.string a0_0) := (blk_cell BK308.out 0).trans rfl; have hcz8_1 : w7.cell? ⟨gb308, 1, none⟩ = some (.int .i64 a0_1) := (blk_cell BK308.out 1).trans rfl; have hcz8_2 : w7.cell? ⟨gb308, 2, none⟩ = some (.int .i64 a0_2) := (blk_cell BK308.out 2).trans rfl; have hcz8_3 : w7.cell? ⟨gb308, 3, none⟩ = some (.int .i64 a0_3) := (blk_cell BK308.out 3).trans rfl; have hfz8_0 := blk_frozen BK308.out 0; have hfz8_1 := blk_frozen BK308.out 1; have hfz8_2 := blk_frozen BK308.out 2; have hfz8_3 := blk_frozen BK308.out 3) | ((with_reducible refine gate_callee (f := 60) rfl ?_); refine goesL_ (some 5) rfl rfl Tryz.func60 (by kernel_rfl) rfl #[.string a0_0] rfl zq0 ?_; (with_reducible refine (impl_IsName.calls a0_0 true _ A2.out).mono ?_); rintro e w9 ⟨rfl, hb⟩; refine ⟨_, rfl, ?_⟩; have n0_ := Aside0.mk (blk_below (g := gb308) (o := .cells #[.string a0_0, .int .i64 a0_1, .int .i64 a0_2, .int .i64 a0_3] 53 (0, 0)) zq21 hb); have n1_ := Aside0.mk (below_step zq70 hb); clear BK308; clear HB; have BK308 := n0_; have HB := n1_; clear n0_ n1_; (try clear hb); (try clear hb2); (try clear hk); (try clear hi); have hcz10_0 : w9.cell? ⟨gb308, 0, none⟩ = some (.string a0_0) := (blk_cell BK308.out 0).trans rfl; have hcz10_1 : w9.cell? ⟨gb308, 1, none⟩ = some (.int .i64 a0_1) := (blk_cell BK308.out 1).trans rfl; have hcz10_2 : w9.cell? ⟨gb308, 2, none⟩ = some (.int .i64 a0_2) := (blk_cell BK308.out 2).trans rfl; have hcz10_3 : w9.cell? ⟨gb308, 3, none⟩ = some (.int .i64 a0_3) := (blk_cell BK308.out 3).trans rfl; have hfz10_0 := blk_frozen BK308.out 0; have hfz10_1 := blk_frozen BK308.out 1; have hfz10_2 := blk_frozen BK308.out 2; have hfz10_3 := blk_frozen BK308.out 3) | (go_at_call 25; (with_reducible refine (impl_isClass.calls a0_1 true _ A4.out).mono ?_); rintro e w' ⟨rfl, ⟨nd, rfl⟩⟩) | (go_at_call 61; (with_reducible refine (impl_ValidSpot.calls a0_2 a0_3 t311 _ A6.out).mono ?_); rintro e w11 ⟨rfl, hb⟩; have n0_ := Aside0.mk (blk_below (g := gb308) (o := .cells #[.string a0_0, .int .i64 a0_1, .int .i64 a0_2, .int .i64 a0_3] 53 (0, 0)) zq21 hb); have n1_ := Aside0.mk (below_step zq70 hb); clear BK308; clear HB; have BK308 := n0_; have HB := n1_; clear n0_ n1_; (try clear hb); (try clear hb2); (try clear hk); (try clear hi))));(go_ret);(exact ⟨zq43, zq70⟩)
  ·replace c5 := Bool.eq_false_iff.mpr c5
   subst c5;(have H1 : (some false) = some r := zq117);clear H;(have H := H1);clear H1;(obtain rfl := Option.some.inj H)
   go_enter Tryz.func50, Tryz.ntmps50
   (go_wp2_with (first | ((with_reducible refine gate_dst (N := 1) rfl ?_); refine box_event ?hg (N := 1) ?hd (cs := #[.string a0_0, .int .i64 a0_1, .int .i64 a0_2, .int .i64 a0_3]) (t := 53) ?hr ?_; (case hd => rfl); (case hg => rfl); (case hr => first | (go_simp; done) | (go_simp; rfl)); intro gb308 hg w12 hbox hb; have n0_ := Aside0.mk (below_step zq79 hb); have n1_ := Aside0.mk (hbox); have n2_ := Aside0.mk ((zq111 : w.heap.size ≤ gb308)); have n3_ := Aside0.mk ((zq111 : w.heap.size ≤ gb308)); clear HB; have HB := n0_; have BK308 := n1_; have GW308 := n2_; have GE308 := n3_; clear n0_ n1_ n2_ n3_; clear hb hbox hg; have hcz13_0 : w12.cell? ⟨gb308, 0, none⟩ = some (.string a0_0) := (blk_cell BK308.out 0).trans rfl; have hcz13_1 : w12.cell? ⟨gb308, 1, none⟩ = some (.int .i64 a0_1) := (blk_cell BK308.out 1).trans rfl; have hcz13_2 : w12.cell? ⟨gb308, 2, none⟩ = some (.int .i64 a0_2) := (blk_cell BK308.out 2).trans rfl; have hcz13_3 : w12.cell? ⟨gb308, 3, none⟩ = some (.int .i64 a0_3) := (blk_cell BK308.out 3).trans rfl; have hfz13_0 := blk_frozen BK308.out 0; have hfz13_1 := blk_frozen BK308.out 1; have hfz13_2 := blk_frozen BK308.out 2; have hfz13_3 := blk_frozen BK308.out 3) | ((with_reducible refine gate_callee (f := 60) rfl ?_); refine goesL_ (some 5) rfl rfl Tryz.func60 (by kernel_rfl) rfl #[.string a0_0] rfl zq0 ?_; (with_reducible refine (impl_IsName.calls a0_0 true _ A2.out).mono ?_); rintro e w14 ⟨rfl, hb⟩; refine ⟨_, rfl, ?_⟩; have n0_ := Aside0.mk (blk_below (g := gb308) (o := .cells #[.string a0_0, .int .i64 a0_1, .int .i64 a0_2, .int .i64 a0_3] 53 (0, 0)) zq21 hb); have n1_ := Aside0.mk (below_step zq70 hb); clear BK308; clear HB; have BK308 := n0_; have HB := n1_; clear n0_ n1_; (try clear hb); (try clear hb2); (try clear hk); (try clear hi); have hcz15_0 : w14.cell? ⟨gb308, 0, none⟩ = some (.string a0_0) := (blk_cell BK308.out 0).trans rfl; have hcz15_1 : w14.cell? ⟨gb308, 1, none⟩ = some (.int .i64 a0_1) := (blk_cell BK308.out 1).trans rfl; have hcz15_2 : w14.cell? ⟨gb308, 2, none⟩ = some (.int .i64 a0_2) := (blk_cell BK308.out 2).trans rfl; have hcz15_3 : w14.cell? ⟨gb308, 3, none⟩ = some (.int .i64 a0_3) := (blk_cell BK308.out 3).trans rfl; have hfz15_0 := blk_frozen BK308.out 0; have hfz15_1 := blk_frozen BK308.out 1; have hfz15_2 := blk_frozen BK308.out 2; have hfz15_3 := blk_frozen BK308.out 3) | (go_at_call 25; (with_reducible refine (impl_isClass.calls a0_1 false _ A4.out).mono ?_); rintro e w' ⟨rfl, ⟨nd, rfl⟩⟩)));(go_ret);(exact ⟨zq43, zq70⟩)
 ·replace c3 := Bool.eq_false_iff.mpr c3
  subst c3;(have H1 : (some false) = some r := zq117);clear H;(have H := H1);clear H1;(obtain rfl := Option.some.inj H)
  go_enter Tryz.func50, Tryz.ntmps50
  (go_wp2_with (first | ((with_reducible refine gate_dst (N := 1) rfl ?_); refine box_event ?hg (N := 1) ?hd (cs := #[.string a0_0, .int .i64 a0_1, .int .i64 a0_2, .int .i64 a0_3]) (t := 53) ?hr ?_; (case hd => rfl); (case hg => rfl); (case hr => first | (go_simp; done) | (go_simp; rfl)); intro gb308 hg w16 hbox hb; have n0_ := Aside0.mk (below_step zq79 hb); have n1_ := Aside0.mk (hbox); have n2_ := Aside0.mk ((zq111 : w.heap.size ≤ gb308)); have n3_ := Aside0.mk ((zq111 : w.heap.size ≤ gb308)); clear HB; have HB := n0_; have BK308 := n1_; have GW308 := n2_; have GE308 := n3_; clear n0_ n1_ n2_ n3_; clear hb hbox hg; have hcz17_0 : w16.cell? ⟨gb308, 0, none⟩ = some (.string a0_0) := (blk_cell BK308.out 0).trans rfl; have hcz17_1 : w16.cell? ⟨gb308, 1, none⟩ = some (.int .i64 a0_1) := (blk_cell BK308.out 1).trans rfl; have hcz17_2 : w16.cell? ⟨gb308, 2, none⟩ = some (.int .i64 a0_2) := (blk_cell BK308.out 2).trans rfl; have hcz17_3 : w16.cell? ⟨gb308, 3, none⟩ = some (.int .i64 a0_3) := (blk_cell BK308.out 3).trans rfl; have hfz17_0 := blk_frozen BK308.out 0; have hfz17_1 := blk_frozen BK308.out 1; have hfz17_2 := blk_frozen BK308.out 2; have hfz17_3 := blk_frozen BK308.out 3) | ((with_reducible refine gate_callee (f := 60) rfl ?_); refine goesL_ (some 5) rfl rfl Tryz.func60 (by kernel_rfl) rfl #[.string a0_0] rfl zq0 ?_; (with_reducible refine (impl_IsName.calls a0_0 false _ A2.out).mono ?_); rintro e w18 ⟨rfl, hb⟩; refine ⟨_, rfl, ?_⟩; have n0_ := Aside0.mk (blk_below (g := gb308) (o := .cells #[.string a0_0, .int .i64 a0_1, .int .i64 a0_2, .int .i64 a0_3] 53 (0, 0)) zq21 hb); have n1_ := Aside0.mk (below_step zq70 hb); clear BK308; clear HB; have BK308 := n0_; have HB := n1_; clear n0_ n1_; (try clear hb); (try clear hb2); (try clear hk); (try clear hi))));(go_ret);(exact ⟨zq43, zq70⟩)

/-! ### impl_ValidCatalogue: function 36 -/
-- given by hand

theorem idxStar_rd (l0 : List S53) (x5 : Int) (h0 : 0 ≤ x5) (hlt : x5 < (l0.length : Int)) : (rd_T53 l0 x5) = l0[x5.toNat]'(by omega) := by
 (unfold rd_T53);(rw [List.getD_eq_getElem?_getD, List.getElem?_eq_getElem (show x5.toNat < l0.length by omega)]);rfl
def idxStar_v (p : S53 → Bool) (l : List S53) : Int := if l.any p then (l.findIdx p : Int) else -1
theorem idxStar_calls (p : S53 → Bool) (gg : Nat) (lb : Array Value) (eg : ∀ args w, (callFunc gg args).run Tryz.prog w = .ok (.enter gg args) w) (A0 : Option Addr) (c0 : Nat) (l0 : List S53) (w : World) (hr0 : Kd.C k53 w A0 l0.length l0)
  (hp : ∀ (W : World) (x : S53), Below w.heap.size w W → Calls Tryz.prog gg (#[.agg #[.string x.f0, .int .i64 x.f1, .int .i64 x.f2.f0, .int .i64 x.f2.f1]] ++ lb) W fun e w' => e = .returned (.bool (p x)) ∧ Below w.heap.size w w') :
  Calls Tryz.prog 62 #[.slice A0 l0.length c0, .func (.func gg) #[] lb] w fun e w' => e = .returned (.int .i64 (idxStar_v p l0)) ∧ Below w.heap.size w w' := by
 (have HR := Aside0.mk hr0);(have HM := Kd.C_max hr0);clear hr0;(have HP := Aside0.mk hp);clear hp
 go_enter Tryz.func62, Tryz.ntmps62
 go_wp2
 go_loopg [5, 8] l0.length (fun gk _ s8 wr => ∃ x5 : Int, s8 = .int .i64 x5 ∧ 0 ≤ x5 ∧ x5 ≤ (l0.length : Int) ∧ (l0.length : Int) - x5 ≤ gk ∧ Aside0 (Below w.heap.size w wr) ∧ Aside0 (∀ j, (h : j < l0.length) → (j : Int) < x5 → p l0[j] = false))
 case atStart => exact ⟨0, rfl, by omega, by omega, by omega, ⟨Below.refl _ w⟩, ⟨fun j h hj => by omega⟩⟩
 case round =>
  (obtain ⟨x5, rfl, h0, h1, hg, BW, AA⟩ := hrel);(by_cases hlt : x5 < (l0.length : Int))
  ·have c4b0 : decide (x5 < (l0.length : Int)) = true := decide_eq_true hlt
   obtain ⟨ad, he, hx0, hx1, hx2, hx3⟩ := at_T53 HR.out x5 h0 (show x5 < (l0.length : Int) from hlt)
   cases he
   (replace hx0 := (BW.out.cell (World.block_lt_of_cell? w _ hx0)).trans hx0);(replace hx1 := (BW.out.cell (World.block_lt_of_cell? w _ hx1)).trans hx1);(replace hx2 := (BW.out.cell (World.block_lt_of_cell? w _ hx2)).trans hx2);(replace hx3 := (BW.out.cell (World.block_lt_of_cell? w _ hx3)).trans hx3);(have HY := Aside0.mk (idxStar_rd l0 x5 h0 hlt));(have hcall := HP.out wr (rd_T53 l0 x5) BW.out)
   cases hq : p (rd_T53 l0 x5) with
   | true =>
    (rw [hq] at hcall);(have HQ := Aside0.mk hq);clear hq;(go_wp2_with (go_at_fn gg; refine hcall.mono ?_; rintro e w' ⟨rfl, hb'⟩));(go_ret);(refine ⟨?_, hb'⟩);(have hy := HY.out);(have hqq := HQ.out);(have hall := AA.out)
    have e : idxStar_v p l0 = x5 := by
     (unfold idxStar_v);(rw [if_pos (List.any_eq_true.2 ⟨l0[x5.toNat]'(by omega), List.getElem_mem _, by rw [← hy]; exact hqq⟩)])
     have : l0.findIdx p = x5.toNat := by
      (rw [List.findIdx_eq (by omega)]);(refine ⟨by rw [← hy]; exact hqq, fun j hj => hall j (by omega) (by omega)⟩)
     omega
    (rw [e]);rfl
   | false =>
    (rw [hq] at hcall);(have HQ := Aside0.mk hq);clear hq;(go_wp2_with (go_at_fn gg; refine hcall.mono ?_; rintro e w' ⟨rfl, hb'⟩));(go_roundg (l0.length - (x5.toNat + 1)))
    case measure => omega
    case rel =>
     (refine ⟨x5 + 1, zq47, by omega, by omega, by omega, ⟨hb'⟩, ⟨fun j h hj => ?_⟩⟩);(by_cases ee : (j : Int) = x5)
     ·have hy := HY.out
      (have hqq := HQ.out);(rw [hy] at hqq);(have : j = x5.toNat := by omega);subst this;(exact hqq)
     ·exact AA.out j h (by omega)
  ·have c4b0 : decide (x5 < (l0.length : Int)) = false := decide_eq_false hlt
   (go_wp2);(go_ret);(refine ⟨?_, BW.out⟩)
   have e : idxStar_v p l0 = -1 := by
    (unfold idxStar_v);(rw [if_neg]);intro h;(obtain ⟨x, hx, hpx⟩ := List.any_eq_true.1 h);(obtain ⟨j, hj, rfl⟩ := List.getElem_of_mem hx);(have := AA.out j hj (by omega));(rw [hpx] at this)
    cases this
   (rw [e]);rfl
theorem idxStar_nonneg (p : S53 → Bool) (l : List S53) : decide (0 ≤ idxStar_v p l) = l.any p := by
 unfold idxStar_v
 cases h : l.any p
 ·simp
 ·simp

theorem conStar_calls (p : S53 → Bool) (gg : Nat) (lb : Array Value) (eg : ∀ args w, (callFunc gg args).run Tryz.prog w = .ok (.enter gg args) w) (A0 : Option Addr) (c0 : Nat) (l0 : List S53) (w : World) (hr0 : Kd.C k53 w A0 l0.length l0)
  (hp : ∀ (W : World) (x : S53), Below w.heap.size w W → Calls Tryz.prog gg (#[.agg #[.string x.f0, .int .i64 x.f1, .int .i64 x.f2.f0, .int .i64 x.f2.f1]] ++ lb) W fun e w' => e = .returned (.bool (p x)) ∧ Below w.heap.size w w') :
  Calls Tryz.prog 51 #[.slice A0 l0.length c0, .func (.func gg) #[] lb] w fun e w' => e = .returned (.bool (l0.any p)) ∧ Below w.heap.size w w' := by
 (have hI := idxStar_calls p gg lb eg A0 c0 l0 w hr0 hp);(have HN := Aside0.mk (idxStar_nonneg p l0));(generalize idxStar_v p l0 = vv at hI HN);(generalize l0.any p = bb at HN ⊢);clear hp hr0
 go_enter Tryz.func51, Tryz.ntmps51
 (go_wp2_with (go_at_call 62; refine hI.mono ?_; rintro e w' ⟨rfl, hb'⟩));(go_ret);(exact ⟨by rw [← HN.out]; rfl, hb'⟩)

theorem pIsName_some (s : ByteArray) : ∃ b, impl_IsName.f s = some b := by
 (unfold impl_IsName.f);(by_cases h0 : (s.size : Int) < 1)
 ·rw [if_pos h0]; exact ⟨_, rfl⟩
 ·rw [if_neg h0]
  by_cases h1 : (s.size : Int) > 12
  ·rw [if_pos h1]; exact ⟨_, rfl⟩
  ·rw [if_neg h1, if_pos (by omega)]
   by_cases h2 : bt s 0 < 97
   ·rw [if_pos h2]; exact ⟨_, rfl⟩
   ·rw [if_neg h2]
    by_cases h3 : bt s 0 > 122
    ·rw [if_pos h3]; exact ⟨_, rfl⟩
    ·rw [if_neg h3]
     (unfold strings_Trim.f);(rw [if_pos ⟨by omega, by decide, by decide +kernel⟩]);(exact ⟨_, rfl⟩)

theorem pStar_some (x : S53) : ∃ b, impl_isStar.f x.f0 x.f1 x.f2.f0 x.f2.f1 = some b := by
 (have hn := pIsName_some x.f0);(obtain ⟨b, hb⟩ := hn);(unfold impl_isStar.f impl_isClass.f impl_within.f impl_ValidSpot.f impl_within.f);(rw [hb])
 repeat' (first | split | simp only [Option.bind_some])
 all_goals exact ⟨_, rfl⟩
def starB (x : S53) : Bool := (impl_isStar.f x.f0 x.f1 x.f2.f0 x.f2.f1).getD false
theorem starB_eq (x : S53) : impl_isStar.f x.f0 x.f1 x.f2.f0 x.f2.f1 = some (starB x) := by
 (obtain ⟨b, hb⟩ := pStar_some x);(unfold starB);(rw [hb]);rfl
def starAt (l : List S53) (j : Nat) : Bool := starB (rd_T53 l j) && !(l.take j).any (fun y => y.f0.toList == (rd_T53 l j).f0.toList)
theorem sameName_calls (s : ByteArray) (box : Addr) (w W : World) (x : S53) (hc : w.cell? box = some (.string s)) (hB : Below w.heap.size w W) :
  Calls Tryz.prog 52 (#[.agg #[.string x.f0, .int .i64 x.f1, .int .i64 x.f2.f0, .int .i64 x.f2.f1]] ++ #[.pointer (some box)]) W fun e w' => e = .returned (.bool (x.f0.toList == s.toList)) ∧ Below w.heap.size w w' := by
 have hc2 : W.cell? box = some (.string s) := (hB.cell (World.block_lt_of_cell? w _ hc)).trans hc
 show Calls Tryz.prog 52 #[.agg #[.string x.f0, .int .i64 x.f1, .int .i64 x.f2.f0, .int .i64 x.f2.f1], .pointer (some box)] W _
 (have HB := Aside0.mk hB);(have HX := Aside0.mk (World.block_lt_of_cell? W _ hc2));clear hB hc;(have ha : ∀ o : Obj, (W.alloc o).cell? box = some (.string s) := fun o => ((below_alloc (Below.refl W.heap.size W) o).cell HX.out).trans hc2)
 cases x with
 | mk f0 f1 f2 =>
 cases f2 with
 | mk g0 g1 =>
 go_enter Tryz.func52, Tryz.ntmps52
 (go_wp2);(go_ret);(exact ⟨by first | rfl | simp, by repeat (first | exact HB.out | apply below_alloc | apply pw_below_drewN | apply below_drew1)⟩)
theorem cat_con (A0 : Option Addr) (c0 : Nat) (l0 : List S53) (x7 : Int) (h0 : 0 ≤ x7) (h1 : x7 ≤ (l0.length : Int)) (box : Addr) (s : ByteArray) (w : World) (hr : Kd.C k53 w A0 l0.length l0) (hc : w.cell? box = some (.string s)) :
  Calls Tryz.prog 51 #[.slice A0 x7.toNat c0, .func (.func 52) #[] #[.pointer (some box)]] w fun e w' => e = .returned (.bool ((l0.take x7.toNat).any (fun y => y.f0.toList == s.toList))) ∧ Below w.heap.size w w' := by
 (have hlen : (l0.take x7.toNat).length = x7.toNat := by rw [List.length_take]; omega);(have h := conStar_calls (fun y => y.f0.toList == s.toList) 52 #[.pointer (some box)] (enters_of Tryz.func52 (by kernel_rfl) rfl) A0 c0 (l0.take x7.toNat) w (Kd.C_take hr (by omega)) (fun W x hB => sameName_calls s box w W x hc hB));(rw [hlen] at h);(exact h)
def impl_ValidCatalogue.f (l0 : List S53) : Option Bool := some ((List.range l0.length).all (starAt l0) && decide ((l0.length : Int) ≤ 30))
theorem impl_ValidCatalogue.calls (A0 : Option Addr) (c0 : Nat) (l0 : List S53) (r : Bool) (w : World) (hr0 : Kd.C k53 w A0 l0.length l0) (hc0 : l0.length ≤ c0) (h : impl_ValidCatalogue.f l0 = some r) :
  Calls Tryz.prog 36 #[.slice A0 l0.length c0] w fun e w' => e = .returned (.bool r) ∧ Below w.heap.size w w' := by
 (have HH := Aside0.mk (Option.some.inj h).symm);clear h;(have HR := Aside0.mk hr0);(have HM := Kd.C_max hr0);(have HC := Aside0.mk hc0);clear hr0 hc0
 go_enter Tryz.func36, Tryz.ntmps36
 go_wp2
 go_loopg [7] l0.length (fun gk s7 wr => ∃ x7 : Int, s7 = .int .i64 x7 ∧ 0 ≤ x7 ∧ x7 ≤ (l0.length : Int) ∧ (l0.length : Int) - x7 ≤ gk ∧ Aside0 (Below w.heap.size w wr) ∧ Aside0 (∀ j : Nat, (j : Int) < x7 → starAt l0 j = true))
 case atStart => exact ⟨0, rfl, by omega, by omega, by omega, ⟨Below.refl _ w⟩, ⟨fun j hj => by omega⟩⟩
 case round =>
  (obtain ⟨x7, rfl, h0, h1, hg, HB, AA⟩ := hrel);(by_cases hlt : x7 < (l0.length : Int))
  ·have c8b0 : decide (x7 < (l0.length : Int)) = true := decide_eq_true hlt
   obtain ⟨ad, he, hx0, hx1, hx2, hx3⟩ := at_T53 HR.out x7 h0 hlt
   cases he
   (replace hx0 := (HB.out.cell (World.block_lt_of_cell? w _ hx0)).trans hx0);(replace hx1 := (HB.out.cell (World.block_lt_of_cell? w _ hx1)).trans hx1);(replace hx2 := (HB.out.cell (World.block_lt_of_cell? w _ hx2)).trans hx2);(replace hx3 := (HB.out.cell (World.block_lt_of_cell? w _ hx3)).trans hx3);(obtain ⟨ii, hii, _⟩ := Option.map_eq_some_iff.1 info53);(have hcut : ∀ W : World, (Instr.slice 24 (.slice (some ad) l0.length c0) none (some (.int .i64 x7)) none).run Tryz.prog W = .ok (.slice (some ad) x7.toNat c0) W := cut_to 24 53 .i64 Tryz.underlying24 hii (some ad) l0.length c0 x7 h0 (by omega) HC.out);clear hii;(have HS := Aside0.mk (starB_eq (rd_T53 l0 x7)));(have HXA := Aside0.mk (show starAt l0 x7.toNat = (starB (rd_T53 l0 x7) && !(l0.take x7.toNat).any (fun y => y.f0.toList == (rd_T53 l0 x7).f0.toList)) by unfold starAt; rw [show ((x7.toNat : Nat) : Int) = x7 by omega]))
   cases hb1 : starB (rd_T53 l0 x7) with
   | false =>
    (rw [hb1] at HS HXA);clear hb1
    have HF : (List.range l0.length).all (starAt l0) = false := by
     (rw [List.all_eq_false]);(exact ⟨x7.toNat, List.mem_range.2 (by omega), by rw [HXA.out]; simp⟩)
    (have HF2 := Aside0.mk HF);clear HF;(go_wp2_with (first | ((with_reducible refine gate_dst (N := 4) rfl ?_); refine box_event ?hg (N := 4) ?hd (cs := #[.string (⟨#[]⟩ : ByteArray), .int .i64 0, .int .i64 0, .int .i64 0]) (t := 53) ?hr ?_; (case hd => rfl); (case hg => rfl); (case hr => first | (go_simp; done) | (go_simp; rfl)); intro gb hg w1 hbox hb; have n0_ := Aside0.mk (below_step zq79 hb); have n1_ := Aside0.mk (hbox); have n2_ := Aside0.mk ((zq111 : w.heap.size ≤ gb)); clear HB; have HB := n0_; have BK := n1_; have GE := n2_; clear n0_ n1_ n2_; clear hb hbox hg; have hcz_0 : w1.cell? ⟨gb, 0, none⟩ = some (.string (⟨#[]⟩ : ByteArray)) := (blk_cell BK.out 0).trans rfl; have hcz_1 : w1.cell? ⟨gb, 1, none⟩ = some (.int .i64 0) := (blk_cell BK.out 1).trans rfl; have hcz_2 : w1.cell? ⟨gb, 2, none⟩ = some (.int .i64 0) := (blk_cell BK.out 2).trans rfl; have hcz_3 : w1.cell? ⟨gb, 3, none⟩ = some (.int .i64 0) := (blk_cell BK.out 3).trans rfl; have hfz_0 := blk_frozen BK.out 0; have hfz_1 := blk_frozen BK.out 1; have hfz_2 := blk_frozen BK.out 2; have hfz_3 := blk_frozen BK.out 3) | (go_at_call 50; refine (impl_isStar.calls (rd_T53 l0 x7).f0 (rd_T53 l0 x7).f1 (rd_T53 l0 x7).f2.f0 (rd_T53 l0 x7).f2.f1 false _ HS.out).mono ?_; rintro e w2 ⟨rfl, hb⟩; have n1_ := Aside0.mk (blk_below (g := gb) (o := .cells #[.string (rd_T53 l0 x7).f0, .int .i64 (rd_T53 l0 x7).f1, .int .i64 (rd_T53 l0 x7).f2.f0, .int .i64 (rd_T53 l0 x7).f2.f1] 53 (0, 0)) zq31 hb); have n2_ := Aside0.mk (below_step zq68 hb); clear BK; clear HB; have BK := n1_; have HB := n2_; clear n1_ n2_; clear hb)));(go_ret);(exact ⟨by rw [HH.out, HF2.out]; rfl, HB.out⟩)
   | true =>
    (rw [hb1] at HS HXA);clear hb1
    cases hq : (l0.take x7.toNat).any (fun y => y.f0.toList == (rd_T53 l0 x7).f0.toList) with
    | true =>
     (have HQ := Aside0.mk hq);clear hq
     have HF : (List.range l0.length).all (starAt l0) = false := by
      (rw [List.all_eq_false]);(exact ⟨x7.toNat, List.mem_range.2 (by omega), by rw [HXA.out, HQ.out]; simp⟩)
     (have HF2 := Aside0.mk HF);clear HF;(go_wp2_with (first | ((with_reducible refine gate_dst (N := 4) rfl ?_); refine box_event ?hg (N := 4) ?hd (cs := #[.string (⟨#[]⟩ : ByteArray), .int .i64 0, .int .i64 0, .int .i64 0]) (t := 53) ?hr ?_; (case hd => rfl); (case hg => rfl); (case hr => first | (go_simp; done) | (go_simp; rfl)); intro gb hg w1 hbox hb; have n0_ := Aside0.mk (below_step zq79 hb); have n1_ := Aside0.mk (hbox); have n2_ := Aside0.mk ((zq111 : w.heap.size ≤ gb)); clear HB; have HB := n0_; have BK := n1_; have GE := n2_; clear n0_ n1_ n2_; clear hb hbox hg; have hcz_0 : w1.cell? ⟨gb, 0, none⟩ = some (.string (⟨#[]⟩ : ByteArray)) := (blk_cell BK.out 0).trans rfl; have hcz_1 : w1.cell? ⟨gb, 1, none⟩ = some (.int .i64 0) := (blk_cell BK.out 1).trans rfl; have hcz_2 : w1.cell? ⟨gb, 2, none⟩ = some (.int .i64 0) := (blk_cell BK.out 2).trans rfl; have hcz_3 : w1.cell? ⟨gb, 3, none⟩ = some (.int .i64 0) := (blk_cell BK.out 3).trans rfl; have hfz_0 := blk_frozen BK.out 0; have hfz_1 := blk_frozen BK.out 1; have hfz_2 := blk_frozen BK.out 2; have hfz_3 := blk_frozen BK.out 3) | (go_at_call 50; refine (impl_isStar.calls (rd_T53 l0 x7).f0 (rd_T53 l0 x7).f1 (rd_T53 l0 x7).f2.f0 (rd_T53 l0 x7).f2.f1 true _ HS.out).mono ?_; rintro e w2 ⟨rfl, hb⟩; have n1_ := Aside0.mk (blk_below (g := gb) (o := .cells #[.string (rd_T53 l0 x7).f0, .int .i64 (rd_T53 l0 x7).f1, .int .i64 (rd_T53 l0 x7).f2.f0, .int .i64 (rd_T53 l0 x7).f2.f1] 53 (0, 0)) zq31 hb); have n2_ := Aside0.mk (below_step zq68 hb); clear BK; clear HB; have BK := n1_; have HB := n2_; clear n1_ n2_; clear hb) | (go_at_call 51; refine (cat_con _ c0 l0 x7 h0 (Int.le_of_lt hlt) ⟨gb, 0, none⟩ (rd_T53 l0 x7).f0 _ (Kd.C_below HR.out HB.out) ((blk_cell BK.out 0).trans rfl)).mono ?_; rw [HQ.out]; rintro e w3 ⟨rfl, hb⟩; have n2_ := Aside0.mk (below_step HB.out hb); clear HB; have HB := n2_; clear n2_ hb)));(go_ret);(exact ⟨by rw [HH.out, HF2.out]; rfl, HB.out⟩)
    | false =>
     (have HQ := Aside0.mk hq);clear hq;(go_wp2_with (first | ((with_reducible refine gate_dst (N := 4) rfl ?_); refine box_event ?hg (N := 4) ?hd (cs := #[.string (⟨#[]⟩ : ByteArray), .int .i64 0, .int .i64 0, .int .i64 0]) (t := 53) ?hr ?_; (case hd => rfl); (case hg => rfl); (case hr => first | (go_simp; done) | (go_simp; rfl)); intro gb hg w1 hbox hb; have n0_ := Aside0.mk (below_step zq79 hb); have n1_ := Aside0.mk (hbox); have n2_ := Aside0.mk ((zq111 : w.heap.size ≤ gb)); clear HB; have HB := n0_; have BK := n1_; have GE := n2_; clear n0_ n1_ n2_; clear hb hbox hg; have hcz_0 : w1.cell? ⟨gb, 0, none⟩ = some (.string (⟨#[]⟩ : ByteArray)) := (blk_cell BK.out 0).trans rfl; have hcz_1 : w1.cell? ⟨gb, 1, none⟩ = some (.int .i64 0) := (blk_cell BK.out 1).trans rfl; have hcz_2 : w1.cell? ⟨gb, 2, none⟩ = some (.int .i64 0) := (blk_cell BK.out 2).trans rfl; have hcz_3 : w1.cell? ⟨gb, 3, none⟩ = some (.int .i64 0) := (blk_cell BK.out 3).trans rfl; have hfz_0 := blk_frozen BK.out 0; have hfz_1 := blk_frozen BK.out 1; have hfz_2 := blk_frozen BK.out 2; have hfz_3 := blk_frozen BK.out 3) | (go_at_call 50; refine (impl_isStar.calls (rd_T53 l0 x7).f0 (rd_T53 l0 x7).f1 (rd_T53 l0 x7).f2.f0 (rd_T53 l0 x7).f2.f1 true _ HS.out).mono ?_; rintro e w2 ⟨rfl, hb⟩; have n1_ := Aside0.mk (blk_below (g := gb) (o := .cells #[.string (rd_T53 l0 x7).f0, .int .i64 (rd_T53 l0 x7).f1, .int .i64 (rd_T53 l0 x7).f2.f0, .int .i64 (rd_T53 l0 x7).f2.f1] 53 (0, 0)) zq31 hb); have n2_ := Aside0.mk (below_step zq68 hb); clear BK; clear HB; have BK := n1_; have HB := n2_; clear n1_ n2_; clear hb) | (go_at_call 51; refine (cat_con _ c0 l0 x7 h0 (Int.le_of_lt hlt) ⟨gb, 0, none⟩ (rd_T53 l0 x7).f0 _ (Kd.C_below HR.out HB.out) ((blk_cell BK.out 0).trans rfl)).mono ?_; rw [HQ.out]; rintro e w3 ⟨rfl, hb⟩; have n2_ := Aside0.mk (below_step HB.out hb); clear HB; have HB := n2_; clear n2_ hb)));(go_roundg (l0.length - (x7.toNat + 1)))
     case measure => omega
     case rel =>
      (refine ⟨x7 + 1, zq47, by omega, by omega, by omega, ⟨HB.out⟩, ⟨fun j hj => ?_⟩⟩);(by_cases ee : (j : Int) = x7)
      ·have : j = x7.toNat := by omega
       subst this;(rw [HXA.out, HQ.out]);rfl
      ·exact AA.out j (by omega)
  ·have c8b0 : decide (x7 < (l0.length : Int)) = false := decide_eq_false hlt
   have HF : (List.range l0.length).all (starAt l0) = true := by
    (rw [List.all_eq_true]);intro j hj;(exact AA.out j (by have := List.mem_range.1 hj; omega))
   (have HF2 := Aside0.mk HF);clear HF;(go_wp2);(go_ret);(exact ⟨by rw [HH.out, HF2.out]; rfl, HB.out⟩)


/-! ### impl_ValidFigure: function 24 -/
mutual
def impl_ValidFigure.l0 : Nat → List (S53) → List (S39) → List (S39) → Int → Int → Option (Bool)
 | 0, _, _, _, _, _ => none
 | k + 1, x0, x1, x7, x8, x9 => if x9 < x8 then (if 0 ≤ x9 then (if x9 < (x7.length : Int) then (if ((rd_T39 x7 x9).f0) < 0 then (impl_ValidFigure.j1 k x0 x1 x9 x7 x8 x9 true ((rd_T39 x7 x9).f0) ((rd_T39 x7 x9).f1)) else (if ((rd_T39 x7 x9).f0) ≥ ((rd_T39 x7 x9).f1) then (impl_ValidFigure.j1 k x0 x1 x9 x7 x8 x9 true ((rd_T39 x7 x9).f0) ((rd_T39 x7 x9).f1)) else (impl_ValidFigure.j1 k x0 x1 x9 x7 x8 x9 (decide (((rd_T39 x7 x9).f1) ≥ (x0.length : Int))) ((rd_T39 x7 x9).f0) ((rd_T39 x7 x9).f1)))) else (none)) else (none)) else ((impl_ValidCatalogue.f x0).bind fun t312 => (if t312 = true then (some (decide ((x1.length : Int) ≤ 40))) else (some false)))
def impl_ValidFigure.j1 : Nat → List (S53) → List (S39) → Int → List (S39) → Int → Int → Bool → Int → Int → Option (Bool)
 | 0, _, _, _, _, _, _, _, _, _ => none
 | k + 1, x0, x1, x5, x7, x8, x9, x30, x315000, x315001 => if x30 = true then (some false) else (if x5 > 0 then (if 0 ≤ (wrap64 (x5 - 1)) then (if (wrap64 (x5 - 1)) < (x1.length : Int) then (if ((rd_T39 x1 (wrap64 (x5 - 1))).f0) > x315000 then (some false) else (if ((rd_T39 x1 (wrap64 (x5 - 1))).f0) = x315000 then (if ((rd_T39 x1 (wrap64 (x5 - 1))).f1) ≥ x315001 then (some false) else (impl_ValidFigure.l0 k x0 x1 x7 x8 (wrap64 (x9 + 1)))) else (impl_ValidFigure.l0 k x0 x1 x7 x8 (wrap64 (x9 + 1))))) else (none)) else (none)) else (impl_ValidFigure.l0 k x0 x1 x7 x8 (wrap64 (x9 + 1))))
end
def impl_ValidFigure.f (k : Nat) (l0 : List (S53)) (l1 : List (S39)) : Option (Bool) := impl_ValidFigure.l0 k l0 l1 l1 (l1.length : Int) 0
theorem impl_ValidFigure.mono_l : ∀ k, (∀ y0 y1 y2 y3 y4, LeO (impl_ValidFigure.l0 k y0 y1 y2 y3 y4) (impl_ValidFigure.l0 (k + 1) y0 y1 y2 y3 y4)) ∧ (∀ y0 y1 y2 y3 y4 y5 y6 y7 y8, LeO (impl_ValidFigure.j1 k y0 y1 y2 y3 y4 y5 y6 y7 y8) (impl_ValidFigure.j1 (k + 1) y0 y1 y2 y3 y4 y5 y6 y7 y8))
 | 0 => ⟨fun _ _ _ _ _ r h => by simp [impl_ValidFigure.l0] at h, fun _ _ _ _ _ _ _ _ _ r h => by simp [impl_ValidFigure.j1] at h⟩
 | k + 1 => by
  (obtain ⟨ih0, ih1⟩ := impl_ValidFigure.mono_l k);(refine ⟨?_, ?_⟩)
  ·intro y0 y1 y2 y3 y4
   unfold impl_ValidFigure.l0
   repeat' first | with_reducible (first | exact ih0 _ _ _ _ _ | exact ih1 _ _ _ _ _ _ _ _ _ | exact LeO.refl _ | exact LeO.none _ | refine LeO.ite ?_ ?_ | refine LeO.bind ?_ (fun _ => ?_)) | exact ih0 _ _ _ _ _ | exact ih1 _ _ _ _ _ _ _ _ _ | exact LeO.none _ | refine LeO.ite ?_ ?_ | refine LeO.bind ?_ (fun _ => ?_)
  ·intro y0 y1 y2 y3 y4 y5 y6 y7 y8
   unfold impl_ValidFigure.j1
   repeat' first | with_reducible (first | exact ih0 _ _ _ _ _ | exact ih1 _ _ _ _ _ _ _ _ _ | exact LeO.refl _ | exact LeO.none _ | refine LeO.ite ?_ ?_ | refine LeO.bind ?_ (fun _ => ?_)) | exact ih0 _ _ _ _ _ | exact ih1 _ _ _ _ _ _ _ _ _ | exact LeO.none _ | refine LeO.ite ?_ ?_ | refine LeO.bind ?_ (fun _ => ?_)
theorem impl_ValidFigure.mono : ∀ a0 a1 k, LeO (impl_ValidFigure.f k a0 a1) (impl_ValidFigure.f (k + 1) a0 a1) := by
 intro a0 a1 k;(obtain ⟨ih0, ih1⟩ := impl_ValidFigure.mono_l k);(unfold impl_ValidFigure.f)
 repeat' first | with_reducible (first | exact ih0 _ _ _ _ _ | exact ih1 _ _ _ _ _ _ _ _ _ | exact LeO.refl _ | exact LeO.none _ | refine LeO.ite ?_ ?_ | refine LeO.bind ?_ (fun _ => ?_)) | exact ih0 _ _ _ _ _ | exact ih1 _ _ _ _ _ _ _ _ _ | exact LeO.none _ | refine LeO.ite ?_ ?_ | refine LeO.bind ?_ (fun _ => ?_)
theorem impl_ValidFigure.calls (k : Nat) (A0 : Option Addr) (c0 : Nat) (l0 : List (S53)) (A1 : Option Addr) (c1 : Nat) (l1 : List (S39)) (r : Bool) (w : World) (hr0 : Kd.C k53 w A0 l0.length l0) (hc0 : l0.length ≤ c0) (hr1 : Kd.C k39 w A1 l1.length l1) (hc1 : l1.length ≤ c1) (h : impl_ValidFigure.f k l0 l1 = some r) :
  Calls Tryz.prog 24 #[.slice A0 l0.length c0, .slice A1 l1.length c1] w fun e w' => e = .returned (.bool r) ∧ Below w.heap.size w w' := by
 (have hu39 := Tryz.underlying39);(have HR0 := Aside0.mk hr0);(have HC0 := Aside0.mk hc0);clear hr0 hc0;(have HR1 := Aside0.mk hr1);(have HC1 := Aside0.mk hc1);clear hr1 hc1;(have HB := Aside0.mk (Below.refl w.heap.size w));(have H : (impl_ValidFigure.l0 k l0 l1 l1 (l1.length : Int) 0) = some r := h);clear h;(have H' := Aside0.mk H);clear H
 go_enter Tryz.func24, Tryz.ntmps24
 (go_wp2);(repeat (go_quiet (fail); try go_wp2))
 go_loopg [9] k (fun kq v9 w' => ∃ (x9_1 : Int), v9 = .int .i64 x9_1 ∧ Aside0 (impl_ValidFigure.l0 kq l0 l1 l1 (l1.length : Int) x9_1 = some r) ∧ Aside0 (kq ≤ k) ∧ Aside0 (Below w.heap.size w w'))
 case atStart => exact ⟨(0), zq46, H', ⟨Nat.le_refl _⟩, ⟨zq79⟩⟩
 case round =>
  clear H';(try clear c1);(try clear c2);(try clear p2);(obtain ⟨x9_1, rfl, HA, HK1, HB⟩ := hrel)
  cases gk with
  | zero => exact absurd HA.out (by simp [impl_ValidFigure.l0])
  | succ k1 =>
   (have H := HA.out);clear HA;(simp only [impl_ValidFigure.l0] at H);(by_cases c3 : x9_1 < (l1.length : Int))
   ·rw [if_pos c3] at H
    (have c3b0 : decide (x9_1 < (l1.length : Int)) = true := decide_eq_true c3);clear c3;(by_cases c4 : 0 ≤ x9_1)
    ·rw [if_pos c4] at H
     (have c4b0 : decide (0 ≤ x9_1) = true := decide_eq_true c4);clear c4;(by_cases c5 : x9_1 < (l1.length : Int))
     ·rw [if_pos c5] at H
      (have c5b0 : decide (x9_1 < (l1.length : Int)) = true := decide_eq_true c5);clear c5;(have HC6 := Aside0.mk H);clear H;(have p313 : 0 ≤ (x9_1 : Int) := of_decide_eq_true zq39);(have q313 : x9_1 < (l1.length : Int) := of_decide_eq_true zq39);(obtain ⟨ad313, e313, hx313_0, hx313_1⟩ := at_T39 HR1.out x9_1 p313 q313)
      cases e313
      (replace hx313_0 := (HB.out.cell (World.block_lt_of_cell? w _ hx313_0)).trans hx313_0);(replace hx313_1 := (HB.out.cell (World.block_lt_of_cell? w _ hx313_1)).trans hx313_1);(replace p313 := eq_true p313);(replace q313 := eq_true q313);(go_upto_region 4 with (first | ((with_reducible refine gate_dst (N := 6) rfl ?_); (try (refine gate_guard (by rfl) ?_; dsimp only)); refine box_event ?hg (N := 6) ?hd (cs := #[.int .i64 0, .int .i64 0]) (t := 39) ?hr ?_; (case hd => rfl); (case hg => rfl); (case hr => first | (go_simp; done) | (go_simp; rfl)); intro gb314 hg w7 hbox hb; have n0_ := Aside0.mk (below_step zq79 hb); have n1_ := Aside0.mk (hbox); have n2_ := Aside0.mk ((zq111 : w.heap.size ≤ gb314)); have n3_ := Aside0.mk ((zq111 : w.heap.size ≤ gb314)); clear HB; have HB := n0_; have BK314 := n1_; have GW314 := n2_; have GE314 := n3_; clear n0_ n1_ n2_ n3_; clear hb hbox hg; have hcz8_0 : w7.cell? ⟨gb314, 0, none⟩ = some (.int .i64 0) := (blk_cell BK314.out 0).trans rfl; have hcz8_1 : w7.cell? ⟨gb314, 1, none⟩ = some (.int .i64 0) := (blk_cell BK314.out 1).trans rfl; have hfz8_0 := blk_frozen BK314.out 0; have hfz8_1 := blk_frozen BK314.out 1)));(repeat (go_quiet (first | ((with_reducible refine gate_dst (N := 6) rfl ?_); (try (refine gate_guard (by rfl) ?_; dsimp only)); refine box_event ?hg (N := 6) ?hd (cs := #[.int .i64 0, .int .i64 0]) (t := 39) ?hr ?_; (case hd => rfl); (case hg => rfl); (case hr => first | (go_simp; done) | (go_simp; rfl)); intro gb314 hg w7 hbox hb; have n0_ := Aside0.mk (below_step zq79 hb); have n1_ := Aside0.mk (hbox); have n2_ := Aside0.mk ((zq111 : w.heap.size ≤ gb314)); have n3_ := Aside0.mk ((zq111 : w.heap.size ≤ gb314)); clear HB; have HB := n0_; have BK314 := n1_; have GW314 := n2_; have GE314 := n3_; clear n0_ n1_ n2_ n3_; clear hb hbox hg; have hcz8_0 : w7.cell? ⟨gb314, 0, none⟩ = some (.int .i64 0) := (blk_cell BK314.out 0).trans rfl; have hcz8_1 : w7.cell? ⟨gb314, 1, none⟩ = some (.int .i64 0) := (blk_cell BK314.out 1).trans rfl; have hfz8_0 := blk_frozen BK314.out 0; have hfz8_1 := blk_frozen BK314.out 1)); go_upto_region 4 with (first | ((with_reducible refine gate_dst (N := 6) rfl ?_); (try (refine gate_guard (by rfl) ?_; dsimp only)); refine box_event ?hg (N := 6) ?hd (cs := #[.int .i64 0, .int .i64 0]) (t := 39) ?hr ?_; (case hd => rfl); (case hg => rfl); (case hr => first | (go_simp; done) | (go_simp; rfl)); intro gb314 hg w7 hbox hb; have n0_ := Aside0.mk (below_step zq79 hb); have n1_ := Aside0.mk (hbox); have n2_ := Aside0.mk ((zq111 : w.heap.size ≤ gb314)); have n3_ := Aside0.mk ((zq111 : w.heap.size ≤ gb314)); clear HB; have HB := n0_; have BK314 := n1_; have GW314 := n2_; have GE314 := n3_; clear n0_ n1_ n2_ n3_; clear hb hbox hg; have hcz8_0 : w7.cell? ⟨gb314, 0, none⟩ = some (.int .i64 0) := (blk_cell BK314.out 0).trans rfl; have hcz8_1 : w7.cell? ⟨gb314, 1, none⟩ = some (.int .i64 0) := (blk_cell BK314.out 1).trans rfl; have hfz8_0 := blk_frozen BK314.out 0; have hfz8_1 := blk_frozen BK314.out 1))));((try simp only [Act.put, List.setIfInBounds_toArray, List.set_cons_zero, List.set_cons_succ]))
      go_cut [30] (fun v30 wc => ∃ (kq : Nat) (x30_5 : Bool), v30 = .bool x30_5 ∧ Aside0 (impl_ValidFigure.j1 kq l0 l1 x9_1 l1 (l1.length : Int) x9_1 x30_5 ((rd_T39 l1 x9_1).f0) ((rd_T39 l1 x9_1).f1) = some r) ∧ Aside0 (kq ≤ k1) ∧ Aside0 (wc.heap[gb314]? = some (.cells #[.int .i64 ((rd_T39 l1 x9_1).f0), .int .i64 ((rd_T39 l1 x9_1).f1)] 39 (0, 0))) ∧ Aside0 (Below w.heap.size w wc))
      case first =>
       (have H := HC6.out);clear HC6;(by_cases c9 : ((rd_T39 l1 x9_1).f0) < 0)
       ·rw [if_pos c9] at H
        (have c9b0 : decide (((rd_T39 l1 x9_1).f0) < 0) = true := decide_eq_true c9);clear c9;((first | rw [c9b0] | (simp only [i64_w, i32_w]; rw [c9b0]) | skip));(have H' := Aside0.mk H);clear H;(have hcz10_0 : w7.cell? ⟨gb314, 0, none⟩ = some (.int .i64 0) := (blk_cell BK314.out 0).trans rfl);(have hcz10_1 : w7.cell? ⟨gb314, 1, none⟩ = some (.int .i64 0) := (blk_cell BK314.out 1).trans rfl);(have hfz10_0 := blk_frozen BK314.out 0);(have hfz10_1 := blk_frozen BK314.out 1);(go_wp2);(repeat (go_quiet (fail); try go_wp2))
        go_meet
        case rel => exact ⟨_, (true), zq46, H', ⟨zq50⟩, ⟨zq27⟩, ⟨zq71⟩⟩
       ·rw [if_neg c9] at H
        (have c9b0 : decide (((rd_T39 l1 x9_1).f0) < 0) = false := decide_eq_false c9);clear c9;((first | rw [c9b0] | (simp only [i64_w, i32_w]; rw [c9b0]) | skip));(by_cases c11 : ((rd_T39 l1 x9_1).f0) ≥ ((rd_T39 l1 x9_1).f1))
        ·rw [if_pos c11] at H
         (have c11b0 : decide (((rd_T39 l1 x9_1).f1) ≤ ((rd_T39 l1 x9_1).f0)) = true := decide_eq_true c11);clear c11;(have H' := Aside0.mk H);clear H;(have hcz12_0 : w7.cell? ⟨gb314, 0, none⟩ = some (.int .i64 0) := (blk_cell BK314.out 0).trans rfl);(have hcz12_1 : w7.cell? ⟨gb314, 1, none⟩ = some (.int .i64 0) := (blk_cell BK314.out 1).trans rfl);(have hfz12_0 := blk_frozen BK314.out 0);(have hfz12_1 := blk_frozen BK314.out 1);(go_wp2);(repeat (go_quiet (fail); try go_wp2))
         go_meet
         case rel => exact ⟨_, (true), zq46, H', ⟨zq50⟩, ⟨zq27⟩, ⟨zq71⟩⟩
        ·rw [if_neg c11] at H
         (have c11b0 : decide (((rd_T39 l1 x9_1).f1) ≤ ((rd_T39 l1 x9_1).f0)) = false := decide_eq_false c11);clear c11;(have H' := Aside0.mk H);clear H;(have hcz13_0 : w7.cell? ⟨gb314, 0, none⟩ = some (.int .i64 0) := (blk_cell BK314.out 0).trans rfl);(have hcz13_1 : w7.cell? ⟨gb314, 1, none⟩ = some (.int .i64 0) := (blk_cell BK314.out 1).trans rfl);(have hfz13_0 := blk_frozen BK314.out 0);(have hfz13_1 := blk_frozen BK314.out 1);(go_wp2);(repeat (go_quiet (fail); try go_wp2))
         go_meet
         case rel => exact ⟨_, (decide (((rd_T39 l1 x9_1).f1) ≥ (l0.length : Int))), zq46, H', ⟨zq50⟩, ⟨zq27⟩, ⟨zq71⟩⟩
      case rest =>
       clear HC6;(try clear c1);(try clear c2);(try clear p2);(try clear c3);(try clear c3b0);(try clear p3);(try clear q3);(try clear hx3);(try clear c4);(try clear c4b0);(try clear c5);(try clear c5b0);(try clear c9);(try clear c9b0);(try clear c11);(try clear c11b0);(try clear hcz10_0);(try clear hcz10_1);(try clear hcz12_0);(try clear hcz12_1);(try clear hcz13_0);(try clear hcz13_1);(try clear hcz8_0);(try clear hcz8_1);(try clear hfz10_0);(try clear hfz10_1);(try clear hfz12_0);(try clear hfz12_1);(try clear hfz13_0);(try clear hfz13_1);(try clear hfz8_0);(try clear hfz8_1);(try clear hx313_0);(try clear hx313_1);(try clear p2);(try clear p313);(try clear q313);(obtain ⟨kq, x30_5, rfl, HA, HJ5, BK314, HB⟩ := hcut)
       cases kq with
       | zero => exact absurd HA.out (by simp [impl_ValidFigure.j1])
       | succ kj5 =>
        (have H := HA.out);clear HA;(simp only [impl_ValidFigure.j1] at H);(by_cases c14 : x30_5 = true)
        ·subst c14
         (have H1 : (some false) = some r := zq118);clear H;(have H := H1);clear H1;(obtain rfl := Option.some.inj H);(go_wp2);(repeat (go_quiet (fail); try go_wp2));(go_ret);(exact ⟨zq43, zq71⟩)
        ·replace c14 := Bool.eq_false_iff.mpr c14
         subst c14;(have H1 : (if x9_1 > 0 then (if 0 ≤ (wrap64 (x9_1 - 1)) then (if (wrap64 (x9_1 - 1)) < (l1.length : Int) then (if ((rd_T39 l1 (wrap64 (x9_1 - 1))).f0) > ((rd_T39 l1 x9_1).f0) then (some false) else (if ((rd_T39 l1 (wrap64 (x9_1 - 1))).f0) = ((rd_T39 l1 x9_1).f0) then (if ((rd_T39 l1 (wrap64 (x9_1 - 1))).f1) ≥ ((rd_T39 l1 x9_1).f1) then (some false) else (impl_ValidFigure.l0 kj5 l0 l1 l1 (l1.length : Int) (wrap64 (x9_1 + 1)))) else (impl_ValidFigure.l0 kj5 l0 l1 l1 (l1.length : Int) (wrap64 (x9_1 + 1))))) else (none)) else (none)) else (impl_ValidFigure.l0 kj5 l0 l1 l1 (l1.length : Int) (wrap64 (x9_1 + 1)))) = some r := zq117);clear H;(have H := H1);clear H1;(by_cases c15 : x9_1 > 0)
         ·rw [if_pos c15] at H
          (have c15b0 : decide (0 < x9_1) = true := decide_eq_true c15);clear c15;(obtain ⟨ji16, hji16⟩ : ∃ j_ : Int, (wrap64 (x9_1 - 1)) = j_ := ⟨_, rfl⟩);(replace H : (if 0 ≤ (ji16) then (if (ji16) < (l1.length : Int) then (if ((rd_T39 l1 (ji16)).f0) > ((rd_T39 l1 x9_1).f0) then (some false) else (if ((rd_T39 l1 (ji16)).f0) = ((rd_T39 l1 x9_1).f0) then (if ((rd_T39 l1 (ji16)).f1) ≥ ((rd_T39 l1 x9_1).f1) then (some false) else (impl_ValidFigure.l0 kj5 l0 l1 l1 (l1.length : Int) (wrap64 (x9_1 + 1)))) else (impl_ValidFigure.l0 kj5 l0 l1 l1 (l1.length : Int) (wrap64 (x9_1 + 1))))) else (none)) else (none)) = some r := by first | (rw [hji16] at H; exact H) | (simp only [hji16] at H ⊢; exact H));(have hji16w : (IntKind.i64.wrap (x9_1 - 1)) = ji16 := (i64_w _).trans hji16);(by_cases c17 : 0 ≤ (ji16))
          ·rw [if_pos c17] at H
           (have c17b0 : decide (0 ≤ (ji16)) = true := decide_eq_true c17);clear c17;(by_cases c18 : (ji16) < (l1.length : Int))
           ·rw [if_pos c18] at H
            (have c18b0 : decide ((ji16) < (l1.length : Int)) = true := decide_eq_true c18);clear c18;(by_cases c19 : ((rd_T39 l1 (ji16)).f0) > ((rd_T39 l1 x9_1).f0))
            ·rw [if_pos c19] at H
             (have c19b0 : decide (((rd_T39 l1 x9_1).f0) < ((rd_T39 l1 (ji16)).f0)) = true := decide_eq_true c19);clear c19;(obtain rfl := Option.some.inj H);(have p315 : 0 ≤ ((ji16) : Int) := of_decide_eq_true zq39);(have q315 : (ji16) < (l1.length : Int) := of_decide_eq_true zq39);(obtain ⟨ad315, e315, hx315_0, hx315_1⟩ := at_T39 HR1.out (ji16) p315 q315);(obtain rfl : ad313 = ad315 := (by injection e315));(replace hx315_0 := (HB.out.cell (World.block_lt_of_cell? w _ hx315_0)).trans hx315_0);(replace hx315_1 := (HB.out.cell (World.block_lt_of_cell? w _ hx315_1)).trans hx315_1);(replace p315 := eq_true p315);(replace q315 := eq_true q315);(have hcz20_0 : wc.cell? ⟨gb314, 0, none⟩ = some (.int .i64 ((rd_T39 l1 x9_1).f0)) := (blk_cell BK314.out 0).trans rfl);(have hcz20_1 : wc.cell? ⟨gb314, 1, none⟩ = some (.int .i64 ((rd_T39 l1 x9_1).f1)) := (blk_cell BK314.out 1).trans rfl);(have hfz20_0 := blk_frozen BK314.out 0);(have hfz20_1 := blk_frozen BK314.out 1);(go_wp2);(repeat (go_quiet (fail); try go_wp2));(go_ret);(exact ⟨zq45, zq71⟩)
            ·rw [if_neg c19] at H
             (have c19b0 : decide (((rd_T39 l1 x9_1).f0) < ((rd_T39 l1 (ji16)).f0)) = false := decide_eq_false c19);clear c19;(by_cases c21 : ((rd_T39 l1 (ji16)).f0) = ((rd_T39 l1 x9_1).f0))
             ·rw [if_pos c21] at H
              (have c21b0 : (((rd_T39 l1 (ji16)).f0) == ((rd_T39 l1 x9_1).f0)) = true := beq_iff_eq.mpr c21);(have c21b1 : (((rd_T39 l1 (ji16)).f0) != ((rd_T39 l1 x9_1).f0)) = false := bne_eq_false_iff_eq.mpr c21);clear c21;(by_cases c22 : ((rd_T39 l1 (ji16)).f1) ≥ ((rd_T39 l1 x9_1).f1))
              ·rw [if_pos c22] at H
               (have c22b0 : decide (((rd_T39 l1 x9_1).f1) ≤ ((rd_T39 l1 (ji16)).f1)) = true := decide_eq_true c22);clear c22;(obtain rfl := Option.some.inj H);(have p315 : 0 ≤ ((ji16) : Int) := of_decide_eq_true zq39);(have q315 : (ji16) < (l1.length : Int) := of_decide_eq_true zq39);(obtain ⟨ad315, e315, hx315_0, hx315_1⟩ := at_T39 HR1.out (ji16) p315 q315);(obtain rfl : ad313 = ad315 := (by injection e315));(replace hx315_0 := (HB.out.cell (World.block_lt_of_cell? w _ hx315_0)).trans hx315_0);(replace hx315_1 := (HB.out.cell (World.block_lt_of_cell? w _ hx315_1)).trans hx315_1);(replace p315 := eq_true p315);(replace q315 := eq_true q315);(have hcz23_0 : wc.cell? ⟨gb314, 0, none⟩ = some (.int .i64 ((rd_T39 l1 x9_1).f0)) := (blk_cell BK314.out 0).trans rfl);(have hcz23_1 : wc.cell? ⟨gb314, 1, none⟩ = some (.int .i64 ((rd_T39 l1 x9_1).f1)) := (blk_cell BK314.out 1).trans rfl);(have hfz23_0 := blk_frozen BK314.out 0);(have hfz23_1 := blk_frozen BK314.out 1);(have p316 : 0 ≤ ((ji16) : Int) := of_decide_eq_true zq39);(have q316 : (ji16) < (l1.length : Int) := of_decide_eq_true zq39);(obtain ⟨ad316, e316, hx316_0, hx316_1⟩ := at_T39 HR1.out (ji16) p316 q316);(obtain rfl : ad313 = ad316 := (by injection e316));(replace hx316_0 := (HB.out.cell (World.block_lt_of_cell? w _ hx316_0)).trans hx316_0);(replace hx316_1 := (HB.out.cell (World.block_lt_of_cell? w _ hx316_1)).trans hx316_1);(replace p316 := eq_true p316);(replace q316 := eq_true q316);(have p317 : 0 ≤ ((ji16) : Int) := of_decide_eq_true zq39);(have q317 : (ji16) < (l1.length : Int) := of_decide_eq_true zq39);(obtain ⟨ad317, e317, hx317_0, hx317_1⟩ := at_T39 HR1.out (ji16) p317 q317);(obtain rfl : ad313 = ad317 := (by injection e317));(replace hx317_0 := (HB.out.cell (World.block_lt_of_cell? w _ hx317_0)).trans hx317_0);(replace hx317_1 := (HB.out.cell (World.block_lt_of_cell? w _ hx317_1)).trans hx317_1);(replace p317 := eq_true p317);(replace q317 := eq_true q317);(go_wp2);(repeat (go_quiet (fail); try go_wp2));(go_ret);(exact ⟨zq45, zq71⟩)
              ·rw [if_neg c22] at H
               (have c22b0 : decide (((rd_T39 l1 x9_1).f1) ≤ ((rd_T39 l1 (ji16)).f1)) = false := decide_eq_false c22);clear c22;(have H' := Aside0.mk H);clear H;(have p315 : 0 ≤ ((ji16) : Int) := of_decide_eq_true zq39);(have q315 : (ji16) < (l1.length : Int) := of_decide_eq_true zq39);(obtain ⟨ad315, e315, hx315_0, hx315_1⟩ := at_T39 HR1.out (ji16) p315 q315);(obtain rfl : ad313 = ad315 := (by injection e315));(replace hx315_0 := (HB.out.cell (World.block_lt_of_cell? w _ hx315_0)).trans hx315_0);(replace hx315_1 := (HB.out.cell (World.block_lt_of_cell? w _ hx315_1)).trans hx315_1);(replace p315 := eq_true p315);(replace q315 := eq_true q315);(have hcz24_0 : wc.cell? ⟨gb314, 0, none⟩ = some (.int .i64 ((rd_T39 l1 x9_1).f0)) := (blk_cell BK314.out 0).trans rfl);(have hcz24_1 : wc.cell? ⟨gb314, 1, none⟩ = some (.int .i64 ((rd_T39 l1 x9_1).f1)) := (blk_cell BK314.out 1).trans rfl);(have hfz24_0 := blk_frozen BK314.out 0);(have hfz24_1 := blk_frozen BK314.out 1);(have p316 : 0 ≤ ((ji16) : Int) := of_decide_eq_true zq39);(have q316 : (ji16) < (l1.length : Int) := of_decide_eq_true zq39);(obtain ⟨ad316, e316, hx316_0, hx316_1⟩ := at_T39 HR1.out (ji16) p316 q316);(obtain rfl : ad313 = ad316 := (by injection e316));(replace hx316_0 := (HB.out.cell (World.block_lt_of_cell? w _ hx316_0)).trans hx316_0);(replace hx316_1 := (HB.out.cell (World.block_lt_of_cell? w _ hx316_1)).trans hx316_1);(replace p316 := eq_true p316);(replace q316 := eq_true q316);(have p317 : 0 ≤ ((ji16) : Int) := of_decide_eq_true zq39);(have q317 : (ji16) < (l1.length : Int) := of_decide_eq_true zq39);(obtain ⟨ad317, e317, hx317_0, hx317_1⟩ := at_T39 HR1.out (ji16) p317 q317);(obtain rfl : ad313 = ad317 := (by injection e317));(replace hx317_0 := (HB.out.cell (World.block_lt_of_cell? w _ hx317_0)).trans hx317_0);(replace hx317_1 := (HB.out.cell (World.block_lt_of_cell? w _ hx317_1)).trans hx317_1);(replace p317 := eq_true p317);(replace q317 := eq_true q317);(go_wp2);(repeat (go_quiet (fail); try go_wp2));(go_roundg kj5)
               case measure => have := HK1.out; have := HJ5.out; omega
               case rel => exact ⟨(wrap64 (x9_1 + 1)), zq46, H', ⟨zq52⟩, ⟨zq71⟩⟩
             ·rw [if_neg c21] at H
              (have c21b0 : (((rd_T39 l1 (ji16)).f0) == ((rd_T39 l1 x9_1).f0)) = false := beq_eq_false_iff_ne.mpr c21);(have c21b1 : (((rd_T39 l1 (ji16)).f0) != ((rd_T39 l1 x9_1).f0)) = true := bne_iff_ne.mpr c21);(have H' := Aside0.mk H);clear H;(have p315 : 0 ≤ ((ji16) : Int) := of_decide_eq_true zq39);(have q315 : (ji16) < (l1.length : Int) := of_decide_eq_true zq39);(obtain ⟨ad315, e315, hx315_0, hx315_1⟩ := at_T39 HR1.out (ji16) p315 q315);(obtain rfl : ad313 = ad315 := (by injection e315));(replace hx315_0 := (HB.out.cell (World.block_lt_of_cell? w _ hx315_0)).trans hx315_0);(replace hx315_1 := (HB.out.cell (World.block_lt_of_cell? w _ hx315_1)).trans hx315_1);(replace p315 := eq_true p315);(replace q315 := eq_true q315);(have hcz25_0 : wc.cell? ⟨gb314, 0, none⟩ = some (.int .i64 ((rd_T39 l1 x9_1).f0)) := (blk_cell BK314.out 0).trans rfl);(have hcz25_1 : wc.cell? ⟨gb314, 1, none⟩ = some (.int .i64 ((rd_T39 l1 x9_1).f1)) := (blk_cell BK314.out 1).trans rfl);(have hfz25_0 := blk_frozen BK314.out 0);(have hfz25_1 := blk_frozen BK314.out 1);(have p316 : 0 ≤ ((ji16) : Int) := of_decide_eq_true zq39);(have q316 : (ji16) < (l1.length : Int) := of_decide_eq_true zq39);(obtain ⟨ad316, e316, hx316_0, hx316_1⟩ := at_T39 HR1.out (ji16) p316 q316);(obtain rfl : ad313 = ad316 := (by injection e316));(replace hx316_0 := (HB.out.cell (World.block_lt_of_cell? w _ hx316_0)).trans hx316_0);(replace hx316_1 := (HB.out.cell (World.block_lt_of_cell? w _ hx316_1)).trans hx316_1);(replace p316 := eq_true p316);(replace q316 := eq_true q316);(go_wp2);(repeat (go_quiet (fail); try go_wp2));(go_roundg kj5)
              case measure => have := HK1.out; have := HJ5.out; omega
              case rel => exact ⟨(wrap64 (x9_1 + 1)), zq46, H', ⟨zq52⟩, ⟨zq71⟩⟩
           ·rw [if_neg c18] at H
            exact absurd H (by simp)
          ·rw [if_neg c17] at H
           exact absurd H (by simp)
         ·rw [if_neg c15] at H
          (have c15b0 : decide (0 < x9_1) = false := decide_eq_false c15);clear c15;(have H' := Aside0.mk H);clear H;(go_wp2);(repeat (go_quiet (fail); try go_wp2));(go_roundg kj5)
          case measure => have := HK1.out; have := HJ5.out; omega
          case rel => exact ⟨(wrap64 (x9_1 + 1)), zq46, H', ⟨zq52⟩, ⟨zq71⟩⟩
     ·rw [if_neg c5] at H
      exact absurd H (by simp)
    ·rw [if_neg c4] at H
     exact absurd H (by simp)
   ·rw [if_neg c3] at H
    (have c3b0 : decide (x9_1 < (l1.length : Int)) = false := decide_eq_false c3);clear c3;(replace H := Option.bind_eq_some_iff.mp H);(obtain ⟨t312, A260, H⟩ := H);(replace H : (if t312 = true then (some (decide ((l1.length : Int) ≤ 40))) else (some false)) = some r := H);(have A26 := Aside0.mk A260);clear A260;(by_cases c27 : t312 = true)
    ·subst c27
     (have H1 : (some (decide ((l1.length : Int) ≤ 40))) = some r := zq118);clear H;(have H := H1);clear H1;(obtain rfl := Option.some.inj H);(go_wp2_with (first | (go_at_call 36; (with_reducible refine (impl_ValidCatalogue.calls _ _ l0 true _ ?side1 ?side2 A26.out).mono ?_); (case side1 => exact zq93); (case side2 => exact HC0.out); rintro e w28 ⟨rfl, hb⟩; have n0_ := Aside0.mk (below_step zq79 hb); clear HB; have HB := n0_; clear n0_; (try clear hb); (try clear hb2); (try clear hk); (try clear hi))));(repeat (go_quiet (first | (go_at_call 36; (with_reducible refine (impl_ValidCatalogue.calls _ _ l0 true _ ?side1 ?side2 A26.out).mono ?_); (case side1 => exact zq93); (case side2 => exact HC0.out); rintro e w28 ⟨rfl, hb⟩; have n0_ := Aside0.mk (below_step zq79 hb); clear HB; have HB := n0_; clear n0_; (try clear hb); (try clear hb2); (try clear hk); (try clear hi))); try go_wp2_with (first | (go_at_call 36; (with_reducible refine (impl_ValidCatalogue.calls _ _ l0 true _ ?side1 ?side2 A26.out).mono ?_); (case side1 => exact zq93); (case side2 => exact HC0.out); rintro e w28 ⟨rfl, hb⟩; have n0_ := Aside0.mk (below_step zq79 hb); clear HB; have HB := n0_; clear n0_; (try clear hb); (try clear hb2); (try clear hk); (try clear hi)))));(go_ret);(exact ⟨zq43, zq79⟩)
    ·replace c27 := Bool.eq_false_iff.mpr c27
     subst c27;(have H1 : (some false) = some r := zq117);clear H;(have H := H1);clear H1;(obtain rfl := Option.some.inj H);(go_wp2_with (first | (go_at_call 36; (with_reducible refine (impl_ValidCatalogue.calls _ _ l0 false _ ?side1 ?side2 A26.out).mono ?_); (case side1 => exact zq93); (case side2 => exact HC0.out); rintro e w29 ⟨rfl, hb⟩; have n0_ := Aside0.mk (below_step zq79 hb); clear HB; have HB := n0_; clear n0_; (try clear hb); (try clear hb2); (try clear hk); (try clear hi))));(repeat (go_quiet (first | (go_at_call 36; (with_reducible refine (impl_ValidCatalogue.calls _ _ l0 false _ ?side1 ?side2 A26.out).mono ?_); (case side1 => exact zq93); (case side2 => exact HC0.out); rintro e w29 ⟨rfl, hb⟩; have n0_ := Aside0.mk (below_step zq79 hb); clear HB; have HB := n0_; clear n0_; (try clear hb); (try clear hb2); (try clear hk); (try clear hi))); try go_wp2_with (first | (go_at_call 36; (with_reducible refine (impl_ValidCatalogue.calls _ _ l0 false _ ?side1 ?side2 A26.out).mono ?_); (case side1 => exact zq93); (case side2 => exact HC0.out); rintro e w29 ⟨rfl, hb⟩; have n0_ := Aside0.mk (below_step zq79 hb); clear HB; have HB := n0_; clear n0_; (try clear hb); (try clear hb2); (try clear hk); (try clear hi)))));(go_ret);(exact ⟨zq43, zq79⟩)

end Go.Proofs.YtdambdglgdaojaaGreatDoor.PFnFigures
