-- Made by a program of this session (gprint.py) out of the kit's print of the translation and texts of my own. SLIM
import Derived.Test.YtdkmngghknohgaaDoorPFnIslandsx0
import Derived.Test.YtdkmngghknohgaaDoorPFnIslandsx2
namespace Go.Proofs.YtdkmngghknohgaaDoor.PFnIslands
open Go.RowKit Go.Proofs.YtdkmngghknohgaaDoorW.PrintWords Go.Proofs.YtdkmngghknohgaaDoorW.PrintLast Go.Proofs.YtdkmngghknohgaaDoorW.PrintMore
set_option maxHeartbeats 64000000
set_option maxRecDepth 1000000
attribute [local go_sem] max2_int min2_int max_two min_two max_three min_three max_four min_four   -- for this text's walks alone
set_option linter.unusedVariables false
set_option linter.unusedSimpArgs false

/-! ### impl_landCode: function 35 -/
def impl_landCode.j0 : Nat → List ByteArray → ByteArray → Int → Option (Int)
 | 0, _, _, _ => none
 | k + 1, x0, x1, x7 => if x7 = 0 then (if 0 < (x1.size : Int) then ((impl_cellsWith.f k x0 (bt x1 0)).bind fun t223 => (if (t223.length : Int) = 0 then (some 3) else (some 0))) else (none)) else (some x7)
def impl_landCode.f (k : Nat) (l0 : List ByteArray) (a1 : ByteArray) (a2 : Bool) : Option (Int) := (impl_ValidGrid.f k l0).bind fun t219 => ((impl_isLandText.f a1).bind fun t220 => (if t220 = true then ((impl_check.f t219 a2).bind fun t221 => (impl_landCode.j0 k l0 a1 t221)) else ((impl_check.f t219 false).bind fun t222 => (impl_landCode.j0 k l0 a1 t222))))
theorem impl_landCode.mono_l : ∀ k, (∀ y0 y1 y2, LeO (impl_landCode.j0 k y0 y1 y2) (impl_landCode.j0 (k + 1) y0 y1 y2))
 | 0 => fun _ _ _ r h => by simp [impl_landCode.j0] at h
 | k + 1 => by
  have ih0 := impl_landCode.mono_l k
  ·intro y0 y1 y2
   unfold impl_landCode.j0
   repeat' first | with_reducible (first | exact ih0 _ _ _ | exact impl_ValidGrid.mono _ _ | exact impl_cellsWith.mono _ _ _ | exact LeO.refl _ | exact LeO.none _ | refine LeO.ite ?_ ?_ | refine LeO.bind ?_ (fun _ => ?_)) | exact ih0 _ _ _ | exact impl_ValidGrid.mono _ _ | exact impl_cellsWith.mono _ _ _ | exact LeO.none _ | refine LeO.ite ?_ ?_ | refine LeO.bind ?_ (fun _ => ?_)
theorem impl_landCode.mono : ∀ a0 a1 a2 k, LeO (impl_landCode.f k a0 a1 a2) (impl_landCode.f (k + 1) a0 a1 a2) := by
 intro a0 a1 a2 k;(have ih0 := impl_landCode.mono_l k);(unfold impl_landCode.f)
 repeat' first | with_reducible (first | exact ih0 _ _ _ | exact impl_ValidGrid.mono _ _ | exact impl_cellsWith.mono _ _ _ | exact LeO.refl _ | exact LeO.none _ | refine LeO.ite ?_ ?_ | refine LeO.bind ?_ (fun _ => ?_)) | exact ih0 _ _ _ | exact impl_ValidGrid.mono _ _ | exact impl_cellsWith.mono _ _ _ | exact LeO.none _ | refine LeO.ite ?_ ?_ | refine LeO.bind ?_ (fun _ => ?_)
theorem impl_landCode.calls (k : Nat) (A0 : Option Addr) (c0 : Nat) (l0 : List ByteArray) (a1 : ByteArray) (a2 : Bool) (r : Int) (w : World) (hr0 : Kd.C Kd.string w A0 l0.length l0) (hc0 : l0.length ≤ c0) (h : impl_landCode.f k l0 a1 a2 = some r) :
  Calls Tryd.prog 35 #[.slice A0 l0.length c0, .string a1, .bool a2] w fun e w' => e = .returned (.int .i64 r) ∧ Below w.heap.size w w' := by
 (have HR0 := Aside0.mk hr0);(have HC0 := Aside0.mk hc0);clear hr0 hc0;(have HB := Aside0.mk (Below.refl w.heap.size w));(have H : ((impl_ValidGrid.f k l0).bind fun t219 => ((impl_isLandText.f a1).bind fun t220 => (if t220 = true then ((impl_check.f t219 a2).bind fun t221 => (impl_landCode.j0 k l0 a1 t221)) else ((impl_check.f t219 false).bind fun t222 => (impl_landCode.j0 k l0 a1 t222))))) = some r := h);clear h;(have HC4 := Aside0.mk H);clear H
 go_enter Tryd.func35, Tryd.ntmps35
 go_upto_region 1 with (fail)
 go_cut [7] (fun v7 wc => ∃ (kq : Nat) (x7_3 : Int), v7 = .int .i64 x7_3 ∧ Aside0 (impl_landCode.j0 kq l0 a1 x7_3 = some r) ∧ Aside0 (kq ≤ k) ∧ Aside0 (Below w.heap.size w wc))
 case first =>
  (have H := HC4.out);clear HC4;(replace H := Option.bind_eq_some_iff.mp H);(obtain ⟨t219, A50, H⟩ := H);(replace H : ((impl_isLandText.f a1).bind fun t220 => (if t220 = true then ((impl_check.f t219 a2).bind fun t221 => (impl_landCode.j0 k l0 a1 t221)) else ((impl_check.f t219 false).bind fun t222 => (impl_landCode.j0 k l0 a1 t222)))) = some r := H);(have A5 := Aside0.mk A50);clear A50;(replace H := Option.bind_eq_some_iff.mp H);(obtain ⟨t220, A60, H⟩ := H);(replace H : (if t220 = true then ((impl_check.f t219 a2).bind fun t221 => (impl_landCode.j0 k l0 a1 t221)) else ((impl_check.f t219 false).bind fun t222 => (impl_landCode.j0 k l0 a1 t222))) = some r := H);(have A6 := Aside0.mk A60);clear A60;(by_cases c7 : t220 = true)
  ·subst c7
   (have H1 : ((impl_check.f t219 a2).bind fun t221 => (impl_landCode.j0 k l0 a1 t221)) = some r := zq54);clear H;(have H := H1);clear H1;(replace H := Option.bind_eq_some_iff.mp H);(obtain ⟨t221, A80, H⟩ := H);(replace H : (impl_landCode.j0 k l0 a1 t221) = some r := H);(have A8 := Aside0.mk A80);clear A80;(have H' := Aside0.mk H);clear H;(go_wp2_with (first | ((with_reducible refine gate_callee (f := 30) rfl ?_); refine goesL_ (some 9) rfl rfl Tryd.func30 (by kernel_rfl) rfl #[.slice A0 l0.length c0] rfl zq0 ?_; (with_reducible refine (impl_ValidGrid.calls k _ _ l0 t219 _ ?side1 ?side2 A5.out).mono ?_); (case side1 => exact zq73); (case side2 => exact HC0.out); rintro e w9 ⟨rfl, hb⟩; refine ⟨_, rfl, ?_⟩; have n0_ := Aside0.mk (below_step zq40 hb); clear HB; have HB := n0_; clear n0_; (try clear hb); (try clear hb2); (try clear hk); (try clear hi)) | ((with_reducible refine gate_callee (f := 36) rfl ?_); refine goesL_ (some 11) rfl rfl Tryd.func36 (by kernel_rfl) rfl #[.string a1] rfl zq0 ?_; (with_reducible refine (impl_isLandText.calls a1 true _ A6.out).mono ?_); rintro e w' ⟨rfl, ⟨nd, rfl⟩⟩; refine ⟨_, rfl, ?_⟩) | ((with_reducible refine gate_callee (f := 50) rfl ?_); refine goesL_ (some 15) rfl rfl Tryd.func50 (by kernel_rfl) rfl #[.bool t219, .bool a2] rfl zq0 ?_; (with_reducible refine (impl_check.calls t219 a2 t221 _ A8.out).mono ?_); rintro e w' ⟨rfl, ⟨nd, rfl⟩⟩; refine ⟨_, rfl, ?_⟩)))
   go_meet
   case rel => exact ⟨_, (t221), zq22, H', ⟨zq20⟩, ⟨zq40⟩⟩
  ·replace c7 := Bool.eq_false_iff.mpr c7
   subst c7;(have H1 : ((impl_check.f t219 false).bind fun t222 => (impl_landCode.j0 k l0 a1 t222)) = some r := zq53);clear H;(have H := H1);clear H1;(replace H := Option.bind_eq_some_iff.mp H);(obtain ⟨t222, A100, H⟩ := H);(replace H : (impl_landCode.j0 k l0 a1 t222) = some r := H);(have A10 := Aside0.mk A100);clear A100;(have H' := Aside0.mk H);clear H;(go_wp2_with (first | ((with_reducible refine gate_callee (f := 30) rfl ?_); refine goesL_ (some 9) rfl rfl Tryd.func30 (by kernel_rfl) rfl #[.slice A0 l0.length c0] rfl zq0 ?_; (with_reducible refine (impl_ValidGrid.calls k _ _ l0 t219 _ ?side1 ?side2 A5.out).mono ?_); (case side1 => exact zq73); (case side2 => exact HC0.out); rintro e w11 ⟨rfl, hb⟩; refine ⟨_, rfl, ?_⟩; have n0_ := Aside0.mk (below_step zq40 hb); clear HB; have HB := n0_; clear n0_; (try clear hb); (try clear hb2); (try clear hk); (try clear hi)) | ((with_reducible refine gate_callee (f := 36) rfl ?_); refine goesL_ (some 11) rfl rfl Tryd.func36 (by kernel_rfl) rfl #[.string a1] rfl zq0 ?_; (with_reducible refine (impl_isLandText.calls a1 false _ A6.out).mono ?_); rintro e w' ⟨rfl, ⟨nd, rfl⟩⟩; refine ⟨_, rfl, ?_⟩) | ((with_reducible refine gate_callee (f := 50) rfl ?_); refine goesL_ (some 15) rfl rfl Tryd.func50 (by kernel_rfl) rfl #[.bool t219, .bool false] rfl zq0 ?_; (with_reducible refine (impl_check.calls t219 false t222 _ A10.out).mono ?_); rintro e w' ⟨rfl, ⟨nd, rfl⟩⟩; refine ⟨_, rfl, ?_⟩)))
   go_meet
   case rel => exact ⟨_, (t222), zq22, H', ⟨zq20⟩, ⟨zq40⟩⟩
 case rest =>
  clear HC4;(try clear p2);(try clear c3);(try clear c5);(try clear c7);(obtain ⟨kq, x7_3, rfl, HA, HJ3, HB⟩ := hcut)
  cases kq with
  | zero => exact absurd HA.out (by simp [impl_landCode.j0])
  | succ kj3 =>
   (have H := HA.out);clear HA;(simp only [impl_landCode.j0] at H);(by_cases c12 : x7_3 = 0)
   ·rw [if_pos c12] at H
    (have c12b0 : (x7_3 == 0) = true := beq_iff_eq.mpr c12);(have c12b1 : (x7_3 != 0) = false := bne_eq_false_iff_eq.mpr c12);clear c12;(by_cases c13 : 0 < (a1.size : Int))
    ·rw [if_pos c13] at H
     (have c13b0 : decide (0 < (a1.size : Int)) = true := decide_eq_true c13);(have c13b1 : decide (0 < a1.size) = true := decide_eq_true (by omega));clear c13;(replace H := Option.bind_eq_some_iff.mp H);(obtain ⟨t223, A150, H⟩ := H);(replace H : (if (t223.length : Int) = 0 then (some 3) else (some 0)) = some r := H);(have A15 := Aside0.mk A150);clear A150;(by_cases c16 : (t223.length : Int) = 0)
     ·rw [if_pos c16] at H
      (have c16b0 : ((t223.length : Int) == 0) = true := beq_iff_eq.mpr c16);(have c16b1 : ((t223.length : Int) != 0) = false := bne_eq_false_iff_eq.mpr c16);clear c16;(obtain rfl := Option.some.inj H);(have p14 : 0 ≤ (0 : Int) := (by omega));(have q14 : 0 < a1.size := (by have : (0 : Int) < (a1.size : Int) := of_decide_eq_true zq19; omega));(have hx14 : ∀ h : 0 < a1.size, ((a1[0]'h).toNat : Int) = bt a1 0 := bt_at a1 0);clear p14;(have qi14 : (0 < (a1.size : Int)) = True := eq_true (of_decide_eq_true zq19));(replace q14 := eq_true q14);(go_wp2_with (first | ((with_reducible refine gate_callee (f := 43) rfl ?_); refine goesL_ (some 22) rfl rfl Tryd.func43 (by kernel_rfl) rfl #[.slice A0 l0.length c0, .int .u8 (bt a1 0)] rfl zq0 ?_; (with_reducible refine (impl_cellsWith.calls kj3 _ _ l0 (bt a1 0) t223 _ ?side1 ?side2 A15.out).mono ?_); (case side1 => exact zq73); (case side2 => exact HC0.out); rintro e w17 ⟨v224, rfl, ho0, hb⟩; refine ⟨_, rfl, ?_⟩; have n0_ := Aside0.mk (Kd.R_lower ho0 (below_size zq40)); have n1_ := Aside0.mk (below_step zq40 hb); clear HB; have HO225 := n0_; have HB := n1_; clear n0_ n1_; (try clear hb); (try clear hb2); (try clear hk); (try clear hi); (try clear ho0); obtain ⟨Ao18, co18, eo18⟩ := Kd.R_slice HO225.out; subst eo18)));(go_ret);(exact ⟨zq21, zq40⟩)
     ·rw [if_neg c16] at H
      (have c16b0 : ((t223.length : Int) == 0) = false := beq_eq_false_iff_ne.mpr c16);(have c16b1 : ((t223.length : Int) != 0) = true := bne_iff_ne.mpr c16);(have c16b2 : ¬ (t223 = []) := fun h_ => c16 (by rw [h_]; rfl));(obtain rfl := Option.some.inj H);(have p14 : 0 ≤ (0 : Int) := (by omega));(have q14 : 0 < a1.size := (by have : (0 : Int) < (a1.size : Int) := of_decide_eq_true zq19; omega));(have hx14 : ∀ h : 0 < a1.size, ((a1[0]'h).toNat : Int) = bt a1 0 := bt_at a1 0);clear p14;(have qi14 : (0 < (a1.size : Int)) = True := eq_true (of_decide_eq_true zq19));(replace q14 := eq_true q14);(go_wp2_with (first | ((with_reducible refine gate_callee (f := 43) rfl ?_); refine goesL_ (some 22) rfl rfl Tryd.func43 (by kernel_rfl) rfl #[.slice A0 l0.length c0, .int .u8 (bt a1 0)] rfl zq0 ?_; (with_reducible refine (impl_cellsWith.calls kj3 _ _ l0 (bt a1 0) t223 _ ?side1 ?side2 A15.out).mono ?_); (case side1 => exact zq73); (case side2 => exact HC0.out); rintro e w19 ⟨v224, rfl, ho0, hb⟩; refine ⟨_, rfl, ?_⟩; have n0_ := Aside0.mk (Kd.R_lower ho0 (below_size zq40)); have n1_ := Aside0.mk (below_step zq40 hb); clear HB; have HO225 := n0_; have HB := n1_; clear n0_ n1_; (try clear hb); (try clear hb2); (try clear hk); (try clear hi); (try clear ho0); obtain ⟨Ao20, co20, eo20⟩ := Kd.R_slice HO225.out; subst eo20)));(go_ret);(exact ⟨zq21, zq40⟩)
    ·rw [if_neg c13] at H
     exact absurd H (by simp)
   ·rw [if_neg c12] at H
    (have c12b0 : (x7_3 == 0) = false := beq_eq_false_iff_ne.mpr c12);(have c12b1 : (x7_3 != 0) = true := bne_iff_ne.mpr c12);(obtain rfl := Option.some.inj H);(go_wp2);(go_ret);(exact ⟨zq21, zq40⟩)

/-! ### strings_ReplaceAll: function 37 -/
-- given by hand
def layRep_ren : Go.Shelf.Ren := ⟨(fun | 155 => 37 | 154 => 64 | 138 => 76 | 165 => 77 | 143 => 78 | 166 => 79 | 197 => 80 | 169 => 81 | 195 => 96 | 218 => 97 | 240 => 98 | 241 => 99 | 219 => 100 | 260 => 101 | 276 => 110 | 277 => 111 | 217 => 112 | 225 => 113 | 224 => 114 | 267 => 115 | 266 => 119 | 314 => 120 | n => n), (fun | 9 => 9 | 3 => 3 | 4 => 4 | 72 => 88 | 0 => 0 | 76 => 92 | 105 => 94 | 21 => 21 | 5 => 5 | 70 => 86 | 20 => 20 | 37 => 22 | 75 => 91 | 127 => 112 | 164 => 120 | 46 => 77 | 119 => 124 | 139 => 127 | 138 => 126 | 146 => 132 | 51 => 107 | 80 => 96 | n => n), (fun | 1 => 0 | 3 => 1 | 4 => 2 | n => n)⟩
theorem layRep : Go.Proofs.Lays.n155 Tryd.prog layRep_ren := { mixed := by kernel_rfl, f138 := Tryd.func76.trans (congrArg some (by kernel_rfl)), f143 := Tryd.func78.trans (congrArg some (by kernel_rfl)), f154 := Tryd.func64.trans (congrArg some (by kernel_rfl)), f155 := Tryd.func37.trans (congrArg some (by kernel_rfl)), f165 := Tryd.func77.trans (congrArg some (by kernel_rfl)), f166 := Tryd.func79.trans (congrArg some (by kernel_rfl)), f169 := Tryd.func81.trans (congrArg some (by kernel_rfl)), f195 := Tryd.func96.trans (congrArg some (by kernel_rfl)), f197 := Tryd.func80.trans (congrArg some (by kernel_rfl)), f217 := Tryd.func112.trans (congrArg some (by kernel_rfl)), f218 := Tryd.func97.trans (congrArg some (by kernel_rfl)), f219 := Tryd.func100.trans (congrArg some (by kernel_rfl)), f224 := Tryd.func114.trans (congrArg some (by kernel_rfl)), f225 := Tryd.func113.trans (congrArg some (by kernel_rfl)), f240 := Tryd.func98.trans (congrArg some (by kernel_rfl)), f241 := Tryd.func99.trans (congrArg some (by kernel_rfl)), f260 := Tryd.func101.trans (congrArg some (by kernel_rfl)), f266 := Tryd.func119.trans (congrArg some (by kernel_rfl)), f267 := Tryd.func115.trans (congrArg some (by kernel_rfl)), f276 := Tryd.func110.trans (congrArg some (by kernel_rfl)), f277 := Tryd.func111.trans (congrArg some (by kernel_rfl)), f314 := Tryd.func120.trans (congrArg some (by kernel_rfl)), t0 := Tryd.underlying0, a0 := Tryd.isAgg0, z0 := Tryd.sizeOf0, v0 := Tryd.zeroValue0, t3 := Tryd.underlying3, a3 := Tryd.isAgg3, z3 := Tryd.sizeOf3, v3 := Tryd.zeroValue3, t4 := Tryd.underlying4, a4 := Tryd.isAgg4, z4 := Tryd.sizeOf4, v4 := Tryd.zeroValue4, t5 := Tryd.underlying5, a5 := Tryd.isAgg5, z5 := Tryd.sizeOf5, v5 := Tryd.zeroValue5, t9 := Tryd.underlying9, a9 := Tryd.isAgg9, z9 := Tryd.sizeOf9, v9 := Tryd.zeroValue9, t20 := Tryd.underlying20, a20 := Tryd.isAgg20, z20 := Tryd.sizeOf20, v20 := Tryd.zeroValue20, t21 := Tryd.underlying21, a21 := Tryd.isAgg21, z21 := Tryd.sizeOf21, v21 := Tryd.zeroValue21, t37 := Tryd.underlying22, a37 := Tryd.isAgg22, z37 := Tryd.sizeOf22, v37 := Tryd.zeroValue22, t46 := Tryd.underlying77, a46 := Tryd.isAgg77, z46 := Tryd.sizeOf77, v46 := Tryd.zeroValue77, t51 := Tryd.underlying107, a51 := Tryd.isAgg107, z51 := Tryd.sizeOf107, v51 := Tryd.zeroValue107, t70 := Tryd.underlying86, a70 := Tryd.isAgg86, z70 := Tryd.sizeOf86, v70 := Tryd.zeroValue86, t72 := Tryd.underlying88, a72 := Tryd.isAgg88, z72 := Tryd.sizeOf88, v72 := Tryd.zeroValue88, t75 := Tryd.underlying91, a75 := Tryd.isAgg91, z75 := Tryd.sizeOf91, v75 := Tryd.zeroValue91, t76 := Tryd.underlying92, a76 := Tryd.isAgg92, z76 := Tryd.sizeOf92, v76 := Tryd.zeroValue92, t105 := Tryd.underlying94, a105 := Tryd.isAgg94, z105 := Tryd.sizeOf94, v105 := Tryd.zeroValue94, t119 := Tryd.underlying124, a119 := Tryd.isAgg124, z119 := Tryd.sizeOf124, t127 := Tryd.underlying112, a127 := Tryd.isAgg112, z127 := Tryd.sizeOf112, v127 := Tryd.zeroValue112, t138 := Tryd.underlying126, a138 := Tryd.isAgg126, z138 := Tryd.sizeOf126, v138 := Tryd.zeroValue126, t139 := Tryd.underlying127, a139 := Tryd.isAgg127, z139 := Tryd.sizeOf127, v139 := Tryd.zeroValue127, t146 := Tryd.underlying132, a146 := Tryd.isAgg132, z146 := Tryd.sizeOf132, v146 := Tryd.zeroValue132, t164 := Tryd.underlying120, a164 := Tryd.isAgg120, z164 := Tryd.sizeOf120, v164 := Tryd.zeroValue120, g1 := by kernel_rfl, g3 := by kernel_rfl, g4 := by kernel_rfl }

theorem layRepX : Go.Proofs.Builder.Extra Tryd.prog layRep_ren := { sizeBuilder := by kernel_rfl, liesBuilder := by kernel_rfl, t5 := layRep.t5, a5 := layRep.a5, z5 := layRep.z5, v5 := layRep.v5, infoByte := by kernel_rfl, cellsByte := by kernel_rfl, sizeByte := by kernel_rfl, neB5 := by decide }
/-- internal/bytealg.MaxLen holds some int. -/
def MaxW (w : World) : Prop := ∃ m, w.cell? ⟨layRep_ren.g 1, 0, none⟩ = some (.int .i64 m)
theorem MaxW.below {w w' : World} (h : MaxW w) (hb : Below w.heap.size w w') : MaxW w' := by
 (obtain ⟨m, hm⟩ := h);(exact ⟨m, (hb.cell (World.block_lt_of_cell? w _ hm)).trans hm⟩)
theorem MaxW.shaped {w : World} (h : w.ShapedOpen Tryd.prog) : MaxW w :=
 Go.Proofs.cell_of_shapedOpen_int (zero := #[.int .i64 0]) (t := layRep_ren.t 3) h (of_decide_eq_true (by kernel_rfl)) (by kernel_rfl) rfl (by kernel_rfl) (by kernel_rfl) layRep.t3
def strings_ReplaceAll.f (a0 a1 a2 : ByteArray) : Option ByteArray := if a0.size < 100 ∧ a1.size = 1 ∧ a2.size ≤ 1 then some ⟨(Go.Lib.replaceAll a0.data.toList a1.data.toList a2.data.toList).toArray⟩ else none
theorem strings_ReplaceAll.calls (a0 a1 a2 : ByteArray) (r : ByteArray) (w : World) (h : strings_ReplaceAll.f a0 a1 a2 = some r) (hM : MaxW w) :
  Calls Tryd.prog 37 #[.string a0, .string a1, .string a2] w fun e w' => e = .returned (.string r) ∧ Below w.heap.size w w' := by
 unfold strings_ReplaceAll.f at h
 split at h
 ·rename_i hc
  (obtain rfl := Option.some.inj h);(obtain ⟨h0, h1, h2⟩ := hc);(obtain ⟨m, hm⟩ := hM);(have hk := Go.Lib.countB_mul_le a1 (by omega) a0.size a0 (Nat.le_refl _));(have hk2 := Nat.mul_le_mul_left (Go.Lib.countB a0 a1) h2);(rw [h1] at hk);(exact Go.Proofs.Any.strings_ReplaceAll layRep layRepX a0 a1 a2 m w (by omega) hm (by omega) (by omega))
 ·cases h


/-! ### impl_GiveLand: function 7 -/
mutual
def impl_GiveLand.j0 : Nat → List ByteArray → ByteArray → ByteArray → Int → Option (List ByteArray × Int)
 | 0, _, _, _, _ => none
 | k + 1, x0, x1, x2, x8 => if x8 = 0 then (impl_GiveLand.l0 k x1 x2 (([] : List ByteArray)) x0 (x0.length : Int) 0) else (some (([] : List ByteArray), x8))
def impl_GiveLand.l0 : Nat → ByteArray → ByteArray → List ByteArray → List ByteArray → Int → Int → Option (List ByteArray × Int)
 | 0, _, _, _, _, _, _ => none
 | k + 1, x1, x2, x9, x25, x26, x27 => if x27 < x26 then (if 0 ≤ x27 then (if x27 < (x25.length : Int) then ((strings_ReplaceAll.f (rdOf ByteArray.empty x25 x27) x1 x2).bind fun t233 => (if x9.length < 8796093022208 then (impl_GiveLand.l0 k x1 x2 (x9 ++ [t233]) x25 x26 (wrap64 (x27 + 1))) else (none))) else (none)) else (none)) else (some (x9, 0))
end
def impl_GiveLand.f (k : Nat) (l0 : List ByteArray) (a1 : ByteArray) (a2 : ByteArray) : Option (List ByteArray × Int) := (impl_isLandText.f a2).bind fun t226 => (if t226 = true then ((impl_landCode.f k l0 a1 true).bind fun t227 => (impl_GiveLand.j0 k l0 a1 a2 t227)) else ((impl_landCode.f k l0 a1 (a2.toList == ([46] : List UInt8))).bind fun t228 => (impl_GiveLand.j0 k l0 a1 a2 t228)))
theorem impl_GiveLand.mono_l : ∀ k, (∀ y0 y1 y2 y3, LeO (impl_GiveLand.j0 k y0 y1 y2 y3) (impl_GiveLand.j0 (k + 1) y0 y1 y2 y3)) ∧ (∀ y0 y1 y2 y3 y4 y5, LeO (impl_GiveLand.l0 k y0 y1 y2 y3 y4 y5) (impl_GiveLand.l0 (k + 1) y0 y1 y2 y3 y4 y5))
 | 0 => ⟨fun _ _ _ _ r h => by simp [impl_GiveLand.j0] at h, fun _ _ _ _ _ _ r h => by simp [impl_GiveLand.l0] at h⟩
 | k + 1 => by
  (obtain ⟨ih0, ih1⟩ := impl_GiveLand.mono_l k);(refine ⟨?_, ?_⟩)
  ·intro y0 y1 y2 y3
   unfold impl_GiveLand.j0
   repeat' first | with_reducible (first | exact ih0 _ _ _ _ | exact ih1 _ _ _ _ _ _ | exact impl_landCode.mono _ _ _ _ | exact LeO.refl _ | exact LeO.none _ | refine LeO.ite ?_ ?_ | refine LeO.bind ?_ (fun _ => ?_)) | exact ih0 _ _ _ _ | exact ih1 _ _ _ _ _ _ | exact impl_landCode.mono _ _ _ _ | exact LeO.none _ | refine LeO.ite ?_ ?_ | refine LeO.bind ?_ (fun _ => ?_)
  ·intro y0 y1 y2 y3 y4 y5
   unfold impl_GiveLand.l0
   repeat' first | with_reducible (first | exact ih0 _ _ _ _ | exact ih1 _ _ _ _ _ _ | exact impl_landCode.mono _ _ _ _ | exact LeO.refl _ | exact LeO.none _ | refine LeO.ite ?_ ?_ | refine LeO.bind ?_ (fun _ => ?_)) | exact ih0 _ _ _ _ | exact ih1 _ _ _ _ _ _ | exact impl_landCode.mono _ _ _ _ | exact LeO.none _ | refine LeO.ite ?_ ?_ | refine LeO.bind ?_ (fun _ => ?_)
theorem impl_GiveLand.mono : ∀ a0 a1 a2 k, LeO (impl_GiveLand.f k a0 a1 a2) (impl_GiveLand.f (k + 1) a0 a1 a2) := by
 intro a0 a1 a2 k;(obtain ⟨ih0, ih1⟩ := impl_GiveLand.mono_l k);(unfold impl_GiveLand.f)
 repeat' first | with_reducible (first | exact ih0 _ _ _ _ | exact ih1 _ _ _ _ _ _ | exact impl_landCode.mono _ _ _ _ | exact LeO.refl _ | exact LeO.none _ | refine LeO.ite ?_ ?_ | refine LeO.bind ?_ (fun _ => ?_)) | exact ih0 _ _ _ _ | exact ih1 _ _ _ _ _ _ | exact impl_landCode.mono _ _ _ _ | exact LeO.none _ | refine LeO.ite ?_ ?_ | refine LeO.bind ?_ (fun _ => ?_)
theorem impl_GiveLand.calls (k : Nat) (A0 : Option Addr) (c0 : Nat) (l0 : List ByteArray) (a1 : ByteArray) (a2 : ByteArray) (r1 : List ByteArray) (r2 : Int) (w : World) (hr0 : Kd.C Kd.string w A0 l0.length l0) (hc0 : l0.length ≤ c0) (h : impl_GiveLand.f k l0 a1 a2 = some (r1, r2)) (hMaxW : MaxW w) :
  Calls Tryd.prog 7 #[.slice A0 l0.length c0, .string a1, .string a2] w fun e w' => ∃ v0_ : Value, e = .returned (.tuple #[v0_, .int .i64 r2]) ∧ Kd.R Kd.string 9 w' w.heap.size (fun _ => True) v0_ r1 ∧ Below w.heap.size w w' := by
 (have HMAXW := Aside0.mk hMaxW);clear hMaxW;(have HR0 := Aside0.mk hr0);(have HC0 := Aside0.mk hc0);clear hr0 hc0;(have HB := Aside0.mk (Below.refl w.heap.size w));(have H : ((impl_isLandText.f a2).bind fun t226 => (if t226 = true then ((impl_landCode.f k l0 a1 true).bind fun t227 => (impl_GiveLand.j0 k l0 a1 a2 t227)) else ((impl_landCode.f k l0 a1 (a2.toList == ([46] : List UInt8))).bind fun t228 => (impl_GiveLand.j0 k l0 a1 a2 t228)))) = some (r1, r2) := h);clear h;(have HC4 := Aside0.mk H);clear H
 go_enter Tryd.func7, Tryd.ntmps7
 go_upto_region 1 with (fail)
 go_cut [8] (fun v8 wc => ∃ (kq : Nat) (x8_3 : Int), v8 = .int .i64 x8_3 ∧ Aside0 (impl_GiveLand.j0 kq l0 a1 a2 x8_3 = some (r1, r2)) ∧ Aside0 (kq ≤ k) ∧ Aside0 (Below w.heap.size w wc))
 case first =>
  (have H := HC4.out);clear HC4;(replace H := Option.bind_eq_some_iff.mp H);(obtain ⟨t226, A50, H⟩ := H);(replace H : (if t226 = true then ((impl_landCode.f k l0 a1 true).bind fun t227 => (impl_GiveLand.j0 k l0 a1 a2 t227)) else ((impl_landCode.f k l0 a1 (a2.toList == ([46] : List UInt8))).bind fun t228 => (impl_GiveLand.j0 k l0 a1 a2 t228))) = some (r1, r2) := H);(have A5 := Aside0.mk A50);clear A50;(by_cases c6 : t226 = true)
  ·subst c6
   (have H1 : ((impl_landCode.f k l0 a1 true).bind fun t227 => (impl_GiveLand.j0 k l0 a1 a2 t227)) = some (r1, r2) := zq54);clear H;(have H := H1);clear H1;(replace H := Option.bind_eq_some_iff.mp H);(obtain ⟨t227, A70, H⟩ := H);(replace H : (impl_GiveLand.j0 k l0 a1 a2 t227) = some (r1, r2) := H);(have A7 := Aside0.mk A70);clear A70;(have H' := Aside0.mk H);clear H;(go_wp2_with (first | ((with_reducible refine gate_callee (f := 36) rfl ?_); refine goesL_ (some 15) rfl rfl Tryd.func36 (by kernel_rfl) rfl #[.string a2] rfl zq0 ?_; (with_reducible refine (impl_isLandText.calls a2 true _ A5.out).mono ?_); rintro e w' ⟨rfl, ⟨nd, rfl⟩⟩; refine ⟨_, rfl, ?_⟩) | ((with_reducible refine gate_callee (f := 35) rfl ?_); refine goesL_ (some 20) rfl rfl Tryd.func35 (by kernel_rfl) rfl #[.slice A0 l0.length c0, .string a1, .bool true] rfl zq0 ?_; (with_reducible refine (impl_landCode.calls k _ _ l0 a1 true t227 _ ?side1 ?side2 A7.out).mono ?_); (case side1 => exact zq72); (case side2 => exact HC0.out); rintro e w8 ⟨rfl, hb⟩; refine ⟨_, rfl, ?_⟩; have n0_ := Aside0.mk (below_step zq40 hb); clear HB; have HB := n0_; clear n0_; (try clear hb); (try clear hb2); (try clear hk); (try clear hi))))
   go_meet
   case rel => exact ⟨_, (t227), zq22, H', ⟨zq20⟩, ⟨zq40⟩⟩
  ·replace c6 := Bool.eq_false_iff.mpr c6
   subst c6;(have H1 : ((impl_landCode.f k l0 a1 (a2.toList == ([46] : List UInt8))).bind fun t228 => (impl_GiveLand.j0 k l0 a1 a2 t228)) = some (r1, r2) := zq53);clear H;(have H := H1);clear H1;(replace H := Option.bind_eq_some_iff.mp H);(obtain ⟨t228, A90, H⟩ := H);(replace H : (impl_GiveLand.j0 k l0 a1 a2 t228) = some (r1, r2) := H);(have A9 := Aside0.mk A90);clear A90;(have H' := Aside0.mk H);clear H;(go_wp2_with (first | ((with_reducible refine gate_callee (f := 36) rfl ?_); refine goesL_ (some 15) rfl rfl Tryd.func36 (by kernel_rfl) rfl #[.string a2] rfl zq0 ?_; (with_reducible refine (impl_isLandText.calls a2 false _ A5.out).mono ?_); rintro e w' ⟨rfl, ⟨nd, rfl⟩⟩; refine ⟨_, rfl, ?_⟩) | ((with_reducible refine gate_callee (f := 35) rfl ?_); refine goesL_ (some 20) rfl rfl Tryd.func35 (by kernel_rfl) rfl #[.slice A0 l0.length c0, .string a1, .bool (a2.toList == ([46] : List UInt8))] rfl zq0 ?_; (with_reducible refine (impl_landCode.calls k _ _ l0 a1 (a2.toList == ([46] : List UInt8)) t228 _ ?side1 ?side2 A9.out).mono ?_); (case side1 => exact zq72); (case side2 => exact HC0.out); rintro e w10 ⟨rfl, hb⟩; refine ⟨_, rfl, ?_⟩; have n0_ := Aside0.mk (below_step zq40 hb); clear HB; have HB := n0_; clear n0_; (try clear hb); (try clear hb2); (try clear hk); (try clear hi))))
   go_meet
   case rel => exact ⟨_, (t228), zq22, H', ⟨zq20⟩, ⟨zq40⟩⟩
 case rest =>
  clear HC4;(try clear p2);(try clear c3);(try clear c6);(try clear c7);(obtain ⟨kq, x8_3, rfl, HA, HJ3, HB⟩ := hcut)
  cases kq with
  | zero => exact absurd HA.out (by simp [impl_GiveLand.j0])
  | succ kj3 =>
   (have H := HA.out);clear HA;(simp only [impl_GiveLand.j0] at H);(by_cases c11 : x8_3 = 0)
   ·rw [if_pos c11] at H
    (have c11b0 : (x8_3 == 0) = true := beq_iff_eq.mpr c11);(have c11b1 : (x8_3 != 0) = false := bne_eq_false_iff_eq.mpr c11);clear c11;(obtain ⟨y229, hy_⟩ : ∃ y_ : List ByteArray, y_ = (([] : List ByteArray)) := ⟨_, rfl⟩);(replace H : (impl_GiveLand.l0 kj3 a1 a2 y229 l0 (l0.length : Int) 0) = some (r1, r2) := zq18);(have Ny229 := Aside0.mk hy_);clear hy_;(have H' := Aside0.mk H);clear H;(go_wp2_with (first | ((with_reducible refine gate_dst (N := 24) rfl ?_); refine Kd.R_lit Kd.string _ 9 ?hg (N := 24) ?hd (xs := ([] : List ByteArray)) (inner := []) (ok := fun _ => True) (okp := fun _ => True) ?hr ?hp (fun _ hk => hk) trivial (Below.refl _ _) (Nat.le_refl _) (by simp) ?_; (case hd => rfl); (case hg => rfl); (case hr => first | (go_simp; done) | (go_simp; rfl)); (case hp => exact (Reps.none _ _)); intro v230 w12 ho13 hb hg_ hnew_; clear hg_ hnew_; (first | rw [← Ny229.out] at ho13 | (simp only [Int.reduceToNat] at ho13; rw [← Ny229.out] at ho13)); have n0_ := Aside0.mk (Kd.R_lower ho13 (below_size zq40)); have n1_ := Aside0.mk (below_step zq40 hb); clear HB; have HO231 := n0_; have HB := n1_; clear n0_ n1_; clear hb ho13)))
    go_loopg [9, 27] kj3 (fun kq v9 v27 w' => ∃ (x9_2 : List ByteArray) (x27_2 : Int), v27 = .int .i64 x27_2 ∧ Aside0 (impl_GiveLand.l0 kq a1 a2 x9_2 l0 (l0.length : Int) x27_2 = some (r1, r2)) ∧ Aside0 (kq ≤ kj3) ∧ Aside0 (Kd.R Kd.string 9 w' w.heap.size (fun _ => True) v9 x9_2) ∧ Aside0 (Below w.heap.size w w'))
    case atStart => exact ⟨(y229), (0), zq22, H', ⟨Nat.le_refl _⟩, ⟨zR HO231.out⟩, ⟨zq40⟩⟩
    case round =>
     clear H';(try clear c1);(try clear p2);(try clear c3);(try clear c6);(try clear c7);(try clear c11);(try clear c11b0);(try clear c11b1);(try clear p2);(obtain ⟨x9_2, x27_2, rfl, HA, HK2, HO_9, HB⟩ := hrel)
     cases gk with
     | zero => exact absurd HA.out (by simp [impl_GiveLand.l0])
     | succ k2 =>
      (have H := HA.out);clear HA;(simp only [impl_GiveLand.l0] at H);(by_cases c14 : x27_2 < (l0.length : Int))
      ·rw [if_pos c14] at H
       (have c14b0 : decide (x27_2 < (l0.length : Int)) = true := decide_eq_true c14);clear c14;(by_cases c15 : 0 ≤ x27_2)
       ·rw [if_pos c15] at H
        (have c15b0 : decide (0 ≤ x27_2) = true := decide_eq_true c15);clear c15;(by_cases c16 : x27_2 < (l0.length : Int))
        ·rw [if_pos c16] at H
         (have c16b0 : decide (x27_2 < (l0.length : Int)) = true := decide_eq_true c16);clear c16;(replace H := Option.bind_eq_some_iff.mp H);(obtain ⟨t233, A170, H⟩ := H);(replace H : (if x9_2.length < 8796093022208 then (impl_GiveLand.l0 k2 a1 a2 (x9_2 ++ [t233]) l0 (l0.length : Int) (wrap64 (x27_2 + 1))) else (none)) = some (r1, r2) := H);(have A17 := Aside0.mk A170);clear A170;(by_cases c18 : x9_2.length < 8796093022208)
         ·rw [if_pos c18] at H
          (have LMc18 := Aside0.mk c18);clear c18;(obtain ⟨y234, hy_⟩ : ∃ y_ : List ByteArray, y_ = (x9_2 ++ [t233]) := ⟨_, rfl⟩);(replace H : (impl_GiveLand.l0 k2 a1 a2 y234 l0 (l0.length : Int) (wrap64 (x27_2 + 1))) = some (r1, r2) := zq18);(have Ny234 := Aside0.mk hy_);clear hy_;(have H' := Aside0.mk H);clear H;(have p232 : 0 ≤ (x27_2 : Int) := of_decide_eq_true zq19);(have q232 : x27_2 < (l0.length : Int) := of_decide_eq_true zq19);(obtain ⟨ad232, e232, hx232_0⟩ := Kd.at_string HR0.out x27_2 p232 q232)
          cases e232
          (replace hx232_0 := (HB.out.cell (World.block_lt_of_cell? w _ hx232_0)).trans hx232_0);(replace p232 := eq_true p232);(replace q232 := eq_true q232);(go_wp2_with (first | ((with_reducible refine gate_callee (f := 37) rfl ?_); refine goesL_ (some 35) rfl rfl Tryd.func37 (by kernel_rfl) rfl #[.string (rdOf ByteArray.empty l0 x27_2), .string a1, .string a2] rfl zq0 ?_; (with_reducible refine (strings_ReplaceAll.calls (rdOf ByteArray.empty l0 x27_2) a1 a2 t233 _ A17.out ?atMaxW_).mono ?_); (case atMaxW_ => exact HMAXW.out.below zq40); rintro e w19 ⟨rfl, hb⟩; refine ⟨_, rfl, ?_⟩; have n0_ := Aside0.mk (Kd.R_below (zR HO_9.out) hb); have n1_ := Aside0.mk (below_step zq40 hb); clear HO_9; clear HB; have HO_9 := n0_; have HB := n1_; clear n0_ n1_; (try clear hb); (try clear hb2); (try clear hk); (try clear hi)) | ((with_reducible refine gate_builtin (b := .append) (xs := #[.tmp 31, .tmp 36]) rfl ?_); at_builtin; refine Kd.R_append Kd.string (w0 := w) w.heap.size rfl (.tmp 31) (.tmp 36) 24 9 (.string ⟨#[]⟩) 16 rfl Tryd.underlying24 info9 rfl (by decide) (by omega) u9 x9_2 t233 [.string t233] (fun _ => True) (fun _ => False) rfl rfl ?aP (fun _ hk => hk.elim) ?aF ?aO ?aB ?aS ?aL ?_; (case aP => exact rfl); (case aB => exact zq40); (case aF => exact (fun _ _ => trivial)); (case aO => exact (zR HO_9.out)); (case aS => exact (below_size zq40)); (case aL => have := LMc18.out; omega); intro v235 w20 ho hb hg hat; rw [← Ny234.out] at ho; have n0_ := Aside0.mk (hb); have n1_ := Aside0.mk (ho); clear HB; clear HO_9; have HB := n0_; have HO236 := n1_; clear n0_ n1_; clear ho hb hg hat)));(go_roundg k2)
          case measure => have := HJ3.out; have := HK2.out; omega
          case rel => exact ⟨(y234), (wrap64 (x27_2 + 1)), zq22, H', ⟨by have := HJ3.out; have := HK2.out; omega⟩, ⟨zR HO236.out⟩, ⟨zq40⟩⟩
         ·rw [if_neg c18] at H
          exact absurd H (by simp)
        ·rw [if_neg c16] at H
         exact absurd H (by simp)
       ·rw [if_neg c15] at H
        exact absurd H (by simp)
      ·rw [if_neg c14] at H
       (have c14b0 : decide (x27_2 < (l0.length : Int)) = false := decide_eq_false c14);clear c14;(simp only [Option.some.injEq, Prod.mk.injEq] at H);(obtain ⟨rfl, rfl⟩ := H);(go_wp2);(go_ret2);(exact ⟨_, zq21, zR HO_9.out, zq40⟩)
   ·rw [if_neg c11] at H
    (have c11b0 : (x8_3 == 0) = false := beq_eq_false_iff_ne.mpr c11);(have c11b1 : (x8_3 != 0) = true := bne_iff_ne.mpr c11);(simp only [Option.some.injEq, Prod.mk.injEq] at H);(obtain ⟨rfl, rfl⟩ := H);(go_wp2);(go_ret2);(exact ⟨_, zq21, by first | exact Kd.R_nil _ _ _ _ _ | exact Kd.N_nil _ _ _ _ _ | exact Kd.V_nil _ _ _ _ _ | exact Kd.Q_nil _ _ _ _ _ | exact Kd.S_nil _ _ _ _ _, zq40⟩)

/-! ### spec_l01Small: function 39 -/
def spec_l01Small.f (a0 : Int) : Option (Bool) := if a0 ≥ 97 then (some (decide (a0 ≤ 122))) else (some false)
theorem spec_l01Small.calls (a0 : Int) (r : Bool) (w : World) (h : spec_l01Small.f a0 = some r) :
  Calls Tryd.prog 39 #[.int .u8 a0] w fun e w' => e = .returned (.bool r) ∧ Drawn0 w w' := by
 (have H : (if a0 ≥ 97 then (some (decide (a0 ≤ 122))) else (some false)) = some r := h);clear h;(by_cases c2 : a0 ≥ 97)
 ·rw [if_pos c2] at H
  (have c2b0 : decide (97 ≤ a0) = true := decide_eq_true c2);clear c2;(obtain rfl := Option.some.inj H)
  go_enter Tryd.func39, Tryd.ntmps39
  (go_wp2);(go_ret);(exact ⟨zq22, zq46⟩)
 ·rw [if_neg c2] at H
  (have c2b0 : decide (97 ≤ a0) = false := decide_eq_false c2);clear c2;(obtain rfl := Option.some.inj H)
  go_enter Tryd.func39, Tryd.ntmps39
  (go_wp2);(go_ret);(exact ⟨zq22, zq46⟩)

/-! ### spec_l12Count: function 44 -/
mutual
def spec_l12Count.l0 : Nat → List ByteArray → Int → Int → Int → Option (Int)
 | 0, _, _, _, _ => none
 | k + 1, x0, x1, x5, x6 => if x6 < (x0.length : Int) then (spec_l12Count.l1 k x0 x1 x5 x6 0) else (some x5)
def spec_l12Count.l1 : Nat → List ByteArray → Int → Int → Int → Int → Option (Int)
 | 0, _, _, _, _, _ => none
 | k + 1, x0, x1, x5, x6, x7 => if 0 ≤ x6 then (if x6 < (x0.length : Int) then (if x7 < ((rdOf ByteArray.empty x0 x6).size : Int) then (if 0 ≤ x7 then (if (bt (rdOf ByteArray.empty x0 x6) x7) = x1 then (spec_l12Count.l1 k x0 x1 (wrap64 (x5 + 1)) x6 (wrap64 (x7 + 1))) else (spec_l12Count.l1 k x0 x1 x5 x6 (wrap64 (x7 + 1)))) else (none)) else (spec_l12Count.l0 k x0 x1 x5 (wrap64 (x6 + 1)))) else (none)) else (none)
end
def spec_l12Count.f (k : Nat) (l0 : List ByteArray) (a1 : Int) : Option (Int) := spec_l12Count.l0 k l0 a1 0 0
theorem spec_l12Count.mono_l : ∀ k, (∀ y0 y1 y2 y3, LeO (spec_l12Count.l0 k y0 y1 y2 y3) (spec_l12Count.l0 (k + 1) y0 y1 y2 y3)) ∧ (∀ y0 y1 y2 y3 y4, LeO (spec_l12Count.l1 k y0 y1 y2 y3 y4) (spec_l12Count.l1 (k + 1) y0 y1 y2 y3 y4))
 | 0 => ⟨fun _ _ _ _ r h => by simp [spec_l12Count.l0] at h, fun _ _ _ _ _ r h => by simp [spec_l12Count.l1] at h⟩
 | k + 1 => by
  (obtain ⟨ih0, ih1⟩ := spec_l12Count.mono_l k);(refine ⟨?_, ?_⟩)
  ·intro y0 y1 y2 y3
   unfold spec_l12Count.l0
   repeat' first | with_reducible (first | exact ih0 _ _ _ _ | exact ih1 _ _ _ _ _ | exact LeO.refl _ | exact LeO.none _ | refine LeO.ite ?_ ?_ | refine LeO.bind ?_ (fun _ => ?_)) | exact ih0 _ _ _ _ | exact ih1 _ _ _ _ _ | exact LeO.none _ | refine LeO.ite ?_ ?_ | refine LeO.bind ?_ (fun _ => ?_)
  ·intro y0 y1 y2 y3 y4
   unfold spec_l12Count.l1
   repeat' first | with_reducible (first | exact ih0 _ _ _ _ | exact ih1 _ _ _ _ _ | exact LeO.refl _ | exact LeO.none _ | refine LeO.ite ?_ ?_ | refine LeO.bind ?_ (fun _ => ?_)) | exact ih0 _ _ _ _ | exact ih1 _ _ _ _ _ | exact LeO.none _ | refine LeO.ite ?_ ?_ | refine LeO.bind ?_ (fun _ => ?_)
theorem spec_l12Count.mono : ∀ a0 a1 k, LeO (spec_l12Count.f k a0 a1) (spec_l12Count.f (k + 1) a0 a1) := by
 intro a0 a1 k;(obtain ⟨ih0, ih1⟩ := spec_l12Count.mono_l k);(unfold spec_l12Count.f)
 repeat' first | with_reducible (first | exact ih0 _ _ _ _ | exact ih1 _ _ _ _ _ | exact LeO.refl _ | exact LeO.none _ | refine LeO.ite ?_ ?_ | refine LeO.bind ?_ (fun _ => ?_)) | exact ih0 _ _ _ _ | exact ih1 _ _ _ _ _ | exact LeO.none _ | refine LeO.ite ?_ ?_ | refine LeO.bind ?_ (fun _ => ?_)
theorem spec_l12Count.calls (k : Nat) (A0 : Option Addr) (c0 : Nat) (l0 : List ByteArray) (a1 : Int) (r : Int) (w : World) (hr0 : Kd.C Kd.string w A0 l0.length l0) (hc0 : l0.length ≤ c0) (h : spec_l12Count.f k l0 a1 = some r) :
  Calls Tryd.prog 44 #[.slice A0 l0.length c0, .int .u8 a1] w fun e w' => e = .returned (.int .i64 r) ∧ Drawn0 w w' := by
 (have HR0 := Aside0.mk hr0);(have HC0 := Aside0.mk hc0);clear hr0 hc0;(have H : (spec_l12Count.l0 k l0 a1 0 0) = some r := h);clear h;(have H' := Aside0.mk H);clear H
 go_enter Tryd.func44, Tryd.ntmps44
 go_wp2
 go_loopg [5, 6] k (fun kq v5 v6 w' => ∃ (x5_1 : Int) (x6_1 : Int), v5 = .int .i64 x5_1 ∧ v6 = .int .i64 x6_1 ∧ Aside0 (spec_l12Count.l0 kq l0 a1 x5_1 x6_1 = some r) ∧ Aside0 (kq ≤ k) ∧ Drawn0 w w')
 case atStart => exact ⟨(0), (0), zq22, zq22, H', ⟨Nat.le_refl _⟩, zq46⟩
 case round =>
  clear H';(try clear p2);(obtain ⟨x5_1, x6_1, rfl, rfl, HA, HK1, ⟨m1, rfl⟩⟩ := hrel)
  cases gk with
  | zero => exact absurd HA.out (by simp [spec_l12Count.l0])
  | succ k1 =>
   (have H := HA.out);clear HA;(simp only [spec_l12Count.l0] at H);(by_cases c3 : x6_1 < (l0.length : Int))
   ·rw [if_pos c3] at H
    (have c3b0 : decide (x6_1 < (l0.length : Int)) = true := decide_eq_true c3);clear c3;(have H' := Aside0.mk H);clear H;(go_wp2)
    go_loopg [5, 7] k1 (fun kq v5 v7 w' => ∃ (x5_2 : Int) (x7_2 : Int), v5 = .int .i64 x5_2 ∧ v7 = .int .i64 x7_2 ∧ Aside0 (spec_l12Count.l1 kq l0 a1 x5_2 x6_1 x7_2 = some r) ∧ Aside0 (kq ≤ k1) ∧ Drawn0 w w')
    case atStart => exact ⟨(x5_1), (0), zq22, zq22, H', ⟨Nat.le_refl _⟩, zq46⟩
    case round =>
     clear H';(try clear p2);(try clear c3);(try clear c3b0);(try clear p2);(obtain ⟨x5_2, x7_2, rfl, rfl, HA, HK2, ⟨m2, rfl⟩⟩ := hrel)
     cases gk with
     | zero => exact absurd HA.out (by simp [spec_l12Count.l1])
     | succ k2 =>
      (have H := HA.out);clear HA;(simp only [spec_l12Count.l1] at H);(by_cases c4 : 0 ≤ x6_1)
      ·rw [if_pos c4] at H
       (have c4b0 : decide (0 ≤ x6_1) = true := decide_eq_true c4);clear c4;(by_cases c5 : x6_1 < (l0.length : Int))
       ·rw [if_pos c5] at H
        (have c5b0 : decide (x6_1 < (l0.length : Int)) = true := decide_eq_true c5);clear c5;(by_cases c6 : x7_2 < ((rdOf ByteArray.empty l0 x6_1).size : Int))
        ·rw [if_pos c6] at H
         (have c6b0 : decide (x7_2 < ((rdOf ByteArray.empty l0 x6_1).size : Int)) = true := decide_eq_true c6);clear c6;(by_cases c7 : 0 ≤ x7_2)
         ·rw [if_pos c7] at H
          (have c7b0 : decide (0 ≤ x7_2) = true := decide_eq_true c7);clear c7;(by_cases c9 : (bt (rdOf ByteArray.empty l0 x6_1) x7_2) = a1)
          ·rw [if_pos c9] at H
           (have c9b0 : ((bt (rdOf ByteArray.empty l0 x6_1) x7_2) == a1) = true := beq_iff_eq.mpr c9);(have c9b1 : ((bt (rdOf ByteArray.empty l0 x6_1) x7_2) != a1) = false := bne_eq_false_iff_eq.mpr c9);clear c9;(have H' := Aside0.mk H);clear H;(have p237 : 0 ≤ (x6_1 : Int) := of_decide_eq_true zq19);(have q237 : x6_1 < (l0.length : Int) := of_decide_eq_true zq19);(obtain ⟨ad237, e237, hx237_0⟩ := Kd.at_string HR0.out x6_1 p237 q237)
           cases e237
           (replace p237 := eq_true p237);(replace q237 := eq_true q237);(have p238 : 0 ≤ (x6_1 : Int) := of_decide_eq_true zq19);(have q238 : x6_1 < (l0.length : Int) := of_decide_eq_true zq19);(obtain ⟨ad238, e238, hx238_0⟩ := Kd.at_string HR0.out x6_1 p238 q238);(obtain rfl : ad237 = ad238 := (by injection e238));(replace p238 := eq_true p238);(replace q238 := eq_true q238);(have p8 : 0 ≤ (x7_2 : Int) := of_decide_eq_true zq19);(have q8 : x7_2 < ((rdOf ByteArray.empty l0 x6_1).size : Int) := of_decide_eq_true zq19);(have hx8 := bt_at (rdOf ByteArray.empty l0 x6_1) x7_2);(replace p8 := eq_true p8);(replace q8 := eq_true q8);(go_wp2);(go_roundg k2)
           case measure => have := HK1.out; have := HK2.out; omega
           case rel => exact ⟨(wrap64 (x5_2 + 1)), (wrap64 (x7_2 + 1)), zq22, zq22, H', ⟨zq32⟩, zq46⟩
          ·rw [if_neg c9] at H
           (have c9b0 : ((bt (rdOf ByteArray.empty l0 x6_1) x7_2) == a1) = false := beq_eq_false_iff_ne.mpr c9);(have c9b1 : ((bt (rdOf ByteArray.empty l0 x6_1) x7_2) != a1) = true := bne_iff_ne.mpr c9);(have H' := Aside0.mk H);clear H;(have p237 : 0 ≤ (x6_1 : Int) := of_decide_eq_true zq19);(have q237 : x6_1 < (l0.length : Int) := of_decide_eq_true zq19);(obtain ⟨ad237, e237, hx237_0⟩ := Kd.at_string HR0.out x6_1 p237 q237)
           cases e237
           (replace p237 := eq_true p237);(replace q237 := eq_true q237);(have p238 : 0 ≤ (x6_1 : Int) := of_decide_eq_true zq19);(have q238 : x6_1 < (l0.length : Int) := of_decide_eq_true zq19);(obtain ⟨ad238, e238, hx238_0⟩ := Kd.at_string HR0.out x6_1 p238 q238);(obtain rfl : ad237 = ad238 := (by injection e238));(replace p238 := eq_true p238);(replace q238 := eq_true q238);(have p8 : 0 ≤ (x7_2 : Int) := of_decide_eq_true zq19);(have q8 : x7_2 < ((rdOf ByteArray.empty l0 x6_1).size : Int) := of_decide_eq_true zq19);(have hx8 := bt_at (rdOf ByteArray.empty l0 x6_1) x7_2);(replace p8 := eq_true p8);(replace q8 := eq_true q8);(go_wp2);(go_roundg k2)
           case measure => have := HK1.out; have := HK2.out; omega
           case rel => exact ⟨(x5_2), (wrap64 (x7_2 + 1)), zq22, zq22, H', ⟨zq32⟩, zq46⟩
         ·rw [if_neg c7] at H
          exact absurd H (by simp)
        ·rw [if_neg c6] at H
         (have c6b0 : decide (x7_2 < ((rdOf ByteArray.empty l0 x6_1).size : Int)) = false := decide_eq_false c6);clear c6;(have H' := Aside0.mk H);clear H;(have p237 : 0 ≤ (x6_1 : Int) := of_decide_eq_true zq19);(have q237 : x6_1 < (l0.length : Int) := of_decide_eq_true zq19);(obtain ⟨ad237, e237, hx237_0⟩ := Kd.at_string HR0.out x6_1 p237 q237)
         cases e237
         (replace p237 := eq_true p237);(replace q237 := eq_true q237);(go_wp2);(go_roundg k2)
         case measure => have := HK1.out; have := HK2.out; omega
         case rel => exact ⟨(x5_2), (wrap64 (x6_1 + 1)), zq22, zq22, H', ⟨zq32⟩, zq46⟩
       ·rw [if_neg c5] at H
        exact absurd H (by simp)
      ·rw [if_neg c4] at H
       exact absurd H (by simp)
   ·rw [if_neg c3] at H
    (have c3b0 : decide (x6_1 < (l0.length : Int)) = false := decide_eq_false c3);clear c3;(obtain rfl := Option.some.inj H);(go_wp2);(go_ret);(exact ⟨zq22, zq46⟩)

/-! ### spec_l00In: function 53 -/
def spec_l00In.f (a0 : Int) (a1 : Int) (a2 : Int) : Option (Bool) := if a0 ≥ a1 then (some (decide (a0 ≤ a2))) else (some false)
theorem spec_l00In.calls (a0 : Int) (a1 : Int) (a2 : Int) (r : Bool) (w : World) (h : spec_l00In.f a0 a1 a2 = some r) :
  Calls Tryd.prog 53 #[.int .i64 a0, .int .i64 a1, .int .i64 a2] w fun e w' => e = .returned (.bool r) ∧ Drawn0 w w' := by
 (have H : (if a0 ≥ a1 then (some (decide (a0 ≤ a2))) else (some false)) = some r := h);clear h;(by_cases c4 : a0 ≥ a1)
 ·rw [if_pos c4] at H
  (have c4b0 : decide (a1 ≤ a0) = true := decide_eq_true c4);clear c4;(obtain rfl := Option.some.inj H)
  go_enter Tryd.func53, Tryd.ntmps53
  (go_wp2);(go_ret);(exact ⟨zq22, zq46⟩)
 ·rw [if_neg c4] at H
  (have c4b0 : decide (a1 ≤ a0) = false := decide_eq_false c4);clear c4;(obtain rfl := Option.some.inj H)
  go_enter Tryd.func53, Tryd.ntmps53
  (go_wp2);(go_ret);(exact ⟨zq22, zq46⟩)

end Go.Proofs.YtdkmngghknohgaaDoor.PFnIslands
