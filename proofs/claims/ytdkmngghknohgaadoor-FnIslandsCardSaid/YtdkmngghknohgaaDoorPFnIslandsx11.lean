-- Made by a program of this session (gprint.py) out of the kit's print of the translation and texts of my own. SLIM
import Derived.Test.YtdkmngghknohgaaDoorPFnIslandsx0
import Derived.Test.YtdkmngghknohgaaDoorPFnIslandsx4
import Derived.Test.YtdkmngghknohgaaDoorPFnIslandsx10
namespace Go.Proofs.YtdkmngghknohgaaDoor.PFnIslands
open Go.RowKit Go.Proofs.YtdkmngghknohgaaDoorW.PrintWords Go.Proofs.YtdkmngghknohgaaDoorW.PrintLast Go.Proofs.YtdkmngghknohgaaDoorW.PrintMore
set_option maxHeartbeats 64000000
set_option maxRecDepth 100000
attribute [local go_sem] max2_int min2_int max_two min_two max_three min_three max_four min_four   -- for this text's walks alone
set_option linter.unusedVariables false
set_option linter.unusedSimpArgs false

/-! ### spec_CoastOf: function 15 -/
def spec_CoastOf.f (k : Nat) (l0 : List ByteArray) (a1 : ByteArray) : Option (Int × Int) := (spec_l12Code.f k l0 a1).bind fun t347 => (if t347 = 0 then (if 0 < (a1.size : Int) then ((spec_l12Coast.f k l0 (bt a1 0)).bind fun t348 => (some (t348, 0))) else (none)) else (some (0, t347)))
theorem spec_CoastOf.mono : ∀ a0 a1 k, LeO (spec_CoastOf.f k a0 a1) (spec_CoastOf.f (k + 1) a0 a1) := by
 intro a0 a1 k;(unfold spec_CoastOf.f)
 repeat' first | with_reducible (first | exact spec_l12Coast.mono _ _ _ | exact spec_l12Code.mono _ _ _ | exact LeO.refl _ | exact LeO.none _ | refine LeO.ite ?_ ?_ | refine LeO.bind ?_ (fun _ => ?_)) | exact spec_l12Coast.mono _ _ _ | exact spec_l12Code.mono _ _ _ | exact LeO.none _ | refine LeO.ite ?_ ?_ | refine LeO.bind ?_ (fun _ => ?_)
theorem spec_CoastOf.calls (k : Nat) (A0 : Option Addr) (c0 : Nat) (l0 : List ByteArray) (a1 : ByteArray) (r1 : Int) (r2 : Int) (w : World) (hr0 : Kd.C Kd.string w A0 l0.length l0) (hc0 : l0.length ≤ c0) (h : spec_CoastOf.f k l0 a1 = some (r1, r2)) :
  Calls Tryd.prog 15 #[.slice A0 l0.length c0, .string a1] w fun e w' => e = .returned (.tuple #[.int .i64 r1, .int .i64 r2]) ∧ Drawn0 w w' := by
 (have HR0 := Aside0.mk hr0);(have HC0 := Aside0.mk hc0);clear hr0 hc0;(have H : ((spec_l12Code.f k l0 a1).bind fun t347 => (if t347 = 0 then (if 0 < (a1.size : Int) then ((spec_l12Coast.f k l0 (bt a1 0)).bind fun t348 => (some (t348, 0))) else (none)) else (some (0, t347)))) = some (r1, r2) := h);clear h;(replace H := Option.bind_eq_some_iff.mp H);(obtain ⟨t347, A30, H⟩ := H);(replace H : (if t347 = 0 then (if 0 < (a1.size : Int) then ((spec_l12Coast.f k l0 (bt a1 0)).bind fun t348 => (some (t348, 0))) else (none)) else (some (0, t347))) = some (r1, r2) := H);(have A3 := Aside0.mk A30);clear A30;(by_cases c4 : t347 = 0)
 ·rw [if_pos c4] at H
  (have c4b0 : (t347 == 0) = true := beq_iff_eq.mpr c4);(have c4b1 : (t347 != 0) = false := bne_eq_false_iff_eq.mpr c4);clear c4;(by_cases c5 : 0 < (a1.size : Int))
  ·rw [if_pos c5] at H
   (have c5b0 : decide (0 < (a1.size : Int)) = true := decide_eq_true c5);(have c5b1 : decide (0 < a1.size) = true := decide_eq_true (by omega));clear c5;(replace H := Option.bind_eq_some_iff.mp H);(obtain ⟨t348, A70, H⟩ := H);(replace H : (some (t348, 0)) = some (r1, r2) := H);(have A7 := Aside0.mk A70);clear A70;(simp only [Option.some.injEq, Prod.mk.injEq] at H);(obtain ⟨rfl, rfl⟩ := H)
   go_enter Tryd.func15, Tryd.ntmps15
   (go_wp2_with (first | ((with_reducible refine gate_callee (f := 38) rfl ?_); refine goesL_ (some 9) rfl rfl Tryd.func38 (by kernel_rfl) rfl #[.slice A0 l0.length c0, .string a1] rfl zq0 ?_; (with_reducible refine (spec_l12Code.calls k _ _ l0 a1 t347 _ ?side1 ?side2 A3.out).mono ?_); (case side1 => exact zq47); (case side2 => exact HC0.out); rintro e w' ⟨rfl, ⟨nd, rfl⟩⟩; refine ⟨_, rfl, ?_⟩; have p6 : 0 ≤ (0 : Int) := (by omega); have q6 : 0 < a1.size := (by have : (0 : Int) < (a1.size : Int) := of_decide_eq_true zq19; omega); have hx6 : ∀ h : 0 < a1.size, ((a1[0]'h).toNat : Int) = bt a1 0 := bt_at a1 0; clear p6; have qi6 : (0 < (a1.size : Int)) = True := eq_true (of_decide_eq_true zq19); replace q6 := eq_true q6) | ((with_reducible refine gate_callee (f := 46) rfl ?_); refine goesL_ (some 16) rfl rfl Tryd.func46 (by kernel_rfl) rfl #[.slice A0 l0.length c0, .int .u8 (bt a1 0)] rfl zq0 ?_; (with_reducible refine (spec_l12Coast.calls k _ _ l0 (bt a1 0) t348 _ ?side1 ?side2 A7.out).mono ?_); (case side1 => exact zq47); (case side2 => exact HC0.out); rintro e w' ⟨rfl, ⟨nd, rfl⟩⟩; refine ⟨_, rfl, ?_⟩)));(go_ret2);(exact ⟨zq22, zq46⟩)
  ·rw [if_neg c5] at H
   exact absurd H (by simp)
 ·rw [if_neg c4] at H
  (have c4b0 : (t347 == 0) = false := beq_eq_false_iff_ne.mpr c4);(have c4b1 : (t347 != 0) = true := bne_iff_ne.mpr c4);(simp only [Option.some.injEq, Prod.mk.injEq] at H);(obtain ⟨rfl, rfl⟩ := H)
  go_enter Tryd.func15, Tryd.ntmps15
  (go_wp2_with (first | ((with_reducible refine gate_callee (f := 38) rfl ?_); refine goesL_ (some 9) rfl rfl Tryd.func38 (by kernel_rfl) rfl #[.slice A0 l0.length c0, .string a1] rfl zq0 ?_; (with_reducible refine (spec_l12Code.calls k _ _ l0 a1 t347 _ ?side1 ?side2 A3.out).mono ?_); (case side1 => exact zq47); (case side2 => exact HC0.out); rintro e w' ⟨rfl, ⟨nd, rfl⟩⟩; refine ⟨_, rfl, ?_⟩)));(go_ret2);(exact ⟨zq22, zq46⟩)

/-! ### laws_f6texts: function 16 -/
def laws_f6texts.l0 : Nat → List ByteArray → List ByteArray → Int → Option (Bool)
 | 0, _, _, _ => none
 | k + 1, x0, x1, x5 => if x5 < (x0.length : Int) then (if 0 ≤ x5 then (if x5 < (x1.length : Int) then (if (rdOf ByteArray.empty x0 x5).toList = (rdOf ByteArray.empty x1 x5).toList then (laws_f6texts.l0 k x0 x1 (wrap64 (x5 + 1))) else (some false)) else (none)) else (none)) else (some true)
def laws_f6texts.f (k : Nat) (l0 : List ByteArray) (l1 : List ByteArray) : Option (Bool) := if (l0.length : Int) = (l1.length : Int) then (laws_f6texts.l0 k l0 l1 0) else (some false)
theorem laws_f6texts.mono_l : ∀ k, (∀ y0 y1 y2, LeO (laws_f6texts.l0 k y0 y1 y2) (laws_f6texts.l0 (k + 1) y0 y1 y2))
 | 0 => fun _ _ _ r h => by simp [laws_f6texts.l0] at h
 | k + 1 => by
  have ih0 := laws_f6texts.mono_l k
  ·intro y0 y1 y2
   unfold laws_f6texts.l0
   repeat' first | with_reducible (first | exact ih0 _ _ _ | exact LeO.refl _ | exact LeO.none _ | refine LeO.ite ?_ ?_ | refine LeO.bind ?_ (fun _ => ?_)) | exact ih0 _ _ _ | exact LeO.none _ | refine LeO.ite ?_ ?_ | refine LeO.bind ?_ (fun _ => ?_)
theorem laws_f6texts.mono : ∀ a0 a1 k, LeO (laws_f6texts.f k a0 a1) (laws_f6texts.f (k + 1) a0 a1) := by
 intro a0 a1 k;(have ih0 := laws_f6texts.mono_l k);(unfold laws_f6texts.f)
 repeat' first | with_reducible (first | exact ih0 _ _ _ | exact LeO.refl _ | exact LeO.none _ | refine LeO.ite ?_ ?_ | refine LeO.bind ?_ (fun _ => ?_)) | exact ih0 _ _ _ | exact LeO.none _ | refine LeO.ite ?_ ?_ | refine LeO.bind ?_ (fun _ => ?_)
theorem laws_f6texts.calls (k : Nat) (A0 : Option Addr) (c0 : Nat) (l0 : List ByteArray) (A1 : Option Addr) (c1 : Nat) (l1 : List ByteArray) (r : Bool) (w : World) (hr0 : Kd.C Kd.string w A0 l0.length l0) (hc0 : l0.length ≤ c0) (hr1 : Kd.C Kd.string w A1 l1.length l1) (hc1 : l1.length ≤ c1) (h : laws_f6texts.f k l0 l1 = some r) :
  Calls Tryd.prog 16 #[.slice A0 l0.length c0, .slice A1 l1.length c1] w fun e w' => e = .returned (.bool r) ∧ Drawn0 w w' := by
 (have HR0 := Aside0.mk hr0);(have HC0 := Aside0.mk hc0);clear hr0 hc0;(have HR1 := Aside0.mk hr1);(have HC1 := Aside0.mk hc1);clear hr1 hc1;(have H : (if (l0.length : Int) = (l1.length : Int) then (laws_f6texts.l0 k l0 l1 0) else (some false)) = some r := h);clear h;(by_cases c3 : (l0.length : Int) = (l1.length : Int))
 ·rw [if_pos c3] at H
  (have c3b0 : ((l0.length : Int) == (l1.length : Int)) = true := beq_iff_eq.mpr c3);(have c3b1 : ((l0.length : Int) != (l1.length : Int)) = false := bne_eq_false_iff_eq.mpr c3);(have c3b2 : (l0.length == l1.length) = true := by first | simpa using c3 | (simp at c3 ⊢; omega));clear c3;(have H' := Aside0.mk H);clear H
  go_enter Tryd.func16, Tryd.ntmps16
  (go_wp2);(repeat (go_quiet (fail); try go_wp2))
  go_loopg [5] k (fun kq v5 w' => ∃ (x5_1 : Int), v5 = .int .i64 x5_1 ∧ Aside0 (laws_f6texts.l0 kq l0 l1 x5_1 = some r) ∧ Aside0 (kq ≤ k) ∧ Drawn0 w w')
  case atStart => exact ⟨(0), zq22, H', ⟨Nat.le_refl _⟩, zq46⟩
  case round =>
   clear H';(try clear c1);(try clear p2);(try clear c3);(try clear c3b0);(try clear c3b1);(try clear c3b2);(obtain ⟨x5_1, rfl, HA, HK1, ⟨m1, rfl⟩⟩ := hrel)
   cases gk with
   | zero => exact absurd HA.out (by simp [laws_f6texts.l0])
   | succ k1 =>
    (have H := HA.out);clear HA;(simp only [laws_f6texts.l0] at H);(by_cases c4 : x5_1 < (l0.length : Int))
    ·rw [if_pos c4] at H
     (have c4b0 : decide (x5_1 < (l0.length : Int)) = true := decide_eq_true c4);clear c4;(by_cases c5 : 0 ≤ x5_1)
     ·rw [if_pos c5] at H
      (have c5b0 : decide (0 ≤ x5_1) = true := decide_eq_true c5);clear c5;(by_cases c6 : x5_1 < (l1.length : Int))
      ·rw [if_pos c6] at H
       (have c6b0 : decide (x5_1 < (l1.length : Int)) = true := decide_eq_true c6);clear c6;(by_cases c7 : (rdOf ByteArray.empty l0 x5_1).toList = (rdOf ByteArray.empty l1 x5_1).toList)
       ·rw [if_pos c7] at H
        (have c7b0 : ((rdOf ByteArray.empty l0 x5_1).toList == (rdOf ByteArray.empty l1 x5_1).toList) = true := beq_iff_eq.mpr c7);(have c7b1 : ((rdOf ByteArray.empty l0 x5_1).toList != (rdOf ByteArray.empty l1 x5_1).toList) = false := bne_eq_false_iff_eq.mpr c7);clear c7;(have H' := Aside0.mk H);clear H;(have p349 : 0 ≤ (x5_1 : Int) := of_decide_eq_true zq19);(have q349 : x5_1 < (l0.length : Int) := of_decide_eq_true zq19);(obtain ⟨ad349, e349, hx349_0⟩ := Kd.at_string HR0.out x5_1 p349 q349)
        cases e349
        (replace p349 := eq_true p349);(replace q349 := eq_true q349);(have p350 : 0 ≤ (x5_1 : Int) := of_decide_eq_true zq19);(have q350 : x5_1 < (l1.length : Int) := of_decide_eq_true zq19);(obtain ⟨ad350, e350, hx350_0⟩ := Kd.at_string HR1.out x5_1 p350 q350)
        cases e350
        (replace p350 := eq_true p350);(replace q350 := eq_true q350);(go_wp2);(repeat (go_quiet (fail); try go_wp2));(go_roundg k1)
        case measure => have := HK1.out; omega
        case rel => exact ⟨(wrap64 (x5_1 + 1)), zq22, H', ⟨by have := HK1.out; omega⟩, zq46⟩
       ·rw [if_neg c7] at H
        (have c7b0 : ((rdOf ByteArray.empty l0 x5_1).toList == (rdOf ByteArray.empty l1 x5_1).toList) = false := beq_eq_false_iff_ne.mpr c7);(have c7b1 : ((rdOf ByteArray.empty l0 x5_1).toList != (rdOf ByteArray.empty l1 x5_1).toList) = true := bne_iff_ne.mpr c7);(obtain rfl := Option.some.inj H);(have p349 : 0 ≤ (x5_1 : Int) := of_decide_eq_true zq19);(have q349 : x5_1 < (l0.length : Int) := of_decide_eq_true zq19);(obtain ⟨ad349, e349, hx349_0⟩ := Kd.at_string HR0.out x5_1 p349 q349)
        cases e349
        (replace p349 := eq_true p349);(replace q349 := eq_true q349);(have p350 : 0 ≤ (x5_1 : Int) := of_decide_eq_true zq19);(have q350 : x5_1 < (l1.length : Int) := of_decide_eq_true zq19);(obtain ⟨ad350, e350, hx350_0⟩ := Kd.at_string HR1.out x5_1 p350 q350)
        cases e350
        (replace p350 := eq_true p350);(replace q350 := eq_true q350);(go_wp2);(repeat (go_quiet (fail); try go_wp2));(go_ret);(exact ⟨zq22, zq46⟩)
      ·rw [if_neg c6] at H
       exact absurd H (by simp)
     ·rw [if_neg c5] at H
      exact absurd H (by simp)
    ·rw [if_neg c4] at H
     (have c4b0 : decide (x5_1 < (l0.length : Int)) = false := decide_eq_false c4);clear c4;(obtain rfl := Option.some.inj H);(go_wp2);(repeat (go_quiet (fail); try go_wp2));(go_ret);(exact ⟨zq22, zq46⟩)
 ·rw [if_neg c3] at H
  (have c3b0 : ((l0.length : Int) == (l1.length : Int)) = false := beq_eq_false_iff_ne.mpr c3);(have c3b1 : ((l0.length : Int) != (l1.length : Int)) = true := bne_iff_ne.mpr c3);(have c3b2 : (l0.length == l1.length) = false := by first | simpa using c3 | (simp at c3 ⊢; omega));(obtain rfl := Option.some.inj H)
  go_enter Tryd.func16, Tryd.ntmps16
  (go_wp2);(repeat (go_quiet (fail); try go_wp2));(go_ret);(exact ⟨zq22, zq46⟩)

end Go.Proofs.YtdkmngghknohgaaDoor.PFnIslands
