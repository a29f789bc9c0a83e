-- Made by a program of this session (gprint.py) out of the kit's print of the translation and texts of my own. SLIM
import Derived.Test.YtalmeecdjhelkaaDoorPFnEditionsx0
namespace Go.Proofs.YtalmeecdjhelkaaDoor.PFnEditions
open Go.RowKit Go.Proofs.YtalmeecdjhelkaaDoorW.PrintWords Go.Proofs.YtalmeecdjhelkaaDoorW.PrintLast Go.Proofs.YtalmeecdjhelkaaDoorW.PrintMore
set_option maxHeartbeats 64000000
set_option maxRecDepth 100000
attribute [local go_sem] max2_int min2_int max_two min_two max_three min_three max_four min_four   -- for this text's walks alone
set_option linter.unusedVariables false
set_option linter.unusedSimpArgs false

/-! ### spec_l01Small: function 132 -/
def spec_l01Small.f (a0 : Int) : Option (Bool) := if a0 ≥ 97 then (some (decide (a0 ≤ 122))) else (some false)
theorem spec_l01Small.calls (a0 : Int) (r : Bool) (w : World) (h : spec_l01Small.f a0 = some r) :
  Calls Tryd.prog 132 #[.int .u8 a0] w fun e w' => e = .returned (.bool r) ∧ Drawn0 w w' := by
 (have H : (if a0 ≥ 97 then (some (decide (a0 ≤ 122))) else (some false)) = some r := h);clear h;(by_cases c2 : a0 ≥ 97)
 ·rw [if_pos c2] at H
  (have c2b0 : decide (97 ≤ a0) = true := decide_eq_true c2);clear c2;(obtain rfl := Option.some.inj H)
  go_enter Tryd.func132, Tryd.ntmps132
  (go_wp2);(go_ret);(exact ⟨zq35, zq87⟩)
 ·rw [if_neg c2] at H
  (have c2b0 : decide (97 ≤ a0) = false := decide_eq_false c2);clear c2;(obtain rfl := Option.some.inj H)
  go_enter Tryd.func132, Tryd.ntmps132
  (go_wp2);(go_ret);(exact ⟨zq35, zq87⟩)

/-! ### spec_l01Digit: function 133 -/
def spec_l01Digit.f (a0 : Int) : Option (Bool) := if a0 ≥ 48 then (some (decide (a0 ≤ 57))) else (some false)
theorem spec_l01Digit.calls (a0 : Int) (r : Bool) (w : World) (h : spec_l01Digit.f a0 = some r) :
  Calls Tryd.prog 133 #[.int .u8 a0] w fun e w' => e = .returned (.bool r) ∧ Drawn0 w w' := by
 (have H : (if a0 ≥ 48 then (some (decide (a0 ≤ 57))) else (some false)) = some r := h);clear h;(by_cases c2 : a0 ≥ 48)
 ·rw [if_pos c2] at H
  (have c2b0 : decide (48 ≤ a0) = true := decide_eq_true c2);clear c2;(obtain rfl := Option.some.inj H)
  go_enter Tryd.func133, Tryd.ntmps133
  (go_wp2);(go_ret);(exact ⟨zq35, zq87⟩)
 ·rw [if_neg c2] at H
  (have c2b0 : decide (48 ≤ a0) = false := decide_eq_false c2);clear c2;(obtain rfl := Option.some.inj H)
  go_enter Tryd.func133, Tryd.ntmps133
  (go_wp2);(go_ret);(exact ⟨zq35, zq87⟩)

/-! ### spec_IsName: function 114 -/
mutual
def spec_IsName.j0 : Nat → ByteArray → Bool → Option (Bool)
 | 0, _, _ => none
 | k + 1, x0, x16 => if x16 = true then (some false) else (spec_IsName.l0 k x0 0)
def spec_IsName.l0 : Nat → ByteArray → Int → Option (Bool)
 | 0, _, _ => none
 | k + 1, x0, x3 => if x3 < (x0.size : Int) then (if 0 ≤ x3 then ((spec_l01Small.f (bt x0 x3)).bind fun t102 => (if t102 = true then (spec_IsName.l0 k x0 (wrap64 (x3 + 1))) else ((spec_l01Digit.f (bt x0 x3)).bind fun t103 => (if t103 = true then (spec_IsName.l0 k x0 (wrap64 (x3 + 1))) else (if (bt x0 x3) = 45 then (spec_IsName.l0 k x0 (wrap64 (x3 + 1))) else (some false)))))) else (none)) else (some true)
end
def spec_IsName.f (k : Nat) (a0 : ByteArray) : Option (Bool) := if a0.toList = ([] : List UInt8) then (spec_IsName.j0 k a0 true) else (if (a0.size : Int) > 12 then (spec_IsName.j0 k a0 true) else (if 0 < (a0.size : Int) then ((spec_l01Small.f (bt a0 0)).bind fun t101 => (spec_IsName.j0 k a0 (!t101))) else (none)))
theorem spec_IsName.mono_l : ∀ k, (∀ y0 y1, LeO (spec_IsName.j0 k y0 y1) (spec_IsName.j0 (k + 1) y0 y1)) ∧ (∀ y0 y1, LeO (spec_IsName.l0 k y0 y1) (spec_IsName.l0 (k + 1) y0 y1))
 | 0 => ⟨fun _ _ r h => by simp [spec_IsName.j0] at h, fun _ _ r h => by simp [spec_IsName.l0] at h⟩
 | k + 1 => by
  (obtain ⟨ih0, ih1⟩ := spec_IsName.mono_l k);(refine ⟨?_, ?_⟩)
  ·intro y0 y1
   unfold spec_IsName.j0
   repeat' first | with_reducible (first | exact ih0 _ _ | exact ih1 _ _ | exact LeO.refl _ | exact LeO.none _ | refine LeO.ite ?_ ?_ | refine LeO.bind ?_ (fun _ => ?_)) | exact ih0 _ _ | exact ih1 _ _ | exact LeO.none _ | refine LeO.ite ?_ ?_ | refine LeO.bind ?_ (fun _ => ?_)
  ·intro y0 y1
   unfold spec_IsName.l0
   repeat' first | with_reducible (first | exact ih0 _ _ | exact ih1 _ _ | exact LeO.refl _ | exact LeO.none _ | refine LeO.ite ?_ ?_ | refine LeO.bind ?_ (fun _ => ?_)) | exact ih0 _ _ | exact ih1 _ _ | exact LeO.none _ | refine LeO.ite ?_ ?_ | refine LeO.bind ?_ (fun _ => ?_)
theorem spec_IsName.mono : ∀ a0 k, LeO (spec_IsName.f k a0) (spec_IsName.f (k + 1) a0) := by
 intro a0 k;(obtain ⟨ih0, ih1⟩ := spec_IsName.mono_l k);(unfold spec_IsName.f)
 repeat' first | with_reducible (first | exact ih0 _ _ | exact ih1 _ _ | exact LeO.refl _ | exact LeO.none _ | refine LeO.ite ?_ ?_ | refine LeO.bind ?_ (fun _ => ?_)) | exact ih0 _ _ | exact ih1 _ _ | exact LeO.none _ | refine LeO.ite ?_ ?_ | refine LeO.bind ?_ (fun _ => ?_)
theorem spec_IsName.calls (k : Nat) (a0 : ByteArray) (r : Bool) (w : World) (h : spec_IsName.f k a0 = some r) :
  Calls Tryd.prog 114 #[.string a0] w fun e w' => e = .returned (.bool r) ∧ Drawn0 w w' := by
 (have H : (if a0.toList = ([] : List UInt8) then (spec_IsName.j0 k a0 true) else (if (a0.size : Int) > 12 then (spec_IsName.j0 k a0 true) else (if 0 < (a0.size : Int) then ((spec_l01Small.f (bt a0 0)).bind fun t101 => (spec_IsName.j0 k a0 (!t101))) else (none)))) = some r := h);clear h;(have HC2 := Aside0.mk H);clear H
 go_enter Tryd.func114, Tryd.ntmps114
 go_upto_region 1 with (fail)
 go_cut [16] (fun v16 wc => ∃ (kq : Nat) (x16_1 : Bool), v16 = .bool x16_1 ∧ Aside0 (spec_IsName.j0 kq a0 x16_1 = some r) ∧ Aside0 (kq ≤ k) ∧ Drawn0 w wc)
 case first =>
  (have H := HC2.out);clear HC2;(by_cases c3 : a0.toList = ([] : List UInt8))
  ·rw [if_pos c3] at H
   (have c3b0 : (a0.toList == ([] : List UInt8)) = true := beq_iff_eq.mpr c3);(have c3b1 : (a0.toList != ([] : List UInt8)) = false := bne_eq_false_iff_eq.mpr c3);clear c3;((first | rw [c3b0] | (simp only [i64_w, i32_w]; rw [c3b0]) | skip));(have H' := Aside0.mk H);clear H;(go_wp2)
   go_meet
   case rel => exact ⟨_, (true), zq35, H', ⟨zq33⟩, zq87⟩
  ·rw [if_neg c3] at H
   (have c3b0 : (a0.toList == ([] : List UInt8)) = false := beq_eq_false_iff_ne.mpr c3);(have c3b1 : (a0.toList != ([] : List UInt8)) = true := bne_iff_ne.mpr c3);((first | rw [c3b0] | (simp only [i64_w, i32_w]; rw [c3b0]) | skip));(by_cases c4 : (a0.size : Int) > 12)
   ·rw [if_pos c4] at H
    (have c4b0 : decide (12 < (a0.size : Int)) = true := decide_eq_true c4);(have c4b1 : decide (12 < a0.size) = true := decide_eq_true (by omega));clear c4;(have H' := Aside0.mk H);clear H;(go_wp2)
    go_meet
    case rel => exact ⟨_, (true), zq35, H', ⟨zq33⟩, zq87⟩
   ·rw [if_neg c4] at H
    (have c4b0 : decide (12 < (a0.size : Int)) = false := decide_eq_false c4);(have c4b1 : decide (12 < a0.size) = false := decide_eq_false (by omega));clear c4;(by_cases c5 : 0 < (a0.size : Int))
    ·rw [if_pos c5] at H
     (have c5b0 : decide (0 < (a0.size : Int)) = true := decide_eq_true c5);(have c5b1 : decide (0 < a0.size) = true := decide_eq_true (by omega));clear c5;(replace H := Option.bind_eq_some_iff.mp H);(obtain ⟨t101, A70, H⟩ := H);(replace H : (spec_IsName.j0 k a0 (!t101)) = some r := H);(have A7 := Aside0.mk A70);clear A70;(have H' := Aside0.mk H);clear H;(have p6 : 0 ≤ (0 : Int) := (by omega));(have q6 : 0 < a0.size := (by have : (0 : Int) < (a0.size : Int) := of_decide_eq_true zq26; omega));(have hx6 : ∀ h : 0 < a0.size, ((a0[0]'h).toNat : Int) = bt a0 0 := bt_at a0 0);clear p6;(have qi6 : (0 < (a0.size : Int)) = True := eq_true (of_decide_eq_true zq26));(replace q6 := eq_true q6);(go_wp2_with (first | (go_at_call 132; (with_reducible refine (spec_l01Small.calls (bt a0 0) t101 _ A7.out).mono ?_); rintro e w' ⟨rfl, ⟨nd, rfl⟩⟩)))
     go_meet
     case rel => exact ⟨_, (!t101), zq35, H', ⟨zq33⟩, zq87⟩
    ·rw [if_neg c5] at H
     exact absurd H (by simp)
 case rest =>
  clear HC2;(try clear c1);(try clear p2);(try clear c3);(try clear c3b0);(try clear c3b1);(try clear c4);(try clear c4b0);(try clear c4b1);(try clear c5);(try clear c5b0);(try clear c5b1);(try clear p6);(try clear q6);(try clear hx6);(try clear qi6);(try clear p6);(try clear q6);(obtain ⟨kq, x16_1, rfl, HA, HJ1, ⟨mc1, rfl⟩⟩ := hcut)
  cases kq with
  | zero => exact absurd HA.out (by simp [spec_IsName.j0])
  | succ kj1 =>
   (have H := HA.out);clear HA;(simp only [spec_IsName.j0] at H);(by_cases c8 : x16_1 = true)
   ·subst c8
    (have H1 : (some false) = some r := zq93);clear H;(have H := H1);clear H1;(obtain rfl := Option.some.inj H);(go_wp2);(go_ret);(exact ⟨zq35, zq87⟩)
   ·replace c8 := Bool.eq_false_iff.mpr c8
    subst c8;(have H1 : (spec_IsName.l0 kj1 a0 0) = some r := zq92);clear H;(have H := H1);clear H1;(have H' := Aside0.mk H);clear H;(go_wp2)
    go_loopg [3] kj1 (fun kq v3 w' => ∃ (x3_2 : Int), v3 = .int .i64 x3_2 ∧ Aside0 (spec_IsName.l0 kq a0 x3_2 = some r) ∧ Aside0 (kq ≤ kj1) ∧ Drawn0 w w')
    case atStart => exact ⟨(0), zq35, H', ⟨Nat.le_refl _⟩, zq87⟩
    case round =>
     clear H';(try clear c1);(try clear p2);(try clear c3);(try clear c3b0);(try clear c3b1);(try clear c4);(try clear c4b0);(try clear c4b1);(try clear c5);(try clear c5b0);(try clear c5b1);(try clear p6);(try clear q6);(try clear hx6);(try clear qi6);(try clear c8);(try clear p2);(try clear p6);(try clear q6);(obtain ⟨x3_2, rfl, HA, HK2, ⟨m2, rfl⟩⟩ := hrel)
     cases gk with
     | zero => exact absurd HA.out (by simp [spec_IsName.l0])
     | succ k2 =>
      (have H := HA.out);clear HA;(simp only [spec_IsName.l0] at H);(by_cases c9 : x3_2 < (a0.size : Int))
      ·rw [if_pos c9] at H
       (have c9b0 : decide (x3_2 < (a0.size : Int)) = true := decide_eq_true c9);clear c9;(by_cases c10 : 0 ≤ x3_2)
       ·rw [if_pos c10] at H
        (have c10b0 : decide (0 ≤ x3_2) = true := decide_eq_true c10);clear c10;(replace H := Option.bind_eq_some_iff.mp H);(obtain ⟨t102, A120, H⟩ := H);(replace H : (if t102 = true then (spec_IsName.l0 k2 a0 (wrap64 (x3_2 + 1))) else ((spec_l01Digit.f (bt a0 x3_2)).bind fun t103 => (if t103 = true then (spec_IsName.l0 k2 a0 (wrap64 (x3_2 + 1))) else (if (bt a0 x3_2) = 45 then (spec_IsName.l0 k2 a0 (wrap64 (x3_2 + 1))) else (some false))))) = some r := H);(have A12 := Aside0.mk A120);clear A120;(by_cases c13 : t102 = true)
        ·subst c13
         (have H1 : (spec_IsName.l0 k2 a0 (wrap64 (x3_2 + 1))) = some r := zq93);clear H;(have H := H1);clear H1;(have H' := Aside0.mk H);clear H;(have p11 : 0 ≤ (x3_2 : Int) := of_decide_eq_true zq26);(have q11 : x3_2 < (a0.size : Int) := of_decide_eq_true zq26);(have hx11 := bt_at a0 x3_2);(replace p11 := eq_true p11);(replace q11 := eq_true q11);(go_wp2_with (first | ((with_reducible refine gate_callee (f := 132) rfl ?_); refine goesL_ (some 26) rfl rfl Tryd.func132 (by kernel_rfl) rfl #[.int .u8 (bt a0 x3_2)] rfl zq1 ?_; (with_reducible refine (spec_l01Small.calls (bt a0 x3_2) true _ A12.out).mono ?_); rintro e w' ⟨rfl, ⟨nd, rfl⟩⟩; refine ⟨_, rfl, ?_⟩)));(go_roundg k2)
         case measure => have := HJ1.out; have := HK2.out; omega
         case rel => exact ⟨(wrap64 (x3_2 + 1)), zq35, H', ⟨zq37⟩, zq87⟩
        ·replace c13 := Bool.eq_false_iff.mpr c13
         subst c13;(have H1 : ((spec_l01Digit.f (bt a0 x3_2)).bind fun t103 => (if t103 = true then (spec_IsName.l0 k2 a0 (wrap64 (x3_2 + 1))) else (if (bt a0 x3_2) = 45 then (spec_IsName.l0 k2 a0 (wrap64 (x3_2 + 1))) else (some false)))) = some r := zq92);clear H;(have H := H1);clear H1;(replace H := Option.bind_eq_some_iff.mp H);(obtain ⟨t103, A150, H⟩ := H);(replace H : (if t103 = true then (spec_IsName.l0 k2 a0 (wrap64 (x3_2 + 1))) else (if (bt a0 x3_2) = 45 then (spec_IsName.l0 k2 a0 (wrap64 (x3_2 + 1))) else (some false))) = some r := H);(have A15 := Aside0.mk A150);clear A150;(by_cases c16 : t103 = true)
         ·subst c16
          (have H1 : (spec_IsName.l0 k2 a0 (wrap64 (x3_2 + 1))) = some r := zq93);clear H;(have H := H1);clear H1;(have H' := Aside0.mk H);clear H;(have p11 : 0 ≤ (x3_2 : Int) := of_decide_eq_true zq26);(have q11 : x3_2 < (a0.size : Int) := of_decide_eq_true zq26);(have hx11 := bt_at a0 x3_2);(replace p11 := eq_true p11);(replace q11 := eq_true q11);(go_wp2_with (first | ((with_reducible refine gate_callee (f := 132) rfl ?_); refine goesL_ (some 26) rfl rfl Tryd.func132 (by kernel_rfl) rfl #[.int .u8 (bt a0 x3_2)] rfl zq1 ?_; (with_reducible refine (spec_l01Small.calls (bt a0 x3_2) false _ A12.out).mono ?_); rintro e w' ⟨rfl, ⟨nd, rfl⟩⟩; refine ⟨_, rfl, ?_⟩; have p14 : 0 ≤ (x3_2 : Int) := of_decide_eq_true zq26; have q14 : x3_2 < (a0.size : Int) := of_decide_eq_true zq26; have hx14 := bt_at a0 x3_2; replace p14 := eq_true p14; replace q14 := eq_true q14) | (go_at_call 133; (with_reducible refine (spec_l01Digit.calls (bt a0 x3_2) true _ A15.out).mono ?_); rintro e w' ⟨rfl, ⟨nd, rfl⟩⟩)));(go_roundg k2)
          case measure => have := HJ1.out; have := HK2.out; omega
          case rel => exact ⟨(wrap64 (x3_2 + 1)), zq35, H', ⟨zq37⟩, zq87⟩
         ·replace c16 := Bool.eq_false_iff.mpr c16
          subst c16;(have H1 : (if (bt a0 x3_2) = 45 then (spec_IsName.l0 k2 a0 (wrap64 (x3_2 + 1))) else (some false)) = some r := zq92);clear H;(have H := H1);clear H1;(by_cases c18 : (bt a0 x3_2) = 45)
          ·rw [if_pos c18] at H
           (have c18b0 : ((bt a0 x3_2) == 45) = true := beq_iff_eq.mpr c18);(have c18b1 : ((bt a0 x3_2) != 45) = false := bne_eq_false_iff_eq.mpr c18);clear c18;(have H' := Aside0.mk H);clear H;(have p11 : 0 ≤ (x3_2 : Int) := of_decide_eq_true zq26);(have q11 : x3_2 < (a0.size : Int) := of_decide_eq_true zq26);(have hx11 := bt_at a0 x3_2);(replace p11 := eq_true p11);(replace q11 := eq_true q11);(go_wp2_with (first | ((with_reducible refine gate_callee (f := 132) rfl ?_); refine goesL_ (some 26) rfl rfl Tryd.func132 (by kernel_rfl) rfl #[.int .u8 (bt a0 x3_2)] rfl zq1 ?_; (with_reducible refine (spec_l01Small.calls (bt a0 x3_2) false _ A12.out).mono ?_); rintro e w' ⟨rfl, ⟨nd, rfl⟩⟩; refine ⟨_, rfl, ?_⟩; have p14 : 0 ≤ (x3_2 : Int) := of_decide_eq_true zq26; have q14 : x3_2 < (a0.size : Int) := of_decide_eq_true zq26; have hx14 := bt_at a0 x3_2; replace p14 := eq_true p14; replace q14 := eq_true q14) | (go_at_call 133; (with_reducible refine (spec_l01Digit.calls (bt a0 x3_2) false _ A15.out).mono ?_); rintro e w' ⟨rfl, ⟨nd, rfl⟩⟩; have p17 : 0 ≤ (x3_2 : Int) := of_decide_eq_true zq26; have q17 : x3_2 < (a0.size : Int) := of_decide_eq_true zq26; have hx17 := bt_at a0 x3_2; replace p17 := eq_true p17; replace q17 := eq_true q17)));(go_roundg k2)
           case measure => have := HJ1.out; have := HK2.out; omega
           case rel => exact ⟨(wrap64 (x3_2 + 1)), zq35, H', ⟨zq37⟩, zq87⟩
          ·rw [if_neg c18] at H
           (have c18b0 : ((bt a0 x3_2) == 45) = false := beq_eq_false_iff_ne.mpr c18);(have c18b1 : ((bt a0 x3_2) != 45) = true := bne_iff_ne.mpr c18);(obtain rfl := Option.some.inj H);(have p11 : 0 ≤ (x3_2 : Int) := of_decide_eq_true zq26);(have q11 : x3_2 < (a0.size : Int) := of_decide_eq_true zq26);(have hx11 := bt_at a0 x3_2);(replace p11 := eq_true p11);(replace q11 := eq_true q11);(go_wp2_with (first | ((with_reducible refine gate_callee (f := 132) rfl ?_); refine goesL_ (some 26) rfl rfl Tryd.func132 (by kernel_rfl) rfl #[.int .u8 (bt a0 x3_2)] rfl zq1 ?_; (with_reducible refine (spec_l01Small.calls (bt a0 x3_2) false _ A12.out).mono ?_); rintro e w' ⟨rfl, ⟨nd, rfl⟩⟩; refine ⟨_, rfl, ?_⟩; have p14 : 0 ≤ (x3_2 : Int) := of_decide_eq_true zq26; have q14 : x3_2 < (a0.size : Int) := of_decide_eq_true zq26; have hx14 := bt_at a0 x3_2; replace p14 := eq_true p14; replace q14 := eq_true q14) | (go_at_call 133; (with_reducible refine (spec_l01Digit.calls (bt a0 x3_2) false _ A15.out).mono ?_); rintro e w' ⟨rfl, ⟨nd, rfl⟩⟩; have p17 : 0 ≤ (x3_2 : Int) := of_decide_eq_true zq26; have q17 : x3_2 < (a0.size : Int) := of_decide_eq_true zq26; have hx17 := bt_at a0 x3_2; replace p17 := eq_true p17; replace q17 := eq_true q17)));(go_ret);(exact ⟨zq35, zq87⟩)
       ·rw [if_neg c10] at H
        exact absurd H (by simp)
      ·rw [if_neg c9] at H
       (have c9b0 : decide (x3_2 < (a0.size : Int)) = false := decide_eq_false c9);clear c9;(obtain rfl := Option.some.inj H);(go_wp2);(go_ret);(exact ⟨zq35, zq87⟩)

/-! ### spec_l14Names: function 95 -/
def spec_l14Names.l0 : Nat → List ByteArray → Int → Option (Bool)
 | 0, _, _ => none
 | k + 1, x0, x3 => if x3 < (x0.length : Int) then (if 0 ≤ x3 then ((spec_IsName.f k (rdOf ByteArray.empty x0 x3)).bind fun t105 => (if t105 = true then (if x3 > 0 then (if 0 ≤ (wrap64 (x3 - 1)) then (if (wrap64 (x3 - 1)) < (x0.length : Int) then (if ((Op.bytesLess ((rdOf ByteArray.empty x0 (wrap64 (x3 - 1))).toList) ((rdOf ByteArray.empty x0 x3).toList)) = true) then (spec_l14Names.l0 k x0 (wrap64 (x3 + 1))) else (some false)) else (none)) else (none)) else (spec_l14Names.l0 k x0 (wrap64 (x3 + 1)))) else (some false))) else (none)) else (some (decide ((x0.length : Int) ≤ 30)))
def spec_l14Names.f (k : Nat) (l0 : List ByteArray) : Option (Bool) := spec_l14Names.l0 k l0 0
theorem spec_l14Names.mono_l : ∀ k, (∀ y0 y1, LeO (spec_l14Names.l0 k y0 y1) (spec_l14Names.l0 (k + 1) y0 y1))
 | 0 => fun _ _ r h => by simp [spec_l14Names.l0] at h
 | k + 1 => by
  have ih0 := spec_l14Names.mono_l k
  ·intro y0 y1
   unfold spec_l14Names.l0
   repeat' first | with_reducible (first | exact ih0 _ _ | exact spec_IsName.mono _ _ | exact LeO.refl _ | exact LeO.none _ | refine LeO.ite ?_ ?_ | refine LeO.bind ?_ (fun _ => ?_)) | exact ih0 _ _ | exact spec_IsName.mono _ _ | exact LeO.none _ | refine LeO.ite ?_ ?_ | refine LeO.bind ?_ (fun _ => ?_)
theorem spec_l14Names.mono : ∀ a0 k, LeO (spec_l14Names.f k a0) (spec_l14Names.f (k + 1) a0) := by
 intro a0 k;(have ih0 := spec_l14Names.mono_l k);(unfold spec_l14Names.f)
 repeat' first | with_reducible (first | exact ih0 _ _ | exact spec_IsName.mono _ _ | exact LeO.refl _ | exact LeO.none _ | refine LeO.ite ?_ ?_ | refine LeO.bind ?_ (fun _ => ?_)) | exact ih0 _ _ | exact spec_IsName.mono _ _ | exact LeO.none _ | refine LeO.ite ?_ ?_ | refine LeO.bind ?_ (fun _ => ?_)
theorem spec_l14Names.calls (k : Nat) (A0 : Option Addr) (c0 : Nat) (l0 : List ByteArray) (r : Bool) (w : World) (hr0 : Kd.C Kd.string w A0 l0.length l0) (hc0 : l0.length ≤ c0) (h : spec_l14Names.f k l0 = some r) :
  Calls Tryd.prog 95 #[.slice A0 l0.length c0] w fun e w' => e = .returned (.bool r) ∧ Drawn0 w w' := by
 (have HR0 := Aside0.mk hr0);(have HC0 := Aside0.mk hc0);clear hr0 hc0;(have H : (spec_l14Names.l0 k l0 0) = some r := h);clear h;(have H' := Aside0.mk H);clear H
 go_enter Tryd.func95, Tryd.ntmps95
 (go_wp2);(repeat (go_quiet (fail); try go_wp2))
 go_loopg [3] k (fun kq v3 w' => ∃ (x3_1 : Int), v3 = .int .i64 x3_1 ∧ Aside0 (spec_l14Names.l0 kq l0 x3_1 = some r) ∧ Aside0 (kq ≤ k) ∧ Drawn0 w w')
 case atStart => exact ⟨(0), zq35, H', ⟨Nat.le_refl _⟩, zq87⟩
 case round =>
  clear H';(obtain ⟨x3_1, rfl, HA, HK1, ⟨m1, rfl⟩⟩ := hrel)
  cases gk with
  | zero => exact absurd HA.out (by simp [spec_l14Names.l0])
  | succ k1 =>
   (have H := HA.out);clear HA;(simp only [spec_l14Names.l0] at H);(by_cases c2 : x3_1 < (l0.length : Int))
   ·rw [if_pos c2] at H
    (have c2b0 : decide (x3_1 < (l0.length : Int)) = true := decide_eq_true c2);clear c2;(by_cases c3 : 0 ≤ x3_1)
    ·rw [if_pos c3] at H
     (have c3b0 : decide (0 ≤ x3_1) = true := decide_eq_true c3);clear c3;(replace H := Option.bind_eq_some_iff.mp H);(obtain ⟨t105, A40, H⟩ := H);(replace H : (if t105 = true then (if x3_1 > 0 then (if 0 ≤ (wrap64 (x3_1 - 1)) then (if (wrap64 (x3_1 - 1)) < (l0.length : Int) then (if ((Op.bytesLess ((rdOf ByteArray.empty l0 (wrap64 (x3_1 - 1))).toList) ((rdOf ByteArray.empty l0 x3_1).toList)) = true) then (spec_l14Names.l0 k1 l0 (wrap64 (x3_1 + 1))) else (some false)) else (none)) else (none)) else (spec_l14Names.l0 k1 l0 (wrap64 (x3_1 + 1)))) else (some false)) = some r := H);(have A4 := Aside0.mk A40);clear A40;(by_cases c5 : t105 = true)
     ·subst c5
      (have H1 : (if x3_1 > 0 then (if 0 ≤ (wrap64 (x3_1 - 1)) then (if (wrap64 (x3_1 - 1)) < (l0.length : Int) then (if ((Op.bytesLess ((rdOf ByteArray.empty l0 (wrap64 (x3_1 - 1))).toList) ((rdOf ByteArray.empty l0 x3_1).toList)) = true) then (spec_l14Names.l0 k1 l0 (wrap64 (x3_1 + 1))) else (some false)) else (none)) else (none)) else (spec_l14Names.l0 k1 l0 (wrap64 (x3_1 + 1)))) = some r := zq93);clear H;(have H := H1);clear H1;(by_cases c6 : x3_1 > 0)
      ·rw [if_pos c6] at H
       (have c6b0 : decide (0 < x3_1) = true := decide_eq_true c6);clear c6;(obtain ⟨ji7, hji7⟩ : ∃ j_ : Int, (wrap64 (x3_1 - 1)) = j_ := ⟨_, rfl⟩);(replace H : (if 0 ≤ (ji7) then (if (ji7) < (l0.length : Int) then (if ((Op.bytesLess ((rdOf ByteArray.empty l0 (ji7)).toList) ((rdOf ByteArray.empty l0 x3_1).toList)) = true) then (spec_l14Names.l0 k1 l0 (wrap64 (x3_1 + 1))) else (some false)) else (none)) else (none)) = some r := by first | (rw [hji7] at H; exact H) | (simp only [hji7] at H ⊢; exact H));((try rw [hji7] at A4));(have hji7w : (IntKind.i64.wrap (x3_1 - 1)) = ji7 := (i64_w _).trans hji7);(by_cases c8 : 0 ≤ (ji7))
       ·rw [if_pos c8] at H
        (have c8b0 : decide (0 ≤ (ji7)) = true := decide_eq_true c8);clear c8;(by_cases c9 : (ji7) < (l0.length : Int))
        ·rw [if_pos c9] at H
         (have c9b0 : decide ((ji7) < (l0.length : Int)) = true := decide_eq_true c9);clear c9;(by_cases c10 : ((Op.bytesLess ((rdOf ByteArray.empty l0 (ji7)).toList) ((rdOf ByteArray.empty l0 x3_1).toList)) = true))
         ·rw [if_pos c10] at H
          (have c10b0 : (Op.bytesLess ((rdOf ByteArray.empty l0 (ji7)).toList) ((rdOf ByteArray.empty l0 x3_1).toList)) = true := c10);clear c10;(have H' := Aside0.mk H);clear H;(have p104 : 0 ≤ (x3_1 : Int) := of_decide_eq_true zq26);(have q104 : x3_1 < (l0.length : Int) := of_decide_eq_true zq26);(obtain ⟨ad104, e104, hx104_0⟩ := Kd.at_string HR0.out x3_1 p104 q104)
          cases e104
          (replace p104 := eq_true p104);(replace q104 := eq_true q104);(go_wp2_with (first | (go_at_call 114; (with_reducible refine (spec_IsName.calls k1 (rdOf ByteArray.empty l0 x3_1) true _ A4.out).mono ?_); rintro e w' ⟨rfl, ⟨nd, rfl⟩⟩; (try first | exact ⟨rfl, _, World.drewN_drewN _ _ _⟩ | exact ⟨rfl, _, Eq.trans (World.drewN_drewN _ _ _) (congrArg (World.drewN _) (Nat.add_assoc _ _ _))⟩); have p106 : 0 ≤ ((ji7) : Int) := of_decide_eq_true zq26; have q106 : (ji7) < (l0.length : Int) := of_decide_eq_true zq26; obtain ⟨ad106, e106, hx106_0⟩ := Kd.at_string HR0.out (ji7) p106 q106; obtain rfl : ad104 = ad106 := (by injection e106); replace p106 := eq_true p106; replace q106 := eq_true q106; have p107 : 0 ≤ (x3_1 : Int) := of_decide_eq_true zq26; have q107 : x3_1 < (l0.length : Int) := of_decide_eq_true zq26; obtain ⟨ad107, e107, hx107_0⟩ := Kd.at_string HR0.out x3_1 p107 q107; obtain rfl : ad104 = ad107 := (by injection e107); replace p107 := eq_true p107; replace q107 := eq_true q107)));(repeat (go_quiet (first | (go_at_call 114; (with_reducible refine (spec_IsName.calls k1 (rdOf ByteArray.empty l0 x3_1) true _ A4.out).mono ?_); rintro e w' ⟨rfl, ⟨nd, rfl⟩⟩; (try first | exact ⟨rfl, _, World.drewN_drewN _ _ _⟩ | exact ⟨rfl, _, Eq.trans (World.drewN_drewN _ _ _) (congrArg (World.drewN _) (Nat.add_assoc _ _ _))⟩); have p106 : 0 ≤ ((ji7) : Int) := of_decide_eq_true zq26; have q106 : (ji7) < (l0.length : Int) := of_decide_eq_true zq26; obtain ⟨ad106, e106, hx106_0⟩ := Kd.at_string HR0.out (ji7) p106 q106; obtain rfl : ad104 = ad106 := (by injection e106); replace p106 := eq_true p106; replace q106 := eq_true q106; have p107 : 0 ≤ (x3_1 : Int) := of_decide_eq_true zq26; have q107 : x3_1 < (l0.length : Int) := of_decide_eq_true zq26; obtain ⟨ad107, e107, hx107_0⟩ := Kd.at_string HR0.out x3_1 p107 q107; obtain rfl : ad104 = ad107 := (by injection e107); replace p107 := eq_true p107; replace q107 := eq_true q107)); try go_wp2_with (first | (go_at_call 114; (with_reducible refine (spec_IsName.calls k1 (rdOf ByteArray.empty l0 x3_1) true _ A4.out).mono ?_); rintro e w' ⟨rfl, ⟨nd, rfl⟩⟩; (try first | exact ⟨rfl, _, World.drewN_drewN _ _ _⟩ | exact ⟨rfl, _, Eq.trans (World.drewN_drewN _ _ _) (congrArg (World.drewN _) (Nat.add_assoc _ _ _))⟩); have p106 : 0 ≤ ((ji7) : Int) := of_decide_eq_true zq26; have q106 : (ji7) < (l0.length : Int) := of_decide_eq_true zq26; obtain ⟨ad106, e106, hx106_0⟩ := Kd.at_string HR0.out (ji7) p106 q106; obtain rfl : ad104 = ad106 := (by injection e106); replace p106 := eq_true p106; replace q106 := eq_true q106; have p107 : 0 ≤ (x3_1 : Int) := of_decide_eq_true zq26; have q107 : x3_1 < (l0.length : Int) := of_decide_eq_true zq26; obtain ⟨ad107, e107, hx107_0⟩ := Kd.at_string HR0.out x3_1 p107 q107; obtain rfl : ad104 = ad107 := (by injection e107); replace p107 := eq_true p107; replace q107 := eq_true q107))));(go_roundg k1)
          case measure => have := HK1.out; omega
          case rel => exact ⟨(wrap64 (x3_1 + 1)), zq35, H', ⟨zq41⟩, zq87⟩
         ·rw [if_neg c10] at H
          (have c10b0 : (Op.bytesLess ((rdOf ByteArray.empty l0 (ji7)).toList) ((rdOf ByteArray.empty l0 x3_1).toList)) = false := by simpa using c10);clear c10;(obtain rfl := Option.some.inj H);(have p104 : 0 ≤ (x3_1 : Int) := of_decide_eq_true zq26);(have q104 : x3_1 < (l0.length : Int) := of_decide_eq_true zq26);(obtain ⟨ad104, e104, hx104_0⟩ := Kd.at_string HR0.out x3_1 p104 q104)
          cases e104
          (replace p104 := eq_true p104);(replace q104 := eq_true q104);(go_wp2_with (first | (go_at_call 114; (with_reducible refine (spec_IsName.calls k1 (rdOf ByteArray.empty l0 x3_1) true _ A4.out).mono ?_); rintro e w' ⟨rfl, ⟨nd, rfl⟩⟩; (try first | exact ⟨rfl, _, World.drewN_drewN _ _ _⟩ | exact ⟨rfl, _, Eq.trans (World.drewN_drewN _ _ _) (congrArg (World.drewN _) (Nat.add_assoc _ _ _))⟩); have p106 : 0 ≤ ((ji7) : Int) := of_decide_eq_true zq26; have q106 : (ji7) < (l0.length : Int) := of_decide_eq_true zq26; obtain ⟨ad106, e106, hx106_0⟩ := Kd.at_string HR0.out (ji7) p106 q106; obtain rfl : ad104 = ad106 := (by injection e106); replace p106 := eq_true p106; replace q106 := eq_true q106; have p107 : 0 ≤ (x3_1 : Int) := of_decide_eq_true zq26; have q107 : x3_1 < (l0.length : Int) := of_decide_eq_true zq26; obtain ⟨ad107, e107, hx107_0⟩ := Kd.at_string HR0.out x3_1 p107 q107; obtain rfl : ad104 = ad107 := (by injection e107); replace p107 := eq_true p107; replace q107 := eq_true q107)));(repeat (go_quiet (first | (go_at_call 114; (with_reducible refine (spec_IsName.calls k1 (rdOf ByteArray.empty l0 x3_1) true _ A4.out).mono ?_); rintro e w' ⟨rfl, ⟨nd, rfl⟩⟩; (try first | exact ⟨rfl, _, World.drewN_drewN _ _ _⟩ | exact ⟨rfl, _, Eq.trans (World.drewN_drewN _ _ _) (congrArg (World.drewN _) (Nat.add_assoc _ _ _))⟩); have p106 : 0 ≤ ((ji7) : Int) := of_decide_eq_true zq26; have q106 : (ji7) < (l0.length : Int) := of_decide_eq_true zq26; obtain ⟨ad106, e106, hx106_0⟩ := Kd.at_string HR0.out (ji7) p106 q106; obtain rfl : ad104 = ad106 := (by injection e106); replace p106 := eq_true p106; replace q106 := eq_true q106; have p107 : 0 ≤ (x3_1 : Int) := of_decide_eq_true zq26; have q107 : x3_1 < (l0.length : Int) := of_decide_eq_true zq26; obtain ⟨ad107, e107, hx107_0⟩ := Kd.at_string HR0.out x3_1 p107 q107; obtain rfl : ad104 = ad107 := (by injection e107); replace p107 := eq_true p107; replace q107 := eq_true q107)); try go_wp2_with (first | (go_at_call 114; (with_reducible refine (spec_IsName.calls k1 (rdOf ByteArray.empty l0 x3_1) true _ A4.out).mono ?_); rintro e w' ⟨rfl, ⟨nd, rfl⟩⟩; (try first | exact ⟨rfl, _, World.drewN_drewN _ _ _⟩ | exact ⟨rfl, _, Eq.trans (World.drewN_drewN _ _ _) (congrArg (World.drewN _) (Nat.add_assoc _ _ _))⟩); have p106 : 0 ≤ ((ji7) : Int) := of_decide_eq_true zq26; have q106 : (ji7) < (l0.length : Int) := of_decide_eq_true zq26; obtain ⟨ad106, e106, hx106_0⟩ := Kd.at_string HR0.out (ji7) p106 q106; obtain rfl : ad104 = ad106 := (by injection e106); replace p106 := eq_true p106; replace q106 := eq_true q106; have p107 : 0 ≤ (x3_1 : Int) := of_decide_eq_true zq26; have q107 : x3_1 < (l0.length : Int) := of_decide_eq_true zq26; obtain ⟨ad107, e107, hx107_0⟩ := Kd.at_string HR0.out x3_1 p107 q107; obtain rfl : ad104 = ad107 := (by injection e107); replace p107 := eq_true p107; replace q107 := eq_true q107))));(go_ret);(exact ⟨by first | rfl | (simp; done) | (simp only [← hji7] <;> (first | rfl | simp)) | (simp [*]; done), zq87⟩)
        ·rw [if_neg c9] at H
         exact absurd H (by simp)
       ·rw [if_neg c8] at H
        exact absurd H (by simp)
      ·rw [if_neg c6] at H
       (have c6b0 : decide (0 < x3_1) = false := decide_eq_false c6);clear c6;(have H' := Aside0.mk H);clear H;(have p104 : 0 ≤ (x3_1 : Int) := of_decide_eq_true zq26);(have q104 : x3_1 < (l0.length : Int) := of_decide_eq_true zq26);(obtain ⟨ad104, e104, hx104_0⟩ := Kd.at_string HR0.out x3_1 p104 q104)
       cases e104
       (replace p104 := eq_true p104);(replace q104 := eq_true q104);(go_wp2_with (first | (go_at_call 114; (with_reducible refine (spec_IsName.calls k1 (rdOf ByteArray.empty l0 x3_1) true _ A4.out).mono ?_); rintro e w' ⟨rfl, ⟨nd, rfl⟩⟩; (try first | exact ⟨rfl, _, World.drewN_drewN _ _ _⟩ | exact ⟨rfl, _, Eq.trans (World.drewN_drewN _ _ _) (congrArg (World.drewN _) (Nat.add_assoc _ _ _))⟩))));(repeat (go_quiet (first | (go_at_call 114; (with_reducible refine (spec_IsName.calls k1 (rdOf ByteArray.empty l0 x3_1) true _ A4.out).mono ?_); rintro e w' ⟨rfl, ⟨nd, rfl⟩⟩; (try first | exact ⟨rfl, _, World.drewN_drewN _ _ _⟩ | exact ⟨rfl, _, Eq.trans (World.drewN_drewN _ _ _) (congrArg (World.drewN _) (Nat.add_assoc _ _ _))⟩))); try go_wp2_with (first | (go_at_call 114; (with_reducible refine (spec_IsName.calls k1 (rdOf ByteArray.empty l0 x3_1) true _ A4.out).mono ?_); rintro e w' ⟨rfl, ⟨nd, rfl⟩⟩; (try first | exact ⟨rfl, _, World.drewN_drewN _ _ _⟩ | exact ⟨rfl, _, Eq.trans (World.drewN_drewN _ _ _) (congrArg (World.drewN _) (Nat.add_assoc _ _ _))⟩)))));(go_roundg k1)
       case measure => have := HK1.out; omega
       case rel => exact ⟨(wrap64 (x3_1 + 1)), zq35, H', ⟨zq41⟩, zq87⟩
     ·replace c5 := Bool.eq_false_iff.mpr c5
      subst c5;(have H1 : (some false) = some r := zq92);clear H;(have H := H1);clear H1;(obtain rfl := Option.some.inj H);(have p104 : 0 ≤ (x3_1 : Int) := of_decide_eq_true zq26);(have q104 : x3_1 < (l0.length : Int) := of_decide_eq_true zq26);(obtain ⟨ad104, e104, hx104_0⟩ := Kd.at_string HR0.out x3_1 p104 q104)
      cases e104
      (replace p104 := eq_true p104);(replace q104 := eq_true q104);(go_wp2_with (first | (go_at_call 114; (with_reducible refine (spec_IsName.calls k1 (rdOf ByteArray.empty l0 x3_1) false _ A4.out).mono ?_); rintro e w' ⟨rfl, ⟨nd, rfl⟩⟩; (try first | exact ⟨rfl, _, World.drewN_drewN _ _ _⟩ | exact ⟨rfl, _, Eq.trans (World.drewN_drewN _ _ _) (congrArg (World.drewN _) (Nat.add_assoc _ _ _))⟩))));(repeat (go_quiet (first | (go_at_call 114; (with_reducible refine (spec_IsName.calls k1 (rdOf ByteArray.empty l0 x3_1) false _ A4.out).mono ?_); rintro e w' ⟨rfl, ⟨nd, rfl⟩⟩; (try first | exact ⟨rfl, _, World.drewN_drewN _ _ _⟩ | exact ⟨rfl, _, Eq.trans (World.drewN_drewN _ _ _) (congrArg (World.drewN _) (Nat.add_assoc _ _ _))⟩))); try go_wp2_with (first | (go_at_call 114; (with_reducible refine (spec_IsName.calls k1 (rdOf ByteArray.empty l0 x3_1) false _ A4.out).mono ?_); rintro e w' ⟨rfl, ⟨nd, rfl⟩⟩; (try first | exact ⟨rfl, _, World.drewN_drewN _ _ _⟩ | exact ⟨rfl, _, Eq.trans (World.drewN_drewN _ _ _) (congrArg (World.drewN _) (Nat.add_assoc _ _ _))⟩)))));(go_ret);(exact ⟨zq35, zq87⟩)
    ·rw [if_neg c3] at H
     exact absurd H (by simp)
   ·rw [if_neg c2] at H
    (have c2b0 : decide (x3_1 < (l0.length : Int)) = false := decide_eq_false c2);clear c2;(obtain rfl := Option.some.inj H);(go_wp2);(repeat (go_quiet (fail); try go_wp2));(go_ret);(exact ⟨zq35, zq87⟩)

/-! ### spec_l00In: function 74 -/
def spec_l00In.f (a0 : Int) (a1 : Int) (a2 : Int) : Option (Bool) := if a0 ≥ a1 then (some (decide (a0 ≤ a2))) else (some false)
theorem spec_l00In.calls (a0 : Int) (a1 : Int) (a2 : Int) (r : Bool) (w : World) (h : spec_l00In.f a0 a1 a2 = some r) :
  Calls Tryd.prog 74 #[.int .i64 a0, .int .i64 a1, .int .i64 a2] w fun e w' => e = .returned (.bool r) ∧ Drawn0 w w' := by
 (have H : (if a0 ≥ a1 then (some (decide (a0 ≤ a2))) else (some false)) = some r := h);clear h;(by_cases c4 : a0 ≥ a1)
 ·rw [if_pos c4] at H
  (have c4b0 : decide (a1 ≤ a0) = true := decide_eq_true c4);clear c4;(obtain rfl := Option.some.inj H)
  go_enter Tryd.func74, Tryd.ntmps74
  (go_wp2);(go_ret);(exact ⟨zq35, zq87⟩)
 ·rw [if_neg c4] at H
  (have c4b0 : decide (a1 ≤ a0) = false := decide_eq_false c4);clear c4;(obtain rfl := Option.some.inj H)
  go_enter Tryd.func74, Tryd.ntmps74
  (go_wp2);(go_ret);(exact ⟨zq35, zq87⟩)

/-! ### spec_l14Year: function 100 -/
def spec_l14Year.f (a0 : Int) : Option (Bool) := (spec_l00In.f a0 1 3000).bind fun t108 => (some t108)
theorem spec_l14Year.calls (a0 : Int) (r : Bool) (w : World) (h : spec_l14Year.f a0 = some r) :
  Calls Tryd.prog 100 #[.int .i64 a0] w fun e w' => e = .returned (.bool r) ∧ Drawn0 w w' := by
 (have H : ((spec_l00In.f a0 1 3000).bind fun t108 => (some t108)) = some r := h);clear h;(replace H := Option.bind_eq_some_iff.mp H);(obtain ⟨t108, A20, H⟩ := H);(replace H : (some t108) = some r := H);(have A2 := Aside0.mk A20);clear A20;(obtain rfl := Option.some.inj H)
 go_enter Tryd.func100, Tryd.ntmps100
 (go_wp2_with (first | ((with_reducible refine gate_callee (f := 74) rfl ?_); refine goesL_ (some 4) rfl rfl Tryd.func74 (by kernel_rfl) rfl #[.int .i64 a0, .int .i64 1, .int .i64 3000] rfl zq1 ?_; (with_reducible refine (spec_l00In.calls a0 1 3000 t108 _ A2.out).mono ?_); rintro e w' ⟨rfl, ⟨nd, rfl⟩⟩; refine ⟨_, rfl, ?_⟩)));(go_ret);(exact ⟨zq35, zq87⟩)

end Go.Proofs.YtalmeecdjhelkaaDoor.PFnEditions
