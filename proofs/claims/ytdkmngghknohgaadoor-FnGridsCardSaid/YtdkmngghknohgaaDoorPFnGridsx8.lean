-- Made by a program of this session (gprint.py) out of the kit's print of the translation and texts of my own. SLIM
import Derived.Test.YtdkmngghknohgaaDoorPFnGridsx0
import Derived.Test.YtdkmngghknohgaaDoorPFnGridsx7
namespace Go.Proofs.YtdkmngghknohgaaDoor.PFnGrids
open Go.RowKit Go.Proofs.YtdkmngghknohgaaDoorW.PrintWords Go.Proofs.YtdkmngghknohgaaDoorW.PrintLast Go.Proofs.YtdkmngghknohgaaDoorW.PrintMore
set_option maxHeartbeats 64000000
set_option maxRecDepth 100000
attribute [local go_sem] max2_int min2_int max_two min_two max_three min_three max_four min_four   -- for this text's walks alone
set_option linter.unusedVariables false
set_option linter.unusedSimpArgs false

/-! ### spec_l12Meet: function 59 -/
mutual
def spec_l12Meet.l0 : Nat → List ByteArray → Int → Int → Int → Option (Bool)
 | 0, _, _, _, _ => none
 | k + 1, x0, x1, x2, x7 => if x7 < (x0.length : Int) then (spec_l12Meet.l1 k x0 x1 x2 x7 0) else (some false)
def spec_l12Meet.l1 : Nat → List ByteArray → Int → Int → Int → Int → Option (Bool)
 | 0, _, _, _, _, _ => none
 | k + 1, x0, x1, x2, x7, x8 => if 0 ≤ x7 then (if x7 < (x0.length : Int) then (if x8 < ((rdOf ByteArray.empty x0 x7).size : Int) then (if 0 ≤ x8 then ((spec_l12East.f x0 x7 x8).bind fun t307 => (if (bt (rdOf ByteArray.empty x0 x7) x8) = x1 then (if t307 = x2 then (spec_l12Meet.j2 k x0 x1 x2 x7 x8 (bt (rdOf ByteArray.empty x0 x7) x8) true) else (if (bt (rdOf ByteArray.empty x0 x7) x8) = x2 then (spec_l12Meet.j2 k x0 x1 x2 x7 x8 (bt (rdOf ByteArray.empty x0 x7) x8) (t307 == x1)) else (spec_l12Meet.j2 k x0 x1 x2 x7 x8 (bt (rdOf ByteArray.empty x0 x7) x8) false))) else (if (bt (rdOf ByteArray.empty x0 x7) x8) = x2 then (spec_l12Meet.j2 k x0 x1 x2 x7 x8 (bt (rdOf ByteArray.empty x0 x7) x8) (t307 == x1)) else (spec_l12Meet.j2 k x0 x1 x2 x7 x8 (bt (rdOf ByteArray.empty x0 x7) x8) false)))) else (none)) else (spec_l12Meet.l0 k x0 x1 x2 (wrap64 (x7 + 1)))) else (none)) else (none)
def spec_l12Meet.j2 : Nat → List ByteArray → Int → Int → Int → Int → Int → Bool → Option (Bool)
 | 0, _, _, _, _, _, _, _ => none
 | k + 1, x0, x1, x2, x7, x8, x9, x53 => if x53 = true then (some true) else (if (wrap64 (x7 + 1)) < (x0.length : Int) then (if 0 ≤ (wrap64 (x7 + 1)) then (if 0 ≤ x8 then (if x8 < ((rdOf ByteArray.empty x0 (wrap64 (x7 + 1))).size : Int) then (if x9 = x1 then (if (bt (rdOf ByteArray.empty x0 (wrap64 (x7 + 1))) x8) = x2 then (some true) else (if x9 = x2 then (if (bt (rdOf ByteArray.empty x0 (wrap64 (x7 + 1))) x8) = x1 then (some true) else (spec_l12Meet.l1 k x0 x1 x2 x7 (wrap64 (x8 + 1)))) else (spec_l12Meet.l1 k x0 x1 x2 x7 (wrap64 (x8 + 1))))) else (if x9 = x2 then (if (bt (rdOf ByteArray.empty x0 (wrap64 (x7 + 1))) x8) = x1 then (some true) else (spec_l12Meet.l1 k x0 x1 x2 x7 (wrap64 (x8 + 1)))) else (spec_l12Meet.l1 k x0 x1 x2 x7 (wrap64 (x8 + 1))))) else (none)) else (none)) else (none)) else (spec_l12Meet.l1 k x0 x1 x2 x7 (wrap64 (x8 + 1))))
end
def spec_l12Meet.f (k : Nat) (l0 : List ByteArray) (a1 : Int) (a2 : Int) : Option (Bool) := spec_l12Meet.l0 k l0 a1 a2 0
theorem spec_l12Meet.mono_l : ∀ k, (∀ y0 y1 y2 y3, LeO (spec_l12Meet.l0 k y0 y1 y2 y3) (spec_l12Meet.l0 (k + 1) y0 y1 y2 y3)) ∧ (∀ y0 y1 y2 y3 y4, LeO (spec_l12Meet.l1 k y0 y1 y2 y3 y4) (spec_l12Meet.l1 (k + 1) y0 y1 y2 y3 y4)) ∧ (∀ y0 y1 y2 y3 y4 y5 y6, LeO (spec_l12Meet.j2 k y0 y1 y2 y3 y4 y5 y6) (spec_l12Meet.j2 (k + 1) y0 y1 y2 y3 y4 y5 y6))
 | 0 => ⟨fun _ _ _ _ r h => by simp [spec_l12Meet.l0] at h, fun _ _ _ _ _ r h => by simp [spec_l12Meet.l1] at h, fun _ _ _ _ _ _ _ r h => by simp [spec_l12Meet.j2] at h⟩
 | k + 1 => by
  (obtain ⟨ih0, ih1, ih2⟩ := spec_l12Meet.mono_l k);(refine ⟨?_, ?_, ?_⟩)
  ·intro y0 y1 y2 y3
   unfold spec_l12Meet.l0
   repeat' first | with_reducible (first | exact ih0 _ _ _ _ | exact ih1 _ _ _ _ _ | exact ih2 _ _ _ _ _ _ _ | exact LeO.refl _ | exact LeO.none _ | refine LeO.ite ?_ ?_ | refine LeO.bind ?_ (fun _ => ?_)) | exact ih0 _ _ _ _ | exact ih1 _ _ _ _ _ | exact ih2 _ _ _ _ _ _ _ | exact LeO.none _ | refine LeO.ite ?_ ?_ | refine LeO.bind ?_ (fun _ => ?_)
  ·intro y0 y1 y2 y3 y4
   unfold spec_l12Meet.l1
   repeat' first | with_reducible (first | exact ih0 _ _ _ _ | exact ih1 _ _ _ _ _ | exact ih2 _ _ _ _ _ _ _ | exact LeO.refl _ | exact LeO.none _ | refine LeO.ite ?_ ?_ | refine LeO.bind ?_ (fun _ => ?_)) | exact ih0 _ _ _ _ | exact ih1 _ _ _ _ _ | exact ih2 _ _ _ _ _ _ _ | exact LeO.none _ | refine LeO.ite ?_ ?_ | refine LeO.bind ?_ (fun _ => ?_)
  ·intro y0 y1 y2 y3 y4 y5 y6
   unfold spec_l12Meet.j2
   repeat' first | with_reducible (first | exact ih0 _ _ _ _ | exact ih1 _ _ _ _ _ | exact ih2 _ _ _ _ _ _ _ | exact LeO.refl _ | exact LeO.none _ | refine LeO.ite ?_ ?_ | refine LeO.bind ?_ (fun _ => ?_)) | exact ih0 _ _ _ _ | exact ih1 _ _ _ _ _ | exact ih2 _ _ _ _ _ _ _ | exact LeO.none _ | refine LeO.ite ?_ ?_ | refine LeO.bind ?_ (fun _ => ?_)
theorem spec_l12Meet.mono : ∀ a0 a1 a2 k, LeO (spec_l12Meet.f k a0 a1 a2) (spec_l12Meet.f (k + 1) a0 a1 a2) := by
 intro a0 a1 a2 k;(obtain ⟨ih0, ih1, ih2⟩ := spec_l12Meet.mono_l k);(unfold spec_l12Meet.f)
 repeat' first | with_reducible (first | exact ih0 _ _ _ _ | exact ih1 _ _ _ _ _ | exact ih2 _ _ _ _ _ _ _ | exact LeO.refl _ | exact LeO.none _ | refine LeO.ite ?_ ?_ | refine LeO.bind ?_ (fun _ => ?_)) | exact ih0 _ _ _ _ | exact ih1 _ _ _ _ _ | exact ih2 _ _ _ _ _ _ _ | exact LeO.none _ | refine LeO.ite ?_ ?_ | refine LeO.bind ?_ (fun _ => ?_)
theorem spec_l12Meet.calls (k : Nat) (A0 : Option Addr) (c0 : Nat) (l0 : List ByteArray) (a1 : Int) (a2 : Int) (r : Bool) (w : World) (hr0 : Kd.C Kd.string w A0 l0.length l0) (hc0 : l0.length ≤ c0) (h : spec_l12Meet.f k l0 a1 a2 = some r) :
  Calls Tryd.prog 59 #[.slice A0 l0.length c0, .int .u8 a1, .int .u8 a2] w fun e w' => e = .returned (.bool r) ∧ Drawn0 w w' := by
 (have HR0 := Aside0.mk hr0);(have HC0 := Aside0.mk hc0);clear hr0 hc0;(have H : (spec_l12Meet.l0 k l0 a1 a2 0) = some r := h);clear h;(have H' := Aside0.mk H);clear H
 go_enter Tryd.func59, Tryd.ntmps59
 go_wp2
 go_loopg [7] k (fun kq v7 w' => ∃ (x7_1 : Int), v7 = .int .i64 x7_1 ∧ Aside0 (spec_l12Meet.l0 kq l0 a1 a2 x7_1 = some r) ∧ Aside0 (kq ≤ k) ∧ Drawn0 w w')
 case atStart => exact ⟨(0), zq26, H', ⟨Nat.le_refl _⟩, zq54⟩
 case round =>
  clear H';(try clear p2);(obtain ⟨x7_1, rfl, HA, HK1, ⟨m1, rfl⟩⟩ := hrel)
  cases gk with
  | zero => exact absurd HA.out (by simp [spec_l12Meet.l0])
  | succ k1 =>
   (have H := HA.out);clear HA;(simp only [spec_l12Meet.l0] at H);(by_cases c4 : x7_1 < (l0.length : Int))
   ·rw [if_pos c4] at H
    (have c4b0 : decide (x7_1 < (l0.length : Int)) = true := decide_eq_true c4);clear c4;(have H' := Aside0.mk H);clear H;(go_wp2)
    go_loopg [8] k1 (fun kq v8 w' => ∃ (x8_2 : Int), v8 = .int .i64 x8_2 ∧ Aside0 (spec_l12Meet.l1 kq l0 a1 a2 x7_1 x8_2 = some r) ∧ Aside0 (kq ≤ k1) ∧ Drawn0 w w')
    case atStart => exact ⟨(0), zq26, H', ⟨Nat.le_refl _⟩, zq54⟩
    case round =>
     clear H';(try clear p2);(try clear c4);(try clear c4b0);(try clear p2);(obtain ⟨x8_2, rfl, HA, HK2, ⟨m2, rfl⟩⟩ := hrel)
     cases gk with
     | zero => exact absurd HA.out (by simp [spec_l12Meet.l1])
     | succ k2 =>
      (have H := HA.out);clear HA;(simp only [spec_l12Meet.l1] at H);(by_cases c5 : 0 ≤ x7_1)
      ·rw [if_pos c5] at H
       (have c5b0 : decide (0 ≤ x7_1) = true := decide_eq_true c5);clear c5;(by_cases c6 : x7_1 < (l0.length : Int))
       ·rw [if_pos c6] at H
        (have c6b0 : decide (x7_1 < (l0.length : Int)) = true := decide_eq_true c6);clear c6;(by_cases c7 : x8_2 < ((rdOf ByteArray.empty l0 x7_1).size : Int))
        ·rw [if_pos c7] at H
         (have c7b0 : decide (x8_2 < ((rdOf ByteArray.empty l0 x7_1).size : Int)) = true := decide_eq_true c7);clear c7;(by_cases c8 : 0 ≤ x8_2)
         ·rw [if_pos c8] at H
          (have c8b0 : decide (0 ≤ x8_2) = true := decide_eq_true c8);clear c8;(replace H := Option.bind_eq_some_iff.mp H);(obtain ⟨t307, A100, H⟩ := H);(replace H : (if (bt (rdOf ByteArray.empty l0 x7_1) x8_2) = a1 then (if t307 = a2 then (spec_l12Meet.j2 k2 l0 a1 a2 x7_1 x8_2 (bt (rdOf ByteArray.empty l0 x7_1) x8_2) true) else (if (bt (rdOf ByteArray.empty l0 x7_1) x8_2) = a2 then (spec_l12Meet.j2 k2 l0 a1 a2 x7_1 x8_2 (bt (rdOf ByteArray.empty l0 x7_1) x8_2) (t307 == a1)) else (spec_l12Meet.j2 k2 l0 a1 a2 x7_1 x8_2 (bt (rdOf ByteArray.empty l0 x7_1) x8_2) false))) else (if (bt (rdOf ByteArray.empty l0 x7_1) x8_2) = a2 then (spec_l12Meet.j2 k2 l0 a1 a2 x7_1 x8_2 (bt (rdOf ByteArray.empty l0 x7_1) x8_2) (t307 == a1)) else (spec_l12Meet.j2 k2 l0 a1 a2 x7_1 x8_2 (bt (rdOf ByteArray.empty l0 x7_1) x8_2) false))) = some r := H);(have A10 := Aside0.mk A100);clear A100;(have HC11 := Aside0.mk H);clear H;(have p305 : 0 ≤ (x7_1 : Int) := of_decide_eq_true zq21);(have q305 : x7_1 < (l0.length : Int) := of_decide_eq_true zq21);(obtain ⟨ad305, e305, hx305_0⟩ := Kd.at_string HR0.out x7_1 p305 q305)
          cases e305
          (replace p305 := eq_true p305);(replace q305 := eq_true q305);(have p306 : 0 ≤ (x7_1 : Int) := of_decide_eq_true zq21);(have q306 : x7_1 < (l0.length : Int) := of_decide_eq_true zq21);(obtain ⟨ad306, e306, hx306_0⟩ := Kd.at_string HR0.out x7_1 p306 q306);(obtain rfl : ad305 = ad306 := (by injection e306));(replace p306 := eq_true p306);(replace q306 := eq_true q306);(have p9 : 0 ≤ (x8_2 : Int) := of_decide_eq_true zq21);(have q9 : x8_2 < ((rdOf ByteArray.empty l0 x7_1).size : Int) := of_decide_eq_true zq21);(have hx9 := bt_at (rdOf ByteArray.empty l0 x7_1) x8_2);(replace p9 := eq_true p9);(replace q9 := eq_true q9);(go_upto_region 9 with (first | ((with_reducible refine gate_callee (f := 65) rfl ?_); refine goesL_ (some 35) rfl rfl Tryd.func65 (by kernel_rfl) rfl #[.slice (some ad305) l0.length c0, .int .i64 x7_1, .int .i64 x8_2] rfl zq0 ?_; (with_reducible refine (spec_l12East.calls _ _ l0 x7_1 x8_2 t307 _ ?side1 ?side2 A10.out).mono ?_); (case side1 => exact zq55); (case side2 => exact HC0.out); rintro e w' ⟨rfl, ⟨nd, rfl⟩⟩; refine ⟨_, rfl, ?_⟩)));((try simp only [Act.put, List.setIfInBounds_toArray, List.set_cons_zero, List.set_cons_succ]))
          go_cut [53] (fun v53 wc => ∃ (kq : Nat) (x53_10 : Bool), v53 = .bool x53_10 ∧ Aside0 (spec_l12Meet.j2 kq l0 a1 a2 x7_1 x8_2 (bt (rdOf ByteArray.empty l0 x7_1) x8_2) x53_10 = some r) ∧ Aside0 (kq ≤ k2) ∧ Drawn0 w wc)
          case first =>
           (have H := HC11.out);clear HC11;(by_cases c12 : (bt (rdOf ByteArray.empty l0 x7_1) x8_2) = a1)
           ·rw [if_pos c12] at H
            (have c12b0 : ((bt (rdOf ByteArray.empty l0 x7_1) x8_2) == a1) = true := beq_iff_eq.mpr c12);(have c12b1 : ((bt (rdOf ByteArray.empty l0 x7_1) x8_2) != a1) = false := bne_eq_false_iff_eq.mpr c12);clear c12;((first | rw [c12b0] | (simp only [i64_w, i32_w]; rw [c12b0]) | skip));(by_cases c13 : t307 = a2)
            ·rw [if_pos c13] at H
             (have c13b0 : (t307 == a2) = true := beq_iff_eq.mpr c13);(have c13b1 : (t307 != a2) = false := bne_eq_false_iff_eq.mpr c13);clear c13;(have H' := Aside0.mk H);clear H;(go_wp2)
             go_meet
             case rel => exact ⟨_, (true), zq26, H', ⟨zq34⟩, zq54⟩
            ·rw [if_neg c13] at H
             (have c13b0 : (t307 == a2) = false := beq_eq_false_iff_ne.mpr c13);(have c13b1 : (t307 != a2) = true := bne_iff_ne.mpr c13);(by_cases c14 : (bt (rdOf ByteArray.empty l0 x7_1) x8_2) = a2)
             ·rw [if_pos c14] at H
              (have c14b0 : ((bt (rdOf ByteArray.empty l0 x7_1) x8_2) == a2) = true := beq_iff_eq.mpr c14);(have c14b1 : ((bt (rdOf ByteArray.empty l0 x7_1) x8_2) != a2) = false := bne_eq_false_iff_eq.mpr c14);clear c14;(have H' := Aside0.mk H);clear H;(go_wp2)
              go_meet
              case rel => exact ⟨_, ((t307 == a1)), zq26, H', ⟨zq34⟩, zq54⟩
             ·rw [if_neg c14] at H
              (have c14b0 : ((bt (rdOf ByteArray.empty l0 x7_1) x8_2) == a2) = false := beq_eq_false_iff_ne.mpr c14);(have c14b1 : ((bt (rdOf ByteArray.empty l0 x7_1) x8_2) != a2) = true := bne_iff_ne.mpr c14);(have H' := Aside0.mk H);clear H;(go_wp2)
              go_meet
              case rel => exact ⟨_, (false), zq26, H', ⟨zq34⟩, zq54⟩
           ·rw [if_neg c12] at H
            (have c12b0 : ((bt (rdOf ByteArray.empty l0 x7_1) x8_2) == a1) = false := beq_eq_false_iff_ne.mpr c12);(have c12b1 : ((bt (rdOf ByteArray.empty l0 x7_1) x8_2) != a1) = true := bne_iff_ne.mpr c12);((first | rw [c12b0] | (simp only [i64_w, i32_w]; rw [c12b0]) | skip));(by_cases c15 : (bt (rdOf ByteArray.empty l0 x7_1) x8_2) = a2)
            ·rw [if_pos c15] at H
             (have c15b0 : ((bt (rdOf ByteArray.empty l0 x7_1) x8_2) == a2) = true := beq_iff_eq.mpr c15);(have c15b1 : ((bt (rdOf ByteArray.empty l0 x7_1) x8_2) != a2) = false := bne_eq_false_iff_eq.mpr c15);clear c15;(have H' := Aside0.mk H);clear H;(go_wp2)
             go_meet
             case rel => exact ⟨_, ((t307 == a1)), zq26, H', ⟨zq34⟩, zq54⟩
            ·rw [if_neg c15] at H
             (have c15b0 : ((bt (rdOf ByteArray.empty l0 x7_1) x8_2) == a2) = false := beq_eq_false_iff_ne.mpr c15);(have c15b1 : ((bt (rdOf ByteArray.empty l0 x7_1) x8_2) != a2) = true := bne_iff_ne.mpr c15);(have H' := Aside0.mk H);clear H;(go_wp2)
             go_meet
             case rel => exact ⟨_, (false), zq26, H', ⟨zq34⟩, zq54⟩
          case rest =>
           clear HC11;(try clear c1);(try clear p2);(try clear p3);(try clear q3);(try clear hx3);(try clear c4);(try clear c4b0);(try clear c5);(try clear c5b0);(try clear c6);(try clear c6b0);(try clear c7);(try clear c7b0);(try clear c8);(try clear c8b0);(try clear p9);(try clear q9);(try clear hx9);(try clear c12);(try clear c12b0);(try clear c12b1);(try clear c13);(try clear c13b0);(try clear c13b1);(try clear c14);(try clear c14b0);(try clear c14b1);(try clear c15);(try clear c15b0);(try clear c15b1);(try clear hx305_0);(try clear hx306_0);(try clear p2);(try clear p305);(try clear p306);(try clear p9);(try clear q305);(try clear q306);(try clear q9);(obtain ⟨kq, x53_10, rfl, HA, HJ10, ⟨mc10, rfl⟩⟩ := hcut)
           cases kq with
           | zero => exact absurd HA.out (by simp [spec_l12Meet.j2])
           | succ kj10 =>
            (have H := HA.out);clear HA;(simp only [spec_l12Meet.j2] at H);(by_cases c16 : x53_10 = true)
            ·subst c16
             (have H1 : (some true) = some r := zq62);clear H;(have H := H1);clear H1;(obtain rfl := Option.some.inj H);(go_wp2);(go_ret);(exact ⟨zq26, zq54⟩)
            ·replace c16 := Bool.eq_false_iff.mpr c16
             subst c16;(have H1 : (if (wrap64 (x7_1 + 1)) < (l0.length : Int) then (if 0 ≤ (wrap64 (x7_1 + 1)) then (if 0 ≤ x8_2 then (if x8_2 < ((rdOf ByteArray.empty l0 (wrap64 (x7_1 + 1))).size : Int) then (if (bt (rdOf ByteArray.empty l0 x7_1) x8_2) = a1 then (if (bt (rdOf ByteArray.empty l0 (wrap64 (x7_1 + 1))) x8_2) = a2 then (some true) else (if (bt (rdOf ByteArray.empty l0 x7_1) x8_2) = a2 then (if (bt (rdOf ByteArray.empty l0 (wrap64 (x7_1 + 1))) x8_2) = a1 then (some true) else (spec_l12Meet.l1 kj10 l0 a1 a2 x7_1 (wrap64 (x8_2 + 1)))) else (spec_l12Meet.l1 kj10 l0 a1 a2 x7_1 (wrap64 (x8_2 + 1))))) else (if (bt (rdOf ByteArray.empty l0 x7_1) x8_2) = a2 then (if (bt (rdOf ByteArray.empty l0 (wrap64 (x7_1 + 1))) x8_2) = a1 then (some true) else (spec_l12Meet.l1 kj10 l0 a1 a2 x7_1 (wrap64 (x8_2 + 1)))) else (spec_l12Meet.l1 kj10 l0 a1 a2 x7_1 (wrap64 (x8_2 + 1))))) else (none)) else (none)) else (none)) else (spec_l12Meet.l1 kj10 l0 a1 a2 x7_1 (wrap64 (x8_2 + 1)))) = some r := zq61);clear H;(have H := H1);clear H1;(by_cases c17 : (wrap64 (x7_1 + 1)) < (l0.length : Int))
             ·rw [if_pos c17] at H
              (have c17b0 : decide ((wrap64 (x7_1 + 1)) < (l0.length : Int)) = true := decide_eq_true c17);clear c17;(obtain ⟨ji18, hji18⟩ : ∃ j_ : Int, (wrap64 (x7_1 + 1)) = j_ := ⟨_, rfl⟩);(replace H : (if 0 ≤ (ji18) then (if 0 ≤ x8_2 then (if x8_2 < ((rdOf ByteArray.empty l0 (ji18)).size : Int) then (if (bt (rdOf ByteArray.empty l0 x7_1) x8_2) = a1 then (if (bt (rdOf ByteArray.empty l0 (ji18)) x8_2) = a2 then (some true) else (if (bt (rdOf ByteArray.empty l0 x7_1) x8_2) = a2 then (if (bt (rdOf ByteArray.empty l0 (ji18)) x8_2) = a1 then (some true) else (spec_l12Meet.l1 kj10 l0 a1 a2 x7_1 (wrap64 (x8_2 + 1)))) else (spec_l12Meet.l1 kj10 l0 a1 a2 x7_1 (wrap64 (x8_2 + 1))))) else (if (bt (rdOf ByteArray.empty l0 x7_1) x8_2) = a2 then (if (bt (rdOf ByteArray.empty l0 (ji18)) x8_2) = a1 then (some true) else (spec_l12Meet.l1 kj10 l0 a1 a2 x7_1 (wrap64 (x8_2 + 1)))) else (spec_l12Meet.l1 kj10 l0 a1 a2 x7_1 (wrap64 (x8_2 + 1))))) else (none)) else (none)) else (none)) = some r := zq19);((try rw [hji18] at c17b0));(have hji18w : (IntKind.i64.wrap (x7_1 + 1)) = ji18 := (i64_w _).trans hji18);(by_cases c19 : 0 ≤ (ji18))
              ·rw [if_pos c19] at H
               (have c19b0 : decide (0 ≤ (ji18)) = true := decide_eq_true c19);clear c19;(by_cases c20 : 0 ≤ x8_2)
               ·rw [if_pos c20] at H
                (have c20b0 : decide (0 ≤ x8_2) = true := decide_eq_true c20);clear c20;(by_cases c21 : x8_2 < ((rdOf ByteArray.empty l0 (ji18)).size : Int))
                ·rw [if_pos c21] at H
                 (have c21b0 : decide (x8_2 < ((rdOf ByteArray.empty l0 (ji18)).size : Int)) = true := decide_eq_true c21);clear c21;(by_cases c23 : (bt (rdOf ByteArray.empty l0 x7_1) x8_2) = a1)
                 ·rw [if_pos c23] at H
                  (have c23b0 : ((bt (rdOf ByteArray.empty l0 x7_1) x8_2) == a1) = true := beq_iff_eq.mpr c23);(have c23b1 : ((bt (rdOf ByteArray.empty l0 x7_1) x8_2) != a1) = false := bne_eq_false_iff_eq.mpr c23);clear c23;(by_cases c24 : (bt (rdOf ByteArray.empty l0 (ji18)) x8_2) = a2)
                  ·rw [if_pos c24] at H
                   (have c24b0 : ((bt (rdOf ByteArray.empty l0 (ji18)) x8_2) == a2) = true := beq_iff_eq.mpr c24);(have c24b1 : ((bt (rdOf ByteArray.empty l0 (ji18)) x8_2) != a2) = false := bne_eq_false_iff_eq.mpr c24);clear c24;(obtain rfl := Option.some.inj H);(have p308 : 0 ≤ ((ji18) : Int) := of_decide_eq_true zq21);(have q308 : (ji18) < (l0.length : Int) := of_decide_eq_true zq21);(obtain ⟨ad308, e308, hx308_0⟩ := Kd.at_string HR0.out (ji18) p308 q308);(obtain rfl : ad305 = ad308 := (by injection e308));(replace p308 := eq_true p308);(replace q308 := eq_true q308);(have p22 : 0 ≤ (x8_2 : Int) := of_decide_eq_true zq21);(have q22 : x8_2 < ((rdOf ByteArray.empty l0 (ji18)).size : Int) := of_decide_eq_true zq21);(have hx22 := bt_at (rdOf ByteArray.empty l0 (ji18)) x8_2);(replace p22 := eq_true p22);(replace q22 := eq_true q22);(go_wp2);(go_ret);(exact ⟨zq27, zq54⟩)
                  ·rw [if_neg c24] at H
                   (have c24b0 : ((bt (rdOf ByteArray.empty l0 (ji18)) x8_2) == a2) = false := beq_eq_false_iff_ne.mpr c24);(have c24b1 : ((bt (rdOf ByteArray.empty l0 (ji18)) x8_2) != a2) = true := bne_iff_ne.mpr c24);(by_cases c25 : (bt (rdOf ByteArray.empty l0 x7_1) x8_2) = a2)
                   ·rw [if_pos c25] at H
                    (have c25b0 : ((bt (rdOf ByteArray.empty l0 x7_1) x8_2) == a2) = true := beq_iff_eq.mpr c25);(have c25b1 : ((bt (rdOf ByteArray.empty l0 x7_1) x8_2) != a2) = false := bne_eq_false_iff_eq.mpr c25);clear c25;(by_cases c26 : (bt (rdOf ByteArray.empty l0 (ji18)) x8_2) = a1)
                    ·rw [if_pos c26] at H
                     (have c26b0 : ((bt (rdOf ByteArray.empty l0 (ji18)) x8_2) == a1) = true := beq_iff_eq.mpr c26);(have c26b1 : ((bt (rdOf ByteArray.empty l0 (ji18)) x8_2) != a1) = false := bne_eq_false_iff_eq.mpr c26);clear c26;(obtain rfl := Option.some.inj H);(have p308 : 0 ≤ ((ji18) : Int) := of_decide_eq_true zq21);(have q308 : (ji18) < (l0.length : Int) := of_decide_eq_true zq21);(obtain ⟨ad308, e308, hx308_0⟩ := Kd.at_string HR0.out (ji18) p308 q308);(obtain rfl : ad305 = ad308 := (by injection e308));(replace p308 := eq_true p308);(replace q308 := eq_true q308);(have p22 : 0 ≤ (x8_2 : Int) := of_decide_eq_true zq21);(have q22 : x8_2 < ((rdOf ByteArray.empty l0 (ji18)).size : Int) := of_decide_eq_true zq21);(have hx22 := bt_at (rdOf ByteArray.empty l0 (ji18)) x8_2);(replace p22 := eq_true p22);(replace q22 := eq_true q22);(go_wp2);(go_ret);(exact ⟨zq27, zq54⟩)
                    ·rw [if_neg c26] at H
                     (have c26b0 : ((bt (rdOf ByteArray.empty l0 (ji18)) x8_2) == a1) = false := beq_eq_false_iff_ne.mpr c26);(have c26b1 : ((bt (rdOf ByteArray.empty l0 (ji18)) x8_2) != a1) = true := bne_iff_ne.mpr c26);(have H' := Aside0.mk H);clear H;(have p308 : 0 ≤ ((ji18) : Int) := of_decide_eq_true zq21);(have q308 : (ji18) < (l0.length : Int) := of_decide_eq_true zq21);(obtain ⟨ad308, e308, hx308_0⟩ := Kd.at_string HR0.out (ji18) p308 q308);(obtain rfl : ad305 = ad308 := (by injection e308));(replace p308 := eq_true p308);(replace q308 := eq_true q308);(have p22 : 0 ≤ (x8_2 : Int) := of_decide_eq_true zq21);(have q22 : x8_2 < ((rdOf ByteArray.empty l0 (ji18)).size : Int) := of_decide_eq_true zq21);(have hx22 := bt_at (rdOf ByteArray.empty l0 (ji18)) x8_2);(replace p22 := eq_true p22);(replace q22 := eq_true q22);(go_wp2);(go_roundg kj10)
                     case measure => have := HK1.out; have := HK2.out; have := HJ10.out; omega
                     case rel => exact ⟨(wrap64 (x8_2 + 1)), zq26, H', ⟨zq35⟩, zq54⟩
                   ·rw [if_neg c25] at H
                    (have c25b0 : ((bt (rdOf ByteArray.empty l0 x7_1) x8_2) == a2) = false := beq_eq_false_iff_ne.mpr c25);(have c25b1 : ((bt (rdOf ByteArray.empty l0 x7_1) x8_2) != a2) = true := bne_iff_ne.mpr c25);(have H' := Aside0.mk H);clear H;(have p308 : 0 ≤ ((ji18) : Int) := of_decide_eq_true zq21);(have q308 : (ji18) < (l0.length : Int) := of_decide_eq_true zq21);(obtain ⟨ad308, e308, hx308_0⟩ := Kd.at_string HR0.out (ji18) p308 q308);(obtain rfl : ad305 = ad308 := (by injection e308));(replace p308 := eq_true p308);(replace q308 := eq_true q308);(have p22 : 0 ≤ (x8_2 : Int) := of_decide_eq_true zq21);(have q22 : x8_2 < ((rdOf ByteArray.empty l0 (ji18)).size : Int) := of_decide_eq_true zq21);(have hx22 := bt_at (rdOf ByteArray.empty l0 (ji18)) x8_2);(replace p22 := eq_true p22);(replace q22 := eq_true q22);(go_wp2);(go_roundg kj10)
                    case measure => have := HK1.out; have := HK2.out; have := HJ10.out; omega
                    case rel => exact ⟨(wrap64 (x8_2 + 1)), zq26, H', ⟨zq35⟩, zq54⟩
                 ·rw [if_neg c23] at H
                  (have c23b0 : ((bt (rdOf ByteArray.empty l0 x7_1) x8_2) == a1) = false := beq_eq_false_iff_ne.mpr c23);(have c23b1 : ((bt (rdOf ByteArray.empty l0 x7_1) x8_2) != a1) = true := bne_iff_ne.mpr c23);(by_cases c27 : (bt (rdOf ByteArray.empty l0 x7_1) x8_2) = a2)
                  ·rw [if_pos c27] at H
                   (have c27b0 : ((bt (rdOf ByteArray.empty l0 x7_1) x8_2) == a2) = true := beq_iff_eq.mpr c27);(have c27b1 : ((bt (rdOf ByteArray.empty l0 x7_1) x8_2) != a2) = false := bne_eq_false_iff_eq.mpr c27);clear c27;(by_cases c28 : (bt (rdOf ByteArray.empty l0 (ji18)) x8_2) = a1)
                   ·rw [if_pos c28] at H
                    (have c28b0 : ((bt (rdOf ByteArray.empty l0 (ji18)) x8_2) == a1) = true := beq_iff_eq.mpr c28);(have c28b1 : ((bt (rdOf ByteArray.empty l0 (ji18)) x8_2) != a1) = false := bne_eq_false_iff_eq.mpr c28);clear c28;(obtain rfl := Option.some.inj H);(have p308 : 0 ≤ ((ji18) : Int) := of_decide_eq_true zq21);(have q308 : (ji18) < (l0.length : Int) := of_decide_eq_true zq21);(obtain ⟨ad308, e308, hx308_0⟩ := Kd.at_string HR0.out (ji18) p308 q308);(obtain rfl : ad305 = ad308 := (by injection e308));(replace p308 := eq_true p308);(replace q308 := eq_true q308);(have p22 : 0 ≤ (x8_2 : Int) := of_decide_eq_true zq21);(have q22 : x8_2 < ((rdOf ByteArray.empty l0 (ji18)).size : Int) := of_decide_eq_true zq21);(have hx22 := bt_at (rdOf ByteArray.empty l0 (ji18)) x8_2);(replace p22 := eq_true p22);(replace q22 := eq_true q22);(go_wp2);(go_ret);(exact ⟨zq27, zq54⟩)
                   ·rw [if_neg c28] at H
                    (have c28b0 : ((bt (rdOf ByteArray.empty l0 (ji18)) x8_2) == a1) = false := beq_eq_false_iff_ne.mpr c28);(have c28b1 : ((bt (rdOf ByteArray.empty l0 (ji18)) x8_2) != a1) = true := bne_iff_ne.mpr c28);(have H' := Aside0.mk H);clear H;(have p308 : 0 ≤ ((ji18) : Int) := of_decide_eq_true zq21);(have q308 : (ji18) < (l0.length : Int) := of_decide_eq_true zq21);(obtain ⟨ad308, e308, hx308_0⟩ := Kd.at_string HR0.out (ji18) p308 q308);(obtain rfl : ad305 = ad308 := (by injection e308));(replace p308 := eq_true p308);(replace q308 := eq_true q308);(have p22 : 0 ≤ (x8_2 : Int) := of_decide_eq_true zq21);(have q22 : x8_2 < ((rdOf ByteArray.empty l0 (ji18)).size : Int) := of_decide_eq_true zq21);(have hx22 := bt_at (rdOf ByteArray.empty l0 (ji18)) x8_2);(replace p22 := eq_true p22);(replace q22 := eq_true q22);(go_wp2);(go_roundg kj10)
                    case measure => have := HK1.out; have := HK2.out; have := HJ10.out; omega
                    case rel => exact ⟨(wrap64 (x8_2 + 1)), zq26, H', ⟨zq35⟩, zq54⟩
                  ·rw [if_neg c27] at H
                   (have c27b0 : ((bt (rdOf ByteArray.empty l0 x7_1) x8_2) == a2) = false := beq_eq_false_iff_ne.mpr c27);(have c27b1 : ((bt (rdOf ByteArray.empty l0 x7_1) x8_2) != a2) = true := bne_iff_ne.mpr c27);(have H' := Aside0.mk H);clear H;(have p308 : 0 ≤ ((ji18) : Int) := of_decide_eq_true zq21);(have q308 : (ji18) < (l0.length : Int) := of_decide_eq_true zq21);(obtain ⟨ad308, e308, hx308_0⟩ := Kd.at_string HR0.out (ji18) p308 q308);(obtain rfl : ad305 = ad308 := (by injection e308));(replace p308 := eq_true p308);(replace q308 := eq_true q308);(have p22 : 0 ≤ (x8_2 : Int) := of_decide_eq_true zq21);(have q22 : x8_2 < ((rdOf ByteArray.empty l0 (ji18)).size : Int) := of_decide_eq_true zq21);(have hx22 := bt_at (rdOf ByteArray.empty l0 (ji18)) x8_2);(replace p22 := eq_true p22);(replace q22 := eq_true q22);(go_wp2);(go_roundg kj10)
                   case measure => have := HK1.out; have := HK2.out; have := HJ10.out; omega
                   case rel => exact ⟨(wrap64 (x8_2 + 1)), zq26, H', ⟨zq35⟩, zq54⟩
                ·rw [if_neg c21] at H
                 exact absurd H (by simp)
               ·rw [if_neg c20] at H
                exact absurd H (by simp)
              ·rw [if_neg c19] at H
               exact absurd H (by simp)
             ·rw [if_neg c17] at H
              (have c17b0 : decide ((wrap64 (x7_1 + 1)) < (l0.length : Int)) = false := decide_eq_false c17);clear c17;(have H' := Aside0.mk H);clear H;(go_wp2);(go_roundg kj10)
              case measure => have := HK1.out; have := HK2.out; have := HJ10.out; omega
              case rel => exact ⟨(wrap64 (x8_2 + 1)), zq26, H', ⟨zq35⟩, zq54⟩
         ·rw [if_neg c8] at H
          exact absurd H (by simp)
        ·rw [if_neg c7] at H
         (have c7b0 : decide (x8_2 < ((rdOf ByteArray.empty l0 x7_1).size : Int)) = false := decide_eq_false c7);clear c7;(have H' := Aside0.mk H);clear H;(have p305 : 0 ≤ (x7_1 : Int) := of_decide_eq_true zq21);(have q305 : x7_1 < (l0.length : Int) := of_decide_eq_true zq21);(obtain ⟨ad305, e305, hx305_0⟩ := Kd.at_string HR0.out x7_1 p305 q305)
         cases e305
         (replace p305 := eq_true p305);(replace q305 := eq_true q305);(go_wp2);(go_roundg k2)
         case measure => have := HK1.out; have := HK2.out; omega
         case rel => exact ⟨(wrap64 (x7_1 + 1)), zq26, H', ⟨zq39⟩, zq54⟩
       ·rw [if_neg c6] at H
        exact absurd H (by simp)
      ·rw [if_neg c5] at H
       exact absurd H (by simp)
   ·rw [if_neg c4] at H
    (have c4b0 : decide (x7_1 < (l0.length : Int)) = false := decide_eq_false c4);clear c4;(obtain rfl := Option.some.inj H);(go_wp2);(go_ret);(exact ⟨zq26, zq54⟩)

end Go.Proofs.YtdkmngghknohgaaDoor.PFnGrids
