-- Made by a program of this session (gprint.py) out of the kit's print of the translation and texts of my own. SLIM
import Derived.Test.YtdkmngghknohgaaDoorPFnGridsx0
import Derived.Test.YtdkmngghknohgaaDoorPFnGridsx7
namespace Go.Proofs.YtdkmngghknohgaaDoor.PFnGrids
open Go.RowKit Go.Proofs.YtdkmngghknohgaaDoorW.PrintWords Go.Proofs.YtdkmngghknohgaaDoorW.PrintLast Go.Proofs.YtdkmngghknohgaaDoorW.PrintMore
set_option maxHeartbeats 64000000
set_option maxRecDepth 100000
attribute [local go_sem] max2_int min2_int max_two min_two max_three min_three max_four min_four   -- for this text's walks alone
set_option linter.unusedVariables false
set_option linter.unusedSimpArgs false

/-! ### spec_l12Coast: function 46 -/
mutual
def spec_l12Coast.l0 : Nat → List ByteArray → Int → Int → Int → Int → Option (Int)
 | 0, _, _, _, _, _ => none
 | k + 1, x0, x1, x5, x6, x7 => if x7 < (x0.length : Int) then (spec_l12Coast.l1 k x0 x1 x5 x6 x7 0) else (some x5)
def spec_l12Coast.l1 : Nat → List ByteArray → Int → Int → Int → Int → Int → Option (Int)
 | 0, _, _, _, _, _, _ => none
 | k + 1, x0, x1, x5, x6, x7, x8 => if x8 < x6 then (if 0 ≤ x7 then (if x7 < (x0.length : Int) then (if 0 ≤ x8 then (if x8 < ((rdOf ByteArray.empty x0 x7).size : Int) then (if (bt (rdOf ByteArray.empty x0 x7) x8) = x1 then ((spec_l12East.f x0 x7 x8).bind fun t358 => (if t358 = 46 then (spec_l12Coast.j2 k x0 x1 (wrap64 (x5 + 1)) x6 x7 x8) else (spec_l12Coast.j2 k x0 x1 x5 x6 x7 x8))) else (spec_l12Coast.l1 k x0 x1 x5 x6 x7 (wrap64 (x8 + 1)))) else (none)) else (none)) else (none)) else (none)) else (spec_l12Coast.l0 k x0 x1 x5 x6 (wrap64 (x7 + 1)))
def spec_l12Coast.j2 : Nat → List ByteArray → Int → Int → Int → Int → Int → Option (Int)
 | 0, _, _, _, _, _, _ => none
 | k + 1, x0, x1, x5, x6, x7, x8 => if 0 ≤ x7 then (if x7 < (x0.length : Int) then (if x6 = 0 then (none) else (if 0 ≤ (Int.tmod (wrap64 ((wrap64 (x8 + x6)) - 1)) x6) then (if (Int.tmod (wrap64 ((wrap64 (x8 + x6)) - 1)) x6) < ((rdOf ByteArray.empty x0 x7).size : Int) then (if (bt (rdOf ByteArray.empty x0 x7) (Int.tmod (wrap64 ((wrap64 (x8 + x6)) - 1)) x6)) = 46 then (spec_l12Coast.j3 k x0 x1 (wrap64 (x5 + 1)) x6 x7 x8) else (spec_l12Coast.j3 k x0 x1 x5 x6 x7 x8)) else (none)) else (none))) else (none)) else (none)
def spec_l12Coast.j3 : Nat → List ByteArray → Int → Int → Int → Int → Int → Option (Int)
 | 0, _, _, _, _, _, _ => none
 | k + 1, x0, x1, x5, x6, x7, x8 => if x7 > 0 then (if 0 ≤ (wrap64 (x7 - 1)) then (if (wrap64 (x7 - 1)) < (x0.length : Int) then (if 0 ≤ x8 then (if x8 < ((rdOf ByteArray.empty x0 (wrap64 (x7 - 1))).size : Int) then (spec_l12Coast.j4 k x0 x1 x5 x6 x7 x8 ((bt (rdOf ByteArray.empty x0 (wrap64 (x7 - 1))) x8) == 46)) else (none)) else (none)) else (none)) else (none)) else (spec_l12Coast.j4 k x0 x1 x5 x6 x7 x8 false)
def spec_l12Coast.j4 : Nat → List ByteArray → Int → Int → Int → Int → Int → Bool → Option (Int)
 | 0, _, _, _, _, _, _, _ => none
 | k + 1, x0, x1, x5, x6, x7, x8, x64 => if x64 = true then (if (wrap64 (x7 + 1)) < (x0.length : Int) then (if 0 ≤ (wrap64 (x7 + 1)) then (if 0 ≤ x8 then (if x8 < ((rdOf ByteArray.empty x0 (wrap64 (x7 + 1))).size : Int) then (if (bt (rdOf ByteArray.empty x0 (wrap64 (x7 + 1))) x8) = 46 then (spec_l12Coast.l1 k x0 x1 (wrap64 ((wrap64 (x5 + 1)) + 1)) x6 x7 (wrap64 (x8 + 1))) else (spec_l12Coast.l1 k x0 x1 (wrap64 (x5 + 1)) x6 x7 (wrap64 (x8 + 1)))) else (none)) else (none)) else (none)) else (spec_l12Coast.l1 k x0 x1 (wrap64 (x5 + 1)) x6 x7 (wrap64 (x8 + 1)))) else (if (wrap64 (x7 + 1)) < (x0.length : Int) then (if 0 ≤ (wrap64 (x7 + 1)) then (if 0 ≤ x8 then (if x8 < ((rdOf ByteArray.empty x0 (wrap64 (x7 + 1))).size : Int) then (if (bt (rdOf ByteArray.empty x0 (wrap64 (x7 + 1))) x8) = 46 then (spec_l12Coast.l1 k x0 x1 (wrap64 (x5 + 1)) x6 x7 (wrap64 (x8 + 1))) else (spec_l12Coast.l1 k x0 x1 x5 x6 x7 (wrap64 (x8 + 1)))) else (none)) else (none)) else (none)) else (spec_l12Coast.l1 k x0 x1 x5 x6 x7 (wrap64 (x8 + 1))))
end
def spec_l12Coast.f (k : Nat) (l0 : List ByteArray) (a1 : Int) : Option (Int) := if 0 < (l0.length : Int) then (spec_l12Coast.l0 k l0 a1 0 ((rdOf ByteArray.empty l0 0).size : Int) 0) else (none)
theorem spec_l12Coast.mono_l : ∀ k, (∀ y0 y1 y2 y3 y4, LeO (spec_l12Coast.l0 k y0 y1 y2 y3 y4) (spec_l12Coast.l0 (k + 1) y0 y1 y2 y3 y4)) ∧ (∀ y0 y1 y2 y3 y4 y5, LeO (spec_l12Coast.l1 k y0 y1 y2 y3 y4 y5) (spec_l12Coast.l1 (k + 1) y0 y1 y2 y3 y4 y5)) ∧ (∀ y0 y1 y2 y3 y4 y5, LeO (spec_l12Coast.j2 k y0 y1 y2 y3 y4 y5) (spec_l12Coast.j2 (k + 1) y0 y1 y2 y3 y4 y5)) ∧ (∀ y0 y1 y2 y3 y4 y5, LeO (spec_l12Coast.j3 k y0 y1 y2 y3 y4 y5) (spec_l12Coast.j3 (k + 1) y0 y1 y2 y3 y4 y5)) ∧ (∀ y0 y1 y2 y3 y4 y5 y6, LeO (spec_l12Coast.j4 k y0 y1 y2 y3 y4 y5 y6) (spec_l12Coast.j4 (k + 1) y0 y1 y2 y3 y4 y5 y6))
 | 0 => ⟨fun _ _ _ _ _ r h => by simp [spec_l12Coast.l0] at h, fun _ _ _ _ _ _ r h => by simp [spec_l12Coast.l1] at h, fun _ _ _ _ _ _ r h => by simp [spec_l12Coast.j2] at h, fun _ _ _ _ _ _ r h => by simp [spec_l12Coast.j3] at h, fun _ _ _ _ _ _ _ r h => by simp [spec_l12Coast.j4] at h⟩
 | k + 1 => by
  (obtain ⟨ih0, ih1, ih2, ih3, ih4⟩ := spec_l12Coast.mono_l k);(refine ⟨?_, ?_, ?_, ?_, ?_⟩)
  ·intro y0 y1 y2 y3 y4
   unfold spec_l12Coast.l0
   repeat' first | with_reducible (first | exact ih0 _ _ _ _ _ | exact ih1 _ _ _ _ _ _ | exact ih2 _ _ _ _ _ _ | exact ih3 _ _ _ _ _ _ | exact ih4 _ _ _ _ _ _ _ | exact LeO.refl _ | exact LeO.none _ | refine LeO.ite ?_ ?_ | refine LeO.bind ?_ (fun _ => ?_)) | exact ih0 _ _ _ _ _ | exact ih1 _ _ _ _ _ _ | exact ih2 _ _ _ _ _ _ | exact ih3 _ _ _ _ _ _ | exact ih4 _ _ _ _ _ _ _ | exact LeO.none _ | refine LeO.ite ?_ ?_ | refine LeO.bind ?_ (fun _ => ?_)
  ·intro y0 y1 y2 y3 y4 y5
   unfold spec_l12Coast.l1
   repeat' first | with_reducible (first | exact ih0 _ _ _ _ _ | exact ih1 _ _ _ _ _ _ | exact ih2 _ _ _ _ _ _ | exact ih3 _ _ _ _ _ _ | exact ih4 _ _ _ _ _ _ _ | exact LeO.refl _ | exact LeO.none _ | refine LeO.ite ?_ ?_ | refine LeO.bind ?_ (fun _ => ?_)) | exact ih0 _ _ _ _ _ | exact ih1 _ _ _ _ _ _ | exact ih2 _ _ _ _ _ _ | exact ih3 _ _ _ _ _ _ | exact ih4 _ _ _ _ _ _ _ | exact LeO.none _ | refine LeO.ite ?_ ?_ | refine LeO.bind ?_ (fun _ => ?_)
  ·intro y0 y1 y2 y3 y4 y5
   unfold spec_l12Coast.j2
   repeat' first | with_reducible (first | exact ih0 _ _ _ _ _ | exact ih1 _ _ _ _ _ _ | exact ih2 _ _ _ _ _ _ | exact ih3 _ _ _ _ _ _ | exact ih4 _ _ _ _ _ _ _ | exact LeO.refl _ | exact LeO.none _ | refine LeO.ite ?_ ?_ | refine LeO.bind ?_ (fun _ => ?_)) | exact ih0 _ _ _ _ _ | exact ih1 _ _ _ _ _ _ | exact ih2 _ _ _ _ _ _ | exact ih3 _ _ _ _ _ _ | exact ih4 _ _ _ _ _ _ _ | exact LeO.none _ | refine LeO.ite ?_ ?_ | refine LeO.bind ?_ (fun _ => ?_)
  ·intro y0 y1 y2 y3 y4 y5
   unfold spec_l12Coast.j3
   repeat' first | with_reducible (first | exact ih0 _ _ _ _ _ | exact ih1 _ _ _ _ _ _ | exact ih2 _ _ _ _ _ _ | exact ih3 _ _ _ _ _ _ | exact ih4 _ _ _ _ _ _ _ | exact LeO.refl _ | exact LeO.none _ | refine LeO.ite ?_ ?_ | refine LeO.bind ?_ (fun _ => ?_)) | exact ih0 _ _ _ _ _ | exact ih1 _ _ _ _ _ _ | exact ih2 _ _ _ _ _ _ | exact ih3 _ _ _ _ _ _ | exact ih4 _ _ _ _ _ _ _ | exact LeO.none _ | refine LeO.ite ?_ ?_ | refine LeO.bind ?_ (fun _ => ?_)
  ·intro y0 y1 y2 y3 y4 y5 y6
   unfold spec_l12Coast.j4
   repeat' first | with_reducible (first | exact ih0 _ _ _ _ _ | exact ih1 _ _ _ _ _ _ | exact ih2 _ _ _ _ _ _ | exact ih3 _ _ _ _ _ _ | exact ih4 _ _ _ _ _ _ _ | exact LeO.refl _ | exact LeO.none _ | refine LeO.ite ?_ ?_ | refine LeO.bind ?_ (fun _ => ?_)) | exact ih0 _ _ _ _ _ | exact ih1 _ _ _ _ _ _ | exact ih2 _ _ _ _ _ _ | exact ih3 _ _ _ _ _ _ | exact ih4 _ _ _ _ _ _ _ | exact LeO.none _ | refine LeO.ite ?_ ?_ | refine LeO.bind ?_ (fun _ => ?_)
theorem spec_l12Coast.mono : ∀ a0 a1 k, LeO (spec_l12Coast.f k a0 a1) (spec_l12Coast.f (k + 1) a0 a1) := by
 intro a0 a1 k;(obtain ⟨ih0, ih1, ih2, ih3, ih4⟩ := spec_l12Coast.mono_l k);(unfold spec_l12Coast.f)
 repeat' first | with_reducible (first | exact ih0 _ _ _ _ _ | exact ih1 _ _ _ _ _ _ | exact ih2 _ _ _ _ _ _ | exact ih3 _ _ _ _ _ _ | exact ih4 _ _ _ _ _ _ _ | exact LeO.refl _ | exact LeO.none _ | refine LeO.ite ?_ ?_ | refine LeO.bind ?_ (fun _ => ?_)) | exact ih0 _ _ _ _ _ | exact ih1 _ _ _ _ _ _ | exact ih2 _ _ _ _ _ _ | exact ih3 _ _ _ _ _ _ | exact ih4 _ _ _ _ _ _ _ | exact LeO.none _ | refine LeO.ite ?_ ?_ | refine LeO.bind ?_ (fun _ => ?_)
theorem spec_l12Coast.calls (k : Nat) (A0 : Option Addr) (c0 : Nat) (l0 : List ByteArray) (a1 : Int) (r : Int) (w : World) (hr0 : Kd.C Kd.string w A0 l0.length l0) (hc0 : l0.length ≤ c0) (h : spec_l12Coast.f k l0 a1 = some r) :
  Calls Tryd.prog 46 #[.slice A0 l0.length c0, .int .u8 a1] w fun e w' => e = .returned (.int .i64 r) ∧ Drawn0 w w' := by
 (have HR0 := Aside0.mk hr0);(have HC0 := Aside0.mk hc0);clear hr0 hc0;(have H : (if 0 < (l0.length : Int) then (spec_l12Coast.l0 k l0 a1 0 ((rdOf ByteArray.empty l0 0).size : Int) 0) else (none)) = some r := h);clear h;(by_cases c3 : 0 < (l0.length : Int))
 ·rw [if_pos c3] at H
  (have c3b0 : decide (0 < (l0.length : Int)) = true := decide_eq_true c3);(have c3b1 : decide (0 < l0.length) = true := decide_eq_true (by omega));clear c3;(have H' := Aside0.mk H);clear H;(have p356 : 0 ≤ (0 : Int) := (by omega));(have q356 : 0 < (l0.length : Int) := of_decide_eq_true zq21);(obtain ⟨ad356, e356, hx356_0⟩ := Kd.at_string HR0.out 0 p356 q356)
  cases e356
  (have qi356 : (0 < l0.length) = True := eq_true (by omega));((try rw [show ((0 : Int)).toNat = 0 from rfl] at hx356_0));((try rw [Addr.add_zero'] at hx356_0));(replace p356 := eq_true p356);(replace q356 := eq_true q356)
  go_enter Tryd.func46, Tryd.ntmps46
  (go_wp2);(repeat (go_quiet (fail); try go_wp2))
  go_loopg [5, 7] k (fun kq v5 v7 w' => ∃ (x5_1 : Int) (x7_1 : Int), v5 = .int .i64 x5_1 ∧ v7 = .int .i64 x7_1 ∧ Aside0 (spec_l12Coast.l0 kq l0 a1 x5_1 ((rdOf ByteArray.empty l0 0).size : Int) x7_1 = some r) ∧ Aside0 (kq ≤ k) ∧ Drawn0 w w')
  case atStart => exact ⟨(0), (0), zq26, zq26, H', ⟨Nat.le_refl _⟩, zq54⟩
  case round =>
   clear H';(try clear p2);(try clear c3);(try clear c3b0);(try clear c3b1);(try clear p3);(try clear q3);(try clear hx3);(try clear qi3);(try clear hx356_0);(try clear p356);(try clear q356);(obtain ⟨x5_1, x7_1, rfl, rfl, HA, HK1, ⟨m1, rfl⟩⟩ := hrel)
   cases gk with
   | zero => exact absurd HA.out (by simp [spec_l12Coast.l0])
   | succ k1 =>
    (have H := HA.out);clear HA;(simp only [spec_l12Coast.l0] at H);(by_cases c4 : x7_1 < (l0.length : Int))
    ·rw [if_pos c4] at H
     (have c4b0 : decide (x7_1 < (l0.length : Int)) = true := decide_eq_true c4);clear c4;(have H' := Aside0.mk H);clear H;(go_wp2);(repeat (go_quiet (fail); try go_wp2))
     go_loopg [5, 8] k1 (fun kq v5 v8 w' => ∃ (x5_2 : Int) (x8_2 : Int), v5 = .int .i64 x5_2 ∧ v8 = .int .i64 x8_2 ∧ Aside0 (spec_l12Coast.l1 kq l0 a1 x5_2 ((rdOf ByteArray.empty l0 0).size : Int) x7_1 x8_2 = some r) ∧ Aside0 (kq ≤ k1) ∧ Drawn0 w w')
     case atStart => exact ⟨(x5_1), (0), zq26, zq26, H', ⟨Nat.le_refl _⟩, zq54⟩
     case round =>
      clear H';(try clear p2);(try clear c3);(try clear c3b0);(try clear c3b1);(try clear p3);(try clear q3);(try clear hx3);(try clear qi3);(try clear c4);(try clear c4b0);(try clear hx356_0);(try clear p2);(try clear p3);(try clear p356);(try clear q3);(try clear q356);(obtain ⟨x5_2, x8_2, rfl, rfl, HA, HK2, ⟨m2, rfl⟩⟩ := hrel)
      cases gk with
      | zero => exact absurd HA.out (by simp [spec_l12Coast.l1])
      | succ k2 =>
       (have H := HA.out);clear HA;(simp only [spec_l12Coast.l1] at H);(by_cases c5 : x8_2 < ((rdOf ByteArray.empty l0 0).size : Int))
       ·rw [if_pos c5] at H
        (have c5b0 : decide (x8_2 < ((rdOf ByteArray.empty l0 0).size : Int)) = true := decide_eq_true c5);clear c5;(by_cases c6 : 0 ≤ x7_1)
        ·rw [if_pos c6] at H
         (have c6b0 : decide (0 ≤ x7_1) = true := decide_eq_true c6);clear c6;(by_cases c7 : x7_1 < (l0.length : Int))
         ·rw [if_pos c7] at H
          (have c7b0 : decide (x7_1 < (l0.length : Int)) = true := decide_eq_true c7);clear c7;(by_cases c8 : 0 ≤ x8_2)
          ·rw [if_pos c8] at H
           (have c8b0 : decide (0 ≤ x8_2) = true := decide_eq_true c8);clear c8;(by_cases c9 : x8_2 < ((rdOf ByteArray.empty l0 x7_1).size : Int))
           ·rw [if_pos c9] at H
            (have c9b0 : decide (x8_2 < ((rdOf ByteArray.empty l0 x7_1).size : Int)) = true := decide_eq_true c9);clear c9;(by_cases c11 : (bt (rdOf ByteArray.empty l0 x7_1) x8_2) = a1)
            ·rw [if_pos c11] at H
             (have c11b0 : ((bt (rdOf ByteArray.empty l0 x7_1) x8_2) == a1) = true := beq_iff_eq.mpr c11);(have c11b1 : ((bt (rdOf ByteArray.empty l0 x7_1) x8_2) != a1) = false := bne_eq_false_iff_eq.mpr c11);clear c11;(replace H := Option.bind_eq_some_iff.mp H);(obtain ⟨t358, A120, H⟩ := H);(replace H : (if t358 = 46 then (spec_l12Coast.j2 k2 l0 a1 (wrap64 (x5_2 + 1)) ((rdOf ByteArray.empty l0 0).size : Int) x7_1 x8_2) else (spec_l12Coast.j2 k2 l0 a1 x5_2 ((rdOf ByteArray.empty l0 0).size : Int) x7_1 x8_2)) = some r := H);(have A12 := Aside0.mk A120);clear A120;(have HC13 := Aside0.mk H);clear H;(have p357 : 0 ≤ (x7_1 : Int) := of_decide_eq_true zq21);(have q357 : x7_1 < (l0.length : Int) := of_decide_eq_true zq21);(obtain ⟨ad357, e357, hx357_0⟩ := Kd.at_string HR0.out x7_1 p357 q357);(obtain rfl : ad356 = ad357 := (by injection e357));(replace p357 := eq_true p357);(replace q357 := eq_true q357);(have p10 : 0 ≤ (x8_2 : Int) := of_decide_eq_true zq21);(have q10 : x8_2 < ((rdOf ByteArray.empty l0 x7_1).size : Int) := of_decide_eq_true zq21);(have hx10 := bt_at (rdOf ByteArray.empty l0 x7_1) x8_2);(replace p10 := eq_true p10);(replace q10 := eq_true q10)
             go_upto_if 36 with (first | (go_at_call 65; (with_reducible refine (spec_l12East.calls _ _ l0 x7_1 x8_2 t358 _ ?side1 ?side2 A12.out).mono ?_); (case side1 => exact zq55); (case side2 => exact HC0.out); rintro e w' ⟨rfl, ⟨nd, rfl⟩⟩; (try first | exact ⟨rfl, _, World.drewN_drewN _ _ _⟩ | exact ⟨rfl, _, Eq.trans (World.drewN_drewN _ _ _) (congrArg (World.drewN _) (Nat.add_assoc _ _ _))⟩)))
             (repeat (go_quiet (first | (go_at_call 65; (with_reducible refine (spec_l12East.calls _ _ l0 x7_1 x8_2 t358 _ ?side1 ?side2 A12.out).mono ?_); (case side1 => exact zq55); (case side2 => exact HC0.out); rintro e w' ⟨rfl, ⟨nd, rfl⟩⟩; (try first | exact ⟨rfl, _, World.drewN_drewN _ _ _⟩ | exact ⟨rfl, _, Eq.trans (World.drewN_drewN _ _ _) (congrArg (World.drewN _) (Nat.add_assoc _ _ _))⟩))); go_upto_if 36 with (first | (go_at_call 65; (with_reducible refine (spec_l12East.calls _ _ l0 x7_1 x8_2 t358 _ ?side1 ?side2 A12.out).mono ?_); (case side1 => exact zq55); (case side2 => exact HC0.out); rintro e w' ⟨rfl, ⟨nd, rfl⟩⟩; (try first | exact ⟨rfl, _, World.drewN_drewN _ _ _⟩ | exact ⟨rfl, _, Eq.trans (World.drewN_drewN _ _ _) (congrArg (World.drewN _) (Nat.add_assoc _ _ _))⟩)))));((try simp only [Act.put, List.setIfInBounds_toArray, List.set_cons_zero, List.set_cons_succ]))
             go_cut [5] (fun v5 wc => ∃ (kq : Nat) (x5_12 : Int), v5 = .int .i64 x5_12 ∧ Aside0 (spec_l12Coast.j2 kq l0 a1 x5_12 ((rdOf ByteArray.empty l0 0).size : Int) x7_1 x8_2 = some r) ∧ Aside0 (kq ≤ k2) ∧ Drawn0 w wc)
             case first =>
              (have H := HC13.out);clear HC13;(by_cases c14 : t358 = 46)
              ·rw [if_pos c14] at H
               (have c14b0 : (t358 == 46) = true := beq_iff_eq.mpr c14);(have c14b1 : (t358 != 46) = false := bne_eq_false_iff_eq.mpr c14);clear c14;((first | rw [c14b0] | (simp only [i64_w, i32_w]; rw [c14b0]) | skip));(have H' := Aside0.mk H);clear H;(go_wp2);(repeat (go_quiet (fail); try go_wp2))
               go_meet
               case rel => exact ⟨_, (wrap64 (x5_2 + 1)), zq26, H', ⟨zq34⟩, zq54⟩
              ·rw [if_neg c14] at H
               (have c14b0 : (t358 == 46) = false := beq_eq_false_iff_ne.mpr c14);(have c14b1 : (t358 != 46) = true := bne_iff_ne.mpr c14);((first | rw [c14b0] | (simp only [i64_w, i32_w]; rw [c14b0]) | skip));(have H' := Aside0.mk H);clear H;(go_wp2);(repeat (go_quiet (fail); try go_wp2))
               go_meet
               case rel => exact ⟨_, (x5_2), zq26, H', ⟨zq34⟩, zq54⟩
             case rest =>
              clear HC13;(try clear c1);(try clear p1);(try clear q1);(try clear hx1);(try clear p2);(try clear c3);(try clear c3b0);(try clear c3b1);(try clear p3);(try clear q3);(try clear hx3);(try clear qi3);(try clear c4);(try clear c4b0);(try clear c5);(try clear c5b0);(try clear c6);(try clear c6b0);(try clear p6);(try clear c7);(try clear c7b0);(try clear c8);(try clear c8b0);(try clear c9);(try clear c9b0);(try clear p10);(try clear q10);(try clear hx10);(try clear c11);(try clear c11b0);(try clear c11b1);(try clear c14);(try clear c14b0);(try clear c14b1);(try clear hx356_0);(try clear hx357_0);(try clear p10);(try clear p2);(try clear p3);(try clear p356);(try clear p357);(try clear q10);(try clear q3);(try clear q356);(try clear q357);(obtain ⟨kq, x5_12, rfl, HA, HJ12, ⟨mc12, rfl⟩⟩ := hcut)
              cases kq with
              | zero => exact absurd HA.out (by simp [spec_l12Coast.j2])
              | succ kj12 =>
               (have H := HA.out);clear HA;(simp only [spec_l12Coast.j2] at H);(by_cases c15 : 0 ≤ x7_1)
               ·rw [if_pos c15] at H
                (have c15b0 : decide (0 ≤ x7_1) = true := decide_eq_true c15);clear c15;(by_cases c16 : x7_1 < (l0.length : Int))
                ·rw [if_pos c16] at H
                 (have c16b0 : decide (x7_1 < (l0.length : Int)) = true := decide_eq_true c16);clear c16;(by_cases c17 : ((rdOf ByteArray.empty l0 0).size : Int) = 0)
                 ·rw [if_pos c17] at H
                  exact absurd H (by simp)
                 ·rw [if_neg c17] at H
                  (have c17b0 : (((rdOf ByteArray.empty l0 0).size : Int) == 0) = false := beq_eq_false_iff_ne.mpr c17);(have c17b1 : (((rdOf ByteArray.empty l0 0).size : Int) != 0) = true := bne_iff_ne.mpr c17);(have c17b6 : ((rdOf ByteArray.empty l0 0) = ByteArray.empty) = False := eq_false (fun e_ => c17 (by rw [e_]; rfl)));(obtain ⟨ji18, hji18⟩ : ∃ j_ : Int, (Int.tmod (wrap64 ((wrap64 (x8_2 + ((rdOf ByteArray.empty l0 0).size : Int))) - 1)) ((rdOf ByteArray.empty l0 0).size : Int)) = j_ := ⟨_, rfl⟩);(replace H : (if 0 ≤ (ji18) then (if (ji18) < ((rdOf ByteArray.empty l0 x7_1).size : Int) then (if (bt (rdOf ByteArray.empty l0 x7_1) (ji18)) = 46 then (spec_l12Coast.j3 kj12 l0 a1 (wrap64 (x5_12 + 1)) ((rdOf ByteArray.empty l0 0).size : Int) x7_1 x8_2) else (spec_l12Coast.j3 kj12 l0 a1 x5_12 ((rdOf ByteArray.empty l0 0).size : Int) x7_1 x8_2)) else (none)) else (none)) = some r := zq19);(by_cases c19 : 0 ≤ (ji18))
                  ·rw [if_pos c19] at H
                   (have c19b0 : decide (0 ≤ (ji18)) = true := decide_eq_true c19);clear c19;(by_cases c20 : (ji18) < ((rdOf ByteArray.empty l0 x7_1).size : Int))
                   ·rw [if_pos c20] at H
                    (have c20b0 : decide ((ji18) < ((rdOf ByteArray.empty l0 x7_1).size : Int)) = true := decide_eq_true c20);clear c20;(have HC22 := Aside0.mk H);clear H;(have p359 : 0 ≤ (x7_1 : Int) := of_decide_eq_true zq21);(have q359 : x7_1 < (l0.length : Int) := of_decide_eq_true zq21);(obtain ⟨ad359, e359, hx359_0⟩ := Kd.at_string HR0.out x7_1 p359 q359);(obtain rfl : ad356 = ad359 := (by injection e359));(replace p359 := eq_true p359);(replace q359 := eq_true q359);(have p21 : 0 ≤ ((ji18) : Int) := of_decide_eq_true zq21);(have q21 : (ji18) < ((rdOf ByteArray.empty l0 x7_1).size : Int) := of_decide_eq_true zq21);(have hx21 := bt_at (rdOf ByteArray.empty l0 x7_1) (ji18));(replace p21 := eq_true p21);(replace q21 := eq_true q21)
                    go_upto_if 50 with (fail)
                    repeat (go_quiet (fail); go_upto_if 50 with (fail))
                    go_cut [5] (fun v5 wc => ∃ (kq : Nat) (x5_21 : Int), v5 = .int .i64 x5_21 ∧ Aside0 (spec_l12Coast.j3 kq l0 a1 x5_21 ((rdOf ByteArray.empty l0 0).size : Int) x7_1 x8_2 = some r) ∧ Aside0 (kq ≤ kj12) ∧ Drawn0 w wc)
                    case first =>
                     (have H := HC22.out);clear HC22;(by_cases c23 : (bt (rdOf ByteArray.empty l0 x7_1) (ji18)) = 46)
                     ·rw [if_pos c23] at H
                      (have c23b0 : ((bt (rdOf ByteArray.empty l0 x7_1) (ji18)) == 46) = true := beq_iff_eq.mpr c23);(have c23b1 : ((bt (rdOf ByteArray.empty l0 x7_1) (ji18)) != 46) = false := bne_eq_false_iff_eq.mpr c23);clear c23;((first | rw [c23b0] | (simp only [i64_w, i32_w]; rw [c23b0]) | skip));(have H' := Aside0.mk H);clear H;(go_wp2);(repeat (go_quiet (fail); try go_wp2))
                      go_meet
                      case rel => exact ⟨_, (wrap64 (x5_12 + 1)), zq26, H', ⟨zq36⟩, zq54⟩
                     ·rw [if_neg c23] at H
                      (have c23b0 : ((bt (rdOf ByteArray.empty l0 x7_1) (ji18)) == 46) = false := beq_eq_false_iff_ne.mpr c23);(have c23b1 : ((bt (rdOf ByteArray.empty l0 x7_1) (ji18)) != 46) = true := bne_iff_ne.mpr c23);((first | rw [c23b0] | (simp only [i64_w, i32_w]; rw [c23b0]) | skip));(have H' := Aside0.mk H);clear H;(go_wp2);(repeat (go_quiet (fail); try go_wp2))
                      go_meet
                      case rel => exact ⟨_, (x5_12), zq26, H', ⟨zq36⟩, zq54⟩
                    case rest =>
                     clear HC22;(try clear c1);(try clear p1);(try clear q1);(try clear hx1);(try clear c2);(try clear p2);(try clear q2);(try clear hx2);(try clear c3);(try clear c3b0);(try clear c3b1);(try clear p3);(try clear q3);(try clear hx3);(try clear qi3);(try clear c4);(try clear c4b0);(try clear c5);(try clear c5b0);(try clear c6);(try clear c6b0);(try clear p6);(try clear c7);(try clear c7b0);(try clear c8);(try clear c8b0);(try clear c9);(try clear c9b0);(try clear p10);(try clear q10);(try clear hx10);(try clear c11);(try clear c11b0);(try clear c11b1);(try clear c12);(try clear c14);(try clear c14b0);(try clear c14b1);(try clear c15);(try clear c15b0);(try clear c16);(try clear c16b0);(try clear c17);(try clear c17b0);(try clear c17b1);(try clear c19);(try clear c19b0);(try clear c20);(try clear c20b0);(try clear p21);(try clear q21);(try clear hx21);(try clear c23);(try clear c23b0);(try clear c23b1);(try clear hx356_0);(try clear hx357_0);(try clear hx359_0);(try clear p1);(try clear p10);(try clear p2);(try clear p21);(try clear p3);(try clear p356);(try clear p357);(try clear p359);(try clear p6);(try clear q1);(try clear q10);(try clear q21);(try clear q3);(try clear q356);(try clear q357);(try clear q359);(obtain ⟨kq, x5_21, rfl, HA, HJ21, ⟨mc21, rfl⟩⟩ := hcut)
                     cases kq with
                     | zero => exact absurd HA.out (by simp [spec_l12Coast.j3])
                     | succ kj21 =>
                      (have H := HA.out);clear HA;(simp only [spec_l12Coast.j3] at H);(have HC24 := Aside0.mk H);clear H;(go_upto_region 14 with (fail));(repeat (go_quiet (fail); go_upto_region 14 with (fail)))
                      go_cut [64] (fun v64 wc => ∃ (kq : Nat) (x64_23 : Bool), v64 = .bool x64_23 ∧ Aside0 (spec_l12Coast.j4 kq l0 a1 x5_21 ((rdOf ByteArray.empty l0 0).size : Int) x7_1 x8_2 x64_23 = some r) ∧ Aside0 (kq ≤ kj21) ∧ Drawn0 w wc)
                      case first =>
                       (have H := HC24.out);clear HC24;(by_cases c25 : x7_1 > 0)
                       ·rw [if_pos c25] at H
                        (have c25b0 : decide (0 < x7_1) = true := decide_eq_true c25);clear c25;((first | rw [c25b0] | (simp only [i64_w, i32_w]; rw [c25b0]) | skip));(obtain ⟨ji26, hji26⟩ : ∃ j_ : Int, (wrap64 (x7_1 - 1)) = j_ := ⟨_, rfl⟩);(replace H : (if 0 ≤ (ji26) then (if (ji26) < (l0.length : Int) then (if 0 ≤ x8_2 then (if x8_2 < ((rdOf ByteArray.empty l0 (ji26)).size : Int) then (spec_l12Coast.j4 kj21 l0 a1 x5_21 ((rdOf ByteArray.empty l0 0).size : Int) x7_1 x8_2 ((bt (rdOf ByteArray.empty l0 (ji26)) x8_2) == 46)) else (none)) else (none)) else (none)) else (none)) = some r := by first | (rw [hji26] at H; exact H) | (simp only [hji26] at H ⊢; exact H));(have hji26w : (IntKind.i64.wrap (x7_1 - 1)) = ji26 := (i64_w _).trans hji26);(by_cases c27 : 0 ≤ (ji26))
                        ·rw [if_pos c27] at H
                         (have c27b0 : decide (0 ≤ (ji26)) = true := decide_eq_true c27);clear c27;(by_cases c28 : (ji26) < (l0.length : Int))
                         ·rw [if_pos c28] at H
                          (have c28b0 : decide ((ji26) < (l0.length : Int)) = true := decide_eq_true c28);clear c28;(by_cases c29 : 0 ≤ x8_2)
                          ·rw [if_pos c29] at H
                           (have c29b0 : decide (0 ≤ x8_2) = true := decide_eq_true c29);clear c29;(by_cases c30 : x8_2 < ((rdOf ByteArray.empty l0 (ji26)).size : Int))
                           ·rw [if_pos c30] at H
                            (have c30b0 : decide (x8_2 < ((rdOf ByteArray.empty l0 (ji26)).size : Int)) = true := decide_eq_true c30);clear c30;(have H' := Aside0.mk H);clear H;(have p360 : 0 ≤ ((ji26) : Int) := of_decide_eq_true zq21);(have q360 : (ji26) < (l0.length : Int) := of_decide_eq_true zq21);(obtain ⟨ad360, e360, hx360_0⟩ := Kd.at_string HR0.out (ji26) p360 q360);(obtain rfl : ad356 = ad360 := (by injection e360));(replace p360 := eq_true p360);(replace q360 := eq_true q360);(have p31 : 0 ≤ (x8_2 : Int) := of_decide_eq_true zq21);(have q31 : x8_2 < ((rdOf ByteArray.empty l0 (ji26)).size : Int) := of_decide_eq_true zq21);(have hx31 := bt_at (rdOf ByteArray.empty l0 (ji26)) x8_2);(replace p31 := eq_true p31);(replace q31 := eq_true q31);(go_wp2);(repeat (go_quiet (fail); try go_wp2))
                            go_meet
                            case rel => exact ⟨_, (((bt (rdOf ByteArray.empty l0 (ji26)) x8_2) == 46)), (by first | rfl | (simp; done) | (simp only [← hji26] <;> (first | rfl | simp)) | (simp [*]; done)), H', ⟨zq37⟩, zq54⟩
                           ·rw [if_neg c30] at H
                            exact absurd H (by simp)
                          ·rw [if_neg c29] at H
                           exact absurd H (by simp)
                         ·rw [if_neg c28] at H
                          exact absurd H (by simp)
                        ·rw [if_neg c27] at H
                         exact absurd H (by simp)
                       ·rw [if_neg c25] at H
                        (have c25b0 : decide (0 < x7_1) = false := decide_eq_false c25);clear c25;((first | rw [c25b0] | (simp only [i64_w, i32_w]; rw [c25b0]) | skip));(have H' := Aside0.mk H);clear H;(go_wp2);(repeat (go_quiet (fail); try go_wp2))
                        go_meet
                        case rel => exact ⟨_, (false), zq26, H', ⟨zq37⟩, zq54⟩
                      case rest =>
                       clear HC24;(try clear c1);(try clear p1);(try clear q1);(try clear hx1);(try clear c2);(try clear p2);(try clear q2);(try clear hx2);(try clear c3);(try clear c3b0);(try clear c3b1);(try clear p3);(try clear q3);(try clear hx3);(try clear qi3);(try clear c4);(try clear c4b0);(try clear c5);(try clear c5b0);(try clear c6);(try clear c6b0);(try clear p6);(try clear c7);(try clear c7b0);(try clear c8);(try clear c8b0);(try clear c9);(try clear c9b0);(try clear p10);(try clear q10);(try clear hx10);(try clear c11);(try clear c11b0);(try clear c11b1);(try clear c12);(try clear c14);(try clear c14b0);(try clear c14b1);(try clear c15);(try clear c15b0);(try clear c16);(try clear c16b0);(try clear c17);(try clear c17b0);(try clear c17b1);(try clear c19);(try clear c19b0);(try clear c20);(try clear c20b0);(try clear c21);(try clear p21);(try clear q21);(try clear hx21);(try clear c23);(try clear c23b0);(try clear c23b1);(try clear c25);(try clear c25b0);(try clear c27);(try clear c27b0);(try clear c28);(try clear c28b0);(try clear c29);(try clear c29b0);(try clear c30);(try clear c30b0);(try clear p31);(try clear q31);(try clear hx31);(try clear hx356_0);(try clear hx357_0);(try clear hx359_0);(try clear hx360_0);(try clear p1);(try clear p10);(try clear p2);(try clear p21);(try clear p3);(try clear p31);(try clear p356);(try clear p357);(try clear p359);(try clear p360);(try clear p6);(try clear q1);(try clear q10);(try clear q2);(try clear q21);(try clear q3);(try clear q31);(try clear q356);(try clear q357);(try clear q359);(try clear q360);(obtain ⟨kq, x64_23, rfl, HA, HJ23, ⟨mc23, rfl⟩⟩ := hcut)
                       cases kq with
                       | zero => exact absurd HA.out (by simp [spec_l12Coast.j4])
                       | succ kj23 =>
                        (have H := HA.out);clear HA;(simp only [spec_l12Coast.j4] at H);(by_cases c32 : x64_23 = true)
                        ·subst c32
                         (have H1 : (if (wrap64 (x7_1 + 1)) < (l0.length : Int) then (if 0 ≤ (wrap64 (x7_1 + 1)) then (if 0 ≤ x8_2 then (if x8_2 < ((rdOf ByteArray.empty l0 (wrap64 (x7_1 + 1))).size : Int) then (if (bt (rdOf ByteArray.empty l0 (wrap64 (x7_1 + 1))) x8_2) = 46 then (spec_l12Coast.l1 kj23 l0 a1 (wrap64 ((wrap64 (x5_21 + 1)) + 1)) ((rdOf ByteArray.empty l0 0).size : Int) x7_1 (wrap64 (x8_2 + 1))) else (spec_l12Coast.l1 kj23 l0 a1 (wrap64 (x5_21 + 1)) ((rdOf ByteArray.empty l0 0).size : Int) x7_1 (wrap64 (x8_2 + 1)))) else (none)) else (none)) else (none)) else (spec_l12Coast.l1 kj23 l0 a1 (wrap64 (x5_21 + 1)) ((rdOf ByteArray.empty l0 0).size : Int) x7_1 (wrap64 (x8_2 + 1)))) = some r := zq62);clear H;(have H := H1);clear H1;(by_cases c33 : (wrap64 (x7_1 + 1)) < (l0.length : Int))
                         ·rw [if_pos c33] at H
                          (have c33b0 : decide ((wrap64 (x7_1 + 1)) < (l0.length : Int)) = true := decide_eq_true c33);clear c33;(obtain ⟨ji34, hji34⟩ : ∃ j_ : Int, (wrap64 (x7_1 + 1)) = j_ := ⟨_, rfl⟩);(replace H : (if 0 ≤ (ji34) then (if 0 ≤ x8_2 then (if x8_2 < ((rdOf ByteArray.empty l0 (ji34)).size : Int) then (if (bt (rdOf ByteArray.empty l0 (ji34)) x8_2) = 46 then (spec_l12Coast.l1 kj23 l0 a1 (wrap64 ((wrap64 (x5_21 + 1)) + 1)) ((rdOf ByteArray.empty l0 0).size : Int) x7_1 (wrap64 (x8_2 + 1))) else (spec_l12Coast.l1 kj23 l0 a1 (wrap64 (x5_21 + 1)) ((rdOf ByteArray.empty l0 0).size : Int) x7_1 (wrap64 (x8_2 + 1)))) else (none)) else (none)) else (none)) = some r := by first | (rw [hji34] at H; exact H) | (simp only [hji34] at H ⊢; exact H));((try rw [hji34] at c33b0));(have hji34w : (IntKind.i64.wrap (x7_1 + 1)) = ji34 := (i64_w _).trans hji34);(by_cases c35 : 0 ≤ (ji34))
                          ·rw [if_pos c35] at H
                           (have c35b0 : decide (0 ≤ (ji34)) = true := decide_eq_true c35);clear c35;(by_cases c36 : 0 ≤ x8_2)
                           ·rw [if_pos c36] at H
                            (have c36b0 : decide (0 ≤ x8_2) = true := decide_eq_true c36);clear c36;(by_cases c37 : x8_2 < ((rdOf ByteArray.empty l0 (ji34)).size : Int))
                            ·rw [if_pos c37] at H
                             (have c37b0 : decide (x8_2 < ((rdOf ByteArray.empty l0 (ji34)).size : Int)) = true := decide_eq_true c37);clear c37;(by_cases c39 : (bt (rdOf ByteArray.empty l0 (ji34)) x8_2) = 46)
                             ·rw [if_pos c39] at H
                              (have c39b0 : ((bt (rdOf ByteArray.empty l0 (ji34)) x8_2) == 46) = true := beq_iff_eq.mpr c39);(have c39b1 : ((bt (rdOf ByteArray.empty l0 (ji34)) x8_2) != 46) = false := bne_eq_false_iff_eq.mpr c39);clear c39;(have H' := Aside0.mk H);clear H;(have p361 : 0 ≤ ((ji34) : Int) := of_decide_eq_true zq21);(have q361 : (ji34) < (l0.length : Int) := of_decide_eq_true zq21);(obtain ⟨ad361, e361, hx361_0⟩ := Kd.at_string HR0.out (ji34) p361 q361);(obtain rfl : ad356 = ad361 := (by injection e361));(replace p361 := eq_true p361);(replace q361 := eq_true q361);(have p38 : 0 ≤ (x8_2 : Int) := of_decide_eq_true zq21);(have q38 : x8_2 < ((rdOf ByteArray.empty l0 (ji34)).size : Int) := of_decide_eq_true zq21);(have hx38 := bt_at (rdOf ByteArray.empty l0 (ji34)) x8_2);(replace p38 := eq_true p38);(replace q38 := eq_true q38);(go_wp2);(repeat (go_quiet (fail); try go_wp2));(go_roundg kj23)
                              case measure => have := HK1.out; have := HK2.out; have := HJ12.out; have := HJ21.out; have := HJ23.out; omega
                              case rel => exact ⟨(wrap64 ((wrap64 (x5_21 + 1)) + 1)), (wrap64 (x8_2 + 1)), zq26, zq26, H', ⟨zq38⟩, zq54⟩
                             ·rw [if_neg c39] at H
                              (have c39b0 : ((bt (rdOf ByteArray.empty l0 (ji34)) x8_2) == 46) = false := beq_eq_false_iff_ne.mpr c39);(have c39b1 : ((bt (rdOf ByteArray.empty l0 (ji34)) x8_2) != 46) = true := bne_iff_ne.mpr c39);(have H' := Aside0.mk H);clear H;(have p361 : 0 ≤ ((ji34) : Int) := of_decide_eq_true zq21);(have q361 : (ji34) < (l0.length : Int) := of_decide_eq_true zq21);(obtain ⟨ad361, e361, hx361_0⟩ := Kd.at_string HR0.out (ji34) p361 q361);(obtain rfl : ad356 = ad361 := (by injection e361));(replace p361 := eq_true p361);(replace q361 := eq_true q361);(have p38 : 0 ≤ (x8_2 : Int) := of_decide_eq_true zq21);(have q38 : x8_2 < ((rdOf ByteArray.empty l0 (ji34)).size : Int) := of_decide_eq_true zq21);(have hx38 := bt_at (rdOf ByteArray.empty l0 (ji34)) x8_2);(replace p38 := eq_true p38);(replace q38 := eq_true q38);(go_wp2);(repeat (go_quiet (fail); try go_wp2));(go_roundg kj23)
                              case measure => have := HK1.out; have := HK2.out; have := HJ12.out; have := HJ21.out; have := HJ23.out; omega
                              case rel => exact ⟨(wrap64 (x5_21 + 1)), (wrap64 (x8_2 + 1)), zq26, zq26, H', ⟨zq38⟩, zq54⟩
                            ·rw [if_neg c37] at H
                             exact absurd H (by simp)
                           ·rw [if_neg c36] at H
                            exact absurd H (by simp)
                          ·rw [if_neg c35] at H
                           exact absurd H (by simp)
                         ·rw [if_neg c33] at H
                          (have c33b0 : decide ((wrap64 (x7_1 + 1)) < (l0.length : Int)) = false := decide_eq_false c33);clear c33;(have H' := Aside0.mk H);clear H;(go_wp2);(repeat (go_quiet (fail); try go_wp2));(go_roundg kj23)
                          case measure => have := HK1.out; have := HK2.out; have := HJ12.out; have := HJ21.out; have := HJ23.out; omega
                          case rel => exact ⟨(wrap64 (x5_21 + 1)), (wrap64 (x8_2 + 1)), zq26, zq26, H', ⟨zq38⟩, zq54⟩
                        ·replace c32 := Bool.eq_false_iff.mpr c32
                         subst c32;(have H1 : (if (wrap64 (x7_1 + 1)) < (l0.length : Int) then (if 0 ≤ (wrap64 (x7_1 + 1)) then (if 0 ≤ x8_2 then (if x8_2 < ((rdOf ByteArray.empty l0 (wrap64 (x7_1 + 1))).size : Int) then (if (bt (rdOf ByteArray.empty l0 (wrap64 (x7_1 + 1))) x8_2) = 46 then (spec_l12Coast.l1 kj23 l0 a1 (wrap64 (x5_21 + 1)) ((rdOf ByteArray.empty l0 0).size : Int) x7_1 (wrap64 (x8_2 + 1))) else (spec_l12Coast.l1 kj23 l0 a1 x5_21 ((rdOf ByteArray.empty l0 0).size : Int) x7_1 (wrap64 (x8_2 + 1)))) else (none)) else (none)) else (none)) else (spec_l12Coast.l1 kj23 l0 a1 x5_21 ((rdOf ByteArray.empty l0 0).size : Int) x7_1 (wrap64 (x8_2 + 1)))) = some r := zq61);clear H;(have H := H1);clear H1;(by_cases c40 : (wrap64 (x7_1 + 1)) < (l0.length : Int))
                         ·rw [if_pos c40] at H
                          (have c40b0 : decide ((wrap64 (x7_1 + 1)) < (l0.length : Int)) = true := decide_eq_true c40);clear c40;(obtain ⟨ji41, hji41⟩ : ∃ j_ : Int, (wrap64 (x7_1 + 1)) = j_ := ⟨_, rfl⟩);(replace H : (if 0 ≤ (ji41) then (if 0 ≤ x8_2 then (if x8_2 < ((rdOf ByteArray.empty l0 (ji41)).size : Int) then (if (bt (rdOf ByteArray.empty l0 (ji41)) x8_2) = 46 then (spec_l12Coast.l1 kj23 l0 a1 (wrap64 (x5_21 + 1)) ((rdOf ByteArray.empty l0 0).size : Int) x7_1 (wrap64 (x8_2 + 1))) else (spec_l12Coast.l1 kj23 l0 a1 x5_21 ((rdOf ByteArray.empty l0 0).size : Int) x7_1 (wrap64 (x8_2 + 1)))) else (none)) else (none)) else (none)) = some r := by first | (rw [hji41] at H; exact H) | (simp only [hji41] at H ⊢; exact H));((try rw [hji41] at c40b0));(have hji41w : (IntKind.i64.wrap (x7_1 + 1)) = ji41 := (i64_w _).trans hji41);(by_cases c42 : 0 ≤ (ji41))
                          ·rw [if_pos c42] at H
                           (have c42b0 : decide (0 ≤ (ji41)) = true := decide_eq_true c42);clear c42;(by_cases c43 : 0 ≤ x8_2)
                           ·rw [if_pos c43] at H
                            (have c43b0 : decide (0 ≤ x8_2) = true := decide_eq_true c43);clear c43;(by_cases c44 : x8_2 < ((rdOf ByteArray.empty l0 (ji41)).size : Int))
                            ·rw [if_pos c44] at H
                             (have c44b0 : decide (x8_2 < ((rdOf ByteArray.empty l0 (ji41)).size : Int)) = true := decide_eq_true c44);clear c44;(by_cases c46 : (bt (rdOf ByteArray.empty l0 (ji41)) x8_2) = 46)
                             ·rw [if_pos c46] at H
                              (have c46b0 : ((bt (rdOf ByteArray.empty l0 (ji41)) x8_2) == 46) = true := beq_iff_eq.mpr c46);(have c46b1 : ((bt (rdOf ByteArray.empty l0 (ji41)) x8_2) != 46) = false := bne_eq_false_iff_eq.mpr c46);clear c46;(have H' := Aside0.mk H);clear H;(have p362 : 0 ≤ ((ji41) : Int) := of_decide_eq_true zq21);(have q362 : (ji41) < (l0.length : Int) := of_decide_eq_true zq21);(obtain ⟨ad362, e362, hx362_0⟩ := Kd.at_string HR0.out (ji41) p362 q362);(obtain rfl : ad356 = ad362 := (by injection e362));(replace p362 := eq_true p362);(replace q362 := eq_true q362);(have p45 : 0 ≤ (x8_2 : Int) := of_decide_eq_true zq21);(have q45 : x8_2 < ((rdOf ByteArray.empty l0 (ji41)).size : Int) := of_decide_eq_true zq21);(have hx45 := bt_at (rdOf ByteArray.empty l0 (ji41)) x8_2);(replace p45 := eq_true p45);(replace q45 := eq_true q45);(go_wp2);(repeat (go_quiet (fail); try go_wp2));(go_roundg kj23)
                              case measure => have := HK1.out; have := HK2.out; have := HJ12.out; have := HJ21.out; have := HJ23.out; omega
                              case rel => exact ⟨(wrap64 (x5_21 + 1)), (wrap64 (x8_2 + 1)), zq26, zq26, H', ⟨zq38⟩, zq54⟩
                             ·rw [if_neg c46] at H
                              (have c46b0 : ((bt (rdOf ByteArray.empty l0 (ji41)) x8_2) == 46) = false := beq_eq_false_iff_ne.mpr c46);(have c46b1 : ((bt (rdOf ByteArray.empty l0 (ji41)) x8_2) != 46) = true := bne_iff_ne.mpr c46);(have H' := Aside0.mk H);clear H;(have p362 : 0 ≤ ((ji41) : Int) := of_decide_eq_true zq21);(have q362 : (ji41) < (l0.length : Int) := of_decide_eq_true zq21);(obtain ⟨ad362, e362, hx362_0⟩ := Kd.at_string HR0.out (ji41) p362 q362);(obtain rfl : ad356 = ad362 := (by injection e362));(replace p362 := eq_true p362);(replace q362 := eq_true q362);(have p45 : 0 ≤ (x8_2 : Int) := of_decide_eq_true zq21);(have q45 : x8_2 < ((rdOf ByteArray.empty l0 (ji41)).size : Int) := of_decide_eq_true zq21);(have hx45 := bt_at (rdOf ByteArray.empty l0 (ji41)) x8_2);(replace p45 := eq_true p45);(replace q45 := eq_true q45);(go_wp2);(repeat (go_quiet (fail); try go_wp2));(go_roundg kj23)
                              case measure => have := HK1.out; have := HK2.out; have := HJ12.out; have := HJ21.out; have := HJ23.out; omega
                              case rel => exact ⟨(x5_21), (wrap64 (x8_2 + 1)), zq26, zq26, H', ⟨zq38⟩, zq54⟩
                            ·rw [if_neg c44] at H
                             exact absurd H (by simp)
                           ·rw [if_neg c43] at H
                            exact absurd H (by simp)
                          ·rw [if_neg c42] at H
                           exact absurd H (by simp)
                         ·rw [if_neg c40] at H
                          (have c40b0 : decide ((wrap64 (x7_1 + 1)) < (l0.length : Int)) = false := decide_eq_false c40);clear c40;(have H' := Aside0.mk H);clear H;(go_wp2);(repeat (go_quiet (fail); try go_wp2));(go_roundg kj23)
                          case measure => have := HK1.out; have := HK2.out; have := HJ12.out; have := HJ21.out; have := HJ23.out; omega
                          case rel => exact ⟨(x5_21), (wrap64 (x8_2 + 1)), zq26, zq26, H', ⟨zq38⟩, zq54⟩
                   ·rw [if_neg c20] at H
                    exact absurd H (by simp)
                  ·rw [if_neg c19] at H
                   exact absurd H (by simp)
                ·rw [if_neg c16] at H
                 exact absurd H (by simp)
               ·rw [if_neg c15] at H
                exact absurd H (by simp)
            ·rw [if_neg c11] at H
             (have c11b0 : ((bt (rdOf ByteArray.empty l0 x7_1) x8_2) == a1) = false := beq_eq_false_iff_ne.mpr c11);(have c11b1 : ((bt (rdOf ByteArray.empty l0 x7_1) x8_2) != a1) = true := bne_iff_ne.mpr c11);(have H' := Aside0.mk H);clear H;(have p357 : 0 ≤ (x7_1 : Int) := of_decide_eq_true zq21);(have q357 : x7_1 < (l0.length : Int) := of_decide_eq_true zq21);(obtain ⟨ad357, e357, hx357_0⟩ := Kd.at_string HR0.out x7_1 p357 q357);(obtain rfl : ad356 = ad357 := (by injection e357));(replace p357 := eq_true p357);(replace q357 := eq_true q357);(have p10 : 0 ≤ (x8_2 : Int) := of_decide_eq_true zq21);(have q10 : x8_2 < ((rdOf ByteArray.empty l0 x7_1).size : Int) := of_decide_eq_true zq21);(have hx10 := bt_at (rdOf ByteArray.empty l0 x7_1) x8_2);(replace p10 := eq_true p10);(replace q10 := eq_true q10);(go_wp2);(repeat (go_quiet (fail); try go_wp2));(go_roundg k2)
             case measure => have := HK1.out; have := HK2.out; omega
             case rel => exact ⟨(x5_2), (wrap64 (x8_2 + 1)), zq26, zq26, H', ⟨zq39⟩, zq54⟩
           ·rw [if_neg c9] at H
            exact absurd H (by simp)
          ·rw [if_neg c8] at H
           exact absurd H (by simp)
         ·rw [if_neg c7] at H
          exact absurd H (by simp)
        ·rw [if_neg c6] at H
         exact absurd H (by simp)
       ·rw [if_neg c5] at H
        (have c5b0 : decide (x8_2 < ((rdOf ByteArray.empty l0 0).size : Int)) = false := decide_eq_false c5);clear c5;(have H' := Aside0.mk H);clear H;(go_wp2);(repeat (go_quiet (fail); try go_wp2));(go_roundg k2)
        case measure => have := HK1.out; have := HK2.out; omega
        case rel => exact ⟨(x5_2), (wrap64 (x7_1 + 1)), zq26, zq26, H', ⟨zq39⟩, zq54⟩
    ·rw [if_neg c4] at H
     (have c4b0 : decide (x7_1 < (l0.length : Int)) = false := decide_eq_false c4);clear c4;(obtain rfl := Option.some.inj H);(go_wp2);(repeat (go_quiet (fail); try go_wp2));(go_ret);(exact ⟨zq26, zq54⟩)
 ·rw [if_neg c3] at H
  exact absurd H (by simp)

end Go.Proofs.YtdkmngghknohgaaDoor.PFnGrids
