-- Made by a program of this session (gprint.py) out of the kit's print of the translation and texts of my own. SLIM
import Derived.Test.YtdkmngghknohgaaDoorPFnIslandsx0
import Derived.Test.YtdkmngghknohgaaDoorPFnIslandsx3
namespace Go.Proofs.YtdkmngghknohgaaDoor.PFnIslands
open Go.RowKit Go.Proofs.YtdkmngghknohgaaDoorW.PrintWords Go.Proofs.YtdkmngghknohgaaDoorW.PrintLast Go.Proofs.YtdkmngghknohgaaDoorW.PrintMore
set_option maxHeartbeats 64000000
set_option maxRecDepth 100000
attribute [local go_sem] max2_int min2_int max_two min_two max_three min_three max_four min_four   -- for this text's walks alone
set_option linter.unusedVariables false
set_option linter.unusedSimpArgs false

/-! ### spec_l12Ok: function 52 -/
mutual
def spec_l12Ok.l0 : Nat → List ByteArray → Int → Option (Bool)
 | 0, _, _ => none
 | k + 1, x0, x3 => if x3 < (x0.length : Int) then (if 0 ≤ x3 then (if 0 < (x0.length : Int) then (if ((rdOf ByteArray.empty x0 x3).size : Int) = ((rdOf ByteArray.empty x0 0).size : Int) then ((spec_l00In.f ((rdOf ByteArray.empty x0 x3).size : Int) 1 32).bind fun t243 => (spec_l12Ok.j1 k x0 x3 (!t243))) else (spec_l12Ok.j1 k x0 x3 true)) else (none)) else (none)) else (some true)
def spec_l12Ok.j1 : Nat → List ByteArray → Int → Bool → Option (Bool)
 | 0, _, _, _ => none
 | k + 1, x0, x3, x33 => if x33 = true then (some false) else (spec_l12Ok.l1 k x0 x3 0)
def spec_l12Ok.l1 : Nat → List ByteArray → Int → Int → Option (Bool)
 | 0, _, _, _ => none
 | k + 1, x0, x3, x4 => if 0 ≤ x3 then (if x3 < (x0.length : Int) then (if x4 < ((rdOf ByteArray.empty x0 x3).size : Int) then (if 0 ≤ x4 then (if (bt (rdOf ByteArray.empty x0 x3) x4) = 46 then (spec_l12Ok.l1 k x0 x3 (wrap64 (x4 + 1))) else ((spec_l01Small.f (bt (rdOf ByteArray.empty x0 x3) x4)).bind fun t247 => (if t247 = true then (spec_l12Ok.l1 k x0 x3 (wrap64 (x4 + 1))) else (some false)))) else (none)) else (spec_l12Ok.l0 k x0 (wrap64 (x3 + 1)))) else (none)) else (none)
end
def spec_l12Ok.f (k : Nat) (l0 : List ByteArray) : Option (Bool) := (spec_l00In.f (l0.length : Int) 1 16).bind fun t239 => (if t239 = true then (spec_l12Ok.l0 k l0 0) else (some false))
theorem spec_l12Ok.mono_l : ∀ k, (∀ y0 y1, LeO (spec_l12Ok.l0 k y0 y1) (spec_l12Ok.l0 (k + 1) y0 y1)) ∧ (∀ y0 y1 y2, LeO (spec_l12Ok.j1 k y0 y1 y2) (spec_l12Ok.j1 (k + 1) y0 y1 y2)) ∧ (∀ y0 y1 y2, LeO (spec_l12Ok.l1 k y0 y1 y2) (spec_l12Ok.l1 (k + 1) y0 y1 y2))
 | 0 => ⟨fun _ _ r h => by simp [spec_l12Ok.l0] at h, fun _ _ _ r h => by simp [spec_l12Ok.j1] at h, fun _ _ _ r h => by simp [spec_l12Ok.l1] at h⟩
 | k + 1 => by
  (obtain ⟨ih0, ih1, ih2⟩ := spec_l12Ok.mono_l k);(refine ⟨?_, ?_, ?_⟩)
  ·intro y0 y1
   unfold spec_l12Ok.l0
   repeat' first | with_reducible (first | exact ih0 _ _ | exact ih1 _ _ _ | exact ih2 _ _ _ | exact LeO.refl _ | exact LeO.none _ | refine LeO.ite ?_ ?_ | refine LeO.bind ?_ (fun _ => ?_)) | exact ih0 _ _ | exact ih1 _ _ _ | exact ih2 _ _ _ | exact LeO.none _ | refine LeO.ite ?_ ?_ | refine LeO.bind ?_ (fun _ => ?_)
  ·intro y0 y1 y2
   unfold spec_l12Ok.j1
   repeat' first | with_reducible (first | exact ih0 _ _ | exact ih1 _ _ _ | exact ih2 _ _ _ | exact LeO.refl _ | exact LeO.none _ | refine LeO.ite ?_ ?_ | refine LeO.bind ?_ (fun _ => ?_)) | exact ih0 _ _ | exact ih1 _ _ _ | exact ih2 _ _ _ | exact LeO.none _ | refine LeO.ite ?_ ?_ | refine LeO.bind ?_ (fun _ => ?_)
  ·intro y0 y1 y2
   unfold spec_l12Ok.l1
   repeat' first | with_reducible (first | exact ih0 _ _ | exact ih1 _ _ _ | exact ih2 _ _ _ | exact LeO.refl _ | exact LeO.none _ | refine LeO.ite ?_ ?_ | refine LeO.bind ?_ (fun _ => ?_)) | exact ih0 _ _ | exact ih1 _ _ _ | exact ih2 _ _ _ | exact LeO.none _ | refine LeO.ite ?_ ?_ | refine LeO.bind ?_ (fun _ => ?_)
theorem spec_l12Ok.mono : ∀ a0 k, LeO (spec_l12Ok.f k a0) (spec_l12Ok.f (k + 1) a0) := by
 intro a0 k;(obtain ⟨ih0, ih1, ih2⟩ := spec_l12Ok.mono_l k);(unfold spec_l12Ok.f)
 repeat' first | with_reducible (first | exact ih0 _ _ | exact ih1 _ _ _ | exact ih2 _ _ _ | exact LeO.refl _ | exact LeO.none _ | refine LeO.ite ?_ ?_ | refine LeO.bind ?_ (fun _ => ?_)) | exact ih0 _ _ | exact ih1 _ _ _ | exact ih2 _ _ _ | exact LeO.none _ | refine LeO.ite ?_ ?_ | refine LeO.bind ?_ (fun _ => ?_)
theorem spec_l12Ok.calls (k : Nat) (A0 : Option Addr) (c0 : Nat) (l0 : List ByteArray) (r : Bool) (w : World) (hr0 : Kd.C Kd.string w A0 l0.length l0) (hc0 : l0.length ≤ c0) (h : spec_l12Ok.f k l0 = some r) :
  Calls Tryd.prog 52 #[.slice A0 l0.length c0] w fun e w' => e = .returned (.bool r) ∧ Drawn0 w w' := by
 (have HR0 := Aside0.mk hr0);(have HC0 := Aside0.mk hc0);clear hr0 hc0;(have H : ((spec_l00In.f (l0.length : Int) 1 16).bind fun t239 => (if t239 = true then (spec_l12Ok.l0 k l0 0) else (some false))) = some r := h);clear h;(replace H := Option.bind_eq_some_iff.mp H);(obtain ⟨t239, A20, H⟩ := H);(replace H : (if t239 = true then (spec_l12Ok.l0 k l0 0) else (some false)) = some r := H);(have A2 := Aside0.mk A20);clear A20;(by_cases c3 : t239 = true)
 ·subst c3
  (have H1 : (spec_l12Ok.l0 k l0 0) = some r := zq54);clear H;(have H := H1);clear H1;(have H' := Aside0.mk H);clear H
  go_enter Tryd.func52, Tryd.ntmps52
  (go_wp2_with (first | (go_at_call 53; (with_reducible refine (spec_l00In.calls (l0.length : Int) 1 16 true _ A2.out).mono ?_); rintro e w' ⟨rfl, ⟨nd, rfl⟩⟩; (try first | exact ⟨rfl, _, World.drewN_drewN _ _ _⟩ | exact ⟨rfl, _, Eq.trans (World.drewN_drewN _ _ _) (congrArg (World.drewN _) (Nat.add_assoc _ _ _))⟩))));(repeat (go_quiet (first | (go_at_call 53; (with_reducible refine (spec_l00In.calls (l0.length : Int) 1 16 true _ A2.out).mono ?_); rintro e w' ⟨rfl, ⟨nd, rfl⟩⟩; (try first | exact ⟨rfl, _, World.drewN_drewN _ _ _⟩ | exact ⟨rfl, _, Eq.trans (World.drewN_drewN _ _ _) (congrArg (World.drewN _) (Nat.add_assoc _ _ _))⟩))); try go_wp2_with (first | (go_at_call 53; (with_reducible refine (spec_l00In.calls (l0.length : Int) 1 16 true _ A2.out).mono ?_); rintro e w' ⟨rfl, ⟨nd, rfl⟩⟩; (try first | exact ⟨rfl, _, World.drewN_drewN _ _ _⟩ | exact ⟨rfl, _, Eq.trans (World.drewN_drewN _ _ _) (congrArg (World.drewN _) (Nat.add_assoc _ _ _))⟩)))))
  go_loopg [3] k (fun kq v3 w' => ∃ (x3_1 : Int), v3 = .int .i64 x3_1 ∧ Aside0 (spec_l12Ok.l0 kq l0 x3_1 = some r) ∧ Aside0 (kq ≤ k) ∧ Drawn0 w w')
  case atStart => exact ⟨(0), zq22, H', ⟨Nat.le_refl _⟩, zq46⟩
  case round =>
   clear H';(try clear p2);(try clear c3);(obtain ⟨x3_1, rfl, HA, HK1, ⟨m1, rfl⟩⟩ := hrel)
   cases gk with
   | zero => exact absurd HA.out (by simp [spec_l12Ok.l0])
   | succ k1 =>
    (have H := HA.out);clear HA;(simp only [spec_l12Ok.l0] at H);(by_cases c4 : x3_1 < (l0.length : Int))
    ·rw [if_pos c4] at H
     (have c4b0 : decide (x3_1 < (l0.length : Int)) = true := decide_eq_true c4);clear c4;(have HC5 := Aside0.mk H);clear H;(go_upto_region 6 with (fail));(repeat (go_quiet (fail); go_upto_region 6 with (fail)))
     go_cut [33] (fun v33 wc => ∃ (kq : Nat) (x33_4 : Bool), v33 = .bool x33_4 ∧ Aside0 (spec_l12Ok.j1 kq l0 x3_1 x33_4 = some r) ∧ Aside0 (kq ≤ k1) ∧ Drawn0 w wc)
     case first =>
      (have H := HC5.out);clear HC5;(by_cases c6 : 0 ≤ x3_1)
      ·rw [if_pos c6] at H
       (have c6b0 : decide (0 ≤ x3_1) = true := decide_eq_true c6);clear c6;((first | rw [c6b0] | (simp only [i64_w, i32_w]; rw [c6b0]) | skip));(by_cases c7 : 0 < (l0.length : Int))
       ·rw [if_pos c7] at H
        (have c7b0 : decide (0 < (l0.length : Int)) = true := decide_eq_true c7);(have c7b1 : decide (0 < l0.length) = true := decide_eq_true (by omega));clear c7;(by_cases c8 : ((rdOf ByteArray.empty l0 x3_1).size : Int) = ((rdOf ByteArray.empty l0 0).size : Int))
        ·rw [if_pos c8] at H
         (have c8b0 : (((rdOf ByteArray.empty l0 x3_1).size : Int) == ((rdOf ByteArray.empty l0 0).size : Int)) = true := beq_iff_eq.mpr c8);(have c8b1 : (((rdOf ByteArray.empty l0 x3_1).size : Int) != ((rdOf ByteArray.empty l0 0).size : Int)) = false := bne_eq_false_iff_eq.mpr c8);(have c8b2 : ((rdOf ByteArray.empty l0 x3_1).size == (rdOf ByteArray.empty l0 0).size) = true := by first | simpa using c8 | (simp at c8 ⊢; omega));clear c8;(replace H := Option.bind_eq_some_iff.mp H);(obtain ⟨t243, A90, H⟩ := H);(replace H : (spec_l12Ok.j1 k1 l0 x3_1 (!t243)) = some r := H);(have A9 := Aside0.mk A90);clear A90;(have H' := Aside0.mk H);clear H;(have p240 : 0 ≤ (x3_1 : Int) := of_decide_eq_true zq19);(have q240 : x3_1 < (l0.length : Int) := of_decide_eq_true zq19);(obtain ⟨ad240, e240, hx240_0⟩ := Kd.at_string HR0.out x3_1 p240 q240)
         cases e240
         (replace p240 := eq_true p240);(replace q240 := eq_true q240);(have p241 : 0 ≤ (0 : Int) := (by omega));(have q241 : 0 < (l0.length : Int) := of_decide_eq_true zq19);(obtain ⟨ad241, e241, hx241_0⟩ := Kd.at_string HR0.out 0 p241 q241);(obtain rfl : ad240 = ad241 := (by injection e241));(have qi241 : (0 < l0.length) = True := eq_true (by omega));((try rw [show ((0 : Int)).toNat = 0 from rfl] at hx241_0));((try rw [Addr.add_zero'] at hx241_0));(replace p241 := eq_true p241);(replace q241 := eq_true q241);(have p242 : 0 ≤ (x3_1 : Int) := of_decide_eq_true zq19);(have q242 : x3_1 < (l0.length : Int) := of_decide_eq_true zq19);(obtain ⟨ad242, e242, hx242_0⟩ := Kd.at_string HR0.out x3_1 p242 q242);(obtain rfl : ad240 = ad242 := (by injection e242));(replace p242 := eq_true p242);(replace q242 := eq_true q242);(go_wp2_with (first | (go_at_call 53; (with_reducible refine (spec_l00In.calls ((rdOf ByteArray.empty l0 x3_1).size : Int) 1 32 t243 _ A9.out).mono ?_); rintro e w' ⟨rfl, ⟨nd, rfl⟩⟩; (try first | exact ⟨rfl, _, World.drewN_drewN _ _ _⟩ | exact ⟨rfl, _, Eq.trans (World.drewN_drewN _ _ _) (congrArg (World.drewN _) (Nat.add_assoc _ _ _))⟩))));(repeat (go_quiet (first | (go_at_call 53; (with_reducible refine (spec_l00In.calls ((rdOf ByteArray.empty l0 x3_1).size : Int) 1 32 t243 _ A9.out).mono ?_); rintro e w' ⟨rfl, ⟨nd, rfl⟩⟩; (try first | exact ⟨rfl, _, World.drewN_drewN _ _ _⟩ | exact ⟨rfl, _, Eq.trans (World.drewN_drewN _ _ _) (congrArg (World.drewN _) (Nat.add_assoc _ _ _))⟩))); try go_wp2_with (first | (go_at_call 53; (with_reducible refine (spec_l00In.calls ((rdOf ByteArray.empty l0 x3_1).size : Int) 1 32 t243 _ A9.out).mono ?_); rintro e w' ⟨rfl, ⟨nd, rfl⟩⟩; (try first | exact ⟨rfl, _, World.drewN_drewN _ _ _⟩ | exact ⟨rfl, _, Eq.trans (World.drewN_drewN _ _ _) (congrArg (World.drewN _) (Nat.add_assoc _ _ _))⟩)))))
         go_meet
         case rel => exact ⟨_, (!t243), zq22, H', ⟨zq24⟩, zq46⟩
        ·rw [if_neg c8] at H
         (have c8b0 : (((rdOf ByteArray.empty l0 x3_1).size : Int) == ((rdOf ByteArray.empty l0 0).size : Int)) = false := beq_eq_false_iff_ne.mpr c8);(have c8b1 : (((rdOf ByteArray.empty l0 x3_1).size : Int) != ((rdOf ByteArray.empty l0 0).size : Int)) = true := bne_iff_ne.mpr c8);(have c8b2 : ((rdOf ByteArray.empty l0 x3_1).size == (rdOf ByteArray.empty l0 0).size) = false := by first | simpa using c8 | (simp at c8 ⊢; omega));(have H' := Aside0.mk H);clear H;(have p240 : 0 ≤ (x3_1 : Int) := of_decide_eq_true zq19);(have q240 : x3_1 < (l0.length : Int) := of_decide_eq_true zq19);(obtain ⟨ad240, e240, hx240_0⟩ := Kd.at_string HR0.out x3_1 p240 q240)
         cases e240
         (replace p240 := eq_true p240);(replace q240 := eq_true q240);(have p241 : 0 ≤ (0 : Int) := (by omega));(have q241 : 0 < (l0.length : Int) := of_decide_eq_true zq19);(obtain ⟨ad241, e241, hx241_0⟩ := Kd.at_string HR0.out 0 p241 q241);(obtain rfl : ad240 = ad241 := (by injection e241));(have qi241 : (0 < l0.length) = True := eq_true (by omega));((try rw [show ((0 : Int)).toNat = 0 from rfl] at hx241_0));((try rw [Addr.add_zero'] at hx241_0));(replace p241 := eq_true p241);(replace q241 := eq_true q241);(go_wp2);(repeat (go_quiet (fail); try go_wp2))
         go_meet
         case rel => exact ⟨_, (true), zq22, H', ⟨zq24⟩, zq46⟩
       ·rw [if_neg c7] at H
        exact absurd H (by simp)
      ·rw [if_neg c6] at H
       exact absurd H (by simp)
     case rest =>
      clear HC5;(try clear p2);(try clear q2);(try clear hx2);(try clear qi2);(try clear c3);(try clear c4);(try clear c4b0);(try clear c5);(try clear c6);(try clear c6b0);(try clear c7);(try clear c7b0);(try clear c7b1);(try clear c8);(try clear c8b0);(try clear c8b1);(try clear c8b2);(try clear hx240_0);(try clear hx241_0);(try clear hx242_0);(try clear p2);(try clear p240);(try clear p241);(try clear p242);(try clear q240);(try clear q241);(try clear q242);(obtain ⟨kq, x33_4, rfl, HA, HJ4, ⟨mc4, rfl⟩⟩ := hcut)
      cases kq with
      | zero => exact absurd HA.out (by simp [spec_l12Ok.j1])
      | succ kj4 =>
       (have H := HA.out);clear HA;(simp only [spec_l12Ok.j1] at H);(by_cases c10 : x33_4 = true)
       ·subst c10
        (have H1 : (some false) = some r := zq54);clear H;(have H := H1);clear H1;(obtain rfl := Option.some.inj H);(go_wp2);(repeat (go_quiet (fail); try go_wp2));(go_ret);(exact ⟨zq22, zq46⟩)
       ·replace c10 := Bool.eq_false_iff.mpr c10
        subst c10;(have H1 : (spec_l12Ok.l1 kj4 l0 x3_1 0) = some r := zq53);clear H;(have H := H1);clear H1;(have H' := Aside0.mk H);clear H;(go_wp2);(repeat (go_quiet (fail); try go_wp2))
        go_loopg [4] kj4 (fun kq v4 w' => ∃ (x4_3 : Int), v4 = .int .i64 x4_3 ∧ Aside0 (spec_l12Ok.l1 kq l0 x3_1 x4_3 = some r) ∧ Aside0 (kq ≤ kj4) ∧ Drawn0 w w')
        case atStart => exact ⟨(0), zq22, H', ⟨Nat.le_refl _⟩, zq46⟩
        case round =>
         clear H';(try clear c1);(try clear p2);(try clear q2);(try clear hx2);(try clear qi2);(try clear c3);(try clear c4);(try clear c4b0);(try clear c5);(try clear c6);(try clear c6b0);(try clear c7);(try clear c7b0);(try clear c7b1);(try clear c8);(try clear c8b0);(try clear c8b1);(try clear c8b2);(try clear c10);(try clear hx240_0);(try clear hx241_0);(try clear hx242_0);(try clear p2);(try clear p240);(try clear p241);(try clear p242);(try clear q2);(try clear q240);(try clear q241);(try clear q242);(obtain ⟨x4_3, rfl, HA, HK3, ⟨m3, rfl⟩⟩ := hrel)
         cases gk with
         | zero => exact absurd HA.out (by simp [spec_l12Ok.l1])
         | succ k3 =>
          (have H := HA.out);clear HA;(simp only [spec_l12Ok.l1] at H);(by_cases c11 : 0 ≤ x3_1)
          ·rw [if_pos c11] at H
           (have c11b0 : decide (0 ≤ x3_1) = true := decide_eq_true c11);clear c11;(by_cases c12 : x3_1 < (l0.length : Int))
           ·rw [if_pos c12] at H
            (have c12b0 : decide (x3_1 < (l0.length : Int)) = true := decide_eq_true c12);clear c12;(by_cases c13 : x4_3 < ((rdOf ByteArray.empty l0 x3_1).size : Int))
            ·rw [if_pos c13] at H
             (have c13b0 : decide (x4_3 < ((rdOf ByteArray.empty l0 x3_1).size : Int)) = true := decide_eq_true c13);clear c13;(by_cases c14 : 0 ≤ x4_3)
             ·rw [if_pos c14] at H
              (have c14b0 : decide (0 ≤ x4_3) = true := decide_eq_true c14);clear c14;(by_cases c16 : (bt (rdOf ByteArray.empty l0 x3_1) x4_3) = 46)
              ·rw [if_pos c16] at H
               (have c16b0 : ((bt (rdOf ByteArray.empty l0 x3_1) x4_3) == 46) = true := beq_iff_eq.mpr c16);(have c16b1 : ((bt (rdOf ByteArray.empty l0 x3_1) x4_3) != 46) = false := bne_eq_false_iff_eq.mpr c16);clear c16;(have H' := Aside0.mk H);clear H;(have p244 : 0 ≤ (x3_1 : Int) := of_decide_eq_true zq19);(have q244 : x3_1 < (l0.length : Int) := of_decide_eq_true zq19);(obtain ⟨ad244, e244, hx244_0⟩ := Kd.at_string HR0.out x3_1 p244 q244)
               cases e244
               (replace p244 := eq_true p244);(replace q244 := eq_true q244);(have p245 : 0 ≤ (x3_1 : Int) := of_decide_eq_true zq19);(have q245 : x3_1 < (l0.length : Int) := of_decide_eq_true zq19);(obtain ⟨ad245, e245, hx245_0⟩ := Kd.at_string HR0.out x3_1 p245 q245);(obtain rfl : ad244 = ad245 := (by injection e245));(replace p245 := eq_true p245);(replace q245 := eq_true q245);(have p15 : 0 ≤ (x4_3 : Int) := of_decide_eq_true zq19);(have q15 : x4_3 < ((rdOf ByteArray.empty l0 x3_1).size : Int) := of_decide_eq_true zq19);(have hx15 := bt_at (rdOf ByteArray.empty l0 x3_1) x4_3);(replace p15 := eq_true p15);(replace q15 := eq_true q15);(go_wp2);(repeat (go_quiet (fail); try go_wp2));(go_roundg k3)
               case measure => have := HK1.out; have := HJ4.out; have := HK3.out; omega
               case rel => exact ⟨(wrap64 (x4_3 + 1)), zq22, H', ⟨zq25⟩, zq46⟩
              ·rw [if_neg c16] at H
               (have c16b0 : ((bt (rdOf ByteArray.empty l0 x3_1) x4_3) == 46) = false := beq_eq_false_iff_ne.mpr c16);(have c16b1 : ((bt (rdOf ByteArray.empty l0 x3_1) x4_3) != 46) = true := bne_iff_ne.mpr c16);(replace H := Option.bind_eq_some_iff.mp H);(obtain ⟨t247, A180, H⟩ := H);(replace H : (if t247 = true then (spec_l12Ok.l1 k3 l0 x3_1 (wrap64 (x4_3 + 1))) else (some false)) = some r := H);(have A18 := Aside0.mk A180);clear A180;(by_cases c19 : t247 = true)
               ·subst c19
                (have H1 : (spec_l12Ok.l1 k3 l0 x3_1 (wrap64 (x4_3 + 1))) = some r := zq54);clear H;(have H := H1);clear H1;(have H' := Aside0.mk H);clear H;(have p244 : 0 ≤ (x3_1 : Int) := of_decide_eq_true zq19);(have q244 : x3_1 < (l0.length : Int) := of_decide_eq_true zq19);(obtain ⟨ad244, e244, hx244_0⟩ := Kd.at_string HR0.out x3_1 p244 q244)
                cases e244
                (replace p244 := eq_true p244);(replace q244 := eq_true q244);(have p245 : 0 ≤ (x3_1 : Int) := of_decide_eq_true zq19);(have q245 : x3_1 < (l0.length : Int) := of_decide_eq_true zq19);(obtain ⟨ad245, e245, hx245_0⟩ := Kd.at_string HR0.out x3_1 p245 q245);(obtain rfl : ad244 = ad245 := (by injection e245));(replace p245 := eq_true p245);(replace q245 := eq_true q245);(have p15 : 0 ≤ (x4_3 : Int) := of_decide_eq_true zq19);(have q15 : x4_3 < ((rdOf ByteArray.empty l0 x3_1).size : Int) := of_decide_eq_true zq19);(have hx15 := bt_at (rdOf ByteArray.empty l0 x3_1) x4_3);(replace p15 := eq_true p15);(replace q15 := eq_true q15);(have p246 : 0 ≤ (x3_1 : Int) := of_decide_eq_true zq19);(have q246 : x3_1 < (l0.length : Int) := of_decide_eq_true zq19);(obtain ⟨ad246, e246, hx246_0⟩ := Kd.at_string HR0.out x3_1 p246 q246);(obtain rfl : ad244 = ad246 := (by injection e246));(replace p246 := eq_true p246);(replace q246 := eq_true q246);(have p17 : 0 ≤ (x4_3 : Int) := of_decide_eq_true zq19);(have q17 : x4_3 < ((rdOf ByteArray.empty l0 x3_1).size : Int) := of_decide_eq_true zq19);(have hx17 := bt_at (rdOf ByteArray.empty l0 x3_1) x4_3);(replace p17 := eq_true p17);(replace q17 := eq_true q17);(go_wp2_with (first | (go_at_call 39; (with_reducible refine (spec_l01Small.calls (bt (rdOf ByteArray.empty l0 x3_1) x4_3) true _ A18.out).mono ?_); rintro e w' ⟨rfl, ⟨nd, rfl⟩⟩; (try first | exact ⟨rfl, _, World.drewN_drewN _ _ _⟩ | exact ⟨rfl, _, Eq.trans (World.drewN_drewN _ _ _) (congrArg (World.drewN _) (Nat.add_assoc _ _ _))⟩))));(repeat (go_quiet (first | (go_at_call 39; (with_reducible refine (spec_l01Small.calls (bt (rdOf ByteArray.empty l0 x3_1) x4_3) true _ A18.out).mono ?_); rintro e w' ⟨rfl, ⟨nd, rfl⟩⟩; (try first | exact ⟨rfl, _, World.drewN_drewN _ _ _⟩ | exact ⟨rfl, _, Eq.trans (World.drewN_drewN _ _ _) (congrArg (World.drewN _) (Nat.add_assoc _ _ _))⟩))); try go_wp2_with (first | (go_at_call 39; (with_reducible refine (spec_l01Small.calls (bt (rdOf ByteArray.empty l0 x3_1) x4_3) true _ A18.out).mono ?_); rintro e w' ⟨rfl, ⟨nd, rfl⟩⟩; (try first | exact ⟨rfl, _, World.drewN_drewN _ _ _⟩ | exact ⟨rfl, _, Eq.trans (World.drewN_drewN _ _ _) (congrArg (World.drewN _) (Nat.add_assoc _ _ _))⟩)))));(go_roundg k3)
                case measure => have := HK1.out; have := HJ4.out; have := HK3.out; omega
                case rel => exact ⟨(wrap64 (x4_3 + 1)), zq22, H', ⟨zq25⟩, zq46⟩
               ·replace c19 := Bool.eq_false_iff.mpr c19
                subst c19;(have H1 : (some false) = some r := zq53);clear H;(have H := H1);clear H1;(obtain rfl := Option.some.inj H);(have p244 : 0 ≤ (x3_1 : Int) := of_decide_eq_true zq19);(have q244 : x3_1 < (l0.length : Int) := of_decide_eq_true zq19);(obtain ⟨ad244, e244, hx244_0⟩ := Kd.at_string HR0.out x3_1 p244 q244)
                cases e244
                (replace p244 := eq_true p244);(replace q244 := eq_true q244);(have p245 : 0 ≤ (x3_1 : Int) := of_decide_eq_true zq19);(have q245 : x3_1 < (l0.length : Int) := of_decide_eq_true zq19);(obtain ⟨ad245, e245, hx245_0⟩ := Kd.at_string HR0.out x3_1 p245 q245);(obtain rfl : ad244 = ad245 := (by injection e245));(replace p245 := eq_true p245);(replace q245 := eq_true q245);(have p15 : 0 ≤ (x4_3 : Int) := of_decide_eq_true zq19);(have q15 : x4_3 < ((rdOf ByteArray.empty l0 x3_1).size : Int) := of_decide_eq_true zq19);(have hx15 := bt_at (rdOf ByteArray.empty l0 x3_1) x4_3);(replace p15 := eq_true p15);(replace q15 := eq_true q15);(have p246 : 0 ≤ (x3_1 : Int) := of_decide_eq_true zq19);(have q246 : x3_1 < (l0.length : Int) := of_decide_eq_true zq19);(obtain ⟨ad246, e246, hx246_0⟩ := Kd.at_string HR0.out x3_1 p246 q246);(obtain rfl : ad244 = ad246 := (by injection e246));(replace p246 := eq_true p246);(replace q246 := eq_true q246);(have p17 : 0 ≤ (x4_3 : Int) := of_decide_eq_true zq19);(have q17 : x4_3 < ((rdOf ByteArray.empty l0 x3_1).size : Int) := of_decide_eq_true zq19);(have hx17 := bt_at (rdOf ByteArray.empty l0 x3_1) x4_3);(replace p17 := eq_true p17);(replace q17 := eq_true q17);(go_wp2_with (first | (go_at_call 39; (with_reducible refine (spec_l01Small.calls (bt (rdOf ByteArray.empty l0 x3_1) x4_3) false _ A18.out).mono ?_); rintro e w' ⟨rfl, ⟨nd, rfl⟩⟩; (try first | exact ⟨rfl, _, World.drewN_drewN _ _ _⟩ | exact ⟨rfl, _, Eq.trans (World.drewN_drewN _ _ _) (congrArg (World.drewN _) (Nat.add_assoc _ _ _))⟩))));(repeat (go_quiet (first | (go_at_call 39; (with_reducible refine (spec_l01Small.calls (bt (rdOf ByteArray.empty l0 x3_1) x4_3) false _ A18.out).mono ?_); rintro e w' ⟨rfl, ⟨nd, rfl⟩⟩; (try first | exact ⟨rfl, _, World.drewN_drewN _ _ _⟩ | exact ⟨rfl, _, Eq.trans (World.drewN_drewN _ _ _) (congrArg (World.drewN _) (Nat.add_assoc _ _ _))⟩))); try go_wp2_with (first | (go_at_call 39; (with_reducible refine (spec_l01Small.calls (bt (rdOf ByteArray.empty l0 x3_1) x4_3) false _ A18.out).mono ?_); rintro e w' ⟨rfl, ⟨nd, rfl⟩⟩; (try first | exact ⟨rfl, _, World.drewN_drewN _ _ _⟩ | exact ⟨rfl, _, Eq.trans (World.drewN_drewN _ _ _) (congrArg (World.drewN _) (Nat.add_assoc _ _ _))⟩)))));(go_ret);(exact ⟨zq22, zq46⟩)
             ·rw [if_neg c14] at H
              exact absurd H (by simp)
            ·rw [if_neg c13] at H
             (have c13b0 : decide (x4_3 < ((rdOf ByteArray.empty l0 x3_1).size : Int)) = false := decide_eq_false c13);clear c13;(have H' := Aside0.mk H);clear H;(have p244 : 0 ≤ (x3_1 : Int) := of_decide_eq_true zq19);(have q244 : x3_1 < (l0.length : Int) := of_decide_eq_true zq19);(obtain ⟨ad244, e244, hx244_0⟩ := Kd.at_string HR0.out x3_1 p244 q244)
             cases e244
             (replace p244 := eq_true p244);(replace q244 := eq_true q244);(go_wp2);(repeat (go_quiet (fail); try go_wp2));(go_roundg k3)
             case measure => have := HK1.out; have := HJ4.out; have := HK3.out; omega
             case rel => exact ⟨(wrap64 (x3_1 + 1)), zq22, H', ⟨zq25⟩, zq46⟩
           ·rw [if_neg c12] at H
            exact absurd H (by simp)
          ·rw [if_neg c11] at H
           exact absurd H (by simp)
    ·rw [if_neg c4] at H
     (have c4b0 : decide (x3_1 < (l0.length : Int)) = false := decide_eq_false c4);clear c4;(obtain rfl := Option.some.inj H);(go_wp2);(repeat (go_quiet (fail); try go_wp2));(go_ret);(exact ⟨zq22, zq46⟩)
 ·replace c3 := Bool.eq_false_iff.mpr c3
  subst c3;(have H1 : (some false) = some r := zq53);clear H;(have H := H1);clear H1;(obtain rfl := Option.some.inj H)
  go_enter Tryd.func52, Tryd.ntmps52
  (go_wp2_with (first | (go_at_call 53; (with_reducible refine (spec_l00In.calls (l0.length : Int) 1 16 false _ A2.out).mono ?_); rintro e w' ⟨rfl, ⟨nd, rfl⟩⟩; (try first | exact ⟨rfl, _, World.drewN_drewN _ _ _⟩ | exact ⟨rfl, _, Eq.trans (World.drewN_drewN _ _ _) (congrArg (World.drewN _) (Nat.add_assoc _ _ _))⟩))));(repeat (go_quiet (first | (go_at_call 53; (with_reducible refine (spec_l00In.calls (l0.length : Int) 1 16 false _ A2.out).mono ?_); rintro e w' ⟨rfl, ⟨nd, rfl⟩⟩; (try first | exact ⟨rfl, _, World.drewN_drewN _ _ _⟩ | exact ⟨rfl, _, Eq.trans (World.drewN_drewN _ _ _) (congrArg (World.drewN _) (Nat.add_assoc _ _ _))⟩))); try go_wp2_with (first | (go_at_call 53; (with_reducible refine (spec_l00In.calls (l0.length : Int) 1 16 false _ A2.out).mono ?_); rintro e w' ⟨rfl, ⟨nd, rfl⟩⟩; (try first | exact ⟨rfl, _, World.drewN_drewN _ _ _⟩ | exact ⟨rfl, _, Eq.trans (World.drewN_drewN _ _ _) (congrArg (World.drewN _) (Nat.add_assoc _ _ _))⟩)))));(go_ret);(exact ⟨zq22, zq46⟩)

/-! ### spec_l12Code: function 38 -/
def spec_l12Code.j0 : Nat → List ByteArray → ByteArray → Bool → Option (Int)
 | 0, _, _, _ => none
 | k + 1, x0, x1, x16 => if x16 = true then (some 2) else (if 0 < (x1.size : Int) then ((spec_l12Count.f k x0 (bt x1 0)).bind fun t250 => (if t250 = 0 then (some 3) else (some 0))) else (none))
def spec_l12Code.f (k : Nat) (l0 : List ByteArray) (a1 : ByteArray) : Option (Int) := (spec_l12Ok.f k l0).bind fun t248 => (if t248 = true then (if (a1.size : Int) = 1 then (if 0 < (a1.size : Int) then ((spec_l01Small.f (bt a1 0)).bind fun t249 => (spec_l12Code.j0 k l0 a1 (!t249))) else (none)) else (spec_l12Code.j0 k l0 a1 true)) else (some 1))
theorem spec_l12Code.mono_l : ∀ k, (∀ y0 y1 y2, LeO (spec_l12Code.j0 k y0 y1 y2) (spec_l12Code.j0 (k + 1) y0 y1 y2))
 | 0 => fun _ _ _ r h => by simp [spec_l12Code.j0] at h
 | k + 1 => by
  have ih0 := spec_l12Code.mono_l k
  ·intro y0 y1 y2
   unfold spec_l12Code.j0
   repeat' first | with_reducible (first | exact ih0 _ _ _ | exact spec_l12Count.mono _ _ _ | exact spec_l12Ok.mono _ _ | exact LeO.refl _ | exact LeO.none _ | refine LeO.ite ?_ ?_ | refine LeO.bind ?_ (fun _ => ?_)) | exact ih0 _ _ _ | exact spec_l12Count.mono _ _ _ | exact spec_l12Ok.mono _ _ | exact LeO.none _ | refine LeO.ite ?_ ?_ | refine LeO.bind ?_ (fun _ => ?_)
theorem spec_l12Code.mono : ∀ a0 a1 k, LeO (spec_l12Code.f k a0 a1) (spec_l12Code.f (k + 1) a0 a1) := by
 intro a0 a1 k;(have ih0 := spec_l12Code.mono_l k);(unfold spec_l12Code.f)
 repeat' first | with_reducible (first | exact ih0 _ _ _ | exact spec_l12Count.mono _ _ _ | exact spec_l12Ok.mono _ _ | exact LeO.refl _ | exact LeO.none _ | refine LeO.ite ?_ ?_ | refine LeO.bind ?_ (fun _ => ?_)) | exact ih0 _ _ _ | exact spec_l12Count.mono _ _ _ | exact spec_l12Ok.mono _ _ | exact LeO.none _ | refine LeO.ite ?_ ?_ | refine LeO.bind ?_ (fun _ => ?_)
theorem spec_l12Code.calls (k : Nat) (A0 : Option Addr) (c0 : Nat) (l0 : List ByteArray) (a1 : ByteArray) (r : Int) (w : World) (hr0 : Kd.C Kd.string w A0 l0.length l0) (hc0 : l0.length ≤ c0) (h : spec_l12Code.f k l0 a1 = some r) :
  Calls Tryd.prog 38 #[.slice A0 l0.length c0, .string a1] w fun e w' => e = .returned (.int .i64 r) ∧ Drawn0 w w' := by
 (have HR0 := Aside0.mk hr0);(have HC0 := Aside0.mk hc0);clear hr0 hc0;(have H : ((spec_l12Ok.f k l0).bind fun t248 => (if t248 = true then (if (a1.size : Int) = 1 then (if 0 < (a1.size : Int) then ((spec_l01Small.f (bt a1 0)).bind fun t249 => (spec_l12Code.j0 k l0 a1 (!t249))) else (none)) else (spec_l12Code.j0 k l0 a1 true)) else (some 1))) = some r := h);clear h;(replace H := Option.bind_eq_some_iff.mp H);(obtain ⟨t248, A30, H⟩ := H);(replace H : (if t248 = true then (if (a1.size : Int) = 1 then (if 0 < (a1.size : Int) then ((spec_l01Small.f (bt a1 0)).bind fun t249 => (spec_l12Code.j0 k l0 a1 (!t249))) else (none)) else (spec_l12Code.j0 k l0 a1 true)) else (some 1)) = some r := H);(have A3 := Aside0.mk A30);clear A30;(by_cases c4 : t248 = true)
 ·subst c4
  (have H1 : (if (a1.size : Int) = 1 then (if 0 < (a1.size : Int) then ((spec_l01Small.f (bt a1 0)).bind fun t249 => (spec_l12Code.j0 k l0 a1 (!t249))) else (none)) else (spec_l12Code.j0 k l0 a1 true)) = some r := zq54);clear H;(have H := H1);clear H1;(have HC5 := Aside0.mk H);clear H
  go_enter Tryd.func38, Tryd.ntmps38
  (go_upto_region 3 with (first | ((with_reducible refine gate_callee (f := 52) rfl ?_); refine goesL_ (some 6) rfl rfl Tryd.func52 (by kernel_rfl) rfl #[.slice A0 l0.length c0] rfl zq0 ?_; (with_reducible refine (spec_l12Ok.calls k _ _ l0 true _ ?side1 ?side2 A3.out).mono ?_); (case side1 => exact zq47); (case side2 => exact HC0.out); rintro e w' ⟨rfl, ⟨nd, rfl⟩⟩; refine ⟨_, rfl, ?_⟩)));((try simp only [Act.put, List.setIfInBounds_toArray, List.set_cons_zero, List.set_cons_succ]))
  go_cut [16] (fun v16 wc => ∃ (kq : Nat) (x16_4 : Bool), v16 = .bool x16_4 ∧ Aside0 (spec_l12Code.j0 kq l0 a1 x16_4 = some r) ∧ Aside0 (kq ≤ k) ∧ Drawn0 w wc)
  case first =>
   (have H := HC5.out);clear HC5;(by_cases c6 : (a1.size : Int) = 1)
   ·rw [if_pos c6] at H
    (have c6b0 : ((a1.size : Int) == 1) = true := beq_iff_eq.mpr c6);(have c6b1 : ((a1.size : Int) != 1) = false := bne_eq_false_iff_eq.mpr c6);clear c6;((first | rw [c6b0] | (simp only [i64_w, i32_w]; rw [c6b0]) | skip));(by_cases c7 : 0 < (a1.size : Int))
    ·rw [if_pos c7] at H
     (have c7b0 : decide (0 < (a1.size : Int)) = true := decide_eq_true c7);(have c7b1 : decide (0 < a1.size) = true := decide_eq_true (by omega));clear c7;(replace H := Option.bind_eq_some_iff.mp H);(obtain ⟨t249, A90, H⟩ := H);(replace H : (spec_l12Code.j0 k l0 a1 (!t249)) = some r := H);(have A9 := Aside0.mk A90);clear A90;(have H' := Aside0.mk H);clear H;(have p8 : 0 ≤ (0 : Int) := (by omega));(have q8 : 0 < a1.size := (by have : (0 : Int) < (a1.size : Int) := of_decide_eq_true zq19; omega));(have hx8 : ∀ h : 0 < a1.size, ((a1[0]'h).toNat : Int) = bt a1 0 := bt_at a1 0);clear p8;(have qi8 : (0 < (a1.size : Int)) = True := eq_true (of_decide_eq_true zq19));(replace q8 := eq_true q8);(go_wp2_with (first | (go_at_call 39; (with_reducible refine (spec_l01Small.calls (bt a1 0) t249 _ A9.out).mono ?_); rintro e w' ⟨rfl, ⟨nd, rfl⟩⟩)))
     go_meet
     case rel => exact ⟨_, (!t249), zq22, H', ⟨zq20⟩, zq46⟩
    ·rw [if_neg c7] at H
     exact absurd H (by simp)
   ·rw [if_neg c6] at H
    (have c6b0 : ((a1.size : Int) == 1) = false := beq_eq_false_iff_ne.mpr c6);(have c6b1 : ((a1.size : Int) != 1) = true := bne_iff_ne.mpr c6);((first | rw [c6b0] | (simp only [i64_w, i32_w]; rw [c6b0]) | skip));(have H' := Aside0.mk H);clear H;(go_wp2)
    go_meet
    case rel => exact ⟨_, (true), zq22, H', ⟨zq20⟩, zq46⟩
  case rest =>
   clear HC5;(try clear p2);(try clear c3);(try clear c4);(try clear c5);(try clear c6);(try clear c6b0);(try clear c6b1);(try clear c7);(try clear c7b0);(try clear c7b1);(try clear p8);(try clear q8);(try clear hx8);(try clear qi8);(try clear p8);(try clear q8);(obtain ⟨kq, x16_4, rfl, HA, HJ4, ⟨mc4, rfl⟩⟩ := hcut)
   cases kq with
   | zero => exact absurd HA.out (by simp [spec_l12Code.j0])
   | succ kj4 =>
    (have H := HA.out);clear HA;(simp only [spec_l12Code.j0] at H);(by_cases c10 : x16_4 = true)
    ·subst c10
     (have H1 : (some 2) = some r := zq54);clear H;(have H := H1);clear H1;(obtain rfl := Option.some.inj H);(go_wp2);(go_ret);(exact ⟨zq22, zq46⟩)
    ·replace c10 := Bool.eq_false_iff.mpr c10
     subst c10;(have H1 : (if 0 < (a1.size : Int) then ((spec_l12Count.f kj4 l0 (bt a1 0)).bind fun t250 => (if t250 = 0 then (some 3) else (some 0))) else (none)) = some r := zq53);clear H;(have H := H1);clear H1;(by_cases c11 : 0 < (a1.size : Int))
     ·rw [if_pos c11] at H
      (have c11b0 : decide (0 < (a1.size : Int)) = true := decide_eq_true c11);(have c11b1 : decide (0 < a1.size) = true := decide_eq_true (by omega));clear c11;(replace H := Option.bind_eq_some_iff.mp H);(obtain ⟨t250, A130, H⟩ := H);(replace H : (if t250 = 0 then (some 3) else (some 0)) = some r := H);(have A13 := Aside0.mk A130);clear A130;(by_cases c14 : t250 = 0)
      ·rw [if_pos c14] at H
       (have c14b0 : (t250 == 0) = true := beq_iff_eq.mpr c14);(have c14b1 : (t250 != 0) = false := bne_eq_false_iff_eq.mpr c14);clear c14;(obtain rfl := Option.some.inj H);(have p12 : 0 ≤ (0 : Int) := (by omega));(have q12 : 0 < a1.size := (by have : (0 : Int) < (a1.size : Int) := of_decide_eq_true zq19; omega));(have hx12 : ∀ h : 0 < a1.size, ((a1[0]'h).toNat : Int) = bt a1 0 := bt_at a1 0);clear p12;(have qi12 : (0 < (a1.size : Int)) = True := eq_true (of_decide_eq_true zq19));(replace q12 := eq_true q12);(go_wp2_with (first | ((with_reducible refine gate_callee (f := 44) rfl ?_); refine goesL_ (some 20) rfl rfl Tryd.func44 (by kernel_rfl) rfl #[.slice A0 l0.length c0, .int .u8 (bt a1 0)] rfl zq0 ?_; (with_reducible refine (spec_l12Count.calls kj4 _ _ l0 (bt a1 0) t250 _ ?side1 ?side2 A13.out).mono ?_); (case side1 => exact zq47); (case side2 => exact HC0.out); rintro e w' ⟨rfl, ⟨nd, rfl⟩⟩; refine ⟨_, rfl, ?_⟩)));(go_ret);(exact ⟨zq22, zq46⟩)
      ·rw [if_neg c14] at H
       (have c14b0 : (t250 == 0) = false := beq_eq_false_iff_ne.mpr c14);(have c14b1 : (t250 != 0) = true := bne_iff_ne.mpr c14);(obtain rfl := Option.some.inj H);(have p12 : 0 ≤ (0 : Int) := (by omega));(have q12 : 0 < a1.size := (by have : (0 : Int) < (a1.size : Int) := of_decide_eq_true zq19; omega));(have hx12 : ∀ h : 0 < a1.size, ((a1[0]'h).toNat : Int) = bt a1 0 := bt_at a1 0);clear p12;(have qi12 : (0 < (a1.size : Int)) = True := eq_true (of_decide_eq_true zq19));(replace q12 := eq_true q12);(go_wp2_with (first | ((with_reducible refine gate_callee (f := 44) rfl ?_); refine goesL_ (some 20) rfl rfl Tryd.func44 (by kernel_rfl) rfl #[.slice A0 l0.length c0, .int .u8 (bt a1 0)] rfl zq0 ?_; (with_reducible refine (spec_l12Count.calls kj4 _ _ l0 (bt a1 0) t250 _ ?side1 ?side2 A13.out).mono ?_); (case side1 => exact zq47); (case side2 => exact HC0.out); rintro e w' ⟨rfl, ⟨nd, rfl⟩⟩; refine ⟨_, rfl, ?_⟩)));(go_ret);(exact ⟨zq22, zq46⟩)
     ·rw [if_neg c11] at H
      exact absurd H (by simp)
 ·replace c4 := Bool.eq_false_iff.mpr c4
  subst c4;(have H1 : (some 1) = some r := zq53);clear H;(have H := H1);clear H1;(obtain rfl := Option.some.inj H)
  go_enter Tryd.func38, Tryd.ntmps38
  (go_wp2_with (first | ((with_reducible refine gate_callee (f := 52) rfl ?_); refine goesL_ (some 6) rfl rfl Tryd.func52 (by kernel_rfl) rfl #[.slice A0 l0.length c0] rfl zq0 ?_; (with_reducible refine (spec_l12Ok.calls k _ _ l0 false _ ?side1 ?side2 A3.out).mono ?_); (case side1 => exact zq47); (case side2 => exact HC0.out); rintro e w' ⟨rfl, ⟨nd, rfl⟩⟩; refine ⟨_, rfl, ?_⟩)));(go_ret);(exact ⟨zq22, zq46⟩)

end Go.Proofs.YtdkmngghknohgaaDoor.PFnIslands
