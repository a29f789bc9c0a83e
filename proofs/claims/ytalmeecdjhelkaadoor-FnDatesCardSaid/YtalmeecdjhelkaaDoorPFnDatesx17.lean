-- Made by a program of this session (gprint.py) out of the kit's print of the translation and texts of my own. SLIM
import Derived.Test.YtalmeecdjhelkaaDoorPFnDatesx0
import Derived.Test.YtalmeecdjhelkaaDoorPFnDatesx4
namespace Go.Proofs.YtalmeecdjhelkaaDoor.PFnDates
open Go.RowKit Go.Proofs.YtalmeecdjhelkaaDoorW.PrintWords Go.Proofs.YtalmeecdjhelkaaDoorW.PrintLast Go.Proofs.YtalmeecdjhelkaaDoorW.PrintMore
set_option maxHeartbeats 64000000
set_option maxRecDepth 100000
attribute [local go_sem] max2_int min2_int max_two min_two max_three min_three max_four min_four   -- for this text's walks alone
set_option linter.unusedVariables false
set_option linter.unusedSimpArgs false

/-! ### laws_f6texts: function 42 -/
def laws_f6texts.l0 : Nat → List ByteArray → List ByteArray → Int → Option (Bool)
 | 0, _, _, _ => none
 | k + 1, x0, x1, x5 => if x5 < (x0.length : Int) then (if 0 ≤ x5 then (if x5 < (x1.length : Int) then (if (rdOf ByteArray.empty x0 x5).toList = (rdOf ByteArray.empty x1 x5).toList then (laws_f6texts.l0 k x0 x1 (wrap64 (x5 + 1))) else (some false)) else (none)) else (none)) else (some true)
def laws_f6texts.f (k : Nat) (l0 : List ByteArray) (l1 : List ByteArray) : Option (Bool) := if (l0.length : Int) = (l1.length : Int) then (laws_f6texts.l0 k l0 l1 0) else (some false)
theorem laws_f6texts.mono_l : ∀ k, (∀ y0 y1 y2, LeO (laws_f6texts.l0 k y0 y1 y2) (laws_f6texts.l0 (k + 1) y0 y1 y2))
 | 0 => fun _ _ _ r h => by simp [laws_f6texts.l0] at h
 | k + 1 => by
  have ih0 := laws_f6texts.mono_l k
  ·intro y0 y1 y2
   unfold laws_f6texts.l0
   repeat' first | with_reducible (first | exact ih0 _ _ _ | exact LeO.refl _ | exact LeO.none _ | refine LeO.ite ?_ ?_ | refine LeO.bind ?_ (fun _ => ?_)) | exact ih0 _ _ _ | exact LeO.none _ | refine LeO.ite ?_ ?_ | refine LeO.bind ?_ (fun _ => ?_)
theorem laws_f6texts.mono : ∀ a0 a1 k, LeO (laws_f6texts.f k a0 a1) (laws_f6texts.f (k + 1) a0 a1) := by
 intro a0 a1 k;(have ih0 := laws_f6texts.mono_l k);(unfold laws_f6texts.f)
 repeat' first | with_reducible (first | exact ih0 _ _ _ | exact LeO.refl _ | exact LeO.none _ | refine LeO.ite ?_ ?_ | refine LeO.bind ?_ (fun _ => ?_)) | exact ih0 _ _ _ | exact LeO.none _ | refine LeO.ite ?_ ?_ | refine LeO.bind ?_ (fun _ => ?_)
theorem laws_f6texts.calls (k : Nat) (A0 : Option Addr) (c0 : Nat) (l0 : List ByteArray) (A1 : Option Addr) (c1 : Nat) (l1 : List ByteArray) (r : Bool) (w : World) (hr0 : Kd.C Kd.string w A0 l0.length l0) (hc0 : l0.length ≤ c0) (hr1 : Kd.C Kd.string w A1 l1.length l1) (hc1 : l1.length ≤ c1) (h : laws_f6texts.f k l0 l1 = some r) :
  Calls Tryd.prog 42 #[.slice A0 l0.length c0, .slice A1 l1.length c1] w fun e w' => e = .returned (.bool r) ∧ Drawn0 w w' := by
 (have HR0 := Aside0.mk hr0);(have HC0 := Aside0.mk hc0);clear hr0 hc0;(have HR1 := Aside0.mk hr1);(have HC1 := Aside0.mk hc1);clear hr1 hc1;(have H : (if (l0.length : Int) = (l1.length : Int) then (laws_f6texts.l0 k l0 l1 0) else (some false)) = some r := h);clear h;(by_cases c3 : (l0.length : Int) = (l1.length : Int))
 ·rw [if_pos c3] at H
  (have c3b0 : ((l0.length : Int) == (l1.length : Int)) = true := beq_iff_eq.mpr c3);(have c3b1 : ((l0.length : Int) != (l1.length : Int)) = false := bne_eq_false_iff_eq.mpr c3);(have c3b2 : (l0.length == l1.length) = true := by first | simpa using c3 | (simp at c3 ⊢; omega));clear c3;(have H' := Aside0.mk H);clear H
  go_enter Tryd.func42, Tryd.ntmps42
  (go_wp2);(repeat (go_quiet (fail); try go_wp2))
  go_loopg [5] k (fun kq v5 w' => ∃ (x5_1 : Int), v5 = .int .i64 x5_1 ∧ Aside0 (laws_f6texts.l0 kq l0 l1 x5_1 = some r) ∧ Aside0 (kq ≤ k) ∧ Drawn0 w w')
  case atStart => exact ⟨(0), zq28, H', ⟨Nat.le_refl _⟩, zq73⟩
  case round =>
   clear H';(try clear c1);(try clear p2);(try clear c3);(try clear c3b0);(try clear c3b1);(try clear c3b2);(obtain ⟨x5_1, rfl, HA, HK1, ⟨m1, rfl⟩⟩ := hrel)
   cases gk with
   | zero => exact absurd HA.out (by simp [laws_f6texts.l0])
   | succ k1 =>
    (have H := HA.out);clear HA;(simp only [laws_f6texts.l0] at H);(by_cases c4 : x5_1 < (l0.length : Int))
    ·rw [if_pos c4] at H
     (have c4b0 : decide (x5_1 < (l0.length : Int)) = true := decide_eq_true c4);clear c4;(by_cases c5 : 0 ≤ x5_1)
     ·rw [if_pos c5] at H
      (have c5b0 : decide (0 ≤ x5_1) = true := decide_eq_true c5);clear c5;(by_cases c6 : x5_1 < (l1.length : Int))
      ·rw [if_pos c6] at H
       (have c6b0 : decide (x5_1 < (l1.length : Int)) = true := decide_eq_true c6);clear c6;(by_cases c7 : (rdOf ByteArray.empty l0 x5_1).toList = (rdOf ByteArray.empty l1 x5_1).toList)
       ·rw [if_pos c7] at H
        (have c7b0 : ((rdOf ByteArray.empty l0 x5_1).toList == (rdOf ByteArray.empty l1 x5_1).toList) = true := beq_iff_eq.mpr c7);(have c7b1 : ((rdOf ByteArray.empty l0 x5_1).toList != (rdOf ByteArray.empty l1 x5_1).toList) = false := bne_eq_false_iff_eq.mpr c7);clear c7;(have H' := Aside0.mk H);clear H;(have p430 : 0 ≤ (x5_1 : Int) := of_decide_eq_true zq22);(have q430 : x5_1 < (l0.length : Int) := of_decide_eq_true zq22);(obtain ⟨ad430, e430, hx430_0⟩ := Kd.at_string HR0.out x5_1 p430 q430)
        cases e430
        (replace p430 := eq_true p430);(replace q430 := eq_true q430);(have p431 : 0 ≤ (x5_1 : Int) := of_decide_eq_true zq22);(have q431 : x5_1 < (l1.length : Int) := of_decide_eq_true zq22);(obtain ⟨ad431, e431, hx431_0⟩ := Kd.at_string HR1.out x5_1 p431 q431)
        cases e431
        (replace p431 := eq_true p431);(replace q431 := eq_true q431);(go_wp2);(repeat (go_quiet (fail); try go_wp2));(go_roundg k1)
        case measure => have := HK1.out; omega
        case rel => exact ⟨(wrap64 (x5_1 + 1)), zq28, H', ⟨zq33⟩, zq73⟩
       ·rw [if_neg c7] at H
        (have c7b0 : ((rdOf ByteArray.empty l0 x5_1).toList == (rdOf ByteArray.empty l1 x5_1).toList) = false := beq_eq_false_iff_ne.mpr c7);(have c7b1 : ((rdOf ByteArray.empty l0 x5_1).toList != (rdOf ByteArray.empty l1 x5_1).toList) = true := bne_iff_ne.mpr c7);(obtain rfl := Option.some.inj H);(have p430 : 0 ≤ (x5_1 : Int) := of_decide_eq_true zq22);(have q430 : x5_1 < (l0.length : Int) := of_decide_eq_true zq22);(obtain ⟨ad430, e430, hx430_0⟩ := Kd.at_string HR0.out x5_1 p430 q430)
        cases e430
        (replace p430 := eq_true p430);(replace q430 := eq_true q430);(have p431 : 0 ≤ (x5_1 : Int) := of_decide_eq_true zq22);(have q431 : x5_1 < (l1.length : Int) := of_decide_eq_true zq22);(obtain ⟨ad431, e431, hx431_0⟩ := Kd.at_string HR1.out x5_1 p431 q431)
        cases e431
        (replace p431 := eq_true p431);(replace q431 := eq_true q431);(go_wp2);(repeat (go_quiet (fail); try go_wp2));(go_ret);(exact ⟨zq28, zq73⟩)
      ·rw [if_neg c6] at H
       exact absurd H (by simp)
     ·rw [if_neg c5] at H
      exact absurd H (by simp)
    ·rw [if_neg c4] at H
     (have c4b0 : decide (x5_1 < (l0.length : Int)) = false := decide_eq_false c4);clear c4;(obtain rfl := Option.some.inj H);(go_wp2);(repeat (go_quiet (fail); try go_wp2));(go_ret);(exact ⟨zq28, zq73⟩)
 ·rw [if_neg c3] at H
  (have c3b0 : ((l0.length : Int) == (l1.length : Int)) = false := beq_eq_false_iff_ne.mpr c3);(have c3b1 : ((l0.length : Int) != (l1.length : Int)) = true := bne_iff_ne.mpr c3);(have c3b2 : (l0.length == l1.length) = false := by first | simpa using c3 | (simp at c3 ⊢; omega));(obtain rfl := Option.some.inj H)
  go_enter Tryd.func42, Tryd.ntmps42
  (go_wp2);(repeat (go_quiet (fail); try go_wp2));(go_ret);(exact ⟨zq28, zq73⟩)

/-! ### spec_ValidKnown: function 44 -/
def spec_ValidKnown.f (k : Nat) (l0 : List (S90)) : Option (Bool) := (spec_l14Known.f k l0).bind fun t432 => (some t432)
theorem spec_ValidKnown.mono : ∀ a0 k, LeO (spec_ValidKnown.f k a0) (spec_ValidKnown.f (k + 1) a0) := by
 intro a0 k;(unfold spec_ValidKnown.f)
 repeat' first | with_reducible (first | exact spec_l14Known.mono _ _ | exact LeO.refl _ | exact LeO.none _ | refine LeO.ite ?_ ?_ | refine LeO.bind ?_ (fun _ => ?_)) | exact spec_l14Known.mono _ _ | exact LeO.none _ | refine LeO.ite ?_ ?_ | refine LeO.bind ?_ (fun _ => ?_)
theorem spec_ValidKnown.calls (k : Nat) (A0 : Option Addr) (c0 : Nat) (l0 : List (S90)) (r : Bool) (w : World) (hr0 : Kd.C k90 w A0 l0.length l0) (hc0 : l0.length ≤ c0) (h : spec_ValidKnown.f k l0 = some r) :
  Calls Tryd.prog 44 #[.slice A0 l0.length c0] w fun e w' => e = .returned (.bool r) ∧ Below w.heap.size w w' := by
 (have HR0 := Aside0.mk hr0);(have HC0 := Aside0.mk hc0);clear hr0 hc0;(have HB := Aside0.mk (Below.refl w.heap.size w));(have H : ((spec_l14Known.f k l0).bind fun t432 => (some t432)) = some r := h);clear h;(replace H := Option.bind_eq_some_iff.mp H);(obtain ⟨t432, A20, H⟩ := H);(replace H : (some t432) = some r := H);(have A2 := Aside0.mk A20);clear A20;(obtain rfl := Option.some.inj H)
 go_enter Tryd.func44, Tryd.ntmps44
 (go_wp2_with (first | ((with_reducible refine gate_callee (f := 72) rfl ?_); refine goesL_ (some 4) rfl rfl Tryd.func72 (by kernel_rfl) rfl #[.slice A0 l0.length c0] rfl zq0 ?_; (with_reducible refine (spec_l14Known.calls k _ _ l0 t432 _ ?side1 ?side2 A2.out).mono ?_); (case side1 => exact zq74); (case side2 => exact HC0.out); rintro e w3 ⟨rfl, hb⟩; refine ⟨_, rfl, ?_⟩; have n0_ := Aside0.mk (below_step zq45 hb); clear HB; have HB := n0_; clear n0_; (try clear hb); (try clear hb2); (try clear hk); (try clear hi))));(go_ret);(exact ⟨zq27, zq45⟩)

/-! ### laws_f6word: function 45 -/
def laws_f6word.l0 : Nat → List ByteArray → ByteArray → Int → Option (Bool)
 | 0, _, _, _ => none
 | k + 1, x0, x1, x5 => if x5 < (x0.length : Int) then (if 0 ≤ x5 then (if (rdOf ByteArray.empty x0 x5).toList = x1.toList then (some true) else (laws_f6word.l0 k x0 x1 (wrap64 (x5 + 1)))) else (none)) else (some false)
def laws_f6word.f (k : Nat) (l0 : List ByteArray) (a1 : ByteArray) : Option (Bool) := laws_f6word.l0 k l0 a1 0
theorem laws_f6word.mono_l : ∀ k, (∀ y0 y1 y2, LeO (laws_f6word.l0 k y0 y1 y2) (laws_f6word.l0 (k + 1) y0 y1 y2))
 | 0 => fun _ _ _ r h => by simp [laws_f6word.l0] at h
 | k + 1 => by
  have ih0 := laws_f6word.mono_l k
  ·intro y0 y1 y2
   unfold laws_f6word.l0
   repeat' first | with_reducible (first | exact ih0 _ _ _ | exact LeO.refl _ | exact LeO.none _ | refine LeO.ite ?_ ?_ | refine LeO.bind ?_ (fun _ => ?_)) | exact ih0 _ _ _ | exact LeO.none _ | refine LeO.ite ?_ ?_ | refine LeO.bind ?_ (fun _ => ?_)
theorem laws_f6word.mono : ∀ a0 a1 k, LeO (laws_f6word.f k a0 a1) (laws_f6word.f (k + 1) a0 a1) := by
 intro a0 a1 k;(have ih0 := laws_f6word.mono_l k);(unfold laws_f6word.f)
 repeat' first | with_reducible (first | exact ih0 _ _ _ | exact LeO.refl _ | exact LeO.none _ | refine LeO.ite ?_ ?_ | refine LeO.bind ?_ (fun _ => ?_)) | exact ih0 _ _ _ | exact LeO.none _ | refine LeO.ite ?_ ?_ | refine LeO.bind ?_ (fun _ => ?_)
theorem laws_f6word.calls (k : Nat) (A0 : Option Addr) (c0 : Nat) (l0 : List ByteArray) (a1 : ByteArray) (r : Bool) (w : World) (hr0 : Kd.C Kd.string w A0 l0.length l0) (hc0 : l0.length ≤ c0) (h : laws_f6word.f k l0 a1 = some r) :
  Calls Tryd.prog 45 #[.slice A0 l0.length c0, .string a1] w fun e w' => e = .returned (.bool r) ∧ Drawn0 w w' := by
 (have HR0 := Aside0.mk hr0);(have HC0 := Aside0.mk hc0);clear hr0 hc0;(have H : (laws_f6word.l0 k l0 a1 0) = some r := h);clear h;(have H' := Aside0.mk H);clear H
 go_enter Tryd.func45, Tryd.ntmps45
 go_wp2
 go_loopg [5] k (fun kq v5 w' => ∃ (x5_1 : Int), v5 = .int .i64 x5_1 ∧ Aside0 (laws_f6word.l0 kq l0 a1 x5_1 = some r) ∧ Aside0 (kq ≤ k) ∧ Drawn0 w w')
 case atStart => exact ⟨(0), zq28, H', ⟨Nat.le_refl _⟩, zq73⟩
 case round =>
  clear H';(try clear p2);(obtain ⟨x5_1, rfl, HA, HK1, ⟨m1, rfl⟩⟩ := hrel)
  cases gk with
  | zero => exact absurd HA.out (by simp [laws_f6word.l0])
  | succ k1 =>
   (have H := HA.out);clear HA;(simp only [laws_f6word.l0] at H);(by_cases c3 : x5_1 < (l0.length : Int))
   ·rw [if_pos c3] at H
    (have c3b0 : decide (x5_1 < (l0.length : Int)) = true := decide_eq_true c3);clear c3;(by_cases c4 : 0 ≤ x5_1)
    ·rw [if_pos c4] at H
     (have c4b0 : decide (0 ≤ x5_1) = true := decide_eq_true c4);clear c4;(by_cases c5 : (rdOf ByteArray.empty l0 x5_1).toList = a1.toList)
     ·rw [if_pos c5] at H
      (have c5b0 : ((rdOf ByteArray.empty l0 x5_1).toList == a1.toList) = true := beq_iff_eq.mpr c5);(have c5b1 : ((rdOf ByteArray.empty l0 x5_1).toList != a1.toList) = false := bne_eq_false_iff_eq.mpr c5);clear c5;(obtain rfl := Option.some.inj H);(have p433 : 0 ≤ (x5_1 : Int) := of_decide_eq_true zq22);(have q433 : x5_1 < (l0.length : Int) := of_decide_eq_true zq22);(obtain ⟨ad433, e433, hx433_0⟩ := Kd.at_string HR0.out x5_1 p433 q433)
      cases e433
      (replace p433 := eq_true p433);(replace q433 := eq_true q433);(go_wp2);(go_ret);(exact ⟨zq28, zq73⟩)
     ·rw [if_neg c5] at H
      (have c5b0 : ((rdOf ByteArray.empty l0 x5_1).toList == a1.toList) = false := beq_eq_false_iff_ne.mpr c5);(have c5b1 : ((rdOf ByteArray.empty l0 x5_1).toList != a1.toList) = true := bne_iff_ne.mpr c5);(have H' := Aside0.mk H);clear H;(have p433 : 0 ≤ (x5_1 : Int) := of_decide_eq_true zq22);(have q433 : x5_1 < (l0.length : Int) := of_decide_eq_true zq22);(obtain ⟨ad433, e433, hx433_0⟩ := Kd.at_string HR0.out x5_1 p433 q433)
      cases e433
      (replace p433 := eq_true p433);(replace q433 := eq_true q433);(go_wp2);(go_roundg k1)
      case measure => have := HK1.out; omega
      case rel => exact ⟨(wrap64 (x5_1 + 1)), zq28, H', ⟨zq33⟩, zq73⟩
    ·rw [if_neg c4] at H
     exact absurd H (by simp)
   ·rw [if_neg c3] at H
    (have c3b0 : decide (x5_1 < (l0.length : Int)) = false := decide_eq_false c3);clear c3;(obtain rfl := Option.some.inj H);(go_wp2);(go_ret);(exact ⟨zq28, zq73⟩)

end Go.Proofs.YtalmeecdjhelkaaDoor.PFnDates
