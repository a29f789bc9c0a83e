-- Made by a program of this session (gprint.py) out of the kit's print of the translation and texts of my own. SLIM
import Derived.Test.YtalmeecdjhelkaaDoorPFnEditionsx0
import Derived.Test.YtalmeecdjhelkaaDoorPFnEditionsx4
import Derived.Test.YtalmeecdjhelkaaDoorPFnEditionsx5
namespace Go.Proofs.YtalmeecdjhelkaaDoor.PFnEditions
open Go.RowKit Go.Proofs.YtalmeecdjhelkaaDoorW.PrintWords Go.Proofs.YtalmeecdjhelkaaDoorW.PrintLast Go.Proofs.YtalmeecdjhelkaaDoorW.PrintMore
set_option maxHeartbeats 64000000
set_option maxRecDepth 100000
attribute [local go_sem] max2_int min2_int max_two min_two max_three min_three max_four min_four   -- for this text's walks alone
set_option linter.unusedVariables false
set_option linter.unusedSimpArgs false

/-! ### impl_check: function 93 -/
def impl_check.f (a0 : Bool) (a1 : Bool) : Option (Int) := if a0 = true then (if a1 = true then (some 0) else (some 2)) else (some 1)
theorem impl_check.calls (a0 : Bool) (a1 : Bool) (r : Int) (w : World) (h : impl_check.f a0 a1 = some r) :
  Calls Tryd.prog 93 #[.bool a0, .bool a1] w fun e w' => e = .returned (.int .i64 r) ∧ Drawn0 w w' := by
 (have H : (if a0 = true then (if a1 = true then (some 0) else (some 2)) else (some 1)) = some r := h);clear h;(by_cases c3 : a0 = true)
 ·subst c3
  (have H1 : (if a1 = true then (some 0) else (some 2)) = some r := zq93);clear H;(have H := H1);clear H1;(by_cases c4 : a1 = true)
  ·subst c4
   (have H1 : (some 0) = some r := zq93);clear H;(have H := H1);clear H1;(obtain rfl := Option.some.inj H)
   go_enter Tryd.func93, Tryd.ntmps93
   (go_wp2);(go_ret);(exact ⟨zq35, zq87⟩)
  ·replace c4 := Bool.eq_false_iff.mpr c4
   subst c4;(have H1 : (some 2) = some r := zq92);clear H;(have H := H1);clear H1;(obtain rfl := Option.some.inj H)
   go_enter Tryd.func93, Tryd.ntmps93
   (go_wp2);(go_ret);(exact ⟨zq35, zq87⟩)
 ·replace c3 := Bool.eq_false_iff.mpr c3
  subst c3;(have H1 : (some 1) = some r := zq92);clear H;(have H := H1);clear H1;(obtain rfl := Option.some.inj H)
  go_enter Tryd.func93, Tryd.ntmps93
  (go_wp2);(go_ret);(exact ⟨zq35, zq87⟩)

/-! ### impl_editionCode: function 65 -/
def impl_editionCode.f (k : Nat) (l0 : List (S64)) (a1 : Int) : Option (Int) := (impl_ValidEditions.f k l0).bind fun t149 => ((impl_within.f a1 0 (wrap64 ((l0.length : Int) - 1))).bind fun t150 => ((impl_check.f t149 t150).bind fun t151 => (some t151)))
theorem impl_editionCode.mono : ∀ a0 a1 k, LeO (impl_editionCode.f k a0 a1) (impl_editionCode.f (k + 1) a0 a1) := by
 intro a0 a1 k;(unfold impl_editionCode.f)
 repeat' first | with_reducible (first | exact impl_ValidEditions.mono _ _ | exact LeO.refl _ | exact LeO.none _ | refine LeO.ite ?_ ?_ | refine LeO.bind ?_ (fun _ => ?_)) | exact impl_ValidEditions.mono _ _ | exact LeO.none _ | refine LeO.ite ?_ ?_ | refine LeO.bind ?_ (fun _ => ?_)
theorem impl_editionCode.calls (k : Nat) (A0 : Option Addr) (c0 : Nat) (l0 : List (S64)) (a1 : Int) (r : Int) (w : World) (hr0 : Kd.C k64 w A0 l0.length l0) (hc0 : l0.length ≤ c0) (h : impl_editionCode.f k l0 a1 = some r) :
  Calls Tryd.prog 65 #[.slice A0 l0.length c0, .int .i64 a1] w fun e w' => e = .returned (.int .i64 r) ∧ Below w.heap.size w w' := by
 (have HR0 := Aside0.mk hr0);(have HC0 := Aside0.mk hc0);clear hr0 hc0;(have HB := Aside0.mk (Below.refl w.heap.size w));(have H : ((impl_ValidEditions.f k l0).bind fun t149 => ((impl_within.f a1 0 (wrap64 ((l0.length : Int) - 1))).bind fun t150 => ((impl_check.f t149 t150).bind fun t151 => (some t151)))) = some r := h);clear h;(replace H := Option.bind_eq_some_iff.mp H);(obtain ⟨t149, A30, H⟩ := H);(replace H : ((impl_within.f a1 0 (wrap64 ((l0.length : Int) - 1))).bind fun t150 => ((impl_check.f t149 t150).bind fun t151 => (some t151))) = some r := H);(have A3 := Aside0.mk A30);clear A30;(replace H := Option.bind_eq_some_iff.mp H);(obtain ⟨t150, A40, H⟩ := H);(replace H : ((impl_check.f t149 t150).bind fun t151 => (some t151)) = some r := H);(have A4 := Aside0.mk A40);clear A40;(replace H := Option.bind_eq_some_iff.mp H);(obtain ⟨t151, A50, H⟩ := H);(replace H : (some t151) = some r := H);(have A5 := Aside0.mk A50);clear A50;(obtain rfl := Option.some.inj H)
 go_enter Tryd.func65, Tryd.ntmps65
 (go_wp2_with (first | ((with_reducible refine gate_callee (f := 58) rfl ?_); refine goesL_ (some 6) rfl rfl Tryd.func58 (by kernel_rfl) rfl #[.slice A0 l0.length c0] rfl zq1 ?_; (with_reducible refine (impl_ValidEditions.calls k _ _ l0 t149 _ ?side1 ?side2 A3.out).mono ?_); (case side1 => exact zq88); (case side2 => exact HC0.out); rintro e w6 ⟨rfl, hb⟩; refine ⟨_, rfl, ?_⟩; have n0_ := Aside0.mk (below_step zq55 hb); clear HB; have HB := n0_; clear n0_; (try clear hb); (try clear hb2); (try clear hk); (try clear hi)) | ((with_reducible refine gate_callee (f := 104) rfl ?_); refine goesL_ (some 11) rfl rfl Tryd.func104 (by kernel_rfl) rfl #[.int .i64 a1, .int .i64 0, .int .i64 (wrap64 ((l0.length : Int) - 1))] rfl zq1 ?_; (with_reducible refine (impl_within.calls a1 0 (wrap64 ((l0.length : Int) - 1)) t150 _ A4.out).mono ?_); rintro e w' ⟨rfl, ⟨nd, rfl⟩⟩; refine ⟨_, rfl, ?_⟩) | ((with_reducible refine gate_callee (f := 93) rfl ?_); refine goesL_ (some 12) rfl rfl Tryd.func93 (by kernel_rfl) rfl #[.bool t149, .bool t150] rfl zq1 ?_; (with_reducible refine (impl_check.calls t149 t150 t151 _ A5.out).mono ?_); rintro e w' ⟨rfl, ⟨nd, rfl⟩⟩; refine ⟨_, rfl, ?_⟩)));(go_ret);(exact ⟨zq34, zq55⟩)

/-! ### slices_Index_string_string: function 131 -/
def slices_Index_string_string.l0 : Nat → List ByteArray → ByteArray → Int → Int → Option (Int)
 | 0, _, _, _, _ => none
 | k + 1, x0, x1, x7, x8 => if x8 < x7 then (if 0 ≤ x8 then (if x8 < (x0.length : Int) then (if x1.toList = (rdOf ByteArray.empty x0 x8).toList then (some x8) else (slices_Index_string_string.l0 k x0 x1 x7 (wrap64 (x8 + 1)))) else (none)) else (none)) else (some (-1))
def slices_Index_string_string.f (k : Nat) (l0 : List ByteArray) (a1 : ByteArray) : Option (Int) := slices_Index_string_string.l0 k l0 a1 (l0.length : Int) 0
theorem slices_Index_string_string.mono_l : ∀ k, (∀ y0 y1 y2 y3, LeO (slices_Index_string_string.l0 k y0 y1 y2 y3) (slices_Index_string_string.l0 (k + 1) y0 y1 y2 y3))
 | 0 => fun _ _ _ _ r h => by simp [slices_Index_string_string.l0] at h
 | k + 1 => by
  have ih0 := slices_Index_string_string.mono_l k
  ·intro y0 y1 y2 y3
   unfold slices_Index_string_string.l0
   repeat' first | with_reducible (first | exact ih0 _ _ _ _ | exact LeO.refl _ | exact LeO.none _ | refine LeO.ite ?_ ?_ | refine LeO.bind ?_ (fun _ => ?_)) | exact ih0 _ _ _ _ | exact LeO.none _ | refine LeO.ite ?_ ?_ | refine LeO.bind ?_ (fun _ => ?_)
theorem slices_Index_string_string.mono : ∀ a0 a1 k, LeO (slices_Index_string_string.f k a0 a1) (slices_Index_string_string.f (k + 1) a0 a1) := by
 intro a0 a1 k;(have ih0 := slices_Index_string_string.mono_l k);(unfold slices_Index_string_string.f)
 repeat' first | with_reducible (first | exact ih0 _ _ _ _ | exact LeO.refl _ | exact LeO.none _ | refine LeO.ite ?_ ?_ | refine LeO.bind ?_ (fun _ => ?_)) | exact ih0 _ _ _ _ | exact LeO.none _ | refine LeO.ite ?_ ?_ | refine LeO.bind ?_ (fun _ => ?_)
theorem slices_Index_string_string.calls (k : Nat) (A0 : Option Addr) (c0 : Nat) (l0 : List ByteArray) (a1 : ByteArray) (r : Int) (w : World) (hr0 : Kd.C Kd.string w A0 l0.length l0) (hc0 : l0.length ≤ c0) (h : slices_Index_string_string.f k l0 a1 = some r) :
  Calls Tryd.prog 131 #[.slice A0 l0.length c0, .string a1] w fun e w' => e = .returned (.int .i64 r) ∧ Drawn0 w w' := by
 (have HR0 := Aside0.mk hr0);(have HC0 := Aside0.mk hc0);clear hr0 hc0;(have H : (slices_Index_string_string.l0 k l0 a1 (l0.length : Int) 0) = some r := h);clear h;(have H' := Aside0.mk H);clear H
 go_enter Tryd.func131, Tryd.ntmps131
 go_wp2
 go_loopg [8] k (fun kq v8 w' => ∃ (x8_1 : Int), v8 = .int .i64 x8_1 ∧ Aside0 (slices_Index_string_string.l0 kq l0 a1 (l0.length : Int) x8_1 = some r) ∧ Aside0 (kq ≤ k) ∧ Drawn0 w w')
 case atStart => exact ⟨(0), zq35, H', ⟨Nat.le_refl _⟩, zq87⟩
 case round =>
  clear H';(try clear c1);(try clear p2);(obtain ⟨x8_1, rfl, HA, HK1, ⟨m1, rfl⟩⟩ := hrel)
  cases gk with
  | zero => exact absurd HA.out (by simp [slices_Index_string_string.l0])
  | succ k1 =>
   (have H := HA.out);clear HA;(simp only [slices_Index_string_string.l0] at H);(by_cases c3 : x8_1 < (l0.length : Int))
   ·rw [if_pos c3] at H
    (have c3b0 : decide (x8_1 < (l0.length : Int)) = true := decide_eq_true c3);clear c3;(by_cases c4 : 0 ≤ x8_1)
    ·rw [if_pos c4] at H
     (have c4b0 : decide (0 ≤ x8_1) = true := decide_eq_true c4);clear c4;(by_cases c5 : x8_1 < (l0.length : Int))
     ·rw [if_pos c5] at H
      (have c5b0 : decide (x8_1 < (l0.length : Int)) = true := decide_eq_true c5);clear c5;(by_cases c6 : a1.toList = (rdOf ByteArray.empty l0 x8_1).toList)
      ·rw [if_pos c6] at H
       (have c6b0 : (a1.toList == (rdOf ByteArray.empty l0 x8_1).toList) = true := beq_iff_eq.mpr c6);(have c6b1 : (a1.toList != (rdOf ByteArray.empty l0 x8_1).toList) = false := bne_eq_false_iff_eq.mpr c6);clear c6;(obtain rfl := Option.some.inj H);(have p152 : 0 ≤ (x8_1 : Int) := of_decide_eq_true zq26);(have q152 : x8_1 < (l0.length : Int) := of_decide_eq_true zq26);(obtain ⟨ad152, e152, hx152_0⟩ := Kd.at_string HR0.out x8_1 p152 q152)
       cases e152
       (replace p152 := eq_true p152);(replace q152 := eq_true q152);(go_wp2);(go_ret);(exact ⟨zq35, zq87⟩)
      ·rw [if_neg c6] at H
       (have c6b0 : (a1.toList == (rdOf ByteArray.empty l0 x8_1).toList) = false := beq_eq_false_iff_ne.mpr c6);(have c6b1 : (a1.toList != (rdOf ByteArray.empty l0 x8_1).toList) = true := bne_iff_ne.mpr c6);(have H' := Aside0.mk H);clear H;(have p152 : 0 ≤ (x8_1 : Int) := of_decide_eq_true zq26);(have q152 : x8_1 < (l0.length : Int) := of_decide_eq_true zq26);(obtain ⟨ad152, e152, hx152_0⟩ := Kd.at_string HR0.out x8_1 p152 q152)
       cases e152
       (replace p152 := eq_true p152);(replace q152 := eq_true q152);(go_wp2);(go_roundg k1)
       case measure => have := HK1.out; omega
       case rel => exact ⟨(wrap64 (x8_1 + 1)), zq35, H', ⟨zq41⟩, zq87⟩
     ·rw [if_neg c5] at H
      exact absurd H (by simp)
    ·rw [if_neg c4] at H
     exact absurd H (by simp)
   ·rw [if_neg c3] at H
    (have c3b0 : decide (x8_1 < (l0.length : Int)) = false := decide_eq_false c3);clear c3;(obtain rfl := Option.some.inj H);(go_wp2);(go_ret);(exact ⟨zq35, zq87⟩)

/-! ### slices_Contains_string_string: function 113 -/
def slices_Contains_string_string.f (k : Nat) (l0 : List ByteArray) (a1 : ByteArray) : Option (Bool) := (slices_Index_string_string.f k l0 a1).bind fun t153 => (some (decide (t153 ≥ 0)))
theorem slices_Contains_string_string.mono : ∀ a0 a1 k, LeO (slices_Contains_string_string.f k a0 a1) (slices_Contains_string_string.f (k + 1) a0 a1) := by
 intro a0 a1 k;(unfold slices_Contains_string_string.f)
 repeat' first | with_reducible (first | exact slices_Index_string_string.mono _ _ _ | exact LeO.refl _ | exact LeO.none _ | refine LeO.ite ?_ ?_ | refine LeO.bind ?_ (fun _ => ?_)) | exact slices_Index_string_string.mono _ _ _ | exact LeO.none _ | refine LeO.ite ?_ ?_ | refine LeO.bind ?_ (fun _ => ?_)
theorem slices_Contains_string_string.calls (k : Nat) (A0 : Option Addr) (c0 : Nat) (l0 : List ByteArray) (a1 : ByteArray) (r : Bool) (w : World) (hr0 : Kd.C Kd.string w A0 l0.length l0) (hc0 : l0.length ≤ c0) (h : slices_Contains_string_string.f k l0 a1 = some r) :
  Calls Tryd.prog 113 #[.slice A0 l0.length c0, .string a1] w fun e w' => e = .returned (.bool r) ∧ Drawn0 w w' := by
 (have HR0 := Aside0.mk hr0);(have HC0 := Aside0.mk hc0);clear hr0 hc0;(have H : ((slices_Index_string_string.f k l0 a1).bind fun t153 => (some (decide (t153 ≥ 0)))) = some r := h);clear h;(replace H := Option.bind_eq_some_iff.mp H);(obtain ⟨t153, A30, H⟩ := H);(replace H : (some (decide (t153 ≥ 0))) = some r := H);(have A3 := Aside0.mk A30);clear A30;(obtain rfl := Option.some.inj H)
 go_enter Tryd.func113, Tryd.ntmps113
 (go_wp2_with (first | ((with_reducible refine gate_callee (f := 131) rfl ?_); refine goesL_ (some 7) rfl rfl Tryd.func131 (by kernel_rfl) rfl #[.slice A0 l0.length c0, .string a1] rfl zq1 ?_; (with_reducible refine (slices_Index_string_string.calls k _ _ l0 a1 t153 _ ?side1 ?side2 A3.out).mono ?_); (case side1 => exact zq88); (case side2 => exact HC0.out); rintro e w' ⟨rfl, ⟨nd, rfl⟩⟩; refine ⟨_, rfl, ?_⟩)));(go_ret);(exact ⟨zq35, zq87⟩)

/-! ### impl_less: function 66 -/
def impl_less.l0 : Nat → List ByteArray → List ByteArray → List ByteArray → Int → Int → Option (List ByteArray)
 | 0, _, _, _, _, _ => none
 | k + 1, x1, x5, x9, x10, x11 => if x11 < x10 then (if 0 ≤ x11 then (if x11 < (x9.length : Int) then ((slices_Contains_string_string.f k x1 (rdOf ByteArray.empty x9 x11)).bind fun t158 => (if t158 = true then (impl_less.l0 k x1 x5 x9 x10 (wrap64 (x11 + 1))) else (if x5.length < 8796093022208 then (impl_less.l0 k x1 (x5 ++ [rdOf ByteArray.empty x9 x11]) x9 x10 (wrap64 (x11 + 1))) else (none)))) else (none)) else (none)) else (some x5)
def impl_less.f (k : Nat) (l0 : List ByteArray) (l1 : List ByteArray) : Option (List ByteArray) := impl_less.l0 k l1 (([] : List ByteArray)) l0 (l0.length : Int) 0
theorem impl_less.mono_l : ∀ k, (∀ y0 y1 y2 y3 y4, LeO (impl_less.l0 k y0 y1 y2 y3 y4) (impl_less.l0 (k + 1) y0 y1 y2 y3 y4))
 | 0 => fun _ _ _ _ _ r h => by simp [impl_less.l0] at h
 | k + 1 => by
  have ih0 := impl_less.mono_l k
  ·intro y0 y1 y2 y3 y4
   unfold impl_less.l0
   repeat' first | with_reducible (first | exact ih0 _ _ _ _ _ | exact slices_Contains_string_string.mono _ _ _ | exact LeO.refl _ | exact LeO.none _ | refine LeO.ite ?_ ?_ | refine LeO.bind ?_ (fun _ => ?_)) | exact ih0 _ _ _ _ _ | exact slices_Contains_string_string.mono _ _ _ | exact LeO.none _ | refine LeO.ite ?_ ?_ | refine LeO.bind ?_ (fun _ => ?_)
theorem impl_less.mono : ∀ a0 a1 k, LeO (impl_less.f k a0 a1) (impl_less.f (k + 1) a0 a1) := by
 intro a0 a1 k;(have ih0 := impl_less.mono_l k);(unfold impl_less.f)
 repeat' first | with_reducible (first | exact ih0 _ _ _ _ _ | exact slices_Contains_string_string.mono _ _ _ | exact LeO.refl _ | exact LeO.none _ | refine LeO.ite ?_ ?_ | refine LeO.bind ?_ (fun _ => ?_)) | exact ih0 _ _ _ _ _ | exact slices_Contains_string_string.mono _ _ _ | exact LeO.none _ | refine LeO.ite ?_ ?_ | refine LeO.bind ?_ (fun _ => ?_)
theorem impl_less.calls (k : Nat) (A0 : Option Addr) (c0 : Nat) (l0 : List ByteArray) (A1 : Option Addr) (c1 : Nat) (l1 : List ByteArray) (r : List ByteArray) (w : World) (hr0 : Kd.C Kd.string w A0 l0.length l0) (hc0 : l0.length ≤ c0) (hr1 : Kd.C Kd.string w A1 l1.length l1) (hc1 : l1.length ≤ c1) (h : impl_less.f k l0 l1 = some r) :
  Calls Tryd.prog 66 #[.slice A0 l0.length c0, .slice A1 l1.length c1] w fun e w' => ∃ v0_ : Value, e = .returned (v0_) ∧ Kd.R Kd.string 9 w' w.heap.size (fun _ => True) v0_ r ∧ Below w.heap.size w w' := by
 (have HR0 := Aside0.mk hr0);(have HC0 := Aside0.mk hc0);clear hr0 hc0;(have HR1 := Aside0.mk hr1);(have HC1 := Aside0.mk hc1);clear hr1 hc1;(have HB := Aside0.mk (Below.refl w.heap.size w));(have H : (impl_less.l0 k l1 (([] : List ByteArray)) l0 (l0.length : Int) 0) = some r := h);clear h;(obtain ⟨y154, hy_⟩ : ∃ y_ : List ByteArray, y_ = (([] : List ByteArray)) := ⟨_, rfl⟩);(replace H : (impl_less.l0 k l1 y154 l0 (l0.length : Int) 0) = some r := zq25);(have Ny154 := Aside0.mk hy_);clear hy_;(have H' := Aside0.mk H);clear H
 go_enter Tryd.func66, Tryd.ntmps66
 go_wp2_with (first | ((with_reducible refine gate_dst (N := 8) rfl ?_); refine Kd.R_lit Kd.string _ 9 ?hg (N := 8) ?hd (xs := ([] : List ByteArray)) (inner := []) (ok := fun _ => True) (okp := fun _ => True) ?hr ?hp (fun _ hk => hk) trivial (Below.refl _ _) (Nat.le_refl _) (by simp) ?_; (case hd => rfl); (case hg => rfl); (case hr => first | (go_simp; done) | (go_simp; rfl)); (case hp => exact (Reps.none _ _)); intro v155 w3 ho4 hb hg_ hnew_; clear hg_ hnew_; (first | rw [← Ny154.out] at ho4 | (simp only [Int.reduceToNat] at ho4; rw [← Ny154.out] at ho4)); have n0_ := Aside0.mk (Kd.R_lower ho4 (below_size zq55)); have n1_ := Aside0.mk (below_step zq55 hb); clear HB; have HO156 := n0_; have HB := n1_; clear n0_ n1_; clear hb ho4))
 go_loopg [5, 11] k (fun kq v5 v11 w' => ∃ (x5_1 : List ByteArray) (x11_1 : Int), v11 = .int .i64 x11_1 ∧ Aside0 (impl_less.l0 kq l1 x5_1 l0 (l0.length : Int) x11_1 = some r) ∧ Aside0 (kq ≤ k) ∧ Aside0 (Kd.R Kd.string 9 w' w.heap.size (fun _ => True) v5 x5_1) ∧ Aside0 (Below w.heap.size w w'))
 case atStart => exact ⟨(y154), (0), zq35, H', ⟨Nat.le_refl _⟩, ⟨zR HO156.out⟩, ⟨zq55⟩⟩
 case round =>
  clear H';(try clear c1);(try clear p2);(obtain ⟨x5_1, x11_1, rfl, HA, HK1, HO_5, HB⟩ := hrel)
  cases gk with
  | zero => exact absurd HA.out (by simp [impl_less.l0])
  | succ k1 =>
   (have H := HA.out);clear HA;(simp only [impl_less.l0] at H);(by_cases c5 : x11_1 < (l0.length : Int))
   ·rw [if_pos c5] at H
    (have c5b0 : decide (x11_1 < (l0.length : Int)) = true := decide_eq_true c5);clear c5;(by_cases c6 : 0 ≤ x11_1)
    ·rw [if_pos c6] at H
     (have c6b0 : decide (0 ≤ x11_1) = true := decide_eq_true c6);clear c6;(by_cases c7 : x11_1 < (l0.length : Int))
     ·rw [if_pos c7] at H
      (have c7b0 : decide (x11_1 < (l0.length : Int)) = true := decide_eq_true c7);clear c7;(replace H := Option.bind_eq_some_iff.mp H);(obtain ⟨t158, A80, H⟩ := H);(replace H : (if t158 = true then (impl_less.l0 k1 l1 x5_1 l0 (l0.length : Int) (wrap64 (x11_1 + 1))) else (if x5_1.length < 8796093022208 then (impl_less.l0 k1 l1 (x5_1 ++ [rdOf ByteArray.empty l0 x11_1]) l0 (l0.length : Int) (wrap64 (x11_1 + 1))) else (none))) = some r := H);(have A8 := Aside0.mk A80);clear A80;(by_cases c9 : t158 = true)
      ·subst c9
       (have H1 : (impl_less.l0 k1 l1 x5_1 l0 (l0.length : Int) (wrap64 (x11_1 + 1))) = some r := zq93);clear H;(have H := H1);clear H1;(have H' := Aside0.mk H);clear H;(have p157 : 0 ≤ (x11_1 : Int) := of_decide_eq_true zq26);(have q157 : x11_1 < (l0.length : Int) := of_decide_eq_true zq26);(obtain ⟨ad157, e157, hx157_0⟩ := Kd.at_string HR0.out x11_1 p157 q157)
       cases e157
       (replace hx157_0 := (HB.out.cell (World.block_lt_of_cell? w _ hx157_0)).trans hx157_0);(replace p157 := eq_true p157);(replace q157 := eq_true q157);(go_wp2_with (first | ((with_reducible refine gate_callee (f := 113) rfl ?_); refine goesL_ (some 17) rfl rfl Tryd.func113 (by kernel_rfl) rfl #[.slice A1 l1.length c1, .string (rdOf ByteArray.empty l0 x11_1)] rfl zq1 ?_; (with_reducible refine (slices_Contains_string_string.calls k1 _ _ l1 (rdOf ByteArray.empty l0 x11_1) true _ ?side1 ?side2 A8.out).mono ?_); (case side1 => exact zq64); (case side2 => exact HC1.out); rintro e w' ⟨rfl, ⟨nd, rfl⟩⟩; refine ⟨_, rfl, ?_⟩)));(go_roundg k1)
       case measure => have := HK1.out; omega
       case rel => exact ⟨(x5_1), (wrap64 (x11_1 + 1)), zq35, H', ⟨zq41⟩, ⟨zR HO_5.out⟩, ⟨zq55⟩⟩
      ·replace c9 := Bool.eq_false_iff.mpr c9
       subst c9;(have H1 : (if x5_1.length < 8796093022208 then (impl_less.l0 k1 l1 (x5_1 ++ [rdOf ByteArray.empty l0 x11_1]) l0 (l0.length : Int) (wrap64 (x11_1 + 1))) else (none)) = some r := zq92);clear H;(have H := H1);clear H1;(by_cases c10 : x5_1.length < 8796093022208)
       ·rw [if_pos c10] at H
        (have LMc10 := Aside0.mk c10);clear c10;(obtain ⟨y159, hy_⟩ : ∃ y_ : List ByteArray, y_ = (x5_1 ++ [rdOf ByteArray.empty l0 x11_1]) := ⟨_, rfl⟩);(replace H : (impl_less.l0 k1 l1 y159 l0 (l0.length : Int) (wrap64 (x11_1 + 1))) = some r := zq25);(have Ny159 := Aside0.mk hy_);clear hy_;(have H' := Aside0.mk H);clear H;(have p157 : 0 ≤ (x11_1 : Int) := of_decide_eq_true zq26);(have q157 : x11_1 < (l0.length : Int) := of_decide_eq_true zq26);(obtain ⟨ad157, e157, hx157_0⟩ := Kd.at_string HR0.out x11_1 p157 q157)
        cases e157
        (replace hx157_0 := (HB.out.cell (World.block_lt_of_cell? w _ hx157_0)).trans hx157_0);(replace p157 := eq_true p157);(replace q157 := eq_true q157);(go_wp2_with (first | ((with_reducible refine gate_callee (f := 113) rfl ?_); refine goesL_ (some 17) rfl rfl Tryd.func113 (by kernel_rfl) rfl #[.slice A1 l1.length c1, .string (rdOf ByteArray.empty l0 x11_1)] rfl zq1 ?_; (with_reducible refine (slices_Contains_string_string.calls k1 _ _ l1 (rdOf ByteArray.empty l0 x11_1) false _ ?side1 ?side2 A8.out).mono ?_); (case side1 => exact zq64); (case side2 => exact HC1.out); rintro e w' ⟨rfl, ⟨nd, rfl⟩⟩; refine ⟨_, rfl, ?_⟩) | ((with_reducible refine gate_builtin (b := .append) (xs := #[.tmp 19, .tmp 21]) rfl ?_); at_builtin; refine Kd.R_append Kd.string (w0 := w) w.heap.size rfl (.tmp 19) (.tmp 21) 24 9 (.string ⟨#[]⟩) 16 rfl Tryd.underlying24 info9 rfl (by decide) (by omega) u5 x5_1 (rdOf ByteArray.empty l0 x11_1) [.string (rdOf ByteArray.empty l0 x11_1)] (fun _ => True) (fun _ => False) rfl rfl ?aP (fun _ hk => hk.elim) ?aF ?aO ?aB ?aS ?aL ?_; (case aP => exact rfl); (case aB => exact zq55); (case aF => exact (fun _ _ => trivial)); (case aO => exact (zR HO_5.out)); (case aS => exact (below_size zq55)); (case aL => have := LMc10.out; omega); intro v160 w11 ho hb hg hat; rw [← Ny159.out] at ho; have n0_ := Aside0.mk (hb); have n1_ := Aside0.mk (ho); clear HB; clear HO_5; have HB := n0_; have HO161 := n1_; clear n0_ n1_; clear ho hb hg hat)));(go_roundg k1)
        case measure => have := HK1.out; omega
        case rel => exact ⟨(y159), (wrap64 (x11_1 + 1)), zq35, H', ⟨zq41⟩, ⟨zR HO161.out⟩, ⟨zq55⟩⟩
       ·rw [if_neg c10] at H
        exact absurd H (by simp)
     ·rw [if_neg c7] at H
      exact absurd H (by simp)
    ·rw [if_neg c6] at H
     exact absurd H (by simp)
   ·rw [if_neg c5] at H
    (have c5b0 : decide (x11_1 < (l0.length : Int)) = false := decide_eq_false c5);clear c5;(obtain rfl := Option.some.inj H);(go_wp2);(go_ret);(exact ⟨_, zq34, zR HO_5.out, zq55⟩)

/-! ### impl_namesBefore: function 67 -/
def impl_namesBefore.f (l0 : List (S64)) (a1 : Int) : Option (List ByteArray) := if a1 = 0 then (some ([] : List ByteArray)) else (if 0 ≤ (wrap64 (a1 - 1)) then (if (wrap64 (a1 - 1)) < (l0.length : Int) then (some ((rd_T64 l0 (wrap64 (a1 - 1))).f1)) else (none)) else (none))
theorem impl_namesBefore.calls (P0_ : Nat → Prop) (A0 : Option Addr) (c0 : Nat) (l0 : List (S64)) (a1 : Int) (r : List ByteArray) (w : World) (hs0 : Kd.V k64 64 w w.heap.size (fun k_ => P0_ k_) (.slice A0 l0.length c0) l0) (h : impl_namesBefore.f l0 a1 = some r) :
  Calls Tryd.prog 67 #[.slice A0 l0.length c0, .int .i64 a1] w fun e w' => ∃ v0_ : Value, e = .returned (v0_) ∧ Kd.V Kd.string 9 w' w.heap.size (fun k_ => (P0_ k_ ∨ w.heap.size ≤ k_)) v0_ r ∧ Below w.heap.size w w' := by
 (have HO0 := Aside0.mk (show Kd.V k64 64 w w.heap.size (fun k_ => (P0_ k_ ∨ w.heap.size ≤ k_)) (.slice A0 l0.length c0) l0 from Kd.V_mono hs0 (fun k_ hk => .inl hk)));(have HB := Aside0.mk (Below.refl w.heap.size w));(have H : (if a1 = 0 then (some ([] : List ByteArray)) else (if 0 ≤ (wrap64 (a1 - 1)) then (if (wrap64 (a1 - 1)) < (l0.length : Int) then (some ((rd_T64 l0 (wrap64 (a1 - 1))).f1)) else (none)) else (none))) = some r := h);clear h;(by_cases c3 : a1 = 0)
 ·rw [if_pos c3] at H
  (have c3b0 : (a1 == 0) = true := beq_iff_eq.mpr c3);(have c3b1 : (a1 != 0) = false := bne_eq_false_iff_eq.mpr c3);clear c3;(obtain rfl := Option.some.inj H)
  go_enter Tryd.func67, Tryd.ntmps67
  (go_wp2);(go_ret);(exact ⟨_, zq34, Kd.V_nil _ _ _ _ _, zq55⟩)
 ·rw [if_neg c3] at H
  (have c3b0 : (a1 == 0) = false := beq_eq_false_iff_ne.mpr c3);(have c3b1 : (a1 != 0) = true := bne_iff_ne.mpr c3);(obtain ⟨ji4, hji4⟩ : ∃ j_ : Int, (wrap64 (a1 - 1)) = j_ := ⟨_, rfl⟩);(replace H : (if 0 ≤ (ji4) then (if (ji4) < (l0.length : Int) then (some ((rd_T64 l0 (ji4)).f1)) else (none)) else (none)) = some r := by first | (rw [hji4] at H; exact H) | (simp only [hji4] at H ⊢; exact H));(have hji4w : (IntKind.i64.wrap (a1 - 1)) = ji4 := (i64_w _).trans hji4);(by_cases c5 : 0 ≤ (ji4))
  ·rw [if_pos c5] at H
   (have c5b0 : decide (0 ≤ (ji4)) = true := decide_eq_true c5);clear c5;(by_cases c6 : (ji4) < (l0.length : Int))
   ·rw [if_pos c6] at H
    (have c6b0 : decide ((ji4) < (l0.length : Int)) = true := decide_eq_true c6);clear c6;(obtain rfl := Option.some.inj H);(have p162 : 0 ≤ ((ji4) : Int) := of_decide_eq_true zq26);(have q162 : (ji4) < (l0.length : Int) := of_decide_eq_true zq26);(obtain ⟨ad162, A162_1, c162_1, e162, hx162_0, hx162_1, hl162_1, hi162_1⟩ := at_T64 (Kd.V_reads' HO0.out).2.2 (ji4) p162 q162)
    cases e162
    (obtain ⟨ce162, hce162, hMe162, hcc162⟩ := Kd.V_get HO0.out z64 (ji4) p162 (by first | exact q162 | exact of_decide_eq_true zq26 | (have e_ := (Kd.V_reads' HO0.out).1; omega)));(obtain ⟨ua162_1, uc162_1, rfl, ul162_1, ge162_1⟩ := k64_openF hMe162);(have hv162_1 := hcc162 1 _ rfl);(rw [add_field _ _ 1 (by omega)] at hv162_1);(replace hv162_1 := Option.some.inj (hv162_1.symm.trans hx162_1))
    injection hv162_1 with hva_ hvn_ hvc_
    (rw [hva_] at ge162_1);(rw [hvc_] at ul162_1);(have HL162_1 := Aside0.mk (show Kd.V Kd.string 9 _ w.heap.size _ _ ((rd_T64 l0 (ji4)).f1) from Kd.V_mk ul162_1 ge162_1));clear hva_ hvn_ hvc_ ge162_1 ul162_1;clear hcc162 hce162;(have HR162_1 := Aside0.mk hi162_1);(have HC162_1 := Aside0.mk hl162_1);clear hi162_1 hl162_1;(replace p162 := eq_true p162);(replace q162 := eq_true q162)
    go_enter Tryd.func67, Tryd.ntmps67
    (go_wp2);(go_ret);(exact ⟨_, by first | rfl | (simp [errW_none, errW_some] <;> rfl) | (simp only [← hji4]; first | rfl | (simp [errW_none, errW_some] <;> rfl)) | (simp [*, errW_none, errW_some] <;> rfl), by (with_reducible repeat (first | apply Kd.V_alloc | apply Kd.V_drewN | apply Kd.V_drew)); exact HL162_1.out, zq55⟩)
   ·rw [if_neg c6] at H
    exact absurd H (by simp)
  ·rw [if_neg c5] at H
   exact absurd H (by simp)

/-! ### impl_NewNames: function 12 -/
def impl_NewNames.f (k : Nat) (l0 : List (S64)) (a1 : Int) : Option (List ByteArray × Int) := (impl_editionCode.f k l0 a1).bind fun t163 => (if t163 = 0 then (if 0 ≤ a1 then (if a1 < (l0.length : Int) then ((impl_namesBefore.f l0 a1).bind fun t165 => ((impl_less.f k ((rd_T64 l0 a1).f1) t165).bind fun t168 => (some (t168, 0)))) else (none)) else (none)) else (some (([] : List ByteArray), t163)))
theorem impl_NewNames.mono : ∀ a0 a1 k, LeO (impl_NewNames.f k a0 a1) (impl_NewNames.f (k + 1) a0 a1) := by
 intro a0 a1 k;(unfold impl_NewNames.f)
 repeat' first | with_reducible (first | exact impl_editionCode.mono _ _ _ | exact impl_less.mono _ _ _ | exact LeO.refl _ | exact LeO.none _ | refine LeO.ite ?_ ?_ | refine LeO.bind ?_ (fun _ => ?_)) | exact impl_editionCode.mono _ _ _ | exact impl_less.mono _ _ _ | exact LeO.none _ | refine LeO.ite ?_ ?_ | refine LeO.bind ?_ (fun _ => ?_)
def impl_NewNames.T4 : Bool × List (List Nat × List Nat) := (true, [([], []), ([], []), ([0, 1], [0, 1]), ([2], [2]), ([3], [3]), ([], []), ([], []), ([5, 6], [5, 6]), ([4, 7, 7], [4, 7]), ([8, 8, 0, 1, 2, 3, 4, 5, 6, 7, 8], [8]), ([9, 0, 1, 2, 3, 4, 5, 6, 7, 8, 9], [])])
def impl_NewNames.B4 : List Nat := [0, 0, 3, 7, 15, 0, 0, 96, 255, 511, 1023]
theorem impl_NewNames.tab4 : rtab .any (opsOf Tryd.f12 4) = impl_NewNames.T4 := by kernel_rfl
theorem impl_NewNames.bits4 : waitsOk impl_NewNames.T4.2 impl_NewNames.B4 = true := by kernel_rfl
theorem impl_NewNames.calls (k : Nat) (A0 : Option Addr) (c0 : Nat) (l0 : List (S64)) (a1 : Int) (r1 : List ByteArray) (r2 : Int) (w : World) (hr0 : Kd.C k64 w A0 l0.length l0) (hc0 : l0.length ≤ c0) (h : impl_NewNames.f k l0 a1 = some (r1, r2)) :
  Calls Tryd.prog 12 #[.slice A0 l0.length c0, .int .i64 a1] w fun e w' => ∃ v0_ : Value, e = .returned (.tuple #[v0_, .int .i64 r2]) ∧ Kd.R Kd.string 9 w' w.heap.size (fun _ => True) v0_ r1 ∧ Below w.heap.size w w' := by
 (have HR0 := Aside0.mk hr0);(have HC0 := Aside0.mk hc0);clear hr0 hc0;(have HB := Aside0.mk (Below.refl w.heap.size w));(have H : ((impl_editionCode.f k l0 a1).bind fun t163 => (if t163 = 0 then (if 0 ≤ a1 then (if a1 < (l0.length : Int) then ((impl_namesBefore.f l0 a1).bind fun t165 => ((impl_less.f k ((rd_T64 l0 a1).f1) t165).bind fun t168 => (some (t168, 0)))) else (none)) else (none)) else (some (([] : List ByteArray), t163)))) = some (r1, r2) := h);clear h;(replace H := Option.bind_eq_some_iff.mp H);(obtain ⟨t163, A30, H⟩ := H);(replace H : (if t163 = 0 then (if 0 ≤ a1 then (if a1 < (l0.length : Int) then ((impl_namesBefore.f l0 a1).bind fun t165 => ((impl_less.f k ((rd_T64 l0 a1).f1) t165).bind fun t168 => (some (t168, 0)))) else (none)) else (none)) else (some (([] : List ByteArray), t163))) = some (r1, r2) := H);(have A3 := Aside0.mk A30);clear A30;(by_cases c4 : t163 = 0)
 ·rw [if_pos c4] at H
  (have c4b0 : (t163 == 0) = true := beq_iff_eq.mpr c4);(have c4b1 : (t163 != 0) = false := bne_eq_false_iff_eq.mpr c4);clear c4;(by_cases c5 : 0 ≤ a1)
  ·rw [if_pos c5] at H
   (have c5b0 : decide (0 ≤ a1) = true := decide_eq_true c5);clear c5;(by_cases c6 : a1 < (l0.length : Int))
   ·rw [if_pos c6] at H
    (have c6b0 : decide (a1 < (l0.length : Int)) = true := decide_eq_true c6);clear c6;(replace H := Option.bind_eq_some_iff.mp H);(obtain ⟨t165, A70, H⟩ := H);(replace H : ((impl_less.f k ((rd_T64 l0 a1).f1) t165).bind fun t168 => (some (t168, 0))) = some (r1, r2) := H);(have A7 := Aside0.mk A70);clear A70;(replace H := Option.bind_eq_some_iff.mp H);(obtain ⟨t168, A80, H⟩ := H);(replace H : (some (t168, 0)) = some (r1, r2) := H);(have A8 := Aside0.mk A80);clear A80;(simp only [Option.some.injEq, Prod.mk.injEq] at H);(obtain ⟨rfl, rfl⟩ := H)
    go_enter Tryd.func12, Tryd.ntmps12
    (try go_wp2_with (first | ((with_reducible refine gate_callee (f := 65) rfl ?_); refine goesL_ (some 9) rfl rfl Tryd.func65 (by kernel_rfl) rfl #[.slice A0 l0.length c0, .int .i64 a1] rfl zq1 ?_; (with_reducible refine (impl_editionCode.calls k _ _ l0 a1 t163 _ ?side1 ?side2 A3.out).mono ?_); (case side1 => exact zq88); (case side2 => exact HC0.out); rintro e w9 ⟨rfl, hb⟩; refine ⟨_, rfl, ?_⟩; have n0_ := Aside0.mk (below_step zq55 hb); clear HB; have HB := n0_; clear n0_; (try clear hb); (try clear hb2); (try clear hk); (try clear hi))));(have n0_ := Aside0.mk (below_drew1 HB.out));clear HB;(have HB := n0_);clear n0_;(have p164 : 0 ≤ (a1 : Int) := of_decide_eq_true zq26);(have q164 : a1 < (l0.length : Int) := of_decide_eq_true zq26);(obtain ⟨ad164, A164_1, c164_1, e164, hx164_0, hx164_1, hl164_1, hi164_1⟩ := at_T64 HR0.out a1 p164 q164);(have hw164_1 := hx164_1);(have hw164_0 := hx164_0)
    cases e164
    (replace hx164_0 := (HB.out.cell (World.block_lt_of_cell? w _ hx164_0)).trans hx164_0);(replace hx164_1 := (HB.out.cell (World.block_lt_of_cell? w _ hx164_1)).trans hx164_1);(have HR164_1 := Aside0.mk hi164_1);(have HC164_1 := Aside0.mk hl164_1);clear hi164_1 hl164_1;(replace p164 := eq_true p164);(replace q164 := eq_true q164);(refine start_ (n := 11) (S := fun w' => w'.cell? (ad164.add ((a1).toNat * 2)) = some (.int .i64 ((rd_T64 l0 a1).f0)) ∧ w'.cell? ⟨(ad164.add ((a1).toNat * 2)).block, (ad164.add ((a1).toNat * 2)).off + 1, none⟩ = some (.slice A164_1 ((rd_T64 l0 a1).f1).length c164_1)) (ds := []) #[false,false,false,false,false,false,false,false,false,false,false] (by kernel_rfl) rfl rfl ⟨((HB.out.cell (World.block_lt_of_cell? w _ hw164_0)).trans hw164_0), ((HB.out.cell (World.block_lt_of_cell? w _ hw164_1)).trans hw164_1)⟩ (fun hHeld => ?_); refine with_tabW impl_NewNames.tab4 impl_NewNames.bits4 (fun HT_ HW_ => ?_));(generalize w9.drew = w10 at HB HR164_1 hx164_0 hx164_1 hHeld ⊢);(refine pI (i := 0) (N := some 13) (v := ?_) (a' := ?_) (mB 11 1) rfl rfl HT_.out (by kernel_rfl) (fun _ _ _ h => h) rfl ?_ ?_ ?_);rotate_left
    ·intro w'
     go_simp;(with_reducible rfl)
    rotate_left
    ·simp only [Act.put, sA]
     rfl
    (refine pI (i := 1) (N := some 14) (v := ?_) (a' := ?_) (mB 11 3) rfl rfl HT_.out (by kernel_rfl) (fun _ _ _ h => h) rfl ?_ ?_ ?_);rotate_left
    ·intro w'
     go_simp;(with_reducible rfl)
    rotate_left
    ·simp only [Act.put, sA]
     rfl
    (refine pI (i := 2) (N := some 15) (v := ?_) (a' := ?_) (mB 11 7) rfl rfl HT_.out (by kernel_rfl) (fun _ _ _ h => h) rfl ?_ ?_ ?_);rotate_left
    ·intro w'
     go_simp;(with_reducible rfl)
    rotate_left
    ·simp only [Act.put, sA]
     rfl
    (refine pI (i := 3) (N := some 16) (v := ?_) (a' := ?_) (mB 11 15) rfl rfl HT_.out (by kernel_rfl) (fun _ _ _ h => h) rfl ?_ ?_ ?_);rotate_left
    ·intro w'
     go_simp;(with_reducible rfl)
    rotate_left
    ·simp only [Act.put, sA]
     rfl
    (refine pI (i := 5) (N := some 18) (v := ?_) (a' := ?_) (mB 11 47) rfl rfl HT_.out (by kernel_rfl) (fun _ _ _ h => h) rfl ?_ ?_ ?_);rotate_left
    ·intro w'
     go_simp;(with_reducible rfl)
    rotate_left
    ·simp only [Act.put, sA]
     rfl
    (refine pI (i := 6) (N := some 19) (v := ?_) (a' := ?_) (mB 11 111) rfl rfl HT_.out (by kernel_rfl) (fun _ _ _ h => h) rfl ?_ ?_ ?_);rotate_left
    ·intro w'
     go_simp;(with_reducible rfl)
    rotate_left
    ·simp only [Act.put, sA]
     rfl
    (refine tI (i := 4) (N := some 17) (v := ?_) (a' := ?_) (mB 11 127) rfl rfl HT_.out HW_.out (by kernel_rfl) (fun _ _ _ h => h) rfl ?_ hHeld ?_ ?_);rotate_left
    ·rintro w' ⟨s0, s1⟩
     go_simp;(with_reducible rfl)
    rotate_left
    ·simp only [Act.put, sA]
     rfl
    (refine one_ (i := 7) (N := some 20) (mB 11 255) rfl rfl (one_of HT_.out (by kernel_rfl)) (by decide) (fun K hK => ?_));(refine goes_ Tryd.func67 (by kernel_rfl) rfl #[.slice (some ad164) l0.length c0, .int .i64 a1] (by rfl) rfl rfl zq1 ?_);(with_reducible refine (impl_namesBefore.calls (fun k_ => k_ < w.heap.size) _ _ l0 a1 t165 _ ?side1 A7.out).mono ?_);((case side1 => exact Kd.V_mk HC0.out (Kd.F_below (Kd.C_F k64_heap HR0.out) zq55)));(rintro e w11 ⟨v166, rfl, ho0, hb⟩);(refine ⟨_, rfl, ?_⟩);(have n0_ := Aside0.mk (Kd.V_lower (Kd.V_mono (ok' := fun k_ => True) ho0 (fun k_ hk_ => trivial)) (below_size zq55)));(have n1_ := Aside0.mk (below_step zq55 hb));clear HB;(have HO167 := n0_);(have HB := n1_);clear n0_ n1_;(try clear hb);(try clear hb2);(try clear hk);(try clear hi);(try clear ho0);(obtain ⟨Ao12, co12, eo12⟩ := Kd.V_slice HO167.out);((first | subst eo12 | (injection eo12 with f1_ f2_ f3_; have f4_ := f1_.symm; have f5_ := f3_.symm; clear f1_ f2_ f3_; subst f4_; subst f5_)));(refine hK.out _ _ ⟨((HB.out.cell (World.block_lt_of_cell? w _ hw164_0)).trans hw164_0), ((HB.out.cell (World.block_lt_of_cell? w _ hw164_1)).trans hw164_1)⟩ (fun hHeld => ?_));clear hK K;(refine norm_ (a' := ?_) ?_ ?_);rotate_left
    ·show Act.put _ (some 20) _ = _
     (simp only [Act.put, sA]);rfl
    (refine one_ (i := 8) (N := some 21) (mB 11 511) rfl rfl (one_of HT_.out (by kernel_rfl)) (by decide) (fun K hK => ?_));(refine goes_ Tryd.func66 (by kernel_rfl) rfl #[.slice A164_1 ((rd_T64 l0 a1).f1).length c164_1, .slice Ao12 t165.length co12] (by rfl) rfl rfl zq1 ?_);(with_reducible refine (impl_less.calls k _ _ ((rd_T64 l0 a1).f1) _ _ t165 t168 _ ?side1 ?side2 ?side3 ?side4 A8.out).mono ?_);((case side1 => exact by repeat (first | exact (Kd.C_below HR164_1.out HB.out) | (with_reducible refine Kd.C_alloc ?_ _) | (with_reducible refine Kd.C_drewN ?_ _) | (with_reducible refine Kd.C_drew ?_))));((case side2 => exact HC164_1.out));((case side3 => exact by repeat (first | exact (Kd.V_reads' HO167.out).2.2 | (with_reducible refine Kd.C_alloc ?_ _) | (with_reducible refine Kd.C_drewN ?_ _) | (with_reducible refine Kd.C_drew ?_))));((case side4 => exact (Kd.V_reads' HO167.out).2.1));(rintro e w13 ⟨v169, rfl, ho0, hb⟩);(refine ⟨_, rfl, ?_⟩);(have n0_ := Aside0.mk (Kd.V_elder' (by (with_reducible repeat (first | apply Kd.V_alloc | apply Kd.V_drewN | apply Kd.V_drew)); exact HO167.out) (Kd.R_base ho0) hb));(have n1_ := Aside0.mk (Kd.R_lower ho0 (below_size zq55)));(have n2_ := Aside0.mk (below_step zq55 hb));clear HO167;clear HB;(have HO167 := n0_);(have HO170 := n1_);(have HB := n2_);clear n0_ n1_ n2_;(try clear hb);(try clear hb2);(try clear hk);(try clear hi);(try clear ho0);(refine hK.out _ _ ⟨((HB.out.cell (World.block_lt_of_cell? w _ hw164_0)).trans hw164_0), ((HB.out.cell (World.block_lt_of_cell? w _ hw164_1)).trans hw164_1)⟩ (fun hHeld => ?_));clear hK K;(refine norm_ (a' := ?_) ?_ ?_);rotate_left
    ·show Act.put _ (some 21) _ = _
     (simp only [Act.put, sA]);rfl
    (refine pI (i := 9) (N := some 4) (v := ?_) (a' := ?_) (mB 11 1023) rfl rfl HT_.out (by kernel_rfl) (fun _ _ _ h => h) rfl ?_ ?_ ?_);rotate_left
    ·intro w'
     go_simp;(with_reducible rfl)
    rotate_left
    ·simp only [Act.put, sA]
     rfl
    (refine pI (i := 10) (N := some 5) (v := ?_) (a' := ?_) (mB 11 2047) rfl rfl HT_.out (by kernel_rfl) (fun _ _ _ h => h) rfl ?_ ?_ ?_);rotate_left
    ·intro w'
     go_simp;(with_reducible rfl)
    rotate_left
    ·simp only [Act.put, sA]
     rfl
    (refine done_ (done_of HT_.out (by kernel_rfl)) ?_);(try go_wp2);(go_ret2);(exact ⟨_, zq34, zR HO170.out, zq55⟩)
   ·rw [if_neg c6] at H
    exact absurd H (by simp)
  ·rw [if_neg c5] at H
   exact absurd H (by simp)
 ·rw [if_neg c4] at H
  (have c4b0 : (t163 == 0) = false := beq_eq_false_iff_ne.mpr c4);(have c4b1 : (t163 != 0) = true := bne_iff_ne.mpr c4);(simp only [Option.some.injEq, Prod.mk.injEq] at H);(obtain ⟨rfl, rfl⟩ := H)
  go_enter Tryd.func12, Tryd.ntmps12
  (go_wp2_with (first | ((with_reducible refine gate_callee (f := 65) rfl ?_); refine goesL_ (some 9) rfl rfl Tryd.func65 (by kernel_rfl) rfl #[.slice A0 l0.length c0, .int .i64 a1] rfl zq1 ?_; (with_reducible refine (impl_editionCode.calls k _ _ l0 a1 t163 _ ?side1 ?side2 A3.out).mono ?_); (case side1 => exact zq88); (case side2 => exact HC0.out); rintro e w14 ⟨rfl, hb⟩; refine ⟨_, rfl, ?_⟩; have n0_ := Aside0.mk (below_step zq55 hb); clear HB; have HB := n0_; clear n0_; (try clear hb); (try clear hb2); (try clear hk); (try clear hi))));(go_ret2);(exact ⟨_, zq34, zq27, zq55⟩)

end Go.Proofs.YtalmeecdjhelkaaDoor.PFnEditions
