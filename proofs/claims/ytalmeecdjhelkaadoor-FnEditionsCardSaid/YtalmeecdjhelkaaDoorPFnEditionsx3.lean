-- Made by a program of this session (gprint.py) out of the kit's print of the translation and texts of my own. SLIM
import Derived.Test.YtalmeecdjhelkaaDoorPFnEditionsx0
import Derived.Test.YtalmeecdjhelkaaDoorPFnEditionsx1
import Derived.Test.YtalmeecdjhelkaaDoorPFnEditionsx2
namespace Go.Proofs.YtalmeecdjhelkaaDoor.PFnEditions
open Go.RowKit Go.Proofs.YtalmeecdjhelkaaDoorW.PrintWords Go.Proofs.YtalmeecdjhelkaaDoorW.PrintLast Go.Proofs.YtalmeecdjhelkaaDoorW.PrintMore
set_option maxHeartbeats 64000000
set_option maxRecDepth 1000000
attribute [local go_sem] max2_int min2_int max_two min_two max_three min_three max_four min_four   -- for this text's walks alone
set_option linter.unusedVariables false
set_option linter.unusedSimpArgs false

/-! ### spec_l14One: function 61 -/
def spec_l14One.f (k : Nat) (l0 : List (S64)) (a1 : Int) : Option (Int) := (spec_l14Ok.f k l0).bind fun t115 => (if t115 = true then ((spec_l00In.f a1 0 (wrap64 ((l0.length : Int) - 1))).bind fun t116 => (if t116 = true then (some 0) else (some 2))) else (some 1))
theorem spec_l14One.mono : ∀ a0 a1 k, LeO (spec_l14One.f k a0 a1) (spec_l14One.f (k + 1) a0 a1) := by
 intro a0 a1 k;(unfold spec_l14One.f)
 repeat' first | with_reducible (first | exact spec_l14Ok.mono _ _ | exact LeO.refl _ | exact LeO.none _ | refine LeO.ite ?_ ?_ | refine LeO.bind ?_ (fun _ => ?_)) | exact spec_l14Ok.mono _ _ | exact LeO.none _ | refine LeO.ite ?_ ?_ | refine LeO.bind ?_ (fun _ => ?_)
theorem spec_l14One.calls (k : Nat) (A0 : Option Addr) (c0 : Nat) (l0 : List (S64)) (a1 : Int) (r : Int) (w : World) (hr0 : Kd.C k64 w A0 l0.length l0) (hc0 : l0.length ≤ c0) (h : spec_l14One.f k l0 a1 = some r) :
  Calls Tryd.prog 61 #[.slice A0 l0.length c0, .int .i64 a1] w fun e w' => e = .returned (.int .i64 r) ∧ Below w.heap.size w w' := by
 (have HR0 := Aside0.mk hr0);(have HC0 := Aside0.mk hc0);clear hr0 hc0;(have HB := Aside0.mk (Below.refl w.heap.size w));(have H : ((spec_l14Ok.f k l0).bind fun t115 => (if t115 = true then ((spec_l00In.f a1 0 (wrap64 ((l0.length : Int) - 1))).bind fun t116 => (if t116 = true then (some 0) else (some 2))) else (some 1))) = some r := h);clear h;(replace H := Option.bind_eq_some_iff.mp H);(obtain ⟨t115, A30, H⟩ := H);(replace H : (if t115 = true then ((spec_l00In.f a1 0 (wrap64 ((l0.length : Int) - 1))).bind fun t116 => (if t116 = true then (some 0) else (some 2))) else (some 1)) = some r := H);(have A3 := Aside0.mk A30);clear A30;(by_cases c4 : t115 = true)
 ·subst c4
  (have H1 : ((spec_l00In.f a1 0 (wrap64 ((l0.length : Int) - 1))).bind fun t116 => (if t116 = true then (some 0) else (some 2))) = some r := zq93);clear H;(have H := H1);clear H1;(replace H := Option.bind_eq_some_iff.mp H);(obtain ⟨t116, A50, H⟩ := H);(replace H : (if t116 = true then (some 0) else (some 2)) = some r := H);(have A5 := Aside0.mk A50);clear A50;(by_cases c6 : t116 = true)
  ·subst c6
   (have H1 : (some 0) = some r := zq93);clear H;(have H := H1);clear H1;(obtain rfl := Option.some.inj H)
   go_enter Tryd.func61, Tryd.ntmps61
   (go_wp2_with (first | ((with_reducible refine gate_callee (f := 71) rfl ?_); refine goesL_ (some 6) rfl rfl Tryd.func71 (by kernel_rfl) rfl #[.slice A0 l0.length c0] rfl zq1 ?_; (with_reducible refine (spec_l14Ok.calls k _ _ l0 true _ ?side1 ?side2 A3.out).mono ?_); (case side1 => exact zq88); (case side2 => exact HC0.out); rintro e w7 ⟨rfl, hb⟩; refine ⟨_, rfl, ?_⟩; have n0_ := Aside0.mk (below_step zq55 hb); clear HB; have HB := n0_; clear n0_; (try clear hb); (try clear hb2); (try clear hk); (try clear hi)) | ((with_reducible refine gate_callee (f := 74) rfl ?_); refine goesL_ (some 12) rfl rfl Tryd.func74 (by kernel_rfl) rfl #[.int .i64 a1, .int .i64 0, .int .i64 (wrap64 ((l0.length : Int) - 1))] rfl zq1 ?_; (with_reducible refine (spec_l00In.calls a1 0 (wrap64 ((l0.length : Int) - 1)) true _ A5.out).mono ?_); rintro e w' ⟨rfl, ⟨nd, rfl⟩⟩; refine ⟨_, rfl, ?_⟩)));(go_ret);(exact ⟨zq34, zq55⟩)
  ·replace c6 := Bool.eq_false_iff.mpr c6
   subst c6;(have H1 : (some 2) = some r := zq92);clear H;(have H := H1);clear H1;(obtain rfl := Option.some.inj H)
   go_enter Tryd.func61, Tryd.ntmps61
   (go_wp2_with (first | ((with_reducible refine gate_callee (f := 71) rfl ?_); refine goesL_ (some 6) rfl rfl Tryd.func71 (by kernel_rfl) rfl #[.slice A0 l0.length c0] rfl zq1 ?_; (with_reducible refine (spec_l14Ok.calls k _ _ l0 true _ ?side1 ?side2 A3.out).mono ?_); (case side1 => exact zq88); (case side2 => exact HC0.out); rintro e w8 ⟨rfl, hb⟩; refine ⟨_, rfl, ?_⟩; have n0_ := Aside0.mk (below_step zq55 hb); clear HB; have HB := n0_; clear n0_; (try clear hb); (try clear hb2); (try clear hk); (try clear hi)) | ((with_reducible refine gate_callee (f := 74) rfl ?_); refine goesL_ (some 12) rfl rfl Tryd.func74 (by kernel_rfl) rfl #[.int .i64 a1, .int .i64 0, .int .i64 (wrap64 ((l0.length : Int) - 1))] rfl zq1 ?_; (with_reducible refine (spec_l00In.calls a1 0 (wrap64 ((l0.length : Int) - 1)) false _ A5.out).mono ?_); rintro e w' ⟨rfl, ⟨nd, rfl⟩⟩; refine ⟨_, rfl, ?_⟩)));(go_ret);(exact ⟨zq34, zq55⟩)
 ·replace c4 := Bool.eq_false_iff.mpr c4
  subst c4;(have H1 : (some 1) = some r := zq92);clear H;(have H := H1);clear H1;(obtain rfl := Option.some.inj H)
  go_enter Tryd.func61, Tryd.ntmps61
  (go_wp2_with (first | ((with_reducible refine gate_callee (f := 71) rfl ?_); refine goesL_ (some 6) rfl rfl Tryd.func71 (by kernel_rfl) rfl #[.slice A0 l0.length c0] rfl zq1 ?_; (with_reducible refine (spec_l14Ok.calls k _ _ l0 false _ ?side1 ?side2 A3.out).mono ?_); (case side1 => exact zq88); (case side2 => exact HC0.out); rintro e w9 ⟨rfl, hb⟩; refine ⟨_, rfl, ?_⟩; have n0_ := Aside0.mk (below_step zq55 hb); clear HB; have HB := n0_; clear n0_; (try clear hb); (try clear hb2); (try clear hk); (try clear hi))));(go_ret);(exact ⟨zq34, zq55⟩)

/-! ### spec_l14Has: function 73 -/
def spec_l14Has.l0 : Nat → List ByteArray → ByteArray → Int → Option (Bool)
 | 0, _, _, _ => none
 | k + 1, x0, x1, x5 => if x5 < (x0.length : Int) then (if 0 ≤ x5 then (if (rdOf ByteArray.empty x0 x5).toList = x1.toList then (some true) else (spec_l14Has.l0 k x0 x1 (wrap64 (x5 + 1)))) else (none)) else (some false)
def spec_l14Has.f (k : Nat) (l0 : List ByteArray) (a1 : ByteArray) : Option (Bool) := spec_l14Has.l0 k l0 a1 0
theorem spec_l14Has.mono_l : ∀ k, (∀ y0 y1 y2, LeO (spec_l14Has.l0 k y0 y1 y2) (spec_l14Has.l0 (k + 1) y0 y1 y2))
 | 0 => fun _ _ _ r h => by simp [spec_l14Has.l0] at h
 | k + 1 => by
  have ih0 := spec_l14Has.mono_l k
  ·intro y0 y1 y2
   unfold spec_l14Has.l0
   repeat' first | with_reducible (first | exact ih0 _ _ _ | exact LeO.refl _ | exact LeO.none _ | refine LeO.ite ?_ ?_ | refine LeO.bind ?_ (fun _ => ?_)) | exact ih0 _ _ _ | exact LeO.none _ | refine LeO.ite ?_ ?_ | refine LeO.bind ?_ (fun _ => ?_)
theorem spec_l14Has.mono : ∀ a0 a1 k, LeO (spec_l14Has.f k a0 a1) (spec_l14Has.f (k + 1) a0 a1) := by
 intro a0 a1 k;(have ih0 := spec_l14Has.mono_l k);(unfold spec_l14Has.f)
 repeat' first | with_reducible (first | exact ih0 _ _ _ | exact LeO.refl _ | exact LeO.none _ | refine LeO.ite ?_ ?_ | refine LeO.bind ?_ (fun _ => ?_)) | exact ih0 _ _ _ | exact LeO.none _ | refine LeO.ite ?_ ?_ | refine LeO.bind ?_ (fun _ => ?_)
theorem spec_l14Has.calls (k : Nat) (A0 : Option Addr) (c0 : Nat) (l0 : List ByteArray) (a1 : ByteArray) (r : Bool) (w : World) (hr0 : Kd.C Kd.string w A0 l0.length l0) (hc0 : l0.length ≤ c0) (h : spec_l14Has.f k l0 a1 = some r) :
  Calls Tryd.prog 73 #[.slice A0 l0.length c0, .string a1] w fun e w' => e = .returned (.bool r) ∧ Drawn0 w w' := by
 (have HR0 := Aside0.mk hr0);(have HC0 := Aside0.mk hc0);clear hr0 hc0;(have H : (spec_l14Has.l0 k l0 a1 0) = some r := h);clear h;(have H' := Aside0.mk H);clear H
 go_enter Tryd.func73, Tryd.ntmps73
 go_wp2
 go_loopg [5] k (fun kq v5 w' => ∃ (x5_1 : Int), v5 = .int .i64 x5_1 ∧ Aside0 (spec_l14Has.l0 kq l0 a1 x5_1 = some r) ∧ Aside0 (kq ≤ k) ∧ Drawn0 w w')
 case atStart => exact ⟨(0), zq35, H', ⟨Nat.le_refl _⟩, zq87⟩
 case round =>
  clear H';(try clear p2);(obtain ⟨x5_1, rfl, HA, HK1, ⟨m1, rfl⟩⟩ := hrel)
  cases gk with
  | zero => exact absurd HA.out (by simp [spec_l14Has.l0])
  | succ k1 =>
   (have H := HA.out);clear HA;(simp only [spec_l14Has.l0] at H);(by_cases c3 : x5_1 < (l0.length : Int))
   ·rw [if_pos c3] at H
    (have c3b0 : decide (x5_1 < (l0.length : Int)) = true := decide_eq_true c3);clear c3;(by_cases c4 : 0 ≤ x5_1)
    ·rw [if_pos c4] at H
     (have c4b0 : decide (0 ≤ x5_1) = true := decide_eq_true c4);clear c4;(by_cases c5 : (rdOf ByteArray.empty l0 x5_1).toList = a1.toList)
     ·rw [if_pos c5] at H
      (have c5b0 : ((rdOf ByteArray.empty l0 x5_1).toList == a1.toList) = true := beq_iff_eq.mpr c5);(have c5b1 : ((rdOf ByteArray.empty l0 x5_1).toList != a1.toList) = false := bne_eq_false_iff_eq.mpr c5);clear c5;(obtain rfl := Option.some.inj H);(have p117 : 0 ≤ (x5_1 : Int) := of_decide_eq_true zq26);(have q117 : x5_1 < (l0.length : Int) := of_decide_eq_true zq26);(obtain ⟨ad117, e117, hx117_0⟩ := Kd.at_string HR0.out x5_1 p117 q117)
      cases e117
      (replace p117 := eq_true p117);(replace q117 := eq_true q117);(go_wp2);(go_ret);(exact ⟨zq35, zq87⟩)
     ·rw [if_neg c5] at H
      (have c5b0 : ((rdOf ByteArray.empty l0 x5_1).toList == a1.toList) = false := beq_eq_false_iff_ne.mpr c5);(have c5b1 : ((rdOf ByteArray.empty l0 x5_1).toList != a1.toList) = true := bne_iff_ne.mpr c5);(have H' := Aside0.mk H);clear H;(have p117 : 0 ≤ (x5_1 : Int) := of_decide_eq_true zq26);(have q117 : x5_1 < (l0.length : Int) := of_decide_eq_true zq26);(obtain ⟨ad117, e117, hx117_0⟩ := Kd.at_string HR0.out x5_1 p117 q117)
      cases e117
      (replace p117 := eq_true p117);(replace q117 := eq_true q117);(go_wp2);(go_roundg k1)
      case measure => have := HK1.out; omega
      case rel => exact ⟨(wrap64 (x5_1 + 1)), zq35, H', ⟨zq41⟩, zq87⟩
    ·rw [if_neg c4] at H
     exact absurd H (by simp)
   ·rw [if_neg c3] at H
    (have c3b0 : decide (x5_1 < (l0.length : Int)) = false := decide_eq_false c3);clear c3;(obtain rfl := Option.some.inj H);(go_wp2);(go_ret);(exact ⟨zq35, zq87⟩)

/-! ### spec_l14Less: function 62 -/
def spec_l14Less.l0 : Nat → List ByteArray → List ByteArray → List ByteArray → Int → Option (List ByteArray)
 | 0, _, _, _, _ => none
 | k + 1, x0, x1, x5, x6 => if x6 < (x0.length : Int) then (if 0 ≤ x6 then ((spec_l14Has.f k x1 (rdOf ByteArray.empty x0 x6)).bind fun t122 => (if t122 = true then (spec_l14Less.l0 k x0 x1 x5 (wrap64 (x6 + 1))) else (if x5.length < 8796093022208 then (spec_l14Less.l0 k x0 x1 (x5 ++ [rdOf ByteArray.empty x0 x6]) (wrap64 (x6 + 1))) else (none)))) else (none)) else (some x5)
def spec_l14Less.f (k : Nat) (l0 : List ByteArray) (l1 : List ByteArray) : Option (List ByteArray) := spec_l14Less.l0 k l0 l1 (([] : List ByteArray)) 0
theorem spec_l14Less.mono_l : ∀ k, (∀ y0 y1 y2 y3, LeO (spec_l14Less.l0 k y0 y1 y2 y3) (spec_l14Less.l0 (k + 1) y0 y1 y2 y3))
 | 0 => fun _ _ _ _ r h => by simp [spec_l14Less.l0] at h
 | k + 1 => by
  have ih0 := spec_l14Less.mono_l k
  ·intro y0 y1 y2 y3
   unfold spec_l14Less.l0
   repeat' first | with_reducible (first | exact ih0 _ _ _ _ | exact spec_l14Has.mono _ _ _ | exact LeO.refl _ | exact LeO.none _ | refine LeO.ite ?_ ?_ | refine LeO.bind ?_ (fun _ => ?_)) | exact ih0 _ _ _ _ | exact spec_l14Has.mono _ _ _ | exact LeO.none _ | refine LeO.ite ?_ ?_ | refine LeO.bind ?_ (fun _ => ?_)
theorem spec_l14Less.mono : ∀ a0 a1 k, LeO (spec_l14Less.f k a0 a1) (spec_l14Less.f (k + 1) a0 a1) := by
 intro a0 a1 k;(have ih0 := spec_l14Less.mono_l k);(unfold spec_l14Less.f)
 repeat' first | with_reducible (first | exact ih0 _ _ _ _ | exact spec_l14Has.mono _ _ _ | exact LeO.refl _ | exact LeO.none _ | refine LeO.ite ?_ ?_ | refine LeO.bind ?_ (fun _ => ?_)) | exact ih0 _ _ _ _ | exact spec_l14Has.mono _ _ _ | exact LeO.none _ | refine LeO.ite ?_ ?_ | refine LeO.bind ?_ (fun _ => ?_)
theorem spec_l14Less.calls (k : Nat) (A0 : Option Addr) (c0 : Nat) (l0 : List ByteArray) (A1 : Option Addr) (c1 : Nat) (l1 : List ByteArray) (r : List ByteArray) (w : World) (hr0 : Kd.C Kd.string w A0 l0.length l0) (hc0 : l0.length ≤ c0) (hr1 : Kd.C Kd.string w A1 l1.length l1) (hc1 : l1.length ≤ c1) (h : spec_l14Less.f k l0 l1 = some r) :
  Calls Tryd.prog 62 #[.slice A0 l0.length c0, .slice A1 l1.length c1] w fun e w' => ∃ v0_ : Value, e = .returned (v0_) ∧ Kd.R Kd.string 9 w' w.heap.size (fun _ => True) v0_ r ∧ Below w.heap.size w w' := by
 (have HR0 := Aside0.mk hr0);(have HC0 := Aside0.mk hc0);clear hr0 hc0;(have HR1 := Aside0.mk hr1);(have HC1 := Aside0.mk hc1);clear hr1 hc1;(have HB := Aside0.mk (Below.refl w.heap.size w));(have H : (spec_l14Less.l0 k l0 l1 (([] : List ByteArray)) 0) = some r := h);clear h;(obtain ⟨y118, hy_⟩ : ∃ y_ : List ByteArray, y_ = (([] : List ByteArray)) := ⟨_, rfl⟩);(replace H : (spec_l14Less.l0 k l0 l1 y118 0) = some r := zq25);(have Ny118 := Aside0.mk hy_);clear hy_;(have H' := Aside0.mk H);clear H
 go_enter Tryd.func62, Tryd.ntmps62
 go_wp2_with (first | ((with_reducible refine gate_dst (N := 7) rfl ?_); refine Kd.R_lit Kd.string _ 9 ?hg (N := 7) ?hd (xs := ([] : List ByteArray)) (inner := []) (ok := fun _ => True) (okp := fun _ => True) ?hr ?hp (fun _ hk => hk) trivial (Below.refl _ _) (Nat.le_refl _) (by simp) ?_; (case hd => rfl); (case hg => rfl); (case hr => first | (go_simp; done) | (go_simp; rfl)); (case hp => exact (Reps.none _ _)); intro v119 w3 ho4 hb hg_ hnew_; clear hg_ hnew_; (first | rw [← Ny118.out] at ho4 | (simp only [Int.reduceToNat] at ho4; rw [← Ny118.out] at ho4)); have n0_ := Aside0.mk (Kd.R_lower ho4 (below_size zq55)); have n1_ := Aside0.mk (below_step zq55 hb); clear HB; have HO120 := n0_; have HB := n1_; clear n0_ n1_; clear hb ho4))
 go_loopg [5, 6] k (fun kq v5 v6 w' => ∃ (x5_1 : List ByteArray) (x6_1 : Int), v6 = .int .i64 x6_1 ∧ Aside0 (spec_l14Less.l0 kq l0 l1 x5_1 x6_1 = some r) ∧ Aside0 (kq ≤ k) ∧ Aside0 (Kd.R Kd.string 9 w' w.heap.size (fun _ => True) v5 x5_1) ∧ Aside0 (Below w.heap.size w w'))
 case atStart => exact ⟨(y118), (0), zq35, H', ⟨Nat.le_refl _⟩, ⟨zR HO120.out⟩, ⟨zq55⟩⟩
 case round =>
  clear H';(try clear c1);(try clear p2);(obtain ⟨x5_1, x6_1, rfl, HA, HK1, HO_5, HB⟩ := hrel)
  cases gk with
  | zero => exact absurd HA.out (by simp [spec_l14Less.l0])
  | succ k1 =>
   (have H := HA.out);clear HA;(simp only [spec_l14Less.l0] at H);(by_cases c5 : x6_1 < (l0.length : Int))
   ·rw [if_pos c5] at H
    (have c5b0 : decide (x6_1 < (l0.length : Int)) = true := decide_eq_true c5);clear c5;(by_cases c6 : 0 ≤ x6_1)
    ·rw [if_pos c6] at H
     (have c6b0 : decide (0 ≤ x6_1) = true := decide_eq_true c6);clear c6;(replace H := Option.bind_eq_some_iff.mp H);(obtain ⟨t122, A70, H⟩ := H);(replace H : (if t122 = true then (spec_l14Less.l0 k1 l0 l1 x5_1 (wrap64 (x6_1 + 1))) else (if x5_1.length < 8796093022208 then (spec_l14Less.l0 k1 l0 l1 (x5_1 ++ [rdOf ByteArray.empty l0 x6_1]) (wrap64 (x6_1 + 1))) else (none))) = some r := H);(have A7 := Aside0.mk A70);clear A70;(by_cases c8 : t122 = true)
     ·subst c8
      (have H1 : (spec_l14Less.l0 k1 l0 l1 x5_1 (wrap64 (x6_1 + 1))) = some r := zq93);clear H;(have H := H1);clear H1;(have H' := Aside0.mk H);clear H;(have p121 : 0 ≤ (x6_1 : Int) := of_decide_eq_true zq26);(have q121 : x6_1 < (l0.length : Int) := of_decide_eq_true zq26);(obtain ⟨ad121, e121, hx121_0⟩ := Kd.at_string HR0.out x6_1 p121 q121)
      cases e121
      (replace hx121_0 := (HB.out.cell (World.block_lt_of_cell? w _ hx121_0)).trans hx121_0);(replace p121 := eq_true p121);(replace q121 := eq_true q121);(go_wp2_with (first | ((with_reducible refine gate_callee (f := 73) rfl ?_); refine goesL_ (some 19) rfl rfl Tryd.func73 (by kernel_rfl) rfl #[.slice A1 l1.length c1, .string (rdOf ByteArray.empty l0 x6_1)] rfl zq1 ?_; (with_reducible refine (spec_l14Has.calls k1 _ _ l1 (rdOf ByteArray.empty l0 x6_1) true _ ?side1 ?side2 A7.out).mono ?_); (case side1 => exact zq64); (case side2 => exact HC1.out); rintro e w' ⟨rfl, ⟨nd, rfl⟩⟩; refine ⟨_, rfl, ?_⟩)));(go_roundg k1)
      case measure => have := HK1.out; omega
      case rel => exact ⟨(x5_1), (wrap64 (x6_1 + 1)), zq35, H', ⟨zq41⟩, ⟨zR HO_5.out⟩, ⟨zq55⟩⟩
     ·replace c8 := Bool.eq_false_iff.mpr c8
      subst c8;(have H1 : (if x5_1.length < 8796093022208 then (spec_l14Less.l0 k1 l0 l1 (x5_1 ++ [rdOf ByteArray.empty l0 x6_1]) (wrap64 (x6_1 + 1))) else (none)) = some r := zq92);clear H;(have H := H1);clear H1;(by_cases c9 : x5_1.length < 8796093022208)
      ·rw [if_pos c9] at H
       (have LMc9 := Aside0.mk c9);clear c9;(obtain ⟨y124, hy_⟩ : ∃ y_ : List ByteArray, y_ = (x5_1 ++ [rdOf ByteArray.empty l0 x6_1]) := ⟨_, rfl⟩);(replace H : (spec_l14Less.l0 k1 l0 l1 y124 (wrap64 (x6_1 + 1))) = some r := zq25);(have Ny124 := Aside0.mk hy_);clear hy_;(have H' := Aside0.mk H);clear H;(have p121 : 0 ≤ (x6_1 : Int) := of_decide_eq_true zq26);(have q121 : x6_1 < (l0.length : Int) := of_decide_eq_true zq26);(obtain ⟨ad121, e121, hx121_0⟩ := Kd.at_string HR0.out x6_1 p121 q121)
       cases e121
       (replace hx121_0 := (HB.out.cell (World.block_lt_of_cell? w _ hx121_0)).trans hx121_0);(replace p121 := eq_true p121);(replace q121 := eq_true q121);(go_wp2_with (first | ((with_reducible refine gate_callee (f := 73) rfl ?_); refine goesL_ (some 19) rfl rfl Tryd.func73 (by kernel_rfl) rfl #[.slice A1 l1.length c1, .string (rdOf ByteArray.empty l0 x6_1)] rfl zq1 ?_; (with_reducible refine (spec_l14Has.calls k1 _ _ l1 (rdOf ByteArray.empty l0 x6_1) false _ ?side1 ?side2 A7.out).mono ?_); (case side1 => exact zq64); (case side2 => exact HC1.out); rintro e w' ⟨rfl, ⟨nd, rfl⟩⟩; refine ⟨_, rfl, ?_⟩; have p123 : 0 ≤ (x6_1 : Int) := of_decide_eq_true zq26; have q123 : x6_1 < (l0.length : Int) := of_decide_eq_true zq26; obtain ⟨ad123, e123, hx123_0⟩ := Kd.at_string HR0.out x6_1 p123 q123; obtain rfl : ad121 = ad123 := (by injection e123); replace hx123_0 := (HB.out.cell (World.block_lt_of_cell? w _ hx123_0)).trans hx123_0; replace p123 := eq_true p123; replace q123 := eq_true q123) | ((with_reducible refine gate_builtin (b := .append) (xs := #[.tmp 21, .tmp 26]) rfl ?_); at_builtin; refine Kd.R_append Kd.string (w0 := w) w.heap.size rfl (.tmp 21) (.tmp 26) 24 9 (.string ⟨#[]⟩) 16 rfl Tryd.underlying24 info9 rfl (by decide) (by omega) u5 x5_1 (rdOf ByteArray.empty l0 x6_1) [.string (rdOf ByteArray.empty l0 x6_1)] (fun _ => True) (fun _ => False) rfl rfl ?aP (fun _ hk => hk.elim) ?aF ?aO ?aB ?aS ?aL ?_; (case aP => exact rfl); (case aB => exact zq55); (case aF => exact (fun _ _ => trivial)); (case aO => exact (zR HO_5.out)); (case aS => exact (below_size zq55)); (case aL => have := LMc9.out; omega); intro v125 w10 ho hb hg hat; rw [← Ny124.out] at ho; have n0_ := Aside0.mk (hb); have n1_ := Aside0.mk (ho); clear HB; clear HO_5; have HB := n0_; have HO126 := n1_; clear n0_ n1_; clear ho hb hg hat)));(go_roundg k1)
       case measure => have := HK1.out; omega
       case rel => exact ⟨(y124), (wrap64 (x6_1 + 1)), zq35, H', ⟨zq41⟩, ⟨zR HO126.out⟩, ⟨zq55⟩⟩
      ·rw [if_neg c9] at H
       exact absurd H (by simp)
    ·rw [if_neg c6] at H
     exact absurd H (by simp)
   ·rw [if_neg c5] at H
    (have c5b0 : decide (x6_1 < (l0.length : Int)) = false := decide_eq_false c5);clear c5;(obtain rfl := Option.some.inj H);(go_wp2);(go_ret);(exact ⟨_, zq34, zR HO_5.out, zq55⟩)

/-! ### spec_l14Before: function 63 -/
def spec_l14Before.f (l0 : List (S64)) (a1 : Int) : Option (List ByteArray) := if a1 = 0 then (some (([] : List ByteArray))) else (if 0 ≤ (wrap64 (a1 - 1)) then (if (wrap64 (a1 - 1)) < (l0.length : Int) then (some ((rd_T64 l0 (wrap64 (a1 - 1))).f1)) else (none)) else (none))
theorem spec_l14Before.calls (P0_ : Nat → Prop) (A0 : Option Addr) (c0 : Nat) (l0 : List (S64)) (a1 : Int) (r : List ByteArray) (w : World) (hs0 : Kd.V k64 64 w w.heap.size (fun k_ => P0_ k_) (.slice A0 l0.length c0) l0) (h : spec_l14Before.f l0 a1 = some r) :
  Calls Tryd.prog 63 #[.slice A0 l0.length c0, .int .i64 a1] w fun e w' => ∃ v0_ : Value, e = .returned (v0_) ∧ Kd.V Kd.string 9 w' w.heap.size (fun k_ => (P0_ k_ ∨ w.heap.size ≤ k_)) v0_ r ∧ Below w.heap.size w w' := by
 (have HO0 := Aside0.mk (show Kd.V k64 64 w w.heap.size (fun k_ => (P0_ k_ ∨ w.heap.size ≤ k_)) (.slice A0 l0.length c0) l0 from Kd.V_mono hs0 (fun k_ hk => .inl hk)));(have HB := Aside0.mk (Below.refl w.heap.size w));(have H : (if a1 = 0 then (some (([] : List ByteArray))) else (if 0 ≤ (wrap64 (a1 - 1)) then (if (wrap64 (a1 - 1)) < (l0.length : Int) then (some ((rd_T64 l0 (wrap64 (a1 - 1))).f1)) else (none)) else (none))) = some r := h);clear h;(by_cases c3 : a1 = 0)
 ·rw [if_pos c3] at H
  (have c3b0 : (a1 == 0) = true := beq_iff_eq.mpr c3);(have c3b1 : (a1 != 0) = false := bne_eq_false_iff_eq.mpr c3);clear c3;(obtain ⟨y127, hy_⟩ : ∃ y_ : List ByteArray, y_ = (([] : List ByteArray)) := ⟨_, rfl⟩);(replace H : (some y127) = some r := zq25);(have Ny127 := Aside0.mk hy_);clear hy_;(obtain rfl := Option.some.inj H)
  go_enter Tryd.func63, Tryd.ntmps63
  (go_wp2_with (first | ((with_reducible refine gate_dst (N := 7) rfl ?_); refine Kd.R_lit Kd.string _ 9 ?hg (N := 7) ?hd (xs := ([] : List ByteArray)) (inner := []) (ok := fun _ => True) (okp := fun _ => True) ?hr ?hp (fun _ hk => hk) trivial (Below.refl _ _) (Nat.le_refl _) (by simp) ?_; (case hd => rfl); (case hg => rfl); (case hr => first | (go_simp; done) | (go_simp; rfl)); (case hp => exact (Reps.none _ _)); intro v128 w4 ho5 hb hg_ hnew_; clear hg_ hnew_; (first | rw [← Ny127.out] at ho5 | (simp only [Int.reduceToNat] at ho5; rw [← Ny127.out] at ho5)); have n0_ := Aside0.mk (Kd.V_elder' (by (with_reducible repeat (first | apply Kd.V_alloc | apply Kd.V_drewN | apply Kd.V_drew)); exact HO0.out) (Kd.R_base ho5) hb); have n1_ := Aside0.mk (Kd.R_lower (Kd.R_newM (M := fun k_ => (w.heap.size ≤ k_)) ho5 (below_size zq55) (fun k_ h_ => h_)) (below_size zq55)); have n2_ := Aside0.mk (below_step zq55 hb); clear HO0; clear HB; have HO0 := n0_; have HO129 := n1_; have HB := n2_; clear n0_ n1_ n2_; clear hb ho5)));(go_ret);(exact ⟨_, zq34, Kd.V_mono (Kd.R_V (by (with_reducible repeat (first | apply Kd.R_alloc | apply Kd.R_drewN | apply Kd.R_drew)); exact Kd.R_mono HO129.out (fun _ hk => hk.1))) (fun k_ hk => by first | exact ⟨(.inr (hk.1)), hk.2⟩ | exact (.inr (hk))), zq55⟩)
 ·rw [if_neg c3] at H
  (have c3b0 : (a1 == 0) = false := beq_eq_false_iff_ne.mpr c3);(have c3b1 : (a1 != 0) = true := bne_iff_ne.mpr c3);(obtain ⟨ji6, hji6⟩ : ∃ j_ : Int, (wrap64 (a1 - 1)) = j_ := ⟨_, rfl⟩);(replace H : (if 0 ≤ (ji6) then (if (ji6) < (l0.length : Int) then (some ((rd_T64 l0 (ji6)).f1)) else (none)) else (none)) = some r := by first | (rw [hji6] at H; exact H) | (simp only [hji6] at H ⊢; exact H));(have hji6w : (IntKind.i64.wrap (a1 - 1)) = ji6 := (i64_w _).trans hji6);(by_cases c7 : 0 ≤ (ji6))
  ·rw [if_pos c7] at H
   (have c7b0 : decide (0 ≤ (ji6)) = true := decide_eq_true c7);clear c7;(by_cases c8 : (ji6) < (l0.length : Int))
   ·rw [if_pos c8] at H
    (have c8b0 : decide ((ji6) < (l0.length : Int)) = true := decide_eq_true c8);clear c8;(obtain rfl := Option.some.inj H);(have p130 : 0 ≤ ((ji6) : Int) := of_decide_eq_true zq26);(have q130 : (ji6) < (l0.length : Int) := of_decide_eq_true zq26);(obtain ⟨ad130, A130_1, c130_1, e130, hx130_0, hx130_1, hl130_1, hi130_1⟩ := at_T64 (Kd.V_reads' HO0.out).2.2 (ji6) p130 q130)
    cases e130
    (obtain ⟨ce130, hce130, hMe130, hcc130⟩ := Kd.V_get HO0.out z64 (ji6) p130 (by first | exact q130 | exact of_decide_eq_true zq26 | (have e_ := (Kd.V_reads' HO0.out).1; omega)));(obtain ⟨ua130_1, uc130_1, rfl, ul130_1, ge130_1⟩ := k64_openF hMe130);(have hv130_1 := hcc130 1 _ rfl);(rw [add_field _ _ 1 (by omega)] at hv130_1);(replace hv130_1 := Option.some.inj (hv130_1.symm.trans hx130_1))
    injection hv130_1 with hva_ hvn_ hvc_
    (rw [hva_] at ge130_1);(rw [hvc_] at ul130_1);(have HL130_1 := Aside0.mk (show Kd.V Kd.string 9 _ w.heap.size _ _ ((rd_T64 l0 (ji6)).f1) from Kd.V_mk ul130_1 ge130_1));clear hva_ hvn_ hvc_ ge130_1 ul130_1;clear hcc130 hce130;(have HR130_1 := Aside0.mk hi130_1);(have HC130_1 := Aside0.mk hl130_1);clear hi130_1 hl130_1;(replace p130 := eq_true p130);(replace q130 := eq_true q130)
    go_enter Tryd.func63, Tryd.ntmps63
    (go_wp2);(go_ret);(exact ⟨_, by first | rfl | (simp [errW_none, errW_some] <;> rfl) | (simp only [← hji6]; first | rfl | (simp [errW_none, errW_some] <;> rfl)) | (simp [*, errW_none, errW_some] <;> rfl), by (with_reducible repeat (first | apply Kd.V_alloc | apply Kd.V_drewN | apply Kd.V_drew)); exact HL130_1.out, zq55⟩)
   ·rw [if_neg c8] at H
    exact absurd H (by simp)
  ·rw [if_neg c7] at H
   exact absurd H (by simp)

/-! ### spec_NewNames: function 10 -/
def spec_NewNames.f (k : Nat) (l0 : List (S64)) (a1 : Int) : Option (List ByteArray × Int) := (spec_l14One.f k l0 a1).bind fun t131 => (if t131 = 0 then (if 0 ≤ a1 then (if a1 < (l0.length : Int) then ((spec_l14Before.f l0 a1).bind fun t133 => ((spec_l14Less.f k ((rd_T64 l0 a1).f1) t133).bind fun t136 => (some (t136, 0)))) else (none)) else (none)) else (some (([] : List ByteArray), t131)))
theorem spec_NewNames.mono : ∀ a0 a1 k, LeO (spec_NewNames.f k a0 a1) (spec_NewNames.f (k + 1) a0 a1) := by
 intro a0 a1 k;(unfold spec_NewNames.f)
 repeat' first | with_reducible (first | exact spec_l14Less.mono _ _ _ | exact spec_l14One.mono _ _ _ | exact LeO.refl _ | exact LeO.none _ | refine LeO.ite ?_ ?_ | refine LeO.bind ?_ (fun _ => ?_)) | exact spec_l14Less.mono _ _ _ | exact spec_l14One.mono _ _ _ | exact LeO.none _ | refine LeO.ite ?_ ?_ | refine LeO.bind ?_ (fun _ => ?_)
def spec_NewNames.T4 : Bool × List (List Nat × List Nat) := (true, [([], []), ([], []), ([0, 1], [0, 1]), ([2], [2]), ([3], [3]), ([], []), ([], []), ([5, 6], [5, 6]), ([4, 7, 7], [4, 7]), ([8, 8, 0, 1, 2, 3, 4, 5, 6, 7, 8], [8]), ([9, 0, 1, 2, 3, 4, 5, 6, 7, 8, 9], [])])
def spec_NewNames.B4 : List Nat := [0, 0, 3, 7, 15, 0, 0, 96, 255, 511, 1023]
theorem spec_NewNames.tab4 : rtab .any (opsOf Tryd.f10 4) = spec_NewNames.T4 := by kernel_rfl
theorem spec_NewNames.bits4 : waitsOk spec_NewNames.T4.2 spec_NewNames.B4 = true := by kernel_rfl
theorem spec_NewNames.calls (k : Nat) (A0 : Option Addr) (c0 : Nat) (l0 : List (S64)) (a1 : Int) (r1 : List ByteArray) (r2 : Int) (w : World) (hr0 : Kd.C k64 w A0 l0.length l0) (hc0 : l0.length ≤ c0) (h : spec_NewNames.f k l0 a1 = some (r1, r2)) :
  Calls Tryd.prog 10 #[.slice A0 l0.length c0, .int .i64 a1] w fun e w' => ∃ v0_ : Value, e = .returned (.tuple #[v0_, .int .i64 r2]) ∧ Kd.R Kd.string 9 w' w.heap.size (fun _ => True) v0_ r1 ∧ Below w.heap.size w w' := by
 (have HR0 := Aside0.mk hr0);(have HC0 := Aside0.mk hc0);clear hr0 hc0;(have HB := Aside0.mk (Below.refl w.heap.size w));(have H : ((spec_l14One.f k l0 a1).bind fun t131 => (if t131 = 0 then (if 0 ≤ a1 then (if a1 < (l0.length : Int) then ((spec_l14Before.f l0 a1).bind fun t133 => ((spec_l14Less.f k ((rd_T64 l0 a1).f1) t133).bind fun t136 => (some (t136, 0)))) else (none)) else (none)) else (some (([] : List ByteArray), t131)))) = some (r1, r2) := h);clear h;(replace H := Option.bind_eq_some_iff.mp H);(obtain ⟨t131, A30, H⟩ := H);(replace H : (if t131 = 0 then (if 0 ≤ a1 then (if a1 < (l0.length : Int) then ((spec_l14Before.f l0 a1).bind fun t133 => ((spec_l14Less.f k ((rd_T64 l0 a1).f1) t133).bind fun t136 => (some (t136, 0)))) else (none)) else (none)) else (some (([] : List ByteArray), t131))) = some (r1, r2) := H);(have A3 := Aside0.mk A30);clear A30;(by_cases c4 : t131 = 0)
 ·rw [if_pos c4] at H
  (have c4b0 : (t131 == 0) = true := beq_iff_eq.mpr c4);(have c4b1 : (t131 != 0) = false := bne_eq_false_iff_eq.mpr c4);clear c4;(by_cases c5 : 0 ≤ a1)
  ·rw [if_pos c5] at H
   (have c5b0 : decide (0 ≤ a1) = true := decide_eq_true c5);clear c5;(by_cases c6 : a1 < (l0.length : Int))
   ·rw [if_pos c6] at H
    (have c6b0 : decide (a1 < (l0.length : Int)) = true := decide_eq_true c6);clear c6;(replace H := Option.bind_eq_some_iff.mp H);(obtain ⟨t133, A70, H⟩ := H);(replace H : ((spec_l14Less.f k ((rd_T64 l0 a1).f1) t133).bind fun t136 => (some (t136, 0))) = some (r1, r2) := H);(have A7 := Aside0.mk A70);clear A70;(replace H := Option.bind_eq_some_iff.mp H);(obtain ⟨t136, A80, H⟩ := H);(replace H : (some (t136, 0)) = some (r1, r2) := H);(have A8 := Aside0.mk A80);clear A80;(simp only [Option.some.injEq, Prod.mk.injEq] at H);(obtain ⟨rfl, rfl⟩ := H)
    go_enter Tryd.func10, Tryd.ntmps10
    (try go_wp2_with (first | ((with_reducible refine gate_callee (f := 61) rfl ?_); refine goesL_ (some 9) rfl rfl Tryd.func61 (by kernel_rfl) rfl #[.slice A0 l0.length c0, .int .i64 a1] rfl zq1 ?_; (with_reducible refine (spec_l14One.calls k _ _ l0 a1 t131 _ ?side1 ?side2 A3.out).mono ?_); (case side1 => exact zq88); (case side2 => exact HC0.out); rintro e w9 ⟨rfl, hb⟩; refine ⟨_, rfl, ?_⟩; have n0_ := Aside0.mk (below_step zq55 hb); clear HB; have HB := n0_; clear n0_; (try clear hb); (try clear hb2); (try clear hk); (try clear hi))));(have n0_ := Aside0.mk (below_drew1 HB.out));clear HB;(have HB := n0_);clear n0_;(have p132 : 0 ≤ (a1 : Int) := of_decide_eq_true zq26);(have q132 : a1 < (l0.length : Int) := of_decide_eq_true zq26);(obtain ⟨ad132, A132_1, c132_1, e132, hx132_0, hx132_1, hl132_1, hi132_1⟩ := at_T64 HR0.out a1 p132 q132);(have hw132_1 := hx132_1);(have hw132_0 := hx132_0)
    cases e132
    (replace hx132_0 := (HB.out.cell (World.block_lt_of_cell? w _ hx132_0)).trans hx132_0);(replace hx132_1 := (HB.out.cell (World.block_lt_of_cell? w _ hx132_1)).trans hx132_1);(have HR132_1 := Aside0.mk hi132_1);(have HC132_1 := Aside0.mk hl132_1);clear hi132_1 hl132_1;(replace p132 := eq_true p132);(replace q132 := eq_true q132);(refine start_ (n := 11) (S := fun w' => w'.cell? (ad132.add ((a1).toNat * 2)) = some (.int .i64 ((rd_T64 l0 a1).f0)) ∧ w'.cell? ⟨(ad132.add ((a1).toNat * 2)).block, (ad132.add ((a1).toNat * 2)).off + 1, none⟩ = some (.slice A132_1 ((rd_T64 l0 a1).f1).length c132_1)) (ds := []) #[false,false,false,false,false,false,false,false,false,false,false] (by kernel_rfl) rfl rfl ⟨((HB.out.cell (World.block_lt_of_cell? w _ hw132_0)).trans hw132_0), ((HB.out.cell (World.block_lt_of_cell? w _ hw132_1)).trans hw132_1)⟩ (fun hHeld => ?_); refine with_tabW spec_NewNames.tab4 spec_NewNames.bits4 (fun HT_ HW_ => ?_));(generalize w9.drew = w10 at HB HR132_1 hx132_0 hx132_1 hHeld ⊢);(refine pI (i := 0) (N := some 13) (v := ?_) (a' := ?_) (mB 11 1) rfl rfl HT_.out (by kernel_rfl) (fun _ _ _ h => h) rfl ?_ ?_ ?_);rotate_left
    ·intro w'
     go_simp;(with_reducible rfl)
    rotate_left
    ·simp only [Act.put, sA]
     rfl
    (refine pI (i := 1) (N := some 14) (v := ?_) (a' := ?_) (mB 11 3) rfl rfl HT_.out (by kernel_rfl) (fun _ _ _ h => h) rfl ?_ ?_ ?_);rotate_left
    ·intro w'
     go_simp;(with_reducible rfl)
    rotate_left
    ·simp only [Act.put, sA]
     rfl
    (refine pI (i := 2) (N := some 15) (v := ?_) (a' := ?_) (mB 11 7) rfl rfl HT_.out (by kernel_rfl) (fun _ _ _ h => h) rfl ?_ ?_ ?_);rotate_left
    ·intro w'
     go_simp;(with_reducible rfl)
    rotate_left
    ·simp only [Act.put, sA]
     rfl
    (refine pI (i := 3) (N := some 16) (v := ?_) (a' := ?_) (mB 11 15) rfl rfl HT_.out (by kernel_rfl) (fun _ _ _ h => h) rfl ?_ ?_ ?_);rotate_left
    ·intro w'
     go_simp;(with_reducible rfl)
    rotate_left
    ·simp only [Act.put, sA]
     rfl
    (refine pI (i := 5) (N := some 18) (v := ?_) (a' := ?_) (mB 11 47) rfl rfl HT_.out (by kernel_rfl) (fun _ _ _ h => h) rfl ?_ ?_ ?_);rotate_left
    ·intro w'
     go_simp;(with_reducible rfl)
    rotate_left
    ·simp only [Act.put, sA]
     rfl
    (refine pI (i := 6) (N := some 19) (v := ?_) (a' := ?_) (mB 11 111) rfl rfl HT_.out (by kernel_rfl) (fun _ _ _ h => h) rfl ?_ ?_ ?_);rotate_left
    ·intro w'
     go_simp;(with_reducible rfl)
    rotate_left
    ·simp only [Act.put, sA]
     rfl
    (refine tI (i := 4) (N := some 17) (v := ?_) (a' := ?_) (mB 11 127) rfl rfl HT_.out HW_.out (by kernel_rfl) (fun _ _ _ h => h) rfl ?_ hHeld ?_ ?_);rotate_left
    ·rintro w' ⟨s0, s1⟩
     go_simp;(with_reducible rfl)
    rotate_left
    ·simp only [Act.put, sA]
     rfl
    (refine one_ (i := 7) (N := some 20) (mB 11 255) rfl rfl (one_of HT_.out (by kernel_rfl)) (by decide) (fun K hK => ?_));(refine goes_ Tryd.func63 (by kernel_rfl) rfl #[.slice (some ad132) l0.length c0, .int .i64 a1] (by rfl) rfl rfl zq1 ?_);(with_reducible refine (spec_l14Before.calls (fun k_ => k_ < w.heap.size) _ _ l0 a1 t133 _ ?side1 A7.out).mono ?_);((case side1 => exact Kd.V_mk HC0.out (Kd.F_below (Kd.C_F k64_heap HR0.out) zq55)));(rintro e w11 ⟨v134, rfl, ho0, hb⟩);(refine ⟨_, rfl, ?_⟩);(have n0_ := Aside0.mk (Kd.V_lower (Kd.V_mono (ok' := fun k_ => True) ho0 (fun k_ hk_ => trivial)) (below_size zq55)));(have n1_ := Aside0.mk (below_step zq55 hb));clear HB;(have HO135 := n0_);(have HB := n1_);clear n0_ n1_;(try clear hb);(try clear hb2);(try clear hk);(try clear hi);(try clear ho0);(obtain ⟨Ao12, co12, eo12⟩ := Kd.V_slice HO135.out);((first | subst eo12 | (injection eo12 with f1_ f2_ f3_; have f4_ := f1_.symm; have f5_ := f3_.symm; clear f1_ f2_ f3_; subst f4_; subst f5_)));(refine hK.out _ _ ⟨((HB.out.cell (World.block_lt_of_cell? w _ hw132_0)).trans hw132_0), ((HB.out.cell (World.block_lt_of_cell? w _ hw132_1)).trans hw132_1)⟩ (fun hHeld => ?_));clear hK K;(refine norm_ (a' := ?_) ?_ ?_);rotate_left
    ·show Act.put _ (some 20) _ = _
     (simp only [Act.put, sA]);rfl
    (refine one_ (i := 8) (N := some 21) (mB 11 511) rfl rfl (one_of HT_.out (by kernel_rfl)) (by decide) (fun K hK => ?_));(refine goes_ Tryd.func62 (by kernel_rfl) rfl #[.slice A132_1 ((rd_T64 l0 a1).f1).length c132_1, .slice Ao12 t133.length co12] (by rfl) rfl rfl zq1 ?_);(with_reducible refine (spec_l14Less.calls k _ _ ((rd_T64 l0 a1).f1) _ _ t133 t136 _ ?side1 ?side2 ?side3 ?side4 A8.out).mono ?_);((case side1 => exact by repeat (first | exact (Kd.C_below HR132_1.out HB.out) | (with_reducible refine Kd.C_alloc ?_ _) | (with_reducible refine Kd.C_drewN ?_ _) | (with_reducible refine Kd.C_drew ?_))));((case side2 => exact HC132_1.out));((case side3 => exact by repeat (first | exact (Kd.V_reads' HO135.out).2.2 | (with_reducible refine Kd.C_alloc ?_ _) | (with_reducible refine Kd.C_drewN ?_ _) | (with_reducible refine Kd.C_drew ?_))));((case side4 => exact (Kd.V_reads' HO135.out).2.1));(rintro e w13 ⟨v137, rfl, ho0, hb⟩);(refine ⟨_, rfl, ?_⟩);(have n0_ := Aside0.mk (Kd.V_elder' (by (with_reducible repeat (first | apply Kd.V_alloc | apply Kd.V_drewN | apply Kd.V_drew)); exact HO135.out) (Kd.R_base ho0) hb));(have n1_ := Aside0.mk (Kd.R_lower ho0 (below_size zq55)));(have n2_ := Aside0.mk (below_step zq55 hb));clear HO135;clear HB;(have HO135 := n0_);(have HO138 := n1_);(have HB := n2_);clear n0_ n1_ n2_;(try clear hb);(try clear hb2);(try clear hk);(try clear hi);(try clear ho0);(refine hK.out _ _ ⟨((HB.out.cell (World.block_lt_of_cell? w _ hw132_0)).trans hw132_0), ((HB.out.cell (World.block_lt_of_cell? w _ hw132_1)).trans hw132_1)⟩ (fun hHeld => ?_));clear hK K;(refine norm_ (a' := ?_) ?_ ?_);rotate_left
    ·show Act.put _ (some 21) _ = _
     (simp only [Act.put, sA]);rfl
    (refine pI (i := 9) (N := some 4) (v := ?_) (a' := ?_) (mB 11 1023) rfl rfl HT_.out (by kernel_rfl) (fun _ _ _ h => h) rfl ?_ ?_ ?_);rotate_left
    ·intro w'
     go_simp;(with_reducible rfl)
    rotate_left
    ·simp only [Act.put, sA]
     rfl
    (refine pI (i := 10) (N := some 5) (v := ?_) (a' := ?_) (mB 11 2047) rfl rfl HT_.out (by kernel_rfl) (fun _ _ _ h => h) rfl ?_ ?_ ?_);rotate_left
    ·intro w'
     go_simp;(with_reducible rfl)
    rotate_left
    ·simp only [Act.put, sA]
     rfl
    (refine done_ (done_of HT_.out (by kernel_rfl)) ?_);(try go_wp2);(go_ret2);(exact ⟨_, zq34, zR HO138.out, zq55⟩)
   ·rw [if_neg c6] at H
    exact absurd H (by simp)
  ·rw [if_neg c5] at H
   exact absurd H (by simp)
 ·rw [if_neg c4] at H
  (have c4b0 : (t131 == 0) = false := beq_eq_false_iff_ne.mpr c4);(have c4b1 : (t131 != 0) = true := bne_iff_ne.mpr c4);(simp only [Option.some.injEq, Prod.mk.injEq] at H);(obtain ⟨rfl, rfl⟩ := H)
  go_enter Tryd.func10, Tryd.ntmps10
  (go_wp2_with (first | ((with_reducible refine gate_callee (f := 61) rfl ?_); refine goesL_ (some 9) rfl rfl Tryd.func61 (by kernel_rfl) rfl #[.slice A0 l0.length c0, .int .i64 a1] rfl zq1 ?_; (with_reducible refine (spec_l14One.calls k _ _ l0 a1 t131 _ ?side1 ?side2 A3.out).mono ?_); (case side1 => exact zq88); (case side2 => exact HC0.out); rintro e w14 ⟨rfl, hb⟩; refine ⟨_, rfl, ?_⟩; have n0_ := Aside0.mk (below_step zq55 hb); clear HB; have HB := n0_; clear n0_; (try clear hb); (try clear hb2); (try clear hk); (try clear hi))));(go_ret2);(exact ⟨_, zq34, zq27, zq55⟩)

/-! ### strings_Trim: function 130 -/
-- given by hand
def layTrim_ren : Go.Shelf.Ren := ⟨(fun | 160 => 130 | 232 => 137 | 231 => 136 | 227 => 138 | 234 => 140 | 233 => 139 | 236 => 142 | 235 => 141 | 228 => 143 | 271 => 146 | 151 => 145 | 197 => 144 | 120 => 149 | 152 => 148 | 260 => 147 | 137 => 150 | 119 => 151 | 224 => 152 | 225 => 153 | 217 => 154 | 266 => 155 | n => n), (fun | 9 => 9 | 4 => 4 | 3 => 3 | 5 => 5 | 117 => 148 | 116 => 147 | 0 => 0 | 124 => 151 | 21 => 21 | 105 => 152 | 46 => 144 | 119 => 156 | 139 => 159 | 138 => 158 | n => n), (fun | 3 => 0 | 4 => 1 | n => n)⟩
theorem layTrim : Go.Proofs.Lays.n160 Tryd.prog layTrim_ren := { mixed := by kernel_rfl, f119 := Tryd.func151.trans (congrArg some (by kernel_rfl)), f120 := Tryd.func149.trans (congrArg some (by kernel_rfl)), f137 := Tryd.func150.trans (congrArg some (by kernel_rfl)), f151 := Tryd.func145.trans (congrArg some (by kernel_rfl)), f152 := Tryd.func148.trans (congrArg some (by kernel_rfl)), f160 := Tryd.func130.trans (congrArg some (by kernel_rfl)), f197 := Tryd.func144.trans (congrArg some (by kernel_rfl)), f217 := Tryd.func154.trans (congrArg some (by kernel_rfl)), f224 := Tryd.func152.trans (congrArg some (by kernel_rfl)), f225 := Tryd.func153.trans (congrArg some (by kernel_rfl)), f227 := Tryd.func138.trans (congrArg some (by kernel_rfl)), f228 := Tryd.func143.trans (congrArg some (by kernel_rfl)), f231 := Tryd.func136.trans (congrArg some (by kernel_rfl)), f232 := Tryd.func137.trans (congrArg some (by kernel_rfl)), f233 := Tryd.func139.trans (congrArg some (by kernel_rfl)), f234 := Tryd.func140.trans (congrArg some (by kernel_rfl)), f235 := Tryd.func141.trans (congrArg some (by kernel_rfl)), f236 := Tryd.func142.trans (congrArg some (by kernel_rfl)), f260 := Tryd.func147.trans (congrArg some (by kernel_rfl)), f266 := Tryd.func155.trans (congrArg some (by kernel_rfl)), f271 := Tryd.func146.trans (congrArg some (by kernel_rfl)), t0 := Tryd.underlying0, a0 := Tryd.isAgg0, z0 := Tryd.sizeOf0, v0 := Tryd.zeroValue0, t3 := Tryd.underlying3, a3 := Tryd.isAgg3, z3 := Tryd.sizeOf3, v3 := Tryd.zeroValue3, t4 := Tryd.underlying4, a4 := Tryd.isAgg4, z4 := Tryd.sizeOf4, v4 := Tryd.zeroValue4, t5 := Tryd.underlying5, a5 := Tryd.isAgg5, z5 := Tryd.sizeOf5, v5 := Tryd.zeroValue5, t9 := Tryd.underlying9, a9 := Tryd.isAgg9, z9 := Tryd.sizeOf9, v9 := Tryd.zeroValue9, t21 := Tryd.underlying21, a21 := Tryd.isAgg21, z21 := Tryd.sizeOf21, v21 := Tryd.zeroValue21, t46 := Tryd.underlying144, a46 := Tryd.isAgg144, z46 := Tryd.sizeOf144, v46 := Tryd.zeroValue144, t105 := Tryd.underlying152, a105 := Tryd.isAgg152, z105 := Tryd.sizeOf152, v105 := Tryd.zeroValue152, t116 := Tryd.underlying147, a116 := Tryd.isAgg147, z116 := Tryd.sizeOf147, t117 := Tryd.underlying148, a117 := Tryd.isAgg148, z117 := Tryd.sizeOf148, v117 := Tryd.zeroValue148, t119 := Tryd.underlying156, a119 := Tryd.isAgg156, z119 := Tryd.sizeOf156, t124 := Tryd.underlying151, a124 := Tryd.isAgg151, z124 := Tryd.sizeOf151, v124 := Tryd.zeroValue151, t138 := Tryd.underlying158, a138 := Tryd.isAgg158, z138 := Tryd.sizeOf158, v138 := Tryd.zeroValue158, t139 := Tryd.underlying159, a139 := Tryd.isAgg159, z139 := Tryd.sizeOf159, v139 := Tryd.zeroValue159, g3 := by kernel_rfl, g4 := by kernel_rfl }

def strings_Trim.f (a0 a1 : ByteArray) : Option ByteArray := if a0.size ≤ 9223372036854775807 ∧ a1.size < 4294967281 ∧ a1.data.toList.all (fun b => decide (b.toNat < 128)) = true then some ⟨(Go.Lib.trimS a0.data.toList a1.data.toList).toArray⟩ else none
theorem strings_Trim.calls (a0 : ByteArray) (a1 : ByteArray) (r : ByteArray) (w : World) (h : strings_Trim.f a0 a1 = some r) :
  Calls Tryd.prog 130 #[.string a0, .string a1] w fun e w' => e = .returned (.string r) ∧ Below w.heap.size w w' := by
 unfold strings_Trim.f at h
 split at h
 ·rename_i hc
  (obtain rfl := Option.some.inj h);(exact Go.Proofs.Any.strings_Trim_laid layTrim (by kernel_rfl) a0 a1 w hc.1 hc.2.1 (Go.Proofs.ascii_of_all hc.2.2))
 ·cases h


/-! ### impl_IsName: function 103 -/
def impl_IsName.f (a0 : ByteArray) : Option (Bool) := if (a0.size : Int) < 1 then (some false) else (if (a0.size : Int) > 12 then (some false) else (if 0 < (a0.size : Int) then (if (bt a0 0) < 97 then (some false) else (if (bt a0 0) > 122 then (some false) else ((strings_Trim.f a0 (⟨#[97, 98, 99, 100, 101, 102, 103, 104, 105, 106, 107, 108, 109, 110, 111, 112, 113, 114, 115, 116, 117, 118, 119, 120, 121, 122, 48, 49, 50, 51, 52, 53, 54, 55, 56, 57, 45]⟩ : ByteArray)).bind fun t139 => (some (t139.toList == ([] : List UInt8)))))) else (none)))
theorem impl_IsName.calls (a0 : ByteArray) (r : Bool) (w : World) (h : impl_IsName.f a0 = some r) :
  Calls Tryd.prog 103 #[.string a0] w fun e w' => e = .returned (.bool r) ∧ Below w.heap.size w w' := by
 (have HB := Aside0.mk (Below.refl w.heap.size w));(have H : (if (a0.size : Int) < 1 then (some false) else (if (a0.size : Int) > 12 then (some false) else (if 0 < (a0.size : Int) then (if (bt a0 0) < 97 then (some false) else (if (bt a0 0) > 122 then (some false) else ((strings_Trim.f a0 (⟨#[97, 98, 99, 100, 101, 102, 103, 104, 105, 106, 107, 108, 109, 110, 111, 112, 113, 114, 115, 116, 117, 118, 119, 120, 121, 122, 48, 49, 50, 51, 52, 53, 54, 55, 56, 57, 45]⟩ : ByteArray)).bind fun t139 => (some (t139.toList == ([] : List UInt8)))))) else (none)))) = some r := h);clear h;(by_cases c2 : (a0.size : Int) < 1)
 ·rw [if_pos c2] at H
  (have c2b0 : decide ((a0.size : Int) < 1) = true := decide_eq_true c2);(have c2b1 : decide (a0.size < 1) = true := decide_eq_true (by omega));clear c2;(obtain rfl := Option.some.inj H)
  go_enter Tryd.func103, Tryd.ntmps103
  (go_wp2);(go_ret);(exact ⟨zq34, zq55⟩)
 ·rw [if_neg c2] at H
  (have c2b0 : decide ((a0.size : Int) < 1) = false := decide_eq_false c2);(have c2b1 : decide (a0.size < 1) = false := decide_eq_false (by omega));clear c2;(by_cases c3 : (a0.size : Int) > 12)
  ·rw [if_pos c3] at H
   (have c3b0 : decide (12 < (a0.size : Int)) = true := decide_eq_true c3);(have c3b1 : decide (12 < a0.size) = true := decide_eq_true (by omega));clear c3;(obtain rfl := Option.some.inj H)
   go_enter Tryd.func103, Tryd.ntmps103
   (go_wp2);(go_ret);(exact ⟨zq34, zq55⟩)
  ·rw [if_neg c3] at H
   (have c3b0 : decide (12 < (a0.size : Int)) = false := decide_eq_false c3);(have c3b1 : decide (12 < a0.size) = false := decide_eq_false (by omega));clear c3;(by_cases c4 : 0 < (a0.size : Int))
   ·rw [if_pos c4] at H
    (have c4b0 : decide (0 < (a0.size : Int)) = true := decide_eq_true c4);(have c4b1 : decide (0 < a0.size) = true := decide_eq_true (by omega));clear c4;(by_cases c6 : (bt a0 0) < 97)
    ·rw [if_pos c6] at H
     (have c6b0 : decide ((bt a0 0) < 97) = true := decide_eq_true c6);clear c6;(obtain rfl := Option.some.inj H);(have p5 : 0 ≤ (0 : Int) := (by omega));(have q5 : 0 < a0.size := (by have : (0 : Int) < (a0.size : Int) := of_decide_eq_true zq26; omega));(have hx5 : ∀ h : 0 < a0.size, ((a0[0]'h).toNat : Int) = bt a0 0 := bt_at a0 0);clear p5;(have qi5 : (0 < (a0.size : Int)) = True := eq_true (of_decide_eq_true zq26));(replace q5 := eq_true q5)
     go_enter Tryd.func103, Tryd.ntmps103
     (go_wp2);(go_ret);(exact ⟨zq34, zq55⟩)
    ·rw [if_neg c6] at H
     (have c6b0 : decide ((bt a0 0) < 97) = false := decide_eq_false c6);clear c6;(by_cases c8 : (bt a0 0) > 122)
     ·rw [if_pos c8] at H
      (have c8b0 : decide (122 < (bt a0 0)) = true := decide_eq_true c8);clear c8;(obtain rfl := Option.some.inj H);(have p5 : 0 ≤ (0 : Int) := (by omega));(have q5 : 0 < a0.size := (by have : (0 : Int) < (a0.size : Int) := of_decide_eq_true zq26; omega));(have hx5 : ∀ h : 0 < a0.size, ((a0[0]'h).toNat : Int) = bt a0 0 := bt_at a0 0);clear p5;(have qi5 : (0 < (a0.size : Int)) = True := eq_true (of_decide_eq_true zq26));(replace q5 := eq_true q5);(have p7 : 0 ≤ (0 : Int) := (by omega));(have q7 : 0 < a0.size := (by have : (0 : Int) < (a0.size : Int) := of_decide_eq_true zq26; omega));(have hx7 : ∀ h : 0 < a0.size, ((a0[0]'h).toNat : Int) = bt a0 0 := bt_at a0 0);clear p7;(have qi7 : (0 < (a0.size : Int)) = True := eq_true (of_decide_eq_true zq26));(replace q7 := eq_true q7)
      go_enter Tryd.func103, Tryd.ntmps103
      (go_wp2);(go_ret);(exact ⟨zq34, zq55⟩)
     ·rw [if_neg c8] at H
      (have c8b0 : decide (122 < (bt a0 0)) = false := decide_eq_false c8);clear c8;(replace H := Option.bind_eq_some_iff.mp H);(obtain ⟨t139, A90, H⟩ := H);(replace H : (some (t139.toList == ([] : List UInt8))) = some r := H);(have A9 := Aside0.mk A90);clear A90;(obtain rfl := Option.some.inj H);(have p5 : 0 ≤ (0 : Int) := (by omega));(have q5 : 0 < a0.size := (by have : (0 : Int) < (a0.size : Int) := of_decide_eq_true zq26; omega));(have hx5 : ∀ h : 0 < a0.size, ((a0[0]'h).toNat : Int) = bt a0 0 := bt_at a0 0);clear p5;(have qi5 : (0 < (a0.size : Int)) = True := eq_true (of_decide_eq_true zq26));(replace q5 := eq_true q5);(have p7 : 0 ≤ (0 : Int) := (by omega));(have q7 : 0 < a0.size := (by have : (0 : Int) < (a0.size : Int) := of_decide_eq_true zq26; omega));(have hx7 : ∀ h : 0 < a0.size, ((a0[0]'h).toNat : Int) = bt a0 0 := bt_at a0 0);clear p7;(have qi7 : (0 < (a0.size : Int)) = True := eq_true (of_decide_eq_true zq26));(replace q7 := eq_true q7)
      go_enter Tryd.func103, Tryd.ntmps103
      (go_wp2_with (first | ((with_reducible refine gate_callee (f := 130) rfl ?_); refine goesL_ (some 22) rfl rfl Tryd.func130 (by kernel_rfl) rfl #[.string a0, .string (⟨#[97, 98, 99, 100, 101, 102, 103, 104, 105, 106, 107, 108, 109, 110, 111, 112, 113, 114, 115, 116, 117, 118, 119, 120, 121, 122, 48, 49, 50, 51, 52, 53, 54, 55, 56, 57, 45]⟩ : ByteArray)] rfl zq1 ?_; (with_reducible refine (strings_Trim.calls a0 (⟨#[97, 98, 99, 100, 101, 102, 103, 104, 105, 106, 107, 108, 109, 110, 111, 112, 113, 114, 115, 116, 117, 118, 119, 120, 121, 122, 48, 49, 50, 51, 52, 53, 54, 55, 56, 57, 45]⟩ : ByteArray) t139 _ A9.out).mono ?_); rintro e w10 ⟨rfl, hb⟩; refine ⟨_, rfl, ?_⟩; have n0_ := Aside0.mk (below_step zq55 hb); clear HB; have HB := n0_; clear n0_; (try clear hb); (try clear hb2); (try clear hk); (try clear hi))));(go_ret);(exact ⟨zq34, zq55⟩)
   ·rw [if_neg c4] at H
    exact absurd H (by simp)

end Go.Proofs.YtalmeecdjhelkaaDoor.PFnEditions
