-- Made by a program of this session (gprint.py) out of the kit's print of the translation and texts of my own. SLIM
import Derived.Test.YtdambdglgdaojaaGreatDoorPFnFiguresx0
import Derived.Test.YtdambdglgdaojaaGreatDoorPFnFiguresx4
import Derived.Test.YtdambdglgdaojaaGreatDoorPFnFiguresx5
namespace Go.Proofs.YtdambdglgdaojaaGreatDoor.PFnFigures
open Go.RowKit Go.Proofs.YtdambdglgdaojaaGreatDoorW.PrintWords Go.Proofs.YtdambdglgdaojaaGreatDoorW.PrintLast Go.Proofs.YtdambdglgdaojaaGreatDoorW.PrintMore
set_option maxHeartbeats 64000000
set_option maxRecDepth 100000
attribute [local go_sem] max2_int min2_int max_two min_two max_three min_three max_four min_four   -- for this text's walks alone
set_option linter.unusedVariables false
set_option linter.unusedSimpArgs false

/-! ### laws_f6has: function 17 -/
def laws_f6has.l0 : Nat → List Int → Int → Int → Option (Bool)
 | 0, _, _, _ => none
 | k + 1, x0, x1, x5 => if x5 < (x0.length : Int) then (if 0 ≤ x5 then (if (rd x0 x5) = x1 then (some true) else (laws_f6has.l0 k x0 x1 (wrap64 (x5 + 1)))) else (none)) else (some false)
def laws_f6has.f (k : Nat) (l0 : List Int) (a1 : Int) : Option (Bool) := laws_f6has.l0 k l0 a1 0
theorem laws_f6has.mono_l : ∀ k, (∀ y0 y1 y2, LeO (laws_f6has.l0 k y0 y1 y2) (laws_f6has.l0 (k + 1) y0 y1 y2))
 | 0 => fun _ _ _ r h => by simp [laws_f6has.l0] at h
 | k + 1 => by
  have ih0 := laws_f6has.mono_l k
  ·intro y0 y1 y2
   unfold laws_f6has.l0
   repeat' first | with_reducible (first | exact ih0 _ _ _ | exact LeO.refl _ | exact LeO.none _ | refine LeO.ite ?_ ?_ | refine LeO.bind ?_ (fun _ => ?_)) | exact ih0 _ _ _ | exact LeO.none _ | refine LeO.ite ?_ ?_ | refine LeO.bind ?_ (fun _ => ?_)
theorem laws_f6has.mono : ∀ a0 a1 k, LeO (laws_f6has.f k a0 a1) (laws_f6has.f (k + 1) a0 a1) := by
 intro a0 a1 k;(have ih0 := laws_f6has.mono_l k);(unfold laws_f6has.f)
 repeat' first | with_reducible (first | exact ih0 _ _ _ | exact LeO.refl _ | exact LeO.none _ | refine LeO.ite ?_ ?_ | refine LeO.bind ?_ (fun _ => ?_)) | exact ih0 _ _ _ | exact LeO.none _ | refine LeO.ite ?_ ?_ | refine LeO.bind ?_ (fun _ => ?_)
theorem laws_f6has.calls (k : Nat) (A0 : Option Addr) (c0 : Nat) (l0 : List Int) (a1 : Int) (r : Bool) (w : World) (hr0 : Kd.C (Kd.int .i64) w A0 l0.length l0) (hc0 : l0.length ≤ c0) (h : laws_f6has.f k l0 a1 = some r) :
  Calls Tryz.prog 17 #[.slice A0 l0.length c0, .int .i64 a1] w fun e w' => e = .returned (.bool r) ∧ Drawn0 w w' := by
 (have HR0 := Aside0.mk hr0);(have HC0 := Aside0.mk hc0);clear hr0 hc0;(have H : (laws_f6has.l0 k l0 a1 0) = some r := h);clear h;(have H' := Aside0.mk H);clear H
 go_enter Tryz.func17, Tryz.ntmps17
 go_wp2
 go_loopg [5] k (fun kq v5 w' => ∃ (x5_1 : Int), v5 = .int .i64 x5_1 ∧ Aside0 (laws_f6has.l0 kq l0 a1 x5_1 = some r) ∧ Aside0 (kq ≤ k) ∧ Drawn0 w w')
 case atStart => exact ⟨(0), zq46, H', ⟨Nat.le_refl _⟩, zq108⟩
 case round =>
  clear H';(try clear c1);(try clear p2);(obtain ⟨x5_1, rfl, HA, HK1, ⟨m1, rfl⟩⟩ := hrel)
  cases gk with
  | zero => exact absurd HA.out (by simp [laws_f6has.l0])
  | succ k1 =>
   (have H := HA.out);clear HA;(simp only [laws_f6has.l0] at H);(by_cases c3 : x5_1 < (l0.length : Int))
   ·rw [if_pos c3] at H
    (have c3b0 : decide (x5_1 < (l0.length : Int)) = true := decide_eq_true c3);clear c3;(by_cases c4 : 0 ≤ x5_1)
    ·rw [if_pos c4] at H
     (have c4b0 : decide (0 ≤ x5_1) = true := decide_eq_true c4);clear c4;(by_cases c5 : (rd l0 x5_1) = a1)
     ·rw [if_pos c5] at H
      (have c5b0 : ((rd l0 x5_1) == a1) = true := beq_iff_eq.mpr c5);(have c5b1 : ((rd l0 x5_1) != a1) = false := bne_eq_false_iff_eq.mpr c5);clear c5;(obtain rfl := Option.some.inj H);(have p508 : 0 ≤ (x5_1 : Int) := of_decide_eq_true zq39);(have q508 : x5_1 < (l0.length : Int) := of_decide_eq_true zq39);(obtain ⟨ad508, e508, hx508_0⟩ := Kd.at_int HR0.out x5_1 p508 q508)
      cases e508
      (replace p508 := eq_true p508);(replace q508 := eq_true q508);(go_wp2);(go_ret);(exact ⟨zq46, zq108⟩)
     ·rw [if_neg c5] at H
      (have c5b0 : ((rd l0 x5_1) == a1) = false := beq_eq_false_iff_ne.mpr c5);(have c5b1 : ((rd l0 x5_1) != a1) = true := bne_iff_ne.mpr c5);(have H' := Aside0.mk H);clear H;(have p508 : 0 ≤ (x5_1 : Int) := of_decide_eq_true zq39);(have q508 : x5_1 < (l0.length : Int) := of_decide_eq_true zq39);(obtain ⟨ad508, e508, hx508_0⟩ := Kd.at_int HR0.out x5_1 p508 q508)
      cases e508
      (replace p508 := eq_true p508);(replace q508 := eq_true q508);(go_wp2);(go_roundg k1)
      case measure => have := HK1.out; omega
      case rel => exact ⟨(wrap64 (x5_1 + 1)), zq46, H', ⟨zq56⟩, zq108⟩
    ·rw [if_neg c4] at H
     exact absurd H (by simp)
   ·rw [if_neg c3] at H
    (have c3b0 : decide (x5_1 < (l0.length : Int)) = false := decide_eq_false c3);clear c3;(obtain rfl := Option.some.inj H);(go_wp2);(go_ret);(exact ⟨zq46, zq108⟩)

/-! ### impl_BrighterThan: function 18 -/
def impl_BrighterThan.l0 : Nat → Int → List Int → List (S53) → Int → Int → Option (List Int × Int)
 | 0, _, _, _, _, _ => none
 | k + 1, x1, x7, x19, x20, x21 => if x21 < x20 then (if 0 ≤ x21 then (if x21 < (x19.length : Int) then (if ((rd_T53 x19 x21).f1) ≤ x1 then (if x7.length < 17592186044416 then (impl_BrighterThan.l0 k x1 (x7 ++ [x21]) x19 x20 (wrap64 (x21 + 1))) else (none)) else (impl_BrighterThan.l0 k x1 x7 x19 x20 (wrap64 (x21 + 1)))) else (none)) else (none)) else (some (x7, 0))
def impl_BrighterThan.f (k : Nat) (l0 : List (S53)) (a1 : Int) : Option (List Int × Int) := (impl_ValidCatalogue.f l0).bind fun t509 => ((impl_isClass.f a1).bind fun t510 => ((impl_check.f t509 t510).bind fun t511 => (if t511 = 0 then (impl_BrighterThan.l0 k a1 (([] : List Int)) l0 (l0.length : Int) 0) else (some (([] : List Int), t511)))))
theorem impl_BrighterThan.mono_l : ∀ k, (∀ y0 y1 y2 y3 y4, LeO (impl_BrighterThan.l0 k y0 y1 y2 y3 y4) (impl_BrighterThan.l0 (k + 1) y0 y1 y2 y3 y4))
 | 0 => fun _ _ _ _ _ r h => by simp [impl_BrighterThan.l0] at h
 | k + 1 => by
  have ih0 := impl_BrighterThan.mono_l k
  ·intro y0 y1 y2 y3 y4
   unfold impl_BrighterThan.l0
   repeat' first | with_reducible (first | exact ih0 _ _ _ _ _ | exact LeO.refl _ | exact LeO.none _ | refine LeO.ite ?_ ?_ | refine LeO.bind ?_ (fun _ => ?_)) | exact ih0 _ _ _ _ _ | exact LeO.none _ | refine LeO.ite ?_ ?_ | refine LeO.bind ?_ (fun _ => ?_)
theorem impl_BrighterThan.mono : ∀ a0 a1 k, LeO (impl_BrighterThan.f k a0 a1) (impl_BrighterThan.f (k + 1) a0 a1) := by
 intro a0 a1 k;(have ih0 := impl_BrighterThan.mono_l k);(unfold impl_BrighterThan.f)
 repeat' first | with_reducible (first | exact ih0 _ _ _ _ _ | exact LeO.refl _ | exact LeO.none _ | refine LeO.ite ?_ ?_ | refine LeO.bind ?_ (fun _ => ?_)) | exact ih0 _ _ _ _ _ | exact LeO.none _ | refine LeO.ite ?_ ?_ | refine LeO.bind ?_ (fun _ => ?_)
theorem impl_BrighterThan.calls (k : Nat) (A0 : Option Addr) (c0 : Nat) (l0 : List (S53)) (a1 : Int) (r1 : List Int) (r2 : Int) (w : World) (hr0 : Kd.C k53 w A0 l0.length l0) (hc0 : l0.length ≤ c0) (h : impl_BrighterThan.f k l0 a1 = some (r1, r2)) :
  Calls Tryz.prog 18 #[.slice A0 l0.length c0, .int .i64 a1] w fun e w' => ∃ v0_ : Value, e = .returned (.tuple #[v0_, .int .i64 r2]) ∧ Kd.R (Kd.int .i64) 2 w' w.heap.size (fun _ => True) v0_ r1 ∧ Below w.heap.size w w' := by
 (have hu53 := Tryz.underlying53);(have HR0 := Aside0.mk hr0);(have HC0 := Aside0.mk hc0);clear hr0 hc0;(have HB := Aside0.mk (Below.refl w.heap.size w));(have H : ((impl_ValidCatalogue.f l0).bind fun t509 => ((impl_isClass.f a1).bind fun t510 => ((impl_check.f t509 t510).bind fun t511 => (if t511 = 0 then (impl_BrighterThan.l0 k a1 (([] : List Int)) l0 (l0.length : Int) 0) else (some (([] : List Int), t511)))))) = some (r1, r2) := h);clear h;(replace H := Option.bind_eq_some_iff.mp H);(obtain ⟨t509, A30, H⟩ := H);(replace H : ((impl_isClass.f a1).bind fun t510 => ((impl_check.f t509 t510).bind fun t511 => (if t511 = 0 then (impl_BrighterThan.l0 k a1 (([] : List Int)) l0 (l0.length : Int) 0) else (some (([] : List Int), t511))))) = some (r1, r2) := H);(have A3 := Aside0.mk A30);clear A30;(replace H := Option.bind_eq_some_iff.mp H);(obtain ⟨t510, A40, H⟩ := H);(replace H : ((impl_check.f t509 t510).bind fun t511 => (if t511 = 0 then (impl_BrighterThan.l0 k a1 (([] : List Int)) l0 (l0.length : Int) 0) else (some (([] : List Int), t511)))) = some (r1, r2) := H);(have A4 := Aside0.mk A40);clear A40;(replace H := Option.bind_eq_some_iff.mp H);(obtain ⟨t511, A50, H⟩ := H);(replace H : (if t511 = 0 then (impl_BrighterThan.l0 k a1 (([] : List Int)) l0 (l0.length : Int) 0) else (some (([] : List Int), t511))) = some (r1, r2) := H);(have A5 := Aside0.mk A50);clear A50;(by_cases c6 : t511 = 0)
 ·rw [if_pos c6] at H
  (have c6b0 : (t511 == 0) = true := beq_iff_eq.mpr c6);(have c6b1 : (t511 != 0) = false := bne_eq_false_iff_eq.mpr c6);clear c6;(obtain ⟨y512, hy_⟩ : ∃ y_ : List Int, y_ = (([] : List Int)) := ⟨_, rfl⟩);(replace H : (impl_BrighterThan.l0 k a1 y512 l0 (l0.length : Int) 0) = some (r1, r2) := zq38);(have Ny512 := Aside0.mk hy_);clear hy_;(have H' := Aside0.mk H);clear H
  go_enter Tryz.func18, Tryz.ntmps18
  go_wp2_with (first | ((with_reducible refine gate_callee (f := 36) rfl ?_); refine goesL_ (some 11) rfl rfl Tryz.func36 (by kernel_rfl) rfl #[.slice A0 l0.length c0] rfl zq0 ?_; (with_reducible refine (impl_ValidCatalogue.calls _ _ l0 t509 _ ?side1 ?side2 A3.out).mono ?_); (case side1 => exact zq109); (case side2 => exact HC0.out); rintro e w7 ⟨rfl, hb⟩; refine ⟨_, rfl, ?_⟩; have n0_ := Aside0.mk (below_step zq79 hb); clear HB; have HB := n0_; clear n0_; (try clear hb); (try clear hb2); (try clear hk); (try clear hi)) | ((with_reducible refine gate_callee (f := 25) rfl ?_); refine goesL_ (some 13) rfl rfl Tryz.func25 (by kernel_rfl) rfl #[.int .i64 a1] rfl zq0 ?_; (with_reducible refine (impl_isClass.calls a1 t510 _ A4.out).mono ?_); rintro e w' ⟨rfl, ⟨nd, rfl⟩⟩; refine ⟨_, rfl, ?_⟩) | ((with_reducible refine gate_callee (f := 23) rfl ?_); refine goesL_ (some 14) rfl rfl Tryz.func23 (by kernel_rfl) rfl #[.bool t509, .bool t510] rfl zq0 ?_; (with_reducible refine (impl_check.calls t509 t510 t511 _ A5.out).mono ?_); rintro e w' ⟨rfl, ⟨nd, rfl⟩⟩; refine ⟨_, rfl, ?_⟩) | ((with_reducible refine gate_dst (N := 18) rfl ?_); refine Kd.R_lit (Kd.int .i64) _ 2 ?hg (N := 18) ?hd (xs := ([] : List Int)) (inner := []) (ok := fun _ => True) (okp := fun _ => True) ?hr ?hp (fun _ hk => hk) trivial (Below.refl _ _) (Nat.le_refl _) (by simp) ?_; (case hd => rfl); (case hg => rfl); (case hr => first | (go_simp; done) | (go_simp; rfl)); (case hp => exact (Reps.none _ _)); intro v513 w8 ho9 hb hg_ hnew_; clear hg_ hnew_; (first | rw [← Ny512.out] at ho9 | (simp only [Int.reduceToNat] at ho9; rw [← Ny512.out] at ho9)); have n0_ := Aside0.mk (Kd.R_lower ho9 (below_size zq79)); have n1_ := Aside0.mk (below_step zq79 hb); clear HB; have HO514 := n0_; have HB := n1_; clear n0_ n1_; clear hb ho9))
  go_loopg [7, 21] k (fun kq v7 v21 w' => ∃ (x7_1 : List Int) (x21_1 : Int), v21 = .int .i64 x21_1 ∧ Aside0 (impl_BrighterThan.l0 kq a1 x7_1 l0 (l0.length : Int) x21_1 = some (r1, r2)) ∧ Aside0 (kq ≤ k) ∧ Aside0 (Kd.R (Kd.int .i64) 2 w' w.heap.size (fun _ => True) v7 x7_1) ∧ Aside0 (Below w.heap.size w w'))
  case atStart => exact ⟨(y512), (0), zq46, H', ⟨Nat.le_refl _⟩, ⟨zR HO514.out⟩, ⟨zq79⟩⟩
  case round =>
   clear H';(try clear c1);(try clear c2);(try clear p2);(try clear c3);(try clear c6);(try clear c6b0);(try clear c6b1);(obtain ⟨x7_1, x21_1, rfl, HA, HK1, HO_7, HB⟩ := hrel)
   cases gk with
   | zero => exact absurd HA.out (by simp [impl_BrighterThan.l0])
   | succ k1 =>
    (have H := HA.out);clear HA;(simp only [impl_BrighterThan.l0] at H);(by_cases c10 : x21_1 < (l0.length : Int))
    ·rw [if_pos c10] at H
     (have c10b0 : decide (x21_1 < (l0.length : Int)) = true := decide_eq_true c10);clear c10;(by_cases c11 : 0 ≤ x21_1)
     ·rw [if_pos c11] at H
      (have c11b0 : decide (0 ≤ x21_1) = true := decide_eq_true c11);clear c11;(by_cases c12 : x21_1 < (l0.length : Int))
      ·rw [if_pos c12] at H
       (have c12b0 : decide (x21_1 < (l0.length : Int)) = true := decide_eq_true c12);clear c12;(by_cases c13 : ((rd_T53 l0 x21_1).f1) ≤ a1)
       ·rw [if_pos c13] at H
        (have c13b0 : decide (((rd_T53 l0 x21_1).f1) ≤ a1) = true := decide_eq_true c13);clear c13;(by_cases c14 : x7_1.length < 17592186044416)
        ·rw [if_pos c14] at H
         (have LMc14 := Aside0.mk c14);clear c14;(obtain ⟨y517, hy_⟩ : ∃ y_ : List Int, y_ = (x7_1 ++ [x21_1]) := ⟨_, rfl⟩);(replace H : (impl_BrighterThan.l0 k1 a1 y517 l0 (l0.length : Int) (wrap64 (x21_1 + 1))) = some (r1, r2) := zq38);(have Ny517 := Aside0.mk hy_);clear hy_;(have H' := Aside0.mk H);clear H;(have p515 : 0 ≤ (x21_1 : Int) := of_decide_eq_true zq39);(have q515 : x21_1 < (l0.length : Int) := of_decide_eq_true zq39);(obtain ⟨ad515, e515, hx515_0, hx515_1, hx515_2, hx515_3⟩ := at_T53 HR0.out x21_1 p515 q515)
         cases e515
         (replace hx515_0 := (HB.out.cell (World.block_lt_of_cell? w _ hx515_0)).trans hx515_0);(replace hx515_1 := (HB.out.cell (World.block_lt_of_cell? w _ hx515_1)).trans hx515_1);(replace hx515_2 := (HB.out.cell (World.block_lt_of_cell? w _ hx515_2)).trans hx515_2);(replace hx515_3 := (HB.out.cell (World.block_lt_of_cell? w _ hx515_3)).trans hx515_3);(replace p515 := eq_true p515);(replace q515 := eq_true q515);(go_wp2_with (first | ((with_reducible refine gate_dst (N := 9) rfl ?_); refine box_event ?hg (N := 9) ?hd (cs := #[.string (⟨#[]⟩ : ByteArray), .int .i64 0, .int .i64 0, .int .i64 0]) (t := 53) ?hr ?_; (case hd => rfl); (case hg => rfl); (case hr => first | (go_simp; done) | (go_simp; rfl)); intro gb516 hg w15 hbox hb; have n0_ := Aside0.mk (Kd.R_below (zR HO_7.out) hb); have n1_ := Aside0.mk (below_step zq79 hb); have n2_ := Aside0.mk (hbox); have n3_ := Aside0.mk ((zq111 : w.heap.size ≤ gb516)); have n4_ := Aside0.mk ((zq111 : w.heap.size ≤ gb516)); clear HO_7; clear HB; have HO_7 := n0_; have HB := n1_; have BK516 := n2_; have GW516 := n3_; have GE516 := n4_; clear n0_ n1_ n2_ n3_ n4_; clear hb hbox hg; have hcz16_0 : w15.cell? ⟨gb516, 0, none⟩ = some (.string (⟨#[]⟩ : ByteArray)) := (blk_cell BK516.out 0).trans rfl; have hcz16_1 : w15.cell? ⟨gb516, 1, none⟩ = some (.int .i64 0) := (blk_cell BK516.out 1).trans rfl; have hcz16_2 : w15.cell? ⟨gb516, 2, none⟩ = some (.int .i64 0) := (blk_cell BK516.out 2).trans rfl; have hcz16_3 : w15.cell? ⟨gb516, 3, none⟩ = some (.int .i64 0) := (blk_cell BK516.out 3).trans rfl; have hfz16_0 := blk_frozen BK516.out 0; have hfz16_1 := blk_frozen BK516.out 1; have hfz16_2 := blk_frozen BK516.out 2; have hfz16_3 := blk_frozen BK516.out 3) | ((with_reducible refine gate_builtin (b := .append) (xs := #[.tmp 30, .tmp 32]) rfl ?_); at_builtin; refine Kd.R_append (Kd.int .i64) (w0 := w) w.heap.size rfl (.tmp 30) (.tmp 32) 34 2 (.int .i64 0) 8 rfl Tryz.underlying34 info2 rfl (by decide) (by omega) u7 x7_1 x21_1 [.int .i64 x21_1] (fun _ => True) (fun _ => False) rfl zq32 ?aP (fun _ hk => hk.elim) ?aF ?aO ?aB ?aS ?aL ?_; (case aP => exact rfl); (case aB => exact zq78); (case aF => exact (fun _ _ => trivial)); (case aO => exact zq4); (case aS => exact (below_size zq78)); (case aL => have := LMc14.out; omega); intro v518 w17 ho hb hg hat; rw [← Ny517.out] at ho; have n0_ := Aside0.mk (blk_grown (g := gb516) (o := .cells #[.string ((rd_T53 l0 x21_1).f0), .int .i64 ((rd_T53 l0 x21_1).f1), .int .i64 ((rd_T53 l0 x21_1).f2.f0), .int .i64 ((rd_T53 l0 x21_1).f2.f1)] 53 (0, 0)) (by (with_reducible repeat (first | refine blk_drewN ?_ _ | refine blk_drew ?_ | refine blk_alloc ?_ _)); refine blk_put (cs := #[.string ((rd_T53 l0 x21_1).f0), .int .i64 ((rd_T53 l0 x21_1).f1), .int .i64 ((rd_T53 l0 x21_1).f2.f0), .int .i64 0]) ?_ 3 _ rfl; (with_reducible repeat (first | refine blk_drewN ?_ _ | refine blk_drew ?_ | refine blk_alloc ?_ _)); refine blk_put (cs := #[.string ((rd_T53 l0 x21_1).f0), .int .i64 ((rd_T53 l0 x21_1).f1), .int .i64 0, .int .i64 0]) ?_ 2 _ rfl; (with_reducible repeat (first | refine blk_drewN ?_ _ | refine blk_drew ?_ | refine blk_alloc ?_ _)); refine blk_put (cs := #[.string ((rd_T53 l0 x21_1).f0), .int .i64 0, .int .i64 0, .int .i64 0]) ?_ 1 _ rfl; (with_reducible repeat (first | refine blk_drewN ?_ _ | refine blk_drew ?_ | refine blk_alloc ?_ _)); refine blk_put (cs := #[.string (⟨#[]⟩ : ByteArray), .int .i64 0, .int .i64 0, .int .i64 0]) ?_ 0 _ rfl; (with_reducible repeat (first | refine blk_drewN ?_ _ | refine blk_drew ?_ | refine blk_alloc ?_ _)); exact BK516.out) hg (Kd.R_ne HO_7.out BK516.out (by decide))); have n1_ := Aside0.mk (hb); have n2_ := Aside0.mk (ho); clear BK516; clear HB; clear HO_7; have BK516 := n0_; have HB := n1_; have HO519 := n2_; clear n0_ n1_ n2_; clear ho hb hg hat)));(go_roundg k1)
         case measure => have := HK1.out; omega
         case rel => exact ⟨(y517), (wrap64 (x21_1 + 1)), zq46, H', ⟨zq56⟩, ⟨zR HO519.out⟩, ⟨zq78⟩⟩
        ·rw [if_neg c14] at H
         exact absurd H (by simp)
       ·rw [if_neg c13] at H
        (have c13b0 : decide (((rd_T53 l0 x21_1).f1) ≤ a1) = false := decide_eq_false c13);clear c13;(have H' := Aside0.mk H);clear H;(have p515 : 0 ≤ (x21_1 : Int) := of_decide_eq_true zq39);(have q515 : x21_1 < (l0.length : Int) := of_decide_eq_true zq39);(obtain ⟨ad515, e515, hx515_0, hx515_1, hx515_2, hx515_3⟩ := at_T53 HR0.out x21_1 p515 q515)
        cases e515
        (replace hx515_0 := (HB.out.cell (World.block_lt_of_cell? w _ hx515_0)).trans hx515_0);(replace hx515_1 := (HB.out.cell (World.block_lt_of_cell? w _ hx515_1)).trans hx515_1);(replace hx515_2 := (HB.out.cell (World.block_lt_of_cell? w _ hx515_2)).trans hx515_2);(replace hx515_3 := (HB.out.cell (World.block_lt_of_cell? w _ hx515_3)).trans hx515_3);(replace p515 := eq_true p515);(replace q515 := eq_true q515);(go_wp2_with (first | ((with_reducible refine gate_dst (N := 9) rfl ?_); refine box_event ?hg (N := 9) ?hd (cs := #[.string (⟨#[]⟩ : ByteArray), .int .i64 0, .int .i64 0, .int .i64 0]) (t := 53) ?hr ?_; (case hd => rfl); (case hg => rfl); (case hr => first | (go_simp; done) | (go_simp; rfl)); intro gb516 hg w18 hbox hb; have n0_ := Aside0.mk (Kd.R_below (zR HO_7.out) hb); have n1_ := Aside0.mk (below_step zq79 hb); have n2_ := Aside0.mk (hbox); have n3_ := Aside0.mk ((zq111 : w.heap.size ≤ gb516)); have n4_ := Aside0.mk ((zq111 : w.heap.size ≤ gb516)); clear HO_7; clear HB; have HO_7 := n0_; have HB := n1_; have BK516 := n2_; have GW516 := n3_; have GE516 := n4_; clear n0_ n1_ n2_ n3_ n4_; clear hb hbox hg; have hcz19_0 : w18.cell? ⟨gb516, 0, none⟩ = some (.string (⟨#[]⟩ : ByteArray)) := (blk_cell BK516.out 0).trans rfl; have hcz19_1 : w18.cell? ⟨gb516, 1, none⟩ = some (.int .i64 0) := (blk_cell BK516.out 1).trans rfl; have hcz19_2 : w18.cell? ⟨gb516, 2, none⟩ = some (.int .i64 0) := (blk_cell BK516.out 2).trans rfl; have hcz19_3 : w18.cell? ⟨gb516, 3, none⟩ = some (.int .i64 0) := (blk_cell BK516.out 3).trans rfl; have hfz19_0 := blk_frozen BK516.out 0; have hfz19_1 := blk_frozen BK516.out 1; have hfz19_2 := blk_frozen BK516.out 2; have hfz19_3 := blk_frozen BK516.out 3)));(go_roundg k1)
        case measure => have := HK1.out; omega
        case rel => exact ⟨(x7_1), (wrap64 (x21_1 + 1)), zq46, H', ⟨zq56⟩, ⟨zq4⟩, ⟨zq78⟩⟩
      ·rw [if_neg c12] at H
       exact absurd H (by simp)
     ·rw [if_neg c11] at H
      exact absurd H (by simp)
    ·rw [if_neg c10] at H
     (have c10b0 : decide (x21_1 < (l0.length : Int)) = false := decide_eq_false c10);clear c10;(simp only [Option.some.injEq, Prod.mk.injEq] at H);(obtain ⟨rfl, rfl⟩ := H);(go_wp2);(go_ret2);(exact ⟨_, zq43, zR HO_7.out, zq79⟩)
 ·rw [if_neg c6] at H
  (have c6b0 : (t511 == 0) = false := beq_eq_false_iff_ne.mpr c6);(have c6b1 : (t511 != 0) = true := bne_iff_ne.mpr c6);(simp only [Option.some.injEq, Prod.mk.injEq] at H);(obtain ⟨rfl, rfl⟩ := H)
  go_enter Tryz.func18, Tryz.ntmps18
  (go_wp2_with (first | ((with_reducible refine gate_callee (f := 36) rfl ?_); refine goesL_ (some 11) rfl rfl Tryz.func36 (by kernel_rfl) rfl #[.slice A0 l0.length c0] rfl zq0 ?_; (with_reducible refine (impl_ValidCatalogue.calls _ _ l0 t509 _ ?side1 ?side2 A3.out).mono ?_); (case side1 => exact zq109); (case side2 => exact HC0.out); rintro e w20 ⟨rfl, hb⟩; refine ⟨_, rfl, ?_⟩; have n0_ := Aside0.mk (below_step zq79 hb); clear HB; have HB := n0_; clear n0_; (try clear hb); (try clear hb2); (try clear hk); (try clear hi)) | ((with_reducible refine gate_callee (f := 25) rfl ?_); refine goesL_ (some 13) rfl rfl Tryz.func25 (by kernel_rfl) rfl #[.int .i64 a1] rfl zq0 ?_; (with_reducible refine (impl_isClass.calls a1 t510 _ A4.out).mono ?_); rintro e w' ⟨rfl, ⟨nd, rfl⟩⟩; refine ⟨_, rfl, ?_⟩) | ((with_reducible refine gate_callee (f := 23) rfl ?_); refine goesL_ (some 14) rfl rfl Tryz.func23 (by kernel_rfl) rfl #[.bool t509, .bool t510] rfl zq0 ?_; (with_reducible refine (impl_check.calls t509 t510 t511 _ A5.out).mono ?_); rintro e w' ⟨rfl, ⟨nd, rfl⟩⟩; refine ⟨_, rfl, ?_⟩)));(go_ret2);(exact ⟨_, zq43, zq40, zq79⟩)

end Go.Proofs.YtdambdglgdaojaaGreatDoor.PFnFigures
