-- Made by a program of this session (gprint.py) out of the kit's print of the translation and texts of my own. SLIM
import Derived.Test.YtnjalpniedpgmaaGreatDoorPFnCataloguesx0
import Derived.Test.YtnjalpniedpgmaaGreatDoorPFnCataloguesx5
import Derived.Test.YtnjalpniedpgmaaGreatDoorPFnCataloguesx6
import Derived.Test.YtnjalpniedpgmaaGreatDoorPFnCataloguesx7
import Derived.Test.YtnjalpniedpgmaaGreatDoorPFnCataloguesx10
namespace Go.Proofs.YtnjalpniedpgmaaGreatDoor.PFnCatalogues
open Go.RowKit Go.Proofs.YtnjalpniedpgmaaGreatDoorW.PrintWords Go.Proofs.YtnjalpniedpgmaaGreatDoorW.PrintLast Go.Proofs.YtnjalpniedpgmaaGreatDoorW.PrintMore
set_option maxHeartbeats 64000000
set_option maxRecDepth 100000
attribute [local go_sem] max2_int min2_int max_two min_two max_three min_three max_four min_four   -- for this text's walks alone
set_option linter.unusedVariables false
set_option linter.unusedSimpArgs false

/-! ### impl_FigureText: function 19 -/
def impl_FigureText.l0 : Nat → List (S40) → List ByteArray → List (S65) → Int → Int → Option (ByteArray)
 | 0, _, _, _, _, _ => none
 | k + 1, x0, x5, x13, x14, x15 => if x15 < x14 then (if 0 ≤ x15 then (if x15 < (x13.length : Int) then (if 0 ≤ ((rd_T65 x13 x15).f0) then (if ((rd_T65 x13 x15).f0) < (x0.length : Int) then (if ((rd_T40 x0 ((rd_T65 x13 x15).f0)).f0).size + 1 ≤ 9223372036854775807 then (if 0 ≤ ((rd_T65 x13 x15).f1) then (if ((rd_T65 x13 x15).f1) < (x0.length : Int) then (if (((rd_T40 x0 ((rd_T65 x13 x15).f0)).f0) ++ (⟨#[45]⟩ : ByteArray)).size + ((rd_T40 x0 ((rd_T65 x13 x15).f1)).f0).size ≤ 9223372036854775807 then (if x5.length < 8796093022208 then (impl_FigureText.l0 k x0 (x5 ++ [(((rd_T40 x0 ((rd_T65 x13 x15).f0)).f0) ++ (⟨#[45]⟩ : ByteArray)) ++ ((rd_T40 x0 ((rd_T65 x13 x15).f1)).f0)]) x13 x14 (wrap64 (x15 + 1))) else (none)) else (none)) else (none)) else (none)) else (none)) else (none)) else (none)) else (none)) else (none)) else ((strings_Join.f x5 (⟨#[44, 32]⟩ : ByteArray)).bind fun t513 => (some t513))
def impl_FigureText.f (k : Nat) (l0 : List (S40)) (l1 : List (S65)) : Option (ByteArray) := (impl_ValidFigure.f k l0 l1).bind fun t502 => (if t502 = true then (impl_FigureText.l0 k l0 (([] : List ByteArray)) l1 (l1.length : Int) 0) else (some (⟨#[]⟩ : ByteArray)))
theorem impl_FigureText.mono_l : ∀ k, (∀ y0 y1 y2 y3 y4, LeO (impl_FigureText.l0 k y0 y1 y2 y3 y4) (impl_FigureText.l0 (k + 1) y0 y1 y2 y3 y4))
 | 0 => fun _ _ _ _ _ r h => by simp [impl_FigureText.l0] at h
 | k + 1 => by
  have ih0 := impl_FigureText.mono_l k
  ·intro y0 y1 y2 y3 y4
   unfold impl_FigureText.l0
   repeat' first | with_reducible (first | exact ih0 _ _ _ _ _ | exact impl_ValidFigure.mono _ _ _ | exact LeO.refl _ | exact LeO.none _ | refine LeO.ite ?_ ?_ | refine LeO.bind ?_ (fun _ => ?_)) | exact ih0 _ _ _ _ _ | exact impl_ValidFigure.mono _ _ _ | exact LeO.none _ | refine LeO.ite ?_ ?_ | refine LeO.bind ?_ (fun _ => ?_)
theorem impl_FigureText.mono : ∀ a0 a1 k, LeO (impl_FigureText.f k a0 a1) (impl_FigureText.f (k + 1) a0 a1) := by
 intro a0 a1 k;(have ih0 := impl_FigureText.mono_l k);(unfold impl_FigureText.f)
 repeat' first | with_reducible (first | exact ih0 _ _ _ _ _ | exact impl_ValidFigure.mono _ _ _ | exact LeO.refl _ | exact LeO.none _ | refine LeO.ite ?_ ?_ | refine LeO.bind ?_ (fun _ => ?_)) | exact ih0 _ _ _ _ _ | exact impl_ValidFigure.mono _ _ _ | exact LeO.none _ | refine LeO.ite ?_ ?_ | refine LeO.bind ?_ (fun _ => ?_)
def impl_FigureText.T7 : Bool × List (List Nat × List Nat) := (true, [([], []), ([], []), ([], []), ([2], [2]), ([1, 3], [1, 3]), ([4], [4]), ([5], [5]), ([6], [6]), ([], []), ([], []), ([9], [9]), ([8, 10], [8, 10]), ([11], [11]), ([12], [12]), ([7, 13], [7, 13]), ([14], [14]), ([0, 15], [0, 15]), ([16, 16, 0, 1, 2, 3, 4, 5, 6, 7, 8, 9, 10, 11, 12, 13, 14, 15, 16], [0, 16])])
def impl_FigureText.B7 : List Nat := [0, 0, 0, 4, 14, 30, 62, 126, 0, 0, 512, 1792, 3840, 7936, 16382, 32766, 65535, 131071]
theorem impl_FigureText.tab7 : rtab .any (opsOf Tryz.f19 7) = impl_FigureText.T7 := by kernel_rfl
theorem impl_FigureText.bits7 : waitsOk impl_FigureText.T7.2 impl_FigureText.B7 = true := by kernel_rfl
theorem impl_FigureText.calls (k : Nat) (A0 : Option Addr) (c0 : Nat) (l0 : List (S40)) (A1 : Option Addr) (c1 : Nat) (l1 : List (S65)) (r : ByteArray) (w : World) (hr0 : Kd.C k40 w A0 l0.length l0) (hc0 : l0.length ≤ c0) (hr1 : Kd.C k65 w A1 l1.length l1) (hc1 : l1.length ≤ c1) (h : impl_FigureText.f k l0 l1 = some r) :
  Calls Tryz.prog 19 #[.slice A0 l0.length c0, .slice A1 l1.length c1] w fun e w' => e = .returned (.string r) ∧ Below w.heap.size w w' := by
 (have hu65 := Tryz.underlying65);(have HR0 := Aside0.mk hr0);(have HC0 := Aside0.mk hc0);clear hr0 hc0;(have HR1 := Aside0.mk hr1);(have HC1 := Aside0.mk hc1);clear hr1 hc1;(have HB := Aside0.mk (Below.refl w.heap.size w));(have H : ((impl_ValidFigure.f k l0 l1).bind fun t502 => (if t502 = true then (impl_FigureText.l0 k l0 (([] : List ByteArray)) l1 (l1.length : Int) 0) else (some (⟨#[]⟩ : ByteArray)))) = some r := h);clear h;(replace H := Option.bind_eq_some_iff.mp H);(obtain ⟨t502, A30, H⟩ := H);(replace H : (if t502 = true then (impl_FigureText.l0 k l0 (([] : List ByteArray)) l1 (l1.length : Int) 0) else (some (⟨#[]⟩ : ByteArray))) = some r := H);(have A3 := Aside0.mk A30);clear A30;(by_cases c4 : t502 = true)
 ·subst c4
  (have H1 : (impl_FigureText.l0 k l0 (([] : List ByteArray)) l1 (l1.length : Int) 0) = some r := zq97);clear H;(have H := H1);clear H1;(obtain ⟨y503, hy_⟩ : ∃ y_ : List ByteArray, y_ = (([] : List ByteArray)) := ⟨_, rfl⟩);(replace H : (impl_FigureText.l0 k l0 y503 l1 (l1.length : Int) 0) = some r := zq26);(have Ny503 := Aside0.mk hy_);clear hy_;(have H' := Aside0.mk H);clear H
  go_enter Tryz.func19, Tryz.ntmps19
  go_wp2_with (first | ((with_reducible refine gate_callee (f := 23) rfl ?_); refine goesL_ (some 10) rfl rfl Tryz.func23 (by kernel_rfl) rfl #[.slice A0 l0.length c0, .slice A1 l1.length c1] rfl zq0 ?_; (with_reducible refine (impl_ValidFigure.calls k _ _ l0 _ _ l1 true _ ?side1 ?side2 ?side3 ?side4 A3.out).mono ?_); (case side1 => exact zq88); (case side2 => exact HC0.out); (case side3 => exact zq89); (case side4 => exact HC1.out); rintro e w5 ⟨rfl, hb⟩; refine ⟨_, rfl, ?_⟩; have n0_ := Aside0.mk (below_step zq66 hb); clear HB; have HB := n0_; clear n0_; (try clear hb); (try clear hb2); (try clear hk); (try clear hi)) | ((with_reducible refine gate_dst (N := 12) rfl ?_); refine Kd.R_lit Kd.string _ 9 ?hg (N := 12) ?hd (xs := ([] : List ByteArray)) (inner := []) (ok := fun _ => True) (okp := fun _ => True) ?hr ?hp (fun _ hk => hk) trivial (Below.refl _ _) (Nat.le_refl _) (by simp) ?_; (case hd => rfl); (case hg => rfl); (case hr => first | (go_simp; done) | (go_simp; rfl)); (case hp => exact (Reps.none _ _)); intro v504 w6 ho7 hb hg_ hnew_; clear hg_ hnew_; (first | rw [← Ny503.out] at ho7 | (simp only [Int.reduceToNat] at ho7; rw [← Ny503.out] at ho7)); have n0_ := Aside0.mk (Kd.R_lower ho7 (below_size zq66)); have n1_ := Aside0.mk (below_step zq66 hb); clear HB; have HO505 := n0_; have HB := n1_; clear n0_ n1_; clear hb ho7))
  go_loopg [5, 15] k (fun kq v5 v15 w' => ∃ (x5_1 : List ByteArray) (x15_1 : Int), v15 = .int .i64 x15_1 ∧ Aside0 (impl_FigureText.l0 kq l0 x5_1 l1 (l1.length : Int) x15_1 = some r) ∧ Aside0 (kq ≤ k) ∧ Aside0 (Kd.R Kd.string 9 w' w.heap.size (fun _ => True) v5 x5_1) ∧ Aside0 (Below w.heap.size w w'))
  case atStart => exact ⟨(y503), (0), zq34, H', ⟨Nat.le_refl _⟩, ⟨zR HO505.out⟩, ⟨zq66⟩⟩
  case round =>
   clear H';(try clear c1);(try clear c2);(try clear p2);(try clear c4);(obtain ⟨x5_1, x15_1, rfl, HA, HK1, HO_5, HB⟩ := hrel)
   cases gk with
   | zero => exact absurd HA.out (by simp [impl_FigureText.l0])
   | succ k1 =>
    (have H := HA.out);clear HA;(simp only [impl_FigureText.l0] at H);(by_cases c8 : x15_1 < (l1.length : Int))
    ·rw [if_pos c8] at H
     (have c8b0 : decide (x15_1 < (l1.length : Int)) = true := decide_eq_true c8);clear c8;(by_cases c9 : 0 ≤ x15_1)
     ·rw [if_pos c9] at H
      (have c9b0 : decide (0 ≤ x15_1) = true := decide_eq_true c9);clear c9;(by_cases c10 : x15_1 < (l1.length : Int))
      ·rw [if_pos c10] at H
       (have c10b0 : decide (x15_1 < (l1.length : Int)) = true := decide_eq_true c10);clear c10;(by_cases c11 : 0 ≤ ((rd_T65 l1 x15_1).f0))
       ·rw [if_pos c11] at H
        (have c11b0 : decide (0 ≤ ((rd_T65 l1 x15_1).f0)) = true := decide_eq_true c11);clear c11;(by_cases c12 : ((rd_T65 l1 x15_1).f0) < (l0.length : Int))
        ·rw [if_pos c12] at H
         (have c12b0 : decide (((rd_T65 l1 x15_1).f0) < (l0.length : Int)) = true := decide_eq_true c12);clear c12;(by_cases c13 : ((rd_T40 l0 ((rd_T65 l1 x15_1).f0)).f0).size + 1 ≤ 9223372036854775807)
         ·rw [if_pos c13] at H
          (have c13b0 := eq_true c13);(have c13b1 : decide (((rd_T40 l0 ((rd_T65 l1 x15_1).f0)).f0).size + 1 ≤ 9223372036854775807) = true := decide_eq_true c13);(try have c13b2 : (9223372036854775807 < ((rd_T40 l0 ((rd_T65 l1 x15_1).f0)).f0).size + 1) = False := eq_false (Nat.not_lt.2 c13));(by_cases c14 : 0 ≤ ((rd_T65 l1 x15_1).f1))
          ·rw [if_pos c14] at H
           (have c14b0 : decide (0 ≤ ((rd_T65 l1 x15_1).f1)) = true := decide_eq_true c14);clear c14;(by_cases c15 : ((rd_T65 l1 x15_1).f1) < (l0.length : Int))
           ·rw [if_pos c15] at H
            (have c15b0 : decide (((rd_T65 l1 x15_1).f1) < (l0.length : Int)) = true := decide_eq_true c15);clear c15;(by_cases c16 : (((rd_T40 l0 ((rd_T65 l1 x15_1).f0)).f0) ++ (⟨#[45]⟩ : ByteArray)).size + ((rd_T40 l0 ((rd_T65 l1 x15_1).f1)).f0).size ≤ 9223372036854775807)
            ·rw [if_pos c16] at H
             (have c16b0 := eq_true c16);(have c16b1 : decide ((((rd_T40 l0 ((rd_T65 l1 x15_1).f0)).f0) ++ (⟨#[45]⟩ : ByteArray)).size + ((rd_T40 l0 ((rd_T65 l1 x15_1).f1)).f0).size ≤ 9223372036854775807) = true := decide_eq_true c16);(try have c16b2 : (9223372036854775807 < (((rd_T40 l0 ((rd_T65 l1 x15_1).f0)).f0) ++ (⟨#[45]⟩ : ByteArray)).size + ((rd_T40 l0 ((rd_T65 l1 x15_1).f1)).f0).size) = False := eq_false (Nat.not_lt.2 c16));(have c16b4 := c16b2);(simp only [ByteArray.size_append, show (⟨#[45]⟩ : ByteArray).size = 1 from rfl] at c16b4);(by_cases c17 : x5_1.length < 8796093022208)
             ·rw [if_pos c17] at H
              (have LMc17 := Aside0.mk c17);clear c17;(obtain ⟨y510, hy_⟩ : ∃ y_ : List ByteArray, y_ = (x5_1 ++ [(((rd_T40 l0 ((rd_T65 l1 x15_1).f0)).f0) ++ (⟨#[45]⟩ : ByteArray)) ++ ((rd_T40 l0 ((rd_T65 l1 x15_1).f1)).f0)]) := ⟨_, rfl⟩);(replace H : (impl_FigureText.l0 k1 l0 y510 l1 (l1.length : Int) (wrap64 (x15_1 + 1))) = some r := zq26);(have Ny510 := Aside0.mk hy_);clear hy_;(have H' := Aside0.mk H);clear H;(have p506 : 0 ≤ (x15_1 : Int) := of_decide_eq_true zq27);(have q506 : x15_1 < (l1.length : Int) := of_decide_eq_true zq27);(obtain ⟨ad506, e506, hx506_0, hx506_1⟩ := at_T65 HR1.out x15_1 p506 q506)
              cases e506
              (replace hx506_0 := (HB.out.cell (World.block_lt_of_cell? w _ hx506_0)).trans hx506_0);(replace hx506_1 := (HB.out.cell (World.block_lt_of_cell? w _ hx506_1)).trans hx506_1);(replace p506 := eq_true p506);(replace q506 := eq_true q506);(try go_wp2_with (first | ((with_reducible refine gate_dst (N := 7) rfl ?_); refine box_event ?hg (N := 7) ?hd (cs := #[.int .i64 0, .int .i64 0]) (t := 65) ?hr ?_; (case hd => rfl); (case hg => rfl); (case hr => first | (go_simp; done) | (go_simp; rfl)); intro gb507 hg w18 hbox hb; have n0_ := Aside0.mk (Kd.R_below (zR HO_5.out) hb); have n1_ := Aside0.mk (below_step zq66 hb); have n2_ := Aside0.mk (hbox); have n3_ := Aside0.mk ((zq90 : w.heap.size ≤ gb507)); have n4_ := Aside0.mk ((zq90 : w.heap.size ≤ gb507)); clear HO_5; clear HB; have HO_5 := n0_; have HB := n1_; have BK507 := n2_; have GW507 := n3_; have GE507 := n4_; clear n0_ n1_ n2_ n3_ n4_; clear hb hbox hg; have hcz19_0 : w18.cell? ⟨gb507, 0, none⟩ = some (.int .i64 0) := (blk_cell BK507.out 0).trans rfl; have hcz19_1 : w18.cell? ⟨gb507, 1, none⟩ = some (.int .i64 0) := (blk_cell BK507.out 1).trans rfl; have hfz19_0 := blk_frozen BK507.out 0; have hfz19_1 := blk_frozen BK507.out 1)));(have n0_ : Aside0 (Kd.R Kd.string 9 ((w18.setCell ⟨gb507, 0, none⟩ (.int .i64 ((rd_T65 l1 x15_1).f0))).setCell ⟨gb507, 1, none⟩ (.int .i64 ((rd_T65 l1 x15_1).f1))) w.heap.size (fun _ => True) u5 x5_1) := ⟨by (with_reducible repeat (first | apply Kd.R_alloc | apply Kd.R_drewN | apply Kd.R_drew)); exact Kd.R_mono (Kd.R_far (p := ⟨gb507, 1, none⟩) (Kd.R_far (p := ⟨gb507, 0, none⟩) (Kd.R_types HO_5.out BK507.out (by decide)) (fun _ hk => hk.2) (.int .i64 ((rd_T65 l1 x15_1).f0))) (fun _ hk => hk.2) (.int .i64 ((rd_T65 l1 x15_1).f1))) (fun _ hk => trivial)⟩);(have n1_ : Aside0 (((w18.setCell ⟨gb507, 0, none⟩ (.int .i64 ((rd_T65 l1 x15_1).f0))).setCell ⟨gb507, 1, none⟩ (.int .i64 ((rd_T65 l1 x15_1).f1))).heap[gb507]? = some (.cells #[.int .i64 ((rd_T65 l1 x15_1).f0), .int .i64 ((rd_T65 l1 x15_1).f1)] 65 (0, 0))) := ⟨by (with_reducible repeat (first | refine blk_drewN ?_ _ | refine blk_drew ?_ | refine blk_alloc ?_ _)); refine blk_put (cs := #[.int .i64 ((rd_T65 l1 x15_1).f0), .int .i64 0]) ?_ 1 _ rfl; (with_reducible repeat (first | refine blk_drewN ?_ _ | refine blk_drew ?_ | refine blk_alloc ?_ _)); refine blk_put (cs := #[.int .i64 0, .int .i64 0]) ?_ 0 _ rfl; (with_reducible repeat (first | refine blk_drewN ?_ _ | refine blk_drew ?_ | refine blk_alloc ?_ _)); exact BK507.out⟩);(have n2_ : Aside0 (Below w.heap.size w ((w18.setCell ⟨gb507, 0, none⟩ (.int .i64 ((rd_T65 l1 x15_1).f0))).setCell ⟨gb507, 1, none⟩ (.int .i64 ((rd_T65 l1 x15_1).f1)))) := ⟨zq64⟩);(try clear HO_5);(try clear BK507);(try clear HB);(generalize ((w18.setCell ⟨gb507, 0, none⟩ (.int .i64 ((rd_T65 l1 x15_1).f0))).setCell ⟨gb507, 1, none⟩ (.int .i64 ((rd_T65 l1 x15_1).f1))) = w20 at n0_ n1_ n2_ ⊢);(have HO_5 := n0_);(have BK507 := n1_);(have HB := n2_);clear n0_ n1_ n2_;(have n0_ := Aside0.mk (Kd.R_drew HO_5.out));(have n1_ := Aside0.mk (blk_drew BK507.out));(have n2_ := Aside0.mk (below_drew1 HB.out));clear HO_5;clear BK507;clear HB;(have HO_5 := n0_);(have BK507 := n1_);(have HB := n2_);clear n0_ n1_ n2_;(have p508 : 0 ≤ (((rd_T65 l1 x15_1).f0) : Int) := of_decide_eq_true zq27);(have q508 : ((rd_T65 l1 x15_1).f0) < (l0.length : Int) := of_decide_eq_true zq27);(obtain ⟨ad508, e508, hx508_0, hx508_1, hx508_2, hx508_3⟩ := at_T40 HR0.out ((rd_T65 l1 x15_1).f0) p508 q508);(have hw508_3 := hx508_3);(have hw508_2 := hx508_2);(have hw508_1 := hx508_1);(have hw508_0 := hx508_0)
              cases e508
              (replace hx508_0 := (HB.out.cell (World.block_lt_of_cell? w _ hx508_0)).trans hx508_0);(replace hx508_1 := (HB.out.cell (World.block_lt_of_cell? w _ hx508_1)).trans hx508_1);(replace hx508_2 := (HB.out.cell (World.block_lt_of_cell? w _ hx508_2)).trans hx508_2);(replace hx508_3 := (HB.out.cell (World.block_lt_of_cell? w _ hx508_3)).trans hx508_3);(replace p508 := eq_true p508);(replace q508 := eq_true q508);(have p509 : 0 ≤ (((rd_T65 l1 x15_1).f1) : Int) := of_decide_eq_true zq27);(have q509 : ((rd_T65 l1 x15_1).f1) < (l0.length : Int) := of_decide_eq_true zq27);(obtain ⟨ad509, e509, hx509_0, hx509_1, hx509_2, hx509_3⟩ := at_T40 HR0.out ((rd_T65 l1 x15_1).f1) p509 q509);(have hw509_3 := hx509_3);(have hw509_2 := hx509_2);(have hw509_1 := hx509_1);(have hw509_0 := hx509_0);(obtain rfl : ad508 = ad509 := (by injection e509));(replace hx509_0 := (HB.out.cell (World.block_lt_of_cell? w _ hx509_0)).trans hx509_0);(replace hx509_1 := (HB.out.cell (World.block_lt_of_cell? w _ hx509_1)).trans hx509_1);(replace hx509_2 := (HB.out.cell (World.block_lt_of_cell? w _ hx509_2)).trans hx509_2);(replace hx509_3 := (HB.out.cell (World.block_lt_of_cell? w _ hx509_3)).trans hx509_3);(replace p509 := eq_true p509);(replace q509 := eq_true q509);(refine start_ (n := 18) (S := fun w' => w'.cell? ⟨gb507, 0, none⟩ = some (.int .i64 ((rd_T65 l1 x15_1).f0)) ∧ w'.cell? ⟨gb507, 1, none⟩ = some (.int .i64 ((rd_T65 l1 x15_1).f1)) ∧ w'.cell? (ad508.add ((((rd_T65 l1 x15_1).f0)).toNat * 4)) = some (.string ((rd_T40 l0 ((rd_T65 l1 x15_1).f0)).f0)) ∧ w'.cell? ⟨(ad508.add ((((rd_T65 l1 x15_1).f0)).toNat * 4)).block, (ad508.add ((((rd_T65 l1 x15_1).f0)).toNat * 4)).off + 1, none⟩ = some (.int .i64 ((rd_T40 l0 ((rd_T65 l1 x15_1).f0)).f1)) ∧ w'.cell? ⟨(ad508.add ((((rd_T65 l1 x15_1).f0)).toNat * 4)).block, (ad508.add ((((rd_T65 l1 x15_1).f0)).toNat * 4)).off + 2, none⟩ = some (.int .i64 ((rd_T40 l0 ((rd_T65 l1 x15_1).f0)).f2.f0)) ∧ w'.cell? ⟨(ad508.add ((((rd_T65 l1 x15_1).f0)).toNat * 4)).block, (ad508.add ((((rd_T65 l1 x15_1).f0)).toNat * 4)).off + 3, none⟩ = some (.int .i64 ((rd_T40 l0 ((rd_T65 l1 x15_1).f0)).f2.f1)) ∧ w'.cell? (ad508.add ((((rd_T65 l1 x15_1).f1)).toNat * 4)) = some (.string ((rd_T40 l0 ((rd_T65 l1 x15_1).f1)).f0)) ∧ w'.cell? ⟨(ad508.add ((((rd_T65 l1 x15_1).f1)).toNat * 4)).block, (ad508.add ((((rd_T65 l1 x15_1).f1)).toNat * 4)).off + 1, none⟩ = some (.int .i64 ((rd_T40 l0 ((rd_T65 l1 x15_1).f1)).f1)) ∧ w'.cell? ⟨(ad508.add ((((rd_T65 l1 x15_1).f1)).toNat * 4)).block, (ad508.add ((((rd_T65 l1 x15_1).f1)).toNat * 4)).off + 2, none⟩ = some (.int .i64 ((rd_T40 l0 ((rd_T65 l1 x15_1).f1)).f2.f0)) ∧ w'.cell? ⟨(ad508.add ((((rd_T65 l1 x15_1).f1)).toNat * 4)).block, (ad508.add ((((rd_T65 l1 x15_1).f1)).toNat * 4)).off + 3, none⟩ = some (.int .i64 ((rd_T40 l0 ((rd_T65 l1 x15_1).f1)).f2.f1))) (ds := []) #[false,false,false,false,false,false,false,false,false,false,false,false,false,false,false,false,false,false] (by kernel_rfl) rfl rfl ⟨(blk_cell BK507.out 0).trans rfl, (blk_cell BK507.out 1).trans rfl, ((HB.out.cell (World.block_lt_of_cell? w _ hw508_0)).trans hw508_0), ((HB.out.cell (World.block_lt_of_cell? w _ hw508_1)).trans hw508_1), ((HB.out.cell (World.block_lt_of_cell? w _ hw508_2)).trans hw508_2), ((HB.out.cell (World.block_lt_of_cell? w _ hw508_3)).trans hw508_3), ((HB.out.cell (World.block_lt_of_cell? w _ hw509_0)).trans hw509_0), ((HB.out.cell (World.block_lt_of_cell? w _ hw509_1)).trans hw509_1), ((HB.out.cell (World.block_lt_of_cell? w _ hw509_2)).trans hw509_2), ((HB.out.cell (World.block_lt_of_cell? w _ hw509_3)).trans hw509_3)⟩ (fun hHeld => ?_); refine with_tabW impl_FigureText.tab7 impl_FigureText.bits7 (fun HT_ HW_ => ?_));(generalize w20.drew = w21 at HO_5 BK507 HB hx508_0 hx508_1 hx508_2 hx508_3 hx509_0 hx509_1 hx509_2 hx509_3 hHeld ⊢);(refine pI (i := 0) (N := some 19) (v := ?_) (a' := ?_) (mB 18 1) rfl rfl HT_.out (by kernel_rfl) (fun _ _ _ h => h) rfl ?_ ?_ ?_);rotate_left
              ·intro w'
               go_simp;(with_reducible rfl)
              rotate_left
              ·simp only [Act.put, sA]
               rfl
              (refine pI (i := 1) (N := some 20) (v := ?_) (a' := ?_) (mB 18 3) rfl rfl HT_.out (by kernel_rfl) (fun _ _ _ h => h) rfl ?_ ?_ ?_);rotate_left
              ·intro w'
               go_simp;(with_reducible rfl)
              rotate_left
              ·simp only [Act.put, sA]
               rfl
              (refine pI (i := 2) (N := some 21) (v := ?_) (a' := ?_) (mB 18 7) rfl rfl HT_.out (by kernel_rfl) (fun _ _ _ h => h) rfl ?_ ?_ ?_);rotate_left
              ·intro w'
               go_simp;(with_reducible rfl)
              rotate_left
              ·simp only [Act.put, sA]
               rfl
              (refine pI (i := 8) (N := some 27) (v := ?_) (a' := ?_) (mB 18 263) rfl rfl HT_.out (by kernel_rfl) (fun _ _ _ h => h) rfl ?_ ?_ ?_);rotate_left
              ·intro w'
               go_simp;(with_reducible rfl)
              rotate_left
              ·simp only [Act.put, sA]
               rfl
              (refine pI (i := 9) (N := some 28) (v := ?_) (a' := ?_) (mB 18 775) rfl rfl HT_.out (by kernel_rfl) (fun _ _ _ h => h) rfl ?_ ?_ ?_);rotate_left
              ·intro w'
               go_simp;(with_reducible rfl)
              rotate_left
              ·simp only [Act.put, sA]
               rfl
              (refine tI (i := 3) (N := some 22) (v := ?_) (a' := ?_) (mB 18 783) rfl rfl HT_.out HW_.out (by kernel_rfl) (fun _ _ _ h => h) rfl ?_ hHeld ?_ ?_);rotate_left
              ·rintro w' ⟨s0, s1, s2, s3, s4, s5, s6, s7, s8, s9⟩
               go_simp;(with_reducible rfl)
              rotate_left
              ·simp only [Act.put, sA]
               rfl
              (refine pI (i := 4) (N := some 23) (v := ?_) (a' := ?_) (mB 18 799) rfl rfl HT_.out (by kernel_rfl) (fun _ _ _ h => h) rfl ?_ ?_ ?_);rotate_left
              ·intro w'
               go_simp;(with_reducible rfl)
              rotate_left
              ·simp only [Act.put, sA]
               rfl
              (refine pI (i := 5) (N := some 24) (v := ?_) (a' := ?_) (mB 18 831) rfl rfl HT_.out (by kernel_rfl) (fun _ _ _ h => h) rfl ?_ ?_ ?_);rotate_left
              ·intro w'
               go_simp;(with_reducible rfl)
              rotate_left
              ·simp only [Act.put, sA]
               rfl
              (refine tI (i := 6) (N := some 25) (v := ?_) (a' := ?_) (mB 18 895) rfl rfl HT_.out HW_.out (by kernel_rfl) (fun _ _ _ h => h) rfl ?_ hHeld ?_ ?_);rotate_left
              ·rintro w' ⟨s0, s1, s2, s3, s4, s5, s6, s7, s8, s9⟩
               go_simp;(with_reducible rfl)
              rotate_left
              ·simp only [Act.put, sA]
               rfl
              (refine pI (i := 7) (N := some 26) (v := ?_) (a' := ?_) (mB 18 1023) rfl rfl HT_.out (by kernel_rfl) (fun _ _ _ h => h) rfl ?_ ?_ ?_);rotate_left
              ·intro w'
               go_simp;(with_reducible rfl)
              rotate_left
              ·simp only [Act.put, sA]
               rfl
              (refine tI (i := 10) (N := some 29) (v := ?_) (a' := ?_) (mB 18 2047) rfl rfl HT_.out HW_.out (by kernel_rfl) (fun _ _ _ h => h) rfl ?_ hHeld ?_ ?_);rotate_left
              ·rintro w' ⟨s0, s1, s2, s3, s4, s5, s6, s7, s8, s9⟩
               go_simp;(with_reducible rfl)
              rotate_left
              ·simp only [Act.put, sA]
               rfl
              (refine pI (i := 11) (N := some 30) (v := ?_) (a' := ?_) (mB 18 4095) rfl rfl HT_.out (by kernel_rfl) (fun _ _ _ h => h) rfl ?_ ?_ ?_);rotate_left
              ·intro w'
               go_simp;(with_reducible rfl)
              rotate_left
              ·simp only [Act.put, sA]
               rfl
              (refine pI (i := 12) (N := some 31) (v := ?_) (a' := ?_) (mB 18 8191) rfl rfl HT_.out (by kernel_rfl) (fun _ _ _ h => h) rfl ?_ ?_ ?_);rotate_left
              ·intro w'
               go_simp;(with_reducible rfl)
              rotate_left
              ·simp only [Act.put, sA]
               rfl
              (refine tI (i := 13) (N := some 32) (v := ?_) (a' := ?_) (mB 18 16383) rfl rfl HT_.out HW_.out (by kernel_rfl) (fun _ _ _ h => h) rfl ?_ hHeld ?_ ?_);rotate_left
              ·rintro w' ⟨s0, s1, s2, s3, s4, s5, s6, s7, s8, s9⟩
               go_simp;(with_reducible rfl)
              rotate_left
              ·simp only [Act.put, sA]
               rfl
              (refine pI (i := 14) (N := some 33) (v := ?_) (a' := ?_) (mB 18 32767) rfl rfl HT_.out (by kernel_rfl) (fun _ _ _ h => h) rfl ?_ ?_ ?_);rotate_left
              ·intro w'
               go_simp;(with_reducible rfl)
              rotate_left
              ·simp only [Act.put, sA]
               rfl
              (refine one_ (i := 15) (N := some 34) (mB 18 65535) rfl rfl (one_of HT_.out (by kernel_rfl)) (by decide) (fun K hK => ?_));(refine value_ (w1 := ?_) (v := ?_) (by rfl) rfl ?_ ?_);(rotate_left 2)
              ·go_simp
               constructor
               ·rfl
               ·rfl
              (refine hK.out _ _ ⟨(blk_cell (blk_alloc BK507.out _) 0).trans rfl, (blk_cell (blk_alloc BK507.out _) 1).trans rfl, (World.cell?_alloc_lt _ _ _ (World.block_lt_of_cell? _ _ (((HB.out.cell (World.block_lt_of_cell? w _ hw508_0)).trans hw508_0)))).trans (((HB.out.cell (World.block_lt_of_cell? w _ hw508_0)).trans hw508_0)), (World.cell?_alloc_lt _ _ _ (World.block_lt_of_cell? _ _ (((HB.out.cell (World.block_lt_of_cell? w _ hw508_1)).trans hw508_1)))).trans (((HB.out.cell (World.block_lt_of_cell? w _ hw508_1)).trans hw508_1)), (World.cell?_alloc_lt _ _ _ (World.block_lt_of_cell? _ _ (((HB.out.cell (World.block_lt_of_cell? w _ hw508_2)).trans hw508_2)))).trans (((HB.out.cell (World.block_lt_of_cell? w _ hw508_2)).trans hw508_2)), (World.cell?_alloc_lt _ _ _ (World.block_lt_of_cell? _ _ (((HB.out.cell (World.block_lt_of_cell? w _ hw508_3)).trans hw508_3)))).trans (((HB.out.cell (World.block_lt_of_cell? w _ hw508_3)).trans hw508_3)), (World.cell?_alloc_lt _ _ _ (World.block_lt_of_cell? _ _ (((HB.out.cell (World.block_lt_of_cell? w _ hw509_0)).trans hw509_0)))).trans (((HB.out.cell (World.block_lt_of_cell? w _ hw509_0)).trans hw509_0)), (World.cell?_alloc_lt _ _ _ (World.block_lt_of_cell? _ _ (((HB.out.cell (World.block_lt_of_cell? w _ hw509_1)).trans hw509_1)))).trans (((HB.out.cell (World.block_lt_of_cell? w _ hw509_1)).trans hw509_1)), (World.cell?_alloc_lt _ _ _ (World.block_lt_of_cell? _ _ (((HB.out.cell (World.block_lt_of_cell? w _ hw509_2)).trans hw509_2)))).trans (((HB.out.cell (World.block_lt_of_cell? w _ hw509_2)).trans hw509_2)), (World.cell?_alloc_lt _ _ _ (World.block_lt_of_cell? _ _ (((HB.out.cell (World.block_lt_of_cell? w _ hw509_3)).trans hw509_3)))).trans (((HB.out.cell (World.block_lt_of_cell? w _ hw509_3)).trans hw509_3))⟩ (fun hHeld => ?_));clear hK K;(refine norm_ (a' := ?_) ?_ ?_);rotate_left
              ·show Act.put _ (some 34) _ = _
               (simp only [Act.put, sA]);rfl
              (refine one_ (i := 16) (N := some 35) (mB 18 131071) rfl rfl (one_of HT_.out (by kernel_rfl)) (by decide) (fun K hK => ?_));(refine Kd.R_append_step Kd.string (w0 := w) w.heap.size (by rfl) (.tmp 19) (.tmp 34) 63 9 (.string ⟨#[]⟩) 16 rfl Tryz.underlying63 info9 rfl (by decide) (by omega) u5 x5_1 ((((rd_T40 l0 ((rd_T65 l1 x15_1).f0)).f0) ++ (⟨#[45]⟩ : ByteArray)) ++ ((rd_T40 l0 ((rd_T65 l1 x15_1).f1)).f0)) [.string ((((rd_T40 l0 ((rd_T65 l1 x15_1).f0)).f0) ++ (⟨#[45]⟩ : ByteArray)) ++ ((rd_T40 l0 ((rd_T65 l1 x15_1).f1)).f0))] (fun _ => True) (fun _ => False) rfl rfl ?aP (fun _ hk => hk.elim) ?aF ?aO ?aB ?aS ?aL ?_);((case aP => exact rfl));((case aB => exact zq64));((case aF => exact (fun _ _ => trivial)));((case aO => exact (zR HO_5.out)));((case aS => exact (below_size zq64)));((case aL => have := LMc17.out; omega));intro v511 w22 ho hb hg hat;(rw [← Ny510.out] at ho);(have n0_ := Aside0.mk (blk_grown (g := gb507) (o := .cells #[.int .i64 ((rd_T65 l1 x15_1).f0), .int .i64 ((rd_T65 l1 x15_1).f1)] 65 (0, 0)) (by (with_reducible repeat (first | refine blk_drewN ?_ _ | refine blk_drew ?_ | refine blk_alloc ?_ _)); exact BK507.out) hg (Kd.R_ne HO_5.out BK507.out (by decide))));(have n1_ := Aside0.mk (hb));(have n2_ := Aside0.mk (ho));clear BK507;clear HB;clear HO_5;(have BK507 := n0_);(have HB := n1_);(have HO512 := n2_);clear n0_ n1_ n2_;clear ho hb hg hat;(refine hK.out _ _ ⟨(blk_cell BK507.out 0).trans rfl, (blk_cell BK507.out 1).trans rfl, ((HB.out.cell (World.block_lt_of_cell? w _ hw508_0)).trans hw508_0), ((HB.out.cell (World.block_lt_of_cell? w _ hw508_1)).trans hw508_1), ((HB.out.cell (World.block_lt_of_cell? w _ hw508_2)).trans hw508_2), ((HB.out.cell (World.block_lt_of_cell? w _ hw508_3)).trans hw508_3), ((HB.out.cell (World.block_lt_of_cell? w _ hw509_0)).trans hw509_0), ((HB.out.cell (World.block_lt_of_cell? w _ hw509_1)).trans hw509_1), ((HB.out.cell (World.block_lt_of_cell? w _ hw509_2)).trans hw509_2), ((HB.out.cell (World.block_lt_of_cell? w _ hw509_3)).trans hw509_3)⟩ (fun hHeld => ?_));clear hK K;(refine norm_ (a' := ?_) ?_ ?_);rotate_left
              ·show Act.put _ (some 35) _ = _
               (simp only [Act.put, sA]);rfl
              (refine pI (i := 17) (N := some 5) (v := ?_) (a' := ?_) (mB 18 262143) rfl rfl HT_.out (by kernel_rfl) (fun _ _ _ h => h) rfl ?_ ?_ ?_);rotate_left
              ·intro w'
               go_simp;(with_reducible rfl)
              rotate_left
              ·simp only [Act.put, sA]
               rfl
              (refine done_ (done_of HT_.out (by kernel_rfl)) ?_);(try go_wp2);(go_roundg k1)
              case measure => have := HK1.out; omega
              case rel => exact ⟨(y510), (wrap64 (x15_1 + 1)), zq34, H', ⟨zq40⟩, ⟨zR HO512.out⟩, ⟨zq64⟩⟩
             ·rw [if_neg c17] at H
              exact absurd H (by simp)
            ·rw [if_neg c16] at H
             exact absurd H (by simp)
           ·rw [if_neg c15] at H
            exact absurd H (by simp)
          ·rw [if_neg c14] at H
           exact absurd H (by simp)
         ·rw [if_neg c13] at H
          exact absurd H (by simp)
        ·rw [if_neg c12] at H
         exact absurd H (by simp)
       ·rw [if_neg c11] at H
        exact absurd H (by simp)
      ·rw [if_neg c10] at H
       exact absurd H (by simp)
     ·rw [if_neg c9] at H
      exact absurd H (by simp)
    ·rw [if_neg c8] at H
     (have c8b0 : decide (x15_1 < (l1.length : Int)) = false := decide_eq_false c8);clear c8;(replace H := Option.bind_eq_some_iff.mp H);(obtain ⟨t513, A230, H⟩ := H);(replace H : (some t513) = some r := H);(have A23 := Aside0.mk A230);clear A230;(obtain rfl := Option.some.inj H);(obtain ⟨Ao24, co24, eo24⟩ := Kd.R_slice HO_5.out);subst eo24;(go_wp2_with (first | ((with_reducible refine gate_callee (f := 44) rfl ?_); refine goesL_ (some 38) rfl rfl Tryz.func44 (by kernel_rfl) rfl #[.slice Ao24 x5_1.length co24, .string (⟨#[44, 32]⟩ : ByteArray)] rfl zq0 ?_; (with_reducible refine (strings_Join.calls _ _ x5_1 (⟨#[44, 32]⟩ : ByteArray) t513 _ ?side1 ?side2 A23.out).mono ?_); (case side1 => exact by repeat (first | exact (Kd.R_reads' HO_5.out).2.2 | (with_reducible refine Kd.C_alloc ?_ _) | (with_reducible refine Kd.C_drewN ?_ _) | (with_reducible refine Kd.C_drew ?_))); (case side2 => exact (Kd.R_reads' HO_5.out).2.1); rintro e w25 ⟨rfl, hb⟩; refine ⟨_, rfl, ?_⟩; have n0_ := Aside0.mk (Kd.R_below (zR HO_5.out) hb); have n1_ := Aside0.mk (below_step zq66 hb); clear HO_5; clear HB; have HO_5 := n0_; have HB := n1_; clear n0_ n1_; (try clear hb); (try clear hb2); (try clear hk); (try clear hi))));(go_ret);(exact ⟨zq31, zq66⟩)
 ·replace c4 := Bool.eq_false_iff.mpr c4
  subst c4;(have H1 : (some (⟨#[]⟩ : ByteArray)) = some r := zq96);clear H;(have H := H1);clear H1;(obtain rfl := Option.some.inj H)
  go_enter Tryz.func19, Tryz.ntmps19
  (go_wp2_with (first | ((with_reducible refine gate_callee (f := 23) rfl ?_); refine goesL_ (some 10) rfl rfl Tryz.func23 (by kernel_rfl) rfl #[.slice A0 l0.length c0, .slice A1 l1.length c1] rfl zq0 ?_; (with_reducible refine (impl_ValidFigure.calls k _ _ l0 _ _ l1 false _ ?side1 ?side2 ?side3 ?side4 A3.out).mono ?_); (case side1 => exact zq88); (case side2 => exact HC0.out); (case side3 => exact zq89); (case side4 => exact HC1.out); rintro e w26 ⟨rfl, hb⟩; refine ⟨_, rfl, ?_⟩; have n0_ := Aside0.mk (below_step zq66 hb); clear HB; have HB := n0_; clear n0_; (try clear hb); (try clear hb2); (try clear hk); (try clear hi))));(go_ret);(exact ⟨zq31, zq66⟩)

/-! ### spec_FigureText: function 20 -/
def spec_FigureText.l0 : Nat → List (S40) → List (S65) → ByteArray → Int → Option (ByteArray)
 | 0, _, _, _, _ => none
 | k + 1, x0, x1, x5, x6 => if x6 < (x1.length : Int) then (if x6 > 0 then (if x5.size + 2 ≤ 9223372036854775807 then (if 0 ≤ x6 then (if 0 ≤ ((rd_T65 x1 x6).f0) then (if ((rd_T65 x1 x6).f0) < (x0.length : Int) then (if ((rd_T40 x0 ((rd_T65 x1 x6).f0)).f0).size + 1 ≤ 9223372036854775807 then (if 0 ≤ ((rd_T65 x1 x6).f1) then (if ((rd_T65 x1 x6).f1) < (x0.length : Int) then (if (((rd_T40 x0 ((rd_T65 x1 x6).f0)).f0) ++ (⟨#[45]⟩ : ByteArray)).size + ((rd_T40 x0 ((rd_T65 x1 x6).f1)).f0).size ≤ 9223372036854775807 then (if (x5 ++ (⟨#[44, 32]⟩ : ByteArray)).size + ((((rd_T40 x0 ((rd_T65 x1 x6).f0)).f0) ++ (⟨#[45]⟩ : ByteArray)) ++ ((rd_T40 x0 ((rd_T65 x1 x6).f1)).f0)).size ≤ 9223372036854775807 then (spec_FigureText.l0 k x0 x1 ((x5 ++ (⟨#[44, 32]⟩ : ByteArray)) ++ ((((rd_T40 x0 ((rd_T65 x1 x6).f0)).f0) ++ (⟨#[45]⟩ : ByteArray)) ++ ((rd_T40 x0 ((rd_T65 x1 x6).f1)).f0))) (wrap64 (x6 + 1))) else (none)) else (none)) else (none)) else (none)) else (none)) else (none)) else (none)) else (none)) else (none)) else (if 0 ≤ x6 then (if 0 ≤ ((rd_T65 x1 x6).f0) then (if ((rd_T65 x1 x6).f0) < (x0.length : Int) then (if ((rd_T40 x0 ((rd_T65 x1 x6).f0)).f0).size + 1 ≤ 9223372036854775807 then (if 0 ≤ ((rd_T65 x1 x6).f1) then (if ((rd_T65 x1 x6).f1) < (x0.length : Int) then (if (((rd_T40 x0 ((rd_T65 x1 x6).f0)).f0) ++ (⟨#[45]⟩ : ByteArray)).size + ((rd_T40 x0 ((rd_T65 x1 x6).f1)).f0).size ≤ 9223372036854775807 then (if x5.size + ((((rd_T40 x0 ((rd_T65 x1 x6).f0)).f0) ++ (⟨#[45]⟩ : ByteArray)) ++ ((rd_T40 x0 ((rd_T65 x1 x6).f1)).f0)).size ≤ 9223372036854775807 then (spec_FigureText.l0 k x0 x1 (x5 ++ ((((rd_T40 x0 ((rd_T65 x1 x6).f0)).f0) ++ (⟨#[45]⟩ : ByteArray)) ++ ((rd_T40 x0 ((rd_T65 x1 x6).f1)).f0))) (wrap64 (x6 + 1))) else (none)) else (none)) else (none)) else (none)) else (none)) else (none)) else (none)) else (none))) else (some x5)
def spec_FigureText.f (k : Nat) (l0 : List (S40)) (l1 : List (S65)) : Option (ByteArray) := (spec_l16Figure.f k l0 l1).bind fun t514 => (if t514 = true then (spec_FigureText.l0 k l0 l1 (⟨#[]⟩ : ByteArray) 0) else (some (⟨#[]⟩ : ByteArray)))
theorem spec_FigureText.mono_l : ∀ k, (∀ y0 y1 y2 y3, LeO (spec_FigureText.l0 k y0 y1 y2 y3) (spec_FigureText.l0 (k + 1) y0 y1 y2 y3))
 | 0 => fun _ _ _ _ r h => by simp [spec_FigureText.l0] at h
 | k + 1 => by
  have ih0 := spec_FigureText.mono_l k
  ·intro y0 y1 y2 y3
   unfold spec_FigureText.l0
   repeat' first | with_reducible (first | exact ih0 _ _ _ _ | exact spec_l16Figure.mono _ _ _ | exact LeO.refl _ | exact LeO.none _ | refine LeO.ite ?_ ?_ | refine LeO.bind ?_ (fun _ => ?_)) | exact ih0 _ _ _ _ | exact spec_l16Figure.mono _ _ _ | exact LeO.none _ | refine LeO.ite ?_ ?_ | refine LeO.bind ?_ (fun _ => ?_)
theorem spec_FigureText.mono : ∀ a0 a1 k, LeO (spec_FigureText.f k a0 a1) (spec_FigureText.f (k + 1) a0 a1) := by
 intro a0 a1 k;(have ih0 := spec_FigureText.mono_l k);(unfold spec_FigureText.f)
 repeat' first | with_reducible (first | exact ih0 _ _ _ _ | exact spec_l16Figure.mono _ _ _ | exact LeO.refl _ | exact LeO.none _ | refine LeO.ite ?_ ?_ | refine LeO.bind ?_ (fun _ => ?_)) | exact ih0 _ _ _ _ | exact spec_l16Figure.mono _ _ _ | exact LeO.none _ | refine LeO.ite ?_ ?_ | refine LeO.bind ?_ (fun _ => ?_)
theorem spec_FigureText.calls (k : Nat) (A0 : Option Addr) (c0 : Nat) (l0 : List (S40)) (A1 : Option Addr) (c1 : Nat) (l1 : List (S65)) (r : ByteArray) (w : World) (hr0 : Kd.C k40 w A0 l0.length l0) (hc0 : l0.length ≤ c0) (hr1 : Kd.C k65 w A1 l1.length l1) (hc1 : l1.length ≤ c1) (h : spec_FigureText.f k l0 l1 = some r) :
  Calls Tryz.prog 20 #[.slice A0 l0.length c0, .slice A1 l1.length c1] w fun e w' => e = .returned (.string r) ∧ Below w.heap.size w w' := by
 (have HR0 := Aside0.mk hr0);(have HC0 := Aside0.mk hc0);clear hr0 hc0;(have HR1 := Aside0.mk hr1);(have HC1 := Aside0.mk hc1);clear hr1 hc1;(have HB := Aside0.mk (Below.refl w.heap.size w));(have H : ((spec_l16Figure.f k l0 l1).bind fun t514 => (if t514 = true then (spec_FigureText.l0 k l0 l1 (⟨#[]⟩ : ByteArray) 0) else (some (⟨#[]⟩ : ByteArray)))) = some r := h);clear h;(replace H := Option.bind_eq_some_iff.mp H);(obtain ⟨t514, A30, H⟩ := H);(replace H : (if t514 = true then (spec_FigureText.l0 k l0 l1 (⟨#[]⟩ : ByteArray) 0) else (some (⟨#[]⟩ : ByteArray))) = some r := H);(have A3 := Aside0.mk A30);clear A30;(by_cases c4 : t514 = true)
 ·subst c4
  (have H1 : (spec_FigureText.l0 k l0 l1 (⟨#[]⟩ : ByteArray) 0) = some r := zq97);clear H;(have H := H1);clear H1;(have H' := Aside0.mk H);clear H
  go_enter Tryz.func20, Tryz.ntmps20
  (go_wp2_with (first | (go_at_call 36; (with_reducible refine (spec_l16Figure.calls k _ _ l0 _ _ l1 true _ ?side1 ?side2 ?side3 ?side4 A3.out).mono ?_); (case side1 => exact zq88); (case side2 => exact HC0.out); (case side3 => exact zq89); (case side4 => exact HC1.out); rintro e w5 ⟨rfl, hb⟩; have n0_ := Aside0.mk (below_step zq66 hb); clear HB; have HB := n0_; clear n0_; (try clear hb); (try clear hb2); (try clear hk); (try clear hi))));(repeat (go_quiet (first | (go_at_call 36; (with_reducible refine (spec_l16Figure.calls k _ _ l0 _ _ l1 true _ ?side1 ?side2 ?side3 ?side4 A3.out).mono ?_); (case side1 => exact zq88); (case side2 => exact HC0.out); (case side3 => exact zq89); (case side4 => exact HC1.out); rintro e w5 ⟨rfl, hb⟩; have n0_ := Aside0.mk (below_step zq66 hb); clear HB; have HB := n0_; clear n0_; (try clear hb); (try clear hb2); (try clear hk); (try clear hi))); try go_wp2_with (first | (go_at_call 36; (with_reducible refine (spec_l16Figure.calls k _ _ l0 _ _ l1 true _ ?side1 ?side2 ?side3 ?side4 A3.out).mono ?_); (case side1 => exact zq88); (case side2 => exact HC0.out); (case side3 => exact zq89); (case side4 => exact HC1.out); rintro e w5 ⟨rfl, hb⟩; have n0_ := Aside0.mk (below_step zq66 hb); clear HB; have HB := n0_; clear n0_; (try clear hb); (try clear hb2); (try clear hk); (try clear hi)))))
  go_loopg [5, 6] k (fun kq v5 v6 w' => ∃ (x5_1 : ByteArray) (x6_1 : Int), v5 = .string x5_1 ∧ v6 = .int .i64 x6_1 ∧ Aside0 (spec_FigureText.l0 kq l0 l1 x5_1 x6_1 = some r) ∧ Aside0 (kq ≤ k) ∧ Aside0 (Below w.heap.size w w'))
  case atStart => exact ⟨((⟨#[]⟩ : ByteArray)), (0), zq34, zq34, H', ⟨Nat.le_refl _⟩, ⟨zq66⟩⟩
  case round =>
   clear H';(try clear c1);(try clear c2);(try clear p2);(try clear c4);(obtain ⟨x5_1, x6_1, rfl, rfl, HA, HK1, HB⟩ := hrel)
   cases gk with
   | zero => exact absurd HA.out (by simp [spec_FigureText.l0])
   | succ k1 =>
    (have H := HA.out);clear HA;(simp only [spec_FigureText.l0] at H);(by_cases c6 : x6_1 < (l1.length : Int))
    ·rw [if_pos c6] at H
     (have c6b0 : decide (x6_1 < (l1.length : Int)) = true := decide_eq_true c6);clear c6;(by_cases c7 : x6_1 > 0)
     ·rw [if_pos c7] at H
      (have c7b0 : decide (0 < x6_1) = true := decide_eq_true c7);clear c7;(by_cases c8 : x5_1.size + 2 ≤ 9223372036854775807)
      ·rw [if_pos c8] at H
       (have c8b0 := eq_true c8);(have c8b1 : decide (x5_1.size + 2 ≤ 9223372036854775807) = true := decide_eq_true c8);(try have c8b2 : (9223372036854775807 < x5_1.size + 2) = False := eq_false (Nat.not_lt.2 c8));(by_cases c9 : 0 ≤ x6_1)
       ·rw [if_pos c9] at H
        (have c9b0 : decide (0 ≤ x6_1) = true := decide_eq_true c9);clear c9;(by_cases c10 : 0 ≤ ((rd_T65 l1 x6_1).f0))
        ·rw [if_pos c10] at H
         (have c10b0 : decide (0 ≤ ((rd_T65 l1 x6_1).f0)) = true := decide_eq_true c10);clear c10;(by_cases c11 : ((rd_T65 l1 x6_1).f0) < (l0.length : Int))
         ·rw [if_pos c11] at H
          (have c11b0 : decide (((rd_T65 l1 x6_1).f0) < (l0.length : Int)) = true := decide_eq_true c11);clear c11;(by_cases c12 : ((rd_T40 l0 ((rd_T65 l1 x6_1).f0)).f0).size + 1 ≤ 9223372036854775807)
          ·rw [if_pos c12] at H
           (have c12b0 := eq_true c12);(have c12b1 : decide (((rd_T40 l0 ((rd_T65 l1 x6_1).f0)).f0).size + 1 ≤ 9223372036854775807) = true := decide_eq_true c12);(try have c12b2 : (9223372036854775807 < ((rd_T40 l0 ((rd_T65 l1 x6_1).f0)).f0).size + 1) = False := eq_false (Nat.not_lt.2 c12));(by_cases c13 : 0 ≤ ((rd_T65 l1 x6_1).f1))
           ·rw [if_pos c13] at H
            (have c13b0 : decide (0 ≤ ((rd_T65 l1 x6_1).f1)) = true := decide_eq_true c13);clear c13;(by_cases c14 : ((rd_T65 l1 x6_1).f1) < (l0.length : Int))
            ·rw [if_pos c14] at H
             (have c14b0 : decide (((rd_T65 l1 x6_1).f1) < (l0.length : Int)) = true := decide_eq_true c14);clear c14;(by_cases c15 : (((rd_T40 l0 ((rd_T65 l1 x6_1).f0)).f0) ++ (⟨#[45]⟩ : ByteArray)).size + ((rd_T40 l0 ((rd_T65 l1 x6_1).f1)).f0).size ≤ 9223372036854775807)
             ·rw [if_pos c15] at H
              (have c15b0 := eq_true c15);(have c15b1 : decide ((((rd_T40 l0 ((rd_T65 l1 x6_1).f0)).f0) ++ (⟨#[45]⟩ : ByteArray)).size + ((rd_T40 l0 ((rd_T65 l1 x6_1).f1)).f0).size ≤ 9223372036854775807) = true := decide_eq_true c15);(try have c15b2 : (9223372036854775807 < (((rd_T40 l0 ((rd_T65 l1 x6_1).f0)).f0) ++ (⟨#[45]⟩ : ByteArray)).size + ((rd_T40 l0 ((rd_T65 l1 x6_1).f1)).f0).size) = False := eq_false (Nat.not_lt.2 c15));(have c15b4 := c15b2);(simp only [ByteArray.size_append, show (⟨#[45]⟩ : ByteArray).size = 1 from rfl] at c15b4);(by_cases c16 : (x5_1 ++ (⟨#[44, 32]⟩ : ByteArray)).size + ((((rd_T40 l0 ((rd_T65 l1 x6_1).f0)).f0) ++ (⟨#[45]⟩ : ByteArray)) ++ ((rd_T40 l0 ((rd_T65 l1 x6_1).f1)).f0)).size ≤ 9223372036854775807)
              ·rw [if_pos c16] at H
               (have c16b0 := eq_true c16);(have c16b1 : decide ((x5_1 ++ (⟨#[44, 32]⟩ : ByteArray)).size + ((((rd_T40 l0 ((rd_T65 l1 x6_1).f0)).f0) ++ (⟨#[45]⟩ : ByteArray)) ++ ((rd_T40 l0 ((rd_T65 l1 x6_1).f1)).f0)).size ≤ 9223372036854775807) = true := decide_eq_true c16);(try have c16b2 : (9223372036854775807 < (x5_1 ++ (⟨#[44, 32]⟩ : ByteArray)).size + ((((rd_T40 l0 ((rd_T65 l1 x6_1).f0)).f0) ++ (⟨#[45]⟩ : ByteArray)) ++ ((rd_T40 l0 ((rd_T65 l1 x6_1).f1)).f0)).size) = False := eq_false (Nat.not_lt.2 c16));(have c16b4 := c16b2);(simp only [ByteArray.size_append, show (⟨#[44, 32]⟩ : ByteArray).size = 2 from rfl, show (⟨#[45]⟩ : ByteArray).size = 1 from rfl] at c16b4);(have H' := Aside0.mk H);clear H;(have p515 : 0 ≤ (x6_1 : Int) := of_decide_eq_true zq27);(have q515 : x6_1 < (l1.length : Int) := of_decide_eq_true zq27);(obtain ⟨ad515, e515, hx515_0, hx515_1⟩ := at_T65 HR1.out x6_1 p515 q515)
               cases e515
               (replace hx515_0 := (HB.out.cell (World.block_lt_of_cell? w _ hx515_0)).trans hx515_0);(replace hx515_1 := (HB.out.cell (World.block_lt_of_cell? w _ hx515_1)).trans hx515_1);(replace p515 := eq_true p515);(replace q515 := eq_true q515);(have p516 : 0 ≤ (((rd_T65 l1 x6_1).f0) : Int) := of_decide_eq_true zq27);(have q516 : ((rd_T65 l1 x6_1).f0) < (l0.length : Int) := of_decide_eq_true zq27);(obtain ⟨ad516, e516, hx516_0, hx516_1, hx516_2, hx516_3⟩ := at_T40 HR0.out ((rd_T65 l1 x6_1).f0) p516 q516)
               cases e516
               (replace hx516_0 := (HB.out.cell (World.block_lt_of_cell? w _ hx516_0)).trans hx516_0);(replace hx516_1 := (HB.out.cell (World.block_lt_of_cell? w _ hx516_1)).trans hx516_1);(replace hx516_2 := (HB.out.cell (World.block_lt_of_cell? w _ hx516_2)).trans hx516_2);(replace hx516_3 := (HB.out.cell (World.block_lt_of_cell? w _ hx516_3)).trans hx516_3);(replace p516 := eq_true p516);(replace q516 := eq_true q516);(have p517 : 0 ≤ (x6_1 : Int) := of_decide_eq_true zq27);(have q517 : x6_1 < (l1.length : Int) := of_decide_eq_true zq27);(obtain ⟨ad517, e517, hx517_0, hx517_1⟩ := at_T65 HR1.out x6_1 p517 q517);(obtain rfl : ad515 = ad517 := (by injection e517));(replace hx517_0 := (HB.out.cell (World.block_lt_of_cell? w _ hx517_0)).trans hx517_0);(replace hx517_1 := (HB.out.cell (World.block_lt_of_cell? w _ hx517_1)).trans hx517_1);(replace p517 := eq_true p517);(replace q517 := eq_true q517);(have p518 : 0 ≤ (((rd_T65 l1 x6_1).f1) : Int) := of_decide_eq_true zq27);(have q518 : ((rd_T65 l1 x6_1).f1) < (l0.length : Int) := of_decide_eq_true zq27);(obtain ⟨ad518, e518, hx518_0, hx518_1, hx518_2, hx518_3⟩ := at_T40 HR0.out ((rd_T65 l1 x6_1).f1) p518 q518);(obtain rfl : ad516 = ad518 := (by injection e518));(replace hx518_0 := (HB.out.cell (World.block_lt_of_cell? w _ hx518_0)).trans hx518_0);(replace hx518_1 := (HB.out.cell (World.block_lt_of_cell? w _ hx518_1)).trans hx518_1);(replace hx518_2 := (HB.out.cell (World.block_lt_of_cell? w _ hx518_2)).trans hx518_2);(replace hx518_3 := (HB.out.cell (World.block_lt_of_cell? w _ hx518_3)).trans hx518_3);(replace p518 := eq_true p518);(replace q518 := eq_true q518);(go_wp2);(repeat (go_quiet (fail); try go_wp2));(go_roundg k1)
               case measure => have := HK1.out; omega
               case rel => exact ⟨((x5_1 ++ (⟨#[44, 32]⟩ : ByteArray)) ++ ((((rd_T40 l0 ((rd_T65 l1 x6_1).f0)).f0) ++ (⟨#[45]⟩ : ByteArray)) ++ ((rd_T40 l0 ((rd_T65 l1 x6_1).f1)).f0))), (wrap64 (x6_1 + 1)), zq34, zq34, H', ⟨zq40⟩, ⟨zq66⟩⟩
              ·rw [if_neg c16] at H
               exact absurd H (by simp)
             ·rw [if_neg c15] at H
              exact absurd H (by simp)
            ·rw [if_neg c14] at H
             exact absurd H (by simp)
           ·rw [if_neg c13] at H
            exact absurd H (by simp)
          ·rw [if_neg c12] at H
           exact absurd H (by simp)
         ·rw [if_neg c11] at H
          exact absurd H (by simp)
        ·rw [if_neg c10] at H
         exact absurd H (by simp)
       ·rw [if_neg c9] at H
        exact absurd H (by simp)
      ·rw [if_neg c8] at H
       exact absurd H (by simp)
     ·rw [if_neg c7] at H
      (have c7b0 : decide (0 < x6_1) = false := decide_eq_false c7);clear c7;(by_cases c17 : 0 ≤ x6_1)
      ·rw [if_pos c17] at H
       (have c17b0 : decide (0 ≤ x6_1) = true := decide_eq_true c17);clear c17;(by_cases c18 : 0 ≤ ((rd_T65 l1 x6_1).f0))
       ·rw [if_pos c18] at H
        (have c18b0 : decide (0 ≤ ((rd_T65 l1 x6_1).f0)) = true := decide_eq_true c18);clear c18;(by_cases c19 : ((rd_T65 l1 x6_1).f0) < (l0.length : Int))
        ·rw [if_pos c19] at H
         (have c19b0 : decide (((rd_T65 l1 x6_1).f0) < (l0.length : Int)) = true := decide_eq_true c19);clear c19;(by_cases c20 : ((rd_T40 l0 ((rd_T65 l1 x6_1).f0)).f0).size + 1 ≤ 9223372036854775807)
         ·rw [if_pos c20] at H
          (have c20b0 := eq_true c20);(have c20b1 : decide (((rd_T40 l0 ((rd_T65 l1 x6_1).f0)).f0).size + 1 ≤ 9223372036854775807) = true := decide_eq_true c20);(try have c20b2 : (9223372036854775807 < ((rd_T40 l0 ((rd_T65 l1 x6_1).f0)).f0).size + 1) = False := eq_false (Nat.not_lt.2 c20));(by_cases c21 : 0 ≤ ((rd_T65 l1 x6_1).f1))
          ·rw [if_pos c21] at H
           (have c21b0 : decide (0 ≤ ((rd_T65 l1 x6_1).f1)) = true := decide_eq_true c21);clear c21;(by_cases c22 : ((rd_T65 l1 x6_1).f1) < (l0.length : Int))
           ·rw [if_pos c22] at H
            (have c22b0 : decide (((rd_T65 l1 x6_1).f1) < (l0.length : Int)) = true := decide_eq_true c22);clear c22;(by_cases c23 : (((rd_T40 l0 ((rd_T65 l1 x6_1).f0)).f0) ++ (⟨#[45]⟩ : ByteArray)).size + ((rd_T40 l0 ((rd_T65 l1 x6_1).f1)).f0).size ≤ 9223372036854775807)
            ·rw [if_pos c23] at H
             (have c23b0 := eq_true c23);(have c23b1 : decide ((((rd_T40 l0 ((rd_T65 l1 x6_1).f0)).f0) ++ (⟨#[45]⟩ : ByteArray)).size + ((rd_T40 l0 ((rd_T65 l1 x6_1).f1)).f0).size ≤ 9223372036854775807) = true := decide_eq_true c23);(try have c23b2 : (9223372036854775807 < (((rd_T40 l0 ((rd_T65 l1 x6_1).f0)).f0) ++ (⟨#[45]⟩ : ByteArray)).size + ((rd_T40 l0 ((rd_T65 l1 x6_1).f1)).f0).size) = False := eq_false (Nat.not_lt.2 c23));(have c23b4 := c23b2);(simp only [ByteArray.size_append, show (⟨#[45]⟩ : ByteArray).size = 1 from rfl] at c23b4);(by_cases c24 : x5_1.size + ((((rd_T40 l0 ((rd_T65 l1 x6_1).f0)).f0) ++ (⟨#[45]⟩ : ByteArray)) ++ ((rd_T40 l0 ((rd_T65 l1 x6_1).f1)).f0)).size ≤ 9223372036854775807)
             ·rw [if_pos c24] at H
              (have c24b0 := eq_true c24);(have c24b1 : decide (x5_1.size + ((((rd_T40 l0 ((rd_T65 l1 x6_1).f0)).f0) ++ (⟨#[45]⟩ : ByteArray)) ++ ((rd_T40 l0 ((rd_T65 l1 x6_1).f1)).f0)).size ≤ 9223372036854775807) = true := decide_eq_true c24);(try have c24b2 : (9223372036854775807 < x5_1.size + ((((rd_T40 l0 ((rd_T65 l1 x6_1).f0)).f0) ++ (⟨#[45]⟩ : ByteArray)) ++ ((rd_T40 l0 ((rd_T65 l1 x6_1).f1)).f0)).size) = False := eq_false (Nat.not_lt.2 c24));(have c24b4 := c24b2);(simp only [ByteArray.size_append, show (⟨#[45]⟩ : ByteArray).size = 1 from rfl] at c24b4);(have H' := Aside0.mk H);clear H;(have p519 : 0 ≤ (x6_1 : Int) := of_decide_eq_true zq27);(have q519 : x6_1 < (l1.length : Int) := of_decide_eq_true zq27);(obtain ⟨ad519, e519, hx519_0, hx519_1⟩ := at_T65 HR1.out x6_1 p519 q519)
              cases e519
              (replace hx519_0 := (HB.out.cell (World.block_lt_of_cell? w _ hx519_0)).trans hx519_0);(replace hx519_1 := (HB.out.cell (World.block_lt_of_cell? w _ hx519_1)).trans hx519_1);(replace p519 := eq_true p519);(replace q519 := eq_true q519);(have p520 : 0 ≤ (((rd_T65 l1 x6_1).f0) : Int) := of_decide_eq_true zq27);(have q520 : ((rd_T65 l1 x6_1).f0) < (l0.length : Int) := of_decide_eq_true zq27);(obtain ⟨ad520, e520, hx520_0, hx520_1, hx520_2, hx520_3⟩ := at_T40 HR0.out ((rd_T65 l1 x6_1).f0) p520 q520)
              cases e520
              (replace hx520_0 := (HB.out.cell (World.block_lt_of_cell? w _ hx520_0)).trans hx520_0);(replace hx520_1 := (HB.out.cell (World.block_lt_of_cell? w _ hx520_1)).trans hx520_1);(replace hx520_2 := (HB.out.cell (World.block_lt_of_cell? w _ hx520_2)).trans hx520_2);(replace hx520_3 := (HB.out.cell (World.block_lt_of_cell? w _ hx520_3)).trans hx520_3);(replace p520 := eq_true p520);(replace q520 := eq_true q520);(have p521 : 0 ≤ (x6_1 : Int) := of_decide_eq_true zq27);(have q521 : x6_1 < (l1.length : Int) := of_decide_eq_true zq27);(obtain ⟨ad521, e521, hx521_0, hx521_1⟩ := at_T65 HR1.out x6_1 p521 q521);(obtain rfl : ad519 = ad521 := (by injection e521));(replace hx521_0 := (HB.out.cell (World.block_lt_of_cell? w _ hx521_0)).trans hx521_0);(replace hx521_1 := (HB.out.cell (World.block_lt_of_cell? w _ hx521_1)).trans hx521_1);(replace p521 := eq_true p521);(replace q521 := eq_true q521);(have p522 : 0 ≤ (((rd_T65 l1 x6_1).f1) : Int) := of_decide_eq_true zq27);(have q522 : ((rd_T65 l1 x6_1).f1) < (l0.length : Int) := of_decide_eq_true zq27);(obtain ⟨ad522, e522, hx522_0, hx522_1, hx522_2, hx522_3⟩ := at_T40 HR0.out ((rd_T65 l1 x6_1).f1) p522 q522);(obtain rfl : ad520 = ad522 := (by injection e522));(replace hx522_0 := (HB.out.cell (World.block_lt_of_cell? w _ hx522_0)).trans hx522_0);(replace hx522_1 := (HB.out.cell (World.block_lt_of_cell? w _ hx522_1)).trans hx522_1);(replace hx522_2 := (HB.out.cell (World.block_lt_of_cell? w _ hx522_2)).trans hx522_2);(replace hx522_3 := (HB.out.cell (World.block_lt_of_cell? w _ hx522_3)).trans hx522_3);(replace p522 := eq_true p522);(replace q522 := eq_true q522);(go_wp2);(repeat (go_quiet (fail); try go_wp2));(go_roundg k1)
              case measure => have := HK1.out; omega
              case rel => exact ⟨(x5_1 ++ ((((rd_T40 l0 ((rd_T65 l1 x6_1).f0)).f0) ++ (⟨#[45]⟩ : ByteArray)) ++ ((rd_T40 l0 ((rd_T65 l1 x6_1).f1)).f0))), (wrap64 (x6_1 + 1)), zq34, zq34, H', ⟨zq40⟩, ⟨zq66⟩⟩
             ·rw [if_neg c24] at H
              exact absurd H (by simp)
            ·rw [if_neg c23] at H
             exact absurd H (by simp)
           ·rw [if_neg c22] at H
            exact absurd H (by simp)
          ·rw [if_neg c21] at H
           exact absurd H (by simp)
         ·rw [if_neg c20] at H
          exact absurd H (by simp)
        ·rw [if_neg c19] at H
         exact absurd H (by simp)
       ·rw [if_neg c18] at H
        exact absurd H (by simp)
      ·rw [if_neg c17] at H
       exact absurd H (by simp)
    ·rw [if_neg c6] at H
     (have c6b0 : decide (x6_1 < (l1.length : Int)) = false := decide_eq_false c6);clear c6;(obtain rfl := Option.some.inj H);(go_wp2);(repeat (go_quiet (fail); try go_wp2));(go_ret);(exact ⟨zq31, zq66⟩)
 ·replace c4 := Bool.eq_false_iff.mpr c4
  subst c4;(have H1 : (some (⟨#[]⟩ : ByteArray)) = some r := zq96);clear H;(have H := H1);clear H1;(obtain rfl := Option.some.inj H)
  go_enter Tryz.func20, Tryz.ntmps20
  (go_wp2_with (first | (go_at_call 36; (with_reducible refine (spec_l16Figure.calls k _ _ l0 _ _ l1 false _ ?side1 ?side2 ?side3 ?side4 A3.out).mono ?_); (case side1 => exact zq88); (case side2 => exact HC0.out); (case side3 => exact zq89); (case side4 => exact HC1.out); rintro e w25 ⟨rfl, hb⟩; have n0_ := Aside0.mk (below_step zq66 hb); clear HB; have HB := n0_; clear n0_; (try clear hb); (try clear hb2); (try clear hk); (try clear hi))));(repeat (go_quiet (first | (go_at_call 36; (with_reducible refine (spec_l16Figure.calls k _ _ l0 _ _ l1 false _ ?side1 ?side2 ?side3 ?side4 A3.out).mono ?_); (case side1 => exact zq88); (case side2 => exact HC0.out); (case side3 => exact zq89); (case side4 => exact HC1.out); rintro e w25 ⟨rfl, hb⟩; have n0_ := Aside0.mk (below_step zq66 hb); clear HB; have HB := n0_; clear n0_; (try clear hb); (try clear hb2); (try clear hk); (try clear hi))); try go_wp2_with (first | (go_at_call 36; (with_reducible refine (spec_l16Figure.calls k _ _ l0 _ _ l1 false _ ?side1 ?side2 ?side3 ?side4 A3.out).mono ?_); (case side1 => exact zq88); (case side2 => exact HC0.out); (case side3 => exact zq89); (case side4 => exact HC1.out); rintro e w25 ⟨rfl, hb⟩; have n0_ := Aside0.mk (below_step zq66 hb); clear HB; have HB := n0_; clear n0_; (try clear hb); (try clear hb2); (try clear hk); (try clear hi)))));(go_ret);(exact ⟨zq31, zq66⟩)

/-! ### spec_ValidCatalogue: function 22 -/
def spec_ValidCatalogue.f (k : Nat) (l0 : List (S40)) : Option (Bool) := (spec_l16Ok.f k l0).bind fun t523 => (some t523)
theorem spec_ValidCatalogue.mono : ∀ a0 k, LeO (spec_ValidCatalogue.f k a0) (spec_ValidCatalogue.f (k + 1) a0) := by
 intro a0 k;(unfold spec_ValidCatalogue.f)
 repeat' first | with_reducible (first | exact spec_l16Ok.mono _ _ | exact LeO.refl _ | exact LeO.none _ | refine LeO.ite ?_ ?_ | refine LeO.bind ?_ (fun _ => ?_)) | exact spec_l16Ok.mono _ _ | exact LeO.none _ | refine LeO.ite ?_ ?_ | refine LeO.bind ?_ (fun _ => ?_)
theorem spec_ValidCatalogue.calls (k : Nat) (A0 : Option Addr) (c0 : Nat) (l0 : List (S40)) (r : Bool) (w : World) (hr0 : Kd.C k40 w A0 l0.length l0) (hc0 : l0.length ≤ c0) (h : spec_ValidCatalogue.f k l0 = some r) :
  Calls Tryz.prog 22 #[.slice A0 l0.length c0] w fun e w' => e = .returned (.bool r) ∧ Below w.heap.size w w' := by
 (have HR0 := Aside0.mk hr0);(have HC0 := Aside0.mk hc0);clear hr0 hc0;(have HB := Aside0.mk (Below.refl w.heap.size w));(have H : ((spec_l16Ok.f k l0).bind fun t523 => (some t523)) = some r := h);clear h;(replace H := Option.bind_eq_some_iff.mp H);(obtain ⟨t523, A20, H⟩ := H);(replace H : (some t523) = some r := H);(have A2 := Aside0.mk A20);clear A20;(obtain rfl := Option.some.inj H)
 go_enter Tryz.func22, Tryz.ntmps22
 (go_wp2_with (first | ((with_reducible refine gate_callee (f := 32) rfl ?_); refine goesL_ (some 4) rfl rfl Tryz.func32 (by kernel_rfl) rfl #[.slice A0 l0.length c0] rfl zq0 ?_; (with_reducible refine (spec_l16Ok.calls k _ _ l0 t523 _ ?side1 ?side2 A2.out).mono ?_); (case side1 => exact zq88); (case side2 => exact HC0.out); rintro e w3 ⟨rfl, hb⟩; refine ⟨_, rfl, ?_⟩; have n0_ := Aside0.mk (below_step zq66 hb); clear HB; have HB := n0_; clear n0_; (try clear hb); (try clear hb2); (try clear hk); (try clear hi))));(go_ret);(exact ⟨zq31, zq66⟩)

/-! ### spec_ValidFigure: function 24 -/
def spec_ValidFigure.f (k : Nat) (l0 : List (S40)) (l1 : List (S65)) : Option (Bool) := (spec_l16Figure.f k l0 l1).bind fun t524 => (some t524)
theorem spec_ValidFigure.mono : ∀ a0 a1 k, LeO (spec_ValidFigure.f k a0 a1) (spec_ValidFigure.f (k + 1) a0 a1) := by
 intro a0 a1 k;(unfold spec_ValidFigure.f)
 repeat' first | with_reducible (first | exact spec_l16Figure.mono _ _ _ | exact LeO.refl _ | exact LeO.none _ | refine LeO.ite ?_ ?_ | refine LeO.bind ?_ (fun _ => ?_)) | exact spec_l16Figure.mono _ _ _ | exact LeO.none _ | refine LeO.ite ?_ ?_ | refine LeO.bind ?_ (fun _ => ?_)
theorem spec_ValidFigure.calls (k : Nat) (A0 : Option Addr) (c0 : Nat) (l0 : List (S40)) (A1 : Option Addr) (c1 : Nat) (l1 : List (S65)) (r : Bool) (w : World) (hr0 : Kd.C k40 w A0 l0.length l0) (hc0 : l0.length ≤ c0) (hr1 : Kd.C k65 w A1 l1.length l1) (hc1 : l1.length ≤ c1) (h : spec_ValidFigure.f k l0 l1 = some r) :
  Calls Tryz.prog 24 #[.slice A0 l0.length c0, .slice A1 l1.length c1] w fun e w' => e = .returned (.bool r) ∧ Below w.heap.size w w' := by
 (have HR0 := Aside0.mk hr0);(have HC0 := Aside0.mk hc0);clear hr0 hc0;(have HR1 := Aside0.mk hr1);(have HC1 := Aside0.mk hc1);clear hr1 hc1;(have HB := Aside0.mk (Below.refl w.heap.size w));(have H : ((spec_l16Figure.f k l0 l1).bind fun t524 => (some t524)) = some r := h);clear h;(replace H := Option.bind_eq_some_iff.mp H);(obtain ⟨t524, A30, H⟩ := H);(replace H : (some t524) = some r := H);(have A3 := Aside0.mk A30);clear A30;(obtain rfl := Option.some.inj H)
 go_enter Tryz.func24, Tryz.ntmps24
 (go_wp2_with (first | ((with_reducible refine gate_callee (f := 36) rfl ?_); refine goesL_ (some 7) rfl rfl Tryz.func36 (by kernel_rfl) rfl #[.slice A0 l0.length c0, .slice A1 l1.length c1] rfl zq0 ?_; (with_reducible refine (spec_l16Figure.calls k _ _ l0 _ _ l1 t524 _ ?side1 ?side2 ?side3 ?side4 A3.out).mono ?_); (case side1 => exact zq88); (case side2 => exact HC0.out); (case side3 => exact zq89); (case side4 => exact HC1.out); rintro e w4 ⟨rfl, hb⟩; refine ⟨_, rfl, ?_⟩; have n0_ := Aside0.mk (below_step zq66 hb); clear HB; have HB := n0_; clear n0_; (try clear hb); (try clear hb2); (try clear hk); (try clear hi))));(go_ret);(exact ⟨zq31, zq66⟩)

/-! ### laws_f6sum: function 25 -/
def laws_f6sum.l0 : Nat → List Int → Int → Int → Option (Int)
 | 0, _, _, _ => none
 | k + 1, x0, x3, x4 => if x4 < (x0.length : Int) then (if 0 ≤ x4 then (laws_f6sum.l0 k x0 (wrap64 (x3 + (rd x0 x4))) (wrap64 (x4 + 1))) else (none)) else (some x3)
def laws_f6sum.f (k : Nat) (l0 : List Int) : Option (Int) := laws_f6sum.l0 k l0 0 0
theorem laws_f6sum.mono_l : ∀ k, (∀ y0 y1 y2, LeO (laws_f6sum.l0 k y0 y1 y2) (laws_f6sum.l0 (k + 1) y0 y1 y2))
 | 0 => fun _ _ _ r h => by simp [laws_f6sum.l0] at h
 | k + 1 => by
  have ih0 := laws_f6sum.mono_l k
  ·intro y0 y1 y2
   unfold laws_f6sum.l0
   repeat' first | with_reducible (first | exact ih0 _ _ _ | exact LeO.refl _ | exact LeO.none _ | refine LeO.ite ?_ ?_ | refine LeO.bind ?_ (fun _ => ?_)) | exact ih0 _ _ _ | exact LeO.none _ | refine LeO.ite ?_ ?_ | refine LeO.bind ?_ (fun _ => ?_)
theorem laws_f6sum.mono : ∀ a0 k, LeO (laws_f6sum.f k a0) (laws_f6sum.f (k + 1) a0) := by
 intro a0 k;(have ih0 := laws_f6sum.mono_l k);(unfold laws_f6sum.f)
 repeat' first | with_reducible (first | exact ih0 _ _ _ | exact LeO.refl _ | exact LeO.none _ | refine LeO.ite ?_ ?_ | refine LeO.bind ?_ (fun _ => ?_)) | exact ih0 _ _ _ | exact LeO.none _ | refine LeO.ite ?_ ?_ | refine LeO.bind ?_ (fun _ => ?_)
theorem laws_f6sum.calls (k : Nat) (A0 : Option Addr) (c0 : Nat) (l0 : List Int) (r : Int) (w : World) (hr0 : Kd.C (Kd.int .i64) w A0 l0.length l0) (hc0 : l0.length ≤ c0) (h : laws_f6sum.f k l0 = some r) :
  Calls Tryz.prog 25 #[.slice A0 l0.length c0] w fun e w' => e = .returned (.int .i64 r) ∧ Drawn0 w w' := by
 (have HR0 := Aside0.mk hr0);(have HC0 := Aside0.mk hc0);clear hr0 hc0;(have H : (laws_f6sum.l0 k l0 0 0) = some r := h);clear h;(have H' := Aside0.mk H);clear H
 go_enter Tryz.func25, Tryz.ntmps25
 go_wp2
 go_loopg [3, 4] k (fun kq v3 v4 w' => ∃ (x3_1 : Int) (x4_1 : Int), v3 = .int .i64 x3_1 ∧ v4 = .int .i64 x4_1 ∧ Aside0 (laws_f6sum.l0 kq l0 x3_1 x4_1 = some r) ∧ Aside0 (kq ≤ k) ∧ Drawn0 w w')
 case atStart => exact ⟨(0), (0), zq34, zq34, H', ⟨Nat.le_refl _⟩, zq87⟩
 case round =>
  clear H';(obtain ⟨x3_1, x4_1, rfl, rfl, HA, HK1, ⟨m1, rfl⟩⟩ := hrel)
  cases gk with
  | zero => exact absurd HA.out (by simp [laws_f6sum.l0])
  | succ k1 =>
   (have H := HA.out);clear HA;(simp only [laws_f6sum.l0] at H);(by_cases c2 : x4_1 < (l0.length : Int))
   ·rw [if_pos c2] at H
    (have c2b0 : decide (x4_1 < (l0.length : Int)) = true := decide_eq_true c2);clear c2;(by_cases c3 : 0 ≤ x4_1)
    ·rw [if_pos c3] at H
     (have c3b0 : decide (0 ≤ x4_1) = true := decide_eq_true c3);clear c3;(have H' := Aside0.mk H);clear H;(have p525 : 0 ≤ (x4_1 : Int) := of_decide_eq_true zq27);(have q525 : x4_1 < (l0.length : Int) := of_decide_eq_true zq27);(obtain ⟨ad525, e525, hx525_0⟩ := Kd.at_int HR0.out x4_1 p525 q525)
     cases e525
     (replace p525 := eq_true p525);(replace q525 := eq_true q525);(go_wp2);(go_roundg k1)
     case measure => have := HK1.out; omega
     case rel => exact ⟨(wrap64 (x3_1 + (rd l0 x4_1))), (wrap64 (x4_1 + 1)), zq34, zq34, H', ⟨zq40⟩, zq87⟩
    ·rw [if_neg c3] at H
     exact absurd H (by simp)
   ·rw [if_neg c2] at H
    (have c2b0 : decide (x4_1 < (l0.length : Int)) = false := decide_eq_false c2);clear c2;(obtain rfl := Option.some.inj H);(go_wp2);(go_ret);(exact ⟨zq34, zq87⟩)

end Go.Proofs.YtnjalpniedpgmaaGreatDoor.PFnCatalogues
