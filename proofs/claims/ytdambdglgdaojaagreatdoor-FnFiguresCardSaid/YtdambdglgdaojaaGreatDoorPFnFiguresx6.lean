-- Made by a program of this session (gprint.py) out of the kit's print of the translation and texts of my own. SLIM
import Derived.Test.YtdambdglgdaojaaGreatDoorPFnFiguresx0
import Derived.Test.YtdambdglgdaojaaGreatDoorPFnFiguresx4
import Derived.Test.YtdambdglgdaojaaGreatDoorPFnFiguresx5
namespace Go.Proofs.YtdambdglgdaojaaGreatDoor.PFnFigures
open Go.RowKit Go.Proofs.YtdambdglgdaojaaGreatDoorW.PrintWords Go.Proofs.YtdambdglgdaojaaGreatDoorW.PrintLast Go.Proofs.YtdambdglgdaojaaGreatDoorW.PrintMore
set_option maxHeartbeats 64000000
set_option maxRecDepth 100000
attribute [local go_sem] max2_int min2_int max_two min_two max_three min_three max_four min_four   -- for this text's walks alone
set_option linter.unusedVariables false
set_option linter.unusedSimpArgs false

/-! ### impl_FigureWithout: function 6 -/
def impl_FigureWithout.l0 : Nat → List (S53) → Int → List (S39) → List (S39) → Int → Int → Option ((List (S39)) × Int)
 | 0, _, _, _, _, _, _ => none
 | k + 1, x0, x2, x9, x22, x23, x24 => if x24 < x23 then (if 0 ≤ x24 then (if x24 < (x22.length : Int) then (if 0 ≤ ((rd_T39 x22 x24).f0) then (if ((rd_T39 x22 x24).f0) < (x0.length : Int) then (if ((rd_T53 x0 ((rd_T39 x22 x24).f0)).f1) ≤ x2 then (if 0 ≤ ((rd_T39 x22 x24).f1) then (if ((rd_T39 x22 x24).f1) < (x0.length : Int) then (if ((rd_T53 x0 ((rd_T39 x22 x24).f1)).f1) ≤ x2 then (if x9.length < 8796093022208 then (impl_FigureWithout.l0 k x0 x2 (x9 ++ [(⟨(rd_T39 x22 x24).f0, (rd_T39 x22 x24).f1⟩ : S39)]) x22 x23 (wrap64 (x24 + 1))) else (none)) else (impl_FigureWithout.l0 k x0 x2 x9 x22 x23 (wrap64 (x24 + 1)))) else (none)) else (none)) else (impl_FigureWithout.l0 k x0 x2 x9 x22 x23 (wrap64 (x24 + 1)))) else (none)) else (none)) else (none)) else (none)) else (some (x9, 0))
def impl_FigureWithout.f (k : Nat) (l0 : List (S53)) (l1 : List (S39)) (a2 : Int) : Option ((List (S39)) × Int) := (impl_ValidFigure.f k l0 l1).bind fun t318 => ((impl_isClass.f a2).bind fun t319 => ((impl_check.f t318 t319).bind fun t320 => (if t320 = 0 then (impl_FigureWithout.l0 k l0 a2 (([] : List (S39))) l1 (l1.length : Int) 0) else (some (([] : List (S39)), t320)))))
theorem impl_FigureWithout.mono_l : ∀ k, (∀ y0 y1 y2 y3 y4 y5, LeO (impl_FigureWithout.l0 k y0 y1 y2 y3 y4 y5) (impl_FigureWithout.l0 (k + 1) y0 y1 y2 y3 y4 y5))
 | 0 => fun _ _ _ _ _ _ r h => by simp [impl_FigureWithout.l0] at h
 | k + 1 => by
  have ih0 := impl_FigureWithout.mono_l k
  ·intro y0 y1 y2 y3 y4 y5
   unfold impl_FigureWithout.l0
   repeat' first | with_reducible (first | exact ih0 _ _ _ _ _ _ | exact impl_ValidFigure.mono _ _ _ | exact LeO.refl _ | exact LeO.none _ | refine LeO.ite ?_ ?_ | refine LeO.bind ?_ (fun _ => ?_)) | exact ih0 _ _ _ _ _ _ | exact impl_ValidFigure.mono _ _ _ | exact LeO.none _ | refine LeO.ite ?_ ?_ | refine LeO.bind ?_ (fun _ => ?_)
theorem impl_FigureWithout.mono : ∀ a0 a1 a2 k, LeO (impl_FigureWithout.f k a0 a1 a2) (impl_FigureWithout.f (k + 1) a0 a1 a2) := by
 intro a0 a1 a2 k;(have ih0 := impl_FigureWithout.mono_l k);(unfold impl_FigureWithout.f)
 repeat' first | with_reducible (first | exact ih0 _ _ _ _ _ _ | exact impl_ValidFigure.mono _ _ _ | exact LeO.refl _ | exact LeO.none _ | refine LeO.ite ?_ ?_ | refine LeO.bind ?_ (fun _ => ?_)) | exact ih0 _ _ _ _ _ _ | exact impl_ValidFigure.mono _ _ _ | exact LeO.none _ | refine LeO.ite ?_ ?_ | refine LeO.bind ?_ (fun _ => ?_)
theorem impl_FigureWithout.calls (k : Nat) (A0 : Option Addr) (c0 : Nat) (l0 : List (S53)) (A1 : Option Addr) (c1 : Nat) (l1 : List (S39)) (a2 : Int) (r1 : List (S39)) (r2 : Int) (w : World) (hr0 : Kd.C k53 w A0 l0.length l0) (hc0 : l0.length ≤ c0) (hr1 : Kd.C k39 w A1 l1.length l1) (hc1 : l1.length ≤ c1) (h : impl_FigureWithout.f k l0 l1 a2 = some (r1, r2)) :
  Calls Tryz.prog 6 #[.slice A0 l0.length c0, .slice A1 l1.length c1, .int .i64 a2] w fun e w' => ∃ v0_ : Value, e = .returned (.tuple #[v0_, .int .i64 r2]) ∧ Kd.R k39 39 w' w.heap.size (fun _ => True) v0_ r1 ∧ Below w.heap.size w w' := by
 (have hu39 := Tryz.underlying39);(have HR0 := Aside0.mk hr0);(have HC0 := Aside0.mk hc0);clear hr0 hc0;(have HR1 := Aside0.mk hr1);(have HC1 := Aside0.mk hc1);clear hr1 hc1;(have HB := Aside0.mk (Below.refl w.heap.size w));(have H : ((impl_ValidFigure.f k l0 l1).bind fun t318 => ((impl_isClass.f a2).bind fun t319 => ((impl_check.f t318 t319).bind fun t320 => (if t320 = 0 then (impl_FigureWithout.l0 k l0 a2 (([] : List (S39))) l1 (l1.length : Int) 0) else (some (([] : List (S39)), t320)))))) = some (r1, r2) := h);clear h;(replace H := Option.bind_eq_some_iff.mp H);(obtain ⟨t318, A40, H⟩ := H);(replace H : ((impl_isClass.f a2).bind fun t319 => ((impl_check.f t318 t319).bind fun t320 => (if t320 = 0 then (impl_FigureWithout.l0 k l0 a2 (([] : List (S39))) l1 (l1.length : Int) 0) else (some (([] : List (S39)), t320))))) = some (r1, r2) := H);(have A4 := Aside0.mk A40);clear A40;(replace H := Option.bind_eq_some_iff.mp H);(obtain ⟨t319, A50, H⟩ := H);(replace H : ((impl_check.f t318 t319).bind fun t320 => (if t320 = 0 then (impl_FigureWithout.l0 k l0 a2 (([] : List (S39))) l1 (l1.length : Int) 0) else (some (([] : List (S39)), t320)))) = some (r1, r2) := H);(have A5 := Aside0.mk A50);clear A50;(replace H := Option.bind_eq_some_iff.mp H);(obtain ⟨t320, A60, H⟩ := H);(replace H : (if t320 = 0 then (impl_FigureWithout.l0 k l0 a2 (([] : List (S39))) l1 (l1.length : Int) 0) else (some (([] : List (S39)), t320))) = some (r1, r2) := H);(have A6 := Aside0.mk A60);clear A60;(by_cases c7 : t320 = 0)
 ·rw [if_pos c7] at H
  (have c7b0 : (t320 == 0) = true := beq_iff_eq.mpr c7);(have c7b1 : (t320 != 0) = false := bne_eq_false_iff_eq.mpr c7);clear c7;(obtain ⟨y321, hy_⟩ : ∃ y_ : List (S39), y_ = (([] : List (S39))) := ⟨_, rfl⟩);(replace H : (impl_FigureWithout.l0 k l0 a2 y321 l1 (l1.length : Int) 0) = some (r1, r2) := zq38);(have Ny321 := Aside0.mk hy_);clear hy_;(have H' := Aside0.mk H);clear H
  go_enter Tryz.func6, Tryz.ntmps6
  go_wp2_with (first | ((with_reducible refine gate_callee (f := 24) rfl ?_); refine goesL_ (some 14) rfl rfl Tryz.func24 (by kernel_rfl) rfl #[.slice A0 l0.length c0, .slice A1 l1.length c1] rfl zq0 ?_; (with_reducible refine (impl_ValidFigure.calls k _ _ l0 _ _ l1 t318 _ ?side1 ?side2 ?side3 ?side4 A4.out).mono ?_); (case side1 => exact zq109); (case side2 => exact HC0.out); (case side3 => exact zq110); (case side4 => exact HC1.out); rintro e w8 ⟨rfl, hb⟩; refine ⟨_, rfl, ?_⟩; have n0_ := Aside0.mk (below_step zq79 hb); clear HB; have HB := n0_; clear n0_; (try clear hb); (try clear hb2); (try clear hk); (try clear hi)) | ((with_reducible refine gate_callee (f := 25) rfl ?_); refine goesL_ (some 16) rfl rfl Tryz.func25 (by kernel_rfl) rfl #[.int .i64 a2] rfl zq0 ?_; (with_reducible refine (impl_isClass.calls a2 t319 _ A5.out).mono ?_); rintro e w' ⟨rfl, ⟨nd, rfl⟩⟩; refine ⟨_, rfl, ?_⟩) | ((with_reducible refine gate_callee (f := 23) rfl ?_); refine goesL_ (some 17) rfl rfl Tryz.func23 (by kernel_rfl) rfl #[.bool t318, .bool t319] rfl zq0 ?_; (with_reducible refine (impl_check.calls t318 t319 t320 _ A6.out).mono ?_); rintro e w' ⟨rfl, ⟨nd, rfl⟩⟩; refine ⟨_, rfl, ?_⟩) | ((with_reducible refine gate_dst (N := 21) rfl ?_); refine Kd.R_lit k39 _ 39 ?hg (N := 21) ?hd (xs := ([] : List (S39))) (inner := []) (ok := fun _ => True) (okp := fun _ => True) ?hr ?hp (fun _ hk => hk) trivial (Below.refl _ _) (Nat.le_refl _) (by simp) ?_; (case hd => rfl); (case hg => rfl); (case hr => first | (go_simp; done) | (go_simp; rfl)); (case hp => exact (Reps.none _ _)); intro v322 w9 ho10 hb hg_ hnew_; clear hg_ hnew_; (first | rw [← Ny321.out] at ho10 | (simp only [Int.reduceToNat] at ho10; rw [← Ny321.out] at ho10)); have n0_ := Aside0.mk (Kd.R_lower ho10 (below_size zq79)); have n1_ := Aside0.mk (below_step zq79 hb); clear HB; have HO323 := n0_; have HB := n1_; clear n0_ n1_; clear hb ho10))
  go_loopg [9, 24] k (fun kq v9 v24 w' => ∃ (x9_1 : List (S39)) (x24_1 : Int), v24 = .int .i64 x24_1 ∧ Aside0 (impl_FigureWithout.l0 kq l0 a2 x9_1 l1 (l1.length : Int) x24_1 = some (r1, r2)) ∧ Aside0 (kq ≤ k) ∧ Aside0 (Kd.R k39 39 w' w.heap.size (fun _ => True) v9 x9_1) ∧ Aside0 (Below w.heap.size w w'))
  case atStart => exact ⟨(y321), (0), zq46, H', ⟨Nat.le_refl _⟩, ⟨zR HO323.out⟩, ⟨zq79⟩⟩
  case round =>
   clear H';(try clear c1);(try clear c2);(try clear p2);(try clear c6);(try clear c7);(try clear c7b0);(try clear c7b1);(obtain ⟨x9_1, x24_1, rfl, HA, HK1, HO_9, HB⟩ := hrel)
   cases gk with
   | zero => exact absurd HA.out (by simp [impl_FigureWithout.l0])
   | succ k1 =>
    (have H := HA.out);clear HA;(simp only [impl_FigureWithout.l0] at H);(by_cases c11 : x24_1 < (l1.length : Int))
    ·rw [if_pos c11] at H
     (have c11b0 : decide (x24_1 < (l1.length : Int)) = true := decide_eq_true c11);clear c11;(by_cases c12 : 0 ≤ x24_1)
     ·rw [if_pos c12] at H
      (have c12b0 : decide (0 ≤ x24_1) = true := decide_eq_true c12);clear c12;(by_cases c13 : x24_1 < (l1.length : Int))
      ·rw [if_pos c13] at H
       (have c13b0 : decide (x24_1 < (l1.length : Int)) = true := decide_eq_true c13);clear c13;(by_cases c14 : 0 ≤ ((rd_T39 l1 x24_1).f0))
       ·rw [if_pos c14] at H
        (have c14b0 : decide (0 ≤ ((rd_T39 l1 x24_1).f0)) = true := decide_eq_true c14);clear c14;(by_cases c15 : ((rd_T39 l1 x24_1).f0) < (l0.length : Int))
        ·rw [if_pos c15] at H
         (have c15b0 : decide (((rd_T39 l1 x24_1).f0) < (l0.length : Int)) = true := decide_eq_true c15);clear c15;(by_cases c16 : ((rd_T53 l0 ((rd_T39 l1 x24_1).f0)).f1) ≤ a2)
         ·rw [if_pos c16] at H
          (have c16b0 : decide (((rd_T53 l0 ((rd_T39 l1 x24_1).f0)).f1) ≤ a2) = true := decide_eq_true c16);clear c16;(by_cases c17 : 0 ≤ ((rd_T39 l1 x24_1).f1))
          ·rw [if_pos c17] at H
           (have c17b0 : decide (0 ≤ ((rd_T39 l1 x24_1).f1)) = true := decide_eq_true c17);clear c17;(by_cases c18 : ((rd_T39 l1 x24_1).f1) < (l0.length : Int))
           ·rw [if_pos c18] at H
            (have c18b0 : decide (((rd_T39 l1 x24_1).f1) < (l0.length : Int)) = true := decide_eq_true c18);clear c18;(by_cases c19 : ((rd_T53 l0 ((rd_T39 l1 x24_1).f1)).f1) ≤ a2)
            ·rw [if_pos c19] at H
             (have c19b0 : decide (((rd_T53 l0 ((rd_T39 l1 x24_1).f1)).f1) ≤ a2) = true := decide_eq_true c19);clear c19;(by_cases c20 : x9_1.length < 8796093022208)
             ·rw [if_pos c20] at H
              (have LMc20 := Aside0.mk c20);clear c20;(obtain ⟨y328, hy_⟩ : ∃ y_ : List (S39), y_ = (x9_1 ++ [(⟨(rd_T39 l1 x24_1).f0, (rd_T39 l1 x24_1).f1⟩ : S39)]) := ⟨_, rfl⟩);(replace H : (impl_FigureWithout.l0 k1 l0 a2 y328 l1 (l1.length : Int) (wrap64 (x24_1 + 1))) = some (r1, r2) := zq38);(have Ny328 := Aside0.mk hy_);clear hy_;(have H' := Aside0.mk H);clear H;(have p324 : 0 ≤ (x24_1 : Int) := of_decide_eq_true zq39);(have q324 : x24_1 < (l1.length : Int) := of_decide_eq_true zq39);(obtain ⟨ad324, e324, hx324_0, hx324_1⟩ := at_T39 HR1.out x24_1 p324 q324)
              cases e324
              (replace hx324_0 := (HB.out.cell (World.block_lt_of_cell? w _ hx324_0)).trans hx324_0);(replace hx324_1 := (HB.out.cell (World.block_lt_of_cell? w _ hx324_1)).trans hx324_1);(replace p324 := eq_true p324);(replace q324 := eq_true q324);(go_wp2_with (first | ((with_reducible refine gate_dst (N := 11) rfl ?_); refine box_event ?hg (N := 11) ?hd (cs := #[.int .i64 0, .int .i64 0]) (t := 39) ?hr ?_; (case hd => rfl); (case hg => rfl); (case hr => first | (go_simp; done) | (go_simp; rfl)); intro gb325 hg w21 hbox hb; have n0_ := Aside0.mk (Kd.R_below (Kd.R_elderB (zR HO_9.out) gb325 (Nat.le_of_eq hg.symm)) hb); have n1_ := Aside0.mk (below_step zq79 hb); have n2_ := Aside0.mk (hbox); have n3_ := Aside0.mk ((zq111 : w.heap.size ≤ gb325)); have n4_ := Aside0.mk ((zq111 : w.heap.size ≤ gb325)); clear HO_9; clear HB; have HO_9 := n0_; have HB := n1_; have BK325 := n2_; have GW325 := n3_; have GE325 := n4_; clear n0_ n1_ n2_ n3_ n4_; clear hb hbox hg; have hcz22_0 : w21.cell? ⟨gb325, 0, none⟩ = some (.int .i64 0) := (blk_cell BK325.out 0).trans rfl; have hcz22_1 : w21.cell? ⟨gb325, 1, none⟩ = some (.int .i64 0) := (blk_cell BK325.out 1).trans rfl; have hfz22_0 := blk_frozen BK325.out 0; have hfz22_1 := blk_frozen BK325.out 1; have p326 : 0 ≤ (((rd_T39 l1 x24_1).f0) : Int) := of_decide_eq_true zq39; have q326 : ((rd_T39 l1 x24_1).f0) < (l0.length : Int) := of_decide_eq_true zq39; obtain ⟨ad326, e326, hx326_0, hx326_1, hx326_2, hx326_3⟩ := at_T53 HR0.out ((rd_T39 l1 x24_1).f0) p326 q326; cases e326; have hn326_0 : ad326.block ≠ gb325 := Nat.ne_of_lt (Nat.lt_of_lt_of_le zq57 GW325.out); have hn326_1 : ad326.block ≠ gb325 := Nat.ne_of_lt (Nat.lt_of_lt_of_le zq57 GW325.out); replace hx326_0 := (HB.out.cell (World.block_lt_of_cell? w _ hx326_0)).trans hx326_0; replace hx326_1 := (HB.out.cell (World.block_lt_of_cell? w _ hx326_1)).trans hx326_1; replace hx326_2 := (HB.out.cell (World.block_lt_of_cell? w _ hx326_2)).trans hx326_2; replace hx326_3 := (HB.out.cell (World.block_lt_of_cell? w _ hx326_3)).trans hx326_3; replace hx326_0 := (cell_far (p := ⟨gb325, 0, none⟩) zq34 (.int .i64 ((rd_T39 l1 x24_1).f0))).trans hx326_0; replace hx326_1 := (cell_far (p := ⟨gb325, 0, none⟩) zq34 (.int .i64 ((rd_T39 l1 x24_1).f0))).trans hx326_1; replace hx326_2 := (cell_far (p := ⟨gb325, 0, none⟩) zq34 (.int .i64 ((rd_T39 l1 x24_1).f0))).trans hx326_2; replace hx326_3 := (cell_far (p := ⟨gb325, 0, none⟩) zq34 (.int .i64 ((rd_T39 l1 x24_1).f0))).trans hx326_3; replace hx326_0 := (cell_far (p := ⟨gb325, 1, none⟩) zq35 (.int .i64 ((rd_T39 l1 x24_1).f1))).trans hx326_0; replace hx326_1 := (cell_far (p := ⟨gb325, 1, none⟩) zq35 (.int .i64 ((rd_T39 l1 x24_1).f1))).trans hx326_1; replace hx326_2 := (cell_far (p := ⟨gb325, 1, none⟩) zq35 (.int .i64 ((rd_T39 l1 x24_1).f1))).trans hx326_2; replace hx326_3 := (cell_far (p := ⟨gb325, 1, none⟩) zq35 (.int .i64 ((rd_T39 l1 x24_1).f1))).trans hx326_3; clear hn326_0; clear hn326_1; replace p326 := eq_true p326; replace q326 := eq_true q326; have p327 : 0 ≤ (((rd_T39 l1 x24_1).f1) : Int) := of_decide_eq_true zq39; have q327 : ((rd_T39 l1 x24_1).f1) < (l0.length : Int) := of_decide_eq_true zq39; obtain ⟨ad327, e327, hx327_0, hx327_1, hx327_2, hx327_3⟩ := at_T53 HR0.out ((rd_T39 l1 x24_1).f1) p327 q327; obtain rfl : ad326 = ad327 := (by injection e327); have hn327_0 : ad326.block ≠ gb325 := Nat.ne_of_lt (Nat.lt_of_lt_of_le zq58 GW325.out); have hn327_1 : ad326.block ≠ gb325 := Nat.ne_of_lt (Nat.lt_of_lt_of_le zq58 GW325.out); replace hx327_0 := (HB.out.cell (World.block_lt_of_cell? w _ hx327_0)).trans hx327_0; replace hx327_1 := (HB.out.cell (World.block_lt_of_cell? w _ hx327_1)).trans hx327_1; replace hx327_2 := (HB.out.cell (World.block_lt_of_cell? w _ hx327_2)).trans hx327_2; replace hx327_3 := (HB.out.cell (World.block_lt_of_cell? w _ hx327_3)).trans hx327_3; replace hx327_0 := (cell_far (p := ⟨gb325, 0, none⟩) zq36 (.int .i64 ((rd_T39 l1 x24_1).f0))).trans hx327_0; replace hx327_1 := (cell_far (p := ⟨gb325, 0, none⟩) zq36 (.int .i64 ((rd_T39 l1 x24_1).f0))).trans hx327_1; replace hx327_2 := (cell_far (p := ⟨gb325, 0, none⟩) zq36 (.int .i64 ((rd_T39 l1 x24_1).f0))).trans hx327_2; replace hx327_3 := (cell_far (p := ⟨gb325, 0, none⟩) zq36 (.int .i64 ((rd_T39 l1 x24_1).f0))).trans hx327_3; replace hx327_0 := (cell_far (p := ⟨gb325, 1, none⟩) zq37 (.int .i64 ((rd_T39 l1 x24_1).f1))).trans hx327_0; replace hx327_1 := (cell_far (p := ⟨gb325, 1, none⟩) zq37 (.int .i64 ((rd_T39 l1 x24_1).f1))).trans hx327_1; replace hx327_2 := (cell_far (p := ⟨gb325, 1, none⟩) zq37 (.int .i64 ((rd_T39 l1 x24_1).f1))).trans hx327_2; replace hx327_3 := (cell_far (p := ⟨gb325, 1, none⟩) zq37 (.int .i64 ((rd_T39 l1 x24_1).f1))).trans hx327_3; clear hn327_0; clear hn327_1; replace p327 := eq_true p327; replace q327 := eq_true q327) | ((with_reducible refine gate_builtin (b := .append) (xs := #[.tmp 46, .tmp 48]) rfl ?_); at_builtin; refine Kd.R_append k39 (w0 := w) w.heap.size rfl (.tmp 46) (.tmp 48) 25 39 (.agg #[(.int .i64 0), (.int .i64 0)]) 16 rfl Tryz.underlying25 info39 rfl (by decide) (by omega) u9 x9_1 (⟨(rd_T39 l1 x24_1).f0, (rd_T39 l1 x24_1).f1⟩ : S39) [.int .i64 ((rd_T39 l1 x24_1).f0), .int .i64 ((rd_T39 l1 x24_1).f1)] (fun k_ => k_ ≠ gb325) (fun _ => False) rfl zq32 ?aP (fun _ hk => hk.elim) ?aF ?aO ?aB ?aS ?aL ?_; (case aP => exact k39_mkM _ _ _ (⟨(rd_T39 l1 x24_1).f0, (rd_T39 l1 x24_1).f1⟩ : S39)); (case aB => exact zq72); (case aF => exact (fun k_ hk => Kd.freshB (g := gb325) (o := .cells #[.int .i64 ((rd_T39 l1 x24_1).f0), .int .i64 ((rd_T39 l1 x24_1).f1)] 39 (0, 0)) zq25 k_ hk)); (case aO => exact (by (with_reducible repeat (first | apply Kd.R_alloc | apply Kd.R_drewN | apply Kd.R_drew)); exact Kd.R_mono (Kd.R_far (p := ⟨gb325, 1, none⟩) (Kd.R_far (p := ⟨gb325, 0, none⟩) (Kd.R_mono HO_9.out (fun k_ hk => (⟨hk, hk.2⟩ : _ ∧ k_ ≠ gb325))) (fun _ hk => hk.2) (.int .i64 ((rd_T39 l1 x24_1).f0))) (fun _ hk => hk.2) (.int .i64 ((rd_T39 l1 x24_1).f1))) (fun _ hk => hk.1.2))); (case aS => exact (below_size zq72)); (case aL => have := LMc20.out; omega); intro v329 w23 ho hb hg hat; rw [← Ny328.out] at ho; have n0_ := Aside0.mk (blk_grown (g := gb325) (o := .cells #[.int .i64 ((rd_T39 l1 x24_1).f0), .int .i64 ((rd_T39 l1 x24_1).f1)] 39 (0, 0)) zq25 hg (Kd.R_away HO_9.out (fun _ hk => hk.2))); have n1_ := Aside0.mk (hb); have n2_ := Aside0.mk (ho); clear BK325; clear HB; clear HO_9; have BK325 := n0_; have HB := n1_; have HO330 := n2_; clear n0_ n1_ n2_; clear ho hb hg hat)));(go_roundg k1)
              case measure => have := HK1.out; omega
              case rel => exact ⟨(y328), (wrap64 (x24_1 + 1)), zq46, H', ⟨zq56⟩, ⟨by (with_reducible repeat (first | apply Kd.R_alloc | apply Kd.R_drewN | apply Kd.R_drew)); exact Kd.R_mono HO330.out (fun _ hk => trivial)⟩, ⟨zq72⟩⟩
             ·rw [if_neg c20] at H
              exact absurd H (by simp)
            ·rw [if_neg c19] at H
             (have c19b0 : decide (((rd_T53 l0 ((rd_T39 l1 x24_1).f1)).f1) ≤ a2) = false := decide_eq_false c19);clear c19;(have H' := Aside0.mk H);clear H;(have p324 : 0 ≤ (x24_1 : Int) := of_decide_eq_true zq39);(have q324 : x24_1 < (l1.length : Int) := of_decide_eq_true zq39);(obtain ⟨ad324, e324, hx324_0, hx324_1⟩ := at_T39 HR1.out x24_1 p324 q324)
             cases e324
             (replace hx324_0 := (HB.out.cell (World.block_lt_of_cell? w _ hx324_0)).trans hx324_0);(replace hx324_1 := (HB.out.cell (World.block_lt_of_cell? w _ hx324_1)).trans hx324_1);(replace p324 := eq_true p324);(replace q324 := eq_true q324);(go_wp2_with (first | ((with_reducible refine gate_dst (N := 11) rfl ?_); refine box_event ?hg (N := 11) ?hd (cs := #[.int .i64 0, .int .i64 0]) (t := 39) ?hr ?_; (case hd => rfl); (case hg => rfl); (case hr => first | (go_simp; done) | (go_simp; rfl)); intro gb325 hg w24 hbox hb; have n0_ := Aside0.mk (Kd.R_below (Kd.R_elderB (zR HO_9.out) gb325 (Nat.le_of_eq hg.symm)) hb); have n1_ := Aside0.mk (below_step zq79 hb); have n2_ := Aside0.mk (hbox); have n3_ := Aside0.mk ((zq111 : w.heap.size ≤ gb325)); have n4_ := Aside0.mk ((zq111 : w.heap.size ≤ gb325)); clear HO_9; clear HB; have HO_9 := n0_; have HB := n1_; have BK325 := n2_; have GW325 := n3_; have GE325 := n4_; clear n0_ n1_ n2_ n3_ n4_; clear hb hbox hg; have hcz25_0 : w24.cell? ⟨gb325, 0, none⟩ = some (.int .i64 0) := (blk_cell BK325.out 0).trans rfl; have hcz25_1 : w24.cell? ⟨gb325, 1, none⟩ = some (.int .i64 0) := (blk_cell BK325.out 1).trans rfl; have hfz25_0 := blk_frozen BK325.out 0; have hfz25_1 := blk_frozen BK325.out 1; have p326 : 0 ≤ (((rd_T39 l1 x24_1).f0) : Int) := of_decide_eq_true zq39; have q326 : ((rd_T39 l1 x24_1).f0) < (l0.length : Int) := of_decide_eq_true zq39; obtain ⟨ad326, e326, hx326_0, hx326_1, hx326_2, hx326_3⟩ := at_T53 HR0.out ((rd_T39 l1 x24_1).f0) p326 q326; cases e326; have hn326_0 : ad326.block ≠ gb325 := Nat.ne_of_lt (Nat.lt_of_lt_of_le zq57 GW325.out); have hn326_1 : ad326.block ≠ gb325 := Nat.ne_of_lt (Nat.lt_of_lt_of_le zq57 GW325.out); replace hx326_0 := (HB.out.cell (World.block_lt_of_cell? w _ hx326_0)).trans hx326_0; replace hx326_1 := (HB.out.cell (World.block_lt_of_cell? w _ hx326_1)).trans hx326_1; replace hx326_2 := (HB.out.cell (World.block_lt_of_cell? w _ hx326_2)).trans hx326_2; replace hx326_3 := (HB.out.cell (World.block_lt_of_cell? w _ hx326_3)).trans hx326_3; replace hx326_0 := (cell_far (p := ⟨gb325, 0, none⟩) zq34 (.int .i64 ((rd_T39 l1 x24_1).f0))).trans hx326_0; replace hx326_1 := (cell_far (p := ⟨gb325, 0, none⟩) zq34 (.int .i64 ((rd_T39 l1 x24_1).f0))).trans hx326_1; replace hx326_2 := (cell_far (p := ⟨gb325, 0, none⟩) zq34 (.int .i64 ((rd_T39 l1 x24_1).f0))).trans hx326_2; replace hx326_3 := (cell_far (p := ⟨gb325, 0, none⟩) zq34 (.int .i64 ((rd_T39 l1 x24_1).f0))).trans hx326_3; replace hx326_0 := (cell_far (p := ⟨gb325, 1, none⟩) zq35 (.int .i64 ((rd_T39 l1 x24_1).f1))).trans hx326_0; replace hx326_1 := (cell_far (p := ⟨gb325, 1, none⟩) zq35 (.int .i64 ((rd_T39 l1 x24_1).f1))).trans hx326_1; replace hx326_2 := (cell_far (p := ⟨gb325, 1, none⟩) zq35 (.int .i64 ((rd_T39 l1 x24_1).f1))).trans hx326_2; replace hx326_3 := (cell_far (p := ⟨gb325, 1, none⟩) zq35 (.int .i64 ((rd_T39 l1 x24_1).f1))).trans hx326_3; clear hn326_0; clear hn326_1; replace p326 := eq_true p326; replace q326 := eq_true q326; have p327 : 0 ≤ (((rd_T39 l1 x24_1).f1) : Int) := of_decide_eq_true zq39; have q327 : ((rd_T39 l1 x24_1).f1) < (l0.length : Int) := of_decide_eq_true zq39; obtain ⟨ad327, e327, hx327_0, hx327_1, hx327_2, hx327_3⟩ := at_T53 HR0.out ((rd_T39 l1 x24_1).f1) p327 q327; obtain rfl : ad326 = ad327 := (by injection e327); have hn327_0 : ad326.block ≠ gb325 := Nat.ne_of_lt (Nat.lt_of_lt_of_le zq58 GW325.out); have hn327_1 : ad326.block ≠ gb325 := Nat.ne_of_lt (Nat.lt_of_lt_of_le zq58 GW325.out); replace hx327_0 := (HB.out.cell (World.block_lt_of_cell? w _ hx327_0)).trans hx327_0; replace hx327_1 := (HB.out.cell (World.block_lt_of_cell? w _ hx327_1)).trans hx327_1; replace hx327_2 := (HB.out.cell (World.block_lt_of_cell? w _ hx327_2)).trans hx327_2; replace hx327_3 := (HB.out.cell (World.block_lt_of_cell? w _ hx327_3)).trans hx327_3; replace hx327_0 := (cell_far (p := ⟨gb325, 0, none⟩) zq36 (.int .i64 ((rd_T39 l1 x24_1).f0))).trans hx327_0; replace hx327_1 := (cell_far (p := ⟨gb325, 0, none⟩) zq36 (.int .i64 ((rd_T39 l1 x24_1).f0))).trans hx327_1; replace hx327_2 := (cell_far (p := ⟨gb325, 0, none⟩) zq36 (.int .i64 ((rd_T39 l1 x24_1).f0))).trans hx327_2; replace hx327_3 := (cell_far (p := ⟨gb325, 0, none⟩) zq36 (.int .i64 ((rd_T39 l1 x24_1).f0))).trans hx327_3; replace hx327_0 := (cell_far (p := ⟨gb325, 1, none⟩) zq37 (.int .i64 ((rd_T39 l1 x24_1).f1))).trans hx327_0; replace hx327_1 := (cell_far (p := ⟨gb325, 1, none⟩) zq37 (.int .i64 ((rd_T39 l1 x24_1).f1))).trans hx327_1; replace hx327_2 := (cell_far (p := ⟨gb325, 1, none⟩) zq37 (.int .i64 ((rd_T39 l1 x24_1).f1))).trans hx327_2; replace hx327_3 := (cell_far (p := ⟨gb325, 1, none⟩) zq37 (.int .i64 ((rd_T39 l1 x24_1).f1))).trans hx327_3; clear hn327_0; clear hn327_1; replace p327 := eq_true p327; replace q327 := eq_true q327)));(go_roundg k1)
             case measure => have := HK1.out; omega
             case rel => exact ⟨(x9_1), (wrap64 (x24_1 + 1)), zq46, H', ⟨zq56⟩, ⟨zq3⟩, ⟨zq72⟩⟩
           ·rw [if_neg c18] at H
            exact absurd H (by simp)
          ·rw [if_neg c17] at H
           exact absurd H (by simp)
         ·rw [if_neg c16] at H
          (have c16b0 : decide (((rd_T53 l0 ((rd_T39 l1 x24_1).f0)).f1) ≤ a2) = false := decide_eq_false c16);clear c16;(have H' := Aside0.mk H);clear H;(have p324 : 0 ≤ (x24_1 : Int) := of_decide_eq_true zq39);(have q324 : x24_1 < (l1.length : Int) := of_decide_eq_true zq39);(obtain ⟨ad324, e324, hx324_0, hx324_1⟩ := at_T39 HR1.out x24_1 p324 q324)
          cases e324
          (replace hx324_0 := (HB.out.cell (World.block_lt_of_cell? w _ hx324_0)).trans hx324_0);(replace hx324_1 := (HB.out.cell (World.block_lt_of_cell? w _ hx324_1)).trans hx324_1);(replace p324 := eq_true p324);(replace q324 := eq_true q324);(go_wp2_with (first | ((with_reducible refine gate_dst (N := 11) rfl ?_); refine box_event ?hg (N := 11) ?hd (cs := #[.int .i64 0, .int .i64 0]) (t := 39) ?hr ?_; (case hd => rfl); (case hg => rfl); (case hr => first | (go_simp; done) | (go_simp; rfl)); intro gb325 hg w26 hbox hb; have n0_ := Aside0.mk (Kd.R_below (Kd.R_elderB (zR HO_9.out) gb325 (Nat.le_of_eq hg.symm)) hb); have n1_ := Aside0.mk (below_step zq79 hb); have n2_ := Aside0.mk (hbox); have n3_ := Aside0.mk ((zq111 : w.heap.size ≤ gb325)); have n4_ := Aside0.mk ((zq111 : w.heap.size ≤ gb325)); clear HO_9; clear HB; have HO_9 := n0_; have HB := n1_; have BK325 := n2_; have GW325 := n3_; have GE325 := n4_; clear n0_ n1_ n2_ n3_ n4_; clear hb hbox hg; have hcz27_0 : w26.cell? ⟨gb325, 0, none⟩ = some (.int .i64 0) := (blk_cell BK325.out 0).trans rfl; have hcz27_1 : w26.cell? ⟨gb325, 1, none⟩ = some (.int .i64 0) := (blk_cell BK325.out 1).trans rfl; have hfz27_0 := blk_frozen BK325.out 0; have hfz27_1 := blk_frozen BK325.out 1; have p326 : 0 ≤ (((rd_T39 l1 x24_1).f0) : Int) := of_decide_eq_true zq39; have q326 : ((rd_T39 l1 x24_1).f0) < (l0.length : Int) := of_decide_eq_true zq39; obtain ⟨ad326, e326, hx326_0, hx326_1, hx326_2, hx326_3⟩ := at_T53 HR0.out ((rd_T39 l1 x24_1).f0) p326 q326; cases e326; have hn326_0 : ad326.block ≠ gb325 := Nat.ne_of_lt (Nat.lt_of_lt_of_le zq57 GW325.out); have hn326_1 : ad326.block ≠ gb325 := Nat.ne_of_lt (Nat.lt_of_lt_of_le zq57 GW325.out); replace hx326_0 := (HB.out.cell (World.block_lt_of_cell? w _ hx326_0)).trans hx326_0; replace hx326_1 := (HB.out.cell (World.block_lt_of_cell? w _ hx326_1)).trans hx326_1; replace hx326_2 := (HB.out.cell (World.block_lt_of_cell? w _ hx326_2)).trans hx326_2; replace hx326_3 := (HB.out.cell (World.block_lt_of_cell? w _ hx326_3)).trans hx326_3; replace hx326_0 := (cell_far (p := ⟨gb325, 0, none⟩) zq34 (.int .i64 ((rd_T39 l1 x24_1).f0))).trans hx326_0; replace hx326_1 := (cell_far (p := ⟨gb325, 0, none⟩) zq34 (.int .i64 ((rd_T39 l1 x24_1).f0))).trans hx326_1; replace hx326_2 := (cell_far (p := ⟨gb325, 0, none⟩) zq34 (.int .i64 ((rd_T39 l1 x24_1).f0))).trans hx326_2; replace hx326_3 := (cell_far (p := ⟨gb325, 0, none⟩) zq34 (.int .i64 ((rd_T39 l1 x24_1).f0))).trans hx326_3; replace hx326_0 := (cell_far (p := ⟨gb325, 1, none⟩) zq35 (.int .i64 ((rd_T39 l1 x24_1).f1))).trans hx326_0; replace hx326_1 := (cell_far (p := ⟨gb325, 1, none⟩) zq35 (.int .i64 ((rd_T39 l1 x24_1).f1))).trans hx326_1; replace hx326_2 := (cell_far (p := ⟨gb325, 1, none⟩) zq35 (.int .i64 ((rd_T39 l1 x24_1).f1))).trans hx326_2; replace hx326_3 := (cell_far (p := ⟨gb325, 1, none⟩) zq35 (.int .i64 ((rd_T39 l1 x24_1).f1))).trans hx326_3; clear hn326_0; clear hn326_1; replace p326 := eq_true p326; replace q326 := eq_true q326)));(go_roundg k1)
          case measure => have := HK1.out; omega
          case rel => exact ⟨(x9_1), (wrap64 (x24_1 + 1)), zq46, H', ⟨zq56⟩, ⟨zq3⟩, ⟨zq72⟩⟩
        ·rw [if_neg c15] at H
         exact absurd H (by simp)
       ·rw [if_neg c14] at H
        exact absurd H (by simp)
      ·rw [if_neg c13] at H
       exact absurd H (by simp)
     ·rw [if_neg c12] at H
      exact absurd H (by simp)
    ·rw [if_neg c11] at H
     (have c11b0 : decide (x24_1 < (l1.length : Int)) = false := decide_eq_false c11);clear c11;(simp only [Option.some.injEq, Prod.mk.injEq] at H);(obtain ⟨rfl, rfl⟩ := H);(go_wp2);(go_ret2);(exact ⟨_, zq43, zR HO_9.out, zq79⟩)
 ·rw [if_neg c7] at H
  (have c7b0 : (t320 == 0) = false := beq_eq_false_iff_ne.mpr c7);(have c7b1 : (t320 != 0) = true := bne_iff_ne.mpr c7);(simp only [Option.some.injEq, Prod.mk.injEq] at H);(obtain ⟨rfl, rfl⟩ := H)
  go_enter Tryz.func6, Tryz.ntmps6
  (go_wp2_with (first | ((with_reducible refine gate_callee (f := 24) rfl ?_); refine goesL_ (some 14) rfl rfl Tryz.func24 (by kernel_rfl) rfl #[.slice A0 l0.length c0, .slice A1 l1.length c1] rfl zq0 ?_; (with_reducible refine (impl_ValidFigure.calls k _ _ l0 _ _ l1 t318 _ ?side1 ?side2 ?side3 ?side4 A4.out).mono ?_); (case side1 => exact zq109); (case side2 => exact HC0.out); (case side3 => exact zq110); (case side4 => exact HC1.out); rintro e w28 ⟨rfl, hb⟩; refine ⟨_, rfl, ?_⟩; have n0_ := Aside0.mk (below_step zq79 hb); clear HB; have HB := n0_; clear n0_; (try clear hb); (try clear hb2); (try clear hk); (try clear hi)) | ((with_reducible refine gate_callee (f := 25) rfl ?_); refine goesL_ (some 16) rfl rfl Tryz.func25 (by kernel_rfl) rfl #[.int .i64 a2] rfl zq0 ?_; (with_reducible refine (impl_isClass.calls a2 t319 _ A5.out).mono ?_); rintro e w' ⟨rfl, ⟨nd, rfl⟩⟩; refine ⟨_, rfl, ?_⟩) | ((with_reducible refine gate_callee (f := 23) rfl ?_); refine goesL_ (some 17) rfl rfl Tryz.func23 (by kernel_rfl) rfl #[.bool t318, .bool t319] rfl zq0 ?_; (with_reducible refine (impl_check.calls t318 t319 t320 _ A6.out).mono ?_); rintro e w' ⟨rfl, ⟨nd, rfl⟩⟩; refine ⟨_, rfl, ?_⟩)));(go_ret2);(exact ⟨_, zq43, zq40, zq79⟩)

/-! ### spec_l00In: function 27 -/
def spec_l00In.f (a0 : Int) (a1 : Int) (a2 : Int) : Option (Bool) := if a0 ≥ a1 then (some (decide (a0 ≤ a2))) else (some false)
theorem spec_l00In.calls (a0 : Int) (a1 : Int) (a2 : Int) (r : Bool) (w : World) (h : spec_l00In.f a0 a1 a2 = some r) :
  Calls Tryz.prog 27 #[.int .i64 a0, .int .i64 a1, .int .i64 a2] w fun e w' => e = .returned (.bool r) ∧ Drawn0 w w' := by
 (have H : (if a0 ≥ a1 then (some (decide (a0 ≤ a2))) else (some false)) = some r := h);clear h;(by_cases c4 : a0 ≥ a1)
 ·rw [if_pos c4] at H
  (have c4b0 : decide (a1 ≤ a0) = true := decide_eq_true c4);clear c4;(obtain rfl := Option.some.inj H)
  go_enter Tryz.func27, Tryz.ntmps27
  (go_wp2);(go_ret);(exact ⟨zq46, zq108⟩)
 ·rw [if_neg c4] at H
  (have c4b0 : decide (a1 ≤ a0) = false := decide_eq_false c4);clear c4;(obtain rfl := Option.some.inj H)
  go_enter Tryz.func27, Tryz.ntmps27
  (go_wp2);(go_ret);(exact ⟨zq46, zq108⟩)

/-! ### spec_l01Small: function 68 -/
def spec_l01Small.f (a0 : Int) : Option (Bool) := if a0 ≥ 97 then (some (decide (a0 ≤ 122))) else (some false)
theorem spec_l01Small.calls (a0 : Int) (r : Bool) (w : World) (h : spec_l01Small.f a0 = some r) :
  Calls Tryz.prog 68 #[.int .u8 a0] w fun e w' => e = .returned (.bool r) ∧ Drawn0 w w' := by
 (have H : (if a0 ≥ 97 then (some (decide (a0 ≤ 122))) else (some false)) = some r := h);clear h;(by_cases c2 : a0 ≥ 97)
 ·rw [if_pos c2] at H
  (have c2b0 : decide (97 ≤ a0) = true := decide_eq_true c2);clear c2;(obtain rfl := Option.some.inj H)
  go_enter Tryz.func68, Tryz.ntmps68
  (go_wp2);(go_ret);(exact ⟨zq46, zq108⟩)
 ·rw [if_neg c2] at H
  (have c2b0 : decide (97 ≤ a0) = false := decide_eq_false c2);clear c2;(obtain rfl := Option.some.inj H)
  go_enter Tryz.func68, Tryz.ntmps68
  (go_wp2);(go_ret);(exact ⟨zq46, zq108⟩)

/-! ### spec_l01Digit: function 69 -/
def spec_l01Digit.f (a0 : Int) : Option (Bool) := if a0 ≥ 48 then (some (decide (a0 ≤ 57))) else (some false)
theorem spec_l01Digit.calls (a0 : Int) (r : Bool) (w : World) (h : spec_l01Digit.f a0 = some r) :
  Calls Tryz.prog 69 #[.int .u8 a0] w fun e w' => e = .returned (.bool r) ∧ Drawn0 w w' := by
 (have H : (if a0 ≥ 48 then (some (decide (a0 ≤ 57))) else (some false)) = some r := h);clear h;(by_cases c2 : a0 ≥ 48)
 ·rw [if_pos c2] at H
  (have c2b0 : decide (48 ≤ a0) = true := decide_eq_true c2);clear c2;(obtain rfl := Option.some.inj H)
  go_enter Tryz.func69, Tryz.ntmps69
  (go_wp2);(go_ret);(exact ⟨zq46, zq108⟩)
 ·rw [if_neg c2] at H
  (have c2b0 : decide (48 ≤ a0) = false := decide_eq_false c2);clear c2;(obtain rfl := Option.some.inj H)
  go_enter Tryz.func69, Tryz.ntmps69
  (go_wp2);(go_ret);(exact ⟨zq46, zq108⟩)

/-! ### spec_IsName: function 63 -/
mutual
def spec_IsName.j0 : Nat → ByteArray → Bool → Option (Bool)
 | 0, _, _ => none
 | k + 1, x0, x16 => if x16 = true then (some false) else (spec_IsName.l0 k x0 0)
def spec_IsName.l0 : Nat → ByteArray → Int → Option (Bool)
 | 0, _, _ => none
 | k + 1, x0, x3 => if x3 < (x0.size : Int) then (if 0 ≤ x3 then ((spec_l01Small.f (bt x0 x3)).bind fun t332 => (if t332 = true then (spec_IsName.l0 k x0 (wrap64 (x3 + 1))) else ((spec_l01Digit.f (bt x0 x3)).bind fun t333 => (if t333 = true then (spec_IsName.l0 k x0 (wrap64 (x3 + 1))) else (if (bt x0 x3) = 45 then (spec_IsName.l0 k x0 (wrap64 (x3 + 1))) else (some false)))))) else (none)) else (some true)
end
def spec_IsName.f (k : Nat) (a0 : ByteArray) : Option (Bool) := if a0.toList = ([] : List UInt8) then (spec_IsName.j0 k a0 true) else (if (a0.size : Int) > 12 then (spec_IsName.j0 k a0 true) else (if 0 < (a0.size : Int) then ((spec_l01Small.f (bt a0 0)).bind fun t331 => (spec_IsName.j0 k a0 (!t331))) else (none)))
theorem spec_IsName.mono_l : ∀ k, (∀ y0 y1, LeO (spec_IsName.j0 k y0 y1) (spec_IsName.j0 (k + 1) y0 y1)) ∧ (∀ y0 y1, LeO (spec_IsName.l0 k y0 y1) (spec_IsName.l0 (k + 1) y0 y1))
 | 0 => ⟨fun _ _ r h => by simp [spec_IsName.j0] at h, fun _ _ r h => by simp [spec_IsName.l0] at h⟩
 | k + 1 => by
  (obtain ⟨ih0, ih1⟩ := spec_IsName.mono_l k);(refine ⟨?_, ?_⟩)
  ·intro y0 y1
   unfold spec_IsName.j0
   repeat' first | with_reducible (first | exact ih0 _ _ | exact ih1 _ _ | exact LeO.refl _ | exact LeO.none _ | refine LeO.ite ?_ ?_ | refine LeO.bind ?_ (fun _ => ?_)) | exact ih0 _ _ | exact ih1 _ _ | exact LeO.none _ | refine LeO.ite ?_ ?_ | refine LeO.bind ?_ (fun _ => ?_)
  ·intro y0 y1
   unfold spec_IsName.l0
   repeat' first | with_reducible (first | exact ih0 _ _ | exact ih1 _ _ | exact LeO.refl _ | exact LeO.none _ | refine LeO.ite ?_ ?_ | refine LeO.bind ?_ (fun _ => ?_)) | exact ih0 _ _ | exact ih1 _ _ | exact LeO.none _ | refine LeO.ite ?_ ?_ | refine LeO.bind ?_ (fun _ => ?_)
theorem spec_IsName.mono : ∀ a0 k, LeO (spec_IsName.f k a0) (spec_IsName.f (k + 1) a0) := by
 intro a0 k;(obtain ⟨ih0, ih1⟩ := spec_IsName.mono_l k);(unfold spec_IsName.f)
 repeat' first | with_reducible (first | exact ih0 _ _ | exact ih1 _ _ | exact LeO.refl _ | exact LeO.none _ | refine LeO.ite ?_ ?_ | refine LeO.bind ?_ (fun _ => ?_)) | exact ih0 _ _ | exact ih1 _ _ | exact LeO.none _ | refine LeO.ite ?_ ?_ | refine LeO.bind ?_ (fun _ => ?_)
theorem spec_IsName.calls (k : Nat) (a0 : ByteArray) (r : Bool) (w : World) (h : spec_IsName.f k a0 = some r) :
  Calls Tryz.prog 63 #[.string a0] w fun e w' => e = .returned (.bool r) ∧ Drawn0 w w' := by
 (have H : (if a0.toList = ([] : List UInt8) then (spec_IsName.j0 k a0 true) else (if (a0.size : Int) > 12 then (spec_IsName.j0 k a0 true) else (if 0 < (a0.size : Int) then ((spec_l01Small.f (bt a0 0)).bind fun t331 => (spec_IsName.j0 k a0 (!t331))) else (none)))) = some r := h);clear h;(have HC2 := Aside0.mk H);clear H
 go_enter Tryz.func63, Tryz.ntmps63
 go_upto_region 1 with (fail)
 go_cut [16] (fun v16 wc => ∃ (kq : Nat) (x16_1 : Bool), v16 = .bool x16_1 ∧ Aside0 (spec_IsName.j0 kq a0 x16_1 = some r) ∧ Aside0 (kq ≤ k) ∧ Drawn0 w wc)
 case first =>
  (have H := HC2.out);clear HC2;(by_cases c3 : a0.toList = ([] : List UInt8))
  ·rw [if_pos c3] at H
   (have c3b0 : (a0.toList == ([] : List UInt8)) = true := beq_iff_eq.mpr c3);(have c3b1 : (a0.toList != ([] : List UInt8)) = false := bne_eq_false_iff_eq.mpr c3);clear c3;((first | rw [c3b0] | (simp only [i64_w, i32_w]; rw [c3b0]) | skip));(have H' := Aside0.mk H);clear H;(go_wp2)
   go_meet
   case rel => exact ⟨_, (true), zq46, H', ⟨zq42⟩, zq108⟩
  ·rw [if_neg c3] at H
   (have c3b0 : (a0.toList == ([] : List UInt8)) = false := beq_eq_false_iff_ne.mpr c3);(have c3b1 : (a0.toList != ([] : List UInt8)) = true := bne_iff_ne.mpr c3);((first | rw [c3b0] | (simp only [i64_w, i32_w]; rw [c3b0]) | skip));(by_cases c4 : (a0.size : Int) > 12)
   ·rw [if_pos c4] at H
    (have c4b0 : decide (12 < (a0.size : Int)) = true := decide_eq_true c4);(have c4b1 : decide (12 < a0.size) = true := decide_eq_true (by omega));clear c4;(have H' := Aside0.mk H);clear H;(go_wp2)
    go_meet
    case rel => exact ⟨_, (true), zq46, H', ⟨zq42⟩, zq108⟩
   ·rw [if_neg c4] at H
    (have c4b0 : decide (12 < (a0.size : Int)) = false := decide_eq_false c4);(have c4b1 : decide (12 < a0.size) = false := decide_eq_false (by omega));clear c4;(by_cases c5 : 0 < (a0.size : Int))
    ·rw [if_pos c5] at H
     (have c5b0 : decide (0 < (a0.size : Int)) = true := decide_eq_true c5);(have c5b1 : decide (0 < a0.size) = true := decide_eq_true (by omega));clear c5;(replace H := Option.bind_eq_some_iff.mp H);(obtain ⟨t331, A70, H⟩ := H);(replace H : (spec_IsName.j0 k a0 (!t331)) = some r := H);(have A7 := Aside0.mk A70);clear A70;(have H' := Aside0.mk H);clear H;(have p6 : 0 ≤ (0 : Int) := (by omega));(have q6 : 0 < a0.size := (by have : (0 : Int) < (a0.size : Int) := of_decide_eq_true zq39; omega));(have hx6 : ∀ h : 0 < a0.size, ((a0[0]'h).toNat : Int) = bt a0 0 := bt_at a0 0);clear p6;(have qi6 : (0 < (a0.size : Int)) = True := eq_true (of_decide_eq_true zq39));(replace q6 := eq_true q6);(go_wp2_with (first | (go_at_call 68; (with_reducible refine (spec_l01Small.calls (bt a0 0) t331 _ A7.out).mono ?_); rintro e w' ⟨rfl, ⟨nd, rfl⟩⟩)))
     go_meet
     case rel => exact ⟨_, (!t331), zq46, H', ⟨zq42⟩, zq108⟩
    ·rw [if_neg c5] at H
     exact absurd H (by simp)
 case rest =>
  clear HC2;(try clear p2);(try clear c3);(try clear c3b0);(try clear c3b1);(try clear c4);(try clear c4b0);(try clear c4b1);(try clear c5);(try clear c5b0);(try clear c5b1);(try clear c6);(try clear p6);(try clear q6);(try clear hx6);(try clear qi6);(try clear p6);(try clear q6);(obtain ⟨kq, x16_1, rfl, HA, HJ1, ⟨mc1, rfl⟩⟩ := hcut)
  cases kq with
  | zero => exact absurd HA.out (by simp [spec_IsName.j0])
  | succ kj1 =>
   (have H := HA.out);clear HA;(simp only [spec_IsName.j0] at H);(by_cases c8 : x16_1 = true)
   ·subst c8
    (have H1 : (some false) = some r := zq118);clear H;(have H := H1);clear H1;(obtain rfl := Option.some.inj H);(go_wp2);(go_ret);(exact ⟨zq46, zq108⟩)
   ·replace c8 := Bool.eq_false_iff.mpr c8
    subst c8;(have H1 : (spec_IsName.l0 kj1 a0 0) = some r := zq117);clear H;(have H := H1);clear H1;(have H' := Aside0.mk H);clear H;(go_wp2)
    go_loopg [3] kj1 (fun kq v3 w' => ∃ (x3_2 : Int), v3 = .int .i64 x3_2 ∧ Aside0 (spec_IsName.l0 kq a0 x3_2 = some r) ∧ Aside0 (kq ≤ kj1) ∧ Drawn0 w w')
    case atStart => exact ⟨(0), zq46, H', ⟨Nat.le_refl _⟩, zq108⟩
    case round =>
     clear H';(try clear c1);(try clear p2);(try clear c3);(try clear c3b0);(try clear c3b1);(try clear c4);(try clear c4b0);(try clear c4b1);(try clear c5);(try clear c5b0);(try clear c5b1);(try clear c6);(try clear p6);(try clear q6);(try clear hx6);(try clear qi6);(try clear c8);(try clear p2);(try clear p6);(try clear q6);(obtain ⟨x3_2, rfl, HA, HK2, ⟨m2, rfl⟩⟩ := hrel)
     cases gk with
     | zero => exact absurd HA.out (by simp [spec_IsName.l0])
     | succ k2 =>
      (have H := HA.out);clear HA;(simp only [spec_IsName.l0] at H);(by_cases c9 : x3_2 < (a0.size : Int))
      ·rw [if_pos c9] at H
       (have c9b0 : decide (x3_2 < (a0.size : Int)) = true := decide_eq_true c9);clear c9;(by_cases c10 : 0 ≤ x3_2)
       ·rw [if_pos c10] at H
        (have c10b0 : decide (0 ≤ x3_2) = true := decide_eq_true c10);clear c10;(replace H := Option.bind_eq_some_iff.mp H);(obtain ⟨t332, A120, H⟩ := H);(replace H : (if t332 = true then (spec_IsName.l0 k2 a0 (wrap64 (x3_2 + 1))) else ((spec_l01Digit.f (bt a0 x3_2)).bind fun t333 => (if t333 = true then (spec_IsName.l0 k2 a0 (wrap64 (x3_2 + 1))) else (if (bt a0 x3_2) = 45 then (spec_IsName.l0 k2 a0 (wrap64 (x3_2 + 1))) else (some false))))) = some r := H);(have A12 := Aside0.mk A120);clear A120;(by_cases c13 : t332 = true)
        ·subst c13
         (have H1 : (spec_IsName.l0 k2 a0 (wrap64 (x3_2 + 1))) = some r := zq118);clear H;(have H := H1);clear H1;(have H' := Aside0.mk H);clear H;(have p11 : 0 ≤ (x3_2 : Int) := of_decide_eq_true zq39);(have q11 : x3_2 < (a0.size : Int) := of_decide_eq_true zq39);(have hx11 := bt_at a0 x3_2);(replace p11 := eq_true p11);(replace q11 := eq_true q11);(go_wp2_with (first | ((with_reducible refine gate_callee (f := 68) rfl ?_); refine goesL_ (some 26) rfl rfl Tryz.func68 (by kernel_rfl) rfl #[.int .u8 (bt a0 x3_2)] rfl zq0 ?_; (with_reducible refine (spec_l01Small.calls (bt a0 x3_2) true _ A12.out).mono ?_); rintro e w' ⟨rfl, ⟨nd, rfl⟩⟩; refine ⟨_, rfl, ?_⟩)));(go_roundg k2)
         case measure => have := HJ1.out; have := HK2.out; omega
         case rel => exact ⟨(wrap64 (x3_2 + 1)), zq46, H', ⟨zq48⟩, zq108⟩
        ·replace c13 := Bool.eq_false_iff.mpr c13
         subst c13;(have H1 : ((spec_l01Digit.f (bt a0 x3_2)).bind fun t333 => (if t333 = true then (spec_IsName.l0 k2 a0 (wrap64 (x3_2 + 1))) else (if (bt a0 x3_2) = 45 then (spec_IsName.l0 k2 a0 (wrap64 (x3_2 + 1))) else (some false)))) = some r := zq117);clear H;(have H := H1);clear H1;(replace H := Option.bind_eq_some_iff.mp H);(obtain ⟨t333, A150, H⟩ := H);(replace H : (if t333 = true then (spec_IsName.l0 k2 a0 (wrap64 (x3_2 + 1))) else (if (bt a0 x3_2) = 45 then (spec_IsName.l0 k2 a0 (wrap64 (x3_2 + 1))) else (some false))) = some r := H);(have A15 := Aside0.mk A150);clear A150;(by_cases c16 : t333 = true)
         ·subst c16
          (have H1 : (spec_IsName.l0 k2 a0 (wrap64 (x3_2 + 1))) = some r := zq118);clear H;(have H := H1);clear H1;(have H' := Aside0.mk H);clear H;(have p11 : 0 ≤ (x3_2 : Int) := of_decide_eq_true zq39);(have q11 : x3_2 < (a0.size : Int) := of_decide_eq_true zq39);(have hx11 := bt_at a0 x3_2);(replace p11 := eq_true p11);(replace q11 := eq_true q11);(go_wp2_with (first | ((with_reducible refine gate_callee (f := 68) rfl ?_); refine goesL_ (some 26) rfl rfl Tryz.func68 (by kernel_rfl) rfl #[.int .u8 (bt a0 x3_2)] rfl zq0 ?_; (with_reducible refine (spec_l01Small.calls (bt a0 x3_2) false _ A12.out).mono ?_); rintro e w' ⟨rfl, ⟨nd, rfl⟩⟩; refine ⟨_, rfl, ?_⟩; have p14 : 0 ≤ (x3_2 : Int) := of_decide_eq_true zq39; have q14 : x3_2 < (a0.size : Int) := of_decide_eq_true zq39; have hx14 := bt_at a0 x3_2; replace p14 := eq_true p14; replace q14 := eq_true q14) | (go_at_call 69; (with_reducible refine (spec_l01Digit.calls (bt a0 x3_2) true _ A15.out).mono ?_); rintro e w' ⟨rfl, ⟨nd, rfl⟩⟩)));(go_roundg k2)
          case measure => have := HJ1.out; have := HK2.out; omega
          case rel => exact ⟨(wrap64 (x3_2 + 1)), zq46, H', ⟨zq48⟩, zq108⟩
         ·replace c16 := Bool.eq_false_iff.mpr c16
          subst c16;(have H1 : (if (bt a0 x3_2) = 45 then (spec_IsName.l0 k2 a0 (wrap64 (x3_2 + 1))) else (some false)) = some r := zq117);clear H;(have H := H1);clear H1;(by_cases c18 : (bt a0 x3_2) = 45)
          ·rw [if_pos c18] at H
           (have c18b0 : ((bt a0 x3_2) == 45) = true := beq_iff_eq.mpr c18);(have c18b1 : ((bt a0 x3_2) != 45) = false := bne_eq_false_iff_eq.mpr c18);clear c18;(have H' := Aside0.mk H);clear H;(have p11 : 0 ≤ (x3_2 : Int) := of_decide_eq_true zq39);(have q11 : x3_2 < (a0.size : Int) := of_decide_eq_true zq39);(have hx11 := bt_at a0 x3_2);(replace p11 := eq_true p11);(replace q11 := eq_true q11);(go_wp2_with (first | ((with_reducible refine gate_callee (f := 68) rfl ?_); refine goesL_ (some 26) rfl rfl Tryz.func68 (by kernel_rfl) rfl #[.int .u8 (bt a0 x3_2)] rfl zq0 ?_; (with_reducible refine (spec_l01Small.calls (bt a0 x3_2) false _ A12.out).mono ?_); rintro e w' ⟨rfl, ⟨nd, rfl⟩⟩; refine ⟨_, rfl, ?_⟩; have p14 : 0 ≤ (x3_2 : Int) := of_decide_eq_true zq39; have q14 : x3_2 < (a0.size : Int) := of_decide_eq_true zq39; have hx14 := bt_at a0 x3_2; replace p14 := eq_true p14; replace q14 := eq_true q14) | (go_at_call 69; (with_reducible refine (spec_l01Digit.calls (bt a0 x3_2) false _ A15.out).mono ?_); rintro e w' ⟨rfl, ⟨nd, rfl⟩⟩; have p17 : 0 ≤ (x3_2 : Int) := of_decide_eq_true zq39; have q17 : x3_2 < (a0.size : Int) := of_decide_eq_true zq39; have hx17 := bt_at a0 x3_2; replace p17 := eq_true p17; replace q17 := eq_true q17)));(go_roundg k2)
           case measure => have := HJ1.out; have := HK2.out; omega
           case rel => exact ⟨(wrap64 (x3_2 + 1)), zq46, H', ⟨zq48⟩, zq108⟩
          ·rw [if_neg c18] at H
           (have c18b0 : ((bt a0 x3_2) == 45) = false := beq_eq_false_iff_ne.mpr c18);(have c18b1 : ((bt a0 x3_2) != 45) = true := bne_iff_ne.mpr c18);(obtain rfl := Option.some.inj H);(have p11 : 0 ≤ (x3_2 : Int) := of_decide_eq_true zq39);(have q11 : x3_2 < (a0.size : Int) := of_decide_eq_true zq39);(have hx11 := bt_at a0 x3_2);(replace p11 := eq_true p11);(replace q11 := eq_true q11);(go_wp2_with (first | ((with_reducible refine gate_callee (f := 68) rfl ?_); refine goesL_ (some 26) rfl rfl Tryz.func68 (by kernel_rfl) rfl #[.int .u8 (bt a0 x3_2)] rfl zq0 ?_; (with_reducible refine (spec_l01Small.calls (bt a0 x3_2) false _ A12.out).mono ?_); rintro e w' ⟨rfl, ⟨nd, rfl⟩⟩; refine ⟨_, rfl, ?_⟩; have p14 : 0 ≤ (x3_2 : Int) := of_decide_eq_true zq39; have q14 : x3_2 < (a0.size : Int) := of_decide_eq_true zq39; have hx14 := bt_at a0 x3_2; replace p14 := eq_true p14; replace q14 := eq_true q14) | (go_at_call 69; (with_reducible refine (spec_l01Digit.calls (bt a0 x3_2) false _ A15.out).mono ?_); rintro e w' ⟨rfl, ⟨nd, rfl⟩⟩; have p17 : 0 ≤ (x3_2 : Int) := of_decide_eq_true zq39; have q17 : x3_2 < (a0.size : Int) := of_decide_eq_true zq39; have hx17 := bt_at a0 x3_2; replace p17 := eq_true p17; replace q17 := eq_true q17)));(go_ret);(exact ⟨zq46, zq108⟩)
       ·rw [if_neg c10] at H
        exact absurd H (by simp)
      ·rw [if_neg c9] at H
       (have c9b0 : decide (x3_2 < (a0.size : Int)) = false := decide_eq_false c9);clear c9;(obtain rfl := Option.some.inj H);(go_wp2);(go_ret);(exact ⟨zq46, zq108⟩)

/-! ### spec_l02Ok: function 64 -/
def spec_l02Ok.f (a0_0 : Int) (a0_1 : Int) : Option (Bool) := (spec_l00In.f a0_0 (-324000) 324000).bind fun t335 => (if t335 = true then ((spec_l00In.f a0_1 (-648000) 647999).bind fun t336 => (some t336)) else (some false))
theorem spec_l02Ok.calls (a0_0 : Int) (a0_1 : Int) (r : Bool) (w : World) (h : spec_l02Ok.f a0_0 a0_1 = some r) :
  Calls Tryz.prog 64 #[.agg #[.int .i64 a0_0, .int .i64 a0_1]] w fun e w' => e = .returned (.bool r) ∧ Below w.heap.size w w' := by
 (have hu51 := Tryz.underlying51);(have HB := Aside0.mk (Below.refl w.heap.size w));(have H : ((spec_l00In.f a0_0 (-324000) 324000).bind fun t335 => (if t335 = true then ((spec_l00In.f a0_1 (-648000) 647999).bind fun t336 => (some t336)) else (some false))) = some r := h);clear h;(replace H := Option.bind_eq_some_iff.mp H);(obtain ⟨t335, A20, H⟩ := H);(replace H : (if t335 = true then ((spec_l00In.f a0_1 (-648000) 647999).bind fun t336 => (some t336)) else (some false)) = some r := H);(have A2 := Aside0.mk A20);clear A20;(by_cases c3 : t335 = true)
 ·subst c3
  (have H1 : ((spec_l00In.f a0_1 (-648000) 647999).bind fun t336 => (some t336)) = some r := zq118);clear H;(have H := H1);clear H1;(replace H := Option.bind_eq_some_iff.mp H);(obtain ⟨t336, A40, H⟩ := H);(replace H : (some t336) = some r := H);(have A4 := Aside0.mk A40);clear A40;(obtain rfl := Option.some.inj H)
  go_enter Tryz.func64, Tryz.ntmps64
  (go_wp2_with (first | ((with_reducible refine gate_dst (N := 1) rfl ?_); refine box_event ?hg (N := 1) ?hd (cs := #[.int .i64 a0_0, .int .i64 a0_1]) (t := 51) ?hr ?_; (case hd => rfl); (case hg => rfl); (case hr => first | (go_simp; done) | (go_simp; rfl)); intro gb334 hg w5 hbox hb; have n0_ := Aside0.mk (below_step zq79 hb); have n1_ := Aside0.mk (hbox); have n2_ := Aside0.mk ((zq111 : w.heap.size ≤ gb334)); have n3_ := Aside0.mk ((zq111 : w.heap.size ≤ gb334)); clear HB; have HB := n0_; have BK334 := n1_; have GW334 := n2_; have GE334 := n3_; clear n0_ n1_ n2_ n3_; clear hb hbox hg; have hcz6_0 : w5.cell? ⟨gb334, 0, none⟩ = some (.int .i64 a0_0) := (blk_cell BK334.out 0).trans rfl; have hcz6_1 : w5.cell? ⟨gb334, 1, none⟩ = some (.int .i64 a0_1) := (blk_cell BK334.out 1).trans rfl; have hfz6_0 := blk_frozen BK334.out 0; have hfz6_1 := blk_frozen BK334.out 1) | ((with_reducible refine gate_callee (f := 27) rfl ?_); refine goesL_ (some 5) rfl rfl Tryz.func27 (by kernel_rfl) rfl #[.int .i64 a0_0, .int .i64 (-324000), .int .i64 324000] rfl zq0 ?_; (with_reducible refine (spec_l00In.calls a0_0 (-324000) 324000 true _ A2.out).mono ?_); rintro e w' ⟨rfl, ⟨nd, rfl⟩⟩; refine ⟨_, rfl, ?_⟩) | (go_at_call 27; (with_reducible refine (spec_l00In.calls a0_1 (-648000) 647999 t336 _ A4.out).mono ?_); rintro e w' ⟨rfl, ⟨nd, rfl⟩⟩)));(go_ret);(exact ⟨zq43, zq73⟩)
 ·replace c3 := Bool.eq_false_iff.mpr c3
  subst c3;(have H1 : (some false) = some r := zq117);clear H;(have H := H1);clear H1;(obtain rfl := Option.some.inj H)
  go_enter Tryz.func64, Tryz.ntmps64
  (go_wp2_with (first | ((with_reducible refine gate_dst (N := 1) rfl ?_); refine box_event ?hg (N := 1) ?hd (cs := #[.int .i64 a0_0, .int .i64 a0_1]) (t := 51) ?hr ?_; (case hd => rfl); (case hg => rfl); (case hr => first | (go_simp; done) | (go_simp; rfl)); intro gb334 hg w7 hbox hb; have n0_ := Aside0.mk (below_step zq79 hb); have n1_ := Aside0.mk (hbox); have n2_ := Aside0.mk ((zq111 : w.heap.size ≤ gb334)); have n3_ := Aside0.mk ((zq111 : w.heap.size ≤ gb334)); clear HB; have HB := n0_; have BK334 := n1_; have GW334 := n2_; have GE334 := n3_; clear n0_ n1_ n2_ n3_; clear hb hbox hg; have hcz8_0 : w7.cell? ⟨gb334, 0, none⟩ = some (.int .i64 a0_0) := (blk_cell BK334.out 0).trans rfl; have hcz8_1 : w7.cell? ⟨gb334, 1, none⟩ = some (.int .i64 a0_1) := (blk_cell BK334.out 1).trans rfl; have hfz8_0 := blk_frozen BK334.out 0; have hfz8_1 := blk_frozen BK334.out 1) | ((with_reducible refine gate_callee (f := 27) rfl ?_); refine goesL_ (some 5) rfl rfl Tryz.func27 (by kernel_rfl) rfl #[.int .i64 a0_0, .int .i64 (-324000), .int .i64 324000] rfl zq0 ?_; (with_reducible refine (spec_l00In.calls a0_0 (-324000) 324000 false _ A2.out).mono ?_); rintro e w' ⟨rfl, ⟨nd, rfl⟩⟩; refine ⟨_, rfl, ?_⟩)));(go_ret);(exact ⟨zq43, zq73⟩)

/-! ### spec_l16One: function 55 -/
-- given by hand
def spec_l16One.f (k : Nat) (f0 : ByteArray) (f1 : Int) (f2 : Int) (f3 : Int) : Option Bool := (spec_IsName.f k f0).bind fun t => (if t = true then ((spec_l00In.f f1 1 6).bind fun t => (if t = true then ((spec_l02Ok.f f2 f3).bind fun t => some t) else (some false))) else (some false))
theorem spec_l16One.callsP (a : Addr) (k : Nat) (f0 : ByteArray) (f1 : Int) (f2 : Int) (f3 : Int) (r : Bool) (w : World) (hx0 : w.cell? a = some (.string f0)) (hx1 : w.cell? ⟨a.block, a.off + 1, none⟩ = some (.int .i64 f1)) (hx2 : w.cell? ⟨a.block, a.off + 2, none⟩ = some (.int .i64 f2)) (hx3 : w.cell? ⟨a.block, a.off + 3, none⟩ = some (.int .i64 f3)) (h : spec_l16One.f k f0 f1 f2 f3 = some r) :
  Calls Tryz.prog 55 #[.pointer (some a)] w fun e w' => e = .returned (.bool r) ∧ Below w.heap.size w w' := by
 (have hx3b : w.cell? ⟨a.block, a.off + 2 + 1, none⟩ = some (.int .i64 f3) := hx3);(have H := h);clear h;(unfold spec_l16One.f at H);(obtain ⟨t0, B0, H⟩ := Option.bind_eq_some_iff.1 H);(have A0 := Aside0.mk B0);clear B0
 cases t0 with
 | false =>
  (obtain rfl := Option.some.inj (show some false = some r from H));clear H
  go_enter Tryz.func55, Tryz.ntmps55
  (go_wp2_with (first | (go_at_call 63; (with_reducible refine (spec_IsName.calls k f0 false _ A0.out).mono ?_); rintro e w' ⟨rfl, ⟨nd, rfl⟩⟩)));(go_ret);(exact ⟨rfl, Drawn0.below zq108⟩)
 | true =>
  (replace H : ((spec_l00In.f f1 1 6).bind fun t => (if t = true then ((spec_l02Ok.f f2 f3).bind fun t => some t) else (some false))) = some r := H);(obtain ⟨t1, B1, H⟩ := Option.bind_eq_some_iff.1 H);(have A1 := Aside0.mk B1);clear B1
  cases t1 with
  | false =>
   (obtain rfl := Option.some.inj (show some false = some r from H));clear H
   go_enter Tryz.func55, Tryz.ntmps55
   (go_wp2_with (first | (go_at_call 63; (with_reducible refine (spec_IsName.calls k f0 true _ A0.out).mono ?_); rintro e w' ⟨rfl, ⟨nd, rfl⟩⟩) | (go_at_call 27; (with_reducible refine (spec_l00In.calls f1 1 6 false _ A1.out).mono ?_); rintro e w' ⟨rfl, ⟨nd, rfl⟩⟩)));(go_ret);(exact ⟨rfl, Drawn0.below zq108⟩)
  | true =>
   (replace H : ((spec_l02Ok.f f2 f3).bind fun t => some t) = some r := H);(obtain ⟨t2, B2, H⟩ := Option.bind_eq_some_iff.1 H);(have A2 := Aside0.mk B2);clear B2;(obtain rfl := Option.some.inj H)
   go_enter Tryz.func55, Tryz.ntmps55
   (go_wp2_with (first | (go_at_call 63; (with_reducible refine (spec_IsName.calls k f0 true _ A0.out).mono ?_); rintro e w' ⟨rfl, ⟨nd, rfl⟩⟩) | (go_at_call 27; (with_reducible refine (spec_l00In.calls f1 1 6 true _ A1.out).mono ?_); rintro e w' ⟨rfl, ⟨nd, rfl⟩⟩) | (go_at_call 64; (with_reducible refine (spec_l02Ok.calls f2 f3 t2 _ A2.out).mono ?_); rintro e w' ⟨rfl, hb_⟩)));(go_ret);(exact ⟨rfl, below_step (by repeat (first | exact Below.refl _ _ | apply pw_below_drewN | apply below_drew1 | apply below_alloc)) hb_⟩)
theorem spec_l16One.mono : ∀ f0 f1 f2 f3 k, LeO (spec_l16One.f k f0 f1 f2 f3) (spec_l16One.f (k + 1) f0 f1 f2 f3) := by
 intro f0 f1 f2 f3 k;(unfold spec_l16One.f)
 repeat' first
 | (with_reducible exact LeO.refl _)
 | exact spec_IsName.mono _ _
 | (with_reducible refine LeO.ite ?_ ?_)
 | (with_reducible refine LeO.bind ?_ (fun _ => ?_))
 | exact LeO.refl _
 | refine LeO.ite ?_ ?_
 | refine LeO.bind ?_ (fun _ => ?_)

end Go.Proofs.YtdambdglgdaojaaGreatDoor.PFnFigures
