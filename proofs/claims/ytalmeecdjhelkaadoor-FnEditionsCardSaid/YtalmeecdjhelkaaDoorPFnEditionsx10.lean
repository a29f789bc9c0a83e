-- Made by a program of this session (gprint.py) out of the kit's print of the translation and texts of my own. SLIM
import Derived.Test.YtalmeecdjhelkaaDoorPFnEditionsx0
import Derived.Test.YtalmeecdjhelkaaDoorPFnEditionsx1
import Derived.Test.YtalmeecdjhelkaaDoorPFnEditionsx2
import Derived.Test.YtalmeecdjhelkaaDoorPFnEditionsx3
import Derived.Test.YtalmeecdjhelkaaDoorPFnEditionsx4
import Derived.Test.YtalmeecdjhelkaaDoorPFnEditionsx5
import Derived.Test.YtalmeecdjhelkaaDoorPFnEditionsx6
namespace Go.Proofs.YtalmeecdjhelkaaDoor.PFnEditions
open Go.RowKit Go.Proofs.YtalmeecdjhelkaaDoorW.PrintWords Go.Proofs.YtalmeecdjhelkaaDoorW.PrintLast Go.Proofs.YtalmeecdjhelkaaDoorW.PrintMore
set_option maxHeartbeats 64000000
set_option maxRecDepth 100000
attribute [local go_sem] max2_int min2_int max_two min_two max_three min_three max_four min_four   -- for this text's walks alone
set_option linter.unusedVariables false
set_option linter.unusedSimpArgs false

/-! ### impl_NearestEdition: function 47 -/
def impl_NearestEdition.l0 : Nat → List ByteArray → Int → Int → List (S64) → Int → Int → Option (Int × Int × Int)
 | 0, _, _, _, _, _, _ => none
 | k + 1, x1, x8, x9, x21, x22, x23 => if x23 < x22 then (if 0 ≤ x23 then (if x23 < (x21.length : Int) then ((impl_less.f k ((rd_T64 x21 x23).f1) x1).bind fun t334 => ((impl_less.f k x1 ((rd_T64 x21 x23).f1)).bind fun t337 => (if x8 < 0 then (impl_NearestEdition.l0 k x1 x23 (wrap64 ((t334.length : Int) + (t337.length : Int))) x21 x22 (wrap64 (x23 + 1))) else (if (wrap64 ((t334.length : Int) + (t337.length : Int))) < x9 then (impl_NearestEdition.l0 k x1 x23 (wrap64 ((t334.length : Int) + (t337.length : Int))) x21 x22 (wrap64 (x23 + 1))) else (impl_NearestEdition.l0 k x1 x8 x9 x21 x22 (wrap64 (x23 + 1))))))) else (none)) else (none)) else (if x8 < 0 then (some (0, 0, 3)) else (some (x8, x9, 0)))
def impl_NearestEdition.f (k : Nat) (l0 : List (S64)) (l1 : List ByteArray) : Option (Int × Int × Int) := (impl_ValidEditions.f k l0).bind fun t329 => ((impl_areShown.f k l1).bind fun t330 => ((impl_check.f t329 t330).bind fun t331 => (if t331 = 0 then (impl_NearestEdition.l0 k l1 (-1) 0 l0 (l0.length : Int) 0) else (some (0, 0, t331)))))
theorem impl_NearestEdition.mono_l : ∀ k, (∀ y0 y1 y2 y3 y4 y5, LeO (impl_NearestEdition.l0 k y0 y1 y2 y3 y4 y5) (impl_NearestEdition.l0 (k + 1) y0 y1 y2 y3 y4 y5))
 | 0 => fun _ _ _ _ _ _ r h => by simp [impl_NearestEdition.l0] at h
 | k + 1 => by
  have ih0 := impl_NearestEdition.mono_l k
  ·intro y0 y1 y2 y3 y4 y5
   unfold impl_NearestEdition.l0
   repeat' first | with_reducible (first | exact ih0 _ _ _ _ _ _ | exact impl_ValidEditions.mono _ _ | exact impl_areShown.mono _ _ | exact impl_less.mono _ _ _ | exact LeO.refl _ | exact LeO.none _ | refine LeO.ite ?_ ?_ | refine LeO.bind ?_ (fun _ => ?_)) | exact ih0 _ _ _ _ _ _ | exact impl_ValidEditions.mono _ _ | exact impl_areShown.mono _ _ | exact impl_less.mono _ _ _ | exact LeO.none _ | refine LeO.ite ?_ ?_ | refine LeO.bind ?_ (fun _ => ?_)
theorem impl_NearestEdition.mono : ∀ a0 a1 k, LeO (impl_NearestEdition.f k a0 a1) (impl_NearestEdition.f (k + 1) a0 a1) := by
 intro a0 a1 k;(have ih0 := impl_NearestEdition.mono_l k);(unfold impl_NearestEdition.f)
 repeat' first | with_reducible (first | exact ih0 _ _ _ _ _ _ | exact impl_ValidEditions.mono _ _ | exact impl_areShown.mono _ _ | exact impl_less.mono _ _ _ | exact LeO.refl _ | exact LeO.none _ | refine LeO.ite ?_ ?_ | refine LeO.bind ?_ (fun _ => ?_)) | exact ih0 _ _ _ _ _ _ | exact impl_ValidEditions.mono _ _ | exact impl_areShown.mono _ _ | exact impl_less.mono _ _ _ | exact LeO.none _ | refine LeO.ite ?_ ?_ | refine LeO.bind ?_ (fun _ => ?_)
def impl_NearestEdition.T8 : Bool × List (List Nat × List Nat) := (true, [([], []), ([0], [0]), ([], []), ([1, 2], [1, 2]), ([3], [3]), ([], []), ([], []), ([6], [6]), ([5, 7, 3], [5, 7]), ([8], [8]), ([4, 9], [4, 9]), ([10, 8, 0, 1, 2, 3, 4, 5, 6, 7, 8, 9, 10], [10])])
def impl_NearestEdition.B8 : List Nat := [0, 1, 0, 7, 15, 0, 0, 64, 239, 495, 1023, 2047]
theorem impl_NearestEdition.tab8 : rtab .any (opsOf Tryd.f47 8) = impl_NearestEdition.T8 := by kernel_rfl
theorem impl_NearestEdition.bits8 : waitsOk impl_NearestEdition.T8.2 impl_NearestEdition.B8 = true := by kernel_rfl
theorem impl_NearestEdition.calls (k : Nat) (A0 : Option Addr) (c0 : Nat) (l0 : List (S64)) (A1 : Option Addr) (c1 : Nat) (l1 : List ByteArray) (r1 : Int) (r2 : Int) (r3 : Int) (w : World) (hr0 : Kd.C k64 w A0 l0.length l0) (hc0 : l0.length ≤ c0) (hr1 : Kd.C Kd.string w A1 l1.length l1) (hc1 : l1.length ≤ c1) (h : impl_NearestEdition.f k l0 l1 = some (r1, r2, r3)) :
  Calls Tryd.prog 47 #[.slice A0 l0.length c0, .slice A1 l1.length c1] w fun e w' => e = .returned (.tuple #[.int .i64 r1, .int .i64 r2, .int .i64 r3]) ∧ Below w.heap.size w w' := by
 (have hu64 := Tryd.underlying64);(have HR0 := Aside0.mk hr0);(have HC0 := Aside0.mk hc0);clear hr0 hc0;(have HR1 := Aside0.mk hr1);(have HC1 := Aside0.mk hc1);clear hr1 hc1;(have HB := Aside0.mk (Below.refl w.heap.size w));(have H : ((impl_ValidEditions.f k l0).bind fun t329 => ((impl_areShown.f k l1).bind fun t330 => ((impl_check.f t329 t330).bind fun t331 => (if t331 = 0 then (impl_NearestEdition.l0 k l1 (-1) 0 l0 (l0.length : Int) 0) else (some (0, 0, t331)))))) = some (r1, r2, r3) := h);clear h;(replace H := Option.bind_eq_some_iff.mp H);(obtain ⟨t329, A30, H⟩ := H);(replace H : ((impl_areShown.f k l1).bind fun t330 => ((impl_check.f t329 t330).bind fun t331 => (if t331 = 0 then (impl_NearestEdition.l0 k l1 (-1) 0 l0 (l0.length : Int) 0) else (some (0, 0, t331))))) = some (r1, r2, r3) := H);(have A3 := Aside0.mk A30);clear A30;(replace H := Option.bind_eq_some_iff.mp H);(obtain ⟨t330, A40, H⟩ := H);(replace H : ((impl_check.f t329 t330).bind fun t331 => (if t331 = 0 then (impl_NearestEdition.l0 k l1 (-1) 0 l0 (l0.length : Int) 0) else (some (0, 0, t331)))) = some (r1, r2, r3) := H);(have A4 := Aside0.mk A40);clear A40;(replace H := Option.bind_eq_some_iff.mp H);(obtain ⟨t331, A50, H⟩ := H);(replace H : (if t331 = 0 then (impl_NearestEdition.l0 k l1 (-1) 0 l0 (l0.length : Int) 0) else (some (0, 0, t331))) = some (r1, r2, r3) := H);(have A5 := Aside0.mk A50);clear A50;(by_cases c6 : t331 = 0)
 ·rw [if_pos c6] at H
  (have c6b0 : (t331 == 0) = true := beq_iff_eq.mpr c6);(have c6b1 : (t331 != 0) = false := bne_eq_false_iff_eq.mpr c6);clear c6;(have H' := Aside0.mk H);clear H
  go_enter Tryd.func47, Tryd.ntmps47
  go_wp2_with (first | ((with_reducible refine gate_callee (f := 58) rfl ?_); refine goesL_ (some 14) rfl rfl Tryd.func58 (by kernel_rfl) rfl #[.slice A0 l0.length c0] rfl zq1 ?_; (with_reducible refine (impl_ValidEditions.calls k _ _ l0 t329 _ ?side1 ?side2 A3.out).mono ?_); (case side1 => exact zq88); (case side2 => exact HC0.out); rintro e w7 ⟨rfl, hb⟩; refine ⟨_, rfl, ?_⟩; have n0_ := Aside0.mk (below_step zq55 hb); clear HB; have HB := n0_; clear n0_; (try clear hb); (try clear hb2); (try clear hk); (try clear hi)) | ((with_reducible refine gate_callee (f := 94) rfl ?_); refine goesL_ (some 16) rfl rfl Tryd.func94 (by kernel_rfl) rfl #[.slice A1 l1.length c1] rfl zq1 ?_; (with_reducible refine (impl_areShown.calls k _ _ l1 t330 _ ?side1 ?side2 A4.out).mono ?_); (case side1 => exact zq64); (case side2 => exact HC1.out); rintro e w8 ⟨rfl, hb⟩; refine ⟨_, rfl, ?_⟩; have n0_ := Aside0.mk (below_step zq55 hb); clear HB; have HB := n0_; clear n0_; (try clear hb); (try clear hb2); (try clear hk); (try clear hi)) | ((with_reducible refine gate_callee (f := 93) rfl ?_); refine goesL_ (some 17) rfl rfl Tryd.func93 (by kernel_rfl) rfl #[.bool t329, .bool t330] rfl zq1 ?_; (with_reducible refine (impl_check.calls t329 t330 t331 _ A5.out).mono ?_); rintro e w' ⟨rfl, ⟨nd, rfl⟩⟩; refine ⟨_, rfl, ?_⟩))
  go_loopg [8, 9, 23] k (fun kq v8 v9 v23 w' => ∃ (x8_1 : Int) (x9_1 : Int) (x23_1 : Int), v8 = .int .i64 x8_1 ∧ v9 = .int .i64 x9_1 ∧ v23 = .int .i64 x23_1 ∧ Aside0 (impl_NearestEdition.l0 kq l1 x8_1 x9_1 l0 (l0.length : Int) x23_1 = some (r1, r2, r3)) ∧ Aside0 (kq ≤ k) ∧ Aside0 (Below w.heap.size w w'))
  case atStart => exact ⟨((-1)), (0), (0), zq35, zq35, zq35, H', ⟨Nat.le_refl _⟩, ⟨zq55⟩⟩
  case round =>
   clear H';(try clear c1);(try clear p2);(try clear c4);(try clear c5);(try clear c6);(try clear c6b0);(try clear c6b1);(obtain ⟨x8_1, x9_1, x23_1, rfl, rfl, rfl, HA, HK1, HB⟩ := hrel)
   cases gk with
   | zero => exact absurd HA.out (by simp [impl_NearestEdition.l0])
   | succ k1 =>
    (have H := HA.out);clear HA;(simp only [impl_NearestEdition.l0] at H);(by_cases c9 : x23_1 < (l0.length : Int))
    ·rw [if_pos c9] at H
     (have c9b0 : decide (x23_1 < (l0.length : Int)) = true := decide_eq_true c9);clear c9;(by_cases c10 : 0 ≤ x23_1)
     ·rw [if_pos c10] at H
      (have c10b0 : decide (0 ≤ x23_1) = true := decide_eq_true c10);clear c10;(by_cases c11 : x23_1 < (l0.length : Int))
      ·rw [if_pos c11] at H
       (have c11b0 : decide (x23_1 < (l0.length : Int)) = true := decide_eq_true c11);clear c11;(replace H := Option.bind_eq_some_iff.mp H);(obtain ⟨t334, A120, H⟩ := H);(replace H : ((impl_less.f k1 l1 ((rd_T64 l0 x23_1).f1)).bind fun t337 => (if x8_1 < 0 then (impl_NearestEdition.l0 k1 l1 x23_1 (wrap64 ((t334.length : Int) + (t337.length : Int))) l0 (l0.length : Int) (wrap64 (x23_1 + 1))) else (if (wrap64 ((t334.length : Int) + (t337.length : Int))) < x9_1 then (impl_NearestEdition.l0 k1 l1 x23_1 (wrap64 ((t334.length : Int) + (t337.length : Int))) l0 (l0.length : Int) (wrap64 (x23_1 + 1))) else (impl_NearestEdition.l0 k1 l1 x8_1 x9_1 l0 (l0.length : Int) (wrap64 (x23_1 + 1)))))) = some (r1, r2, r3) := H);(have A12 := Aside0.mk A120);clear A120;(replace H := Option.bind_eq_some_iff.mp H);(obtain ⟨t337, A130, H⟩ := H);(replace H : (if x8_1 < 0 then (impl_NearestEdition.l0 k1 l1 x23_1 (wrap64 ((t334.length : Int) + (t337.length : Int))) l0 (l0.length : Int) (wrap64 (x23_1 + 1))) else (if (wrap64 ((t334.length : Int) + (t337.length : Int))) < x9_1 then (impl_NearestEdition.l0 k1 l1 x23_1 (wrap64 ((t334.length : Int) + (t337.length : Int))) l0 (l0.length : Int) (wrap64 (x23_1 + 1))) else (impl_NearestEdition.l0 k1 l1 x8_1 x9_1 l0 (l0.length : Int) (wrap64 (x23_1 + 1))))) = some (r1, r2, r3) := H);(have A13 := Aside0.mk A130);clear A130;(by_cases c14 : x8_1 < 0)
       ·rw [if_pos c14] at H
        (have c14b0 : decide (x8_1 < 0) = true := decide_eq_true c14);clear c14;(have H' := Aside0.mk H);clear H;(have p332 : 0 ≤ (x23_1 : Int) := of_decide_eq_true zq26);(have q332 : x23_1 < (l0.length : Int) := of_decide_eq_true zq26);(obtain ⟨ad332, A332_1, c332_1, e332, hx332_0, hx332_1, hl332_1, hi332_1⟩ := at_T64 HR0.out x23_1 p332 q332)
        cases e332
        (replace hx332_0 := (HB.out.cell (World.block_lt_of_cell? w _ hx332_0)).trans hx332_0);(replace hx332_1 := (HB.out.cell (World.block_lt_of_cell? w _ hx332_1)).trans hx332_1);(have HR332_1 := Aside0.mk hi332_1);(have HC332_1 := Aside0.mk hl332_1);clear hi332_1 hl332_1;(replace p332 := eq_true p332);(replace q332 := eq_true q332);(try go_wp2_with (first | ((with_reducible refine gate_dst (N := 11) rfl ?_); refine box_event ?hg (N := 11) ?hd (cs := #[.int .i64 0, .slice none 0 0]) (t := 64) ?hr ?_; (case hd => rfl); (case hg => rfl); (case hr => first | (go_simp; done) | (go_simp; rfl)); intro gb333 hg w15 hbox hb; have n0_ := Aside0.mk (below_step zq55 hb); have n1_ := Aside0.mk (hbox); have n2_ := Aside0.mk ((zq90 : w.heap.size ≤ gb333)); have n3_ := Aside0.mk ((zq90 : w.heap.size ≤ gb333)); clear HB; have HB := n0_; have BK333 := n1_; have GW333 := n2_; have GE333 := n3_; clear n0_ n1_ n2_ n3_; clear hb hbox hg; have hcz16_0 : w15.cell? ⟨gb333, 0, none⟩ = some (.int .i64 0) := (blk_cell BK333.out 0).trans rfl; have hcz16_1 : w15.cell? ⟨gb333, 1, none⟩ = some (.slice none 0 0) := (blk_cell BK333.out 1).trans rfl; have hfz16_0 := blk_frozen BK333.out 0; have hfz16_1 := blk_frozen BK333.out 1)));(have n0_ : Aside0 (((w15.setCell ⟨gb333, 0, none⟩ (.int .i64 ((rd_T64 l0 x23_1).f0))).setCell ⟨gb333, 1, none⟩ (.slice A332_1 ((rd_T64 l0 x23_1).f1).length c332_1)).heap[gb333]? = some (.cells #[.int .i64 ((rd_T64 l0 x23_1).f0), .slice A332_1 ((rd_T64 l0 x23_1).f1).length c332_1] 64 (0, 0))) := ⟨zq23⟩);(have n1_ : Aside0 (Below w.heap.size w ((w15.setCell ⟨gb333, 0, none⟩ (.int .i64 ((rd_T64 l0 x23_1).f0))).setCell ⟨gb333, 1, none⟩ (.slice A332_1 ((rd_T64 l0 x23_1).f1).length c332_1))) := ⟨zq53⟩);(try clear BK333);(try clear HB);(generalize ((w15.setCell ⟨gb333, 0, none⟩ (.int .i64 ((rd_T64 l0 x23_1).f0))).setCell ⟨gb333, 1, none⟩ (.slice A332_1 ((rd_T64 l0 x23_1).f1).length c332_1)) = w17 at n0_ n1_ ⊢);(have BK333 := n0_);(have HB := n1_);clear n0_ n1_;(have n0_ := Aside0.mk (blk_drew BK333.out));(have n1_ := Aside0.mk (below_drew1 HB.out));clear BK333;clear HB;(have BK333 := n0_);(have HB := n1_);clear n0_ n1_;(refine start_ (n := 12) (S := fun w' => w'.cell? ⟨gb333, 0, none⟩ = some (.int .i64 ((rd_T64 l0 x23_1).f0)) ∧ w'.cell? ⟨gb333, 1, none⟩ = some (.slice A332_1 ((rd_T64 l0 x23_1).f1).length c332_1)) (ds := []) #[false,false,false,false,false,false,false,false,false,false,false,false] (by kernel_rfl) rfl rfl ⟨(blk_cell BK333.out 0).trans rfl, (blk_cell BK333.out 1).trans rfl⟩ (fun hHeld => ?_); refine with_tabW impl_NearestEdition.tab8 impl_NearestEdition.bits8 (fun HT_ HW_ => ?_));(generalize w17.drew = w18 at BK333 HB hHeld ⊢);(refine pI (i := 0) (N := some 28) (v := ?_) (a' := ?_) (mB 12 1) rfl rfl HT_.out (by kernel_rfl) (fun _ _ _ h => h) rfl ?_ ?_ ?_);rotate_left
        ·intro w'
         go_simp;(with_reducible rfl)
        rotate_left
        ·simp only [Act.put, sA]
         rfl
        (refine pI (i := 2) (N := some 30) (v := ?_) (a' := ?_) (mB 12 5) rfl rfl HT_.out (by kernel_rfl) (fun _ _ _ h => h) rfl ?_ ?_ ?_);rotate_left
        ·intro w'
         go_simp;(with_reducible rfl)
        rotate_left
        ·simp only [Act.put, sA]
         rfl
        (refine pI (i := 5) (N := some 33) (v := ?_) (a' := ?_) (mB 12 37) rfl rfl HT_.out (by kernel_rfl) (fun _ _ _ h => h) rfl ?_ ?_ ?_);rotate_left
        ·intro w'
         go_simp;(with_reducible rfl)
        rotate_left
        ·simp only [Act.put, sA]
         rfl
        (refine pI (i := 6) (N := some 34) (v := ?_) (a' := ?_) (mB 12 101) rfl rfl HT_.out (by kernel_rfl) (fun _ _ _ h => h) rfl ?_ ?_ ?_);rotate_left
        ·intro w'
         go_simp;(with_reducible rfl)
        rotate_left
        ·simp only [Act.put, sA]
         rfl
        (refine tI (i := 1) (N := some 29) (v := ?_) (a' := ?_) (mB 12 103) rfl rfl HT_.out HW_.out (by kernel_rfl) (fun _ _ _ h => h) rfl ?_ hHeld ?_ ?_);rotate_left
        ·rintro w' ⟨s0, s1⟩
         go_simp;(with_reducible rfl)
        rotate_left
        ·simp only [Act.put, sA]
         rfl
        (refine tI (i := 7) (N := some 35) (v := ?_) (a' := ?_) (mB 12 231) rfl rfl HT_.out HW_.out (by kernel_rfl) (fun _ _ _ h => h) rfl ?_ hHeld ?_ ?_);rotate_left
        ·rintro w' ⟨s0, s1⟩
         go_simp;(with_reducible rfl)
        rotate_left
        ·simp only [Act.put, sA]
         rfl
        (refine one_ (i := 3) (N := some 31) (mB 12 239) rfl rfl (one_of HT_.out (by kernel_rfl)) (by decide) (fun K hK => ?_));(refine goes_ Tryd.func66 (by kernel_rfl) rfl #[.slice A332_1 ((rd_T64 l0 x23_1).f1).length c332_1, .slice A1 l1.length c1] (by rfl) rfl rfl zq1 ?_);(with_reducible refine (impl_less.calls k1 _ _ ((rd_T64 l0 x23_1).f1) _ _ l1 t334 _ ?side1 ?side2 ?side3 ?side4 A12.out).mono ?_);((case side1 => exact zq67));((case side2 => exact HC332_1.out));((case side3 => exact zq64));((case side4 => exact HC1.out));(rintro e w19 ⟨v335, rfl, ho0, hb⟩);(refine ⟨_, rfl, ?_⟩);(have n0_ := Aside0.mk (Kd.R_lower ho0 (below_size zq53)));(have n1_ := Aside0.mk (blk_below (g := gb333) (o := .cells #[.int .i64 ((rd_T64 l0 x23_1).f0), .slice A332_1 ((rd_T64 l0 x23_1).f1).length c332_1] 64 (0, 0)) zq22 hb));(have n2_ := Aside0.mk (below_step zq53 hb));clear BK333;clear HB;(have HO336 := n0_);(have BK333 := n1_);(have HB := n2_);clear n0_ n1_ n2_;(try clear hb);(try clear hb2);(try clear hk);(try clear hi);(try clear ho0);(obtain ⟨Ao20, co20, eo20⟩ := Kd.R_slice HO336.out);((first | subst eo20 | (injection eo20 with f1_ f2_ f3_; have f4_ := f1_.symm; have f5_ := f3_.symm; clear f1_ f2_ f3_; subst f4_; subst f5_)));(refine hK.out _ _ ⟨(blk_cell BK333.out 0).trans rfl, (blk_cell BK333.out 1).trans rfl⟩ (fun hHeld => ?_));clear hK K;(refine norm_ (a' := ?_) ?_ ?_);rotate_left
        ·show Act.put _ (some 31) _ = _
         (simp only [Act.put, sA]);rfl
        (refine pI (i := 4) (N := some 32) (v := ?_) (a' := ?_) (mB 12 255) rfl rfl HT_.out (by kernel_rfl) (fun _ _ _ h => h) rfl ?_ ?_ ?_);rotate_left
        ·intro w'
         go_simp;(with_reducible rfl)
        rotate_left
        ·simp only [Act.put, sA]
         rfl
        (refine one_ (i := 8) (N := some 36) (mB 12 511) rfl rfl (one_of HT_.out (by kernel_rfl)) (by decide) (fun K hK => ?_));(refine goes_ Tryd.func66 (by kernel_rfl) rfl #[.slice A1 l1.length c1, .slice A332_1 ((rd_T64 l0 x23_1).f1).length c332_1] (by rfl) rfl rfl zq1 ?_);(with_reducible refine (impl_less.calls k1 _ _ l1 _ _ ((rd_T64 l0 x23_1).f1) t337 _ ?side1 ?side2 ?side3 ?side4 A13.out).mono ?_);((case side1 => exact zq64));((case side2 => exact HC1.out));((case side3 => exact zq67));((case side4 => exact HC332_1.out));(rintro e w21 ⟨v338, rfl, ho0, hb⟩);(refine ⟨_, rfl, ?_⟩);(have n0_ := Aside0.mk (Kd.R_elder' (zR HO336.out) (Kd.R_base ho0) hb));(have n1_ := Aside0.mk (Kd.R_lower (Kd.R_new' ho0 (Kd.R_lt (zR HO336.out))) (below_size zq53)));(have n2_ := Aside0.mk (blk_below (g := gb333) (o := .cells #[.int .i64 ((rd_T64 l0 x23_1).f0), .slice A332_1 ((rd_T64 l0 x23_1).f1).length c332_1] 64 (0, 0)) zq22 hb));(have n3_ := Aside0.mk (below_step zq53 hb));clear HO336;clear BK333;clear HB;(have HO336 := n0_);(have HO339 := n1_);(have BK333 := n2_);(have HB := n3_);clear n0_ n1_ n2_ n3_;(try clear hb);(try clear hb2);(try clear hk);(try clear hi);(try clear ho0);(obtain ⟨Ao22, co22, eo22⟩ := Kd.R_slice HO339.out);((first | subst eo22 | (injection eo22 with f1_ f2_ f3_; have f4_ := f1_.symm; have f5_ := f3_.symm; clear f1_ f2_ f3_; subst f4_; subst f5_)));(refine hK.out _ _ ⟨(blk_cell BK333.out 0).trans rfl, (blk_cell BK333.out 1).trans rfl⟩ (fun hHeld => ?_));clear hK K;(refine norm_ (a' := ?_) ?_ ?_);rotate_left
        ·show Act.put _ (some 36) _ = _
         (simp only [Act.put, sA]);rfl
        (refine pI (i := 9) (N := some 37) (v := ?_) (a' := ?_) (mB 12 1023) rfl rfl HT_.out (by kernel_rfl) (fun _ _ _ h => h) rfl ?_ ?_ ?_);rotate_left
        ·intro w'
         go_simp;(with_reducible rfl)
        rotate_left
        ·simp only [Act.put, sA]
         rfl
        (refine pI (i := 10) (N := some 38) (v := ?_) (a' := ?_) (mB 12 2047) rfl rfl HT_.out (by kernel_rfl) (fun _ _ _ h => h) rfl ?_ ?_ ?_);rotate_left
        ·intro w'
         go_simp;(with_reducible rfl)
        rotate_left
        ·simp only [Act.put, sA]
         rfl
        (refine pI (i := 11) (N := some 12) (v := ?_) (a' := ?_) (mB 12 4095) rfl rfl HT_.out (by kernel_rfl) (fun _ _ _ h => h) rfl ?_ ?_ ?_);rotate_left
        ·intro w'
         go_simp;(with_reducible rfl)
        rotate_left
        ·simp only [Act.put, sA]
         rfl
        (refine done_ (done_of HT_.out (by kernel_rfl)) ?_);(try go_wp2);(go_roundg k1)
        case measure => have := HK1.out; omega
        case rel => exact ⟨(x23_1), (wrap64 ((t334.length : Int) + (t337.length : Int))), (wrap64 (x23_1 + 1)), zq35, zq35, zq35, H', ⟨zq41⟩, ⟨zq53⟩⟩
       ·rw [if_neg c14] at H
        (have c14b0 : decide (x8_1 < 0) = false := decide_eq_false c14);clear c14;(by_cases c23 : (wrap64 ((t334.length : Int) + (t337.length : Int))) < x9_1)
        ·rw [if_pos c23] at H
         (have c23b0 : decide ((wrap64 ((t334.length : Int) + (t337.length : Int))) < x9_1) = true := decide_eq_true c23);clear c23;(have H' := Aside0.mk H);clear H;(have p332 : 0 ≤ (x23_1 : Int) := of_decide_eq_true zq26);(have q332 : x23_1 < (l0.length : Int) := of_decide_eq_true zq26);(obtain ⟨ad332, A332_1, c332_1, e332, hx332_0, hx332_1, hl332_1, hi332_1⟩ := at_T64 HR0.out x23_1 p332 q332)
         cases e332
         (replace hx332_0 := (HB.out.cell (World.block_lt_of_cell? w _ hx332_0)).trans hx332_0);(replace hx332_1 := (HB.out.cell (World.block_lt_of_cell? w _ hx332_1)).trans hx332_1);(have HR332_1 := Aside0.mk hi332_1);(have HC332_1 := Aside0.mk hl332_1);clear hi332_1 hl332_1;(replace p332 := eq_true p332);(replace q332 := eq_true q332);(try go_wp2_with (first | ((with_reducible refine gate_dst (N := 11) rfl ?_); refine box_event ?hg (N := 11) ?hd (cs := #[.int .i64 0, .slice none 0 0]) (t := 64) ?hr ?_; (case hd => rfl); (case hg => rfl); (case hr => first | (go_simp; done) | (go_simp; rfl)); intro gb333 hg w24 hbox hb; have n0_ := Aside0.mk (below_step zq55 hb); have n1_ := Aside0.mk (hbox); have n2_ := Aside0.mk ((zq90 : w.heap.size ≤ gb333)); have n3_ := Aside0.mk ((zq90 : w.heap.size ≤ gb333)); clear HB; have HB := n0_; have BK333 := n1_; have GW333 := n2_; have GE333 := n3_; clear n0_ n1_ n2_ n3_; clear hb hbox hg; have hcz25_0 : w24.cell? ⟨gb333, 0, none⟩ = some (.int .i64 0) := (blk_cell BK333.out 0).trans rfl; have hcz25_1 : w24.cell? ⟨gb333, 1, none⟩ = some (.slice none 0 0) := (blk_cell BK333.out 1).trans rfl; have hfz25_0 := blk_frozen BK333.out 0; have hfz25_1 := blk_frozen BK333.out 1)));(have n0_ : Aside0 (((w24.setCell ⟨gb333, 0, none⟩ (.int .i64 ((rd_T64 l0 x23_1).f0))).setCell ⟨gb333, 1, none⟩ (.slice A332_1 ((rd_T64 l0 x23_1).f1).length c332_1)).heap[gb333]? = some (.cells #[.int .i64 ((rd_T64 l0 x23_1).f0), .slice A332_1 ((rd_T64 l0 x23_1).f1).length c332_1] 64 (0, 0))) := ⟨zq23⟩);(have n1_ : Aside0 (Below w.heap.size w ((w24.setCell ⟨gb333, 0, none⟩ (.int .i64 ((rd_T64 l0 x23_1).f0))).setCell ⟨gb333, 1, none⟩ (.slice A332_1 ((rd_T64 l0 x23_1).f1).length c332_1))) := ⟨zq53⟩);(try clear BK333);(try clear HB);(generalize ((w24.setCell ⟨gb333, 0, none⟩ (.int .i64 ((rd_T64 l0 x23_1).f0))).setCell ⟨gb333, 1, none⟩ (.slice A332_1 ((rd_T64 l0 x23_1).f1).length c332_1)) = w26 at n0_ n1_ ⊢);(have BK333 := n0_);(have HB := n1_);clear n0_ n1_;(have n0_ := Aside0.mk (blk_drew BK333.out));(have n1_ := Aside0.mk (below_drew1 HB.out));clear BK333;clear HB;(have BK333 := n0_);(have HB := n1_);clear n0_ n1_;(refine start_ (n := 12) (S := fun w' => w'.cell? ⟨gb333, 0, none⟩ = some (.int .i64 ((rd_T64 l0 x23_1).f0)) ∧ w'.cell? ⟨gb333, 1, none⟩ = some (.slice A332_1 ((rd_T64 l0 x23_1).f1).length c332_1)) (ds := []) #[false,false,false,false,false,false,false,false,false,false,false,false] (by kernel_rfl) rfl rfl ⟨(blk_cell BK333.out 0).trans rfl, (blk_cell BK333.out 1).trans rfl⟩ (fun hHeld => ?_); refine with_tabW impl_NearestEdition.tab8 impl_NearestEdition.bits8 (fun HT_ HW_ => ?_));(generalize w26.drew = w27 at BK333 HB hHeld ⊢);(refine pI (i := 0) (N := some 28) (v := ?_) (a' := ?_) (mB 12 1) rfl rfl HT_.out (by kernel_rfl) (fun _ _ _ h => h) rfl ?_ ?_ ?_);rotate_left
         ·intro w'
          go_simp;(with_reducible rfl)
         rotate_left
         ·simp only [Act.put, sA]
          rfl
         (refine pI (i := 2) (N := some 30) (v := ?_) (a' := ?_) (mB 12 5) rfl rfl HT_.out (by kernel_rfl) (fun _ _ _ h => h) rfl ?_ ?_ ?_);rotate_left
         ·intro w'
          go_simp;(with_reducible rfl)
         rotate_left
         ·simp only [Act.put, sA]
          rfl
         (refine pI (i := 5) (N := some 33) (v := ?_) (a' := ?_) (mB 12 37) rfl rfl HT_.out (by kernel_rfl) (fun _ _ _ h => h) rfl ?_ ?_ ?_);rotate_left
         ·intro w'
          go_simp;(with_reducible rfl)
         rotate_left
         ·simp only [Act.put, sA]
          rfl
         (refine pI (i := 6) (N := some 34) (v := ?_) (a' := ?_) (mB 12 101) rfl rfl HT_.out (by kernel_rfl) (fun _ _ _ h => h) rfl ?_ ?_ ?_);rotate_left
         ·intro w'
          go_simp;(with_reducible rfl)
         rotate_left
         ·simp only [Act.put, sA]
          rfl
         (refine tI (i := 1) (N := some 29) (v := ?_) (a' := ?_) (mB 12 103) rfl rfl HT_.out HW_.out (by kernel_rfl) (fun _ _ _ h => h) rfl ?_ hHeld ?_ ?_);rotate_left
         ·rintro w' ⟨s0, s1⟩
          go_simp;(with_reducible rfl)
         rotate_left
         ·simp only [Act.put, sA]
          rfl
         (refine tI (i := 7) (N := some 35) (v := ?_) (a' := ?_) (mB 12 231) rfl rfl HT_.out HW_.out (by kernel_rfl) (fun _ _ _ h => h) rfl ?_ hHeld ?_ ?_);rotate_left
         ·rintro w' ⟨s0, s1⟩
          go_simp;(with_reducible rfl)
         rotate_left
         ·simp only [Act.put, sA]
          rfl
         (refine one_ (i := 3) (N := some 31) (mB 12 239) rfl rfl (one_of HT_.out (by kernel_rfl)) (by decide) (fun K hK => ?_));(refine goes_ Tryd.func66 (by kernel_rfl) rfl #[.slice A332_1 ((rd_T64 l0 x23_1).f1).length c332_1, .slice A1 l1.length c1] (by rfl) rfl rfl zq1 ?_);(with_reducible refine (impl_less.calls k1 _ _ ((rd_T64 l0 x23_1).f1) _ _ l1 t334 _ ?side1 ?side2 ?side3 ?side4 A12.out).mono ?_);((case side1 => exact zq67));((case side2 => exact HC332_1.out));((case side3 => exact zq64));((case side4 => exact HC1.out));(rintro e w28 ⟨v335, rfl, ho0, hb⟩);(refine ⟨_, rfl, ?_⟩);(have n0_ := Aside0.mk (Kd.R_lower ho0 (below_size zq53)));(have n1_ := Aside0.mk (blk_below (g := gb333) (o := .cells #[.int .i64 ((rd_T64 l0 x23_1).f0), .slice A332_1 ((rd_T64 l0 x23_1).f1).length c332_1] 64 (0, 0)) zq22 hb));(have n2_ := Aside0.mk (below_step zq53 hb));clear BK333;clear HB;(have HO336 := n0_);(have BK333 := n1_);(have HB := n2_);clear n0_ n1_ n2_;(try clear hb);(try clear hb2);(try clear hk);(try clear hi);(try clear ho0);(obtain ⟨Ao29, co29, eo29⟩ := Kd.R_slice HO336.out);((first | subst eo29 | (injection eo29 with f1_ f2_ f3_; have f4_ := f1_.symm; have f5_ := f3_.symm; clear f1_ f2_ f3_; subst f4_; subst f5_)));(refine hK.out _ _ ⟨(blk_cell BK333.out 0).trans rfl, (blk_cell BK333.out 1).trans rfl⟩ (fun hHeld => ?_));clear hK K;(refine norm_ (a' := ?_) ?_ ?_);rotate_left
         ·show Act.put _ (some 31) _ = _
          (simp only [Act.put, sA]);rfl
         (refine pI (i := 4) (N := some 32) (v := ?_) (a' := ?_) (mB 12 255) rfl rfl HT_.out (by kernel_rfl) (fun _ _ _ h => h) rfl ?_ ?_ ?_);rotate_left
         ·intro w'
          go_simp;(with_reducible rfl)
         rotate_left
         ·simp only [Act.put, sA]
          rfl
         (refine one_ (i := 8) (N := some 36) (mB 12 511) rfl rfl (one_of HT_.out (by kernel_rfl)) (by decide) (fun K hK => ?_));(refine goes_ Tryd.func66 (by kernel_rfl) rfl #[.slice A1 l1.length c1, .slice A332_1 ((rd_T64 l0 x23_1).f1).length c332_1] (by rfl) rfl rfl zq1 ?_);(with_reducible refine (impl_less.calls k1 _ _ l1 _ _ ((rd_T64 l0 x23_1).f1) t337 _ ?side1 ?side2 ?side3 ?side4 A13.out).mono ?_);((case side1 => exact zq64));((case side2 => exact HC1.out));((case side3 => exact zq67));((case side4 => exact HC332_1.out));(rintro e w30 ⟨v338, rfl, ho0, hb⟩);(refine ⟨_, rfl, ?_⟩);(have n0_ := Aside0.mk (Kd.R_elder' (zR HO336.out) (Kd.R_base ho0) hb));(have n1_ := Aside0.mk (Kd.R_lower (Kd.R_new' ho0 (Kd.R_lt (zR HO336.out))) (below_size zq53)));(have n2_ := Aside0.mk (blk_below (g := gb333) (o := .cells #[.int .i64 ((rd_T64 l0 x23_1).f0), .slice A332_1 ((rd_T64 l0 x23_1).f1).length c332_1] 64 (0, 0)) zq22 hb));(have n3_ := Aside0.mk (below_step zq53 hb));clear HO336;clear BK333;clear HB;(have HO336 := n0_);(have HO339 := n1_);(have BK333 := n2_);(have HB := n3_);clear n0_ n1_ n2_ n3_;(try clear hb);(try clear hb2);(try clear hk);(try clear hi);(try clear ho0);(obtain ⟨Ao31, co31, eo31⟩ := Kd.R_slice HO339.out);((first | subst eo31 | (injection eo31 with f1_ f2_ f3_; have f4_ := f1_.symm; have f5_ := f3_.symm; clear f1_ f2_ f3_; subst f4_; subst f5_)));(refine hK.out _ _ ⟨(blk_cell BK333.out 0).trans rfl, (blk_cell BK333.out 1).trans rfl⟩ (fun hHeld => ?_));clear hK K;(refine norm_ (a' := ?_) ?_ ?_);rotate_left
         ·show Act.put _ (some 36) _ = _
          (simp only [Act.put, sA]);rfl
         (refine pI (i := 9) (N := some 37) (v := ?_) (a' := ?_) (mB 12 1023) rfl rfl HT_.out (by kernel_rfl) (fun _ _ _ h => h) rfl ?_ ?_ ?_);rotate_left
         ·intro w'
          go_simp;(with_reducible rfl)
         rotate_left
         ·simp only [Act.put, sA]
          rfl
         (refine pI (i := 10) (N := some 38) (v := ?_) (a' := ?_) (mB 12 2047) rfl rfl HT_.out (by kernel_rfl) (fun _ _ _ h => h) rfl ?_ ?_ ?_);rotate_left
         ·intro w'
          go_simp;(with_reducible rfl)
         rotate_left
         ·simp only [Act.put, sA]
          rfl
         (refine pI (i := 11) (N := some 12) (v := ?_) (a' := ?_) (mB 12 4095) rfl rfl HT_.out (by kernel_rfl) (fun _ _ _ h => h) rfl ?_ ?_ ?_);rotate_left
         ·intro w'
          go_simp;(with_reducible rfl)
         rotate_left
         ·simp only [Act.put, sA]
          rfl
         (refine done_ (done_of HT_.out (by kernel_rfl)) ?_);(try go_wp2);(go_roundg k1)
         case measure => have := HK1.out; omega
         case rel => exact ⟨(x23_1), (wrap64 ((t334.length : Int) + (t337.length : Int))), (wrap64 (x23_1 + 1)), zq35, zq35, zq35, H', ⟨zq41⟩, ⟨zq53⟩⟩
        ·rw [if_neg c23] at H
         (have c23b0 : decide ((wrap64 ((t334.length : Int) + (t337.length : Int))) < x9_1) = false := decide_eq_false c23);clear c23;(have H' := Aside0.mk H);clear H;(have p332 : 0 ≤ (x23_1 : Int) := of_decide_eq_true zq26);(have q332 : x23_1 < (l0.length : Int) := of_decide_eq_true zq26);(obtain ⟨ad332, A332_1, c332_1, e332, hx332_0, hx332_1, hl332_1, hi332_1⟩ := at_T64 HR0.out x23_1 p332 q332)
         cases e332
         (replace hx332_0 := (HB.out.cell (World.block_lt_of_cell? w _ hx332_0)).trans hx332_0);(replace hx332_1 := (HB.out.cell (World.block_lt_of_cell? w _ hx332_1)).trans hx332_1);(have HR332_1 := Aside0.mk hi332_1);(have HC332_1 := Aside0.mk hl332_1);clear hi332_1 hl332_1;(replace p332 := eq_true p332);(replace q332 := eq_true q332);(try go_wp2_with (first | ((with_reducible refine gate_dst (N := 11) rfl ?_); refine box_event ?hg (N := 11) ?hd (cs := #[.int .i64 0, .slice none 0 0]) (t := 64) ?hr ?_; (case hd => rfl); (case hg => rfl); (case hr => first | (go_simp; done) | (go_simp; rfl)); intro gb333 hg w32 hbox hb; have n0_ := Aside0.mk (below_step zq55 hb); have n1_ := Aside0.mk (hbox); have n2_ := Aside0.mk ((zq90 : w.heap.size ≤ gb333)); have n3_ := Aside0.mk ((zq90 : w.heap.size ≤ gb333)); clear HB; have HB := n0_; have BK333 := n1_; have GW333 := n2_; have GE333 := n3_; clear n0_ n1_ n2_ n3_; clear hb hbox hg; have hcz33_0 : w32.cell? ⟨gb333, 0, none⟩ = some (.int .i64 0) := (blk_cell BK333.out 0).trans rfl; have hcz33_1 : w32.cell? ⟨gb333, 1, none⟩ = some (.slice none 0 0) := (blk_cell BK333.out 1).trans rfl; have hfz33_0 := blk_frozen BK333.out 0; have hfz33_1 := blk_frozen BK333.out 1)));(have n0_ : Aside0 (((w32.setCell ⟨gb333, 0, none⟩ (.int .i64 ((rd_T64 l0 x23_1).f0))).setCell ⟨gb333, 1, none⟩ (.slice A332_1 ((rd_T64 l0 x23_1).f1).length c332_1)).heap[gb333]? = some (.cells #[.int .i64 ((rd_T64 l0 x23_1).f0), .slice A332_1 ((rd_T64 l0 x23_1).f1).length c332_1] 64 (0, 0))) := ⟨zq23⟩);(have n1_ : Aside0 (Below w.heap.size w ((w32.setCell ⟨gb333, 0, none⟩ (.int .i64 ((rd_T64 l0 x23_1).f0))).setCell ⟨gb333, 1, none⟩ (.slice A332_1 ((rd_T64 l0 x23_1).f1).length c332_1))) := ⟨zq53⟩);(try clear BK333);(try clear HB);(generalize ((w32.setCell ⟨gb333, 0, none⟩ (.int .i64 ((rd_T64 l0 x23_1).f0))).setCell ⟨gb333, 1, none⟩ (.slice A332_1 ((rd_T64 l0 x23_1).f1).length c332_1)) = w34 at n0_ n1_ ⊢);(have BK333 := n0_);(have HB := n1_);clear n0_ n1_;(have n0_ := Aside0.mk (blk_drew BK333.out));(have n1_ := Aside0.mk (below_drew1 HB.out));clear BK333;clear HB;(have BK333 := n0_);(have HB := n1_);clear n0_ n1_;(refine start_ (n := 12) (S := fun w' => w'.cell? ⟨gb333, 0, none⟩ = some (.int .i64 ((rd_T64 l0 x23_1).f0)) ∧ w'.cell? ⟨gb333, 1, none⟩ = some (.slice A332_1 ((rd_T64 l0 x23_1).f1).length c332_1)) (ds := []) #[false,false,false,false,false,false,false,false,false,false,false,false] (by kernel_rfl) rfl rfl ⟨(blk_cell BK333.out 0).trans rfl, (blk_cell BK333.out 1).trans rfl⟩ (fun hHeld => ?_); refine with_tabW impl_NearestEdition.tab8 impl_NearestEdition.bits8 (fun HT_ HW_ => ?_));(generalize w34.drew = w35 at BK333 HB hHeld ⊢);(refine pI (i := 0) (N := some 28) (v := ?_) (a' := ?_) (mB 12 1) rfl rfl HT_.out (by kernel_rfl) (fun _ _ _ h => h) rfl ?_ ?_ ?_);rotate_left
         ·intro w'
          go_simp;(with_reducible rfl)
         rotate_left
         ·simp only [Act.put, sA]
          rfl
         (refine pI (i := 2) (N := some 30) (v := ?_) (a' := ?_) (mB 12 5) rfl rfl HT_.out (by kernel_rfl) (fun _ _ _ h => h) rfl ?_ ?_ ?_);rotate_left
         ·intro w'
          go_simp;(with_reducible rfl)
         rotate_left
         ·simp only [Act.put, sA]
          rfl
         (refine pI (i := 5) (N := some 33) (v := ?_) (a' := ?_) (mB 12 37) rfl rfl HT_.out (by kernel_rfl) (fun _ _ _ h => h) rfl ?_ ?_ ?_);rotate_left
         ·intro w'
          go_simp;(with_reducible rfl)
         rotate_left
         ·simp only [Act.put, sA]
          rfl
         (refine pI (i := 6) (N := some 34) (v := ?_) (a' := ?_) (mB 12 101) rfl rfl HT_.out (by kernel_rfl) (fun _ _ _ h => h) rfl ?_ ?_ ?_);rotate_left
         ·intro w'
          go_simp;(with_reducible rfl)
         rotate_left
         ·simp only [Act.put, sA]
          rfl
         (refine tI (i := 1) (N := some 29) (v := ?_) (a' := ?_) (mB 12 103) rfl rfl HT_.out HW_.out (by kernel_rfl) (fun _ _ _ h => h) rfl ?_ hHeld ?_ ?_);rotate_left
         ·rintro w' ⟨s0, s1⟩
          go_simp;(with_reducible rfl)
         rotate_left
         ·simp only [Act.put, sA]
          rfl
         (refine tI (i := 7) (N := some 35) (v := ?_) (a' := ?_) (mB 12 231) rfl rfl HT_.out HW_.out (by kernel_rfl) (fun _ _ _ h => h) rfl ?_ hHeld ?_ ?_);rotate_left
         ·rintro w' ⟨s0, s1⟩
          go_simp;(with_reducible rfl)
         rotate_left
         ·simp only [Act.put, sA]
          rfl
         (refine one_ (i := 3) (N := some 31) (mB 12 239) rfl rfl (one_of HT_.out (by kernel_rfl)) (by decide) (fun K hK => ?_));(refine goes_ Tryd.func66 (by kernel_rfl) rfl #[.slice A332_1 ((rd_T64 l0 x23_1).f1).length c332_1, .slice A1 l1.length c1] (by rfl) rfl rfl zq1 ?_);(with_reducible refine (impl_less.calls k1 _ _ ((rd_T64 l0 x23_1).f1) _ _ l1 t334 _ ?side1 ?side2 ?side3 ?side4 A12.out).mono ?_);((case side1 => exact zq67));((case side2 => exact HC332_1.out));((case side3 => exact zq64));((case side4 => exact HC1.out));(rintro e w36 ⟨v335, rfl, ho0, hb⟩);(refine ⟨_, rfl, ?_⟩);(have n0_ := Aside0.mk (Kd.R_lower ho0 (below_size zq53)));(have n1_ := Aside0.mk (blk_below (g := gb333) (o := .cells #[.int .i64 ((rd_T64 l0 x23_1).f0), .slice A332_1 ((rd_T64 l0 x23_1).f1).length c332_1] 64 (0, 0)) zq22 hb));(have n2_ := Aside0.mk (below_step zq53 hb));clear BK333;clear HB;(have HO336 := n0_);(have BK333 := n1_);(have HB := n2_);clear n0_ n1_ n2_;(try clear hb);(try clear hb2);(try clear hk);(try clear hi);(try clear ho0);(obtain ⟨Ao37, co37, eo37⟩ := Kd.R_slice HO336.out);((first | subst eo37 | (injection eo37 with f1_ f2_ f3_; have f4_ := f1_.symm; have f5_ := f3_.symm; clear f1_ f2_ f3_; subst f4_; subst f5_)));(refine hK.out _ _ ⟨(blk_cell BK333.out 0).trans rfl, (blk_cell BK333.out 1).trans rfl⟩ (fun hHeld => ?_));clear hK K;(refine norm_ (a' := ?_) ?_ ?_);rotate_left
         ·show Act.put _ (some 31) _ = _
          (simp only [Act.put, sA]);rfl
         (refine pI (i := 4) (N := some 32) (v := ?_) (a' := ?_) (mB 12 255) rfl rfl HT_.out (by kernel_rfl) (fun _ _ _ h => h) rfl ?_ ?_ ?_);rotate_left
         ·intro w'
          go_simp;(with_reducible rfl)
         rotate_left
         ·simp only [Act.put, sA]
          rfl
         (refine one_ (i := 8) (N := some 36) (mB 12 511) rfl rfl (one_of HT_.out (by kernel_rfl)) (by decide) (fun K hK => ?_));(refine goes_ Tryd.func66 (by kernel_rfl) rfl #[.slice A1 l1.length c1, .slice A332_1 ((rd_T64 l0 x23_1).f1).length c332_1] (by rfl) rfl rfl zq1 ?_);(with_reducible refine (impl_less.calls k1 _ _ l1 _ _ ((rd_T64 l0 x23_1).f1) t337 _ ?side1 ?side2 ?side3 ?side4 A13.out).mono ?_);((case side1 => exact zq64));((case side2 => exact HC1.out));((case side3 => exact zq67));((case side4 => exact HC332_1.out));(rintro e w38 ⟨v338, rfl, ho0, hb⟩);(refine ⟨_, rfl, ?_⟩);(have n0_ := Aside0.mk (Kd.R_elder' (zR HO336.out) (Kd.R_base ho0) hb));(have n1_ := Aside0.mk (Kd.R_lower (Kd.R_new' ho0 (Kd.R_lt (zR HO336.out))) (below_size zq53)));(have n2_ := Aside0.mk (blk_below (g := gb333) (o := .cells #[.int .i64 ((rd_T64 l0 x23_1).f0), .slice A332_1 ((rd_T64 l0 x23_1).f1).length c332_1] 64 (0, 0)) zq22 hb));(have n3_ := Aside0.mk (below_step zq53 hb));clear HO336;clear BK333;clear HB;(have HO336 := n0_);(have HO339 := n1_);(have BK333 := n2_);(have HB := n3_);clear n0_ n1_ n2_ n3_;(try clear hb);(try clear hb2);(try clear hk);(try clear hi);(try clear ho0);(obtain ⟨Ao39, co39, eo39⟩ := Kd.R_slice HO339.out);((first | subst eo39 | (injection eo39 with f1_ f2_ f3_; have f4_ := f1_.symm; have f5_ := f3_.symm; clear f1_ f2_ f3_; subst f4_; subst f5_)));(refine hK.out _ _ ⟨(blk_cell BK333.out 0).trans rfl, (blk_cell BK333.out 1).trans rfl⟩ (fun hHeld => ?_));clear hK K;(refine norm_ (a' := ?_) ?_ ?_);rotate_left
         ·show Act.put _ (some 36) _ = _
          (simp only [Act.put, sA]);rfl
         (refine pI (i := 9) (N := some 37) (v := ?_) (a' := ?_) (mB 12 1023) rfl rfl HT_.out (by kernel_rfl) (fun _ _ _ h => h) rfl ?_ ?_ ?_);rotate_left
         ·intro w'
          go_simp;(with_reducible rfl)
         rotate_left
         ·simp only [Act.put, sA]
          rfl
         (refine pI (i := 10) (N := some 38) (v := ?_) (a' := ?_) (mB 12 2047) rfl rfl HT_.out (by kernel_rfl) (fun _ _ _ h => h) rfl ?_ ?_ ?_);rotate_left
         ·intro w'
          go_simp;(with_reducible rfl)
         rotate_left
         ·simp only [Act.put, sA]
          rfl
         (refine pI (i := 11) (N := some 12) (v := ?_) (a' := ?_) (mB 12 4095) rfl rfl HT_.out (by kernel_rfl) (fun _ _ _ h => h) rfl ?_ ?_ ?_);rotate_left
         ·intro w'
          go_simp;(with_reducible rfl)
         rotate_left
         ·simp only [Act.put, sA]
          rfl
         (refine done_ (done_of HT_.out (by kernel_rfl)) ?_);(try go_wp2);(go_roundg k1)
         case measure => have := HK1.out; omega
         case rel => exact ⟨(x8_1), (x9_1), (wrap64 (x23_1 + 1)), zq35, zq35, zq35, H', ⟨zq41⟩, ⟨zq53⟩⟩
      ·rw [if_neg c11] at H
       exact absurd H (by simp)
     ·rw [if_neg c10] at H
      exact absurd H (by simp)
    ·rw [if_neg c9] at H
     (have c9b0 : decide (x23_1 < (l0.length : Int)) = false := decide_eq_false c9);clear c9;(by_cases c40 : x8_1 < 0)
     ·rw [if_pos c40] at H
      (have c40b0 : decide (x8_1 < 0) = true := decide_eq_true c40);clear c40;(simp only [Option.some.injEq, Prod.mk.injEq] at H);(obtain ⟨rfl, rfl, rfl⟩ := H);(go_wp2);(go_ret3);(exact ⟨zq34, zq55⟩)
     ·rw [if_neg c40] at H
      (have c40b0 : decide (x8_1 < 0) = false := decide_eq_false c40);clear c40;(simp only [Option.some.injEq, Prod.mk.injEq] at H);(obtain ⟨rfl, rfl, rfl⟩ := H);(go_wp2);(go_ret3);(exact ⟨zq34, zq55⟩)
 ·rw [if_neg c6] at H
  (have c6b0 : (t331 == 0) = false := beq_eq_false_iff_ne.mpr c6);(have c6b1 : (t331 != 0) = true := bne_iff_ne.mpr c6);(simp only [Option.some.injEq, Prod.mk.injEq] at H);(obtain ⟨rfl, rfl, rfl⟩ := H)
  go_enter Tryd.func47, Tryd.ntmps47
  (go_wp2_with (first | ((with_reducible refine gate_callee (f := 58) rfl ?_); refine goesL_ (some 14) rfl rfl Tryd.func58 (by kernel_rfl) rfl #[.slice A0 l0.length c0] rfl zq1 ?_; (with_reducible refine (impl_ValidEditions.calls k _ _ l0 t329 _ ?side1 ?side2 A3.out).mono ?_); (case side1 => exact zq88); (case side2 => exact HC0.out); rintro e w41 ⟨rfl, hb⟩; refine ⟨_, rfl, ?_⟩; have n0_ := Aside0.mk (below_step zq55 hb); clear HB; have HB := n0_; clear n0_; (try clear hb); (try clear hb2); (try clear hk); (try clear hi)) | ((with_reducible refine gate_callee (f := 94) rfl ?_); refine goesL_ (some 16) rfl rfl Tryd.func94 (by kernel_rfl) rfl #[.slice A1 l1.length c1] rfl zq1 ?_; (with_reducible refine (impl_areShown.calls k _ _ l1 t330 _ ?side1 ?side2 A4.out).mono ?_); (case side1 => exact zq64); (case side2 => exact HC1.out); rintro e w42 ⟨rfl, hb⟩; refine ⟨_, rfl, ?_⟩; have n0_ := Aside0.mk (below_step zq55 hb); clear HB; have HB := n0_; clear n0_; (try clear hb); (try clear hb2); (try clear hk); (try clear hi)) | ((with_reducible refine gate_callee (f := 93) rfl ?_); refine goesL_ (some 17) rfl rfl Tryd.func93 (by kernel_rfl) rfl #[.bool t329, .bool t330] rfl zq1 ?_; (with_reducible refine (impl_check.calls t329 t330 t331 _ A5.out).mono ?_); rintro e w' ⟨rfl, ⟨nd, rfl⟩⟩; refine ⟨_, rfl, ?_⟩)));(go_ret3);(exact ⟨zq34, zq55⟩)

/-! ### spec_l14Code: function 106 -/
def spec_l14Code.f (k : Nat) (l0 : List (S64)) (l1 : List ByteArray) : Option (Int) := (spec_l14Ok.f k l0).bind fun t340 => (if t340 = true then ((spec_l14Names.f k l1).bind fun t341 => (if t341 = true then (some 0) else (some 2))) else (some 1))
theorem spec_l14Code.mono : ∀ a0 a1 k, LeO (spec_l14Code.f k a0 a1) (spec_l14Code.f (k + 1) a0 a1) := by
 intro a0 a1 k;(unfold spec_l14Code.f)
 repeat' first | with_reducible (first | exact spec_l14Names.mono _ _ | exact spec_l14Ok.mono _ _ | exact LeO.refl _ | exact LeO.none _ | refine LeO.ite ?_ ?_ | refine LeO.bind ?_ (fun _ => ?_)) | exact spec_l14Names.mono _ _ | exact spec_l14Ok.mono _ _ | exact LeO.none _ | refine LeO.ite ?_ ?_ | refine LeO.bind ?_ (fun _ => ?_)
theorem spec_l14Code.calls (k : Nat) (A0 : Option Addr) (c0 : Nat) (l0 : List (S64)) (A1 : Option Addr) (c1 : Nat) (l1 : List ByteArray) (r : Int) (w : World) (hr0 : Kd.C k64 w A0 l0.length l0) (hc0 : l0.length ≤ c0) (hr1 : Kd.C Kd.string w A1 l1.length l1) (hc1 : l1.length ≤ c1) (h : spec_l14Code.f k l0 l1 = some r) :
  Calls Tryd.prog 106 #[.slice A0 l0.length c0, .slice A1 l1.length c1] w fun e w' => e = .returned (.int .i64 r) ∧ Below w.heap.size w w' := by
 (have HR0 := Aside0.mk hr0);(have HC0 := Aside0.mk hc0);clear hr0 hc0;(have HR1 := Aside0.mk hr1);(have HC1 := Aside0.mk hc1);clear hr1 hc1;(have HB := Aside0.mk (Below.refl w.heap.size w));(have H : ((spec_l14Ok.f k l0).bind fun t340 => (if t340 = true then ((spec_l14Names.f k l1).bind fun t341 => (if t341 = true then (some 0) else (some 2))) else (some 1))) = some r := h);clear h;(replace H := Option.bind_eq_some_iff.mp H);(obtain ⟨t340, A30, H⟩ := H);(replace H : (if t340 = true then ((spec_l14Names.f k l1).bind fun t341 => (if t341 = true then (some 0) else (some 2))) else (some 1)) = some r := H);(have A3 := Aside0.mk A30);clear A30;(by_cases c4 : t340 = true)
 ·subst c4
  (have H1 : ((spec_l14Names.f k l1).bind fun t341 => (if t341 = true then (some 0) else (some 2))) = some r := zq93);clear H;(have H := H1);clear H1;(replace H := Option.bind_eq_some_iff.mp H);(obtain ⟨t341, A50, H⟩ := H);(replace H : (if t341 = true then (some 0) else (some 2)) = some r := H);(have A5 := Aside0.mk A50);clear A50;(by_cases c6 : t341 = true)
  ·subst c6
   (have H1 : (some 0) = some r := zq93);clear H;(have H := H1);clear H1;(obtain rfl := Option.some.inj H)
   go_enter Tryd.func106, Tryd.ntmps106
   (go_wp2_with (first | ((with_reducible refine gate_callee (f := 71) rfl ?_); refine goesL_ (some 6) rfl rfl Tryd.func71 (by kernel_rfl) rfl #[.slice A0 l0.length c0] rfl zq1 ?_; (with_reducible refine (spec_l14Ok.calls k _ _ l0 true _ ?side1 ?side2 A3.out).mono ?_); (case side1 => exact zq88); (case side2 => exact HC0.out); rintro e w7 ⟨rfl, hb⟩; refine ⟨_, rfl, ?_⟩; have n0_ := Aside0.mk (below_step zq55 hb); clear HB; have HB := n0_; clear n0_; (try clear hb); (try clear hb2); (try clear hk); (try clear hi)) | ((with_reducible refine gate_callee (f := 95) rfl ?_); refine goesL_ (some 9) rfl rfl Tryd.func95 (by kernel_rfl) rfl #[.slice A1 l1.length c1] rfl zq1 ?_; (with_reducible refine (spec_l14Names.calls k _ _ l1 true _ ?side1 ?side2 A5.out).mono ?_); (case side1 => exact zq64); (case side2 => exact HC1.out); rintro e w' ⟨rfl, ⟨nd, rfl⟩⟩; refine ⟨_, rfl, ?_⟩)));(go_ret);(exact ⟨zq34, zq55⟩)
  ·replace c6 := Bool.eq_false_iff.mpr c6
   subst c6;(have H1 : (some 2) = some r := zq92);clear H;(have H := H1);clear H1;(obtain rfl := Option.some.inj H)
   go_enter Tryd.func106, Tryd.ntmps106
   (go_wp2_with (first | ((with_reducible refine gate_callee (f := 71) rfl ?_); refine goesL_ (some 6) rfl rfl Tryd.func71 (by kernel_rfl) rfl #[.slice A0 l0.length c0] rfl zq1 ?_; (with_reducible refine (spec_l14Ok.calls k _ _ l0 true _ ?side1 ?side2 A3.out).mono ?_); (case side1 => exact zq88); (case side2 => exact HC0.out); rintro e w8 ⟨rfl, hb⟩; refine ⟨_, rfl, ?_⟩; have n0_ := Aside0.mk (below_step zq55 hb); clear HB; have HB := n0_; clear n0_; (try clear hb); (try clear hb2); (try clear hk); (try clear hi)) | ((with_reducible refine gate_callee (f := 95) rfl ?_); refine goesL_ (some 9) rfl rfl Tryd.func95 (by kernel_rfl) rfl #[.slice A1 l1.length c1] rfl zq1 ?_; (with_reducible refine (spec_l14Names.calls k _ _ l1 false _ ?side1 ?side2 A5.out).mono ?_); (case side1 => exact zq64); (case side2 => exact HC1.out); rintro e w' ⟨rfl, ⟨nd, rfl⟩⟩; refine ⟨_, rfl, ?_⟩)));(go_ret);(exact ⟨zq34, zq55⟩)
 ·replace c4 := Bool.eq_false_iff.mpr c4
  subst c4;(have H1 : (some 1) = some r := zq92);clear H;(have H := H1);clear H1;(obtain rfl := Option.some.inj H)
  go_enter Tryd.func106, Tryd.ntmps106
  (go_wp2_with (first | ((with_reducible refine gate_callee (f := 71) rfl ?_); refine goesL_ (some 6) rfl rfl Tryd.func71 (by kernel_rfl) rfl #[.slice A0 l0.length c0] rfl zq1 ?_; (with_reducible refine (spec_l14Ok.calls k _ _ l0 false _ ?side1 ?side2 A3.out).mono ?_); (case side1 => exact zq88); (case side2 => exact HC0.out); rintro e w9 ⟨rfl, hb⟩; refine ⟨_, rfl, ?_⟩; have n0_ := Aside0.mk (below_step zq55 hb); clear HB; have HB := n0_; clear n0_; (try clear hb); (try clear hb2); (try clear hk); (try clear hi))));(go_ret);(exact ⟨zq34, zq55⟩)

/-! ### spec_l14Differ: function 107 -/
def spec_l14Differ.f (k : Nat) (l0 : List ByteArray) (l1 : List ByteArray) : Option (Int) := (spec_l14Less.f k l0 l1).bind fun t342 => ((spec_l14Less.f k l1 l0).bind fun t345 => (some (wrap64 ((t342.length : Int) + (t345.length : Int)))))
theorem spec_l14Differ.mono : ∀ a0 a1 k, LeO (spec_l14Differ.f k a0 a1) (spec_l14Differ.f (k + 1) a0 a1) := by
 intro a0 a1 k;(unfold spec_l14Differ.f)
 repeat' first | with_reducible (first | exact spec_l14Less.mono _ _ _ | exact LeO.refl _ | exact LeO.none _ | refine LeO.ite ?_ ?_ | refine LeO.bind ?_ (fun _ => ?_)) | exact spec_l14Less.mono _ _ _ | exact LeO.none _ | refine LeO.ite ?_ ?_ | refine LeO.bind ?_ (fun _ => ?_)
theorem spec_l14Differ.calls (k : Nat) (A0 : Option Addr) (c0 : Nat) (l0 : List ByteArray) (A1 : Option Addr) (c1 : Nat) (l1 : List ByteArray) (r : Int) (w : World) (hr0 : Kd.C Kd.string w A0 l0.length l0) (hc0 : l0.length ≤ c0) (hr1 : Kd.C Kd.string w A1 l1.length l1) (hc1 : l1.length ≤ c1) (h : spec_l14Differ.f k l0 l1 = some r) :
  Calls Tryd.prog 107 #[.slice A0 l0.length c0, .slice A1 l1.length c1] w fun e w' => e = .returned (.int .i64 r) ∧ Below w.heap.size w w' := by
 (have HR0 := Aside0.mk hr0);(have HC0 := Aside0.mk hc0);clear hr0 hc0;(have HR1 := Aside0.mk hr1);(have HC1 := Aside0.mk hc1);clear hr1 hc1;(have HB := Aside0.mk (Below.refl w.heap.size w));(have H : ((spec_l14Less.f k l0 l1).bind fun t342 => ((spec_l14Less.f k l1 l0).bind fun t345 => (some (wrap64 ((t342.length : Int) + (t345.length : Int)))))) = some r := h);clear h;(replace H := Option.bind_eq_some_iff.mp H);(obtain ⟨t342, A30, H⟩ := H);(replace H : ((spec_l14Less.f k l1 l0).bind fun t345 => (some (wrap64 ((t342.length : Int) + (t345.length : Int))))) = some r := H);(have A3 := Aside0.mk A30);clear A30;(replace H := Option.bind_eq_some_iff.mp H);(obtain ⟨t345, A40, H⟩ := H);(replace H : (some (wrap64 ((t342.length : Int) + (t345.length : Int)))) = some r := H);(have A4 := Aside0.mk A40);clear A40;(obtain rfl := Option.some.inj H)
 go_enter Tryd.func107, Tryd.ntmps107
 (go_wp2_with (first | ((with_reducible refine gate_callee (f := 62) rfl ?_); refine goesL_ (some 7) rfl rfl Tryd.func62 (by kernel_rfl) rfl #[.slice A0 l0.length c0, .slice A1 l1.length c1] rfl zq1 ?_; (with_reducible refine (spec_l14Less.calls k _ _ l0 _ _ l1 t342 _ ?side1 ?side2 ?side3 ?side4 A3.out).mono ?_); (case side1 => exact zq88); (case side2 => exact HC0.out); (case side3 => exact zq89); (case side4 => exact HC1.out); rintro e w5 ⟨v343, rfl, ho0, hb⟩; refine ⟨_, rfl, ?_⟩; have n0_ := Aside0.mk (Kd.R_lower ho0 (below_size zq55)); have n1_ := Aside0.mk (below_step zq55 hb); clear HB; have HO344 := n0_; have HB := n1_; clear n0_ n1_; (try clear hb); (try clear hb2); (try clear hk); (try clear hi); (try clear ho0); obtain ⟨Ao6, co6, eo6⟩ := Kd.R_slice HO344.out; subst eo6) | ((with_reducible refine gate_callee (f := 62) rfl ?_); refine goesL_ (some 11) rfl rfl Tryd.func62 (by kernel_rfl) rfl #[.slice A1 l1.length c1, .slice A0 l0.length c0] rfl zq1 ?_; (with_reducible refine (spec_l14Less.calls k _ _ l1 _ _ l0 t345 _ ?side1 ?side2 ?side3 ?side4 A4.out).mono ?_); (case side1 => exact zq64); (case side2 => exact HC1.out); (case side3 => exact zq63); (case side4 => exact HC0.out); rintro e w7 ⟨v346, rfl, ho0, hb⟩; refine ⟨_, rfl, ?_⟩; have n0_ := Aside0.mk (Kd.R_elder' (zR HO344.out) (Kd.R_base ho0) hb); have n1_ := Aside0.mk (Kd.R_lower (Kd.R_new' ho0 (Kd.R_lt (zR HO344.out))) (below_size zq55)); have n2_ := Aside0.mk (below_step zq55 hb); clear HO344; clear HB; have HO344 := n0_; have HO347 := n1_; have HB := n2_; clear n0_ n1_ n2_; (try clear hb); (try clear hb2); (try clear hk); (try clear hi); (try clear ho0); obtain ⟨Ao8, co8, eo8⟩ := Kd.R_slice HO347.out; subst eo8)));(go_ret);(exact ⟨zq34, zq55⟩)

end Go.Proofs.YtalmeecdjhelkaaDoor.PFnEditions
