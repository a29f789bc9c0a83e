-- Made by a program of this session (gprint.py) out of the kit's print of the translation and texts of my own. SLIM
import Derived.Test.YtalmeecdjhelkaaDoorPFnEditionsx0
import Derived.Test.YtalmeecdjhelkaaDoorPFnEditionsx4
namespace Go.Proofs.YtalmeecdjhelkaaDoor.PFnEditions
open Go.RowKit Go.Proofs.YtalmeecdjhelkaaDoorW.PrintWords Go.Proofs.YtalmeecdjhelkaaDoorW.PrintLast Go.Proofs.YtalmeecdjhelkaaDoorW.PrintMore
set_option maxHeartbeats 64000000
set_option maxRecDepth 100000
attribute [local go_sem] max2_int min2_int max_two min_two max_three min_three max_four min_four   -- for this text's walks alone
set_option linter.unusedVariables false
set_option linter.unusedSimpArgs false

/-! ### impl_ValidEditions: function 58 -/
def impl_ValidEditions.l0 : Nat → List (S64) → List (S64) → Int → Int → Option (Bool)
 | 0, _, _, _, _ => none
 | k + 1, x0, x5, x6, x7 => if x7 < x6 then (if 0 ≤ x7 then (if x7 < (x5.length : Int) then ((impl_isYear.f ((rd_T64 x5 x7).f0)).bind fun t146 => (if t146 = true then ((impl_areShown.f k ((rd_T64 x5 x7).f1)).bind fun t147 => (if t147 = true then (if x7 > 0 then (if 0 ≤ (wrap64 (x7 - 1)) then (if (wrap64 (x7 - 1)) < (x0.length : Int) then (if ((rd_T64 x0 (wrap64 (x7 - 1))).f0) ≥ ((rd_T64 x5 x7).f0) then (some false) else (impl_ValidEditions.l0 k x0 x5 x6 (wrap64 (x7 + 1)))) else (none)) else (none)) else (impl_ValidEditions.l0 k x0 x5 x6 (wrap64 (x7 + 1)))) else (some false))) else (some false))) else (none)) else (none)) else (some (decide ((x0.length : Int) ≤ 20)))
def impl_ValidEditions.f (k : Nat) (l0 : List (S64)) : Option (Bool) := impl_ValidEditions.l0 k l0 l0 (l0.length : Int) 0
theorem impl_ValidEditions.mono_l : ∀ k, (∀ y0 y1 y2 y3, LeO (impl_ValidEditions.l0 k y0 y1 y2 y3) (impl_ValidEditions.l0 (k + 1) y0 y1 y2 y3))
 | 0 => fun _ _ _ _ r h => by simp [impl_ValidEditions.l0] at h
 | k + 1 => by
  have ih0 := impl_ValidEditions.mono_l k
  ·intro y0 y1 y2 y3
   unfold impl_ValidEditions.l0
   repeat' first | with_reducible (first | exact ih0 _ _ _ _ | exact impl_areShown.mono _ _ | exact LeO.refl _ | exact LeO.none _ | refine LeO.ite ?_ ?_ | refine LeO.bind ?_ (fun _ => ?_)) | exact ih0 _ _ _ _ | exact impl_areShown.mono _ _ | exact LeO.none _ | refine LeO.ite ?_ ?_ | refine LeO.bind ?_ (fun _ => ?_)
theorem impl_ValidEditions.mono : ∀ a0 k, LeO (impl_ValidEditions.f k a0) (impl_ValidEditions.f (k + 1) a0) := by
 intro a0 k;(have ih0 := impl_ValidEditions.mono_l k);(unfold impl_ValidEditions.f)
 repeat' first | with_reducible (first | exact ih0 _ _ _ _ | exact impl_areShown.mono _ _ | exact LeO.refl _ | exact LeO.none _ | refine LeO.ite ?_ ?_ | refine LeO.bind ?_ (fun _ => ?_)) | exact ih0 _ _ _ _ | exact impl_areShown.mono _ _ | exact LeO.none _ | refine LeO.ite ?_ ?_ | refine LeO.bind ?_ (fun _ => ?_)
def impl_ValidEditions.T4 : Bool × List (List Nat × List Nat) := (true, [([], []), ([0], [0]), ([1], [1]), ([2], [2]), ([3, 2], [3]), ([4], [4]), ([5, 4], [4, 5]), ([6, 4, 4], [4, 6]), ([7, 4], [4, 7]), ([4, 8], [4, 8]), ([9, 7], [9]), ([10], [10]), ([11, 10], [10, 11]), ([12, 10, 10], [10, 12]), ([13], [13]), ([13], [13]), ([15, 13], [13, 15]), ([14, 16, 13], [13, 14, 16]), ([17, 13], [13, 17]), ([18, 13], [13, 18]), ([13], [13]), ([20, 13], [13, 20]), ([19, 21, 13], [13, 19, 21]), ([13, 22, 10], [10, 13, 22]), ([10, 23], [10, 23])])
def impl_ValidEditions.B4 : List Nat := [0, 1, 3, 7, 15, 31, 63, 127, 255, 511, 1023, 2047, 4095, 8191, 16383, 16383, 49151, 131071, 262143, 524287, 16383, 1064959, 4194303, 8388607, 16777215]
theorem impl_ValidEditions.tab4 : rtab .any (opsOf Tryd.f58 4) = impl_ValidEditions.T4 := by kernel_rfl
theorem impl_ValidEditions.bits4 : waitsOk impl_ValidEditions.T4.2 impl_ValidEditions.B4 = true := by kernel_rfl
theorem impl_ValidEditions.calls (k : Nat) (A0 : Option Addr) (c0 : Nat) (l0 : List (S64)) (r : Bool) (w : World) (hr0 : Kd.C k64 w A0 l0.length l0) (hc0 : l0.length ≤ c0) (h : impl_ValidEditions.f k l0 = some r) :
  Calls Tryd.prog 58 #[.slice A0 l0.length c0] w fun e w' => e = .returned (.bool r) ∧ Below w.heap.size w w' := by
 (have hu64 := Tryd.underlying64);(have HR0 := Aside0.mk hr0);(have HC0 := Aside0.mk hc0);clear hr0 hc0;(have HB := Aside0.mk (Below.refl w.heap.size w));(have H : (impl_ValidEditions.l0 k l0 l0 (l0.length : Int) 0) = some r := h);clear h;(have H' := Aside0.mk H);clear H
 go_enter Tryd.func58, Tryd.ntmps58
 go_wp2
 go_loopg [7] k (fun kq v7 w' => ∃ (x7_1 : Int), v7 = .int .i64 x7_1 ∧ Aside0 (impl_ValidEditions.l0 kq l0 l0 (l0.length : Int) x7_1 = some r) ∧ Aside0 (kq ≤ k) ∧ Aside0 (Below w.heap.size w w'))
 case atStart => exact ⟨(0), zq35, H', ⟨Nat.le_refl _⟩, ⟨zq55⟩⟩
 case round =>
  clear H';(obtain ⟨x7_1, rfl, HA, HK1, HB⟩ := hrel)
  cases gk with
  | zero => exact absurd HA.out (by simp [impl_ValidEditions.l0])
  | succ k1 =>
   (have H := HA.out);clear HA;(simp only [impl_ValidEditions.l0] at H);(by_cases c2 : x7_1 < (l0.length : Int))
   ·rw [if_pos c2] at H
    (have c2b0 : decide (x7_1 < (l0.length : Int)) = true := decide_eq_true c2);clear c2;(by_cases c3 : 0 ≤ x7_1)
    ·rw [if_pos c3] at H
     (have c3b0 : decide (0 ≤ x7_1) = true := decide_eq_true c3);clear c3;(by_cases c4 : x7_1 < (l0.length : Int))
     ·rw [if_pos c4] at H
      (have c4b0 : decide (x7_1 < (l0.length : Int)) = true := decide_eq_true c4);clear c4;(replace H := Option.bind_eq_some_iff.mp H);(obtain ⟨t146, A50, H⟩ := H);(replace H : (if t146 = true then ((impl_areShown.f k1 ((rd_T64 l0 x7_1).f1)).bind fun t147 => (if t147 = true then (if x7_1 > 0 then (if 0 ≤ (wrap64 (x7_1 - 1)) then (if (wrap64 (x7_1 - 1)) < (l0.length : Int) then (if ((rd_T64 l0 (wrap64 (x7_1 - 1))).f0) ≥ ((rd_T64 l0 x7_1).f0) then (some false) else (impl_ValidEditions.l0 k1 l0 l0 (l0.length : Int) (wrap64 (x7_1 + 1)))) else (none)) else (none)) else (impl_ValidEditions.l0 k1 l0 l0 (l0.length : Int) (wrap64 (x7_1 + 1)))) else (some false))) else (some false)) = some r := H);(have A5 := Aside0.mk A50);clear A50;(by_cases c6 : t146 = true)
      ·subst c6
       (have H1 : ((impl_areShown.f k1 ((rd_T64 l0 x7_1).f1)).bind fun t147 => (if t147 = true then (if x7_1 > 0 then (if 0 ≤ (wrap64 (x7_1 - 1)) then (if (wrap64 (x7_1 - 1)) < (l0.length : Int) then (if ((rd_T64 l0 (wrap64 (x7_1 - 1))).f0) ≥ ((rd_T64 l0 x7_1).f0) then (some false) else (impl_ValidEditions.l0 k1 l0 l0 (l0.length : Int) (wrap64 (x7_1 + 1)))) else (none)) else (none)) else (impl_ValidEditions.l0 k1 l0 l0 (l0.length : Int) (wrap64 (x7_1 + 1)))) else (some false))) = some r := zq93);clear H;(have H := H1);clear H1;(replace H := Option.bind_eq_some_iff.mp H);(obtain ⟨t147, A70, H⟩ := H);(replace H : (if t147 = true then (if x7_1 > 0 then (if 0 ≤ (wrap64 (x7_1 - 1)) then (if (wrap64 (x7_1 - 1)) < (l0.length : Int) then (if ((rd_T64 l0 (wrap64 (x7_1 - 1))).f0) ≥ ((rd_T64 l0 x7_1).f0) then (some false) else (impl_ValidEditions.l0 k1 l0 l0 (l0.length : Int) (wrap64 (x7_1 + 1)))) else (none)) else (none)) else (impl_ValidEditions.l0 k1 l0 l0 (l0.length : Int) (wrap64 (x7_1 + 1)))) else (some false)) = some r := H);(have A7 := Aside0.mk A70);clear A70;(by_cases c8 : t147 = true)
       ·subst c8
        (have H1 : (if x7_1 > 0 then (if 0 ≤ (wrap64 (x7_1 - 1)) then (if (wrap64 (x7_1 - 1)) < (l0.length : Int) then (if ((rd_T64 l0 (wrap64 (x7_1 - 1))).f0) ≥ ((rd_T64 l0 x7_1).f0) then (some false) else (impl_ValidEditions.l0 k1 l0 l0 (l0.length : Int) (wrap64 (x7_1 + 1)))) else (none)) else (none)) else (impl_ValidEditions.l0 k1 l0 l0 (l0.length : Int) (wrap64 (x7_1 + 1)))) = some r := zq93);clear H;(have H := H1);clear H1;(by_cases c9 : x7_1 > 0)
        ·rw [if_pos c9] at H
         (have c9b0 : decide (0 < x7_1) = true := decide_eq_true c9);clear c9;(obtain ⟨ji10, hji10⟩ : ∃ j_ : Int, (wrap64 (x7_1 - 1)) = j_ := ⟨_, rfl⟩);(replace H : (if 0 ≤ (ji10) then (if (ji10) < (l0.length : Int) then (if ((rd_T64 l0 (ji10)).f0) ≥ ((rd_T64 l0 x7_1).f0) then (some false) else (impl_ValidEditions.l0 k1 l0 l0 (l0.length : Int) (wrap64 (x7_1 + 1)))) else (none)) else (none)) = some r := by first | (rw [hji10] at H; exact H) | (simp only [hji10] at H ⊢; exact H));((try rw [hji10] at A5));((try rw [hji10] at A7));(have hji10w : (IntKind.i64.wrap (x7_1 - 1)) = ji10 := (i64_w _).trans hji10);(by_cases c11 : 0 ≤ (ji10))
         ·rw [if_pos c11] at H
          (have c11b0 : decide (0 ≤ (ji10)) = true := decide_eq_true c11);clear c11;(by_cases c12 : (ji10) < (l0.length : Int))
          ·rw [if_pos c12] at H
           (have c12b0 : decide ((ji10) < (l0.length : Int)) = true := decide_eq_true c12);clear c12;(by_cases c13 : ((rd_T64 l0 (ji10)).f0) ≥ ((rd_T64 l0 x7_1).f0))
           ·rw [if_pos c13] at H
            (have c13b0 : decide (((rd_T64 l0 x7_1).f0) ≤ ((rd_T64 l0 (ji10)).f0)) = true := decide_eq_true c13);clear c13;(obtain rfl := Option.some.inj H);(have p144 : 0 ≤ (x7_1 : Int) := of_decide_eq_true zq26);(have q144 : x7_1 < (l0.length : Int) := of_decide_eq_true zq26);(obtain ⟨ad144, A144_1, c144_1, e144, hx144_0, hx144_1, hl144_1, hi144_1⟩ := at_T64 HR0.out x7_1 p144 q144)
            cases e144
            (replace hx144_0 := (HB.out.cell (World.block_lt_of_cell? w _ hx144_0)).trans hx144_0);(replace hx144_1 := (HB.out.cell (World.block_lt_of_cell? w _ hx144_1)).trans hx144_1);(have HR144_1 := Aside0.mk hi144_1);(have HC144_1 := Aside0.mk hl144_1);clear hi144_1 hl144_1;(replace p144 := eq_true p144);(replace q144 := eq_true q144);(try go_wp2_with (first | ((with_reducible refine gate_dst (N := 4) rfl ?_); refine box_event ?hg (N := 4) ?hd (cs := #[.int .i64 0, .slice none 0 0]) (t := 64) ?hr ?_; (case hd => rfl); (case hg => rfl); (case hr => first | (go_simp; done) | (go_simp; rfl)); intro gb145 hg w14 hbox hb; have n0_ := Aside0.mk (below_step zq55 hb); have n1_ := Aside0.mk (hbox); have n2_ := Aside0.mk ((zq90 : w.heap.size ≤ gb145)); have n3_ := Aside0.mk ((zq90 : w.heap.size ≤ gb145)); clear HB; have HB := n0_; have BK145 := n1_; have GW145 := n2_; have GE145 := n3_; clear n0_ n1_ n2_ n3_; clear hb hbox hg; have hcz15_0 : w14.cell? ⟨gb145, 0, none⟩ = some (.int .i64 0) := (blk_cell BK145.out 0).trans rfl; have hcz15_1 : w14.cell? ⟨gb145, 1, none⟩ = some (.slice none 0 0) := (blk_cell BK145.out 1).trans rfl; have hfz15_0 := blk_frozen BK145.out 0; have hfz15_1 := blk_frozen BK145.out 1)));(have n0_ : Aside0 (((w14.setCell ⟨gb145, 0, none⟩ (.int .i64 ((rd_T64 l0 x7_1).f0))).setCell ⟨gb145, 1, none⟩ (.slice A144_1 ((rd_T64 l0 x7_1).f1).length c144_1)).heap[gb145]? = some (.cells #[.int .i64 ((rd_T64 l0 x7_1).f0), .slice A144_1 ((rd_T64 l0 x7_1).f1).length c144_1] 64 (0, 0))) := ⟨zq24⟩);(have n1_ : Aside0 (Below w.heap.size w ((w14.setCell ⟨gb145, 0, none⟩ (.int .i64 ((rd_T64 l0 x7_1).f0))).setCell ⟨gb145, 1, none⟩ (.slice A144_1 ((rd_T64 l0 x7_1).f1).length c144_1))) := ⟨zq52⟩);(try clear BK145);(try clear HB);(generalize ((w14.setCell ⟨gb145, 0, none⟩ (.int .i64 ((rd_T64 l0 x7_1).f0))).setCell ⟨gb145, 1, none⟩ (.slice A144_1 ((rd_T64 l0 x7_1).f1).length c144_1)) = w16 at n0_ n1_ ⊢);(have BK145 := n0_);(have HB := n1_);clear n0_ n1_;(have n0_ := Aside0.mk (blk_drew BK145.out));(have n1_ := Aside0.mk (below_drew1 HB.out));clear BK145;clear HB;(have BK145 := n0_);(have HB := n1_);clear n0_ n1_;(have p148 : 0 ≤ ((ji10) : Int) := of_decide_eq_true zq26);(have q148 : (ji10) < (l0.length : Int) := of_decide_eq_true zq26);(obtain ⟨ad148, A148_1, c148_1, e148, hx148_0, hx148_1, hl148_1, hi148_1⟩ := at_T64 HR0.out (ji10) p148 q148);(have hw148_1 := hx148_1);(have hw148_0 := hx148_0);(obtain rfl : ad144 = ad148 := (by injection e148));(replace hx148_0 := (HB.out.cell (World.block_lt_of_cell? w _ hx148_0)).trans hx148_0);(replace hx148_1 := (HB.out.cell (World.block_lt_of_cell? w _ hx148_1)).trans hx148_1);(have HR148_1 := Aside0.mk hi148_1);(have HC148_1 := Aside0.mk hl148_1);clear hi148_1 hl148_1;(replace p148 := eq_true p148);(replace q148 := eq_true q148);(refine start_ (n := 25) (S := fun w' => w'.cell? ⟨gb145, 0, none⟩ = some (.int .i64 ((rd_T64 l0 x7_1).f0)) ∧ w'.cell? ⟨gb145, 1, none⟩ = some (.slice A144_1 ((rd_T64 l0 x7_1).f1).length c144_1) ∧ w'.cell? (ad144.add (((ji10)).toNat * 2)) = some (.int .i64 ((rd_T64 l0 (ji10)).f0)) ∧ w'.cell? ⟨(ad144.add (((ji10)).toNat * 2)).block, (ad144.add (((ji10)).toNat * 2)).off + 1, none⟩ = some (.slice A148_1 ((rd_T64 l0 (ji10)).f1).length c148_1)) (ds := []) #[false,false,false,false,false,false,false,false,false,false,false,false,false,false,false,false,false,false,false,false,false,false,false,false,false] (by kernel_rfl) rfl rfl ⟨(blk_cell BK145.out 0).trans rfl, (blk_cell BK145.out 1).trans rfl, ((HB.out.cell (World.block_lt_of_cell? w _ hw148_0)).trans hw148_0), ((HB.out.cell (World.block_lt_of_cell? w _ hw148_1)).trans hw148_1)⟩ (fun hHeld => ?_); refine with_tabW impl_ValidEditions.tab4 impl_ValidEditions.bits4 (fun HT_ HW_ => ?_));(generalize w16.drew = w17 at BK145 HB HR148_1 hx148_0 hx148_1 hHeld ⊢);(refine pI (i := 0) (N := some 12) (v := ?_) (a' := ?_) (mB 25 1) rfl rfl HT_.out (by kernel_rfl) (fun _ _ _ h => h) rfl ?_ ?_ ?_);rotate_left
            ·intro w'
             go_simp;(with_reducible rfl)
            rotate_left
            ·simp only [Act.put, sA]
             rfl
            (refine tI (i := 1) (N := some 13) (v := ?_) (a' := ?_) (mB 25 3) rfl rfl HT_.out HW_.out (by kernel_rfl) (fun _ _ _ h => h) rfl ?_ hHeld ?_ ?_);rotate_left
            ·rintro w' ⟨s0, s1, s2, s3⟩
             go_simp;(with_reducible rfl)
            rotate_left
            ·simp only [Act.put, sA]
             rfl
            (refine one_ (i := 2) (N := some 14) (mB 25 7) rfl rfl (one_of HT_.out (by kernel_rfl)) (by decide) (fun K hK => ?_));(refine goes_ Tryd.func99 (by kernel_rfl) rfl #[.int .i64 ((rd_T64 l0 x7_1).f0)] (by rfl) rfl rfl zq1 ?_);(with_reducible refine (impl_isYear.calls ((rd_T64 l0 x7_1).f0) true _ A5.out).mono ?_);(rintro e w' ⟨rfl, ⟨nd, rfl⟩⟩);(refine ⟨_, rfl, ?_⟩);(refine hK.out _ _ ⟨(blk_cell BK145.out 0).trans rfl, (blk_cell BK145.out 1).trans rfl, ((HB.out.cell (World.block_lt_of_cell? w _ hw148_0)).trans hw148_0), ((HB.out.cell (World.block_lt_of_cell? w _ hw148_1)).trans hw148_1)⟩ (fun hHeld => ?_));clear hK K;(refine norm_ (a' := ?_) ?_ ?_);rotate_left
            ·show Act.put _ (some 14) _ = _
             (simp only [Act.put, sA]);rfl
            (refine pI (i := 3) (N := some 15) (v := ?_) (a' := ?_) (mB 25 15) rfl rfl HT_.out (by kernel_rfl) (fun _ _ _ h => h) rfl ?_ ?_ ?_);rotate_left
            ·intro w'
             go_simp;(with_reducible rfl)
            rotate_left
            ·simp only [Act.put, sA]
             rfl
            (refine pI (i := 4) (N := some 16) (v := ?_) (a' := ?_) (mB 25 31) rfl rfl HT_.out (by kernel_rfl) (fun _ _ _ h => h) rfl ?_ ?_ ?_);rotate_left
            ·intro w'
             go_simp;(with_reducible rfl)
            rotate_left
            ·simp only [Act.put, sA]
             rfl
            (refine pI (i := 5) (N := some 17) (v := ?_) (a' := ?_) (mB 25 63) rfl rfl HT_.out (by kernel_rfl) (fun _ _ _ h => h) rfl ?_ ?_ ?_);rotate_left
            ·intro w'
             go_simp;(with_reducible rfl)
            rotate_left
            ·simp only [Act.put, sA]
             rfl
            (refine tI (i := 6) (N := some 18) (v := ?_) (a' := ?_) (mB 25 127) rfl rfl HT_.out HW_.out (by kernel_rfl) (fun _ _ _ h => h) rfl ?_ hHeld ?_ ?_);rotate_left
            ·rintro w' ⟨s0, s1, s2, s3⟩
             go_simp;(with_reducible rfl)
            rotate_left
            ·simp only [Act.put, sA]
             rfl
            (refine one_ (i := 7) (N := some 19) (mB 25 255) rfl rfl (one_of HT_.out (by kernel_rfl)) (by decide) (fun K hK => ?_));(refine goes_ Tryd.func94 (by kernel_rfl) rfl #[.slice A144_1 ((rd_T64 l0 x7_1).f1).length c144_1] (by rfl) rfl rfl zq1 ?_);(with_reducible refine (impl_areShown.calls k1 _ _ ((rd_T64 l0 x7_1).f1) true _ ?side1 ?side2 A7.out).mono ?_);((case side1 => exact zq66));((case side2 => exact HC144_1.out));(rintro e w18 ⟨rfl, hb⟩);(refine ⟨_, rfl, ?_⟩);(have n0_ := Aside0.mk (blk_below (g := gb145) (o := .cells #[.int .i64 ((rd_T64 l0 x7_1).f0), .slice A144_1 ((rd_T64 l0 x7_1).f1).length c144_1] 64 (0, 0)) zq21 hb));(have n1_ := Aside0.mk (below_step zq52 hb));clear BK145;clear HB;(have BK145 := n0_);(have HB := n1_);clear n0_ n1_;(try clear hb);(try clear hb2);(try clear hk);(try clear hi);(refine hK.out _ _ ⟨(blk_cell BK145.out 0).trans rfl, (blk_cell BK145.out 1).trans rfl, ((HB.out.cell (World.block_lt_of_cell? w _ hw148_0)).trans hw148_0), ((HB.out.cell (World.block_lt_of_cell? w _ hw148_1)).trans hw148_1)⟩ (fun hHeld => ?_));clear hK K;(refine norm_ (a' := ?_) ?_ ?_);rotate_left
            ·show Act.put _ (some 19) _ = _
             (simp only [Act.put, sA]);rfl
            (refine pI (i := 8) (N := some 20) (v := ?_) (a' := ?_) (mB 25 511) rfl rfl HT_.out (by kernel_rfl) (fun _ _ _ h => h) rfl ?_ ?_ ?_);rotate_left
            ·intro w'
             go_simp;(with_reducible rfl)
            rotate_left
            ·simp only [Act.put, sA]
             rfl
            (refine pI (i := 9) (N := some 21) (v := ?_) (a' := ?_) (mB 25 1023) rfl rfl HT_.out (by kernel_rfl) (fun _ _ _ h => h) rfl ?_ ?_ ?_);rotate_left
            ·intro w'
             go_simp;(with_reducible rfl)
            rotate_left
            ·simp only [Act.put, sA]
             rfl
            (refine pI (i := 10) (N := some 22) (v := ?_) (a' := ?_) (mB 25 2047) rfl rfl HT_.out (by kernel_rfl) (fun _ _ _ h => h) rfl ?_ ?_ ?_);rotate_left
            ·intro w'
             go_simp;(with_reducible rfl)
            rotate_left
            ·simp only [Act.put, sA]
             rfl
            (refine pI (i := 11) (N := some 23) (v := ?_) (a' := ?_) (mB 25 4095) rfl rfl HT_.out (by kernel_rfl) (fun _ _ _ h => h) rfl ?_ ?_ ?_);rotate_left
            ·intro w'
             go_simp;(with_reducible rfl)
            rotate_left
            ·simp only [Act.put, sA]
             rfl
            (refine pI (i := 12) (N := some 24) (v := ?_) (a' := ?_) (mB 25 8191) rfl rfl HT_.out (by kernel_rfl) (fun _ _ _ h => h) rfl ?_ ?_ ?_);rotate_left
            ·intro w'
             go_simp;(with_reducible rfl)
            rotate_left
            ·simp only [Act.put, sA]
             rfl
            (refine pI (i := 13) (N := some 25) (v := ?_) (a' := ?_) (mB 25 16383) rfl rfl HT_.out (by kernel_rfl) (fun _ _ _ h => h) rfl ?_ ?_ ?_);rotate_left
            ·intro w'
             go_simp;(with_reducible rfl)
            rotate_left
            ·simp only [Act.put, sA]
             rfl
            (refine pI (i := 14) (N := some 26) (v := ?_) (a' := ?_) (mB 25 32767) rfl rfl HT_.out (by kernel_rfl) (fun _ _ _ h => h) rfl ?_ ?_ ?_);rotate_left
            ·intro w'
             go_simp;(with_reducible rfl)
            rotate_left
            ·simp only [Act.put, sA]
             rfl
            (refine pI (i := 15) (N := some 27) (v := ?_) (a' := ?_) (mB 25 65535) rfl rfl HT_.out (by kernel_rfl) (fun _ _ _ h => h) rfl ?_ ?_ ?_);rotate_left
            ·intro w'
             go_simp;(with_reducible rfl)
            rotate_left
            ·simp only [Act.put, sA]
             rfl
            (refine pI (i := 16) (N := some 28) (v := ?_) (a' := ?_) (mB 25 131071) rfl rfl HT_.out (by kernel_rfl) (fun _ _ _ h => h) rfl ?_ ?_ ?_);rotate_left
            ·intro w'
             go_simp;(with_reducible rfl)
            rotate_left
            ·simp only [Act.put, sA]
             rfl
            (refine pI (i := 17) (N := some 29) (v := ?_) (a' := ?_) (mB 25 262143) rfl rfl HT_.out (by kernel_rfl) (fun _ _ _ h => h) rfl ?_ ?_ ?_);rotate_left
            ·intro w'
             go_simp;(with_reducible rfl)
            rotate_left
            ·simp only [Act.put, sA]
             rfl
            (refine pI (i := 18) (N := some 30) (v := ?_) (a' := ?_) (mB 25 524287) rfl rfl HT_.out (by kernel_rfl) (fun _ _ _ h => h) rfl ?_ ?_ ?_);rotate_left
            ·intro w'
             go_simp;(with_reducible rfl)
            rotate_left
            ·simp only [Act.put, sA]
             rfl
            (refine pI (i := 20) (N := some 32) (v := ?_) (a' := ?_) (mB 25 1572863) rfl rfl HT_.out (by kernel_rfl) (fun _ _ _ h => h) rfl ?_ ?_ ?_);rotate_left
            ·intro w'
             go_simp;(with_reducible rfl)
            rotate_left
            ·simp only [Act.put, sA]
             rfl
            (refine tI (i := 19) (N := some 31) (v := ?_) (a' := ?_) (mB 25 2097151) rfl rfl HT_.out HW_.out (by kernel_rfl) (fun _ _ _ h => h) rfl ?_ hHeld ?_ ?_);rotate_left
            ·rintro w' ⟨s0, s1, s2, s3⟩
             go_simp;(with_reducible rfl)
            rotate_left
            ·simp only [Act.put, sA]
             rfl
            (refine tI (i := 21) (N := some 33) (v := ?_) (a' := ?_) (mB 25 4194303) rfl rfl HT_.out HW_.out (by kernel_rfl) (fun _ _ _ h => h) rfl ?_ hHeld ?_ ?_);rotate_left
            ·rintro w' ⟨s0, s1, s2, s3⟩
             go_simp;(with_reducible rfl)
            rotate_left
            ·simp only [Act.put, sA]
             rfl
            (refine pI (i := 22) (N := some 34) (v := ?_) (a' := ?_) (mB 25 8388607) rfl rfl HT_.out (by kernel_rfl) (fun _ _ _ h => h) rfl ?_ ?_ ?_);rotate_left
            ·intro w'
             go_simp;(with_reducible rfl)
            rotate_left
            ·simp only [Act.put, sA]
             rfl
            (refine pI (i := 23) (N := some 35) (v := ?_) (a' := ?_) (mB 25 16777215) rfl rfl HT_.out (by kernel_rfl) (fun _ _ _ h => h) rfl ?_ ?_ ?_);rotate_left
            ·intro w'
             go_simp;(with_reducible rfl)
            rotate_left
            ·simp only [Act.put, sA]
             rfl
            (refine pI (i := 24) (N := some 36) (v := ?_) (a' := ?_) (mB 25 33554431) rfl rfl HT_.out (by kernel_rfl) (fun _ _ _ h => h) rfl ?_ ?_ ?_);rotate_left
            ·intro w'
             go_simp;(with_reducible rfl)
            rotate_left
            ·simp only [Act.put, sA]
             rfl
            (refine done_ (done_of HT_.out (by kernel_rfl)) ?_);(try go_wp2);(go_ret);(exact ⟨by first | rfl | (simp [errW_none, errW_some] <;> rfl) | (simp only [← hji10]; first | rfl | (simp [errW_none, errW_some] <;> rfl)) | (simp [*, errW_none, errW_some] <;> rfl), zq52⟩)
           ·rw [if_neg c13] at H
            (have c13b0 : decide (((rd_T64 l0 x7_1).f0) ≤ ((rd_T64 l0 (ji10)).f0)) = false := decide_eq_false c13);clear c13;(have H' := Aside0.mk H);clear H;(have p144 : 0 ≤ (x7_1 : Int) := of_decide_eq_true zq26);(have q144 : x7_1 < (l0.length : Int) := of_decide_eq_true zq26);(obtain ⟨ad144, A144_1, c144_1, e144, hx144_0, hx144_1, hl144_1, hi144_1⟩ := at_T64 HR0.out x7_1 p144 q144)
            cases e144
            (replace hx144_0 := (HB.out.cell (World.block_lt_of_cell? w _ hx144_0)).trans hx144_0);(replace hx144_1 := (HB.out.cell (World.block_lt_of_cell? w _ hx144_1)).trans hx144_1);(have HR144_1 := Aside0.mk hi144_1);(have HC144_1 := Aside0.mk hl144_1);clear hi144_1 hl144_1;(replace p144 := eq_true p144);(replace q144 := eq_true q144);(try go_wp2_with (first | ((with_reducible refine gate_dst (N := 4) rfl ?_); refine box_event ?hg (N := 4) ?hd (cs := #[.int .i64 0, .slice none 0 0]) (t := 64) ?hr ?_; (case hd => rfl); (case hg => rfl); (case hr => first | (go_simp; done) | (go_simp; rfl)); intro gb145 hg w19 hbox hb; have n0_ := Aside0.mk (below_step zq55 hb); have n1_ := Aside0.mk (hbox); have n2_ := Aside0.mk ((zq90 : w.heap.size ≤ gb145)); have n3_ := Aside0.mk ((zq90 : w.heap.size ≤ gb145)); clear HB; have HB := n0_; have BK145 := n1_; have GW145 := n2_; have GE145 := n3_; clear n0_ n1_ n2_ n3_; clear hb hbox hg; have hcz20_0 : w19.cell? ⟨gb145, 0, none⟩ = some (.int .i64 0) := (blk_cell BK145.out 0).trans rfl; have hcz20_1 : w19.cell? ⟨gb145, 1, none⟩ = some (.slice none 0 0) := (blk_cell BK145.out 1).trans rfl; have hfz20_0 := blk_frozen BK145.out 0; have hfz20_1 := blk_frozen BK145.out 1)));(have n0_ : Aside0 (((w19.setCell ⟨gb145, 0, none⟩ (.int .i64 ((rd_T64 l0 x7_1).f0))).setCell ⟨gb145, 1, none⟩ (.slice A144_1 ((rd_T64 l0 x7_1).f1).length c144_1)).heap[gb145]? = some (.cells #[.int .i64 ((rd_T64 l0 x7_1).f0), .slice A144_1 ((rd_T64 l0 x7_1).f1).length c144_1] 64 (0, 0))) := ⟨zq24⟩);(have n1_ : Aside0 (Below w.heap.size w ((w19.setCell ⟨gb145, 0, none⟩ (.int .i64 ((rd_T64 l0 x7_1).f0))).setCell ⟨gb145, 1, none⟩ (.slice A144_1 ((rd_T64 l0 x7_1).f1).length c144_1))) := ⟨zq52⟩);(try clear BK145);(try clear HB);(generalize ((w19.setCell ⟨gb145, 0, none⟩ (.int .i64 ((rd_T64 l0 x7_1).f0))).setCell ⟨gb145, 1, none⟩ (.slice A144_1 ((rd_T64 l0 x7_1).f1).length c144_1)) = w21 at n0_ n1_ ⊢);(have BK145 := n0_);(have HB := n1_);clear n0_ n1_;(have n0_ := Aside0.mk (blk_drew BK145.out));(have n1_ := Aside0.mk (below_drew1 HB.out));clear BK145;clear HB;(have BK145 := n0_);(have HB := n1_);clear n0_ n1_;(have p148 : 0 ≤ ((ji10) : Int) := of_decide_eq_true zq26);(have q148 : (ji10) < (l0.length : Int) := of_decide_eq_true zq26);(obtain ⟨ad148, A148_1, c148_1, e148, hx148_0, hx148_1, hl148_1, hi148_1⟩ := at_T64 HR0.out (ji10) p148 q148);(have hw148_1 := hx148_1);(have hw148_0 := hx148_0);(obtain rfl : ad144 = ad148 := (by injection e148));(replace hx148_0 := (HB.out.cell (World.block_lt_of_cell? w _ hx148_0)).trans hx148_0);(replace hx148_1 := (HB.out.cell (World.block_lt_of_cell? w _ hx148_1)).trans hx148_1);(have HR148_1 := Aside0.mk hi148_1);(have HC148_1 := Aside0.mk hl148_1);clear hi148_1 hl148_1;(replace p148 := eq_true p148);(replace q148 := eq_true q148);(refine start_ (n := 25) (S := fun w' => w'.cell? ⟨gb145, 0, none⟩ = some (.int .i64 ((rd_T64 l0 x7_1).f0)) ∧ w'.cell? ⟨gb145, 1, none⟩ = some (.slice A144_1 ((rd_T64 l0 x7_1).f1).length c144_1) ∧ w'.cell? (ad144.add (((ji10)).toNat * 2)) = some (.int .i64 ((rd_T64 l0 (ji10)).f0)) ∧ w'.cell? ⟨(ad144.add (((ji10)).toNat * 2)).block, (ad144.add (((ji10)).toNat * 2)).off + 1, none⟩ = some (.slice A148_1 ((rd_T64 l0 (ji10)).f1).length c148_1)) (ds := []) #[false,false,false,false,false,false,false,false,false,false,false,false,false,false,false,false,false,false,false,false,false,false,false,false,false] (by kernel_rfl) rfl rfl ⟨(blk_cell BK145.out 0).trans rfl, (blk_cell BK145.out 1).trans rfl, ((HB.out.cell (World.block_lt_of_cell? w _ hw148_0)).trans hw148_0), ((HB.out.cell (World.block_lt_of_cell? w _ hw148_1)).trans hw148_1)⟩ (fun hHeld => ?_); refine with_tabW impl_ValidEditions.tab4 impl_ValidEditions.bits4 (fun HT_ HW_ => ?_));(generalize w21.drew = w22 at BK145 HB HR148_1 hx148_0 hx148_1 hHeld ⊢);(refine pI (i := 0) (N := some 12) (v := ?_) (a' := ?_) (mB 25 1) rfl rfl HT_.out (by kernel_rfl) (fun _ _ _ h => h) rfl ?_ ?_ ?_);rotate_left
            ·intro w'
             go_simp;(with_reducible rfl)
            rotate_left
            ·simp only [Act.put, sA]
             rfl
            (refine tI (i := 1) (N := some 13) (v := ?_) (a' := ?_) (mB 25 3) rfl rfl HT_.out HW_.out (by kernel_rfl) (fun _ _ _ h => h) rfl ?_ hHeld ?_ ?_);rotate_left
            ·rintro w' ⟨s0, s1, s2, s3⟩
             go_simp;(with_reducible rfl)
            rotate_left
            ·simp only [Act.put, sA]
             rfl
            (refine one_ (i := 2) (N := some 14) (mB 25 7) rfl rfl (one_of HT_.out (by kernel_rfl)) (by decide) (fun K hK => ?_));(refine goes_ Tryd.func99 (by kernel_rfl) rfl #[.int .i64 ((rd_T64 l0 x7_1).f0)] (by rfl) rfl rfl zq1 ?_);(with_reducible refine (impl_isYear.calls ((rd_T64 l0 x7_1).f0) true _ A5.out).mono ?_);(rintro e w' ⟨rfl, ⟨nd, rfl⟩⟩);(refine ⟨_, rfl, ?_⟩);(refine hK.out _ _ ⟨(blk_cell BK145.out 0).trans rfl, (blk_cell BK145.out 1).trans rfl, ((HB.out.cell (World.block_lt_of_cell? w _ hw148_0)).trans hw148_0), ((HB.out.cell (World.block_lt_of_cell? w _ hw148_1)).trans hw148_1)⟩ (fun hHeld => ?_));clear hK K;(refine norm_ (a' := ?_) ?_ ?_);rotate_left
            ·show Act.put _ (some 14) _ = _
             (simp only [Act.put, sA]);rfl
            (refine pI (i := 3) (N := some 15) (v := ?_) (a' := ?_) (mB 25 15) rfl rfl HT_.out (by kernel_rfl) (fun _ _ _ h => h) rfl ?_ ?_ ?_);rotate_left
            ·intro w'
             go_simp;(with_reducible rfl)
            rotate_left
            ·simp only [Act.put, sA]
             rfl
            (refine pI (i := 4) (N := some 16) (v := ?_) (a' := ?_) (mB 25 31) rfl rfl HT_.out (by kernel_rfl) (fun _ _ _ h => h) rfl ?_ ?_ ?_);rotate_left
            ·intro w'
             go_simp;(with_reducible rfl)
            rotate_left
            ·simp only [Act.put, sA]
             rfl
            (refine pI (i := 5) (N := some 17) (v := ?_) (a' := ?_) (mB 25 63) rfl rfl HT_.out (by kernel_rfl) (fun _ _ _ h => h) rfl ?_ ?_ ?_);rotate_left
            ·intro w'
             go_simp;(with_reducible rfl)
            rotate_left
            ·simp only [Act.put, sA]
             rfl
            (refine tI (i := 6) (N := some 18) (v := ?_) (a' := ?_) (mB 25 127) rfl rfl HT_.out HW_.out (by kernel_rfl) (fun _ _ _ h => h) rfl ?_ hHeld ?_ ?_);rotate_left
            ·rintro w' ⟨s0, s1, s2, s3⟩
             go_simp;(with_reducible rfl)
            rotate_left
            ·simp only [Act.put, sA]
             rfl
            (refine one_ (i := 7) (N := some 19) (mB 25 255) rfl rfl (one_of HT_.out (by kernel_rfl)) (by decide) (fun K hK => ?_));(refine goes_ Tryd.func94 (by kernel_rfl) rfl #[.slice A144_1 ((rd_T64 l0 x7_1).f1).length c144_1] (by rfl) rfl rfl zq1 ?_);(with_reducible refine (impl_areShown.calls k1 _ _ ((rd_T64 l0 x7_1).f1) true _ ?side1 ?side2 A7.out).mono ?_);((case side1 => exact zq66));((case side2 => exact HC144_1.out));(rintro e w23 ⟨rfl, hb⟩);(refine ⟨_, rfl, ?_⟩);(have n0_ := Aside0.mk (blk_below (g := gb145) (o := .cells #[.int .i64 ((rd_T64 l0 x7_1).f0), .slice A144_1 ((rd_T64 l0 x7_1).f1).length c144_1] 64 (0, 0)) zq21 hb));(have n1_ := Aside0.mk (below_step zq52 hb));clear BK145;clear HB;(have BK145 := n0_);(have HB := n1_);clear n0_ n1_;(try clear hb);(try clear hb2);(try clear hk);(try clear hi);(refine hK.out _ _ ⟨(blk_cell BK145.out 0).trans rfl, (blk_cell BK145.out 1).trans rfl, ((HB.out.cell (World.block_lt_of_cell? w _ hw148_0)).trans hw148_0), ((HB.out.cell (World.block_lt_of_cell? w _ hw148_1)).trans hw148_1)⟩ (fun hHeld => ?_));clear hK K;(refine norm_ (a' := ?_) ?_ ?_);rotate_left
            ·show Act.put _ (some 19) _ = _
             (simp only [Act.put, sA]);rfl
            (refine pI (i := 8) (N := some 20) (v := ?_) (a' := ?_) (mB 25 511) rfl rfl HT_.out (by kernel_rfl) (fun _ _ _ h => h) rfl ?_ ?_ ?_);rotate_left
            ·intro w'
             go_simp;(with_reducible rfl)
            rotate_left
            ·simp only [Act.put, sA]
             rfl
            (refine pI (i := 9) (N := some 21) (v := ?_) (a' := ?_) (mB 25 1023) rfl rfl HT_.out (by kernel_rfl) (fun _ _ _ h => h) rfl ?_ ?_ ?_);rotate_left
            ·intro w'
             go_simp;(with_reducible rfl)
            rotate_left
            ·simp only [Act.put, sA]
             rfl
            (refine pI (i := 10) (N := some 22) (v := ?_) (a' := ?_) (mB 25 2047) rfl rfl HT_.out (by kernel_rfl) (fun _ _ _ h => h) rfl ?_ ?_ ?_);rotate_left
            ·intro w'
             go_simp;(with_reducible rfl)
            rotate_left
            ·simp only [Act.put, sA]
             rfl
            (refine pI (i := 11) (N := some 23) (v := ?_) (a' := ?_) (mB 25 4095) rfl rfl HT_.out (by kernel_rfl) (fun _ _ _ h => h) rfl ?_ ?_ ?_);rotate_left
            ·intro w'
             go_simp;(with_reducible rfl)
            rotate_left
            ·simp only [Act.put, sA]
             rfl
            (refine pI (i := 12) (N := some 24) (v := ?_) (a' := ?_) (mB 25 8191) rfl rfl HT_.out (by kernel_rfl) (fun _ _ _ h => h) rfl ?_ ?_ ?_);rotate_left
            ·intro w'
             go_simp;(with_reducible rfl)
            rotate_left
            ·simp only [Act.put, sA]
             rfl
            (refine pI (i := 13) (N := some 25) (v := ?_) (a' := ?_) (mB 25 16383) rfl rfl HT_.out (by kernel_rfl) (fun _ _ _ h => h) rfl ?_ ?_ ?_);rotate_left
            ·intro w'
             go_simp;(with_reducible rfl)
            rotate_left
            ·simp only [Act.put, sA]
             rfl
            (refine pI (i := 14) (N := some 26) (v := ?_) (a' := ?_) (mB 25 32767) rfl rfl HT_.out (by kernel_rfl) (fun _ _ _ h => h) rfl ?_ ?_ ?_);rotate_left
            ·intro w'
             go_simp;(with_reducible rfl)
            rotate_left
            ·simp only [Act.put, sA]
             rfl
            (refine pI (i := 15) (N := some 27) (v := ?_) (a' := ?_) (mB 25 65535) rfl rfl HT_.out (by kernel_rfl) (fun _ _ _ h => h) rfl ?_ ?_ ?_);rotate_left
            ·intro w'
             go_simp;(with_reducible rfl)
            rotate_left
            ·simp only [Act.put, sA]
             rfl
            (refine pI (i := 16) (N := some 28) (v := ?_) (a' := ?_) (mB 25 131071) rfl rfl HT_.out (by kernel_rfl) (fun _ _ _ h => h) rfl ?_ ?_ ?_);rotate_left
            ·intro w'
             go_simp;(with_reducible rfl)
            rotate_left
            ·simp only [Act.put, sA]
             rfl
            (refine pI (i := 17) (N := some 29) (v := ?_) (a' := ?_) (mB 25 262143) rfl rfl HT_.out (by kernel_rfl) (fun _ _ _ h => h) rfl ?_ ?_ ?_);rotate_left
            ·intro w'
             go_simp;(with_reducible rfl)
            rotate_left
            ·simp only [Act.put, sA]
             rfl
            (refine pI (i := 18) (N := some 30) (v := ?_) (a' := ?_) (mB 25 524287) rfl rfl HT_.out (by kernel_rfl) (fun _ _ _ h => h) rfl ?_ ?_ ?_);rotate_left
            ·intro w'
             go_simp;(with_reducible rfl)
            rotate_left
            ·simp only [Act.put, sA]
             rfl
            (refine pI (i := 20) (N := some 32) (v := ?_) (a' := ?_) (mB 25 1572863) rfl rfl HT_.out (by kernel_rfl) (fun _ _ _ h => h) rfl ?_ ?_ ?_);rotate_left
            ·intro w'
             go_simp;(with_reducible rfl)
            rotate_left
            ·simp only [Act.put, sA]
             rfl
            (refine tI (i := 19) (N := some 31) (v := ?_) (a' := ?_) (mB 25 2097151) rfl rfl HT_.out HW_.out (by kernel_rfl) (fun _ _ _ h => h) rfl ?_ hHeld ?_ ?_);rotate_left
            ·rintro w' ⟨s0, s1, s2, s3⟩
             go_simp;(with_reducible rfl)
            rotate_left
            ·simp only [Act.put, sA]
             rfl
            (refine tI (i := 21) (N := some 33) (v := ?_) (a' := ?_) (mB 25 4194303) rfl rfl HT_.out HW_.out (by kernel_rfl) (fun _ _ _ h => h) rfl ?_ hHeld ?_ ?_);rotate_left
            ·rintro w' ⟨s0, s1, s2, s3⟩
             go_simp;(with_reducible rfl)
            rotate_left
            ·simp only [Act.put, sA]
             rfl
            (refine pI (i := 22) (N := some 34) (v := ?_) (a' := ?_) (mB 25 8388607) rfl rfl HT_.out (by kernel_rfl) (fun _ _ _ h => h) rfl ?_ ?_ ?_);rotate_left
            ·intro w'
             go_simp;(with_reducible rfl)
            rotate_left
            ·simp only [Act.put, sA]
             rfl
            (refine pI (i := 23) (N := some 35) (v := ?_) (a' := ?_) (mB 25 16777215) rfl rfl HT_.out (by kernel_rfl) (fun _ _ _ h => h) rfl ?_ ?_ ?_);rotate_left
            ·intro w'
             go_simp;(with_reducible rfl)
            rotate_left
            ·simp only [Act.put, sA]
             rfl
            (refine pI (i := 24) (N := some 36) (v := ?_) (a' := ?_) (mB 25 33554431) rfl rfl HT_.out (by kernel_rfl) (fun _ _ _ h => h) rfl ?_ ?_ ?_);rotate_left
            ·intro w'
             go_simp;(with_reducible rfl)
            rotate_left
            ·simp only [Act.put, sA]
             rfl
            (refine done_ (done_of HT_.out (by kernel_rfl)) ?_);(try go_wp2);(go_roundg k1)
            case measure => have := HK1.out; omega
            case rel => exact ⟨(wrap64 (x7_1 + 1)), zq35, H', ⟨zq41⟩, ⟨zq52⟩⟩
          ·rw [if_neg c12] at H
           exact absurd H (by simp)
         ·rw [if_neg c11] at H
          exact absurd H (by simp)
        ·rw [if_neg c9] at H
         (have c9b0 : decide (0 < x7_1) = false := decide_eq_false c9);clear c9;(have H' := Aside0.mk H);clear H;(have p144 : 0 ≤ (x7_1 : Int) := of_decide_eq_true zq26);(have q144 : x7_1 < (l0.length : Int) := of_decide_eq_true zq26);(obtain ⟨ad144, A144_1, c144_1, e144, hx144_0, hx144_1, hl144_1, hi144_1⟩ := at_T64 HR0.out x7_1 p144 q144)
         cases e144
         (replace hx144_0 := (HB.out.cell (World.block_lt_of_cell? w _ hx144_0)).trans hx144_0);(replace hx144_1 := (HB.out.cell (World.block_lt_of_cell? w _ hx144_1)).trans hx144_1);(have HR144_1 := Aside0.mk hi144_1);(have HC144_1 := Aside0.mk hl144_1);clear hi144_1 hl144_1;(replace p144 := eq_true p144);(replace q144 := eq_true q144);(try go_wp2_with (first | ((with_reducible refine gate_dst (N := 4) rfl ?_); refine box_event ?hg (N := 4) ?hd (cs := #[.int .i64 0, .slice none 0 0]) (t := 64) ?hr ?_; (case hd => rfl); (case hg => rfl); (case hr => first | (go_simp; done) | (go_simp; rfl)); intro gb145 hg w24 hbox hb; have n0_ := Aside0.mk (below_step zq55 hb); have n1_ := Aside0.mk (hbox); have n2_ := Aside0.mk ((zq90 : w.heap.size ≤ gb145)); have n3_ := Aside0.mk ((zq90 : w.heap.size ≤ gb145)); clear HB; have HB := n0_; have BK145 := n1_; have GW145 := n2_; have GE145 := n3_; clear n0_ n1_ n2_ n3_; clear hb hbox hg; have hcz25_0 : w24.cell? ⟨gb145, 0, none⟩ = some (.int .i64 0) := (blk_cell BK145.out 0).trans rfl; have hcz25_1 : w24.cell? ⟨gb145, 1, none⟩ = some (.slice none 0 0) := (blk_cell BK145.out 1).trans rfl; have hfz25_0 := blk_frozen BK145.out 0; have hfz25_1 := blk_frozen BK145.out 1)));(have n0_ : Aside0 (((w24.setCell ⟨gb145, 0, none⟩ (.int .i64 ((rd_T64 l0 x7_1).f0))).setCell ⟨gb145, 1, none⟩ (.slice A144_1 ((rd_T64 l0 x7_1).f1).length c144_1)).heap[gb145]? = some (.cells #[.int .i64 ((rd_T64 l0 x7_1).f0), .slice A144_1 ((rd_T64 l0 x7_1).f1).length c144_1] 64 (0, 0))) := ⟨zq24⟩);(have n1_ : Aside0 (Below w.heap.size w ((w24.setCell ⟨gb145, 0, none⟩ (.int .i64 ((rd_T64 l0 x7_1).f0))).setCell ⟨gb145, 1, none⟩ (.slice A144_1 ((rd_T64 l0 x7_1).f1).length c144_1))) := ⟨zq52⟩);(try clear BK145);(try clear HB);(generalize ((w24.setCell ⟨gb145, 0, none⟩ (.int .i64 ((rd_T64 l0 x7_1).f0))).setCell ⟨gb145, 1, none⟩ (.slice A144_1 ((rd_T64 l0 x7_1).f1).length c144_1)) = w26 at n0_ n1_ ⊢);(have BK145 := n0_);(have HB := n1_);clear n0_ n1_;(have n0_ := Aside0.mk (blk_drew BK145.out));(have n1_ := Aside0.mk (below_drew1 HB.out));clear BK145;clear HB;(have BK145 := n0_);(have HB := n1_);clear n0_ n1_;(refine start_ (n := 25) (S := fun w' => w'.cell? ⟨gb145, 0, none⟩ = some (.int .i64 ((rd_T64 l0 x7_1).f0)) ∧ w'.cell? ⟨gb145, 1, none⟩ = some (.slice A144_1 ((rd_T64 l0 x7_1).f1).length c144_1)) (ds := []) #[false,false,false,false,false,false,false,false,false,false,false,false,false,false,false,false,false,false,false,false,false,false,false,false,false] (by kernel_rfl) rfl rfl ⟨(blk_cell BK145.out 0).trans rfl, (blk_cell BK145.out 1).trans rfl⟩ (fun hHeld => ?_); refine with_tabW impl_ValidEditions.tab4 impl_ValidEditions.bits4 (fun HT_ HW_ => ?_));(generalize w26.drew = w27 at BK145 HB hHeld ⊢);(refine pI (i := 0) (N := some 12) (v := ?_) (a' := ?_) (mB 25 1) rfl rfl HT_.out (by kernel_rfl) (fun _ _ _ h => h) rfl ?_ ?_ ?_);rotate_left
         ·intro w'
          go_simp;(with_reducible rfl)
         rotate_left
         ·simp only [Act.put, sA]
          rfl
         (refine tI (i := 1) (N := some 13) (v := ?_) (a' := ?_) (mB 25 3) rfl rfl HT_.out HW_.out (by kernel_rfl) (fun _ _ _ h => h) rfl ?_ hHeld ?_ ?_);rotate_left
         ·rintro w' ⟨s0, s1⟩
          go_simp;(with_reducible rfl)
         rotate_left
         ·simp only [Act.put, sA]
          rfl
         (refine one_ (i := 2) (N := some 14) (mB 25 7) rfl rfl (one_of HT_.out (by kernel_rfl)) (by decide) (fun K hK => ?_));(refine goes_ Tryd.func99 (by kernel_rfl) rfl #[.int .i64 ((rd_T64 l0 x7_1).f0)] (by rfl) rfl rfl zq1 ?_);(with_reducible refine (impl_isYear.calls ((rd_T64 l0 x7_1).f0) true _ A5.out).mono ?_);(rintro e w' ⟨rfl, ⟨nd, rfl⟩⟩);(refine ⟨_, rfl, ?_⟩);(refine hK.out _ _ ⟨(blk_cell BK145.out 0).trans rfl, (blk_cell BK145.out 1).trans rfl⟩ (fun hHeld => ?_));clear hK K;(refine norm_ (a' := ?_) ?_ ?_);rotate_left
         ·show Act.put _ (some 14) _ = _
          (simp only [Act.put, sA]);rfl
         (refine pI (i := 3) (N := some 15) (v := ?_) (a' := ?_) (mB 25 15) rfl rfl HT_.out (by kernel_rfl) (fun _ _ _ h => h) rfl ?_ ?_ ?_);rotate_left
         ·intro w'
          go_simp;(with_reducible rfl)
         rotate_left
         ·simp only [Act.put, sA]
          rfl
         (refine pI (i := 4) (N := some 16) (v := ?_) (a' := ?_) (mB 25 31) rfl rfl HT_.out (by kernel_rfl) (fun _ _ _ h => h) rfl ?_ ?_ ?_);rotate_left
         ·intro w'
          go_simp;(with_reducible rfl)
         rotate_left
         ·simp only [Act.put, sA]
          rfl
         (refine pI (i := 5) (N := some 17) (v := ?_) (a' := ?_) (mB 25 63) rfl rfl HT_.out (by kernel_rfl) (fun _ _ _ h => h) rfl ?_ ?_ ?_);rotate_left
         ·intro w'
          go_simp;(with_reducible rfl)
         rotate_left
         ·simp only [Act.put, sA]
          rfl
         (refine tI (i := 6) (N := some 18) (v := ?_) (a' := ?_) (mB 25 127) rfl rfl HT_.out HW_.out (by kernel_rfl) (fun _ _ _ h => h) rfl ?_ hHeld ?_ ?_);rotate_left
         ·rintro w' ⟨s0, s1⟩
          go_simp;(with_reducible rfl)
         rotate_left
         ·simp only [Act.put, sA]
          rfl
         (refine one_ (i := 7) (N := some 19) (mB 25 255) rfl rfl (one_of HT_.out (by kernel_rfl)) (by decide) (fun K hK => ?_));(refine goes_ Tryd.func94 (by kernel_rfl) rfl #[.slice A144_1 ((rd_T64 l0 x7_1).f1).length c144_1] (by rfl) rfl rfl zq1 ?_);(with_reducible refine (impl_areShown.calls k1 _ _ ((rd_T64 l0 x7_1).f1) true _ ?side1 ?side2 A7.out).mono ?_);((case side1 => exact zq66));((case side2 => exact HC144_1.out));(rintro e w28 ⟨rfl, hb⟩);(refine ⟨_, rfl, ?_⟩);(have n0_ := Aside0.mk (blk_below (g := gb145) (o := .cells #[.int .i64 ((rd_T64 l0 x7_1).f0), .slice A144_1 ((rd_T64 l0 x7_1).f1).length c144_1] 64 (0, 0)) zq21 hb));(have n1_ := Aside0.mk (below_step zq52 hb));clear BK145;clear HB;(have BK145 := n0_);(have HB := n1_);clear n0_ n1_;(try clear hb);(try clear hb2);(try clear hk);(try clear hi);(refine hK.out _ _ ⟨(blk_cell BK145.out 0).trans rfl, (blk_cell BK145.out 1).trans rfl⟩ (fun hHeld => ?_));clear hK K;(refine norm_ (a' := ?_) ?_ ?_);rotate_left
         ·show Act.put _ (some 19) _ = _
          (simp only [Act.put, sA]);rfl
         (refine pI (i := 8) (N := some 20) (v := ?_) (a' := ?_) (mB 25 511) rfl rfl HT_.out (by kernel_rfl) (fun _ _ _ h => h) rfl ?_ ?_ ?_);rotate_left
         ·intro w'
          go_simp;(with_reducible rfl)
         rotate_left
         ·simp only [Act.put, sA]
          rfl
         (refine pI (i := 9) (N := some 21) (v := ?_) (a' := ?_) (mB 25 1023) rfl rfl HT_.out (by kernel_rfl) (fun _ _ _ h => h) rfl ?_ ?_ ?_);rotate_left
         ·intro w'
          go_simp;(with_reducible rfl)
         rotate_left
         ·simp only [Act.put, sA]
          rfl
         (refine pI (i := 10) (N := some 22) (v := ?_) (a' := ?_) (mB 25 2047) rfl rfl HT_.out (by kernel_rfl) (fun _ _ _ h => h) rfl ?_ ?_ ?_);rotate_left
         ·intro w'
          go_simp;(with_reducible rfl)
         rotate_left
         ·simp only [Act.put, sA]
          rfl
         (refine pI (i := 11) (N := some 23) (v := ?_) (a' := ?_) (mB 25 4095) rfl rfl HT_.out (by kernel_rfl) (fun _ _ _ h => h) rfl ?_ ?_ ?_);rotate_left
         ·intro w'
          go_simp;(with_reducible rfl)
         rotate_left
         ·simp only [Act.put, sA]
          rfl
         (refine pI (i := 12) (N := some 24) (v := ?_) (a' := ?_) (mB 25 8191) rfl rfl HT_.out (by kernel_rfl) (fun _ _ _ h => h) rfl ?_ ?_ ?_);rotate_left
         ·intro w'
          go_simp;(with_reducible rfl)
         rotate_left
         ·simp only [Act.put, sA]
          rfl
         (refine pI (i := 13) (N := some 25) (v := ?_) (a' := ?_) (mB 25 16383) rfl rfl HT_.out (by kernel_rfl) (fun _ _ _ h => h) rfl ?_ ?_ ?_);rotate_left
         ·intro w'
          go_simp;(with_reducible rfl)
         rotate_left
         ·simp only [Act.put, sA]
          rfl
         (refine pU (i := 14) (N := some 26) (a' := ?_) (mB 25 32767) rfl rfl HT_.out (by kernel_rfl) (fun _ _ _ h => h) rfl ?_ ?_);rotate_left
         ·simp only [Act.put, sA]
          rfl
         (refine pU (i := 15) (N := some 27) (a' := ?_) (mB 25 65535) rfl rfl HT_.out (by kernel_rfl) (fun _ _ _ h => h) rfl ?_ ?_);rotate_left
         ·simp only [Act.put, sA]
          rfl
         (refine pU (i := 16) (N := some 28) (a' := ?_) (mB 25 131071) rfl rfl HT_.out (by kernel_rfl) (fun _ _ _ h => h) rfl ?_ ?_);rotate_left
         ·simp only [Act.put, sA]
          rfl
         (refine pU (i := 17) (N := some 29) (a' := ?_) (mB 25 262143) rfl rfl HT_.out (by kernel_rfl) (fun _ _ _ h => h) rfl ?_ ?_);rotate_left
         ·simp only [Act.put, sA]
          rfl
         (refine pU (i := 18) (N := some 30) (a' := ?_) (mB 25 524287) rfl rfl HT_.out (by kernel_rfl) (fun _ _ _ h => h) rfl ?_ ?_);rotate_left
         ·simp only [Act.put, sA]
          rfl
         (refine pU (i := 19) (N := some 31) (a' := ?_) (mB 25 1048575) rfl rfl HT_.out (by kernel_rfl) (fun _ _ _ h => h) rfl ?_ ?_);rotate_left
         ·simp only [Act.put, sA]
          rfl
         (refine pU (i := 20) (N := some 32) (a' := ?_) (mB 25 2097151) rfl rfl HT_.out (by kernel_rfl) (fun _ _ _ h => h) rfl ?_ ?_);rotate_left
         ·simp only [Act.put, sA]
          rfl
         (refine pU (i := 21) (N := some 33) (a' := ?_) (mB 25 4194303) rfl rfl HT_.out (by kernel_rfl) (fun _ _ _ h => h) rfl ?_ ?_);rotate_left
         ·simp only [Act.put, sA]
          rfl
         (refine pU (i := 22) (N := some 34) (a' := ?_) (mB 25 8388607) rfl rfl HT_.out (by kernel_rfl) (fun _ _ _ h => h) rfl ?_ ?_);rotate_left
         ·simp only [Act.put, sA]
          rfl
         (refine pI (i := 23) (N := some 35) (v := ?_) (a' := ?_) (mB 25 16777215) rfl rfl HT_.out (by kernel_rfl) (fun _ _ _ h => h) rfl ?_ ?_ ?_);rotate_left
         ·intro w'
          go_simp;(with_reducible rfl)
         rotate_left
         ·simp only [Act.put, sA]
          rfl
         (refine pI (i := 24) (N := some 36) (v := ?_) (a' := ?_) (mB 25 33554431) rfl rfl HT_.out (by kernel_rfl) (fun _ _ _ h => h) rfl ?_ ?_ ?_);rotate_left
         ·intro w'
          go_simp;(with_reducible rfl)
         rotate_left
         ·simp only [Act.put, sA]
          rfl
         (refine done_ (done_of HT_.out (by kernel_rfl)) ?_);(try go_wp2);(go_roundg k1)
         case measure => have := HK1.out; omega
         case rel => exact ⟨(wrap64 (x7_1 + 1)), zq35, H', ⟨zq41⟩, ⟨zq52⟩⟩
       ·replace c8 := Bool.eq_false_iff.mpr c8
        subst c8;(have H1 : (some false) = some r := zq92);clear H;(have H := H1);clear H1;(obtain rfl := Option.some.inj H);(have p144 : 0 ≤ (x7_1 : Int) := of_decide_eq_true zq26);(have q144 : x7_1 < (l0.length : Int) := of_decide_eq_true zq26);(obtain ⟨ad144, A144_1, c144_1, e144, hx144_0, hx144_1, hl144_1, hi144_1⟩ := at_T64 HR0.out x7_1 p144 q144)
        cases e144
        (replace hx144_0 := (HB.out.cell (World.block_lt_of_cell? w _ hx144_0)).trans hx144_0);(replace hx144_1 := (HB.out.cell (World.block_lt_of_cell? w _ hx144_1)).trans hx144_1);(have HR144_1 := Aside0.mk hi144_1);(have HC144_1 := Aside0.mk hl144_1);clear hi144_1 hl144_1;(replace p144 := eq_true p144);(replace q144 := eq_true q144);(try go_wp2_with (first | ((with_reducible refine gate_dst (N := 4) rfl ?_); refine box_event ?hg (N := 4) ?hd (cs := #[.int .i64 0, .slice none 0 0]) (t := 64) ?hr ?_; (case hd => rfl); (case hg => rfl); (case hr => first | (go_simp; done) | (go_simp; rfl)); intro gb145 hg w29 hbox hb; have n0_ := Aside0.mk (below_step zq55 hb); have n1_ := Aside0.mk (hbox); have n2_ := Aside0.mk ((zq90 : w.heap.size ≤ gb145)); have n3_ := Aside0.mk ((zq90 : w.heap.size ≤ gb145)); clear HB; have HB := n0_; have BK145 := n1_; have GW145 := n2_; have GE145 := n3_; clear n0_ n1_ n2_ n3_; clear hb hbox hg; have hcz30_0 : w29.cell? ⟨gb145, 0, none⟩ = some (.int .i64 0) := (blk_cell BK145.out 0).trans rfl; have hcz30_1 : w29.cell? ⟨gb145, 1, none⟩ = some (.slice none 0 0) := (blk_cell BK145.out 1).trans rfl; have hfz30_0 := blk_frozen BK145.out 0; have hfz30_1 := blk_frozen BK145.out 1)));(have n0_ : Aside0 (((w29.setCell ⟨gb145, 0, none⟩ (.int .i64 ((rd_T64 l0 x7_1).f0))).setCell ⟨gb145, 1, none⟩ (.slice A144_1 ((rd_T64 l0 x7_1).f1).length c144_1)).heap[gb145]? = some (.cells #[.int .i64 ((rd_T64 l0 x7_1).f0), .slice A144_1 ((rd_T64 l0 x7_1).f1).length c144_1] 64 (0, 0))) := ⟨zq24⟩);(have n1_ : Aside0 (Below w.heap.size w ((w29.setCell ⟨gb145, 0, none⟩ (.int .i64 ((rd_T64 l0 x7_1).f0))).setCell ⟨gb145, 1, none⟩ (.slice A144_1 ((rd_T64 l0 x7_1).f1).length c144_1))) := ⟨zq52⟩);(try clear BK145);(try clear HB);(generalize ((w29.setCell ⟨gb145, 0, none⟩ (.int .i64 ((rd_T64 l0 x7_1).f0))).setCell ⟨gb145, 1, none⟩ (.slice A144_1 ((rd_T64 l0 x7_1).f1).length c144_1)) = w31 at n0_ n1_ ⊢);(have BK145 := n0_);(have HB := n1_);clear n0_ n1_;(have n0_ := Aside0.mk (blk_drew BK145.out));(have n1_ := Aside0.mk (below_drew1 HB.out));clear BK145;clear HB;(have BK145 := n0_);(have HB := n1_);clear n0_ n1_;(refine start_ (n := 25) (S := fun w' => w'.cell? ⟨gb145, 0, none⟩ = some (.int .i64 ((rd_T64 l0 x7_1).f0)) ∧ w'.cell? ⟨gb145, 1, none⟩ = some (.slice A144_1 ((rd_T64 l0 x7_1).f1).length c144_1)) (ds := []) #[false,false,false,false,false,false,false,false,false,false,false,false,false,false,false,false,false,false,false,false,false,false,false,false,false] (by kernel_rfl) rfl rfl ⟨(blk_cell BK145.out 0).trans rfl, (blk_cell BK145.out 1).trans rfl⟩ (fun hHeld => ?_); refine with_tabW impl_ValidEditions.tab4 impl_ValidEditions.bits4 (fun HT_ HW_ => ?_));(generalize w31.drew = w32 at BK145 HB hHeld ⊢);(refine pI (i := 0) (N := some 12) (v := ?_) (a' := ?_) (mB 25 1) rfl rfl HT_.out (by kernel_rfl) (fun _ _ _ h => h) rfl ?_ ?_ ?_);rotate_left
        ·intro w'
         go_simp;(with_reducible rfl)
        rotate_left
        ·simp only [Act.put, sA]
         rfl
        (refine tI (i := 1) (N := some 13) (v := ?_) (a' := ?_) (mB 25 3) rfl rfl HT_.out HW_.out (by kernel_rfl) (fun _ _ _ h => h) rfl ?_ hHeld ?_ ?_);rotate_left
        ·rintro w' ⟨s0, s1⟩
         go_simp;(with_reducible rfl)
        rotate_left
        ·simp only [Act.put, sA]
         rfl
        (refine one_ (i := 2) (N := some 14) (mB 25 7) rfl rfl (one_of HT_.out (by kernel_rfl)) (by decide) (fun K hK => ?_));(refine goes_ Tryd.func99 (by kernel_rfl) rfl #[.int .i64 ((rd_T64 l0 x7_1).f0)] (by rfl) rfl rfl zq1 ?_);(with_reducible refine (impl_isYear.calls ((rd_T64 l0 x7_1).f0) true _ A5.out).mono ?_);(rintro e w' ⟨rfl, ⟨nd, rfl⟩⟩);(refine ⟨_, rfl, ?_⟩);(refine hK.out _ _ ⟨(blk_cell BK145.out 0).trans rfl, (blk_cell BK145.out 1).trans rfl⟩ (fun hHeld => ?_));clear hK K;(refine norm_ (a' := ?_) ?_ ?_);rotate_left
        ·show Act.put _ (some 14) _ = _
         (simp only [Act.put, sA]);rfl
        (refine pI (i := 3) (N := some 15) (v := ?_) (a' := ?_) (mB 25 15) rfl rfl HT_.out (by kernel_rfl) (fun _ _ _ h => h) rfl ?_ ?_ ?_);rotate_left
        ·intro w'
         go_simp;(with_reducible rfl)
        rotate_left
        ·simp only [Act.put, sA]
         rfl
        (refine pI (i := 4) (N := some 16) (v := ?_) (a' := ?_) (mB 25 31) rfl rfl HT_.out (by kernel_rfl) (fun _ _ _ h => h) rfl ?_ ?_ ?_);rotate_left
        ·intro w'
         go_simp;(with_reducible rfl)
        rotate_left
        ·simp only [Act.put, sA]
         rfl
        (refine pI (i := 5) (N := some 17) (v := ?_) (a' := ?_) (mB 25 63) rfl rfl HT_.out (by kernel_rfl) (fun _ _ _ h => h) rfl ?_ ?_ ?_);rotate_left
        ·intro w'
         go_simp;(with_reducible rfl)
        rotate_left
        ·simp only [Act.put, sA]
         rfl
        (refine tI (i := 6) (N := some 18) (v := ?_) (a' := ?_) (mB 25 127) rfl rfl HT_.out HW_.out (by kernel_rfl) (fun _ _ _ h => h) rfl ?_ hHeld ?_ ?_);rotate_left
        ·rintro w' ⟨s0, s1⟩
         go_simp;(with_reducible rfl)
        rotate_left
        ·simp only [Act.put, sA]
         rfl
        (refine one_ (i := 7) (N := some 19) (mB 25 255) rfl rfl (one_of HT_.out (by kernel_rfl)) (by decide) (fun K hK => ?_));(refine goes_ Tryd.func94 (by kernel_rfl) rfl #[.slice A144_1 ((rd_T64 l0 x7_1).f1).length c144_1] (by rfl) rfl rfl zq1 ?_);(with_reducible refine (impl_areShown.calls k1 _ _ ((rd_T64 l0 x7_1).f1) false _ ?side1 ?side2 A7.out).mono ?_);((case side1 => exact zq66));((case side2 => exact HC144_1.out));(rintro e w33 ⟨rfl, hb⟩);(refine ⟨_, rfl, ?_⟩);(have n0_ := Aside0.mk (blk_below (g := gb145) (o := .cells #[.int .i64 ((rd_T64 l0 x7_1).f0), .slice A144_1 ((rd_T64 l0 x7_1).f1).length c144_1] 64 (0, 0)) zq21 hb));(have n1_ := Aside0.mk (below_step zq52 hb));clear BK145;clear HB;(have BK145 := n0_);(have HB := n1_);clear n0_ n1_;(try clear hb);(try clear hb2);(try clear hk);(try clear hi);(refine hK.out _ _ ⟨(blk_cell BK145.out 0).trans rfl, (blk_cell BK145.out 1).trans rfl⟩ (fun hHeld => ?_));clear hK K;(refine norm_ (a' := ?_) ?_ ?_);rotate_left
        ·show Act.put _ (some 19) _ = _
         (simp only [Act.put, sA]);rfl
        (refine pI (i := 8) (N := some 20) (v := ?_) (a' := ?_) (mB 25 511) rfl rfl HT_.out (by kernel_rfl) (fun _ _ _ h => h) rfl ?_ ?_ ?_);rotate_left
        ·intro w'
         go_simp;(with_reducible rfl)
        rotate_left
        ·simp only [Act.put, sA]
         rfl
        (refine pI (i := 9) (N := some 21) (v := ?_) (a' := ?_) (mB 25 1023) rfl rfl HT_.out (by kernel_rfl) (fun _ _ _ h => h) rfl ?_ ?_ ?_);rotate_left
        ·intro w'
         go_simp;(with_reducible rfl)
        rotate_left
        ·simp only [Act.put, sA]
         rfl
        (refine pI (i := 10) (N := some 22) (v := ?_) (a' := ?_) (mB 25 2047) rfl rfl HT_.out (by kernel_rfl) (fun _ _ _ h => h) rfl ?_ ?_ ?_);rotate_left
        ·intro w'
         go_simp;(with_reducible rfl)
        rotate_left
        ·simp only [Act.put, sA]
         rfl
        (refine pU (i := 11) (N := some 23) (a' := ?_) (mB 25 4095) rfl rfl HT_.out (by kernel_rfl) (fun _ _ _ h => h) rfl ?_ ?_);rotate_left
        ·simp only [Act.put, sA]
         rfl
        (refine pU (i := 12) (N := some 24) (a' := ?_) (mB 25 8191) rfl rfl HT_.out (by kernel_rfl) (fun _ _ _ h => h) rfl ?_ ?_);rotate_left
        ·simp only [Act.put, sA]
         rfl
        (refine pU (i := 13) (N := some 25) (a' := ?_) (mB 25 16383) rfl rfl HT_.out (by kernel_rfl) (fun _ _ _ h => h) rfl ?_ ?_);rotate_left
        ·simp only [Act.put, sA]
         rfl
        (refine pU (i := 14) (N := some 26) (a' := ?_) (mB 25 32767) rfl rfl HT_.out (by kernel_rfl) (fun _ _ _ h => h) rfl ?_ ?_);rotate_left
        ·simp only [Act.put, sA]
         rfl
        (refine pU (i := 15) (N := some 27) (a' := ?_) (mB 25 65535) rfl rfl HT_.out (by kernel_rfl) (fun _ _ _ h => h) rfl ?_ ?_);rotate_left
        ·simp only [Act.put, sA]
         rfl
        (refine pU (i := 16) (N := some 28) (a' := ?_) (mB 25 131071) rfl rfl HT_.out (by kernel_rfl) (fun _ _ _ h => h) rfl ?_ ?_);rotate_left
        ·simp only [Act.put, sA]
         rfl
        (refine pU (i := 17) (N := some 29) (a' := ?_) (mB 25 262143) rfl rfl HT_.out (by kernel_rfl) (fun _ _ _ h => h) rfl ?_ ?_);rotate_left
        ·simp only [Act.put, sA]
         rfl
        (refine pU (i := 18) (N := some 30) (a' := ?_) (mB 25 524287) rfl rfl HT_.out (by kernel_rfl) (fun _ _ _ h => h) rfl ?_ ?_);rotate_left
        ·simp only [Act.put, sA]
         rfl
        (refine pU (i := 19) (N := some 31) (a' := ?_) (mB 25 1048575) rfl rfl HT_.out (by kernel_rfl) (fun _ _ _ h => h) rfl ?_ ?_);rotate_left
        ·simp only [Act.put, sA]
         rfl
        (refine pU (i := 20) (N := some 32) (a' := ?_) (mB 25 2097151) rfl rfl HT_.out (by kernel_rfl) (fun _ _ _ h => h) rfl ?_ ?_);rotate_left
        ·simp only [Act.put, sA]
         rfl
        (refine pU (i := 21) (N := some 33) (a' := ?_) (mB 25 4194303) rfl rfl HT_.out (by kernel_rfl) (fun _ _ _ h => h) rfl ?_ ?_);rotate_left
        ·simp only [Act.put, sA]
         rfl
        (refine pU (i := 22) (N := some 34) (a' := ?_) (mB 25 8388607) rfl rfl HT_.out (by kernel_rfl) (fun _ _ _ h => h) rfl ?_ ?_);rotate_left
        ·simp only [Act.put, sA]
         rfl
        (refine pU (i := 23) (N := some 35) (a' := ?_) (mB 25 16777215) rfl rfl HT_.out (by kernel_rfl) (fun _ _ _ h => h) rfl ?_ ?_);rotate_left
        ·simp only [Act.put, sA]
         rfl
        (refine pI (i := 24) (N := some 36) (v := ?_) (a' := ?_) (mB 25 33554431) rfl rfl HT_.out (by kernel_rfl) (fun _ _ _ h => h) rfl ?_ ?_ ?_);rotate_left
        ·intro w'
         go_simp;(with_reducible rfl)
        rotate_left
        ·simp only [Act.put, sA]
         rfl
        (refine done_ (done_of HT_.out (by kernel_rfl)) ?_);(try go_wp2);(go_ret);(exact ⟨zq34, zq52⟩)
      ·replace c6 := Bool.eq_false_iff.mpr c6
       subst c6;(have H1 : (some false) = some r := zq92);clear H;(have H := H1);clear H1;(obtain rfl := Option.some.inj H);(have p144 : 0 ≤ (x7_1 : Int) := of_decide_eq_true zq26);(have q144 : x7_1 < (l0.length : Int) := of_decide_eq_true zq26);(obtain ⟨ad144, A144_1, c144_1, e144, hx144_0, hx144_1, hl144_1, hi144_1⟩ := at_T64 HR0.out x7_1 p144 q144)
       cases e144
       (replace hx144_0 := (HB.out.cell (World.block_lt_of_cell? w _ hx144_0)).trans hx144_0);(replace hx144_1 := (HB.out.cell (World.block_lt_of_cell? w _ hx144_1)).trans hx144_1);(have HR144_1 := Aside0.mk hi144_1);(have HC144_1 := Aside0.mk hl144_1);clear hi144_1 hl144_1;(replace p144 := eq_true p144);(replace q144 := eq_true q144);(try go_wp2_with (first | ((with_reducible refine gate_dst (N := 4) rfl ?_); refine box_event ?hg (N := 4) ?hd (cs := #[.int .i64 0, .slice none 0 0]) (t := 64) ?hr ?_; (case hd => rfl); (case hg => rfl); (case hr => first | (go_simp; done) | (go_simp; rfl)); intro gb145 hg w34 hbox hb; have n0_ := Aside0.mk (below_step zq55 hb); have n1_ := Aside0.mk (hbox); have n2_ := Aside0.mk ((zq90 : w.heap.size ≤ gb145)); have n3_ := Aside0.mk ((zq90 : w.heap.size ≤ gb145)); clear HB; have HB := n0_; have BK145 := n1_; have GW145 := n2_; have GE145 := n3_; clear n0_ n1_ n2_ n3_; clear hb hbox hg; have hcz35_0 : w34.cell? ⟨gb145, 0, none⟩ = some (.int .i64 0) := (blk_cell BK145.out 0).trans rfl; have hcz35_1 : w34.cell? ⟨gb145, 1, none⟩ = some (.slice none 0 0) := (blk_cell BK145.out 1).trans rfl; have hfz35_0 := blk_frozen BK145.out 0; have hfz35_1 := blk_frozen BK145.out 1)));(have n0_ : Aside0 (((w34.setCell ⟨gb145, 0, none⟩ (.int .i64 ((rd_T64 l0 x7_1).f0))).setCell ⟨gb145, 1, none⟩ (.slice A144_1 ((rd_T64 l0 x7_1).f1).length c144_1)).heap[gb145]? = some (.cells #[.int .i64 ((rd_T64 l0 x7_1).f0), .slice A144_1 ((rd_T64 l0 x7_1).f1).length c144_1] 64 (0, 0))) := ⟨zq24⟩);(have n1_ : Aside0 (Below w.heap.size w ((w34.setCell ⟨gb145, 0, none⟩ (.int .i64 ((rd_T64 l0 x7_1).f0))).setCell ⟨gb145, 1, none⟩ (.slice A144_1 ((rd_T64 l0 x7_1).f1).length c144_1))) := ⟨zq52⟩);(try clear BK145);(try clear HB);(generalize ((w34.setCell ⟨gb145, 0, none⟩ (.int .i64 ((rd_T64 l0 x7_1).f0))).setCell ⟨gb145, 1, none⟩ (.slice A144_1 ((rd_T64 l0 x7_1).f1).length c144_1)) = w36 at n0_ n1_ ⊢);(have BK145 := n0_);(have HB := n1_);clear n0_ n1_;(have n0_ := Aside0.mk (blk_drew BK145.out));(have n1_ := Aside0.mk (below_drew1 HB.out));clear BK145;clear HB;(have BK145 := n0_);(have HB := n1_);clear n0_ n1_;(refine start_ (n := 25) (S := fun w' => w'.cell? ⟨gb145, 0, none⟩ = some (.int .i64 ((rd_T64 l0 x7_1).f0)) ∧ w'.cell? ⟨gb145, 1, none⟩ = some (.slice A144_1 ((rd_T64 l0 x7_1).f1).length c144_1)) (ds := []) #[false,false,false,false,false,false,false,false,false,false,false,false,false,false,false,false,false,false,false,false,false,false,false,false,false] (by kernel_rfl) rfl rfl ⟨(blk_cell BK145.out 0).trans rfl, (blk_cell BK145.out 1).trans rfl⟩ (fun hHeld => ?_); refine with_tabW impl_ValidEditions.tab4 impl_ValidEditions.bits4 (fun HT_ HW_ => ?_));(generalize w36.drew = w37 at BK145 HB hHeld ⊢);(refine pI (i := 0) (N := some 12) (v := ?_) (a' := ?_) (mB 25 1) rfl rfl HT_.out (by kernel_rfl) (fun _ _ _ h => h) rfl ?_ ?_ ?_);rotate_left
       ·intro w'
        go_simp;(with_reducible rfl)
       rotate_left
       ·simp only [Act.put, sA]
        rfl
       (refine tI (i := 1) (N := some 13) (v := ?_) (a' := ?_) (mB 25 3) rfl rfl HT_.out HW_.out (by kernel_rfl) (fun _ _ _ h => h) rfl ?_ hHeld ?_ ?_);rotate_left
       ·rintro w' ⟨s0, s1⟩
        go_simp;(with_reducible rfl)
       rotate_left
       ·simp only [Act.put, sA]
        rfl
       (refine one_ (i := 2) (N := some 14) (mB 25 7) rfl rfl (one_of HT_.out (by kernel_rfl)) (by decide) (fun K hK => ?_));(refine goes_ Tryd.func99 (by kernel_rfl) rfl #[.int .i64 ((rd_T64 l0 x7_1).f0)] (by rfl) rfl rfl zq1 ?_);(with_reducible refine (impl_isYear.calls ((rd_T64 l0 x7_1).f0) false _ A5.out).mono ?_);(rintro e w' ⟨rfl, ⟨nd, rfl⟩⟩);(refine ⟨_, rfl, ?_⟩);(refine hK.out _ _ ⟨(blk_cell BK145.out 0).trans rfl, (blk_cell BK145.out 1).trans rfl⟩ (fun hHeld => ?_));clear hK K;(refine norm_ (a' := ?_) ?_ ?_);rotate_left
       ·show Act.put _ (some 14) _ = _
        (simp only [Act.put, sA]);rfl
       (refine pI (i := 3) (N := some 15) (v := ?_) (a' := ?_) (mB 25 15) rfl rfl HT_.out (by kernel_rfl) (fun _ _ _ h => h) rfl ?_ ?_ ?_);rotate_left
       ·intro w'
        go_simp;(with_reducible rfl)
       rotate_left
       ·simp only [Act.put, sA]
        rfl
       (refine pI (i := 4) (N := some 16) (v := ?_) (a' := ?_) (mB 25 31) rfl rfl HT_.out (by kernel_rfl) (fun _ _ _ h => h) rfl ?_ ?_ ?_);rotate_left
       ·intro w'
        go_simp;(with_reducible rfl)
       rotate_left
       ·simp only [Act.put, sA]
        rfl
       (refine pU (i := 5) (N := some 17) (a' := ?_) (mB 25 63) rfl rfl HT_.out (by kernel_rfl) (fun _ _ _ h => h) rfl ?_ ?_);rotate_left
       ·simp only [Act.put, sA]
        rfl
       (refine pU (i := 6) (N := some 18) (a' := ?_) (mB 25 127) rfl rfl HT_.out (by kernel_rfl) (fun _ _ _ h => h) rfl ?_ ?_);rotate_left
       ·simp only [Act.put, sA]
        rfl
       (refine pU (i := 7) (N := some 19) (a' := ?_) (mB 25 255) rfl rfl HT_.out (by kernel_rfl) (fun _ _ _ h => h) rfl ?_ ?_);rotate_left
       ·simp only [Act.put, sA]
        rfl
       (refine pU (i := 8) (N := some 20) (a' := ?_) (mB 25 511) rfl rfl HT_.out (by kernel_rfl) (fun _ _ _ h => h) rfl ?_ ?_);rotate_left
       ·simp only [Act.put, sA]
        rfl
       (refine pI (i := 9) (N := some 21) (v := ?_) (a' := ?_) (mB 25 1023) rfl rfl HT_.out (by kernel_rfl) (fun _ _ _ h => h) rfl ?_ ?_ ?_);rotate_left
       ·intro w'
        go_simp;(with_reducible rfl)
       rotate_left
       ·simp only [Act.put, sA]
        rfl
       (refine pI (i := 10) (N := some 22) (v := ?_) (a' := ?_) (mB 25 2047) rfl rfl HT_.out (by kernel_rfl) (fun _ _ _ h => h) rfl ?_ ?_ ?_);rotate_left
       ·intro w'
        go_simp;(with_reducible rfl)
       rotate_left
       ·simp only [Act.put, sA]
        rfl
       (refine pU (i := 11) (N := some 23) (a' := ?_) (mB 25 4095) rfl rfl HT_.out (by kernel_rfl) (fun _ _ _ h => h) rfl ?_ ?_);rotate_left
       ·simp only [Act.put, sA]
        rfl
       (refine pU (i := 12) (N := some 24) (a' := ?_) (mB 25 8191) rfl rfl HT_.out (by kernel_rfl) (fun _ _ _ h => h) rfl ?_ ?_);rotate_left
       ·simp only [Act.put, sA]
        rfl
       (refine pU (i := 13) (N := some 25) (a' := ?_) (mB 25 16383) rfl rfl HT_.out (by kernel_rfl) (fun _ _ _ h => h) rfl ?_ ?_);rotate_left
       ·simp only [Act.put, sA]
        rfl
       (refine pU (i := 14) (N := some 26) (a' := ?_) (mB 25 32767) rfl rfl HT_.out (by kernel_rfl) (fun _ _ _ h => h) rfl ?_ ?_);rotate_left
       ·simp only [Act.put, sA]
        rfl
       (refine pU (i := 15) (N := some 27) (a' := ?_) (mB 25 65535) rfl rfl HT_.out (by kernel_rfl) (fun _ _ _ h => h) rfl ?_ ?_);rotate_left
       ·simp only [Act.put, sA]
        rfl
       (refine pU (i := 16) (N := some 28) (a' := ?_) (mB 25 131071) rfl rfl HT_.out (by kernel_rfl) (fun _ _ _ h => h) rfl ?_ ?_);rotate_left
       ·simp only [Act.put, sA]
        rfl
       (refine pU (i := 17) (N := some 29) (a' := ?_) (mB 25 262143) rfl rfl HT_.out (by kernel_rfl) (fun _ _ _ h => h) rfl ?_ ?_);rotate_left
       ·simp only [Act.put, sA]
        rfl
       (refine pU (i := 18) (N := some 30) (a' := ?_) (mB 25 524287) rfl rfl HT_.out (by kernel_rfl) (fun _ _ _ h => h) rfl ?_ ?_);rotate_left
       ·simp only [Act.put, sA]
        rfl
       (refine pU (i := 19) (N := some 31) (a' := ?_) (mB 25 1048575) rfl rfl HT_.out (by kernel_rfl) (fun _ _ _ h => h) rfl ?_ ?_);rotate_left
       ·simp only [Act.put, sA]
        rfl
       (refine pU (i := 20) (N := some 32) (a' := ?_) (mB 25 2097151) rfl rfl HT_.out (by kernel_rfl) (fun _ _ _ h => h) rfl ?_ ?_);rotate_left
       ·simp only [Act.put, sA]
        rfl
       (refine pU (i := 21) (N := some 33) (a' := ?_) (mB 25 4194303) rfl rfl HT_.out (by kernel_rfl) (fun _ _ _ h => h) rfl ?_ ?_);rotate_left
       ·simp only [Act.put, sA]
        rfl
       (refine pU (i := 22) (N := some 34) (a' := ?_) (mB 25 8388607) rfl rfl HT_.out (by kernel_rfl) (fun _ _ _ h => h) rfl ?_ ?_);rotate_left
       ·simp only [Act.put, sA]
        rfl
       (refine pU (i := 23) (N := some 35) (a' := ?_) (mB 25 16777215) rfl rfl HT_.out (by kernel_rfl) (fun _ _ _ h => h) rfl ?_ ?_);rotate_left
       ·simp only [Act.put, sA]
        rfl
       (refine pI (i := 24) (N := some 36) (v := ?_) (a' := ?_) (mB 25 33554431) rfl rfl HT_.out (by kernel_rfl) (fun _ _ _ h => h) rfl ?_ ?_ ?_);rotate_left
       ·intro w'
        go_simp;(with_reducible rfl)
       rotate_left
       ·simp only [Act.put, sA]
        rfl
       (refine done_ (done_of HT_.out (by kernel_rfl)) ?_);(try go_wp2);(go_ret);(exact ⟨zq34, zq52⟩)
     ·rw [if_neg c4] at H
      exact absurd H (by simp)
    ·rw [if_neg c3] at H
     exact absurd H (by simp)
   ·rw [if_neg c2] at H
    (have c2b0 : decide (x7_1 < (l0.length : Int)) = false := decide_eq_false c2);clear c2;(obtain rfl := Option.some.inj H);(go_wp2);(go_ret);(exact ⟨zq34, zq55⟩)

end Go.Proofs.YtalmeecdjhelkaaDoor.PFnEditions
