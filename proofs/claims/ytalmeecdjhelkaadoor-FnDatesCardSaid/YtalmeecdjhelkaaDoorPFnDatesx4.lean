-- Made by a program of this session (gprint.py) out of the kit's print of the translation and texts of my own. SLIM
import Derived.Test.YtalmeecdjhelkaaDoorPFnDatesx0
import Derived.Test.YtalmeecdjhelkaaDoorPFnDatesx1
namespace Go.Proofs.YtalmeecdjhelkaaDoor.PFnDates
open Go.RowKit Go.Proofs.YtalmeecdjhelkaaDoorW.PrintWords Go.Proofs.YtalmeecdjhelkaaDoorW.PrintLast Go.Proofs.YtalmeecdjhelkaaDoorW.PrintMore
set_option maxHeartbeats 64000000
set_option maxRecDepth 100000
attribute [local go_sem] max2_int min2_int max_two min_two max_three min_three max_four min_four   -- for this text's walks alone
set_option linter.unusedVariables false
set_option linter.unusedSimpArgs false

/-! ### spec_l14Known: function 72 -/
def spec_l14Known.l0 : Nat → List (S90) → Int → Option (Bool)
 | 0, _, _ => none
 | k + 1, x0, x3 => if x3 < (x0.length : Int) then (if 0 ≤ x3 then ((spec_IsName.f k ((rd_T90 x0 x3).f0)).bind fun t119 => (if t119 = true then ((spec_l14Year.f ((rd_T90 x0 x3).f1)).bind fun t120 => (if t120 = true then ((spec_l00In.f ((rd_T90 x0 x3).f2) ((rd_T90 x0 x3).f1) 3000).bind fun t121 => (if t121 = true then (if x3 > 0 then (if 0 ≤ (wrap64 (x3 - 1)) then (if (wrap64 (x3 - 1)) < (x0.length : Int) then (if ((Op.bytesLess (((rd_T90 x0 (wrap64 (x3 - 1))).f0).toList) (((rd_T90 x0 x3).f0).toList)) = true) then (spec_l14Known.l0 k x0 (wrap64 (x3 + 1))) else (some false)) else (none)) else (none)) else (spec_l14Known.l0 k x0 (wrap64 (x3 + 1)))) else (some false))) else (some false))) else (some false))) else (none)) else (some (decide ((x0.length : Int) ≤ 30)))
def spec_l14Known.f (k : Nat) (l0 : List (S90)) : Option (Bool) := spec_l14Known.l0 k l0 0
theorem spec_l14Known.mono_l : ∀ k, (∀ y0 y1, LeO (spec_l14Known.l0 k y0 y1) (spec_l14Known.l0 (k + 1) y0 y1))
 | 0 => fun _ _ r h => by simp [spec_l14Known.l0] at h
 | k + 1 => by
  have ih0 := spec_l14Known.mono_l k
  ·intro y0 y1
   unfold spec_l14Known.l0
   repeat' first | with_reducible (first | exact ih0 _ _ | exact spec_IsName.mono _ _ | exact LeO.refl _ | exact LeO.none _ | refine LeO.ite ?_ ?_ | refine LeO.bind ?_ (fun _ => ?_)) | exact ih0 _ _ | exact spec_IsName.mono _ _ | exact LeO.none _ | refine LeO.ite ?_ ?_ | refine LeO.bind ?_ (fun _ => ?_)
theorem spec_l14Known.mono : ∀ a0 k, LeO (spec_l14Known.f k a0) (spec_l14Known.f (k + 1) a0) := by
 intro a0 k;(have ih0 := spec_l14Known.mono_l k);(unfold spec_l14Known.f)
 repeat' first | with_reducible (first | exact ih0 _ _ | exact spec_IsName.mono _ _ | exact LeO.refl _ | exact LeO.none _ | refine LeO.ite ?_ ?_ | refine LeO.bind ?_ (fun _ => ?_)) | exact ih0 _ _ | exact spec_IsName.mono _ _ | exact LeO.none _ | refine LeO.ite ?_ ?_ | refine LeO.bind ?_ (fun _ => ?_)
def spec_l14Known.T5 : Bool × List (List Nat × List Nat) := (true, [([], []), ([0], [0]), ([1], [1]), ([2], [2]), ([3, 2], [3]), ([4], [4]), ([5, 4], [4, 5]), ([6, 4, 4], [4, 6]), ([7, 4], [4, 7]), ([4, 8], [4, 8]), ([9, 7], [9]), ([10], [10]), ([11, 10], [10, 11]), ([10], [10]), ([13, 10], [10, 13]), ([12, 14, 10, 10], [10, 12, 14]), ([15, 10], [10, 15]), ([10, 16], [10, 16]), ([17, 15], [17]), ([18], [18]), ([19, 18], [18, 19]), ([20, 18, 18], [18, 20]), ([21], [21]), ([21], [21]), ([23, 21], [21, 23]), ([22, 24, 21], [21, 22, 24]), ([25, 21], [21, 25]), ([26, 21], [21, 26]), ([21], [21]), ([28, 21], [21, 28]), ([27, 29, 21], [21, 27, 29]), ([21, 30, 18], [18, 21, 30]), ([18, 31], [18, 31])])
def spec_l14Known.B5 : List Nat := [0, 1, 3, 7, 15, 31, 63, 127, 255, 511, 1023, 2047, 4095, 2047, 10239, 32767, 65535, 131071, 262143, 524287, 1048575, 2097151, 4194303, 4194303, 12582911, 33554431, 67108863, 134217727, 4194303, 272629759, 1073741823, 2147483647, 4294967295]
theorem spec_l14Known.tab5 : rtab .any (opsOf Tryd.f72 5) = spec_l14Known.T5 := by kernel_rfl
theorem spec_l14Known.bits5 : waitsOk spec_l14Known.T5.2 spec_l14Known.B5 = true := by kernel_rfl
theorem spec_l14Known.calls (k : Nat) (A0 : Option Addr) (c0 : Nat) (l0 : List (S90)) (r : Bool) (w : World) (hr0 : Kd.C k90 w A0 l0.length l0) (hc0 : l0.length ≤ c0) (h : spec_l14Known.f k l0 = some r) :
  Calls Tryd.prog 72 #[.slice A0 l0.length c0] w fun e w' => e = .returned (.bool r) ∧ Below w.heap.size w w' := by
 (have hu90 := Tryd.underlying90);(have HR0 := Aside0.mk hr0);(have HC0 := Aside0.mk hc0);clear hr0 hc0;(have HB := Aside0.mk (Below.refl w.heap.size w));(have H : (spec_l14Known.l0 k l0 0) = some r := h);clear h;(have H' := Aside0.mk H);clear H
 go_enter Tryd.func72, Tryd.ntmps72
 go_wp2
 go_loopg [3] k (fun kq v3 w' => ∃ (x3_1 : Int), v3 = .int .i64 x3_1 ∧ Aside0 (spec_l14Known.l0 kq l0 x3_1 = some r) ∧ Aside0 (kq ≤ k) ∧ Aside0 (Below w.heap.size w w'))
 case atStart => exact ⟨(0), zq28, H', ⟨Nat.le_refl _⟩, ⟨zq45⟩⟩
 case round =>
  clear H';(obtain ⟨x3_1, rfl, HA, HK1, HB⟩ := hrel)
  cases gk with
  | zero => exact absurd HA.out (by simp [spec_l14Known.l0])
  | succ k1 =>
   (have H := HA.out);clear HA;(simp only [spec_l14Known.l0] at H);(by_cases c2 : x3_1 < (l0.length : Int))
   ·rw [if_pos c2] at H
    (have c2b0 : decide (x3_1 < (l0.length : Int)) = true := decide_eq_true c2);clear c2;(by_cases c3 : 0 ≤ x3_1)
    ·rw [if_pos c3] at H
     (have c3b0 : decide (0 ≤ x3_1) = true := decide_eq_true c3);clear c3;(replace H := Option.bind_eq_some_iff.mp H);(obtain ⟨t119, A40, H⟩ := H);(replace H : (if t119 = true then ((spec_l14Year.f ((rd_T90 l0 x3_1).f1)).bind fun t120 => (if t120 = true then ((spec_l00In.f ((rd_T90 l0 x3_1).f2) ((rd_T90 l0 x3_1).f1) 3000).bind fun t121 => (if t121 = true then (if x3_1 > 0 then (if 0 ≤ (wrap64 (x3_1 - 1)) then (if (wrap64 (x3_1 - 1)) < (l0.length : Int) then (if ((Op.bytesLess (((rd_T90 l0 (wrap64 (x3_1 - 1))).f0).toList) (((rd_T90 l0 x3_1).f0).toList)) = true) then (spec_l14Known.l0 k1 l0 (wrap64 (x3_1 + 1))) else (some false)) else (none)) else (none)) else (spec_l14Known.l0 k1 l0 (wrap64 (x3_1 + 1)))) else (some false))) else (some false))) else (some false)) = some r := H);(have A4 := Aside0.mk A40);clear A40;(by_cases c5 : t119 = true)
     ·subst c5
      (have H1 : ((spec_l14Year.f ((rd_T90 l0 x3_1).f1)).bind fun t120 => (if t120 = true then ((spec_l00In.f ((rd_T90 l0 x3_1).f2) ((rd_T90 l0 x3_1).f1) 3000).bind fun t121 => (if t121 = true then (if x3_1 > 0 then (if 0 ≤ (wrap64 (x3_1 - 1)) then (if (wrap64 (x3_1 - 1)) < (l0.length : Int) then (if ((Op.bytesLess (((rd_T90 l0 (wrap64 (x3_1 - 1))).f0).toList) (((rd_T90 l0 x3_1).f0).toList)) = true) then (spec_l14Known.l0 k1 l0 (wrap64 (x3_1 + 1))) else (some false)) else (none)) else (none)) else (spec_l14Known.l0 k1 l0 (wrap64 (x3_1 + 1)))) else (some false))) else (some false))) = some r := zq80);clear H;(have H := H1);clear H1;(replace H := Option.bind_eq_some_iff.mp H);(obtain ⟨t120, A60, H⟩ := H);(replace H : (if t120 = true then ((spec_l00In.f ((rd_T90 l0 x3_1).f2) ((rd_T90 l0 x3_1).f1) 3000).bind fun t121 => (if t121 = true then (if x3_1 > 0 then (if 0 ≤ (wrap64 (x3_1 - 1)) then (if (wrap64 (x3_1 - 1)) < (l0.length : Int) then (if ((Op.bytesLess (((rd_T90 l0 (wrap64 (x3_1 - 1))).f0).toList) (((rd_T90 l0 x3_1).f0).toList)) = true) then (spec_l14Known.l0 k1 l0 (wrap64 (x3_1 + 1))) else (some false)) else (none)) else (none)) else (spec_l14Known.l0 k1 l0 (wrap64 (x3_1 + 1)))) else (some false))) else (some false)) = some r := H);(have A6 := Aside0.mk A60);clear A60;(by_cases c7 : t120 = true)
      ·subst c7
       (have H1 : ((spec_l00In.f ((rd_T90 l0 x3_1).f2) ((rd_T90 l0 x3_1).f1) 3000).bind fun t121 => (if t121 = true then (if x3_1 > 0 then (if 0 ≤ (wrap64 (x3_1 - 1)) then (if (wrap64 (x3_1 - 1)) < (l0.length : Int) then (if ((Op.bytesLess (((rd_T90 l0 (wrap64 (x3_1 - 1))).f0).toList) (((rd_T90 l0 x3_1).f0).toList)) = true) then (spec_l14Known.l0 k1 l0 (wrap64 (x3_1 + 1))) else (some false)) else (none)) else (none)) else (spec_l14Known.l0 k1 l0 (wrap64 (x3_1 + 1)))) else (some false))) = some r := zq80);clear H;(have H := H1);clear H1;(replace H := Option.bind_eq_some_iff.mp H);(obtain ⟨t121, A80, H⟩ := H);(replace H : (if t121 = true then (if x3_1 > 0 then (if 0 ≤ (wrap64 (x3_1 - 1)) then (if (wrap64 (x3_1 - 1)) < (l0.length : Int) then (if ((Op.bytesLess (((rd_T90 l0 (wrap64 (x3_1 - 1))).f0).toList) (((rd_T90 l0 x3_1).f0).toList)) = true) then (spec_l14Known.l0 k1 l0 (wrap64 (x3_1 + 1))) else (some false)) else (none)) else (none)) else (spec_l14Known.l0 k1 l0 (wrap64 (x3_1 + 1)))) else (some false)) = some r := H);(have A8 := Aside0.mk A80);clear A80;(by_cases c9 : t121 = true)
       ·subst c9
        (have H1 : (if x3_1 > 0 then (if 0 ≤ (wrap64 (x3_1 - 1)) then (if (wrap64 (x3_1 - 1)) < (l0.length : Int) then (if ((Op.bytesLess (((rd_T90 l0 (wrap64 (x3_1 - 1))).f0).toList) (((rd_T90 l0 x3_1).f0).toList)) = true) then (spec_l14Known.l0 k1 l0 (wrap64 (x3_1 + 1))) else (some false)) else (none)) else (none)) else (spec_l14Known.l0 k1 l0 (wrap64 (x3_1 + 1)))) = some r := zq80);clear H;(have H := H1);clear H1;(by_cases c10 : x3_1 > 0)
        ·rw [if_pos c10] at H
         (have c10b0 : decide (0 < x3_1) = true := decide_eq_true c10);clear c10;(obtain ⟨ji11, hji11⟩ : ∃ j_ : Int, (wrap64 (x3_1 - 1)) = j_ := ⟨_, rfl⟩);(replace H : (if 0 ≤ (ji11) then (if (ji11) < (l0.length : Int) then (if ((Op.bytesLess (((rd_T90 l0 (ji11)).f0).toList) (((rd_T90 l0 x3_1).f0).toList)) = true) then (spec_l14Known.l0 k1 l0 (wrap64 (x3_1 + 1))) else (some false)) else (none)) else (none)) = some r := by first | (rw [hji11] at H; exact H) | (simp only [hji11] at H ⊢; exact H));((try rw [hji11] at A4));((try rw [hji11] at A6));((try rw [hji11] at A8));(have hji11w : (IntKind.i64.wrap (x3_1 - 1)) = ji11 := (i64_w _).trans hji11);(by_cases c12 : 0 ≤ (ji11))
         ·rw [if_pos c12] at H
          (have c12b0 : decide (0 ≤ (ji11)) = true := decide_eq_true c12);clear c12;(by_cases c13 : (ji11) < (l0.length : Int))
          ·rw [if_pos c13] at H
           (have c13b0 : decide ((ji11) < (l0.length : Int)) = true := decide_eq_true c13);clear c13;(by_cases c14 : ((Op.bytesLess (((rd_T90 l0 (ji11)).f0).toList) (((rd_T90 l0 x3_1).f0).toList)) = true))
           ·rw [if_pos c14] at H
            (have c14b0 : (Op.bytesLess (((rd_T90 l0 (ji11)).f0).toList) (((rd_T90 l0 x3_1).f0).toList)) = true := c14);clear c14;(have H' := Aside0.mk H);clear H;(have p117 : 0 ≤ (x3_1 : Int) := of_decide_eq_true zq22);(have q117 : x3_1 < (l0.length : Int) := of_decide_eq_true zq22);(obtain ⟨ad117, e117, hx117_0, hx117_1, hx117_2⟩ := at_T90 HR0.out x3_1 p117 q117)
            cases e117
            (replace hx117_0 := (HB.out.cell (World.block_lt_of_cell? w _ hx117_0)).trans hx117_0);(replace hx117_1 := (HB.out.cell (World.block_lt_of_cell? w _ hx117_1)).trans hx117_1);(replace hx117_2 := (HB.out.cell (World.block_lt_of_cell? w _ hx117_2)).trans hx117_2);(replace p117 := eq_true p117);(replace q117 := eq_true q117);(try go_wp2_with (first | ((with_reducible refine gate_dst (N := 4) rfl ?_); refine box_event ?hg (N := 4) ?hd (cs := #[.string (⟨#[]⟩ : ByteArray), .int .i64 0, .int .i64 0]) (t := 90) ?hr ?_; (case hd => rfl); (case hg => rfl); (case hr => first | (go_simp; done) | (go_simp; rfl)); intro gb118 hg w15 hbox hb; have n0_ := Aside0.mk (below_step zq45 hb); have n1_ := Aside0.mk (hbox); have n2_ := Aside0.mk ((zq76 : w.heap.size ≤ gb118)); have n3_ := Aside0.mk ((zq76 : w.heap.size ≤ gb118)); clear HB; have HB := n0_; have BK118 := n1_; have GW118 := n2_; have GE118 := n3_; clear n0_ n1_ n2_ n3_; clear hb hbox hg; have hcz16_0 : w15.cell? ⟨gb118, 0, none⟩ = some (.string (⟨#[]⟩ : ByteArray)) := (blk_cell BK118.out 0).trans rfl; have hcz16_1 : w15.cell? ⟨gb118, 1, none⟩ = some (.int .i64 0) := (blk_cell BK118.out 1).trans rfl; have hcz16_2 : w15.cell? ⟨gb118, 2, none⟩ = some (.int .i64 0) := (blk_cell BK118.out 2).trans rfl; have hfz16_0 := blk_frozen BK118.out 0; have hfz16_1 := blk_frozen BK118.out 1; have hfz16_2 := blk_frozen BK118.out 2)));(have n0_ : Aside0 ((((w15.setCell ⟨gb118, 0, none⟩ (.string ((rd_T90 l0 x3_1).f0))).setCell ⟨gb118, 1, none⟩ (.int .i64 ((rd_T90 l0 x3_1).f1))).setCell ⟨gb118, 2, none⟩ (.int .i64 ((rd_T90 l0 x3_1).f2))).heap[gb118]? = some (.cells #[.string ((rd_T90 l0 x3_1).f0), .int .i64 ((rd_T90 l0 x3_1).f1), .int .i64 ((rd_T90 l0 x3_1).f2)] 90 (0, 0))) := ⟨zq17⟩);(have n1_ : Aside0 (Below w.heap.size w (((w15.setCell ⟨gb118, 0, none⟩ (.string ((rd_T90 l0 x3_1).f0))).setCell ⟨gb118, 1, none⟩ (.int .i64 ((rd_T90 l0 x3_1).f1))).setCell ⟨gb118, 2, none⟩ (.int .i64 ((rd_T90 l0 x3_1).f2)))) := ⟨zq41⟩);(try clear BK118);(try clear HB);(generalize (((w15.setCell ⟨gb118, 0, none⟩ (.string ((rd_T90 l0 x3_1).f0))).setCell ⟨gb118, 1, none⟩ (.int .i64 ((rd_T90 l0 x3_1).f1))).setCell ⟨gb118, 2, none⟩ (.int .i64 ((rd_T90 l0 x3_1).f2))) = w17 at n0_ n1_ ⊢);(have BK118 := n0_);(have HB := n1_);clear n0_ n1_;(have n0_ := Aside0.mk (blk_drew BK118.out));(have n1_ := Aside0.mk (below_drew1 HB.out));clear BK118;clear HB;(have BK118 := n0_);(have HB := n1_);clear n0_ n1_;(have p122 : 0 ≤ ((ji11) : Int) := of_decide_eq_true zq22);(have q122 : (ji11) < (l0.length : Int) := of_decide_eq_true zq22);(obtain ⟨ad122, e122, hx122_0, hx122_1, hx122_2⟩ := at_T90 HR0.out (ji11) p122 q122);(have hw122_2 := hx122_2);(have hw122_1 := hx122_1);(have hw122_0 := hx122_0);(obtain rfl : ad117 = ad122 := (by injection e122));(replace hx122_0 := (HB.out.cell (World.block_lt_of_cell? w _ hx122_0)).trans hx122_0);(replace hx122_1 := (HB.out.cell (World.block_lt_of_cell? w _ hx122_1)).trans hx122_1);(replace hx122_2 := (HB.out.cell (World.block_lt_of_cell? w _ hx122_2)).trans hx122_2);(replace p122 := eq_true p122);(replace q122 := eq_true q122);(refine start_ (n := 33) (S := fun w' => w'.cell? ⟨gb118, 0, none⟩ = some (.string ((rd_T90 l0 x3_1).f0)) ∧ w'.cell? ⟨gb118, 1, none⟩ = some (.int .i64 ((rd_T90 l0 x3_1).f1)) ∧ w'.cell? ⟨gb118, 2, none⟩ = some (.int .i64 ((rd_T90 l0 x3_1).f2)) ∧ w'.cell? (ad117.add (((ji11)).toNat * 3)) = some (.string ((rd_T90 l0 (ji11)).f0)) ∧ w'.cell? ⟨(ad117.add (((ji11)).toNat * 3)).block, (ad117.add (((ji11)).toNat * 3)).off + 1, none⟩ = some (.int .i64 ((rd_T90 l0 (ji11)).f1)) ∧ w'.cell? ⟨(ad117.add (((ji11)).toNat * 3)).block, (ad117.add (((ji11)).toNat * 3)).off + 2, none⟩ = some (.int .i64 ((rd_T90 l0 (ji11)).f2))) (ds := []) #[false,false,false,false,false,false,false,false,false,false,false,false,false,false,false,false,false,false,false,false,false,false,false,false,false,false,false,false,false,false,false,false,false] (by kernel_rfl) rfl rfl ⟨(blk_cell BK118.out 0).trans rfl, (blk_cell BK118.out 1).trans rfl, (blk_cell BK118.out 2).trans rfl, ((HB.out.cell (World.block_lt_of_cell? w _ hw122_0)).trans hw122_0), ((HB.out.cell (World.block_lt_of_cell? w _ hw122_1)).trans hw122_1), ((HB.out.cell (World.block_lt_of_cell? w _ hw122_2)).trans hw122_2)⟩ (fun hHeld => ?_); refine with_tabW spec_l14Known.tab5 spec_l14Known.bits5 (fun HT_ HW_ => ?_));(generalize w17.drew = w18 at BK118 HB hx122_0 hx122_1 hx122_2 hHeld ⊢);(refine pI (i := 0) (N := some 15) (v := ?_) (a' := ?_) (mB 33 1) rfl rfl HT_.out (by kernel_rfl) (fun _ _ _ h => h) rfl ?_ ?_ ?_);rotate_left
            ·intro w'
             go_simp;(with_reducible rfl)
            rotate_left
            ·simp only [Act.put, sA]
             rfl
            (refine tI (i := 1) (N := some 16) (v := ?_) (a' := ?_) (mB 33 3) rfl rfl HT_.out HW_.out (by kernel_rfl) (fun _ _ _ h => h) rfl ?_ hHeld ?_ ?_);rotate_left
            ·rintro w' ⟨s0, s1, s2, s3, s4, s5⟩
             go_simp;(with_reducible rfl)
            rotate_left
            ·simp only [Act.put, sA]
             rfl
            (refine one_ (i := 2) (N := some 17) (mB 33 7) rfl rfl (one_of HT_.out (by kernel_rfl)) (by decide) (fun K hK => ?_));(refine goes_ Tryd.func114 (by kernel_rfl) rfl #[.string ((rd_T90 l0 x3_1).f0)] (by rfl) rfl rfl zq0 ?_);(with_reducible refine (spec_IsName.calls k1 ((rd_T90 l0 x3_1).f0) true _ A4.out).mono ?_);(rintro e w' ⟨rfl, ⟨nd, rfl⟩⟩);(refine ⟨_, rfl, ?_⟩);(refine hK.out _ _ ⟨(blk_cell BK118.out 0).trans rfl, (blk_cell BK118.out 1).trans rfl, (blk_cell BK118.out 2).trans rfl, ((HB.out.cell (World.block_lt_of_cell? w _ hw122_0)).trans hw122_0), ((HB.out.cell (World.block_lt_of_cell? w _ hw122_1)).trans hw122_1), ((HB.out.cell (World.block_lt_of_cell? w _ hw122_2)).trans hw122_2)⟩ (fun hHeld => ?_));clear hK K;(refine norm_ (a' := ?_) ?_ ?_);rotate_left
            ·show Act.put _ (some 17) _ = _
             (simp only [Act.put, sA]);rfl
            (refine pI (i := 3) (N := some 18) (v := ?_) (a' := ?_) (mB 33 15) rfl rfl HT_.out (by kernel_rfl) (fun _ _ _ h => h) rfl ?_ ?_ ?_);rotate_left
            ·intro w'
             go_simp;(with_reducible rfl)
            rotate_left
            ·simp only [Act.put, sA]
             rfl
            (refine pI (i := 4) (N := some 19) (v := ?_) (a' := ?_) (mB 33 31) rfl rfl HT_.out (by kernel_rfl) (fun _ _ _ h => h) rfl ?_ ?_ ?_);rotate_left
            ·intro w'
             go_simp;(with_reducible rfl)
            rotate_left
            ·simp only [Act.put, sA]
             rfl
            (refine pI (i := 5) (N := some 20) (v := ?_) (a' := ?_) (mB 33 63) rfl rfl HT_.out (by kernel_rfl) (fun _ _ _ h => h) rfl ?_ ?_ ?_);rotate_left
            ·intro w'
             go_simp;(with_reducible rfl)
            rotate_left
            ·simp only [Act.put, sA]
             rfl
            (refine tI (i := 6) (N := some 21) (v := ?_) (a' := ?_) (mB 33 127) rfl rfl HT_.out HW_.out (by kernel_rfl) (fun _ _ _ h => h) rfl ?_ hHeld ?_ ?_);rotate_left
            ·rintro w' ⟨s0, s1, s2, s3, s4, s5⟩
             go_simp;(with_reducible rfl)
            rotate_left
            ·simp only [Act.put, sA]
             rfl
            (refine one_ (i := 7) (N := some 22) (mB 33 255) rfl rfl (one_of HT_.out (by kernel_rfl)) (by decide) (fun K hK => ?_));(refine goes_ Tryd.func100 (by kernel_rfl) rfl #[.int .i64 ((rd_T90 l0 x3_1).f1)] (by rfl) rfl rfl zq0 ?_);(with_reducible refine (spec_l14Year.calls ((rd_T90 l0 x3_1).f1) true _ A6.out).mono ?_);(rintro e w' ⟨rfl, ⟨nd, rfl⟩⟩);(refine ⟨_, rfl, ?_⟩);(refine hK.out _ _ ⟨(blk_cell BK118.out 0).trans rfl, (blk_cell BK118.out 1).trans rfl, (blk_cell BK118.out 2).trans rfl, ((HB.out.cell (World.block_lt_of_cell? w _ hw122_0)).trans hw122_0), ((HB.out.cell (World.block_lt_of_cell? w _ hw122_1)).trans hw122_1), ((HB.out.cell (World.block_lt_of_cell? w _ hw122_2)).trans hw122_2)⟩ (fun hHeld => ?_));clear hK K;(refine norm_ (a' := ?_) ?_ ?_);rotate_left
            ·show Act.put _ (some 22) _ = _
             (simp only [Act.put, sA]);rfl
            (refine pI (i := 8) (N := some 23) (v := ?_) (a' := ?_) (mB 33 511) rfl rfl HT_.out (by kernel_rfl) (fun _ _ _ h => h) rfl ?_ ?_ ?_);rotate_left
            ·intro w'
             go_simp;(with_reducible rfl)
            rotate_left
            ·simp only [Act.put, sA]
             rfl
            (refine pI (i := 9) (N := some 24) (v := ?_) (a' := ?_) (mB 33 1023) rfl rfl HT_.out (by kernel_rfl) (fun _ _ _ h => h) rfl ?_ ?_ ?_);rotate_left
            ·intro w'
             go_simp;(with_reducible rfl)
            rotate_left
            ·simp only [Act.put, sA]
             rfl
            (refine pI (i := 10) (N := some 25) (v := ?_) (a' := ?_) (mB 33 2047) rfl rfl HT_.out (by kernel_rfl) (fun _ _ _ h => h) rfl ?_ ?_ ?_);rotate_left
            ·intro w'
             go_simp;(with_reducible rfl)
            rotate_left
            ·simp only [Act.put, sA]
             rfl
            (refine pI (i := 11) (N := some 26) (v := ?_) (a' := ?_) (mB 33 4095) rfl rfl HT_.out (by kernel_rfl) (fun _ _ _ h => h) rfl ?_ ?_ ?_);rotate_left
            ·intro w'
             go_simp;(with_reducible rfl)
            rotate_left
            ·simp only [Act.put, sA]
             rfl
            (refine pI (i := 13) (N := some 28) (v := ?_) (a' := ?_) (mB 33 12287) rfl rfl HT_.out (by kernel_rfl) (fun _ _ _ h => h) rfl ?_ ?_ ?_);rotate_left
            ·intro w'
             go_simp;(with_reducible rfl)
            rotate_left
            ·simp only [Act.put, sA]
             rfl
            (refine tI (i := 12) (N := some 27) (v := ?_) (a' := ?_) (mB 33 16383) rfl rfl HT_.out HW_.out (by kernel_rfl) (fun _ _ _ h => h) rfl ?_ hHeld ?_ ?_);rotate_left
            ·rintro w' ⟨s0, s1, s2, s3, s4, s5⟩
             go_simp;(with_reducible rfl)
            rotate_left
            ·simp only [Act.put, sA]
             rfl
            (refine tI (i := 14) (N := some 29) (v := ?_) (a' := ?_) (mB 33 32767) rfl rfl HT_.out HW_.out (by kernel_rfl) (fun _ _ _ h => h) rfl ?_ hHeld ?_ ?_);rotate_left
            ·rintro w' ⟨s0, s1, s2, s3, s4, s5⟩
             go_simp;(with_reducible rfl)
            rotate_left
            ·simp only [Act.put, sA]
             rfl
            (refine one_ (i := 15) (N := some 30) (mB 33 65535) rfl rfl (one_of HT_.out (by kernel_rfl)) (by decide) (fun K hK => ?_));(refine goes_ Tryd.func74 (by kernel_rfl) rfl #[.int .i64 ((rd_T90 l0 x3_1).f2), .int .i64 ((rd_T90 l0 x3_1).f1), .int .i64 3000] (by rfl) rfl rfl zq0 ?_);(with_reducible refine (spec_l00In.calls ((rd_T90 l0 x3_1).f2) ((rd_T90 l0 x3_1).f1) 3000 true _ A8.out).mono ?_);(rintro e w' ⟨rfl, ⟨nd, rfl⟩⟩);(refine ⟨_, rfl, ?_⟩);(refine hK.out _ _ ⟨(blk_cell BK118.out 0).trans rfl, (blk_cell BK118.out 1).trans rfl, (blk_cell BK118.out 2).trans rfl, ((HB.out.cell (World.block_lt_of_cell? w _ hw122_0)).trans hw122_0), ((HB.out.cell (World.block_lt_of_cell? w _ hw122_1)).trans hw122_1), ((HB.out.cell (World.block_lt_of_cell? w _ hw122_2)).trans hw122_2)⟩ (fun hHeld => ?_));clear hK K;(refine norm_ (a' := ?_) ?_ ?_);rotate_left
            ·show Act.put _ (some 30) _ = _
             (simp only [Act.put, sA]);rfl
            (refine pI (i := 16) (N := some 31) (v := ?_) (a' := ?_) (mB 33 131071) rfl rfl HT_.out (by kernel_rfl) (fun _ _ _ h => h) rfl ?_ ?_ ?_);rotate_left
            ·intro w'
             go_simp;(with_reducible rfl)
            rotate_left
            ·simp only [Act.put, sA]
             rfl
            (refine pI (i := 17) (N := some 32) (v := ?_) (a' := ?_) (mB 33 262143) rfl rfl HT_.out (by kernel_rfl) (fun _ _ _ h => h) rfl ?_ ?_ ?_);rotate_left
            ·intro w'
             go_simp;(with_reducible rfl)
            rotate_left
            ·simp only [Act.put, sA]
             rfl
            (refine pI (i := 18) (N := some 33) (v := ?_) (a' := ?_) (mB 33 524287) rfl rfl HT_.out (by kernel_rfl) (fun _ _ _ h => h) rfl ?_ ?_ ?_);rotate_left
            ·intro w'
             go_simp;(with_reducible rfl)
            rotate_left
            ·simp only [Act.put, sA]
             rfl
            (refine pI (i := 19) (N := some 34) (v := ?_) (a' := ?_) (mB 33 1048575) rfl rfl HT_.out (by kernel_rfl) (fun _ _ _ h => h) rfl ?_ ?_ ?_);rotate_left
            ·intro w'
             go_simp;(with_reducible rfl)
            rotate_left
            ·simp only [Act.put, sA]
             rfl
            (refine pI (i := 20) (N := some 35) (v := ?_) (a' := ?_) (mB 33 2097151) rfl rfl HT_.out (by kernel_rfl) (fun _ _ _ h => h) rfl ?_ ?_ ?_);rotate_left
            ·intro w'
             go_simp;(with_reducible rfl)
            rotate_left
            ·simp only [Act.put, sA]
             rfl
            (refine pI (i := 21) (N := some 36) (v := ?_) (a' := ?_) (mB 33 4194303) rfl rfl HT_.out (by kernel_rfl) (fun _ _ _ h => h) rfl ?_ ?_ ?_);rotate_left
            ·intro w'
             go_simp;(with_reducible rfl)
            rotate_left
            ·simp only [Act.put, sA]
             rfl
            (refine pI (i := 22) (N := some 37) (v := ?_) (a' := ?_) (mB 33 8388607) rfl rfl HT_.out (by kernel_rfl) (fun _ _ _ h => h) rfl ?_ ?_ ?_);rotate_left
            ·intro w'
             go_simp;(with_reducible rfl)
            rotate_left
            ·simp only [Act.put, sA]
             rfl
            (refine pI (i := 23) (N := some 38) (v := ?_) (a' := ?_) (mB 33 16777215) rfl rfl HT_.out (by kernel_rfl) (fun _ _ _ h => h) rfl ?_ ?_ ?_);rotate_left
            ·intro w'
             go_simp;(with_reducible rfl)
            rotate_left
            ·simp only [Act.put, sA]
             rfl
            (refine pI (i := 24) (N := some 39) (v := ?_) (a' := ?_) (mB 33 33554431) rfl rfl HT_.out (by kernel_rfl) (fun _ _ _ h => h) rfl ?_ ?_ ?_);rotate_left
            ·intro w'
             go_simp;(with_reducible rfl)
            rotate_left
            ·simp only [Act.put, sA]
             rfl
            (refine pI (i := 25) (N := some 40) (v := ?_) (a' := ?_) (mB 33 67108863) rfl rfl HT_.out (by kernel_rfl) (fun _ _ _ h => h) rfl ?_ ?_ ?_);rotate_left
            ·intro w'
             go_simp;(with_reducible rfl)
            rotate_left
            ·simp only [Act.put, sA]
             rfl
            (refine pI (i := 26) (N := some 41) (v := ?_) (a' := ?_) (mB 33 134217727) rfl rfl HT_.out (by kernel_rfl) (fun _ _ _ h => h) rfl ?_ ?_ ?_);rotate_left
            ·intro w'
             go_simp;(with_reducible rfl)
            rotate_left
            ·simp only [Act.put, sA]
             rfl
            (refine pI (i := 28) (N := some 43) (v := ?_) (a' := ?_) (mB 33 402653183) rfl rfl HT_.out (by kernel_rfl) (fun _ _ _ h => h) rfl ?_ ?_ ?_);rotate_left
            ·intro w'
             go_simp;(with_reducible rfl)
            rotate_left
            ·simp only [Act.put, sA]
             rfl
            (refine tI (i := 27) (N := some 42) (v := ?_) (a' := ?_) (mB 33 536870911) rfl rfl HT_.out HW_.out (by kernel_rfl) (fun _ _ _ h => h) rfl ?_ hHeld ?_ ?_);rotate_left
            ·rintro w' ⟨s0, s1, s2, s3, s4, s5⟩
             go_simp;(with_reducible rfl)
            rotate_left
            ·simp only [Act.put, sA]
             rfl
            (refine tI (i := 29) (N := some 44) (v := ?_) (a' := ?_) (mB 33 1073741823) rfl rfl HT_.out HW_.out (by kernel_rfl) (fun _ _ _ h => h) rfl ?_ hHeld ?_ ?_);rotate_left
            ·rintro w' ⟨s0, s1, s2, s3, s4, s5⟩
             go_simp;(with_reducible rfl)
            rotate_left
            ·simp only [Act.put, sA]
             rfl
            (refine pI (i := 30) (N := some 45) (v := ?_) (a' := ?_) (mB 33 2147483647) rfl rfl HT_.out (by kernel_rfl) (fun _ _ _ h => h) rfl ?_ ?_ ?_);rotate_left
            ·intro w'
             go_simp;(with_reducible rfl)
            rotate_left
            ·simp only [Act.put, sA]
             rfl
            (refine pI (i := 31) (N := some 46) (v := ?_) (a' := ?_) (mB 33 4294967295) rfl rfl HT_.out (by kernel_rfl) (fun _ _ _ h => h) rfl ?_ ?_ ?_);rotate_left
            ·intro w'
             go_simp;(with_reducible rfl)
            rotate_left
            ·simp only [Act.put, sA]
             rfl
            (refine pI (i := 32) (N := some 47) (v := ?_) (a' := ?_) (mB 33 8589934591) rfl rfl HT_.out (by kernel_rfl) (fun _ _ _ h => h) rfl ?_ ?_ ?_);rotate_left
            ·intro w'
             go_simp;(with_reducible rfl)
            rotate_left
            ·simp only [Act.put, sA]
             rfl
            (refine done_ (done_of HT_.out (by kernel_rfl)) ?_);(try go_wp2);(go_roundg k1)
            case measure => have := HK1.out; omega
            case rel => exact ⟨(wrap64 (x3_1 + 1)), zq28, H', ⟨zq33⟩, ⟨zq41⟩⟩
           ·rw [if_neg c14] at H
            (have c14b0 : (Op.bytesLess (((rd_T90 l0 (ji11)).f0).toList) (((rd_T90 l0 x3_1).f0).toList)) = false := by simpa using c14);clear c14;(obtain rfl := Option.some.inj H);(have p117 : 0 ≤ (x3_1 : Int) := of_decide_eq_true zq22);(have q117 : x3_1 < (l0.length : Int) := of_decide_eq_true zq22);(obtain ⟨ad117, e117, hx117_0, hx117_1, hx117_2⟩ := at_T90 HR0.out x3_1 p117 q117)
            cases e117
            (replace hx117_0 := (HB.out.cell (World.block_lt_of_cell? w _ hx117_0)).trans hx117_0);(replace hx117_1 := (HB.out.cell (World.block_lt_of_cell? w _ hx117_1)).trans hx117_1);(replace hx117_2 := (HB.out.cell (World.block_lt_of_cell? w _ hx117_2)).trans hx117_2);(replace p117 := eq_true p117);(replace q117 := eq_true q117);(try go_wp2_with (first | ((with_reducible refine gate_dst (N := 4) rfl ?_); refine box_event ?hg (N := 4) ?hd (cs := #[.string (⟨#[]⟩ : ByteArray), .int .i64 0, .int .i64 0]) (t := 90) ?hr ?_; (case hd => rfl); (case hg => rfl); (case hr => first | (go_simp; done) | (go_simp; rfl)); intro gb118 hg w19 hbox hb; have n0_ := Aside0.mk (below_step zq45 hb); have n1_ := Aside0.mk (hbox); have n2_ := Aside0.mk ((zq76 : w.heap.size ≤ gb118)); have n3_ := Aside0.mk ((zq76 : w.heap.size ≤ gb118)); clear HB; have HB := n0_; have BK118 := n1_; have GW118 := n2_; have GE118 := n3_; clear n0_ n1_ n2_ n3_; clear hb hbox hg; have hcz20_0 : w19.cell? ⟨gb118, 0, none⟩ = some (.string (⟨#[]⟩ : ByteArray)) := (blk_cell BK118.out 0).trans rfl; have hcz20_1 : w19.cell? ⟨gb118, 1, none⟩ = some (.int .i64 0) := (blk_cell BK118.out 1).trans rfl; have hcz20_2 : w19.cell? ⟨gb118, 2, none⟩ = some (.int .i64 0) := (blk_cell BK118.out 2).trans rfl; have hfz20_0 := blk_frozen BK118.out 0; have hfz20_1 := blk_frozen BK118.out 1; have hfz20_2 := blk_frozen BK118.out 2)));(have n0_ : Aside0 ((((w19.setCell ⟨gb118, 0, none⟩ (.string ((rd_T90 l0 x3_1).f0))).setCell ⟨gb118, 1, none⟩ (.int .i64 ((rd_T90 l0 x3_1).f1))).setCell ⟨gb118, 2, none⟩ (.int .i64 ((rd_T90 l0 x3_1).f2))).heap[gb118]? = some (.cells #[.string ((rd_T90 l0 x3_1).f0), .int .i64 ((rd_T90 l0 x3_1).f1), .int .i64 ((rd_T90 l0 x3_1).f2)] 90 (0, 0))) := ⟨zq17⟩);(have n1_ : Aside0 (Below w.heap.size w (((w19.setCell ⟨gb118, 0, none⟩ (.string ((rd_T90 l0 x3_1).f0))).setCell ⟨gb118, 1, none⟩ (.int .i64 ((rd_T90 l0 x3_1).f1))).setCell ⟨gb118, 2, none⟩ (.int .i64 ((rd_T90 l0 x3_1).f2)))) := ⟨zq41⟩);(try clear BK118);(try clear HB);(generalize (((w19.setCell ⟨gb118, 0, none⟩ (.string ((rd_T90 l0 x3_1).f0))).setCell ⟨gb118, 1, none⟩ (.int .i64 ((rd_T90 l0 x3_1).f1))).setCell ⟨gb118, 2, none⟩ (.int .i64 ((rd_T90 l0 x3_1).f2))) = w21 at n0_ n1_ ⊢);(have BK118 := n0_);(have HB := n1_);clear n0_ n1_;(have n0_ := Aside0.mk (blk_drew BK118.out));(have n1_ := Aside0.mk (below_drew1 HB.out));clear BK118;clear HB;(have BK118 := n0_);(have HB := n1_);clear n0_ n1_;(have p122 : 0 ≤ ((ji11) : Int) := of_decide_eq_true zq22);(have q122 : (ji11) < (l0.length : Int) := of_decide_eq_true zq22);(obtain ⟨ad122, e122, hx122_0, hx122_1, hx122_2⟩ := at_T90 HR0.out (ji11) p122 q122);(have hw122_2 := hx122_2);(have hw122_1 := hx122_1);(have hw122_0 := hx122_0);(obtain rfl : ad117 = ad122 := (by injection e122));(replace hx122_0 := (HB.out.cell (World.block_lt_of_cell? w _ hx122_0)).trans hx122_0);(replace hx122_1 := (HB.out.cell (World.block_lt_of_cell? w _ hx122_1)).trans hx122_1);(replace hx122_2 := (HB.out.cell (World.block_lt_of_cell? w _ hx122_2)).trans hx122_2);(replace p122 := eq_true p122);(replace q122 := eq_true q122);(refine start_ (n := 33) (S := fun w' => w'.cell? ⟨gb118, 0, none⟩ = some (.string ((rd_T90 l0 x3_1).f0)) ∧ w'.cell? ⟨gb118, 1, none⟩ = some (.int .i64 ((rd_T90 l0 x3_1).f1)) ∧ w'.cell? ⟨gb118, 2, none⟩ = some (.int .i64 ((rd_T90 l0 x3_1).f2)) ∧ w'.cell? (ad117.add (((ji11)).toNat * 3)) = some (.string ((rd_T90 l0 (ji11)).f0)) ∧ w'.cell? ⟨(ad117.add (((ji11)).toNat * 3)).block, (ad117.add (((ji11)).toNat * 3)).off + 1, none⟩ = some (.int .i64 ((rd_T90 l0 (ji11)).f1)) ∧ w'.cell? ⟨(ad117.add (((ji11)).toNat * 3)).block, (ad117.add (((ji11)).toNat * 3)).off + 2, none⟩ = some (.int .i64 ((rd_T90 l0 (ji11)).f2))) (ds := []) #[false,false,false,false,false,false,false,false,false,false,false,false,false,false,false,false,false,false,false,false,false,false,false,false,false,false,false,false,false,false,false,false,false] (by kernel_rfl) rfl rfl ⟨(blk_cell BK118.out 0).trans rfl, (blk_cell BK118.out 1).trans rfl, (blk_cell BK118.out 2).trans rfl, ((HB.out.cell (World.block_lt_of_cell? w _ hw122_0)).trans hw122_0), ((HB.out.cell (World.block_lt_of_cell? w _ hw122_1)).trans hw122_1), ((HB.out.cell (World.block_lt_of_cell? w _ hw122_2)).trans hw122_2)⟩ (fun hHeld => ?_); refine with_tabW spec_l14Known.tab5 spec_l14Known.bits5 (fun HT_ HW_ => ?_));(generalize w21.drew = w22 at BK118 HB hx122_0 hx122_1 hx122_2 hHeld ⊢);(refine pI (i := 0) (N := some 15) (v := ?_) (a' := ?_) (mB 33 1) rfl rfl HT_.out (by kernel_rfl) (fun _ _ _ h => h) rfl ?_ ?_ ?_);rotate_left
            ·intro w'
             go_simp;(with_reducible rfl)
            rotate_left
            ·simp only [Act.put, sA]
             rfl
            (refine tI (i := 1) (N := some 16) (v := ?_) (a' := ?_) (mB 33 3) rfl rfl HT_.out HW_.out (by kernel_rfl) (fun _ _ _ h => h) rfl ?_ hHeld ?_ ?_);rotate_left
            ·rintro w' ⟨s0, s1, s2, s3, s4, s5⟩
             go_simp;(with_reducible rfl)
            rotate_left
            ·simp only [Act.put, sA]
             rfl
            (refine one_ (i := 2) (N := some 17) (mB 33 7) rfl rfl (one_of HT_.out (by kernel_rfl)) (by decide) (fun K hK => ?_));(refine goes_ Tryd.func114 (by kernel_rfl) rfl #[.string ((rd_T90 l0 x3_1).f0)] (by rfl) rfl rfl zq0 ?_);(with_reducible refine (spec_IsName.calls k1 ((rd_T90 l0 x3_1).f0) true _ A4.out).mono ?_);(rintro e w' ⟨rfl, ⟨nd, rfl⟩⟩);(refine ⟨_, rfl, ?_⟩);(refine hK.out _ _ ⟨(blk_cell BK118.out 0).trans rfl, (blk_cell BK118.out 1).trans rfl, (blk_cell BK118.out 2).trans rfl, ((HB.out.cell (World.block_lt_of_cell? w _ hw122_0)).trans hw122_0), ((HB.out.cell (World.block_lt_of_cell? w _ hw122_1)).trans hw122_1), ((HB.out.cell (World.block_lt_of_cell? w _ hw122_2)).trans hw122_2)⟩ (fun hHeld => ?_));clear hK K;(refine norm_ (a' := ?_) ?_ ?_);rotate_left
            ·show Act.put _ (some 17) _ = _
             (simp only [Act.put, sA]);rfl
            (refine pI (i := 3) (N := some 18) (v := ?_) (a' := ?_) (mB 33 15) rfl rfl HT_.out (by kernel_rfl) (fun _ _ _ h => h) rfl ?_ ?_ ?_);rotate_left
            ·intro w'
             go_simp;(with_reducible rfl)
            rotate_left
            ·simp only [Act.put, sA]
             rfl
            (refine pI (i := 4) (N := some 19) (v := ?_) (a' := ?_) (mB 33 31) rfl rfl HT_.out (by kernel_rfl) (fun _ _ _ h => h) rfl ?_ ?_ ?_);rotate_left
            ·intro w'
             go_simp;(with_reducible rfl)
            rotate_left
            ·simp only [Act.put, sA]
             rfl
            (refine pI (i := 5) (N := some 20) (v := ?_) (a' := ?_) (mB 33 63) rfl rfl HT_.out (by kernel_rfl) (fun _ _ _ h => h) rfl ?_ ?_ ?_);rotate_left
            ·intro w'
             go_simp;(with_reducible rfl)
            rotate_left
            ·simp only [Act.put, sA]
             rfl
            (refine tI (i := 6) (N := some 21) (v := ?_) (a' := ?_) (mB 33 127) rfl rfl HT_.out HW_.out (by kernel_rfl) (fun _ _ _ h => h) rfl ?_ hHeld ?_ ?_);rotate_left
            ·rintro w' ⟨s0, s1, s2, s3, s4, s5⟩
             go_simp;(with_reducible rfl)
            rotate_left
            ·simp only [Act.put, sA]
             rfl
            (refine one_ (i := 7) (N := some 22) (mB 33 255) rfl rfl (one_of HT_.out (by kernel_rfl)) (by decide) (fun K hK => ?_));(refine goes_ Tryd.func100 (by kernel_rfl) rfl #[.int .i64 ((rd_T90 l0 x3_1).f1)] (by rfl) rfl rfl zq0 ?_);(with_reducible refine (spec_l14Year.calls ((rd_T90 l0 x3_1).f1) true _ A6.out).mono ?_);(rintro e w' ⟨rfl, ⟨nd, rfl⟩⟩);(refine ⟨_, rfl, ?_⟩);(refine hK.out _ _ ⟨(blk_cell BK118.out 0).trans rfl, (blk_cell BK118.out 1).trans rfl, (blk_cell BK118.out 2).trans rfl, ((HB.out.cell (World.block_lt_of_cell? w _ hw122_0)).trans hw122_0), ((HB.out.cell (World.block_lt_of_cell? w _ hw122_1)).trans hw122_1), ((HB.out.cell (World.block_lt_of_cell? w _ hw122_2)).trans hw122_2)⟩ (fun hHeld => ?_));clear hK K;(refine norm_ (a' := ?_) ?_ ?_);rotate_left
            ·show Act.put _ (some 22) _ = _
             (simp only [Act.put, sA]);rfl
            (refine pI (i := 8) (N := some 23) (v := ?_) (a' := ?_) (mB 33 511) rfl rfl HT_.out (by kernel_rfl) (fun _ _ _ h => h) rfl ?_ ?_ ?_);rotate_left
            ·intro w'
             go_simp;(with_reducible rfl)
            rotate_left
            ·simp only [Act.put, sA]
             rfl
            (refine pI (i := 9) (N := some 24) (v := ?_) (a' := ?_) (mB 33 1023) rfl rfl HT_.out (by kernel_rfl) (fun _ _ _ h => h) rfl ?_ ?_ ?_);rotate_left
            ·intro w'
             go_simp;(with_reducible rfl)
            rotate_left
            ·simp only [Act.put, sA]
             rfl
            (refine pI (i := 10) (N := some 25) (v := ?_) (a' := ?_) (mB 33 2047) rfl rfl HT_.out (by kernel_rfl) (fun _ _ _ h => h) rfl ?_ ?_ ?_);rotate_left
            ·intro w'
             go_simp;(with_reducible rfl)
            rotate_left
            ·simp only [Act.put, sA]
             rfl
            (refine pI (i := 11) (N := some 26) (v := ?_) (a' := ?_) (mB 33 4095) rfl rfl HT_.out (by kernel_rfl) (fun _ _ _ h => h) rfl ?_ ?_ ?_);rotate_left
            ·intro w'
             go_simp;(with_reducible rfl)
            rotate_left
            ·simp only [Act.put, sA]
             rfl
            (refine pI (i := 13) (N := some 28) (v := ?_) (a' := ?_) (mB 33 12287) rfl rfl HT_.out (by kernel_rfl) (fun _ _ _ h => h) rfl ?_ ?_ ?_);rotate_left
            ·intro w'
             go_simp;(with_reducible rfl)
            rotate_left
            ·simp only [Act.put, sA]
             rfl
            (refine tI (i := 12) (N := some 27) (v := ?_) (a' := ?_) (mB 33 16383) rfl rfl HT_.out HW_.out (by kernel_rfl) (fun _ _ _ h => h) rfl ?_ hHeld ?_ ?_);rotate_left
            ·rintro w' ⟨s0, s1, s2, s3, s4, s5⟩
             go_simp;(with_reducible rfl)
            rotate_left
            ·simp only [Act.put, sA]
             rfl
            (refine tI (i := 14) (N := some 29) (v := ?_) (a' := ?_) (mB 33 32767) rfl rfl HT_.out HW_.out (by kernel_rfl) (fun _ _ _ h => h) rfl ?_ hHeld ?_ ?_);rotate_left
            ·rintro w' ⟨s0, s1, s2, s3, s4, s5⟩
             go_simp;(with_reducible rfl)
            rotate_left
            ·simp only [Act.put, sA]
             rfl
            (refine one_ (i := 15) (N := some 30) (mB 33 65535) rfl rfl (one_of HT_.out (by kernel_rfl)) (by decide) (fun K hK => ?_));(refine goes_ Tryd.func74 (by kernel_rfl) rfl #[.int .i64 ((rd_T90 l0 x3_1).f2), .int .i64 ((rd_T90 l0 x3_1).f1), .int .i64 3000] (by rfl) rfl rfl zq0 ?_);(with_reducible refine (spec_l00In.calls ((rd_T90 l0 x3_1).f2) ((rd_T90 l0 x3_1).f1) 3000 true _ A8.out).mono ?_);(rintro e w' ⟨rfl, ⟨nd, rfl⟩⟩);(refine ⟨_, rfl, ?_⟩);(refine hK.out _ _ ⟨(blk_cell BK118.out 0).trans rfl, (blk_cell BK118.out 1).trans rfl, (blk_cell BK118.out 2).trans rfl, ((HB.out.cell (World.block_lt_of_cell? w _ hw122_0)).trans hw122_0), ((HB.out.cell (World.block_lt_of_cell? w _ hw122_1)).trans hw122_1), ((HB.out.cell (World.block_lt_of_cell? w _ hw122_2)).trans hw122_2)⟩ (fun hHeld => ?_));clear hK K;(refine norm_ (a' := ?_) ?_ ?_);rotate_left
            ·show Act.put _ (some 30) _ = _
             (simp only [Act.put, sA]);rfl
            (refine pI (i := 16) (N := some 31) (v := ?_) (a' := ?_) (mB 33 131071) rfl rfl HT_.out (by kernel_rfl) (fun _ _ _ h => h) rfl ?_ ?_ ?_);rotate_left
            ·intro w'
             go_simp;(with_reducible rfl)
            rotate_left
            ·simp only [Act.put, sA]
             rfl
            (refine pI (i := 17) (N := some 32) (v := ?_) (a' := ?_) (mB 33 262143) rfl rfl HT_.out (by kernel_rfl) (fun _ _ _ h => h) rfl ?_ ?_ ?_);rotate_left
            ·intro w'
             go_simp;(with_reducible rfl)
            rotate_left
            ·simp only [Act.put, sA]
             rfl
            (refine pI (i := 18) (N := some 33) (v := ?_) (a' := ?_) (mB 33 524287) rfl rfl HT_.out (by kernel_rfl) (fun _ _ _ h => h) rfl ?_ ?_ ?_);rotate_left
            ·intro w'
             go_simp;(with_reducible rfl)
            rotate_left
            ·simp only [Act.put, sA]
             rfl
            (refine pI (i := 19) (N := some 34) (v := ?_) (a' := ?_) (mB 33 1048575) rfl rfl HT_.out (by kernel_rfl) (fun _ _ _ h => h) rfl ?_ ?_ ?_);rotate_left
            ·intro w'
             go_simp;(with_reducible rfl)
            rotate_left
            ·simp only [Act.put, sA]
             rfl
            (refine pI (i := 20) (N := some 35) (v := ?_) (a' := ?_) (mB 33 2097151) rfl rfl HT_.out (by kernel_rfl) (fun _ _ _ h => h) rfl ?_ ?_ ?_);rotate_left
            ·intro w'
             go_simp;(with_reducible rfl)
            rotate_left
            ·simp only [Act.put, sA]
             rfl
            (refine pI (i := 21) (N := some 36) (v := ?_) (a' := ?_) (mB 33 4194303) rfl rfl HT_.out (by kernel_rfl) (fun _ _ _ h => h) rfl ?_ ?_ ?_);rotate_left
            ·intro w'
             go_simp;(with_reducible rfl)
            rotate_left
            ·simp only [Act.put, sA]
             rfl
            (refine pI (i := 22) (N := some 37) (v := ?_) (a' := ?_) (mB 33 8388607) rfl rfl HT_.out (by kernel_rfl) (fun _ _ _ h => h) rfl ?_ ?_ ?_);rotate_left
            ·intro w'
             go_simp;(with_reducible rfl)
            rotate_left
            ·simp only [Act.put, sA]
             rfl
            (refine pI (i := 23) (N := some 38) (v := ?_) (a' := ?_) (mB 33 16777215) rfl rfl HT_.out (by kernel_rfl) (fun _ _ _ h => h) rfl ?_ ?_ ?_);rotate_left
            ·intro w'
             go_simp;(with_reducible rfl)
            rotate_left
            ·simp only [Act.put, sA]
             rfl
            (refine pI (i := 24) (N := some 39) (v := ?_) (a' := ?_) (mB 33 33554431) rfl rfl HT_.out (by kernel_rfl) (fun _ _ _ h => h) rfl ?_ ?_ ?_);rotate_left
            ·intro w'
             go_simp;(with_reducible rfl)
            rotate_left
            ·simp only [Act.put, sA]
             rfl
            (refine pI (i := 25) (N := some 40) (v := ?_) (a' := ?_) (mB 33 67108863) rfl rfl HT_.out (by kernel_rfl) (fun _ _ _ h => h) rfl ?_ ?_ ?_);rotate_left
            ·intro w'
             go_simp;(with_reducible rfl)
            rotate_left
            ·simp only [Act.put, sA]
             rfl
            (refine pI (i := 26) (N := some 41) (v := ?_) (a' := ?_) (mB 33 134217727) rfl rfl HT_.out (by kernel_rfl) (fun _ _ _ h => h) rfl ?_ ?_ ?_);rotate_left
            ·intro w'
             go_simp;(with_reducible rfl)
            rotate_left
            ·simp only [Act.put, sA]
             rfl
            (refine pI (i := 28) (N := some 43) (v := ?_) (a' := ?_) (mB 33 402653183) rfl rfl HT_.out (by kernel_rfl) (fun _ _ _ h => h) rfl ?_ ?_ ?_);rotate_left
            ·intro w'
             go_simp;(with_reducible rfl)
            rotate_left
            ·simp only [Act.put, sA]
             rfl
            (refine tI (i := 27) (N := some 42) (v := ?_) (a' := ?_) (mB 33 536870911) rfl rfl HT_.out HW_.out (by kernel_rfl) (fun _ _ _ h => h) rfl ?_ hHeld ?_ ?_);rotate_left
            ·rintro w' ⟨s0, s1, s2, s3, s4, s5⟩
             go_simp;(with_reducible rfl)
            rotate_left
            ·simp only [Act.put, sA]
             rfl
            (refine tI (i := 29) (N := some 44) (v := ?_) (a' := ?_) (mB 33 1073741823) rfl rfl HT_.out HW_.out (by kernel_rfl) (fun _ _ _ h => h) rfl ?_ hHeld ?_ ?_);rotate_left
            ·rintro w' ⟨s0, s1, s2, s3, s4, s5⟩
             go_simp;(with_reducible rfl)
            rotate_left
            ·simp only [Act.put, sA]
             rfl
            (refine pI (i := 30) (N := some 45) (v := ?_) (a' := ?_) (mB 33 2147483647) rfl rfl HT_.out (by kernel_rfl) (fun _ _ _ h => h) rfl ?_ ?_ ?_);rotate_left
            ·intro w'
             go_simp;(with_reducible rfl)
            rotate_left
            ·simp only [Act.put, sA]
             rfl
            (refine pI (i := 31) (N := some 46) (v := ?_) (a' := ?_) (mB 33 4294967295) rfl rfl HT_.out (by kernel_rfl) (fun _ _ _ h => h) rfl ?_ ?_ ?_);rotate_left
            ·intro w'
             go_simp;(with_reducible rfl)
            rotate_left
            ·simp only [Act.put, sA]
             rfl
            (refine pI (i := 32) (N := some 47) (v := ?_) (a' := ?_) (mB 33 8589934591) rfl rfl HT_.out (by kernel_rfl) (fun _ _ _ h => h) rfl ?_ ?_ ?_);rotate_left
            ·intro w'
             go_simp;(with_reducible rfl)
            rotate_left
            ·simp only [Act.put, sA]
             rfl
            (refine done_ (done_of HT_.out (by kernel_rfl)) ?_);(try go_wp2);(go_ret);(exact ⟨by first | rfl | (simp [errW_none, errW_some] <;> rfl) | (simp only [← hji11]; first | rfl | (simp [errW_none, errW_some] <;> rfl)) | (simp [*, errW_none, errW_some] <;> rfl), zq41⟩)
          ·rw [if_neg c13] at H
           exact absurd H (by simp)
         ·rw [if_neg c12] at H
          exact absurd H (by simp)
        ·rw [if_neg c10] at H
         (have c10b0 : decide (0 < x3_1) = false := decide_eq_false c10);clear c10;(have H' := Aside0.mk H);clear H;(have p117 : 0 ≤ (x3_1 : Int) := of_decide_eq_true zq22);(have q117 : x3_1 < (l0.length : Int) := of_decide_eq_true zq22);(obtain ⟨ad117, e117, hx117_0, hx117_1, hx117_2⟩ := at_T90 HR0.out x3_1 p117 q117)
         cases e117
         (replace hx117_0 := (HB.out.cell (World.block_lt_of_cell? w _ hx117_0)).trans hx117_0);(replace hx117_1 := (HB.out.cell (World.block_lt_of_cell? w _ hx117_1)).trans hx117_1);(replace hx117_2 := (HB.out.cell (World.block_lt_of_cell? w _ hx117_2)).trans hx117_2);(replace p117 := eq_true p117);(replace q117 := eq_true q117);(try go_wp2_with (first | ((with_reducible refine gate_dst (N := 4) rfl ?_); refine box_event ?hg (N := 4) ?hd (cs := #[.string (⟨#[]⟩ : ByteArray), .int .i64 0, .int .i64 0]) (t := 90) ?hr ?_; (case hd => rfl); (case hg => rfl); (case hr => first | (go_simp; done) | (go_simp; rfl)); intro gb118 hg w23 hbox hb; have n0_ := Aside0.mk (below_step zq45 hb); have n1_ := Aside0.mk (hbox); have n2_ := Aside0.mk ((zq76 : w.heap.size ≤ gb118)); have n3_ := Aside0.mk ((zq76 : w.heap.size ≤ gb118)); clear HB; have HB := n0_; have BK118 := n1_; have GW118 := n2_; have GE118 := n3_; clear n0_ n1_ n2_ n3_; clear hb hbox hg; have hcz24_0 : w23.cell? ⟨gb118, 0, none⟩ = some (.string (⟨#[]⟩ : ByteArray)) := (blk_cell BK118.out 0).trans rfl; have hcz24_1 : w23.cell? ⟨gb118, 1, none⟩ = some (.int .i64 0) := (blk_cell BK118.out 1).trans rfl; have hcz24_2 : w23.cell? ⟨gb118, 2, none⟩ = some (.int .i64 0) := (blk_cell BK118.out 2).trans rfl; have hfz24_0 := blk_frozen BK118.out 0; have hfz24_1 := blk_frozen BK118.out 1; have hfz24_2 := blk_frozen BK118.out 2)));(have n0_ : Aside0 ((((w23.setCell ⟨gb118, 0, none⟩ (.string ((rd_T90 l0 x3_1).f0))).setCell ⟨gb118, 1, none⟩ (.int .i64 ((rd_T90 l0 x3_1).f1))).setCell ⟨gb118, 2, none⟩ (.int .i64 ((rd_T90 l0 x3_1).f2))).heap[gb118]? = some (.cells #[.string ((rd_T90 l0 x3_1).f0), .int .i64 ((rd_T90 l0 x3_1).f1), .int .i64 ((rd_T90 l0 x3_1).f2)] 90 (0, 0))) := ⟨zq17⟩);(have n1_ : Aside0 (Below w.heap.size w (((w23.setCell ⟨gb118, 0, none⟩ (.string ((rd_T90 l0 x3_1).f0))).setCell ⟨gb118, 1, none⟩ (.int .i64 ((rd_T90 l0 x3_1).f1))).setCell ⟨gb118, 2, none⟩ (.int .i64 ((rd_T90 l0 x3_1).f2)))) := ⟨zq41⟩);(try clear BK118);(try clear HB);(generalize (((w23.setCell ⟨gb118, 0, none⟩ (.string ((rd_T90 l0 x3_1).f0))).setCell ⟨gb118, 1, none⟩ (.int .i64 ((rd_T90 l0 x3_1).f1))).setCell ⟨gb118, 2, none⟩ (.int .i64 ((rd_T90 l0 x3_1).f2))) = w25 at n0_ n1_ ⊢);(have BK118 := n0_);(have HB := n1_);clear n0_ n1_;(have n0_ := Aside0.mk (blk_drew BK118.out));(have n1_ := Aside0.mk (below_drew1 HB.out));clear BK118;clear HB;(have BK118 := n0_);(have HB := n1_);clear n0_ n1_;(refine start_ (n := 33) (S := fun w' => w'.cell? ⟨gb118, 0, none⟩ = some (.string ((rd_T90 l0 x3_1).f0)) ∧ w'.cell? ⟨gb118, 1, none⟩ = some (.int .i64 ((rd_T90 l0 x3_1).f1)) ∧ w'.cell? ⟨gb118, 2, none⟩ = some (.int .i64 ((rd_T90 l0 x3_1).f2))) (ds := []) #[false,false,false,false,false,false,false,false,false,false,false,false,false,false,false,false,false,false,false,false,false,false,false,false,false,false,false,false,false,false,false,false,false] (by kernel_rfl) rfl rfl ⟨(blk_cell BK118.out 0).trans rfl, (blk_cell BK118.out 1).trans rfl, (blk_cell BK118.out 2).trans rfl⟩ (fun hHeld => ?_); refine with_tabW spec_l14Known.tab5 spec_l14Known.bits5 (fun HT_ HW_ => ?_));(generalize w25.drew = w26 at BK118 HB hHeld ⊢);(refine pI (i := 0) (N := some 15) (v := ?_) (a' := ?_) (mB 33 1) rfl rfl HT_.out (by kernel_rfl) (fun _ _ _ h => h) rfl ?_ ?_ ?_);rotate_left
         ·intro w'
          go_simp;(with_reducible rfl)
         rotate_left
         ·simp only [Act.put, sA]
          rfl
         (refine tI (i := 1) (N := some 16) (v := ?_) (a' := ?_) (mB 33 3) rfl rfl HT_.out HW_.out (by kernel_rfl) (fun _ _ _ h => h) rfl ?_ hHeld ?_ ?_);rotate_left
         ·rintro w' ⟨s0, s1, s2⟩
          go_simp;(with_reducible rfl)
         rotate_left
         ·simp only [Act.put, sA]
          rfl
         (refine one_ (i := 2) (N := some 17) (mB 33 7) rfl rfl (one_of HT_.out (by kernel_rfl)) (by decide) (fun K hK => ?_));(refine goes_ Tryd.func114 (by kernel_rfl) rfl #[.string ((rd_T90 l0 x3_1).f0)] (by rfl) rfl rfl zq0 ?_);(with_reducible refine (spec_IsName.calls k1 ((rd_T90 l0 x3_1).f0) true _ A4.out).mono ?_);(rintro e w' ⟨rfl, ⟨nd, rfl⟩⟩);(refine ⟨_, rfl, ?_⟩);(refine hK.out _ _ ⟨(blk_cell BK118.out 0).trans rfl, (blk_cell BK118.out 1).trans rfl, (blk_cell BK118.out 2).trans rfl⟩ (fun hHeld => ?_));clear hK K;(refine norm_ (a' := ?_) ?_ ?_);rotate_left
         ·show Act.put _ (some 17) _ = _
          (simp only [Act.put, sA]);rfl
         (refine pI (i := 3) (N := some 18) (v := ?_) (a' := ?_) (mB 33 15) rfl rfl HT_.out (by kernel_rfl) (fun _ _ _ h => h) rfl ?_ ?_ ?_);rotate_left
         ·intro w'
          go_simp;(with_reducible rfl)
         rotate_left
         ·simp only [Act.put, sA]
          rfl
         (refine pI (i := 4) (N := some 19) (v := ?_) (a' := ?_) (mB 33 31) rfl rfl HT_.out (by kernel_rfl) (fun _ _ _ h => h) rfl ?_ ?_ ?_);rotate_left
         ·intro w'
          go_simp;(with_reducible rfl)
         rotate_left
         ·simp only [Act.put, sA]
          rfl
         (refine pI (i := 5) (N := some 20) (v := ?_) (a' := ?_) (mB 33 63) rfl rfl HT_.out (by kernel_rfl) (fun _ _ _ h => h) rfl ?_ ?_ ?_);rotate_left
         ·intro w'
          go_simp;(with_reducible rfl)
         rotate_left
         ·simp only [Act.put, sA]
          rfl
         (refine tI (i := 6) (N := some 21) (v := ?_) (a' := ?_) (mB 33 127) rfl rfl HT_.out HW_.out (by kernel_rfl) (fun _ _ _ h => h) rfl ?_ hHeld ?_ ?_);rotate_left
         ·rintro w' ⟨s0, s1, s2⟩
          go_simp;(with_reducible rfl)
         rotate_left
         ·simp only [Act.put, sA]
          rfl
         (refine one_ (i := 7) (N := some 22) (mB 33 255) rfl rfl (one_of HT_.out (by kernel_rfl)) (by decide) (fun K hK => ?_));(refine goes_ Tryd.func100 (by kernel_rfl) rfl #[.int .i64 ((rd_T90 l0 x3_1).f1)] (by rfl) rfl rfl zq0 ?_);(with_reducible refine (spec_l14Year.calls ((rd_T90 l0 x3_1).f1) true _ A6.out).mono ?_);(rintro e w' ⟨rfl, ⟨nd, rfl⟩⟩);(refine ⟨_, rfl, ?_⟩);(refine hK.out _ _ ⟨(blk_cell BK118.out 0).trans rfl, (blk_cell BK118.out 1).trans rfl, (blk_cell BK118.out 2).trans rfl⟩ (fun hHeld => ?_));clear hK K;(refine norm_ (a' := ?_) ?_ ?_);rotate_left
         ·show Act.put _ (some 22) _ = _
          (simp only [Act.put, sA]);rfl
         (refine pI (i := 8) (N := some 23) (v := ?_) (a' := ?_) (mB 33 511) rfl rfl HT_.out (by kernel_rfl) (fun _ _ _ h => h) rfl ?_ ?_ ?_);rotate_left
         ·intro w'
          go_simp;(with_reducible rfl)
         rotate_left
         ·simp only [Act.put, sA]
          rfl
         (refine pI (i := 9) (N := some 24) (v := ?_) (a' := ?_) (mB 33 1023) rfl rfl HT_.out (by kernel_rfl) (fun _ _ _ h => h) rfl ?_ ?_ ?_);rotate_left
         ·intro w'
          go_simp;(with_reducible rfl)
         rotate_left
         ·simp only [Act.put, sA]
          rfl
         (refine pI (i := 10) (N := some 25) (v := ?_) (a' := ?_) (mB 33 2047) rfl rfl HT_.out (by kernel_rfl) (fun _ _ _ h => h) rfl ?_ ?_ ?_);rotate_left
         ·intro w'
          go_simp;(with_reducible rfl)
         rotate_left
         ·simp only [Act.put, sA]
          rfl
         (refine pI (i := 11) (N := some 26) (v := ?_) (a' := ?_) (mB 33 4095) rfl rfl HT_.out (by kernel_rfl) (fun _ _ _ h => h) rfl ?_ ?_ ?_);rotate_left
         ·intro w'
          go_simp;(with_reducible rfl)
         rotate_left
         ·simp only [Act.put, sA]
          rfl
         (refine pI (i := 13) (N := some 28) (v := ?_) (a' := ?_) (mB 33 12287) rfl rfl HT_.out (by kernel_rfl) (fun _ _ _ h => h) rfl ?_ ?_ ?_);rotate_left
         ·intro w'
          go_simp;(with_reducible rfl)
         rotate_left
         ·simp only [Act.put, sA]
          rfl
         (refine tI (i := 12) (N := some 27) (v := ?_) (a' := ?_) (mB 33 16383) rfl rfl HT_.out HW_.out (by kernel_rfl) (fun _ _ _ h => h) rfl ?_ hHeld ?_ ?_);rotate_left
         ·rintro w' ⟨s0, s1, s2⟩
          go_simp;(with_reducible rfl)
         rotate_left
         ·simp only [Act.put, sA]
          rfl
         (refine tI (i := 14) (N := some 29) (v := ?_) (a' := ?_) (mB 33 32767) rfl rfl HT_.out HW_.out (by kernel_rfl) (fun _ _ _ h => h) rfl ?_ hHeld ?_ ?_);rotate_left
         ·rintro w' ⟨s0, s1, s2⟩
          go_simp;(with_reducible rfl)
         rotate_left
         ·simp only [Act.put, sA]
          rfl
         (refine one_ (i := 15) (N := some 30) (mB 33 65535) rfl rfl (one_of HT_.out (by kernel_rfl)) (by decide) (fun K hK => ?_));(refine goes_ Tryd.func74 (by kernel_rfl) rfl #[.int .i64 ((rd_T90 l0 x3_1).f2), .int .i64 ((rd_T90 l0 x3_1).f1), .int .i64 3000] (by rfl) rfl rfl zq0 ?_);(with_reducible refine (spec_l00In.calls ((rd_T90 l0 x3_1).f2) ((rd_T90 l0 x3_1).f1) 3000 true _ A8.out).mono ?_);(rintro e w' ⟨rfl, ⟨nd, rfl⟩⟩);(refine ⟨_, rfl, ?_⟩);(refine hK.out _ _ ⟨(blk_cell BK118.out 0).trans rfl, (blk_cell BK118.out 1).trans rfl, (blk_cell BK118.out 2).trans rfl⟩ (fun hHeld => ?_));clear hK K;(refine norm_ (a' := ?_) ?_ ?_);rotate_left
         ·show Act.put _ (some 30) _ = _
          (simp only [Act.put, sA]);rfl
         (refine pI (i := 16) (N := some 31) (v := ?_) (a' := ?_) (mB 33 131071) rfl rfl HT_.out (by kernel_rfl) (fun _ _ _ h => h) rfl ?_ ?_ ?_);rotate_left
         ·intro w'
          go_simp;(with_reducible rfl)
         rotate_left
         ·simp only [Act.put, sA]
          rfl
         (refine pI (i := 17) (N := some 32) (v := ?_) (a' := ?_) (mB 33 262143) rfl rfl HT_.out (by kernel_rfl) (fun _ _ _ h => h) rfl ?_ ?_ ?_);rotate_left
         ·intro w'
          go_simp;(with_reducible rfl)
         rotate_left
         ·simp only [Act.put, sA]
          rfl
         (refine pI (i := 18) (N := some 33) (v := ?_) (a' := ?_) (mB 33 524287) rfl rfl HT_.out (by kernel_rfl) (fun _ _ _ h => h) rfl ?_ ?_ ?_);rotate_left
         ·intro w'
          go_simp;(with_reducible rfl)
         rotate_left
         ·simp only [Act.put, sA]
          rfl
         (refine pI (i := 19) (N := some 34) (v := ?_) (a' := ?_) (mB 33 1048575) rfl rfl HT_.out (by kernel_rfl) (fun _ _ _ h => h) rfl ?_ ?_ ?_);rotate_left
         ·intro w'
          go_simp;(with_reducible rfl)
         rotate_left
         ·simp only [Act.put, sA]
          rfl
         (refine pI (i := 20) (N := some 35) (v := ?_) (a' := ?_) (mB 33 2097151) rfl rfl HT_.out (by kernel_rfl) (fun _ _ _ h => h) rfl ?_ ?_ ?_);rotate_left
         ·intro w'
          go_simp;(with_reducible rfl)
         rotate_left
         ·simp only [Act.put, sA]
          rfl
         (refine pI (i := 21) (N := some 36) (v := ?_) (a' := ?_) (mB 33 4194303) rfl rfl HT_.out (by kernel_rfl) (fun _ _ _ h => h) rfl ?_ ?_ ?_);rotate_left
         ·intro w'
          go_simp;(with_reducible rfl)
         rotate_left
         ·simp only [Act.put, sA]
          rfl
         (refine pU (i := 22) (N := some 37) (a' := ?_) (mB 33 8388607) rfl rfl HT_.out (by kernel_rfl) (fun _ _ _ h => h) rfl ?_ ?_);rotate_left
         ·simp only [Act.put, sA]
          rfl
         (refine pU (i := 23) (N := some 38) (a' := ?_) (mB 33 16777215) rfl rfl HT_.out (by kernel_rfl) (fun _ _ _ h => h) rfl ?_ ?_);rotate_left
         ·simp only [Act.put, sA]
          rfl
         (refine pU (i := 24) (N := some 39) (a' := ?_) (mB 33 33554431) rfl rfl HT_.out (by kernel_rfl) (fun _ _ _ h => h) rfl ?_ ?_);rotate_left
         ·simp only [Act.put, sA]
          rfl
         (refine pU (i := 25) (N := some 40) (a' := ?_) (mB 33 67108863) rfl rfl HT_.out (by kernel_rfl) (fun _ _ _ h => h) rfl ?_ ?_);rotate_left
         ·simp only [Act.put, sA]
          rfl
         (refine pU (i := 26) (N := some 41) (a' := ?_) (mB 33 134217727) rfl rfl HT_.out (by kernel_rfl) (fun _ _ _ h => h) rfl ?_ ?_);rotate_left
         ·simp only [Act.put, sA]
          rfl
         (refine pU (i := 27) (N := some 42) (a' := ?_) (mB 33 268435455) rfl rfl HT_.out (by kernel_rfl) (fun _ _ _ h => h) rfl ?_ ?_);rotate_left
         ·simp only [Act.put, sA]
          rfl
         (refine pU (i := 28) (N := some 43) (a' := ?_) (mB 33 536870911) rfl rfl HT_.out (by kernel_rfl) (fun _ _ _ h => h) rfl ?_ ?_);rotate_left
         ·simp only [Act.put, sA]
          rfl
         (refine pU (i := 29) (N := some 44) (a' := ?_) (mB 33 1073741823) rfl rfl HT_.out (by kernel_rfl) (fun _ _ _ h => h) rfl ?_ ?_);rotate_left
         ·simp only [Act.put, sA]
          rfl
         (refine pU (i := 30) (N := some 45) (a' := ?_) (mB 33 2147483647) rfl rfl HT_.out (by kernel_rfl) (fun _ _ _ h => h) rfl ?_ ?_);rotate_left
         ·simp only [Act.put, sA]
          rfl
         (refine pI (i := 31) (N := some 46) (v := ?_) (a' := ?_) (mB 33 4294967295) rfl rfl HT_.out (by kernel_rfl) (fun _ _ _ h => h) rfl ?_ ?_ ?_);rotate_left
         ·intro w'
          go_simp;(with_reducible rfl)
         rotate_left
         ·simp only [Act.put, sA]
          rfl
         (refine pI (i := 32) (N := some 47) (v := ?_) (a' := ?_) (mB 33 8589934591) rfl rfl HT_.out (by kernel_rfl) (fun _ _ _ h => h) rfl ?_ ?_ ?_);rotate_left
         ·intro w'
          go_simp;(with_reducible rfl)
         rotate_left
         ·simp only [Act.put, sA]
          rfl
         (refine done_ (done_of HT_.out (by kernel_rfl)) ?_);(try go_wp2);(go_roundg k1)
         case measure => have := HK1.out; omega
         case rel => exact ⟨(wrap64 (x3_1 + 1)), zq28, H', ⟨zq33⟩, ⟨zq41⟩⟩
       ·replace c9 := Bool.eq_false_iff.mpr c9
        subst c9;(have H1 : (some false) = some r := zq79);clear H;(have H := H1);clear H1;(obtain rfl := Option.some.inj H);(have p117 : 0 ≤ (x3_1 : Int) := of_decide_eq_true zq22);(have q117 : x3_1 < (l0.length : Int) := of_decide_eq_true zq22);(obtain ⟨ad117, e117, hx117_0, hx117_1, hx117_2⟩ := at_T90 HR0.out x3_1 p117 q117)
        cases e117
        (replace hx117_0 := (HB.out.cell (World.block_lt_of_cell? w _ hx117_0)).trans hx117_0);(replace hx117_1 := (HB.out.cell (World.block_lt_of_cell? w _ hx117_1)).trans hx117_1);(replace hx117_2 := (HB.out.cell (World.block_lt_of_cell? w _ hx117_2)).trans hx117_2);(replace p117 := eq_true p117);(replace q117 := eq_true q117);(try go_wp2_with (first | ((with_reducible refine gate_dst (N := 4) rfl ?_); refine box_event ?hg (N := 4) ?hd (cs := #[.string (⟨#[]⟩ : ByteArray), .int .i64 0, .int .i64 0]) (t := 90) ?hr ?_; (case hd => rfl); (case hg => rfl); (case hr => first | (go_simp; done) | (go_simp; rfl)); intro gb118 hg w27 hbox hb; have n0_ := Aside0.mk (below_step zq45 hb); have n1_ := Aside0.mk (hbox); have n2_ := Aside0.mk ((zq76 : w.heap.size ≤ gb118)); have n3_ := Aside0.mk ((zq76 : w.heap.size ≤ gb118)); clear HB; have HB := n0_; have BK118 := n1_; have GW118 := n2_; have GE118 := n3_; clear n0_ n1_ n2_ n3_; clear hb hbox hg; have hcz28_0 : w27.cell? ⟨gb118, 0, none⟩ = some (.string (⟨#[]⟩ : ByteArray)) := (blk_cell BK118.out 0).trans rfl; have hcz28_1 : w27.cell? ⟨gb118, 1, none⟩ = some (.int .i64 0) := (blk_cell BK118.out 1).trans rfl; have hcz28_2 : w27.cell? ⟨gb118, 2, none⟩ = some (.int .i64 0) := (blk_cell BK118.out 2).trans rfl; have hfz28_0 := blk_frozen BK118.out 0; have hfz28_1 := blk_frozen BK118.out 1; have hfz28_2 := blk_frozen BK118.out 2)));(have n0_ : Aside0 ((((w27.setCell ⟨gb118, 0, none⟩ (.string ((rd_T90 l0 x3_1).f0))).setCell ⟨gb118, 1, none⟩ (.int .i64 ((rd_T90 l0 x3_1).f1))).setCell ⟨gb118, 2, none⟩ (.int .i64 ((rd_T90 l0 x3_1).f2))).heap[gb118]? = some (.cells #[.string ((rd_T90 l0 x3_1).f0), .int .i64 ((rd_T90 l0 x3_1).f1), .int .i64 ((rd_T90 l0 x3_1).f2)] 90 (0, 0))) := ⟨zq17⟩);(have n1_ : Aside0 (Below w.heap.size w (((w27.setCell ⟨gb118, 0, none⟩ (.string ((rd_T90 l0 x3_1).f0))).setCell ⟨gb118, 1, none⟩ (.int .i64 ((rd_T90 l0 x3_1).f1))).setCell ⟨gb118, 2, none⟩ (.int .i64 ((rd_T90 l0 x3_1).f2)))) := ⟨zq41⟩);(try clear BK118);(try clear HB);(generalize (((w27.setCell ⟨gb118, 0, none⟩ (.string ((rd_T90 l0 x3_1).f0))).setCell ⟨gb118, 1, none⟩ (.int .i64 ((rd_T90 l0 x3_1).f1))).setCell ⟨gb118, 2, none⟩ (.int .i64 ((rd_T90 l0 x3_1).f2))) = w29 at n0_ n1_ ⊢);(have BK118 := n0_);(have HB := n1_);clear n0_ n1_;(have n0_ := Aside0.mk (blk_drew BK118.out));(have n1_ := Aside0.mk (below_drew1 HB.out));clear BK118;clear HB;(have BK118 := n0_);(have HB := n1_);clear n0_ n1_;(refine start_ (n := 33) (S := fun w' => w'.cell? ⟨gb118, 0, none⟩ = some (.string ((rd_T90 l0 x3_1).f0)) ∧ w'.cell? ⟨gb118, 1, none⟩ = some (.int .i64 ((rd_T90 l0 x3_1).f1)) ∧ w'.cell? ⟨gb118, 2, none⟩ = some (.int .i64 ((rd_T90 l0 x3_1).f2))) (ds := []) #[false,false,false,false,false,false,false,false,false,false,false,false,false,false,false,false,false,false,false,false,false,false,false,false,false,false,false,false,false,false,false,false,false] (by kernel_rfl) rfl rfl ⟨(blk_cell BK118.out 0).trans rfl, (blk_cell BK118.out 1).trans rfl, (blk_cell BK118.out 2).trans rfl⟩ (fun hHeld => ?_); refine with_tabW spec_l14Known.tab5 spec_l14Known.bits5 (fun HT_ HW_ => ?_));(generalize w29.drew = w30 at BK118 HB hHeld ⊢);(refine pI (i := 0) (N := some 15) (v := ?_) (a' := ?_) (mB 33 1) rfl rfl HT_.out (by kernel_rfl) (fun _ _ _ h => h) rfl ?_ ?_ ?_);rotate_left
        ·intro w'
         go_simp;(with_reducible rfl)
        rotate_left
        ·simp only [Act.put, sA]
         rfl
        (refine tI (i := 1) (N := some 16) (v := ?_) (a' := ?_) (mB 33 3) rfl rfl HT_.out HW_.out (by kernel_rfl) (fun _ _ _ h => h) rfl ?_ hHeld ?_ ?_);rotate_left
        ·rintro w' ⟨s0, s1, s2⟩
         go_simp;(with_reducible rfl)
        rotate_left
        ·simp only [Act.put, sA]
         rfl
        (refine one_ (i := 2) (N := some 17) (mB 33 7) rfl rfl (one_of HT_.out (by kernel_rfl)) (by decide) (fun K hK => ?_));(refine goes_ Tryd.func114 (by kernel_rfl) rfl #[.string ((rd_T90 l0 x3_1).f0)] (by rfl) rfl rfl zq0 ?_);(with_reducible refine (spec_IsName.calls k1 ((rd_T90 l0 x3_1).f0) true _ A4.out).mono ?_);(rintro e w' ⟨rfl, ⟨nd, rfl⟩⟩);(refine ⟨_, rfl, ?_⟩);(refine hK.out _ _ ⟨(blk_cell BK118.out 0).trans rfl, (blk_cell BK118.out 1).trans rfl, (blk_cell BK118.out 2).trans rfl⟩ (fun hHeld => ?_));clear hK K;(refine norm_ (a' := ?_) ?_ ?_);rotate_left
        ·show Act.put _ (some 17) _ = _
         (simp only [Act.put, sA]);rfl
        (refine pI (i := 3) (N := some 18) (v := ?_) (a' := ?_) (mB 33 15) rfl rfl HT_.out (by kernel_rfl) (fun _ _ _ h => h) rfl ?_ ?_ ?_);rotate_left
        ·intro w'
         go_simp;(with_reducible rfl)
        rotate_left
        ·simp only [Act.put, sA]
         rfl
        (refine pI (i := 4) (N := some 19) (v := ?_) (a' := ?_) (mB 33 31) rfl rfl HT_.out (by kernel_rfl) (fun _ _ _ h => h) rfl ?_ ?_ ?_);rotate_left
        ·intro w'
         go_simp;(with_reducible rfl)
        rotate_left
        ·simp only [Act.put, sA]
         rfl
        (refine pI (i := 5) (N := some 20) (v := ?_) (a' := ?_) (mB 33 63) rfl rfl HT_.out (by kernel_rfl) (fun _ _ _ h => h) rfl ?_ ?_ ?_);rotate_left
        ·intro w'
         go_simp;(with_reducible rfl)
        rotate_left
        ·simp only [Act.put, sA]
         rfl
        (refine tI (i := 6) (N := some 21) (v := ?_) (a' := ?_) (mB 33 127) rfl rfl HT_.out HW_.out (by kernel_rfl) (fun _ _ _ h => h) rfl ?_ hHeld ?_ ?_);rotate_left
        ·rintro w' ⟨s0, s1, s2⟩
         go_simp;(with_reducible rfl)
        rotate_left
        ·simp only [Act.put, sA]
         rfl
        (refine one_ (i := 7) (N := some 22) (mB 33 255) rfl rfl (one_of HT_.out (by kernel_rfl)) (by decide) (fun K hK => ?_));(refine goes_ Tryd.func100 (by kernel_rfl) rfl #[.int .i64 ((rd_T90 l0 x3_1).f1)] (by rfl) rfl rfl zq0 ?_);(with_reducible refine (spec_l14Year.calls ((rd_T90 l0 x3_1).f1) true _ A6.out).mono ?_);(rintro e w' ⟨rfl, ⟨nd, rfl⟩⟩);(refine ⟨_, rfl, ?_⟩);(refine hK.out _ _ ⟨(blk_cell BK118.out 0).trans rfl, (blk_cell BK118.out 1).trans rfl, (blk_cell BK118.out 2).trans rfl⟩ (fun hHeld => ?_));clear hK K;(refine norm_ (a' := ?_) ?_ ?_);rotate_left
        ·show Act.put _ (some 22) _ = _
         (simp only [Act.put, sA]);rfl
        (refine pI (i := 8) (N := some 23) (v := ?_) (a' := ?_) (mB 33 511) rfl rfl HT_.out (by kernel_rfl) (fun _ _ _ h => h) rfl ?_ ?_ ?_);rotate_left
        ·intro w'
         go_simp;(with_reducible rfl)
        rotate_left
        ·simp only [Act.put, sA]
         rfl
        (refine pI (i := 9) (N := some 24) (v := ?_) (a' := ?_) (mB 33 1023) rfl rfl HT_.out (by kernel_rfl) (fun _ _ _ h => h) rfl ?_ ?_ ?_);rotate_left
        ·intro w'
         go_simp;(with_reducible rfl)
        rotate_left
        ·simp only [Act.put, sA]
         rfl
        (refine pI (i := 10) (N := some 25) (v := ?_) (a' := ?_) (mB 33 2047) rfl rfl HT_.out (by kernel_rfl) (fun _ _ _ h => h) rfl ?_ ?_ ?_);rotate_left
        ·intro w'
         go_simp;(with_reducible rfl)
        rotate_left
        ·simp only [Act.put, sA]
         rfl
        (refine pI (i := 11) (N := some 26) (v := ?_) (a' := ?_) (mB 33 4095) rfl rfl HT_.out (by kernel_rfl) (fun _ _ _ h => h) rfl ?_ ?_ ?_);rotate_left
        ·intro w'
         go_simp;(with_reducible rfl)
        rotate_left
        ·simp only [Act.put, sA]
         rfl
        (refine pI (i := 13) (N := some 28) (v := ?_) (a' := ?_) (mB 33 12287) rfl rfl HT_.out (by kernel_rfl) (fun _ _ _ h => h) rfl ?_ ?_ ?_);rotate_left
        ·intro w'
         go_simp;(with_reducible rfl)
        rotate_left
        ·simp only [Act.put, sA]
         rfl
        (refine tI (i := 12) (N := some 27) (v := ?_) (a' := ?_) (mB 33 16383) rfl rfl HT_.out HW_.out (by kernel_rfl) (fun _ _ _ h => h) rfl ?_ hHeld ?_ ?_);rotate_left
        ·rintro w' ⟨s0, s1, s2⟩
         go_simp;(with_reducible rfl)
        rotate_left
        ·simp only [Act.put, sA]
         rfl
        (refine tI (i := 14) (N := some 29) (v := ?_) (a' := ?_) (mB 33 32767) rfl rfl HT_.out HW_.out (by kernel_rfl) (fun _ _ _ h => h) rfl ?_ hHeld ?_ ?_);rotate_left
        ·rintro w' ⟨s0, s1, s2⟩
         go_simp;(with_reducible rfl)
        rotate_left
        ·simp only [Act.put, sA]
         rfl
        (refine one_ (i := 15) (N := some 30) (mB 33 65535) rfl rfl (one_of HT_.out (by kernel_rfl)) (by decide) (fun K hK => ?_));(refine goes_ Tryd.func74 (by kernel_rfl) rfl #[.int .i64 ((rd_T90 l0 x3_1).f2), .int .i64 ((rd_T90 l0 x3_1).f1), .int .i64 3000] (by rfl) rfl rfl zq0 ?_);(with_reducible refine (spec_l00In.calls ((rd_T90 l0 x3_1).f2) ((rd_T90 l0 x3_1).f1) 3000 false _ A8.out).mono ?_);(rintro e w' ⟨rfl, ⟨nd, rfl⟩⟩);(refine ⟨_, rfl, ?_⟩);(refine hK.out _ _ ⟨(blk_cell BK118.out 0).trans rfl, (blk_cell BK118.out 1).trans rfl, (blk_cell BK118.out 2).trans rfl⟩ (fun hHeld => ?_));clear hK K;(refine norm_ (a' := ?_) ?_ ?_);rotate_left
        ·show Act.put _ (some 30) _ = _
         (simp only [Act.put, sA]);rfl
        (refine pI (i := 16) (N := some 31) (v := ?_) (a' := ?_) (mB 33 131071) rfl rfl HT_.out (by kernel_rfl) (fun _ _ _ h => h) rfl ?_ ?_ ?_);rotate_left
        ·intro w'
         go_simp;(with_reducible rfl)
        rotate_left
        ·simp only [Act.put, sA]
         rfl
        (refine pI (i := 17) (N := some 32) (v := ?_) (a' := ?_) (mB 33 262143) rfl rfl HT_.out (by kernel_rfl) (fun _ _ _ h => h) rfl ?_ ?_ ?_);rotate_left
        ·intro w'
         go_simp;(with_reducible rfl)
        rotate_left
        ·simp only [Act.put, sA]
         rfl
        (refine pI (i := 18) (N := some 33) (v := ?_) (a' := ?_) (mB 33 524287) rfl rfl HT_.out (by kernel_rfl) (fun _ _ _ h => h) rfl ?_ ?_ ?_);rotate_left
        ·intro w'
         go_simp;(with_reducible rfl)
        rotate_left
        ·simp only [Act.put, sA]
         rfl
        (refine pU (i := 19) (N := some 34) (a' := ?_) (mB 33 1048575) rfl rfl HT_.out (by kernel_rfl) (fun _ _ _ h => h) rfl ?_ ?_);rotate_left
        ·simp only [Act.put, sA]
         rfl
        (refine pU (i := 20) (N := some 35) (a' := ?_) (mB 33 2097151) rfl rfl HT_.out (by kernel_rfl) (fun _ _ _ h => h) rfl ?_ ?_);rotate_left
        ·simp only [Act.put, sA]
         rfl
        (refine pU (i := 21) (N := some 36) (a' := ?_) (mB 33 4194303) rfl rfl HT_.out (by kernel_rfl) (fun _ _ _ h => h) rfl ?_ ?_);rotate_left
        ·simp only [Act.put, sA]
         rfl
        (refine pU (i := 22) (N := some 37) (a' := ?_) (mB 33 8388607) rfl rfl HT_.out (by kernel_rfl) (fun _ _ _ h => h) rfl ?_ ?_);rotate_left
        ·simp only [Act.put, sA]
         rfl
        (refine pU (i := 23) (N := some 38) (a' := ?_) (mB 33 16777215) rfl rfl HT_.out (by kernel_rfl) (fun _ _ _ h => h) rfl ?_ ?_);rotate_left
        ·simp only [Act.put, sA]
         rfl
        (refine pU (i := 24) (N := some 39) (a' := ?_) (mB 33 33554431) rfl rfl HT_.out (by kernel_rfl) (fun _ _ _ h => h) rfl ?_ ?_);rotate_left
        ·simp only [Act.put, sA]
         rfl
        (refine pU (i := 25) (N := some 40) (a' := ?_) (mB 33 67108863) rfl rfl HT_.out (by kernel_rfl) (fun _ _ _ h => h) rfl ?_ ?_);rotate_left
        ·simp only [Act.put, sA]
         rfl
        (refine pU (i := 26) (N := some 41) (a' := ?_) (mB 33 134217727) rfl rfl HT_.out (by kernel_rfl) (fun _ _ _ h => h) rfl ?_ ?_);rotate_left
        ·simp only [Act.put, sA]
         rfl
        (refine pU (i := 27) (N := some 42) (a' := ?_) (mB 33 268435455) rfl rfl HT_.out (by kernel_rfl) (fun _ _ _ h => h) rfl ?_ ?_);rotate_left
        ·simp only [Act.put, sA]
         rfl
        (refine pU (i := 28) (N := some 43) (a' := ?_) (mB 33 536870911) rfl rfl HT_.out (by kernel_rfl) (fun _ _ _ h => h) rfl ?_ ?_);rotate_left
        ·simp only [Act.put, sA]
         rfl
        (refine pU (i := 29) (N := some 44) (a' := ?_) (mB 33 1073741823) rfl rfl HT_.out (by kernel_rfl) (fun _ _ _ h => h) rfl ?_ ?_);rotate_left
        ·simp only [Act.put, sA]
         rfl
        (refine pU (i := 30) (N := some 45) (a' := ?_) (mB 33 2147483647) rfl rfl HT_.out (by kernel_rfl) (fun _ _ _ h => h) rfl ?_ ?_);rotate_left
        ·simp only [Act.put, sA]
         rfl
        (refine pU (i := 31) (N := some 46) (a' := ?_) (mB 33 4294967295) rfl rfl HT_.out (by kernel_rfl) (fun _ _ _ h => h) rfl ?_ ?_);rotate_left
        ·simp only [Act.put, sA]
         rfl
        (refine pI (i := 32) (N := some 47) (v := ?_) (a' := ?_) (mB 33 8589934591) rfl rfl HT_.out (by kernel_rfl) (fun _ _ _ h => h) rfl ?_ ?_ ?_);rotate_left
        ·intro w'
         go_simp;(with_reducible rfl)
        rotate_left
        ·simp only [Act.put, sA]
         rfl
        (refine done_ (done_of HT_.out (by kernel_rfl)) ?_);(try go_wp2);(go_ret);(exact ⟨zq27, zq41⟩)
      ·replace c7 := Bool.eq_false_iff.mpr c7
       subst c7;(have H1 : (some false) = some r := zq79);clear H;(have H := H1);clear H1;(obtain rfl := Option.some.inj H);(have p117 : 0 ≤ (x3_1 : Int) := of_decide_eq_true zq22);(have q117 : x3_1 < (l0.length : Int) := of_decide_eq_true zq22);(obtain ⟨ad117, e117, hx117_0, hx117_1, hx117_2⟩ := at_T90 HR0.out x3_1 p117 q117)
       cases e117
       (replace hx117_0 := (HB.out.cell (World.block_lt_of_cell? w _ hx117_0)).trans hx117_0);(replace hx117_1 := (HB.out.cell (World.block_lt_of_cell? w _ hx117_1)).trans hx117_1);(replace hx117_2 := (HB.out.cell (World.block_lt_of_cell? w _ hx117_2)).trans hx117_2);(replace p117 := eq_true p117);(replace q117 := eq_true q117);(try go_wp2_with (first | ((with_reducible refine gate_dst (N := 4) rfl ?_); refine box_event ?hg (N := 4) ?hd (cs := #[.string (⟨#[]⟩ : ByteArray), .int .i64 0, .int .i64 0]) (t := 90) ?hr ?_; (case hd => rfl); (case hg => rfl); (case hr => first | (go_simp; done) | (go_simp; rfl)); intro gb118 hg w31 hbox hb; have n0_ := Aside0.mk (below_step zq45 hb); have n1_ := Aside0.mk (hbox); have n2_ := Aside0.mk ((zq76 : w.heap.size ≤ gb118)); have n3_ := Aside0.mk ((zq76 : w.heap.size ≤ gb118)); clear HB; have HB := n0_; have BK118 := n1_; have GW118 := n2_; have GE118 := n3_; clear n0_ n1_ n2_ n3_; clear hb hbox hg; have hcz32_0 : w31.cell? ⟨gb118, 0, none⟩ = some (.string (⟨#[]⟩ : ByteArray)) := (blk_cell BK118.out 0).trans rfl; have hcz32_1 : w31.cell? ⟨gb118, 1, none⟩ = some (.int .i64 0) := (blk_cell BK118.out 1).trans rfl; have hcz32_2 : w31.cell? ⟨gb118, 2, none⟩ = some (.int .i64 0) := (blk_cell BK118.out 2).trans rfl; have hfz32_0 := blk_frozen BK118.out 0; have hfz32_1 := blk_frozen BK118.out 1; have hfz32_2 := blk_frozen BK118.out 2)));(have n0_ : Aside0 ((((w31.setCell ⟨gb118, 0, none⟩ (.string ((rd_T90 l0 x3_1).f0))).setCell ⟨gb118, 1, none⟩ (.int .i64 ((rd_T90 l0 x3_1).f1))).setCell ⟨gb118, 2, none⟩ (.int .i64 ((rd_T90 l0 x3_1).f2))).heap[gb118]? = some (.cells #[.string ((rd_T90 l0 x3_1).f0), .int .i64 ((rd_T90 l0 x3_1).f1), .int .i64 ((rd_T90 l0 x3_1).f2)] 90 (0, 0))) := ⟨zq17⟩);(have n1_ : Aside0 (Below w.heap.size w (((w31.setCell ⟨gb118, 0, none⟩ (.string ((rd_T90 l0 x3_1).f0))).setCell ⟨gb118, 1, none⟩ (.int .i64 ((rd_T90 l0 x3_1).f1))).setCell ⟨gb118, 2, none⟩ (.int .i64 ((rd_T90 l0 x3_1).f2)))) := ⟨zq41⟩);(try clear BK118);(try clear HB);(generalize (((w31.setCell ⟨gb118, 0, none⟩ (.string ((rd_T90 l0 x3_1).f0))).setCell ⟨gb118, 1, none⟩ (.int .i64 ((rd_T90 l0 x3_1).f1))).setCell ⟨gb118, 2, none⟩ (.int .i64 ((rd_T90 l0 x3_1).f2))) = w33 at n0_ n1_ ⊢);(have BK118 := n0_);(have HB := n1_);clear n0_ n1_;(have n0_ := Aside0.mk (blk_drew BK118.out));(have n1_ := Aside0.mk (below_drew1 HB.out));clear BK118;clear HB;(have BK118 := n0_);(have HB := n1_);clear n0_ n1_;(refine start_ (n := 33) (S := fun w' => w'.cell? ⟨gb118, 0, none⟩ = some (.string ((rd_T90 l0 x3_1).f0)) ∧ w'.cell? ⟨gb118, 1, none⟩ = some (.int .i64 ((rd_T90 l0 x3_1).f1)) ∧ w'.cell? ⟨gb118, 2, none⟩ = some (.int .i64 ((rd_T90 l0 x3_1).f2))) (ds := []) #[false,false,false,false,false,false,false,false,false,false,false,false,false,false,false,false,false,false,false,false,false,false,false,false,false,false,false,false,false,false,false,false,false] (by kernel_rfl) rfl rfl ⟨(blk_cell BK118.out 0).trans rfl, (blk_cell BK118.out 1).trans rfl, (blk_cell BK118.out 2).trans rfl⟩ (fun hHeld => ?_); refine with_tabW spec_l14Known.tab5 spec_l14Known.bits5 (fun HT_ HW_ => ?_));(generalize w33.drew = w34 at BK118 HB hHeld ⊢);(refine pI (i := 0) (N := some 15) (v := ?_) (a' := ?_) (mB 33 1) rfl rfl HT_.out (by kernel_rfl) (fun _ _ _ h => h) rfl ?_ ?_ ?_);rotate_left
       ·intro w'
        go_simp;(with_reducible rfl)
       rotate_left
       ·simp only [Act.put, sA]
        rfl
       (refine tI (i := 1) (N := some 16) (v := ?_) (a' := ?_) (mB 33 3) rfl rfl HT_.out HW_.out (by kernel_rfl) (fun _ _ _ h => h) rfl ?_ hHeld ?_ ?_);rotate_left
       ·rintro w' ⟨s0, s1, s2⟩
        go_simp;(with_reducible rfl)
       rotate_left
       ·simp only [Act.put, sA]
        rfl
       (refine one_ (i := 2) (N := some 17) (mB 33 7) rfl rfl (one_of HT_.out (by kernel_rfl)) (by decide) (fun K hK => ?_));(refine goes_ Tryd.func114 (by kernel_rfl) rfl #[.string ((rd_T90 l0 x3_1).f0)] (by rfl) rfl rfl zq0 ?_);(with_reducible refine (spec_IsName.calls k1 ((rd_T90 l0 x3_1).f0) true _ A4.out).mono ?_);(rintro e w' ⟨rfl, ⟨nd, rfl⟩⟩);(refine ⟨_, rfl, ?_⟩);(refine hK.out _ _ ⟨(blk_cell BK118.out 0).trans rfl, (blk_cell BK118.out 1).trans rfl, (blk_cell BK118.out 2).trans rfl⟩ (fun hHeld => ?_));clear hK K;(refine norm_ (a' := ?_) ?_ ?_);rotate_left
       ·show Act.put _ (some 17) _ = _
        (simp only [Act.put, sA]);rfl
       (refine pI (i := 3) (N := some 18) (v := ?_) (a' := ?_) (mB 33 15) rfl rfl HT_.out (by kernel_rfl) (fun _ _ _ h => h) rfl ?_ ?_ ?_);rotate_left
       ·intro w'
        go_simp;(with_reducible rfl)
       rotate_left
       ·simp only [Act.put, sA]
        rfl
       (refine pI (i := 4) (N := some 19) (v := ?_) (a' := ?_) (mB 33 31) rfl rfl HT_.out (by kernel_rfl) (fun _ _ _ h => h) rfl ?_ ?_ ?_);rotate_left
       ·intro w'
        go_simp;(with_reducible rfl)
       rotate_left
       ·simp only [Act.put, sA]
        rfl
       (refine pI (i := 5) (N := some 20) (v := ?_) (a' := ?_) (mB 33 63) rfl rfl HT_.out (by kernel_rfl) (fun _ _ _ h => h) rfl ?_ ?_ ?_);rotate_left
       ·intro w'
        go_simp;(with_reducible rfl)
       rotate_left
       ·simp only [Act.put, sA]
        rfl
       (refine tI (i := 6) (N := some 21) (v := ?_) (a' := ?_) (mB 33 127) rfl rfl HT_.out HW_.out (by kernel_rfl) (fun _ _ _ h => h) rfl ?_ hHeld ?_ ?_);rotate_left
       ·rintro w' ⟨s0, s1, s2⟩
        go_simp;(with_reducible rfl)
       rotate_left
       ·simp only [Act.put, sA]
        rfl
       (refine one_ (i := 7) (N := some 22) (mB 33 255) rfl rfl (one_of HT_.out (by kernel_rfl)) (by decide) (fun K hK => ?_));(refine goes_ Tryd.func100 (by kernel_rfl) rfl #[.int .i64 ((rd_T90 l0 x3_1).f1)] (by rfl) rfl rfl zq0 ?_);(with_reducible refine (spec_l14Year.calls ((rd_T90 l0 x3_1).f1) false _ A6.out).mono ?_);(rintro e w' ⟨rfl, ⟨nd, rfl⟩⟩);(refine ⟨_, rfl, ?_⟩);(refine hK.out _ _ ⟨(blk_cell BK118.out 0).trans rfl, (blk_cell BK118.out 1).trans rfl, (blk_cell BK118.out 2).trans rfl⟩ (fun hHeld => ?_));clear hK K;(refine norm_ (a' := ?_) ?_ ?_);rotate_left
       ·show Act.put _ (some 22) _ = _
        (simp only [Act.put, sA]);rfl
       (refine pI (i := 8) (N := some 23) (v := ?_) (a' := ?_) (mB 33 511) rfl rfl HT_.out (by kernel_rfl) (fun _ _ _ h => h) rfl ?_ ?_ ?_);rotate_left
       ·intro w'
        go_simp;(with_reducible rfl)
       rotate_left
       ·simp only [Act.put, sA]
        rfl
       (refine pI (i := 9) (N := some 24) (v := ?_) (a' := ?_) (mB 33 1023) rfl rfl HT_.out (by kernel_rfl) (fun _ _ _ h => h) rfl ?_ ?_ ?_);rotate_left
       ·intro w'
        go_simp;(with_reducible rfl)
       rotate_left
       ·simp only [Act.put, sA]
        rfl
       (refine pI (i := 10) (N := some 25) (v := ?_) (a' := ?_) (mB 33 2047) rfl rfl HT_.out (by kernel_rfl) (fun _ _ _ h => h) rfl ?_ ?_ ?_);rotate_left
       ·intro w'
        go_simp;(with_reducible rfl)
       rotate_left
       ·simp only [Act.put, sA]
        rfl
       (refine pU (i := 11) (N := some 26) (a' := ?_) (mB 33 4095) rfl rfl HT_.out (by kernel_rfl) (fun _ _ _ h => h) rfl ?_ ?_);rotate_left
       ·simp only [Act.put, sA]
        rfl
       (refine pU (i := 12) (N := some 27) (a' := ?_) (mB 33 8191) rfl rfl HT_.out (by kernel_rfl) (fun _ _ _ h => h) rfl ?_ ?_);rotate_left
       ·simp only [Act.put, sA]
        rfl
       (refine pU (i := 13) (N := some 28) (a' := ?_) (mB 33 16383) rfl rfl HT_.out (by kernel_rfl) (fun _ _ _ h => h) rfl ?_ ?_);rotate_left
       ·simp only [Act.put, sA]
        rfl
       (refine pU (i := 14) (N := some 29) (a' := ?_) (mB 33 32767) rfl rfl HT_.out (by kernel_rfl) (fun _ _ _ h => h) rfl ?_ ?_);rotate_left
       ·simp only [Act.put, sA]
        rfl
       (refine pU (i := 15) (N := some 30) (a' := ?_) (mB 33 65535) rfl rfl HT_.out (by kernel_rfl) (fun _ _ _ h => h) rfl ?_ ?_);rotate_left
       ·simp only [Act.put, sA]
        rfl
       (refine pU (i := 16) (N := some 31) (a' := ?_) (mB 33 131071) rfl rfl HT_.out (by kernel_rfl) (fun _ _ _ h => h) rfl ?_ ?_);rotate_left
       ·simp only [Act.put, sA]
        rfl
       (refine pI (i := 17) (N := some 32) (v := ?_) (a' := ?_) (mB 33 262143) rfl rfl HT_.out (by kernel_rfl) (fun _ _ _ h => h) rfl ?_ ?_ ?_);rotate_left
       ·intro w'
        go_simp;(with_reducible rfl)
       rotate_left
       ·simp only [Act.put, sA]
        rfl
       (refine pI (i := 18) (N := some 33) (v := ?_) (a' := ?_) (mB 33 524287) rfl rfl HT_.out (by kernel_rfl) (fun _ _ _ h => h) rfl ?_ ?_ ?_);rotate_left
       ·intro w'
        go_simp;(with_reducible rfl)
       rotate_left
       ·simp only [Act.put, sA]
        rfl
       (refine pU (i := 19) (N := some 34) (a' := ?_) (mB 33 1048575) rfl rfl HT_.out (by kernel_rfl) (fun _ _ _ h => h) rfl ?_ ?_);rotate_left
       ·simp only [Act.put, sA]
        rfl
       (refine pU (i := 20) (N := some 35) (a' := ?_) (mB 33 2097151) rfl rfl HT_.out (by kernel_rfl) (fun _ _ _ h => h) rfl ?_ ?_);rotate_left
       ·simp only [Act.put, sA]
        rfl
       (refine pU (i := 21) (N := some 36) (a' := ?_) (mB 33 4194303) rfl rfl HT_.out (by kernel_rfl) (fun _ _ _ h => h) rfl ?_ ?_);rotate_left
       ·simp only [Act.put, sA]
        rfl
       (refine pU (i := 22) (N := some 37) (a' := ?_) (mB 33 8388607) rfl rfl HT_.out (by kernel_rfl) (fun _ _ _ h => h) rfl ?_ ?_);rotate_left
       ·simp only [Act.put, sA]
        rfl
       (refine pU (i := 23) (N := some 38) (a' := ?_) (mB 33 16777215) rfl rfl HT_.out (by kernel_rfl) (fun _ _ _ h => h) rfl ?_ ?_);rotate_left
       ·simp only [Act.put, sA]
        rfl
       (refine pU (i := 24) (N := some 39) (a' := ?_) (mB 33 33554431) rfl rfl HT_.out (by kernel_rfl) (fun _ _ _ h => h) rfl ?_ ?_);rotate_left
       ·simp only [Act.put, sA]
        rfl
       (refine pU (i := 25) (N := some 40) (a' := ?_) (mB 33 67108863) rfl rfl HT_.out (by kernel_rfl) (fun _ _ _ h => h) rfl ?_ ?_);rotate_left
       ·simp only [Act.put, sA]
        rfl
       (refine pU (i := 26) (N := some 41) (a' := ?_) (mB 33 134217727) rfl rfl HT_.out (by kernel_rfl) (fun _ _ _ h => h) rfl ?_ ?_);rotate_left
       ·simp only [Act.put, sA]
        rfl
       (refine pU (i := 27) (N := some 42) (a' := ?_) (mB 33 268435455) rfl rfl HT_.out (by kernel_rfl) (fun _ _ _ h => h) rfl ?_ ?_);rotate_left
       ·simp only [Act.put, sA]
        rfl
       (refine pU (i := 28) (N := some 43) (a' := ?_) (mB 33 536870911) rfl rfl HT_.out (by kernel_rfl) (fun _ _ _ h => h) rfl ?_ ?_);rotate_left
       ·simp only [Act.put, sA]
        rfl
       (refine pU (i := 29) (N := some 44) (a' := ?_) (mB 33 1073741823) rfl rfl HT_.out (by kernel_rfl) (fun _ _ _ h => h) rfl ?_ ?_);rotate_left
       ·simp only [Act.put, sA]
        rfl
       (refine pU (i := 30) (N := some 45) (a' := ?_) (mB 33 2147483647) rfl rfl HT_.out (by kernel_rfl) (fun _ _ _ h => h) rfl ?_ ?_);rotate_left
       ·simp only [Act.put, sA]
        rfl
       (refine pU (i := 31) (N := some 46) (a' := ?_) (mB 33 4294967295) rfl rfl HT_.out (by kernel_rfl) (fun _ _ _ h => h) rfl ?_ ?_);rotate_left
       ·simp only [Act.put, sA]
        rfl
       (refine pI (i := 32) (N := some 47) (v := ?_) (a' := ?_) (mB 33 8589934591) rfl rfl HT_.out (by kernel_rfl) (fun _ _ _ h => h) rfl ?_ ?_ ?_);rotate_left
       ·intro w'
        go_simp;(with_reducible rfl)
       rotate_left
       ·simp only [Act.put, sA]
        rfl
       (refine done_ (done_of HT_.out (by kernel_rfl)) ?_);(try go_wp2);(go_ret);(exact ⟨zq27, zq41⟩)
     ·replace c5 := Bool.eq_false_iff.mpr c5
      subst c5;(have H1 : (some false) = some r := zq79);clear H;(have H := H1);clear H1;(obtain rfl := Option.some.inj H);(have p117 : 0 ≤ (x3_1 : Int) := of_decide_eq_true zq22);(have q117 : x3_1 < (l0.length : Int) := of_decide_eq_true zq22);(obtain ⟨ad117, e117, hx117_0, hx117_1, hx117_2⟩ := at_T90 HR0.out x3_1 p117 q117)
      cases e117
      (replace hx117_0 := (HB.out.cell (World.block_lt_of_cell? w _ hx117_0)).trans hx117_0);(replace hx117_1 := (HB.out.cell (World.block_lt_of_cell? w _ hx117_1)).trans hx117_1);(replace hx117_2 := (HB.out.cell (World.block_lt_of_cell? w _ hx117_2)).trans hx117_2);(replace p117 := eq_true p117);(replace q117 := eq_true q117);(try go_wp2_with (first | ((with_reducible refine gate_dst (N := 4) rfl ?_); refine box_event ?hg (N := 4) ?hd (cs := #[.string (⟨#[]⟩ : ByteArray), .int .i64 0, .int .i64 0]) (t := 90) ?hr ?_; (case hd => rfl); (case hg => rfl); (case hr => first | (go_simp; done) | (go_simp; rfl)); intro gb118 hg w35 hbox hb; have n0_ := Aside0.mk (below_step zq45 hb); have n1_ := Aside0.mk (hbox); have n2_ := Aside0.mk ((zq76 : w.heap.size ≤ gb118)); have n3_ := Aside0.mk ((zq76 : w.heap.size ≤ gb118)); clear HB; have HB := n0_; have BK118 := n1_; have GW118 := n2_; have GE118 := n3_; clear n0_ n1_ n2_ n3_; clear hb hbox hg; have hcz36_0 : w35.cell? ⟨gb118, 0, none⟩ = some (.string (⟨#[]⟩ : ByteArray)) := (blk_cell BK118.out 0).trans rfl; have hcz36_1 : w35.cell? ⟨gb118, 1, none⟩ = some (.int .i64 0) := (blk_cell BK118.out 1).trans rfl; have hcz36_2 : w35.cell? ⟨gb118, 2, none⟩ = some (.int .i64 0) := (blk_cell BK118.out 2).trans rfl; have hfz36_0 := blk_frozen BK118.out 0; have hfz36_1 := blk_frozen BK118.out 1; have hfz36_2 := blk_frozen BK118.out 2)));(have n0_ : Aside0 ((((w35.setCell ⟨gb118, 0, none⟩ (.string ((rd_T90 l0 x3_1).f0))).setCell ⟨gb118, 1, none⟩ (.int .i64 ((rd_T90 l0 x3_1).f1))).setCell ⟨gb118, 2, none⟩ (.int .i64 ((rd_T90 l0 x3_1).f2))).heap[gb118]? = some (.cells #[.string ((rd_T90 l0 x3_1).f0), .int .i64 ((rd_T90 l0 x3_1).f1), .int .i64 ((rd_T90 l0 x3_1).f2)] 90 (0, 0))) := ⟨zq17⟩);(have n1_ : Aside0 (Below w.heap.size w (((w35.setCell ⟨gb118, 0, none⟩ (.string ((rd_T90 l0 x3_1).f0))).setCell ⟨gb118, 1, none⟩ (.int .i64 ((rd_T90 l0 x3_1).f1))).setCell ⟨gb118, 2, none⟩ (.int .i64 ((rd_T90 l0 x3_1).f2)))) := ⟨zq41⟩);(try clear BK118);(try clear HB);(generalize (((w35.setCell ⟨gb118, 0, none⟩ (.string ((rd_T90 l0 x3_1).f0))).setCell ⟨gb118, 1, none⟩ (.int .i64 ((rd_T90 l0 x3_1).f1))).setCell ⟨gb118, 2, none⟩ (.int .i64 ((rd_T90 l0 x3_1).f2))) = w37 at n0_ n1_ ⊢);(have BK118 := n0_);(have HB := n1_);clear n0_ n1_;(have n0_ := Aside0.mk (blk_drew BK118.out));(have n1_ := Aside0.mk (below_drew1 HB.out));clear BK118;clear HB;(have BK118 := n0_);(have HB := n1_);clear n0_ n1_;(refine start_ (n := 33) (S := fun w' => w'.cell? ⟨gb118, 0, none⟩ = some (.string ((rd_T90 l0 x3_1).f0)) ∧ w'.cell? ⟨gb118, 1, none⟩ = some (.int .i64 ((rd_T90 l0 x3_1).f1)) ∧ w'.cell? ⟨gb118, 2, none⟩ = some (.int .i64 ((rd_T90 l0 x3_1).f2))) (ds := []) #[false,false,false,false,false,false,false,false,false,false,false,false,false,false,false,false,false,false,false,false,false,false,false,false,false,false,false,false,false,false,false,false,false] (by kernel_rfl) rfl rfl ⟨(blk_cell BK118.out 0).trans rfl, (blk_cell BK118.out 1).trans rfl, (blk_cell BK118.out 2).trans rfl⟩ (fun hHeld => ?_); refine with_tabW spec_l14Known.tab5 spec_l14Known.bits5 (fun HT_ HW_ => ?_));(generalize w37.drew = w38 at BK118 HB hHeld ⊢);(refine pI (i := 0) (N := some 15) (v := ?_) (a' := ?_) (mB 33 1) rfl rfl HT_.out (by kernel_rfl) (fun _ _ _ h => h) rfl ?_ ?_ ?_);rotate_left
      ·intro w'
       go_simp;(with_reducible rfl)
      rotate_left
      ·simp only [Act.put, sA]
       rfl
      (refine tI (i := 1) (N := some 16) (v := ?_) (a' := ?_) (mB 33 3) rfl rfl HT_.out HW_.out (by kernel_rfl) (fun _ _ _ h => h) rfl ?_ hHeld ?_ ?_);rotate_left
      ·rintro w' ⟨s0, s1, s2⟩
       go_simp;(with_reducible rfl)
      rotate_left
      ·simp only [Act.put, sA]
       rfl
      (refine one_ (i := 2) (N := some 17) (mB 33 7) rfl rfl (one_of HT_.out (by kernel_rfl)) (by decide) (fun K hK => ?_));(refine goes_ Tryd.func114 (by kernel_rfl) rfl #[.string ((rd_T90 l0 x3_1).f0)] (by rfl) rfl rfl zq0 ?_);(with_reducible refine (spec_IsName.calls k1 ((rd_T90 l0 x3_1).f0) false _ A4.out).mono ?_);(rintro e w' ⟨rfl, ⟨nd, rfl⟩⟩);(refine ⟨_, rfl, ?_⟩);(refine hK.out _ _ ⟨(blk_cell BK118.out 0).trans rfl, (blk_cell BK118.out 1).trans rfl, (blk_cell BK118.out 2).trans rfl⟩ (fun hHeld => ?_));clear hK K;(refine norm_ (a' := ?_) ?_ ?_);rotate_left
      ·show Act.put _ (some 17) _ = _
       (simp only [Act.put, sA]);rfl
      (refine pI (i := 3) (N := some 18) (v := ?_) (a' := ?_) (mB 33 15) rfl rfl HT_.out (by kernel_rfl) (fun _ _ _ h => h) rfl ?_ ?_ ?_);rotate_left
      ·intro w'
       go_simp;(with_reducible rfl)
      rotate_left
      ·simp only [Act.put, sA]
       rfl
      (refine pI (i := 4) (N := some 19) (v := ?_) (a' := ?_) (mB 33 31) rfl rfl HT_.out (by kernel_rfl) (fun _ _ _ h => h) rfl ?_ ?_ ?_);rotate_left
      ·intro w'
       go_simp;(with_reducible rfl)
      rotate_left
      ·simp only [Act.put, sA]
       rfl
      (refine pU (i := 5) (N := some 20) (a' := ?_) (mB 33 63) rfl rfl HT_.out (by kernel_rfl) (fun _ _ _ h => h) rfl ?_ ?_);rotate_left
      ·simp only [Act.put, sA]
       rfl
      (refine pU (i := 6) (N := some 21) (a' := ?_) (mB 33 127) rfl rfl HT_.out (by kernel_rfl) (fun _ _ _ h => h) rfl ?_ ?_);rotate_left
      ·simp only [Act.put, sA]
       rfl
      (refine pU (i := 7) (N := some 22) (a' := ?_) (mB 33 255) rfl rfl HT_.out (by kernel_rfl) (fun _ _ _ h => h) rfl ?_ ?_);rotate_left
      ·simp only [Act.put, sA]
       rfl
      (refine pU (i := 8) (N := some 23) (a' := ?_) (mB 33 511) rfl rfl HT_.out (by kernel_rfl) (fun _ _ _ h => h) rfl ?_ ?_);rotate_left
      ·simp only [Act.put, sA]
       rfl
      (refine pI (i := 9) (N := some 24) (v := ?_) (a' := ?_) (mB 33 1023) rfl rfl HT_.out (by kernel_rfl) (fun _ _ _ h => h) rfl ?_ ?_ ?_);rotate_left
      ·intro w'
       go_simp;(with_reducible rfl)
      rotate_left
      ·simp only [Act.put, sA]
       rfl
      (refine pI (i := 10) (N := some 25) (v := ?_) (a' := ?_) (mB 33 2047) rfl rfl HT_.out (by kernel_rfl) (fun _ _ _ h => h) rfl ?_ ?_ ?_);rotate_left
      ·intro w'
       go_simp;(with_reducible rfl)
      rotate_left
      ·simp only [Act.put, sA]
       rfl
      (refine pU (i := 11) (N := some 26) (a' := ?_) (mB 33 4095) rfl rfl HT_.out (by kernel_rfl) (fun _ _ _ h => h) rfl ?_ ?_);rotate_left
      ·simp only [Act.put, sA]
       rfl
      (refine pU (i := 12) (N := some 27) (a' := ?_) (mB 33 8191) rfl rfl HT_.out (by kernel_rfl) (fun _ _ _ h => h) rfl ?_ ?_);rotate_left
      ·simp only [Act.put, sA]
       rfl
      (refine pU (i := 13) (N := some 28) (a' := ?_) (mB 33 16383) rfl rfl HT_.out (by kernel_rfl) (fun _ _ _ h => h) rfl ?_ ?_);rotate_left
      ·simp only [Act.put, sA]
       rfl
      (refine pU (i := 14) (N := some 29) (a' := ?_) (mB 33 32767) rfl rfl HT_.out (by kernel_rfl) (fun _ _ _ h => h) rfl ?_ ?_);rotate_left
      ·simp only [Act.put, sA]
       rfl
      (refine pU (i := 15) (N := some 30) (a' := ?_) (mB 33 65535) rfl rfl HT_.out (by kernel_rfl) (fun _ _ _ h => h) rfl ?_ ?_);rotate_left
      ·simp only [Act.put, sA]
       rfl
      (refine pU (i := 16) (N := some 31) (a' := ?_) (mB 33 131071) rfl rfl HT_.out (by kernel_rfl) (fun _ _ _ h => h) rfl ?_ ?_);rotate_left
      ·simp only [Act.put, sA]
       rfl
      (refine pI (i := 17) (N := some 32) (v := ?_) (a' := ?_) (mB 33 262143) rfl rfl HT_.out (by kernel_rfl) (fun _ _ _ h => h) rfl ?_ ?_ ?_);rotate_left
      ·intro w'
       go_simp;(with_reducible rfl)
      rotate_left
      ·simp only [Act.put, sA]
       rfl
      (refine pI (i := 18) (N := some 33) (v := ?_) (a' := ?_) (mB 33 524287) rfl rfl HT_.out (by kernel_rfl) (fun _ _ _ h => h) rfl ?_ ?_ ?_);rotate_left
      ·intro w'
       go_simp;(with_reducible rfl)
      rotate_left
      ·simp only [Act.put, sA]
       rfl
      (refine pU (i := 19) (N := some 34) (a' := ?_) (mB 33 1048575) rfl rfl HT_.out (by kernel_rfl) (fun _ _ _ h => h) rfl ?_ ?_);rotate_left
      ·simp only [Act.put, sA]
       rfl
      (refine pU (i := 20) (N := some 35) (a' := ?_) (mB 33 2097151) rfl rfl HT_.out (by kernel_rfl) (fun _ _ _ h => h) rfl ?_ ?_);rotate_left
      ·simp only [Act.put, sA]
       rfl
      (refine pU (i := 21) (N := some 36) (a' := ?_) (mB 33 4194303) rfl rfl HT_.out (by kernel_rfl) (fun _ _ _ h => h) rfl ?_ ?_);rotate_left
      ·simp only [Act.put, sA]
       rfl
      (refine pU (i := 22) (N := some 37) (a' := ?_) (mB 33 8388607) rfl rfl HT_.out (by kernel_rfl) (fun _ _ _ h => h) rfl ?_ ?_);rotate_left
      ·simp only [Act.put, sA]
       rfl
      (refine pU (i := 23) (N := some 38) (a' := ?_) (mB 33 16777215) rfl rfl HT_.out (by kernel_rfl) (fun _ _ _ h => h) rfl ?_ ?_);rotate_left
      ·simp only [Act.put, sA]
       rfl
      (refine pU (i := 24) (N := some 39) (a' := ?_) (mB 33 33554431) rfl rfl HT_.out (by kernel_rfl) (fun _ _ _ h => h) rfl ?_ ?_);rotate_left
      ·simp only [Act.put, sA]
       rfl
      (refine pU (i := 25) (N := some 40) (a' := ?_) (mB 33 67108863) rfl rfl HT_.out (by kernel_rfl) (fun _ _ _ h => h) rfl ?_ ?_);rotate_left
      ·simp only [Act.put, sA]
       rfl
      (refine pU (i := 26) (N := some 41) (a' := ?_) (mB 33 134217727) rfl rfl HT_.out (by kernel_rfl) (fun _ _ _ h => h) rfl ?_ ?_);rotate_left
      ·simp only [Act.put, sA]
       rfl
      (refine pU (i := 27) (N := some 42) (a' := ?_) (mB 33 268435455) rfl rfl HT_.out (by kernel_rfl) (fun _ _ _ h => h) rfl ?_ ?_);rotate_left
      ·simp only [Act.put, sA]
       rfl
      (refine pU (i := 28) (N := some 43) (a' := ?_) (mB 33 536870911) rfl rfl HT_.out (by kernel_rfl) (fun _ _ _ h => h) rfl ?_ ?_);rotate_left
      ·simp only [Act.put, sA]
       rfl
      (refine pU (i := 29) (N := some 44) (a' := ?_) (mB 33 1073741823) rfl rfl HT_.out (by kernel_rfl) (fun _ _ _ h => h) rfl ?_ ?_);rotate_left
      ·simp only [Act.put, sA]
       rfl
      (refine pU (i := 30) (N := some 45) (a' := ?_) (mB 33 2147483647) rfl rfl HT_.out (by kernel_rfl) (fun _ _ _ h => h) rfl ?_ ?_);rotate_left
      ·simp only [Act.put, sA]
       rfl
      (refine pU (i := 31) (N := some 46) (a' := ?_) (mB 33 4294967295) rfl rfl HT_.out (by kernel_rfl) (fun _ _ _ h => h) rfl ?_ ?_);rotate_left
      ·simp only [Act.put, sA]
       rfl
      (refine pI (i := 32) (N := some 47) (v := ?_) (a' := ?_) (mB 33 8589934591) rfl rfl HT_.out (by kernel_rfl) (fun _ _ _ h => h) rfl ?_ ?_ ?_);rotate_left
      ·intro w'
       go_simp;(with_reducible rfl)
      rotate_left
      ·simp only [Act.put, sA]
       rfl
      (refine done_ (done_of HT_.out (by kernel_rfl)) ?_);(try go_wp2);(go_ret);(exact ⟨zq27, zq41⟩)
    ·rw [if_neg c3] at H
     exact absurd H (by simp)
   ·rw [if_neg c2] at H
    (have c2b0 : decide (x3_1 < (l0.length : Int)) = false := decide_eq_false c2);clear c2;(obtain rfl := Option.some.inj H);(go_wp2);(go_ret);(exact ⟨zq27, zq45⟩)

end Go.Proofs.YtalmeecdjhelkaaDoor.PFnDates
