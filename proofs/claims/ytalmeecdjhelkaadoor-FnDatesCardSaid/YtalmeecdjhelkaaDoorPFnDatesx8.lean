-- Made by a program of this session (gprint.py) out of the kit's print of the translation and texts of my own. SLIM
import Derived.Test.YtalmeecdjhelkaaDoorPFnDatesx0
import Derived.Test.YtalmeecdjhelkaaDoorPFnDatesx7
namespace Go.Proofs.YtalmeecdjhelkaaDoor.PFnDates
open Go.RowKit Go.Proofs.YtalmeecdjhelkaaDoorW.PrintWords Go.Proofs.YtalmeecdjhelkaaDoorW.PrintLast Go.Proofs.YtalmeecdjhelkaaDoorW.PrintMore
set_option maxHeartbeats 64000000
set_option maxRecDepth 100000
attribute [local go_sem] max2_int min2_int max_two min_two max_three min_three max_four min_four   -- for this text's walks alone
set_option linter.unusedVariables false
set_option linter.unusedSimpArgs false

/-! ### impl_ValidKnown: function 43 -/
def impl_ValidKnown.l0 : Nat → List (S90) → List (S90) → Int → Int → Option (Bool)
 | 0, _, _, _, _ => none
 | k + 1, x0, x5, x6, x7 => if x7 < x6 then (if 0 ≤ x7 then (if x7 < (x5.length : Int) then ((impl_IsName.f ((rd_T90 x5 x7).f0)).bind fun t144 => (if t144 = true then ((impl_within.f ((rd_T90 x5 x7).f1) 1 ((rd_T90 x5 x7).f2)).bind fun t145 => (if t145 = true then (if ((rd_T90 x5 x7).f2) > 3000 then (some false) else (if x7 > 0 then (if 0 ≤ (wrap64 (x7 - 1)) then (if (wrap64 (x7 - 1)) < (x0.length : Int) then (if ((Op.bytesLess (((rd_T90 x0 (wrap64 (x7 - 1))).f0).toList) (((rd_T90 x5 x7).f0).toList)) = true) then (impl_ValidKnown.l0 k x0 x5 x6 (wrap64 (x7 + 1))) else (some false)) else (none)) else (none)) else (impl_ValidKnown.l0 k x0 x5 x6 (wrap64 (x7 + 1))))) else (some false))) else (some false))) else (none)) else (none)) else (some (decide ((x0.length : Int) ≤ 30)))
def impl_ValidKnown.f (k : Nat) (l0 : List (S90)) : Option (Bool) := impl_ValidKnown.l0 k l0 l0 (l0.length : Int) 0
theorem impl_ValidKnown.mono_l : ∀ k, (∀ y0 y1 y2 y3, LeO (impl_ValidKnown.l0 k y0 y1 y2 y3) (impl_ValidKnown.l0 (k + 1) y0 y1 y2 y3))
 | 0 => fun _ _ _ _ r h => by simp [impl_ValidKnown.l0] at h
 | k + 1 => by
  have ih0 := impl_ValidKnown.mono_l k
  ·intro y0 y1 y2 y3
   unfold impl_ValidKnown.l0
   repeat' first | with_reducible (first | exact ih0 _ _ _ _ | exact LeO.refl _ | exact LeO.none _ | refine LeO.ite ?_ ?_ | refine LeO.bind ?_ (fun _ => ?_)) | exact ih0 _ _ _ _ | exact LeO.none _ | refine LeO.ite ?_ ?_ | refine LeO.bind ?_ (fun _ => ?_)
theorem impl_ValidKnown.mono : ∀ a0 k, LeO (impl_ValidKnown.f k a0) (impl_ValidKnown.f (k + 1) a0) := by
 intro a0 k;(have ih0 := impl_ValidKnown.mono_l k);(unfold impl_ValidKnown.f)
 repeat' first | with_reducible (first | exact ih0 _ _ _ _ | exact LeO.refl _ | exact LeO.none _ | refine LeO.ite ?_ ?_ | refine LeO.bind ?_ (fun _ => ?_)) | exact ih0 _ _ _ _ | exact LeO.none _ | refine LeO.ite ?_ ?_ | refine LeO.bind ?_ (fun _ => ?_)
def impl_ValidKnown.T4 : Bool × List (List Nat × List Nat) := (true, [([], []), ([0], [0]), ([1], [1]), ([2], [2]), ([3, 2], [3]), ([4], [4]), ([5, 4], [4, 5]), ([4], [4]), ([7, 4], [4, 7]), ([6, 8, 4, 4], [4, 6, 8]), ([9, 4], [4, 9]), ([4, 10], [4, 10]), ([11, 9], [11]), ([12], [12]), ([13, 12], [12, 13]), ([14, 12], [12, 14]), ([12, 15], [12, 15]), ([16, 12], [16]), ([17], [17]), ([18, 17], [17, 18]), ([19, 17, 17], [17, 19]), ([20], [20]), ([20], [20]), ([22, 20], [20, 22]), ([21, 23, 20], [20, 21, 23]), ([24, 20], [20, 24]), ([25, 20], [20, 25]), ([20], [20]), ([27, 20], [20, 27]), ([26, 28, 20], [20, 26, 28]), ([20, 29, 17], [17, 20, 29]), ([17, 30], [17, 30])])
def impl_ValidKnown.B4 : List Nat := [0, 1, 3, 7, 15, 31, 63, 31, 159, 511, 1023, 2047, 4095, 8191, 16383, 32767, 65535, 131071, 262143, 524287, 1048575, 2097151, 2097151, 6291455, 16777215, 33554431, 67108863, 2097151, 136314879, 536870911, 1073741823, 2147483647]
theorem impl_ValidKnown.tab4 : rtab .any (opsOf Tryd.f43 4) = impl_ValidKnown.T4 := by kernel_rfl
theorem impl_ValidKnown.bits4 : waitsOk impl_ValidKnown.T4.2 impl_ValidKnown.B4 = true := by kernel_rfl
theorem impl_ValidKnown.calls (k : Nat) (A0 : Option Addr) (c0 : Nat) (l0 : List (S90)) (r : Bool) (w : World) (hr0 : Kd.C k90 w A0 l0.length l0) (hc0 : l0.length ≤ c0) (h : impl_ValidKnown.f k l0 = some r) :
  Calls Tryd.prog 43 #[.slice A0 l0.length c0] w fun e w' => e = .returned (.bool r) ∧ Below w.heap.size w w' := by
 (have hu90 := Tryd.underlying90);(have HR0 := Aside0.mk hr0);(have HC0 := Aside0.mk hc0);clear hr0 hc0;(have HB := Aside0.mk (Below.refl w.heap.size w));(have H : (impl_ValidKnown.l0 k l0 l0 (l0.length : Int) 0) = some r := h);clear h;(have H' := Aside0.mk H);clear H
 go_enter Tryd.func43, Tryd.ntmps43
 go_wp2
 go_loopg [7] k (fun kq v7 w' => ∃ (x7_1 : Int), v7 = .int .i64 x7_1 ∧ Aside0 (impl_ValidKnown.l0 kq l0 l0 (l0.length : Int) x7_1 = some r) ∧ Aside0 (kq ≤ k) ∧ Aside0 (Below w.heap.size w w'))
 case atStart => exact ⟨(0), zq28, H', ⟨Nat.le_refl _⟩, ⟨zq45⟩⟩
 case round =>
  clear H';(obtain ⟨x7_1, rfl, HA, HK1, HB⟩ := hrel)
  cases gk with
  | zero => exact absurd HA.out (by simp [impl_ValidKnown.l0])
  | succ k1 =>
   (have H := HA.out);clear HA;(simp only [impl_ValidKnown.l0] at H);(by_cases c2 : x7_1 < (l0.length : Int))
   ·rw [if_pos c2] at H
    (have c2b0 : decide (x7_1 < (l0.length : Int)) = true := decide_eq_true c2);clear c2;(by_cases c3 : 0 ≤ x7_1)
    ·rw [if_pos c3] at H
     (have c3b0 : decide (0 ≤ x7_1) = true := decide_eq_true c3);clear c3;(by_cases c4 : x7_1 < (l0.length : Int))
     ·rw [if_pos c4] at H
      (have c4b0 : decide (x7_1 < (l0.length : Int)) = true := decide_eq_true c4);clear c4;(replace H := Option.bind_eq_some_iff.mp H);(obtain ⟨t144, A50, H⟩ := H);(replace H : (if t144 = true then ((impl_within.f ((rd_T90 l0 x7_1).f1) 1 ((rd_T90 l0 x7_1).f2)).bind fun t145 => (if t145 = true then (if ((rd_T90 l0 x7_1).f2) > 3000 then (some false) else (if x7_1 > 0 then (if 0 ≤ (wrap64 (x7_1 - 1)) then (if (wrap64 (x7_1 - 1)) < (l0.length : Int) then (if ((Op.bytesLess (((rd_T90 l0 (wrap64 (x7_1 - 1))).f0).toList) (((rd_T90 l0 x7_1).f0).toList)) = true) then (impl_ValidKnown.l0 k1 l0 l0 (l0.length : Int) (wrap64 (x7_1 + 1))) else (some false)) else (none)) else (none)) else (impl_ValidKnown.l0 k1 l0 l0 (l0.length : Int) (wrap64 (x7_1 + 1))))) else (some false))) else (some false)) = some r := H);(have A5 := Aside0.mk A50);clear A50;(by_cases c6 : t144 = true)
      ·subst c6
       (have H1 : ((impl_within.f ((rd_T90 l0 x7_1).f1) 1 ((rd_T90 l0 x7_1).f2)).bind fun t145 => (if t145 = true then (if ((rd_T90 l0 x7_1).f2) > 3000 then (some false) else (if x7_1 > 0 then (if 0 ≤ (wrap64 (x7_1 - 1)) then (if (wrap64 (x7_1 - 1)) < (l0.length : Int) then (if ((Op.bytesLess (((rd_T90 l0 (wrap64 (x7_1 - 1))).f0).toList) (((rd_T90 l0 x7_1).f0).toList)) = true) then (impl_ValidKnown.l0 k1 l0 l0 (l0.length : Int) (wrap64 (x7_1 + 1))) else (some false)) else (none)) else (none)) else (impl_ValidKnown.l0 k1 l0 l0 (l0.length : Int) (wrap64 (x7_1 + 1))))) else (some false))) = some r := zq80);clear H;(have H := H1);clear H1;(replace H := Option.bind_eq_some_iff.mp H);(obtain ⟨t145, A70, H⟩ := H);(replace H : (if t145 = true then (if ((rd_T90 l0 x7_1).f2) > 3000 then (some false) else (if x7_1 > 0 then (if 0 ≤ (wrap64 (x7_1 - 1)) then (if (wrap64 (x7_1 - 1)) < (l0.length : Int) then (if ((Op.bytesLess (((rd_T90 l0 (wrap64 (x7_1 - 1))).f0).toList) (((rd_T90 l0 x7_1).f0).toList)) = true) then (impl_ValidKnown.l0 k1 l0 l0 (l0.length : Int) (wrap64 (x7_1 + 1))) else (some false)) else (none)) else (none)) else (impl_ValidKnown.l0 k1 l0 l0 (l0.length : Int) (wrap64 (x7_1 + 1))))) else (some false)) = some r := H);(have A7 := Aside0.mk A70);clear A70;(by_cases c8 : t145 = true)
       ·subst c8
        (have H1 : (if ((rd_T90 l0 x7_1).f2) > 3000 then (some false) else (if x7_1 > 0 then (if 0 ≤ (wrap64 (x7_1 - 1)) then (if (wrap64 (x7_1 - 1)) < (l0.length : Int) then (if ((Op.bytesLess (((rd_T90 l0 (wrap64 (x7_1 - 1))).f0).toList) (((rd_T90 l0 x7_1).f0).toList)) = true) then (impl_ValidKnown.l0 k1 l0 l0 (l0.length : Int) (wrap64 (x7_1 + 1))) else (some false)) else (none)) else (none)) else (impl_ValidKnown.l0 k1 l0 l0 (l0.length : Int) (wrap64 (x7_1 + 1))))) = some r := zq80);clear H;(have H := H1);clear H1;(by_cases c9 : ((rd_T90 l0 x7_1).f2) > 3000)
        ·rw [if_pos c9] at H
         (have c9b0 : decide (3000 < ((rd_T90 l0 x7_1).f2)) = true := decide_eq_true c9);clear c9;(obtain rfl := Option.some.inj H);(have p142 : 0 ≤ (x7_1 : Int) := of_decide_eq_true zq22);(have q142 : x7_1 < (l0.length : Int) := of_decide_eq_true zq22);(obtain ⟨ad142, e142, hx142_0, hx142_1, hx142_2⟩ := at_T90 HR0.out x7_1 p142 q142)
         cases e142
         (replace hx142_0 := (HB.out.cell (World.block_lt_of_cell? w _ hx142_0)).trans hx142_0);(replace hx142_1 := (HB.out.cell (World.block_lt_of_cell? w _ hx142_1)).trans hx142_1);(replace hx142_2 := (HB.out.cell (World.block_lt_of_cell? w _ hx142_2)).trans hx142_2);(replace p142 := eq_true p142);(replace q142 := eq_true q142);(try go_wp2_with (first | ((with_reducible refine gate_dst (N := 4) rfl ?_); refine box_event ?hg (N := 4) ?hd (cs := #[.string (⟨#[]⟩ : ByteArray), .int .i64 0, .int .i64 0]) (t := 90) ?hr ?_; (case hd => rfl); (case hg => rfl); (case hr => first | (go_simp; done) | (go_simp; rfl)); intro gb143 hg w10 hbox hb; have n0_ := Aside0.mk (below_step zq45 hb); have n1_ := Aside0.mk (hbox); have n2_ := Aside0.mk ((zq76 : w.heap.size ≤ gb143)); have n3_ := Aside0.mk ((zq76 : w.heap.size ≤ gb143)); clear HB; have HB := n0_; have BK143 := n1_; have GW143 := n2_; have GE143 := n3_; clear n0_ n1_ n2_ n3_; clear hb hbox hg; have hcz11_0 : w10.cell? ⟨gb143, 0, none⟩ = some (.string (⟨#[]⟩ : ByteArray)) := (blk_cell BK143.out 0).trans rfl; have hcz11_1 : w10.cell? ⟨gb143, 1, none⟩ = some (.int .i64 0) := (blk_cell BK143.out 1).trans rfl; have hcz11_2 : w10.cell? ⟨gb143, 2, none⟩ = some (.int .i64 0) := (blk_cell BK143.out 2).trans rfl; have hfz11_0 := blk_frozen BK143.out 0; have hfz11_1 := blk_frozen BK143.out 1; have hfz11_2 := blk_frozen BK143.out 2)));(have n0_ : Aside0 ((((w10.setCell ⟨gb143, 0, none⟩ (.string ((rd_T90 l0 x7_1).f0))).setCell ⟨gb143, 1, none⟩ (.int .i64 ((rd_T90 l0 x7_1).f1))).setCell ⟨gb143, 2, none⟩ (.int .i64 ((rd_T90 l0 x7_1).f2))).heap[gb143]? = some (.cells #[.string ((rd_T90 l0 x7_1).f0), .int .i64 ((rd_T90 l0 x7_1).f1), .int .i64 ((rd_T90 l0 x7_1).f2)] 90 (0, 0))) := ⟨zq18⟩);(have n1_ : Aside0 (Below w.heap.size w (((w10.setCell ⟨gb143, 0, none⟩ (.string ((rd_T90 l0 x7_1).f0))).setCell ⟨gb143, 1, none⟩ (.int .i64 ((rd_T90 l0 x7_1).f1))).setCell ⟨gb143, 2, none⟩ (.int .i64 ((rd_T90 l0 x7_1).f2)))) := ⟨zq42⟩);(try clear BK143);(try clear HB);(generalize (((w10.setCell ⟨gb143, 0, none⟩ (.string ((rd_T90 l0 x7_1).f0))).setCell ⟨gb143, 1, none⟩ (.int .i64 ((rd_T90 l0 x7_1).f1))).setCell ⟨gb143, 2, none⟩ (.int .i64 ((rd_T90 l0 x7_1).f2))) = w12 at n0_ n1_ ⊢);(have BK143 := n0_);(have HB := n1_);clear n0_ n1_;(have n0_ := Aside0.mk (blk_drew BK143.out));(have n1_ := Aside0.mk (below_drew1 HB.out));clear BK143;clear HB;(have BK143 := n0_);(have HB := n1_);clear n0_ n1_;(refine start_ (n := 32) (S := fun w' => w'.cell? ⟨gb143, 0, none⟩ = some (.string ((rd_T90 l0 x7_1).f0)) ∧ w'.cell? ⟨gb143, 1, none⟩ = some (.int .i64 ((rd_T90 l0 x7_1).f1)) ∧ w'.cell? ⟨gb143, 2, none⟩ = some (.int .i64 ((rd_T90 l0 x7_1).f2))) (ds := []) #[false,false,false,false,false,false,false,false,false,false,false,false,false,false,false,false,false,false,false,false,false,false,false,false,false,false,false,false,false,false,false,false] (by kernel_rfl) rfl rfl ⟨(blk_cell BK143.out 0).trans rfl, (blk_cell BK143.out 1).trans rfl, (blk_cell BK143.out 2).trans rfl⟩ (fun hHeld => ?_); refine with_tabW impl_ValidKnown.tab4 impl_ValidKnown.bits4 (fun HT_ HW_ => ?_));(generalize w12.drew = w13 at BK143 HB hHeld ⊢);(refine pI (i := 0) (N := some 12) (v := ?_) (a' := ?_) (mB 32 1) rfl rfl HT_.out (by kernel_rfl) (fun _ _ _ h => h) rfl ?_ ?_ ?_);rotate_left
         ·intro w'
          go_simp;(with_reducible rfl)
         rotate_left
         ·simp only [Act.put, sA]
          rfl
         (refine tI (i := 1) (N := some 13) (v := ?_) (a' := ?_) (mB 32 3) rfl rfl HT_.out HW_.out (by kernel_rfl) (fun _ _ _ h => h) rfl ?_ hHeld ?_ ?_);rotate_left
         ·rintro w' ⟨s0, s1, s2⟩
          go_simp;(with_reducible rfl)
         rotate_left
         ·simp only [Act.put, sA]
          rfl
         (refine one_ (i := 2) (N := some 14) (mB 32 7) rfl rfl (one_of HT_.out (by kernel_rfl)) (by decide) (fun K hK => ?_));(refine goes_ Tryd.func103 (by kernel_rfl) rfl #[.string ((rd_T90 l0 x7_1).f0)] (by rfl) rfl rfl zq0 ?_);(with_reducible refine (impl_IsName.calls ((rd_T90 l0 x7_1).f0) true _ A5.out).mono ?_);(rintro e w14 ⟨rfl, hb⟩);(refine ⟨_, rfl, ?_⟩);(have n0_ := Aside0.mk (blk_below (g := gb143) (o := .cells #[.string ((rd_T90 l0 x7_1).f0), .int .i64 ((rd_T90 l0 x7_1).f1), .int .i64 ((rd_T90 l0 x7_1).f2)] 90 (0, 0)) zq12 hb));(have n1_ := Aside0.mk (below_step zq42 hb));clear BK143;clear HB;(have BK143 := n0_);(have HB := n1_);clear n0_ n1_;(try clear hb);(try clear hb2);(try clear hk);(try clear hi);(refine hK.out _ _ ⟨(blk_cell BK143.out 0).trans rfl, (blk_cell BK143.out 1).trans rfl, (blk_cell BK143.out 2).trans rfl⟩ (fun hHeld => ?_));clear hK K;(refine norm_ (a' := ?_) ?_ ?_);rotate_left
         ·show Act.put _ (some 14) _ = _
          (simp only [Act.put, sA]);rfl
         (refine pI (i := 3) (N := some 15) (v := ?_) (a' := ?_) (mB 32 15) rfl rfl HT_.out (by kernel_rfl) (fun _ _ _ h => h) rfl ?_ ?_ ?_);rotate_left
         ·intro w'
          go_simp;(with_reducible rfl)
         rotate_left
         ·simp only [Act.put, sA]
          rfl
         (refine pI (i := 4) (N := some 16) (v := ?_) (a' := ?_) (mB 32 31) rfl rfl HT_.out (by kernel_rfl) (fun _ _ _ h => h) rfl ?_ ?_ ?_);rotate_left
         ·intro w'
          go_simp;(with_reducible rfl)
         rotate_left
         ·simp only [Act.put, sA]
          rfl
         (refine pI (i := 5) (N := some 17) (v := ?_) (a' := ?_) (mB 32 63) rfl rfl HT_.out (by kernel_rfl) (fun _ _ _ h => h) rfl ?_ ?_ ?_);rotate_left
         ·intro w'
          go_simp;(with_reducible rfl)
         rotate_left
         ·simp only [Act.put, sA]
          rfl
         (refine pI (i := 7) (N := some 19) (v := ?_) (a' := ?_) (mB 32 191) rfl rfl HT_.out (by kernel_rfl) (fun _ _ _ h => h) rfl ?_ ?_ ?_);rotate_left
         ·intro w'
          go_simp;(with_reducible rfl)
         rotate_left
         ·simp only [Act.put, sA]
          rfl
         (refine tI (i := 6) (N := some 18) (v := ?_) (a' := ?_) (mB 32 255) rfl rfl HT_.out HW_.out (by kernel_rfl) (fun _ _ _ h => h) rfl ?_ hHeld ?_ ?_);rotate_left
         ·rintro w' ⟨s0, s1, s2⟩
          go_simp;(with_reducible rfl)
         rotate_left
         ·simp only [Act.put, sA]
          rfl
         (refine tI (i := 8) (N := some 20) (v := ?_) (a' := ?_) (mB 32 511) rfl rfl HT_.out HW_.out (by kernel_rfl) (fun _ _ _ h => h) rfl ?_ hHeld ?_ ?_);rotate_left
         ·rintro w' ⟨s0, s1, s2⟩
          go_simp;(with_reducible rfl)
         rotate_left
         ·simp only [Act.put, sA]
          rfl
         (refine one_ (i := 9) (N := some 21) (mB 32 1023) rfl rfl (one_of HT_.out (by kernel_rfl)) (by decide) (fun K hK => ?_));(refine goes_ Tryd.func104 (by kernel_rfl) rfl #[.int .i64 ((rd_T90 l0 x7_1).f1), .int .i64 1, .int .i64 ((rd_T90 l0 x7_1).f2)] (by rfl) rfl rfl zq0 ?_);(with_reducible refine (impl_within.calls ((rd_T90 l0 x7_1).f1) 1 ((rd_T90 l0 x7_1).f2) true _ A7.out).mono ?_);(rintro e w' ⟨rfl, ⟨nd, rfl⟩⟩);(refine ⟨_, rfl, ?_⟩);(refine hK.out _ _ ⟨(blk_cell BK143.out 0).trans rfl, (blk_cell BK143.out 1).trans rfl, (blk_cell BK143.out 2).trans rfl⟩ (fun hHeld => ?_));clear hK K;(refine norm_ (a' := ?_) ?_ ?_);rotate_left
         ·show Act.put _ (some 21) _ = _
          (simp only [Act.put, sA]);rfl
         (refine pI (i := 10) (N := some 22) (v := ?_) (a' := ?_) (mB 32 2047) rfl rfl HT_.out (by kernel_rfl) (fun _ _ _ h => h) rfl ?_ ?_ ?_);rotate_left
         ·intro w'
          go_simp;(with_reducible rfl)
         rotate_left
         ·simp only [Act.put, sA]
          rfl
         (refine pI (i := 11) (N := some 23) (v := ?_) (a' := ?_) (mB 32 4095) rfl rfl HT_.out (by kernel_rfl) (fun _ _ _ h => h) rfl ?_ ?_ ?_);rotate_left
         ·intro w'
          go_simp;(with_reducible rfl)
         rotate_left
         ·simp only [Act.put, sA]
          rfl
         (refine pI (i := 12) (N := some 24) (v := ?_) (a' := ?_) (mB 32 8191) rfl rfl HT_.out (by kernel_rfl) (fun _ _ _ h => h) rfl ?_ ?_ ?_);rotate_left
         ·intro w'
          go_simp;(with_reducible rfl)
         rotate_left
         ·simp only [Act.put, sA]
          rfl
         (refine pI (i := 13) (N := some 25) (v := ?_) (a' := ?_) (mB 32 16383) rfl rfl HT_.out (by kernel_rfl) (fun _ _ _ h => h) rfl ?_ ?_ ?_);rotate_left
         ·intro w'
          go_simp;(with_reducible rfl)
         rotate_left
         ·simp only [Act.put, sA]
          rfl
         (refine tI (i := 14) (N := some 26) (v := ?_) (a' := ?_) (mB 32 32767) rfl rfl HT_.out HW_.out (by kernel_rfl) (fun _ _ _ h => h) rfl ?_ hHeld ?_ ?_);rotate_left
         ·rintro w' ⟨s0, s1, s2⟩
          go_simp;(with_reducible rfl)
         rotate_left
         ·simp only [Act.put, sA]
          rfl
         (refine pI (i := 15) (N := some 27) (v := ?_) (a' := ?_) (mB 32 65535) rfl rfl HT_.out (by kernel_rfl) (fun _ _ _ h => h) rfl ?_ ?_ ?_);rotate_left
         ·intro w'
          go_simp;(with_reducible rfl)
         rotate_left
         ·simp only [Act.put, sA]
          rfl
         (refine pI (i := 16) (N := some 28) (v := ?_) (a' := ?_) (mB 32 131071) rfl rfl HT_.out (by kernel_rfl) (fun _ _ _ h => h) rfl ?_ ?_ ?_);rotate_left
         ·intro w'
          go_simp;(with_reducible rfl)
         rotate_left
         ·simp only [Act.put, sA]
          rfl
         (refine pI (i := 17) (N := some 29) (v := ?_) (a' := ?_) (mB 32 262143) rfl rfl HT_.out (by kernel_rfl) (fun _ _ _ h => h) rfl ?_ ?_ ?_);rotate_left
         ·intro w'
          go_simp;(with_reducible rfl)
         rotate_left
         ·simp only [Act.put, sA]
          rfl
         (refine pU (i := 18) (N := some 30) (a' := ?_) (mB 32 524287) rfl rfl HT_.out (by kernel_rfl) (fun _ _ _ h => h) rfl ?_ ?_);rotate_left
         ·simp only [Act.put, sA]
          rfl
         (refine pU (i := 19) (N := some 31) (a' := ?_) (mB 32 1048575) rfl rfl HT_.out (by kernel_rfl) (fun _ _ _ h => h) rfl ?_ ?_);rotate_left
         ·simp only [Act.put, sA]
          rfl
         (refine pU (i := 20) (N := some 32) (a' := ?_) (mB 32 2097151) rfl rfl HT_.out (by kernel_rfl) (fun _ _ _ h => h) rfl ?_ ?_);rotate_left
         ·simp only [Act.put, sA]
          rfl
         (refine pU (i := 21) (N := some 33) (a' := ?_) (mB 32 4194303) rfl rfl HT_.out (by kernel_rfl) (fun _ _ _ h => h) rfl ?_ ?_);rotate_left
         ·simp only [Act.put, sA]
          rfl
         (refine pU (i := 22) (N := some 34) (a' := ?_) (mB 32 8388607) rfl rfl HT_.out (by kernel_rfl) (fun _ _ _ h => h) rfl ?_ ?_);rotate_left
         ·simp only [Act.put, sA]
          rfl
         (refine pU (i := 23) (N := some 35) (a' := ?_) (mB 32 16777215) rfl rfl HT_.out (by kernel_rfl) (fun _ _ _ h => h) rfl ?_ ?_);rotate_left
         ·simp only [Act.put, sA]
          rfl
         (refine pU (i := 24) (N := some 36) (a' := ?_) (mB 32 33554431) rfl rfl HT_.out (by kernel_rfl) (fun _ _ _ h => h) rfl ?_ ?_);rotate_left
         ·simp only [Act.put, sA]
          rfl
         (refine pU (i := 25) (N := some 37) (a' := ?_) (mB 32 67108863) rfl rfl HT_.out (by kernel_rfl) (fun _ _ _ h => h) rfl ?_ ?_);rotate_left
         ·simp only [Act.put, sA]
          rfl
         (refine pU (i := 26) (N := some 38) (a' := ?_) (mB 32 134217727) rfl rfl HT_.out (by kernel_rfl) (fun _ _ _ h => h) rfl ?_ ?_);rotate_left
         ·simp only [Act.put, sA]
          rfl
         (refine pU (i := 27) (N := some 39) (a' := ?_) (mB 32 268435455) rfl rfl HT_.out (by kernel_rfl) (fun _ _ _ h => h) rfl ?_ ?_);rotate_left
         ·simp only [Act.put, sA]
          rfl
         (refine pU (i := 28) (N := some 40) (a' := ?_) (mB 32 536870911) rfl rfl HT_.out (by kernel_rfl) (fun _ _ _ h => h) rfl ?_ ?_);rotate_left
         ·simp only [Act.put, sA]
          rfl
         (refine pU (i := 29) (N := some 41) (a' := ?_) (mB 32 1073741823) rfl rfl HT_.out (by kernel_rfl) (fun _ _ _ h => h) rfl ?_ ?_);rotate_left
         ·simp only [Act.put, sA]
          rfl
         (refine pU (i := 30) (N := some 42) (a' := ?_) (mB 32 2147483647) rfl rfl HT_.out (by kernel_rfl) (fun _ _ _ h => h) rfl ?_ ?_);rotate_left
         ·simp only [Act.put, sA]
          rfl
         (refine pI (i := 31) (N := some 43) (v := ?_) (a' := ?_) (mB 32 4294967295) rfl rfl HT_.out (by kernel_rfl) (fun _ _ _ h => h) rfl ?_ ?_ ?_);rotate_left
         ·intro w'
          go_simp;(with_reducible rfl)
         rotate_left
         ·simp only [Act.put, sA]
          rfl
         (refine done_ (done_of HT_.out (by kernel_rfl)) ?_);(try go_wp2);(go_ret);(exact ⟨zq27, zq42⟩)
        ·rw [if_neg c9] at H
         (have c9b0 : decide (3000 < ((rd_T90 l0 x7_1).f2)) = false := decide_eq_false c9);clear c9;(by_cases c15 : x7_1 > 0)
         ·rw [if_pos c15] at H
          (have c15b0 : decide (0 < x7_1) = true := decide_eq_true c15);clear c15;(obtain ⟨ji16, hji16⟩ : ∃ j_ : Int, (wrap64 (x7_1 - 1)) = j_ := ⟨_, rfl⟩);(replace H : (if 0 ≤ (ji16) then (if (ji16) < (l0.length : Int) then (if ((Op.bytesLess (((rd_T90 l0 (ji16)).f0).toList) (((rd_T90 l0 x7_1).f0).toList)) = true) then (impl_ValidKnown.l0 k1 l0 l0 (l0.length : Int) (wrap64 (x7_1 + 1))) else (some false)) else (none)) else (none)) = some r := by first | (rw [hji16] at H; exact H) | (simp only [hji16] at H ⊢; exact H));((try rw [hji16] at A5));((try rw [hji16] at A7));(have hji16w : (IntKind.i64.wrap (x7_1 - 1)) = ji16 := (i64_w _).trans hji16);(by_cases c17 : 0 ≤ (ji16))
          ·rw [if_pos c17] at H
           (have c17b0 : decide (0 ≤ (ji16)) = true := decide_eq_true c17);clear c17;(by_cases c18 : (ji16) < (l0.length : Int))
           ·rw [if_pos c18] at H
            (have c18b0 : decide ((ji16) < (l0.length : Int)) = true := decide_eq_true c18);clear c18;(by_cases c19 : ((Op.bytesLess (((rd_T90 l0 (ji16)).f0).toList) (((rd_T90 l0 x7_1).f0).toList)) = true))
            ·rw [if_pos c19] at H
             (have c19b0 : (Op.bytesLess (((rd_T90 l0 (ji16)).f0).toList) (((rd_T90 l0 x7_1).f0).toList)) = true := c19);clear c19;(have H' := Aside0.mk H);clear H;(have p142 : 0 ≤ (x7_1 : Int) := of_decide_eq_true zq22);(have q142 : x7_1 < (l0.length : Int) := of_decide_eq_true zq22);(obtain ⟨ad142, e142, hx142_0, hx142_1, hx142_2⟩ := at_T90 HR0.out x7_1 p142 q142)
             cases e142
             (replace hx142_0 := (HB.out.cell (World.block_lt_of_cell? w _ hx142_0)).trans hx142_0);(replace hx142_1 := (HB.out.cell (World.block_lt_of_cell? w _ hx142_1)).trans hx142_1);(replace hx142_2 := (HB.out.cell (World.block_lt_of_cell? w _ hx142_2)).trans hx142_2);(replace p142 := eq_true p142);(replace q142 := eq_true q142);(try go_wp2_with (first | ((with_reducible refine gate_dst (N := 4) rfl ?_); refine box_event ?hg (N := 4) ?hd (cs := #[.string (⟨#[]⟩ : ByteArray), .int .i64 0, .int .i64 0]) (t := 90) ?hr ?_; (case hd => rfl); (case hg => rfl); (case hr => first | (go_simp; done) | (go_simp; rfl)); intro gb143 hg w20 hbox hb; have n0_ := Aside0.mk (below_step zq45 hb); have n1_ := Aside0.mk (hbox); have n2_ := Aside0.mk ((zq76 : w.heap.size ≤ gb143)); have n3_ := Aside0.mk ((zq76 : w.heap.size ≤ gb143)); clear HB; have HB := n0_; have BK143 := n1_; have GW143 := n2_; have GE143 := n3_; clear n0_ n1_ n2_ n3_; clear hb hbox hg; have hcz21_0 : w20.cell? ⟨gb143, 0, none⟩ = some (.string (⟨#[]⟩ : ByteArray)) := (blk_cell BK143.out 0).trans rfl; have hcz21_1 : w20.cell? ⟨gb143, 1, none⟩ = some (.int .i64 0) := (blk_cell BK143.out 1).trans rfl; have hcz21_2 : w20.cell? ⟨gb143, 2, none⟩ = some (.int .i64 0) := (blk_cell BK143.out 2).trans rfl; have hfz21_0 := blk_frozen BK143.out 0; have hfz21_1 := blk_frozen BK143.out 1; have hfz21_2 := blk_frozen BK143.out 2)));(have n0_ : Aside0 ((((w20.setCell ⟨gb143, 0, none⟩ (.string ((rd_T90 l0 x7_1).f0))).setCell ⟨gb143, 1, none⟩ (.int .i64 ((rd_T90 l0 x7_1).f1))).setCell ⟨gb143, 2, none⟩ (.int .i64 ((rd_T90 l0 x7_1).f2))).heap[gb143]? = some (.cells #[.string ((rd_T90 l0 x7_1).f0), .int .i64 ((rd_T90 l0 x7_1).f1), .int .i64 ((rd_T90 l0 x7_1).f2)] 90 (0, 0))) := ⟨zq18⟩);(have n1_ : Aside0 (Below w.heap.size w (((w20.setCell ⟨gb143, 0, none⟩ (.string ((rd_T90 l0 x7_1).f0))).setCell ⟨gb143, 1, none⟩ (.int .i64 ((rd_T90 l0 x7_1).f1))).setCell ⟨gb143, 2, none⟩ (.int .i64 ((rd_T90 l0 x7_1).f2)))) := ⟨zq42⟩);(try clear BK143);(try clear HB);(generalize (((w20.setCell ⟨gb143, 0, none⟩ (.string ((rd_T90 l0 x7_1).f0))).setCell ⟨gb143, 1, none⟩ (.int .i64 ((rd_T90 l0 x7_1).f1))).setCell ⟨gb143, 2, none⟩ (.int .i64 ((rd_T90 l0 x7_1).f2))) = w22 at n0_ n1_ ⊢);(have BK143 := n0_);(have HB := n1_);clear n0_ n1_;(have n0_ := Aside0.mk (blk_drew BK143.out));(have n1_ := Aside0.mk (below_drew1 HB.out));clear BK143;clear HB;(have BK143 := n0_);(have HB := n1_);clear n0_ n1_;(have p146 : 0 ≤ ((ji16) : Int) := of_decide_eq_true zq22);(have q146 : (ji16) < (l0.length : Int) := of_decide_eq_true zq22);(obtain ⟨ad146, e146, hx146_0, hx146_1, hx146_2⟩ := at_T90 HR0.out (ji16) p146 q146);(have hw146_2 := hx146_2);(have hw146_1 := hx146_1);(have hw146_0 := hx146_0);(obtain rfl : ad142 = ad146 := (by injection e146));(replace hx146_0 := (HB.out.cell (World.block_lt_of_cell? w _ hx146_0)).trans hx146_0);(replace hx146_1 := (HB.out.cell (World.block_lt_of_cell? w _ hx146_1)).trans hx146_1);(replace hx146_2 := (HB.out.cell (World.block_lt_of_cell? w _ hx146_2)).trans hx146_2);(replace p146 := eq_true p146);(replace q146 := eq_true q146);(refine start_ (n := 32) (S := fun w' => w'.cell? ⟨gb143, 0, none⟩ = some (.string ((rd_T90 l0 x7_1).f0)) ∧ w'.cell? ⟨gb143, 1, none⟩ = some (.int .i64 ((rd_T90 l0 x7_1).f1)) ∧ w'.cell? ⟨gb143, 2, none⟩ = some (.int .i64 ((rd_T90 l0 x7_1).f2)) ∧ w'.cell? (ad142.add (((ji16)).toNat * 3)) = some (.string ((rd_T90 l0 (ji16)).f0)) ∧ w'.cell? ⟨(ad142.add (((ji16)).toNat * 3)).block, (ad142.add (((ji16)).toNat * 3)).off + 1, none⟩ = some (.int .i64 ((rd_T90 l0 (ji16)).f1)) ∧ w'.cell? ⟨(ad142.add (((ji16)).toNat * 3)).block, (ad142.add (((ji16)).toNat * 3)).off + 2, none⟩ = some (.int .i64 ((rd_T90 l0 (ji16)).f2))) (ds := []) #[false,false,false,false,false,false,false,false,false,false,false,false,false,false,false,false,false,false,false,false,false,false,false,false,false,false,false,false,false,false,false,false] (by kernel_rfl) rfl rfl ⟨(blk_cell BK143.out 0).trans rfl, (blk_cell BK143.out 1).trans rfl, (blk_cell BK143.out 2).trans rfl, ((HB.out.cell (World.block_lt_of_cell? w _ hw146_0)).trans hw146_0), ((HB.out.cell (World.block_lt_of_cell? w _ hw146_1)).trans hw146_1), ((HB.out.cell (World.block_lt_of_cell? w _ hw146_2)).trans hw146_2)⟩ (fun hHeld => ?_); refine with_tabW impl_ValidKnown.tab4 impl_ValidKnown.bits4 (fun HT_ HW_ => ?_));(generalize w22.drew = w23 at BK143 HB hx146_0 hx146_1 hx146_2 hHeld ⊢);(refine pI (i := 0) (N := some 12) (v := ?_) (a' := ?_) (mB 32 1) rfl rfl HT_.out (by kernel_rfl) (fun _ _ _ h => h) rfl ?_ ?_ ?_);rotate_left
             ·intro w'
              go_simp;(with_reducible rfl)
             rotate_left
             ·simp only [Act.put, sA]
              rfl
             (refine tI (i := 1) (N := some 13) (v := ?_) (a' := ?_) (mB 32 3) rfl rfl HT_.out HW_.out (by kernel_rfl) (fun _ _ _ h => h) rfl ?_ hHeld ?_ ?_);rotate_left
             ·rintro w' ⟨s0, s1, s2, s3, s4, s5⟩
              go_simp;(with_reducible rfl)
             rotate_left
             ·simp only [Act.put, sA]
              rfl
             (refine one_ (i := 2) (N := some 14) (mB 32 7) rfl rfl (one_of HT_.out (by kernel_rfl)) (by decide) (fun K hK => ?_));(refine goes_ Tryd.func103 (by kernel_rfl) rfl #[.string ((rd_T90 l0 x7_1).f0)] (by rfl) rfl rfl zq0 ?_);(with_reducible refine (impl_IsName.calls ((rd_T90 l0 x7_1).f0) true _ A5.out).mono ?_);(rintro e w24 ⟨rfl, hb⟩);(refine ⟨_, rfl, ?_⟩);(have n0_ := Aside0.mk (blk_below (g := gb143) (o := .cells #[.string ((rd_T90 l0 x7_1).f0), .int .i64 ((rd_T90 l0 x7_1).f1), .int .i64 ((rd_T90 l0 x7_1).f2)] 90 (0, 0)) zq12 hb));(have n1_ := Aside0.mk (below_step zq42 hb));clear BK143;clear HB;(have BK143 := n0_);(have HB := n1_);clear n0_ n1_;(try clear hb);(try clear hb2);(try clear hk);(try clear hi);(refine hK.out _ _ ⟨(blk_cell BK143.out 0).trans rfl, (blk_cell BK143.out 1).trans rfl, (blk_cell BK143.out 2).trans rfl, ((HB.out.cell (World.block_lt_of_cell? w _ hw146_0)).trans hw146_0), ((HB.out.cell (World.block_lt_of_cell? w _ hw146_1)).trans hw146_1), ((HB.out.cell (World.block_lt_of_cell? w _ hw146_2)).trans hw146_2)⟩ (fun hHeld => ?_));clear hK K;(refine norm_ (a' := ?_) ?_ ?_);rotate_left
             ·show Act.put _ (some 14) _ = _
              (simp only [Act.put, sA]);rfl
             (refine pI (i := 3) (N := some 15) (v := ?_) (a' := ?_) (mB 32 15) rfl rfl HT_.out (by kernel_rfl) (fun _ _ _ h => h) rfl ?_ ?_ ?_);rotate_left
             ·intro w'
              go_simp;(with_reducible rfl)
             rotate_left
             ·simp only [Act.put, sA]
              rfl
             (refine pI (i := 4) (N := some 16) (v := ?_) (a' := ?_) (mB 32 31) rfl rfl HT_.out (by kernel_rfl) (fun _ _ _ h => h) rfl ?_ ?_ ?_);rotate_left
             ·intro w'
              go_simp;(with_reducible rfl)
             rotate_left
             ·simp only [Act.put, sA]
              rfl
             (refine pI (i := 5) (N := some 17) (v := ?_) (a' := ?_) (mB 32 63) rfl rfl HT_.out (by kernel_rfl) (fun _ _ _ h => h) rfl ?_ ?_ ?_);rotate_left
             ·intro w'
              go_simp;(with_reducible rfl)
             rotate_left
             ·simp only [Act.put, sA]
              rfl
             (refine pI (i := 7) (N := some 19) (v := ?_) (a' := ?_) (mB 32 191) rfl rfl HT_.out (by kernel_rfl) (fun _ _ _ h => h) rfl ?_ ?_ ?_);rotate_left
             ·intro w'
              go_simp;(with_reducible rfl)
             rotate_left
             ·simp only [Act.put, sA]
              rfl
             (refine tI (i := 6) (N := some 18) (v := ?_) (a' := ?_) (mB 32 255) rfl rfl HT_.out HW_.out (by kernel_rfl) (fun _ _ _ h => h) rfl ?_ hHeld ?_ ?_);rotate_left
             ·rintro w' ⟨s0, s1, s2, s3, s4, s5⟩
              go_simp;(with_reducible rfl)
             rotate_left
             ·simp only [Act.put, sA]
              rfl
             (refine tI (i := 8) (N := some 20) (v := ?_) (a' := ?_) (mB 32 511) rfl rfl HT_.out HW_.out (by kernel_rfl) (fun _ _ _ h => h) rfl ?_ hHeld ?_ ?_);rotate_left
             ·rintro w' ⟨s0, s1, s2, s3, s4, s5⟩
              go_simp;(with_reducible rfl)
             rotate_left
             ·simp only [Act.put, sA]
              rfl
             (refine one_ (i := 9) (N := some 21) (mB 32 1023) rfl rfl (one_of HT_.out (by kernel_rfl)) (by decide) (fun K hK => ?_));(refine goes_ Tryd.func104 (by kernel_rfl) rfl #[.int .i64 ((rd_T90 l0 x7_1).f1), .int .i64 1, .int .i64 ((rd_T90 l0 x7_1).f2)] (by rfl) rfl rfl zq0 ?_);(with_reducible refine (impl_within.calls ((rd_T90 l0 x7_1).f1) 1 ((rd_T90 l0 x7_1).f2) true _ A7.out).mono ?_);(rintro e w' ⟨rfl, ⟨nd, rfl⟩⟩);(refine ⟨_, rfl, ?_⟩);(refine hK.out _ _ ⟨(blk_cell BK143.out 0).trans rfl, (blk_cell BK143.out 1).trans rfl, (blk_cell BK143.out 2).trans rfl, ((HB.out.cell (World.block_lt_of_cell? w _ hw146_0)).trans hw146_0), ((HB.out.cell (World.block_lt_of_cell? w _ hw146_1)).trans hw146_1), ((HB.out.cell (World.block_lt_of_cell? w _ hw146_2)).trans hw146_2)⟩ (fun hHeld => ?_));clear hK K;(refine norm_ (a' := ?_) ?_ ?_);rotate_left
             ·show Act.put _ (some 21) _ = _
              (simp only [Act.put, sA]);rfl
             (refine pI (i := 10) (N := some 22) (v := ?_) (a' := ?_) (mB 32 2047) rfl rfl HT_.out (by kernel_rfl) (fun _ _ _ h => h) rfl ?_ ?_ ?_);rotate_left
             ·intro w'
              go_simp;(with_reducible rfl)
             rotate_left
             ·simp only [Act.put, sA]
              rfl
             (refine pI (i := 11) (N := some 23) (v := ?_) (a' := ?_) (mB 32 4095) rfl rfl HT_.out (by kernel_rfl) (fun _ _ _ h => h) rfl ?_ ?_ ?_);rotate_left
             ·intro w'
              go_simp;(with_reducible rfl)
             rotate_left
             ·simp only [Act.put, sA]
              rfl
             (refine pI (i := 12) (N := some 24) (v := ?_) (a' := ?_) (mB 32 8191) rfl rfl HT_.out (by kernel_rfl) (fun _ _ _ h => h) rfl ?_ ?_ ?_);rotate_left
             ·intro w'
              go_simp;(with_reducible rfl)
             rotate_left
             ·simp only [Act.put, sA]
              rfl
             (refine pI (i := 13) (N := some 25) (v := ?_) (a' := ?_) (mB 32 16383) rfl rfl HT_.out (by kernel_rfl) (fun _ _ _ h => h) rfl ?_ ?_ ?_);rotate_left
             ·intro w'
              go_simp;(with_reducible rfl)
             rotate_left
             ·simp only [Act.put, sA]
              rfl
             (refine tI (i := 14) (N := some 26) (v := ?_) (a' := ?_) (mB 32 32767) rfl rfl HT_.out HW_.out (by kernel_rfl) (fun _ _ _ h => h) rfl ?_ hHeld ?_ ?_);rotate_left
             ·rintro w' ⟨s0, s1, s2, s3, s4, s5⟩
              go_simp;(with_reducible rfl)
             rotate_left
             ·simp only [Act.put, sA]
              rfl
             (refine pI (i := 15) (N := some 27) (v := ?_) (a' := ?_) (mB 32 65535) rfl rfl HT_.out (by kernel_rfl) (fun _ _ _ h => h) rfl ?_ ?_ ?_);rotate_left
             ·intro w'
              go_simp;(with_reducible rfl)
             rotate_left
             ·simp only [Act.put, sA]
              rfl
             (refine pI (i := 16) (N := some 28) (v := ?_) (a' := ?_) (mB 32 131071) rfl rfl HT_.out (by kernel_rfl) (fun _ _ _ h => h) rfl ?_ ?_ ?_);rotate_left
             ·intro w'
              go_simp;(with_reducible rfl)
             rotate_left
             ·simp only [Act.put, sA]
              rfl
             (refine pI (i := 17) (N := some 29) (v := ?_) (a' := ?_) (mB 32 262143) rfl rfl HT_.out (by kernel_rfl) (fun _ _ _ h => h) rfl ?_ ?_ ?_);rotate_left
             ·intro w'
              go_simp;(with_reducible rfl)
             rotate_left
             ·simp only [Act.put, sA]
              rfl
             (refine pI (i := 18) (N := some 30) (v := ?_) (a' := ?_) (mB 32 524287) rfl rfl HT_.out (by kernel_rfl) (fun _ _ _ h => h) rfl ?_ ?_ ?_);rotate_left
             ·intro w'
              go_simp;(with_reducible rfl)
             rotate_left
             ·simp only [Act.put, sA]
              rfl
             (refine pI (i := 19) (N := some 31) (v := ?_) (a' := ?_) (mB 32 1048575) rfl rfl HT_.out (by kernel_rfl) (fun _ _ _ h => h) rfl ?_ ?_ ?_);rotate_left
             ·intro w'
              go_simp;(with_reducible rfl)
             rotate_left
             ·simp only [Act.put, sA]
              rfl
             (refine pI (i := 20) (N := some 32) (v := ?_) (a' := ?_) (mB 32 2097151) rfl rfl HT_.out (by kernel_rfl) (fun _ _ _ h => h) rfl ?_ ?_ ?_);rotate_left
             ·intro w'
              go_simp;(with_reducible rfl)
             rotate_left
             ·simp only [Act.put, sA]
              rfl
             (refine pI (i := 21) (N := some 33) (v := ?_) (a' := ?_) (mB 32 4194303) rfl rfl HT_.out (by kernel_rfl) (fun _ _ _ h => h) rfl ?_ ?_ ?_);rotate_left
             ·intro w'
              go_simp;(with_reducible rfl)
             rotate_left
             ·simp only [Act.put, sA]
              rfl
             (refine pI (i := 22) (N := some 34) (v := ?_) (a' := ?_) (mB 32 8388607) rfl rfl HT_.out (by kernel_rfl) (fun _ _ _ h => h) rfl ?_ ?_ ?_);rotate_left
             ·intro w'
              go_simp;(with_reducible rfl)
             rotate_left
             ·simp only [Act.put, sA]
              rfl
             (refine pI (i := 23) (N := some 35) (v := ?_) (a' := ?_) (mB 32 16777215) rfl rfl HT_.out (by kernel_rfl) (fun _ _ _ h => h) rfl ?_ ?_ ?_);rotate_left
             ·intro w'
              go_simp;(with_reducible rfl)
             rotate_left
             ·simp only [Act.put, sA]
              rfl
             (refine pI (i := 24) (N := some 36) (v := ?_) (a' := ?_) (mB 32 33554431) rfl rfl HT_.out (by kernel_rfl) (fun _ _ _ h => h) rfl ?_ ?_ ?_);rotate_left
             ·intro w'
              go_simp;(with_reducible rfl)
             rotate_left
             ·simp only [Act.put, sA]
              rfl
             (refine pI (i := 25) (N := some 37) (v := ?_) (a' := ?_) (mB 32 67108863) rfl rfl HT_.out (by kernel_rfl) (fun _ _ _ h => h) rfl ?_ ?_ ?_);rotate_left
             ·intro w'
              go_simp;(with_reducible rfl)
             rotate_left
             ·simp only [Act.put, sA]
              rfl
             (refine pI (i := 27) (N := some 39) (v := ?_) (a' := ?_) (mB 32 201326591) rfl rfl HT_.out (by kernel_rfl) (fun _ _ _ h => h) rfl ?_ ?_ ?_);rotate_left
             ·intro w'
              go_simp;(with_reducible rfl)
             rotate_left
             ·simp only [Act.put, sA]
              rfl
             (refine tI (i := 26) (N := some 38) (v := ?_) (a' := ?_) (mB 32 268435455) rfl rfl HT_.out HW_.out (by kernel_rfl) (fun _ _ _ h => h) rfl ?_ hHeld ?_ ?_);rotate_left
             ·rintro w' ⟨s0, s1, s2, s3, s4, s5⟩
              go_simp;(with_reducible rfl)
             rotate_left
             ·simp only [Act.put, sA]
              rfl
             (refine tI (i := 28) (N := some 40) (v := ?_) (a' := ?_) (mB 32 536870911) rfl rfl HT_.out HW_.out (by kernel_rfl) (fun _ _ _ h => h) rfl ?_ hHeld ?_ ?_);rotate_left
             ·rintro w' ⟨s0, s1, s2, s3, s4, s5⟩
              go_simp;(with_reducible rfl)
             rotate_left
             ·simp only [Act.put, sA]
              rfl
             (refine pI (i := 29) (N := some 41) (v := ?_) (a' := ?_) (mB 32 1073741823) rfl rfl HT_.out (by kernel_rfl) (fun _ _ _ h => h) rfl ?_ ?_ ?_);rotate_left
             ·intro w'
              go_simp;(with_reducible rfl)
             rotate_left
             ·simp only [Act.put, sA]
              rfl
             (refine pI (i := 30) (N := some 42) (v := ?_) (a' := ?_) (mB 32 2147483647) rfl rfl HT_.out (by kernel_rfl) (fun _ _ _ h => h) rfl ?_ ?_ ?_);rotate_left
             ·intro w'
              go_simp;(with_reducible rfl)
             rotate_left
             ·simp only [Act.put, sA]
              rfl
             (refine pI (i := 31) (N := some 43) (v := ?_) (a' := ?_) (mB 32 4294967295) rfl rfl HT_.out (by kernel_rfl) (fun _ _ _ h => h) rfl ?_ ?_ ?_);rotate_left
             ·intro w'
              go_simp;(with_reducible rfl)
             rotate_left
             ·simp only [Act.put, sA]
              rfl
             (refine done_ (done_of HT_.out (by kernel_rfl)) ?_);(try go_wp2);(go_roundg k1)
             case measure => have := HK1.out; omega
             case rel => exact ⟨(wrap64 (x7_1 + 1)), zq28, H', ⟨zq33⟩, ⟨zq42⟩⟩
            ·rw [if_neg c19] at H
             (have c19b0 : (Op.bytesLess (((rd_T90 l0 (ji16)).f0).toList) (((rd_T90 l0 x7_1).f0).toList)) = false := by simpa using c19);clear c19;(obtain rfl := Option.some.inj H);(have p142 : 0 ≤ (x7_1 : Int) := of_decide_eq_true zq22);(have q142 : x7_1 < (l0.length : Int) := of_decide_eq_true zq22);(obtain ⟨ad142, e142, hx142_0, hx142_1, hx142_2⟩ := at_T90 HR0.out x7_1 p142 q142)
             cases e142
             (replace hx142_0 := (HB.out.cell (World.block_lt_of_cell? w _ hx142_0)).trans hx142_0);(replace hx142_1 := (HB.out.cell (World.block_lt_of_cell? w _ hx142_1)).trans hx142_1);(replace hx142_2 := (HB.out.cell (World.block_lt_of_cell? w _ hx142_2)).trans hx142_2);(replace p142 := eq_true p142);(replace q142 := eq_true q142);(try go_wp2_with (first | ((with_reducible refine gate_dst (N := 4) rfl ?_); refine box_event ?hg (N := 4) ?hd (cs := #[.string (⟨#[]⟩ : ByteArray), .int .i64 0, .int .i64 0]) (t := 90) ?hr ?_; (case hd => rfl); (case hg => rfl); (case hr => first | (go_simp; done) | (go_simp; rfl)); intro gb143 hg w25 hbox hb; have n0_ := Aside0.mk (below_step zq45 hb); have n1_ := Aside0.mk (hbox); have n2_ := Aside0.mk ((zq76 : w.heap.size ≤ gb143)); have n3_ := Aside0.mk ((zq76 : w.heap.size ≤ gb143)); clear HB; have HB := n0_; have BK143 := n1_; have GW143 := n2_; have GE143 := n3_; clear n0_ n1_ n2_ n3_; clear hb hbox hg; have hcz26_0 : w25.cell? ⟨gb143, 0, none⟩ = some (.string (⟨#[]⟩ : ByteArray)) := (blk_cell BK143.out 0).trans rfl; have hcz26_1 : w25.cell? ⟨gb143, 1, none⟩ = some (.int .i64 0) := (blk_cell BK143.out 1).trans rfl; have hcz26_2 : w25.cell? ⟨gb143, 2, none⟩ = some (.int .i64 0) := (blk_cell BK143.out 2).trans rfl; have hfz26_0 := blk_frozen BK143.out 0; have hfz26_1 := blk_frozen BK143.out 1; have hfz26_2 := blk_frozen BK143.out 2)));(have n0_ : Aside0 ((((w25.setCell ⟨gb143, 0, none⟩ (.string ((rd_T90 l0 x7_1).f0))).setCell ⟨gb143, 1, none⟩ (.int .i64 ((rd_T90 l0 x7_1).f1))).setCell ⟨gb143, 2, none⟩ (.int .i64 ((rd_T90 l0 x7_1).f2))).heap[gb143]? = some (.cells #[.string ((rd_T90 l0 x7_1).f0), .int .i64 ((rd_T90 l0 x7_1).f1), .int .i64 ((rd_T90 l0 x7_1).f2)] 90 (0, 0))) := ⟨zq18⟩);(have n1_ : Aside0 (Below w.heap.size w (((w25.setCell ⟨gb143, 0, none⟩ (.string ((rd_T90 l0 x7_1).f0))).setCell ⟨gb143, 1, none⟩ (.int .i64 ((rd_T90 l0 x7_1).f1))).setCell ⟨gb143, 2, none⟩ (.int .i64 ((rd_T90 l0 x7_1).f2)))) := ⟨zq42⟩);(try clear BK143);(try clear HB);(generalize (((w25.setCell ⟨gb143, 0, none⟩ (.string ((rd_T90 l0 x7_1).f0))).setCell ⟨gb143, 1, none⟩ (.int .i64 ((rd_T90 l0 x7_1).f1))).setCell ⟨gb143, 2, none⟩ (.int .i64 ((rd_T90 l0 x7_1).f2))) = w27 at n0_ n1_ ⊢);(have BK143 := n0_);(have HB := n1_);clear n0_ n1_;(have n0_ := Aside0.mk (blk_drew BK143.out));(have n1_ := Aside0.mk (below_drew1 HB.out));clear BK143;clear HB;(have BK143 := n0_);(have HB := n1_);clear n0_ n1_;(have p146 : 0 ≤ ((ji16) : Int) := of_decide_eq_true zq22);(have q146 : (ji16) < (l0.length : Int) := of_decide_eq_true zq22);(obtain ⟨ad146, e146, hx146_0, hx146_1, hx146_2⟩ := at_T90 HR0.out (ji16) p146 q146);(have hw146_2 := hx146_2);(have hw146_1 := hx146_1);(have hw146_0 := hx146_0);(obtain rfl : ad142 = ad146 := (by injection e146));(replace hx146_0 := (HB.out.cell (World.block_lt_of_cell? w _ hx146_0)).trans hx146_0);(replace hx146_1 := (HB.out.cell (World.block_lt_of_cell? w _ hx146_1)).trans hx146_1);(replace hx146_2 := (HB.out.cell (World.block_lt_of_cell? w _ hx146_2)).trans hx146_2);(replace p146 := eq_true p146);(replace q146 := eq_true q146);(refine start_ (n := 32) (S := fun w' => w'.cell? ⟨gb143, 0, none⟩ = some (.string ((rd_T90 l0 x7_1).f0)) ∧ w'.cell? ⟨gb143, 1, none⟩ = some (.int .i64 ((rd_T90 l0 x7_1).f1)) ∧ w'.cell? ⟨gb143, 2, none⟩ = some (.int .i64 ((rd_T90 l0 x7_1).f2)) ∧ w'.cell? (ad142.add (((ji16)).toNat * 3)) = some (.string ((rd_T90 l0 (ji16)).f0)) ∧ w'.cell? ⟨(ad142.add (((ji16)).toNat * 3)).block, (ad142.add (((ji16)).toNat * 3)).off + 1, none⟩ = some (.int .i64 ((rd_T90 l0 (ji16)).f1)) ∧ w'.cell? ⟨(ad142.add (((ji16)).toNat * 3)).block, (ad142.add (((ji16)).toNat * 3)).off + 2, none⟩ = some (.int .i64 ((rd_T90 l0 (ji16)).f2))) (ds := []) #[false,false,false,false,false,false,false,false,false,false,false,false,false,false,false,false,false,false,false,false,false,false,false,false,false,false,false,false,false,false,false,false] (by kernel_rfl) rfl rfl ⟨(blk_cell BK143.out 0).trans rfl, (blk_cell BK143.out 1).trans rfl, (blk_cell BK143.out 2).trans rfl, ((HB.out.cell (World.block_lt_of_cell? w _ hw146_0)).trans hw146_0), ((HB.out.cell (World.block_lt_of_cell? w _ hw146_1)).trans hw146_1), ((HB.out.cell (World.block_lt_of_cell? w _ hw146_2)).trans hw146_2)⟩ (fun hHeld => ?_); refine with_tabW impl_ValidKnown.tab4 impl_ValidKnown.bits4 (fun HT_ HW_ => ?_));(generalize w27.drew = w28 at BK143 HB hx146_0 hx146_1 hx146_2 hHeld ⊢);(refine pI (i := 0) (N := some 12) (v := ?_) (a' := ?_) (mB 32 1) rfl rfl HT_.out (by kernel_rfl) (fun _ _ _ h => h) rfl ?_ ?_ ?_);rotate_left
             ·intro w'
              go_simp;(with_reducible rfl)
             rotate_left
             ·simp only [Act.put, sA]
              rfl
             (refine tI (i := 1) (N := some 13) (v := ?_) (a' := ?_) (mB 32 3) rfl rfl HT_.out HW_.out (by kernel_rfl) (fun _ _ _ h => h) rfl ?_ hHeld ?_ ?_);rotate_left
             ·rintro w' ⟨s0, s1, s2, s3, s4, s5⟩
              go_simp;(with_reducible rfl)
             rotate_left
             ·simp only [Act.put, sA]
              rfl
             (refine one_ (i := 2) (N := some 14) (mB 32 7) rfl rfl (one_of HT_.out (by kernel_rfl)) (by decide) (fun K hK => ?_));(refine goes_ Tryd.func103 (by kernel_rfl) rfl #[.string ((rd_T90 l0 x7_1).f0)] (by rfl) rfl rfl zq0 ?_);(with_reducible refine (impl_IsName.calls ((rd_T90 l0 x7_1).f0) true _ A5.out).mono ?_);(rintro e w29 ⟨rfl, hb⟩);(refine ⟨_, rfl, ?_⟩);(have n0_ := Aside0.mk (blk_below (g := gb143) (o := .cells #[.string ((rd_T90 l0 x7_1).f0), .int .i64 ((rd_T90 l0 x7_1).f1), .int .i64 ((rd_T90 l0 x7_1).f2)] 90 (0, 0)) zq12 hb));(have n1_ := Aside0.mk (below_step zq42 hb));clear BK143;clear HB;(have BK143 := n0_);(have HB := n1_);clear n0_ n1_;(try clear hb);(try clear hb2);(try clear hk);(try clear hi);(refine hK.out _ _ ⟨(blk_cell BK143.out 0).trans rfl, (blk_cell BK143.out 1).trans rfl, (blk_cell BK143.out 2).trans rfl, ((HB.out.cell (World.block_lt_of_cell? w _ hw146_0)).trans hw146_0), ((HB.out.cell (World.block_lt_of_cell? w _ hw146_1)).trans hw146_1), ((HB.out.cell (World.block_lt_of_cell? w _ hw146_2)).trans hw146_2)⟩ (fun hHeld => ?_));clear hK K;(refine norm_ (a' := ?_) ?_ ?_);rotate_left
             ·show Act.put _ (some 14) _ = _
              (simp only [Act.put, sA]);rfl
             (refine pI (i := 3) (N := some 15) (v := ?_) (a' := ?_) (mB 32 15) rfl rfl HT_.out (by kernel_rfl) (fun _ _ _ h => h) rfl ?_ ?_ ?_);rotate_left
             ·intro w'
              go_simp;(with_reducible rfl)
             rotate_left
             ·simp only [Act.put, sA]
              rfl
             (refine pI (i := 4) (N := some 16) (v := ?_) (a' := ?_) (mB 32 31) rfl rfl HT_.out (by kernel_rfl) (fun _ _ _ h => h) rfl ?_ ?_ ?_);rotate_left
             ·intro w'
              go_simp;(with_reducible rfl)
             rotate_left
             ·simp only [Act.put, sA]
              rfl
             (refine pI (i := 5) (N := some 17) (v := ?_) (a' := ?_) (mB 32 63) rfl rfl HT_.out (by kernel_rfl) (fun _ _ _ h => h) rfl ?_ ?_ ?_);rotate_left
             ·intro w'
              go_simp;(with_reducible rfl)
             rotate_left
             ·simp only [Act.put, sA]
              rfl
             (refine pI (i := 7) (N := some 19) (v := ?_) (a' := ?_) (mB 32 191) rfl rfl HT_.out (by kernel_rfl) (fun _ _ _ h => h) rfl ?_ ?_ ?_);rotate_left
             ·intro w'
              go_simp;(with_reducible rfl)
             rotate_left
             ·simp only [Act.put, sA]
              rfl
             (refine tI (i := 6) (N := some 18) (v := ?_) (a' := ?_) (mB 32 255) rfl rfl HT_.out HW_.out (by kernel_rfl) (fun _ _ _ h => h) rfl ?_ hHeld ?_ ?_);rotate_left
             ·rintro w' ⟨s0, s1, s2, s3, s4, s5⟩
              go_simp;(with_reducible rfl)
             rotate_left
             ·simp only [Act.put, sA]
              rfl
             (refine tI (i := 8) (N := some 20) (v := ?_) (a' := ?_) (mB 32 511) rfl rfl HT_.out HW_.out (by kernel_rfl) (fun _ _ _ h => h) rfl ?_ hHeld ?_ ?_);rotate_left
             ·rintro w' ⟨s0, s1, s2, s3, s4, s5⟩
              go_simp;(with_reducible rfl)
             rotate_left
             ·simp only [Act.put, sA]
              rfl
             (refine one_ (i := 9) (N := some 21) (mB 32 1023) rfl rfl (one_of HT_.out (by kernel_rfl)) (by decide) (fun K hK => ?_));(refine goes_ Tryd.func104 (by kernel_rfl) rfl #[.int .i64 ((rd_T90 l0 x7_1).f1), .int .i64 1, .int .i64 ((rd_T90 l0 x7_1).f2)] (by rfl) rfl rfl zq0 ?_);(with_reducible refine (impl_within.calls ((rd_T90 l0 x7_1).f1) 1 ((rd_T90 l0 x7_1).f2) true _ A7.out).mono ?_);(rintro e w' ⟨rfl, ⟨nd, rfl⟩⟩);(refine ⟨_, rfl, ?_⟩);(refine hK.out _ _ ⟨(blk_cell BK143.out 0).trans rfl, (blk_cell BK143.out 1).trans rfl, (blk_cell BK143.out 2).trans rfl, ((HB.out.cell (World.block_lt_of_cell? w _ hw146_0)).trans hw146_0), ((HB.out.cell (World.block_lt_of_cell? w _ hw146_1)).trans hw146_1), ((HB.out.cell (World.block_lt_of_cell? w _ hw146_2)).trans hw146_2)⟩ (fun hHeld => ?_));clear hK K;(refine norm_ (a' := ?_) ?_ ?_);rotate_left
             ·show Act.put _ (some 21) _ = _
              (simp only [Act.put, sA]);rfl
             (refine pI (i := 10) (N := some 22) (v := ?_) (a' := ?_) (mB 32 2047) rfl rfl HT_.out (by kernel_rfl) (fun _ _ _ h => h) rfl ?_ ?_ ?_);rotate_left
             ·intro w'
              go_simp;(with_reducible rfl)
             rotate_left
             ·simp only [Act.put, sA]
              rfl
             (refine pI (i := 11) (N := some 23) (v := ?_) (a' := ?_) (mB 32 4095) rfl rfl HT_.out (by kernel_rfl) (fun _ _ _ h => h) rfl ?_ ?_ ?_);rotate_left
             ·intro w'
              go_simp;(with_reducible rfl)
             rotate_left
             ·simp only [Act.put, sA]
              rfl
             (refine pI (i := 12) (N := some 24) (v := ?_) (a' := ?_) (mB 32 8191) rfl rfl HT_.out (by kernel_rfl) (fun _ _ _ h => h) rfl ?_ ?_ ?_);rotate_left
             ·intro w'
              go_simp;(with_reducible rfl)
             rotate_left
             ·simp only [Act.put, sA]
              rfl
             (refine pI (i := 13) (N := some 25) (v := ?_) (a' := ?_) (mB 32 16383) rfl rfl HT_.out (by kernel_rfl) (fun _ _ _ h => h) rfl ?_ ?_ ?_);rotate_left
             ·intro w'
              go_simp;(with_reducible rfl)
             rotate_left
             ·simp only [Act.put, sA]
              rfl
             (refine tI (i := 14) (N := some 26) (v := ?_) (a' := ?_) (mB 32 32767) rfl rfl HT_.out HW_.out (by kernel_rfl) (fun _ _ _ h => h) rfl ?_ hHeld ?_ ?_);rotate_left
             ·rintro w' ⟨s0, s1, s2, s3, s4, s5⟩
              go_simp;(with_reducible rfl)
             rotate_left
             ·simp only [Act.put, sA]
              rfl
             (refine pI (i := 15) (N := some 27) (v := ?_) (a' := ?_) (mB 32 65535) rfl rfl HT_.out (by kernel_rfl) (fun _ _ _ h => h) rfl ?_ ?_ ?_);rotate_left
             ·intro w'
              go_simp;(with_reducible rfl)
             rotate_left
             ·simp only [Act.put, sA]
              rfl
             (refine pI (i := 16) (N := some 28) (v := ?_) (a' := ?_) (mB 32 131071) rfl rfl HT_.out (by kernel_rfl) (fun _ _ _ h => h) rfl ?_ ?_ ?_);rotate_left
             ·intro w'
              go_simp;(with_reducible rfl)
             rotate_left
             ·simp only [Act.put, sA]
              rfl
             (refine pI (i := 17) (N := some 29) (v := ?_) (a' := ?_) (mB 32 262143) rfl rfl HT_.out (by kernel_rfl) (fun _ _ _ h => h) rfl ?_ ?_ ?_);rotate_left
             ·intro w'
              go_simp;(with_reducible rfl)
             rotate_left
             ·simp only [Act.put, sA]
              rfl
             (refine pI (i := 18) (N := some 30) (v := ?_) (a' := ?_) (mB 32 524287) rfl rfl HT_.out (by kernel_rfl) (fun _ _ _ h => h) rfl ?_ ?_ ?_);rotate_left
             ·intro w'
              go_simp;(with_reducible rfl)
             rotate_left
             ·simp only [Act.put, sA]
              rfl
             (refine pI (i := 19) (N := some 31) (v := ?_) (a' := ?_) (mB 32 1048575) rfl rfl HT_.out (by kernel_rfl) (fun _ _ _ h => h) rfl ?_ ?_ ?_);rotate_left
             ·intro w'
              go_simp;(with_reducible rfl)
             rotate_left
             ·simp only [Act.put, sA]
              rfl
             (refine pI (i := 20) (N := some 32) (v := ?_) (a' := ?_) (mB 32 2097151) rfl rfl HT_.out (by kernel_rfl) (fun _ _ _ h => h) rfl ?_ ?_ ?_);rotate_left
             ·intro w'
              go_simp;(with_reducible rfl)
             rotate_left
             ·simp only [Act.put, sA]
              rfl
             (refine pI (i := 21) (N := some 33) (v := ?_) (a' := ?_) (mB 32 4194303) rfl rfl HT_.out (by kernel_rfl) (fun _ _ _ h => h) rfl ?_ ?_ ?_);rotate_left
             ·intro w'
              go_simp;(with_reducible rfl)
             rotate_left
             ·simp only [Act.put, sA]
              rfl
             (refine pI (i := 22) (N := some 34) (v := ?_) (a' := ?_) (mB 32 8388607) rfl rfl HT_.out (by kernel_rfl) (fun _ _ _ h => h) rfl ?_ ?_ ?_);rotate_left
             ·intro w'
              go_simp;(with_reducible rfl)
             rotate_left
             ·simp only [Act.put, sA]
              rfl
             (refine pI (i := 23) (N := some 35) (v := ?_) (a' := ?_) (mB 32 16777215) rfl rfl HT_.out (by kernel_rfl) (fun _ _ _ h => h) rfl ?_ ?_ ?_);rotate_left
             ·intro w'
              go_simp;(with_reducible rfl)
             rotate_left
             ·simp only [Act.put, sA]
              rfl
             (refine pI (i := 24) (N := some 36) (v := ?_) (a' := ?_) (mB 32 33554431) rfl rfl HT_.out (by kernel_rfl) (fun _ _ _ h => h) rfl ?_ ?_ ?_);rotate_left
             ·intro w'
              go_simp;(with_reducible rfl)
             rotate_left
             ·simp only [Act.put, sA]
              rfl
             (refine pI (i := 25) (N := some 37) (v := ?_) (a' := ?_) (mB 32 67108863) rfl rfl HT_.out (by kernel_rfl) (fun _ _ _ h => h) rfl ?_ ?_ ?_);rotate_left
             ·intro w'
              go_simp;(with_reducible rfl)
             rotate_left
             ·simp only [Act.put, sA]
              rfl
             (refine pI (i := 27) (N := some 39) (v := ?_) (a' := ?_) (mB 32 201326591) rfl rfl HT_.out (by kernel_rfl) (fun _ _ _ h => h) rfl ?_ ?_ ?_);rotate_left
             ·intro w'
              go_simp;(with_reducible rfl)
             rotate_left
             ·simp only [Act.put, sA]
              rfl
             (refine tI (i := 26) (N := some 38) (v := ?_) (a' := ?_) (mB 32 268435455) rfl rfl HT_.out HW_.out (by kernel_rfl) (fun _ _ _ h => h) rfl ?_ hHeld ?_ ?_);rotate_left
             ·rintro w' ⟨s0, s1, s2, s3, s4, s5⟩
              go_simp;(with_reducible rfl)
             rotate_left
             ·simp only [Act.put, sA]
              rfl
             (refine tI (i := 28) (N := some 40) (v := ?_) (a' := ?_) (mB 32 536870911) rfl rfl HT_.out HW_.out (by kernel_rfl) (fun _ _ _ h => h) rfl ?_ hHeld ?_ ?_);rotate_left
             ·rintro w' ⟨s0, s1, s2, s3, s4, s5⟩
              go_simp;(with_reducible rfl)
             rotate_left
             ·simp only [Act.put, sA]
              rfl
             (refine pI (i := 29) (N := some 41) (v := ?_) (a' := ?_) (mB 32 1073741823) rfl rfl HT_.out (by kernel_rfl) (fun _ _ _ h => h) rfl ?_ ?_ ?_);rotate_left
             ·intro w'
              go_simp;(with_reducible rfl)
             rotate_left
             ·simp only [Act.put, sA]
              rfl
             (refine pI (i := 30) (N := some 42) (v := ?_) (a' := ?_) (mB 32 2147483647) rfl rfl HT_.out (by kernel_rfl) (fun _ _ _ h => h) rfl ?_ ?_ ?_);rotate_left
             ·intro w'
              go_simp;(with_reducible rfl)
             rotate_left
             ·simp only [Act.put, sA]
              rfl
             (refine pI (i := 31) (N := some 43) (v := ?_) (a' := ?_) (mB 32 4294967295) rfl rfl HT_.out (by kernel_rfl) (fun _ _ _ h => h) rfl ?_ ?_ ?_);rotate_left
             ·intro w'
              go_simp;(with_reducible rfl)
             rotate_left
             ·simp only [Act.put, sA]
              rfl
             (refine done_ (done_of HT_.out (by kernel_rfl)) ?_);(try go_wp2);(go_ret);(exact ⟨by first | rfl | (simp [errW_none, errW_some] <;> rfl) | (simp only [← hji16]; first | rfl | (simp [errW_none, errW_some] <;> rfl)) | (simp [*, errW_none, errW_some] <;> rfl), zq42⟩)
           ·rw [if_neg c18] at H
            exact absurd H (by simp)
          ·rw [if_neg c17] at H
           exact absurd H (by simp)
         ·rw [if_neg c15] at H
          (have c15b0 : decide (0 < x7_1) = false := decide_eq_false c15);clear c15;(have H' := Aside0.mk H);clear H;(have p142 : 0 ≤ (x7_1 : Int) := of_decide_eq_true zq22);(have q142 : x7_1 < (l0.length : Int) := of_decide_eq_true zq22);(obtain ⟨ad142, e142, hx142_0, hx142_1, hx142_2⟩ := at_T90 HR0.out x7_1 p142 q142)
          cases e142
          (replace hx142_0 := (HB.out.cell (World.block_lt_of_cell? w _ hx142_0)).trans hx142_0);(replace hx142_1 := (HB.out.cell (World.block_lt_of_cell? w _ hx142_1)).trans hx142_1);(replace hx142_2 := (HB.out.cell (World.block_lt_of_cell? w _ hx142_2)).trans hx142_2);(replace p142 := eq_true p142);(replace q142 := eq_true q142);(try go_wp2_with (first | ((with_reducible refine gate_dst (N := 4) rfl ?_); refine box_event ?hg (N := 4) ?hd (cs := #[.string (⟨#[]⟩ : ByteArray), .int .i64 0, .int .i64 0]) (t := 90) ?hr ?_; (case hd => rfl); (case hg => rfl); (case hr => first | (go_simp; done) | (go_simp; rfl)); intro gb143 hg w30 hbox hb; have n0_ := Aside0.mk (below_step zq45 hb); have n1_ := Aside0.mk (hbox); have n2_ := Aside0.mk ((zq76 : w.heap.size ≤ gb143)); have n3_ := Aside0.mk ((zq76 : w.heap.size ≤ gb143)); clear HB; have HB := n0_; have BK143 := n1_; have GW143 := n2_; have GE143 := n3_; clear n0_ n1_ n2_ n3_; clear hb hbox hg; have hcz31_0 : w30.cell? ⟨gb143, 0, none⟩ = some (.string (⟨#[]⟩ : ByteArray)) := (blk_cell BK143.out 0).trans rfl; have hcz31_1 : w30.cell? ⟨gb143, 1, none⟩ = some (.int .i64 0) := (blk_cell BK143.out 1).trans rfl; have hcz31_2 : w30.cell? ⟨gb143, 2, none⟩ = some (.int .i64 0) := (blk_cell BK143.out 2).trans rfl; have hfz31_0 := blk_frozen BK143.out 0; have hfz31_1 := blk_frozen BK143.out 1; have hfz31_2 := blk_frozen BK143.out 2)));(have n0_ : Aside0 ((((w30.setCell ⟨gb143, 0, none⟩ (.string ((rd_T90 l0 x7_1).f0))).setCell ⟨gb143, 1, none⟩ (.int .i64 ((rd_T90 l0 x7_1).f1))).setCell ⟨gb143, 2, none⟩ (.int .i64 ((rd_T90 l0 x7_1).f2))).heap[gb143]? = some (.cells #[.string ((rd_T90 l0 x7_1).f0), .int .i64 ((rd_T90 l0 x7_1).f1), .int .i64 ((rd_T90 l0 x7_1).f2)] 90 (0, 0))) := ⟨zq18⟩);(have n1_ : Aside0 (Below w.heap.size w (((w30.setCell ⟨gb143, 0, none⟩ (.string ((rd_T90 l0 x7_1).f0))).setCell ⟨gb143, 1, none⟩ (.int .i64 ((rd_T90 l0 x7_1).f1))).setCell ⟨gb143, 2, none⟩ (.int .i64 ((rd_T90 l0 x7_1).f2)))) := ⟨zq42⟩);(try clear BK143);(try clear HB);(generalize (((w30.setCell ⟨gb143, 0, none⟩ (.string ((rd_T90 l0 x7_1).f0))).setCell ⟨gb143, 1, none⟩ (.int .i64 ((rd_T90 l0 x7_1).f1))).setCell ⟨gb143, 2, none⟩ (.int .i64 ((rd_T90 l0 x7_1).f2))) = w32 at n0_ n1_ ⊢);(have BK143 := n0_);(have HB := n1_);clear n0_ n1_;(have n0_ := Aside0.mk (blk_drew BK143.out));(have n1_ := Aside0.mk (below_drew1 HB.out));clear BK143;clear HB;(have BK143 := n0_);(have HB := n1_);clear n0_ n1_;(refine start_ (n := 32) (S := fun w' => w'.cell? ⟨gb143, 0, none⟩ = some (.string ((rd_T90 l0 x7_1).f0)) ∧ w'.cell? ⟨gb143, 1, none⟩ = some (.int .i64 ((rd_T90 l0 x7_1).f1)) ∧ w'.cell? ⟨gb143, 2, none⟩ = some (.int .i64 ((rd_T90 l0 x7_1).f2))) (ds := []) #[false,false,false,false,false,false,false,false,false,false,false,false,false,false,false,false,false,false,false,false,false,false,false,false,false,false,false,false,false,false,false,false] (by kernel_rfl) rfl rfl ⟨(blk_cell BK143.out 0).trans rfl, (blk_cell BK143.out 1).trans rfl, (blk_cell BK143.out 2).trans rfl⟩ (fun hHeld => ?_); refine with_tabW impl_ValidKnown.tab4 impl_ValidKnown.bits4 (fun HT_ HW_ => ?_));(generalize w32.drew = w33 at BK143 HB hHeld ⊢);(refine pI (i := 0) (N := some 12) (v := ?_) (a' := ?_) (mB 32 1) rfl rfl HT_.out (by kernel_rfl) (fun _ _ _ h => h) rfl ?_ ?_ ?_);rotate_left
          ·intro w'
           go_simp;(with_reducible rfl)
          rotate_left
          ·simp only [Act.put, sA]
           rfl
          (refine tI (i := 1) (N := some 13) (v := ?_) (a' := ?_) (mB 32 3) rfl rfl HT_.out HW_.out (by kernel_rfl) (fun _ _ _ h => h) rfl ?_ hHeld ?_ ?_);rotate_left
          ·rintro w' ⟨s0, s1, s2⟩
           go_simp;(with_reducible rfl)
          rotate_left
          ·simp only [Act.put, sA]
           rfl
          (refine one_ (i := 2) (N := some 14) (mB 32 7) rfl rfl (one_of HT_.out (by kernel_rfl)) (by decide) (fun K hK => ?_));(refine goes_ Tryd.func103 (by kernel_rfl) rfl #[.string ((rd_T90 l0 x7_1).f0)] (by rfl) rfl rfl zq0 ?_);(with_reducible refine (impl_IsName.calls ((rd_T90 l0 x7_1).f0) true _ A5.out).mono ?_);(rintro e w34 ⟨rfl, hb⟩);(refine ⟨_, rfl, ?_⟩);(have n0_ := Aside0.mk (blk_below (g := gb143) (o := .cells #[.string ((rd_T90 l0 x7_1).f0), .int .i64 ((rd_T90 l0 x7_1).f1), .int .i64 ((rd_T90 l0 x7_1).f2)] 90 (0, 0)) zq12 hb));(have n1_ := Aside0.mk (below_step zq42 hb));clear BK143;clear HB;(have BK143 := n0_);(have HB := n1_);clear n0_ n1_;(try clear hb);(try clear hb2);(try clear hk);(try clear hi);(refine hK.out _ _ ⟨(blk_cell BK143.out 0).trans rfl, (blk_cell BK143.out 1).trans rfl, (blk_cell BK143.out 2).trans rfl⟩ (fun hHeld => ?_));clear hK K;(refine norm_ (a' := ?_) ?_ ?_);rotate_left
          ·show Act.put _ (some 14) _ = _
           (simp only [Act.put, sA]);rfl
          (refine pI (i := 3) (N := some 15) (v := ?_) (a' := ?_) (mB 32 15) rfl rfl HT_.out (by kernel_rfl) (fun _ _ _ h => h) rfl ?_ ?_ ?_);rotate_left
          ·intro w'
           go_simp;(with_reducible rfl)
          rotate_left
          ·simp only [Act.put, sA]
           rfl
          (refine pI (i := 4) (N := some 16) (v := ?_) (a' := ?_) (mB 32 31) rfl rfl HT_.out (by kernel_rfl) (fun _ _ _ h => h) rfl ?_ ?_ ?_);rotate_left
          ·intro w'
           go_simp;(with_reducible rfl)
          rotate_left
          ·simp only [Act.put, sA]
           rfl
          (refine pI (i := 5) (N := some 17) (v := ?_) (a' := ?_) (mB 32 63) rfl rfl HT_.out (by kernel_rfl) (fun _ _ _ h => h) rfl ?_ ?_ ?_);rotate_left
          ·intro w'
           go_simp;(with_reducible rfl)
          rotate_left
          ·simp only [Act.put, sA]
           rfl
          (refine pI (i := 7) (N := some 19) (v := ?_) (a' := ?_) (mB 32 191) rfl rfl HT_.out (by kernel_rfl) (fun _ _ _ h => h) rfl ?_ ?_ ?_);rotate_left
          ·intro w'
           go_simp;(with_reducible rfl)
          rotate_left
          ·simp only [Act.put, sA]
           rfl
          (refine tI (i := 6) (N := some 18) (v := ?_) (a' := ?_) (mB 32 255) rfl rfl HT_.out HW_.out (by kernel_rfl) (fun _ _ _ h => h) rfl ?_ hHeld ?_ ?_);rotate_left
          ·rintro w' ⟨s0, s1, s2⟩
           go_simp;(with_reducible rfl)
          rotate_left
          ·simp only [Act.put, sA]
           rfl
          (refine tI (i := 8) (N := some 20) (v := ?_) (a' := ?_) (mB 32 511) rfl rfl HT_.out HW_.out (by kernel_rfl) (fun _ _ _ h => h) rfl ?_ hHeld ?_ ?_);rotate_left
          ·rintro w' ⟨s0, s1, s2⟩
           go_simp;(with_reducible rfl)
          rotate_left
          ·simp only [Act.put, sA]
           rfl
          (refine one_ (i := 9) (N := some 21) (mB 32 1023) rfl rfl (one_of HT_.out (by kernel_rfl)) (by decide) (fun K hK => ?_));(refine goes_ Tryd.func104 (by kernel_rfl) rfl #[.int .i64 ((rd_T90 l0 x7_1).f1), .int .i64 1, .int .i64 ((rd_T90 l0 x7_1).f2)] (by rfl) rfl rfl zq0 ?_);(with_reducible refine (impl_within.calls ((rd_T90 l0 x7_1).f1) 1 ((rd_T90 l0 x7_1).f2) true _ A7.out).mono ?_);(rintro e w' ⟨rfl, ⟨nd, rfl⟩⟩);(refine ⟨_, rfl, ?_⟩);(refine hK.out _ _ ⟨(blk_cell BK143.out 0).trans rfl, (blk_cell BK143.out 1).trans rfl, (blk_cell BK143.out 2).trans rfl⟩ (fun hHeld => ?_));clear hK K;(refine norm_ (a' := ?_) ?_ ?_);rotate_left
          ·show Act.put _ (some 21) _ = _
           (simp only [Act.put, sA]);rfl
          (refine pI (i := 10) (N := some 22) (v := ?_) (a' := ?_) (mB 32 2047) rfl rfl HT_.out (by kernel_rfl) (fun _ _ _ h => h) rfl ?_ ?_ ?_);rotate_left
          ·intro w'
           go_simp;(with_reducible rfl)
          rotate_left
          ·simp only [Act.put, sA]
           rfl
          (refine pI (i := 11) (N := some 23) (v := ?_) (a' := ?_) (mB 32 4095) rfl rfl HT_.out (by kernel_rfl) (fun _ _ _ h => h) rfl ?_ ?_ ?_);rotate_left
          ·intro w'
           go_simp;(with_reducible rfl)
          rotate_left
          ·simp only [Act.put, sA]
           rfl
          (refine pI (i := 12) (N := some 24) (v := ?_) (a' := ?_) (mB 32 8191) rfl rfl HT_.out (by kernel_rfl) (fun _ _ _ h => h) rfl ?_ ?_ ?_);rotate_left
          ·intro w'
           go_simp;(with_reducible rfl)
          rotate_left
          ·simp only [Act.put, sA]
           rfl
          (refine pI (i := 13) (N := some 25) (v := ?_) (a' := ?_) (mB 32 16383) rfl rfl HT_.out (by kernel_rfl) (fun _ _ _ h => h) rfl ?_ ?_ ?_);rotate_left
          ·intro w'
           go_simp;(with_reducible rfl)
          rotate_left
          ·simp only [Act.put, sA]
           rfl
          (refine tI (i := 14) (N := some 26) (v := ?_) (a' := ?_) (mB 32 32767) rfl rfl HT_.out HW_.out (by kernel_rfl) (fun _ _ _ h => h) rfl ?_ hHeld ?_ ?_);rotate_left
          ·rintro w' ⟨s0, s1, s2⟩
           go_simp;(with_reducible rfl)
          rotate_left
          ·simp only [Act.put, sA]
           rfl
          (refine pI (i := 15) (N := some 27) (v := ?_) (a' := ?_) (mB 32 65535) rfl rfl HT_.out (by kernel_rfl) (fun _ _ _ h => h) rfl ?_ ?_ ?_);rotate_left
          ·intro w'
           go_simp;(with_reducible rfl)
          rotate_left
          ·simp only [Act.put, sA]
           rfl
          (refine pI (i := 16) (N := some 28) (v := ?_) (a' := ?_) (mB 32 131071) rfl rfl HT_.out (by kernel_rfl) (fun _ _ _ h => h) rfl ?_ ?_ ?_);rotate_left
          ·intro w'
           go_simp;(with_reducible rfl)
          rotate_left
          ·simp only [Act.put, sA]
           rfl
          (refine pI (i := 17) (N := some 29) (v := ?_) (a' := ?_) (mB 32 262143) rfl rfl HT_.out (by kernel_rfl) (fun _ _ _ h => h) rfl ?_ ?_ ?_);rotate_left
          ·intro w'
           go_simp;(with_reducible rfl)
          rotate_left
          ·simp only [Act.put, sA]
           rfl
          (refine pI (i := 18) (N := some 30) (v := ?_) (a' := ?_) (mB 32 524287) rfl rfl HT_.out (by kernel_rfl) (fun _ _ _ h => h) rfl ?_ ?_ ?_);rotate_left
          ·intro w'
           go_simp;(with_reducible rfl)
          rotate_left
          ·simp only [Act.put, sA]
           rfl
          (refine pI (i := 19) (N := some 31) (v := ?_) (a' := ?_) (mB 32 1048575) rfl rfl HT_.out (by kernel_rfl) (fun _ _ _ h => h) rfl ?_ ?_ ?_);rotate_left
          ·intro w'
           go_simp;(with_reducible rfl)
          rotate_left
          ·simp only [Act.put, sA]
           rfl
          (refine pI (i := 20) (N := some 32) (v := ?_) (a' := ?_) (mB 32 2097151) rfl rfl HT_.out (by kernel_rfl) (fun _ _ _ h => h) rfl ?_ ?_ ?_);rotate_left
          ·intro w'
           go_simp;(with_reducible rfl)
          rotate_left
          ·simp only [Act.put, sA]
           rfl
          (refine pU (i := 21) (N := some 33) (a' := ?_) (mB 32 4194303) rfl rfl HT_.out (by kernel_rfl) (fun _ _ _ h => h) rfl ?_ ?_);rotate_left
          ·simp only [Act.put, sA]
           rfl
          (refine pU (i := 22) (N := some 34) (a' := ?_) (mB 32 8388607) rfl rfl HT_.out (by kernel_rfl) (fun _ _ _ h => h) rfl ?_ ?_);rotate_left
          ·simp only [Act.put, sA]
           rfl
          (refine pU (i := 23) (N := some 35) (a' := ?_) (mB 32 16777215) rfl rfl HT_.out (by kernel_rfl) (fun _ _ _ h => h) rfl ?_ ?_);rotate_left
          ·simp only [Act.put, sA]
           rfl
          (refine pU (i := 24) (N := some 36) (a' := ?_) (mB 32 33554431) rfl rfl HT_.out (by kernel_rfl) (fun _ _ _ h => h) rfl ?_ ?_);rotate_left
          ·simp only [Act.put, sA]
           rfl
          (refine pU (i := 25) (N := some 37) (a' := ?_) (mB 32 67108863) rfl rfl HT_.out (by kernel_rfl) (fun _ _ _ h => h) rfl ?_ ?_);rotate_left
          ·simp only [Act.put, sA]
           rfl
          (refine pU (i := 26) (N := some 38) (a' := ?_) (mB 32 134217727) rfl rfl HT_.out (by kernel_rfl) (fun _ _ _ h => h) rfl ?_ ?_);rotate_left
          ·simp only [Act.put, sA]
           rfl
          (refine pU (i := 27) (N := some 39) (a' := ?_) (mB 32 268435455) rfl rfl HT_.out (by kernel_rfl) (fun _ _ _ h => h) rfl ?_ ?_);rotate_left
          ·simp only [Act.put, sA]
           rfl
          (refine pU (i := 28) (N := some 40) (a' := ?_) (mB 32 536870911) rfl rfl HT_.out (by kernel_rfl) (fun _ _ _ h => h) rfl ?_ ?_);rotate_left
          ·simp only [Act.put, sA]
           rfl
          (refine pU (i := 29) (N := some 41) (a' := ?_) (mB 32 1073741823) rfl rfl HT_.out (by kernel_rfl) (fun _ _ _ h => h) rfl ?_ ?_);rotate_left
          ·simp only [Act.put, sA]
           rfl
          (refine pI (i := 30) (N := some 42) (v := ?_) (a' := ?_) (mB 32 2147483647) rfl rfl HT_.out (by kernel_rfl) (fun _ _ _ h => h) rfl ?_ ?_ ?_);rotate_left
          ·intro w'
           go_simp;(with_reducible rfl)
          rotate_left
          ·simp only [Act.put, sA]
           rfl
          (refine pI (i := 31) (N := some 43) (v := ?_) (a' := ?_) (mB 32 4294967295) rfl rfl HT_.out (by kernel_rfl) (fun _ _ _ h => h) rfl ?_ ?_ ?_);rotate_left
          ·intro w'
           go_simp;(with_reducible rfl)
          rotate_left
          ·simp only [Act.put, sA]
           rfl
          (refine done_ (done_of HT_.out (by kernel_rfl)) ?_);(try go_wp2);(go_roundg k1)
          case measure => have := HK1.out; omega
          case rel => exact ⟨(wrap64 (x7_1 + 1)), zq28, H', ⟨zq33⟩, ⟨zq42⟩⟩
       ·replace c8 := Bool.eq_false_iff.mpr c8
        subst c8;(have H1 : (some false) = some r := zq79);clear H;(have H := H1);clear H1;(obtain rfl := Option.some.inj H);(have p142 : 0 ≤ (x7_1 : Int) := of_decide_eq_true zq22);(have q142 : x7_1 < (l0.length : Int) := of_decide_eq_true zq22);(obtain ⟨ad142, e142, hx142_0, hx142_1, hx142_2⟩ := at_T90 HR0.out x7_1 p142 q142)
        cases e142
        (replace hx142_0 := (HB.out.cell (World.block_lt_of_cell? w _ hx142_0)).trans hx142_0);(replace hx142_1 := (HB.out.cell (World.block_lt_of_cell? w _ hx142_1)).trans hx142_1);(replace hx142_2 := (HB.out.cell (World.block_lt_of_cell? w _ hx142_2)).trans hx142_2);(replace p142 := eq_true p142);(replace q142 := eq_true q142);(try go_wp2_with (first | ((with_reducible refine gate_dst (N := 4) rfl ?_); refine box_event ?hg (N := 4) ?hd (cs := #[.string (⟨#[]⟩ : ByteArray), .int .i64 0, .int .i64 0]) (t := 90) ?hr ?_; (case hd => rfl); (case hg => rfl); (case hr => first | (go_simp; done) | (go_simp; rfl)); intro gb143 hg w35 hbox hb; have n0_ := Aside0.mk (below_step zq45 hb); have n1_ := Aside0.mk (hbox); have n2_ := Aside0.mk ((zq76 : w.heap.size ≤ gb143)); have n3_ := Aside0.mk ((zq76 : w.heap.size ≤ gb143)); clear HB; have HB := n0_; have BK143 := n1_; have GW143 := n2_; have GE143 := n3_; clear n0_ n1_ n2_ n3_; clear hb hbox hg; have hcz36_0 : w35.cell? ⟨gb143, 0, none⟩ = some (.string (⟨#[]⟩ : ByteArray)) := (blk_cell BK143.out 0).trans rfl; have hcz36_1 : w35.cell? ⟨gb143, 1, none⟩ = some (.int .i64 0) := (blk_cell BK143.out 1).trans rfl; have hcz36_2 : w35.cell? ⟨gb143, 2, none⟩ = some (.int .i64 0) := (blk_cell BK143.out 2).trans rfl; have hfz36_0 := blk_frozen BK143.out 0; have hfz36_1 := blk_frozen BK143.out 1; have hfz36_2 := blk_frozen BK143.out 2)));(have n0_ : Aside0 ((((w35.setCell ⟨gb143, 0, none⟩ (.string ((rd_T90 l0 x7_1).f0))).setCell ⟨gb143, 1, none⟩ (.int .i64 ((rd_T90 l0 x7_1).f1))).setCell ⟨gb143, 2, none⟩ (.int .i64 ((rd_T90 l0 x7_1).f2))).heap[gb143]? = some (.cells #[.string ((rd_T90 l0 x7_1).f0), .int .i64 ((rd_T90 l0 x7_1).f1), .int .i64 ((rd_T90 l0 x7_1).f2)] 90 (0, 0))) := ⟨zq18⟩);(have n1_ : Aside0 (Below w.heap.size w (((w35.setCell ⟨gb143, 0, none⟩ (.string ((rd_T90 l0 x7_1).f0))).setCell ⟨gb143, 1, none⟩ (.int .i64 ((rd_T90 l0 x7_1).f1))).setCell ⟨gb143, 2, none⟩ (.int .i64 ((rd_T90 l0 x7_1).f2)))) := ⟨zq42⟩);(try clear BK143);(try clear HB);(generalize (((w35.setCell ⟨gb143, 0, none⟩ (.string ((rd_T90 l0 x7_1).f0))).setCell ⟨gb143, 1, none⟩ (.int .i64 ((rd_T90 l0 x7_1).f1))).setCell ⟨gb143, 2, none⟩ (.int .i64 ((rd_T90 l0 x7_1).f2))) = w37 at n0_ n1_ ⊢);(have BK143 := n0_);(have HB := n1_);clear n0_ n1_;(have n0_ := Aside0.mk (blk_drew BK143.out));(have n1_ := Aside0.mk (below_drew1 HB.out));clear BK143;clear HB;(have BK143 := n0_);(have HB := n1_);clear n0_ n1_;(refine start_ (n := 32) (S := fun w' => w'.cell? ⟨gb143, 0, none⟩ = some (.string ((rd_T90 l0 x7_1).f0)) ∧ w'.cell? ⟨gb143, 1, none⟩ = some (.int .i64 ((rd_T90 l0 x7_1).f1)) ∧ w'.cell? ⟨gb143, 2, none⟩ = some (.int .i64 ((rd_T90 l0 x7_1).f2))) (ds := []) #[false,false,false,false,false,false,false,false,false,false,false,false,false,false,false,false,false,false,false,false,false,false,false,false,false,false,false,false,false,false,false,false] (by kernel_rfl) rfl rfl ⟨(blk_cell BK143.out 0).trans rfl, (blk_cell BK143.out 1).trans rfl, (blk_cell BK143.out 2).trans rfl⟩ (fun hHeld => ?_); refine with_tabW impl_ValidKnown.tab4 impl_ValidKnown.bits4 (fun HT_ HW_ => ?_));(generalize w37.drew = w38 at BK143 HB hHeld ⊢);(refine pI (i := 0) (N := some 12) (v := ?_) (a' := ?_) (mB 32 1) rfl rfl HT_.out (by kernel_rfl) (fun _ _ _ h => h) rfl ?_ ?_ ?_);rotate_left
        ·intro w'
         go_simp;(with_reducible rfl)
        rotate_left
        ·simp only [Act.put, sA]
         rfl
        (refine tI (i := 1) (N := some 13) (v := ?_) (a' := ?_) (mB 32 3) rfl rfl HT_.out HW_.out (by kernel_rfl) (fun _ _ _ h => h) rfl ?_ hHeld ?_ ?_);rotate_left
        ·rintro w' ⟨s0, s1, s2⟩
         go_simp;(with_reducible rfl)
        rotate_left
        ·simp only [Act.put, sA]
         rfl
        (refine one_ (i := 2) (N := some 14) (mB 32 7) rfl rfl (one_of HT_.out (by kernel_rfl)) (by decide) (fun K hK => ?_));(refine goes_ Tryd.func103 (by kernel_rfl) rfl #[.string ((rd_T90 l0 x7_1).f0)] (by rfl) rfl rfl zq0 ?_);(with_reducible refine (impl_IsName.calls ((rd_T90 l0 x7_1).f0) true _ A5.out).mono ?_);(rintro e w39 ⟨rfl, hb⟩);(refine ⟨_, rfl, ?_⟩);(have n0_ := Aside0.mk (blk_below (g := gb143) (o := .cells #[.string ((rd_T90 l0 x7_1).f0), .int .i64 ((rd_T90 l0 x7_1).f1), .int .i64 ((rd_T90 l0 x7_1).f2)] 90 (0, 0)) zq12 hb));(have n1_ := Aside0.mk (below_step zq42 hb));clear BK143;clear HB;(have BK143 := n0_);(have HB := n1_);clear n0_ n1_;(try clear hb);(try clear hb2);(try clear hk);(try clear hi);(refine hK.out _ _ ⟨(blk_cell BK143.out 0).trans rfl, (blk_cell BK143.out 1).trans rfl, (blk_cell BK143.out 2).trans rfl⟩ (fun hHeld => ?_));clear hK K;(refine norm_ (a' := ?_) ?_ ?_);rotate_left
        ·show Act.put _ (some 14) _ = _
         (simp only [Act.put, sA]);rfl
        (refine pI (i := 3) (N := some 15) (v := ?_) (a' := ?_) (mB 32 15) rfl rfl HT_.out (by kernel_rfl) (fun _ _ _ h => h) rfl ?_ ?_ ?_);rotate_left
        ·intro w'
         go_simp;(with_reducible rfl)
        rotate_left
        ·simp only [Act.put, sA]
         rfl
        (refine pI (i := 4) (N := some 16) (v := ?_) (a' := ?_) (mB 32 31) rfl rfl HT_.out (by kernel_rfl) (fun _ _ _ h => h) rfl ?_ ?_ ?_);rotate_left
        ·intro w'
         go_simp;(with_reducible rfl)
        rotate_left
        ·simp only [Act.put, sA]
         rfl
        (refine pI (i := 5) (N := some 17) (v := ?_) (a' := ?_) (mB 32 63) rfl rfl HT_.out (by kernel_rfl) (fun _ _ _ h => h) rfl ?_ ?_ ?_);rotate_left
        ·intro w'
         go_simp;(with_reducible rfl)
        rotate_left
        ·simp only [Act.put, sA]
         rfl
        (refine pI (i := 7) (N := some 19) (v := ?_) (a' := ?_) (mB 32 191) rfl rfl HT_.out (by kernel_rfl) (fun _ _ _ h => h) rfl ?_ ?_ ?_);rotate_left
        ·intro w'
         go_simp;(with_reducible rfl)
        rotate_left
        ·simp only [Act.put, sA]
         rfl
        (refine tI (i := 6) (N := some 18) (v := ?_) (a' := ?_) (mB 32 255) rfl rfl HT_.out HW_.out (by kernel_rfl) (fun _ _ _ h => h) rfl ?_ hHeld ?_ ?_);rotate_left
        ·rintro w' ⟨s0, s1, s2⟩
         go_simp;(with_reducible rfl)
        rotate_left
        ·simp only [Act.put, sA]
         rfl
        (refine tI (i := 8) (N := some 20) (v := ?_) (a' := ?_) (mB 32 511) rfl rfl HT_.out HW_.out (by kernel_rfl) (fun _ _ _ h => h) rfl ?_ hHeld ?_ ?_);rotate_left
        ·rintro w' ⟨s0, s1, s2⟩
         go_simp;(with_reducible rfl)
        rotate_left
        ·simp only [Act.put, sA]
         rfl
        (refine one_ (i := 9) (N := some 21) (mB 32 1023) rfl rfl (one_of HT_.out (by kernel_rfl)) (by decide) (fun K hK => ?_));(refine goes_ Tryd.func104 (by kernel_rfl) rfl #[.int .i64 ((rd_T90 l0 x7_1).f1), .int .i64 1, .int .i64 ((rd_T90 l0 x7_1).f2)] (by rfl) rfl rfl zq0 ?_);(with_reducible refine (impl_within.calls ((rd_T90 l0 x7_1).f1) 1 ((rd_T90 l0 x7_1).f2) false _ A7.out).mono ?_);(rintro e w' ⟨rfl, ⟨nd, rfl⟩⟩);(refine ⟨_, rfl, ?_⟩);(refine hK.out _ _ ⟨(blk_cell BK143.out 0).trans rfl, (blk_cell BK143.out 1).trans rfl, (blk_cell BK143.out 2).trans rfl⟩ (fun hHeld => ?_));clear hK K;(refine norm_ (a' := ?_) ?_ ?_);rotate_left
        ·show Act.put _ (some 21) _ = _
         (simp only [Act.put, sA]);rfl
        (refine pI (i := 10) (N := some 22) (v := ?_) (a' := ?_) (mB 32 2047) rfl rfl HT_.out (by kernel_rfl) (fun _ _ _ h => h) rfl ?_ ?_ ?_);rotate_left
        ·intro w'
         go_simp;(with_reducible rfl)
        rotate_left
        ·simp only [Act.put, sA]
         rfl
        (refine pI (i := 11) (N := some 23) (v := ?_) (a' := ?_) (mB 32 4095) rfl rfl HT_.out (by kernel_rfl) (fun _ _ _ h => h) rfl ?_ ?_ ?_);rotate_left
        ·intro w'
         go_simp;(with_reducible rfl)
        rotate_left
        ·simp only [Act.put, sA]
         rfl
        (refine pI (i := 12) (N := some 24) (v := ?_) (a' := ?_) (mB 32 8191) rfl rfl HT_.out (by kernel_rfl) (fun _ _ _ h => h) rfl ?_ ?_ ?_);rotate_left
        ·intro w'
         go_simp;(with_reducible rfl)
        rotate_left
        ·simp only [Act.put, sA]
         rfl
        (refine pU (i := 13) (N := some 25) (a' := ?_) (mB 32 16383) rfl rfl HT_.out (by kernel_rfl) (fun _ _ _ h => h) rfl ?_ ?_);rotate_left
        ·simp only [Act.put, sA]
         rfl
        (refine pU (i := 14) (N := some 26) (a' := ?_) (mB 32 32767) rfl rfl HT_.out (by kernel_rfl) (fun _ _ _ h => h) rfl ?_ ?_);rotate_left
        ·simp only [Act.put, sA]
         rfl
        (refine pU (i := 15) (N := some 27) (a' := ?_) (mB 32 65535) rfl rfl HT_.out (by kernel_rfl) (fun _ _ _ h => h) rfl ?_ ?_);rotate_left
        ·simp only [Act.put, sA]
         rfl
        (refine pI (i := 16) (N := some 28) (v := ?_) (a' := ?_) (mB 32 131071) rfl rfl HT_.out (by kernel_rfl) (fun _ _ _ h => h) rfl ?_ ?_ ?_);rotate_left
        ·intro w'
         go_simp;(with_reducible rfl)
        rotate_left
        ·simp only [Act.put, sA]
         rfl
        (refine pI (i := 17) (N := some 29) (v := ?_) (a' := ?_) (mB 32 262143) rfl rfl HT_.out (by kernel_rfl) (fun _ _ _ h => h) rfl ?_ ?_ ?_);rotate_left
        ·intro w'
         go_simp;(with_reducible rfl)
        rotate_left
        ·simp only [Act.put, sA]
         rfl
        (refine pU (i := 18) (N := some 30) (a' := ?_) (mB 32 524287) rfl rfl HT_.out (by kernel_rfl) (fun _ _ _ h => h) rfl ?_ ?_);rotate_left
        ·simp only [Act.put, sA]
         rfl
        (refine pU (i := 19) (N := some 31) (a' := ?_) (mB 32 1048575) rfl rfl HT_.out (by kernel_rfl) (fun _ _ _ h => h) rfl ?_ ?_);rotate_left
        ·simp only [Act.put, sA]
         rfl
        (refine pU (i := 20) (N := some 32) (a' := ?_) (mB 32 2097151) rfl rfl HT_.out (by kernel_rfl) (fun _ _ _ h => h) rfl ?_ ?_);rotate_left
        ·simp only [Act.put, sA]
         rfl
        (refine pU (i := 21) (N := some 33) (a' := ?_) (mB 32 4194303) rfl rfl HT_.out (by kernel_rfl) (fun _ _ _ h => h) rfl ?_ ?_);rotate_left
        ·simp only [Act.put, sA]
         rfl
        (refine pU (i := 22) (N := some 34) (a' := ?_) (mB 32 8388607) rfl rfl HT_.out (by kernel_rfl) (fun _ _ _ h => h) rfl ?_ ?_);rotate_left
        ·simp only [Act.put, sA]
         rfl
        (refine pU (i := 23) (N := some 35) (a' := ?_) (mB 32 16777215) rfl rfl HT_.out (by kernel_rfl) (fun _ _ _ h => h) rfl ?_ ?_);rotate_left
        ·simp only [Act.put, sA]
         rfl
        (refine pU (i := 24) (N := some 36) (a' := ?_) (mB 32 33554431) rfl rfl HT_.out (by kernel_rfl) (fun _ _ _ h => h) rfl ?_ ?_);rotate_left
        ·simp only [Act.put, sA]
         rfl
        (refine pU (i := 25) (N := some 37) (a' := ?_) (mB 32 67108863) rfl rfl HT_.out (by kernel_rfl) (fun _ _ _ h => h) rfl ?_ ?_);rotate_left
        ·simp only [Act.put, sA]
         rfl
        (refine pU (i := 26) (N := some 38) (a' := ?_) (mB 32 134217727) rfl rfl HT_.out (by kernel_rfl) (fun _ _ _ h => h) rfl ?_ ?_);rotate_left
        ·simp only [Act.put, sA]
         rfl
        (refine pU (i := 27) (N := some 39) (a' := ?_) (mB 32 268435455) rfl rfl HT_.out (by kernel_rfl) (fun _ _ _ h => h) rfl ?_ ?_);rotate_left
        ·simp only [Act.put, sA]
         rfl
        (refine pU (i := 28) (N := some 40) (a' := ?_) (mB 32 536870911) rfl rfl HT_.out (by kernel_rfl) (fun _ _ _ h => h) rfl ?_ ?_);rotate_left
        ·simp only [Act.put, sA]
         rfl
        (refine pU (i := 29) (N := some 41) (a' := ?_) (mB 32 1073741823) rfl rfl HT_.out (by kernel_rfl) (fun _ _ _ h => h) rfl ?_ ?_);rotate_left
        ·simp only [Act.put, sA]
         rfl
        (refine pU (i := 30) (N := some 42) (a' := ?_) (mB 32 2147483647) rfl rfl HT_.out (by kernel_rfl) (fun _ _ _ h => h) rfl ?_ ?_);rotate_left
        ·simp only [Act.put, sA]
         rfl
        (refine pI (i := 31) (N := some 43) (v := ?_) (a' := ?_) (mB 32 4294967295) rfl rfl HT_.out (by kernel_rfl) (fun _ _ _ h => h) rfl ?_ ?_ ?_);rotate_left
        ·intro w'
         go_simp;(with_reducible rfl)
        rotate_left
        ·simp only [Act.put, sA]
         rfl
        (refine done_ (done_of HT_.out (by kernel_rfl)) ?_);(try go_wp2);(go_ret);(exact ⟨zq27, zq42⟩)
      ·replace c6 := Bool.eq_false_iff.mpr c6
       subst c6;(have H1 : (some false) = some r := zq79);clear H;(have H := H1);clear H1;(obtain rfl := Option.some.inj H);(have p142 : 0 ≤ (x7_1 : Int) := of_decide_eq_true zq22);(have q142 : x7_1 < (l0.length : Int) := of_decide_eq_true zq22);(obtain ⟨ad142, e142, hx142_0, hx142_1, hx142_2⟩ := at_T90 HR0.out x7_1 p142 q142)
       cases e142
       (replace hx142_0 := (HB.out.cell (World.block_lt_of_cell? w _ hx142_0)).trans hx142_0);(replace hx142_1 := (HB.out.cell (World.block_lt_of_cell? w _ hx142_1)).trans hx142_1);(replace hx142_2 := (HB.out.cell (World.block_lt_of_cell? w _ hx142_2)).trans hx142_2);(replace p142 := eq_true p142);(replace q142 := eq_true q142);(try go_wp2_with (first | ((with_reducible refine gate_dst (N := 4) rfl ?_); refine box_event ?hg (N := 4) ?hd (cs := #[.string (⟨#[]⟩ : ByteArray), .int .i64 0, .int .i64 0]) (t := 90) ?hr ?_; (case hd => rfl); (case hg => rfl); (case hr => first | (go_simp; done) | (go_simp; rfl)); intro gb143 hg w40 hbox hb; have n0_ := Aside0.mk (below_step zq45 hb); have n1_ := Aside0.mk (hbox); have n2_ := Aside0.mk ((zq76 : w.heap.size ≤ gb143)); have n3_ := Aside0.mk ((zq76 : w.heap.size ≤ gb143)); clear HB; have HB := n0_; have BK143 := n1_; have GW143 := n2_; have GE143 := n3_; clear n0_ n1_ n2_ n3_; clear hb hbox hg; have hcz41_0 : w40.cell? ⟨gb143, 0, none⟩ = some (.string (⟨#[]⟩ : ByteArray)) := (blk_cell BK143.out 0).trans rfl; have hcz41_1 : w40.cell? ⟨gb143, 1, none⟩ = some (.int .i64 0) := (blk_cell BK143.out 1).trans rfl; have hcz41_2 : w40.cell? ⟨gb143, 2, none⟩ = some (.int .i64 0) := (blk_cell BK143.out 2).trans rfl; have hfz41_0 := blk_frozen BK143.out 0; have hfz41_1 := blk_frozen BK143.out 1; have hfz41_2 := blk_frozen BK143.out 2)));(have n0_ : Aside0 ((((w40.setCell ⟨gb143, 0, none⟩ (.string ((rd_T90 l0 x7_1).f0))).setCell ⟨gb143, 1, none⟩ (.int .i64 ((rd_T90 l0 x7_1).f1))).setCell ⟨gb143, 2, none⟩ (.int .i64 ((rd_T90 l0 x7_1).f2))).heap[gb143]? = some (.cells #[.string ((rd_T90 l0 x7_1).f0), .int .i64 ((rd_T90 l0 x7_1).f1), .int .i64 ((rd_T90 l0 x7_1).f2)] 90 (0, 0))) := ⟨zq18⟩);(have n1_ : Aside0 (Below w.heap.size w (((w40.setCell ⟨gb143, 0, none⟩ (.string ((rd_T90 l0 x7_1).f0))).setCell ⟨gb143, 1, none⟩ (.int .i64 ((rd_T90 l0 x7_1).f1))).setCell ⟨gb143, 2, none⟩ (.int .i64 ((rd_T90 l0 x7_1).f2)))) := ⟨zq42⟩);(try clear BK143);(try clear HB);(generalize (((w40.setCell ⟨gb143, 0, none⟩ (.string ((rd_T90 l0 x7_1).f0))).setCell ⟨gb143, 1, none⟩ (.int .i64 ((rd_T90 l0 x7_1).f1))).setCell ⟨gb143, 2, none⟩ (.int .i64 ((rd_T90 l0 x7_1).f2))) = w42 at n0_ n1_ ⊢);(have BK143 := n0_);(have HB := n1_);clear n0_ n1_;(have n0_ := Aside0.mk (blk_drew BK143.out));(have n1_ := Aside0.mk (below_drew1 HB.out));clear BK143;clear HB;(have BK143 := n0_);(have HB := n1_);clear n0_ n1_;(refine start_ (n := 32) (S := fun w' => w'.cell? ⟨gb143, 0, none⟩ = some (.string ((rd_T90 l0 x7_1).f0)) ∧ w'.cell? ⟨gb143, 1, none⟩ = some (.int .i64 ((rd_T90 l0 x7_1).f1)) ∧ w'.cell? ⟨gb143, 2, none⟩ = some (.int .i64 ((rd_T90 l0 x7_1).f2))) (ds := []) #[false,false,false,false,false,false,false,false,false,false,false,false,false,false,false,false,false,false,false,false,false,false,false,false,false,false,false,false,false,false,false,false] (by kernel_rfl) rfl rfl ⟨(blk_cell BK143.out 0).trans rfl, (blk_cell BK143.out 1).trans rfl, (blk_cell BK143.out 2).trans rfl⟩ (fun hHeld => ?_); refine with_tabW impl_ValidKnown.tab4 impl_ValidKnown.bits4 (fun HT_ HW_ => ?_));(generalize w42.drew = w43 at BK143 HB hHeld ⊢);(refine pI (i := 0) (N := some 12) (v := ?_) (a' := ?_) (mB 32 1) rfl rfl HT_.out (by kernel_rfl) (fun _ _ _ h => h) rfl ?_ ?_ ?_);rotate_left
       ·intro w'
        go_simp;(with_reducible rfl)
       rotate_left
       ·simp only [Act.put, sA]
        rfl
       (refine tI (i := 1) (N := some 13) (v := ?_) (a' := ?_) (mB 32 3) rfl rfl HT_.out HW_.out (by kernel_rfl) (fun _ _ _ h => h) rfl ?_ hHeld ?_ ?_);rotate_left
       ·rintro w' ⟨s0, s1, s2⟩
        go_simp;(with_reducible rfl)
       rotate_left
       ·simp only [Act.put, sA]
        rfl
       (refine one_ (i := 2) (N := some 14) (mB 32 7) rfl rfl (one_of HT_.out (by kernel_rfl)) (by decide) (fun K hK => ?_));(refine goes_ Tryd.func103 (by kernel_rfl) rfl #[.string ((rd_T90 l0 x7_1).f0)] (by rfl) rfl rfl zq0 ?_);(with_reducible refine (impl_IsName.calls ((rd_T90 l0 x7_1).f0) false _ A5.out).mono ?_);(rintro e w44 ⟨rfl, hb⟩);(refine ⟨_, rfl, ?_⟩);(have n0_ := Aside0.mk (blk_below (g := gb143) (o := .cells #[.string ((rd_T90 l0 x7_1).f0), .int .i64 ((rd_T90 l0 x7_1).f1), .int .i64 ((rd_T90 l0 x7_1).f2)] 90 (0, 0)) zq12 hb));(have n1_ := Aside0.mk (below_step zq42 hb));clear BK143;clear HB;(have BK143 := n0_);(have HB := n1_);clear n0_ n1_;(try clear hb);(try clear hb2);(try clear hk);(try clear hi);(refine hK.out _ _ ⟨(blk_cell BK143.out 0).trans rfl, (blk_cell BK143.out 1).trans rfl, (blk_cell BK143.out 2).trans rfl⟩ (fun hHeld => ?_));clear hK K;(refine norm_ (a' := ?_) ?_ ?_);rotate_left
       ·show Act.put _ (some 14) _ = _
        (simp only [Act.put, sA]);rfl
       (refine pI (i := 3) (N := some 15) (v := ?_) (a' := ?_) (mB 32 15) rfl rfl HT_.out (by kernel_rfl) (fun _ _ _ h => h) rfl ?_ ?_ ?_);rotate_left
       ·intro w'
        go_simp;(with_reducible rfl)
       rotate_left
       ·simp only [Act.put, sA]
        rfl
       (refine pI (i := 4) (N := some 16) (v := ?_) (a' := ?_) (mB 32 31) rfl rfl HT_.out (by kernel_rfl) (fun _ _ _ h => h) rfl ?_ ?_ ?_);rotate_left
       ·intro w'
        go_simp;(with_reducible rfl)
       rotate_left
       ·simp only [Act.put, sA]
        rfl
       (refine pU (i := 5) (N := some 17) (a' := ?_) (mB 32 63) rfl rfl HT_.out (by kernel_rfl) (fun _ _ _ h => h) rfl ?_ ?_);rotate_left
       ·simp only [Act.put, sA]
        rfl
       (refine pU (i := 6) (N := some 18) (a' := ?_) (mB 32 127) rfl rfl HT_.out (by kernel_rfl) (fun _ _ _ h => h) rfl ?_ ?_);rotate_left
       ·simp only [Act.put, sA]
        rfl
       (refine pU (i := 7) (N := some 19) (a' := ?_) (mB 32 255) rfl rfl HT_.out (by kernel_rfl) (fun _ _ _ h => h) rfl ?_ ?_);rotate_left
       ·simp only [Act.put, sA]
        rfl
       (refine pU (i := 8) (N := some 20) (a' := ?_) (mB 32 511) rfl rfl HT_.out (by kernel_rfl) (fun _ _ _ h => h) rfl ?_ ?_);rotate_left
       ·simp only [Act.put, sA]
        rfl
       (refine pU (i := 9) (N := some 21) (a' := ?_) (mB 32 1023) rfl rfl HT_.out (by kernel_rfl) (fun _ _ _ h => h) rfl ?_ ?_);rotate_left
       ·simp only [Act.put, sA]
        rfl
       (refine pU (i := 10) (N := some 22) (a' := ?_) (mB 32 2047) rfl rfl HT_.out (by kernel_rfl) (fun _ _ _ h => h) rfl ?_ ?_);rotate_left
       ·simp only [Act.put, sA]
        rfl
       (refine pI (i := 11) (N := some 23) (v := ?_) (a' := ?_) (mB 32 4095) rfl rfl HT_.out (by kernel_rfl) (fun _ _ _ h => h) rfl ?_ ?_ ?_);rotate_left
       ·intro w'
        go_simp;(with_reducible rfl)
       rotate_left
       ·simp only [Act.put, sA]
        rfl
       (refine pI (i := 12) (N := some 24) (v := ?_) (a' := ?_) (mB 32 8191) rfl rfl HT_.out (by kernel_rfl) (fun _ _ _ h => h) rfl ?_ ?_ ?_);rotate_left
       ·intro w'
        go_simp;(with_reducible rfl)
       rotate_left
       ·simp only [Act.put, sA]
        rfl
       (refine pU (i := 13) (N := some 25) (a' := ?_) (mB 32 16383) rfl rfl HT_.out (by kernel_rfl) (fun _ _ _ h => h) rfl ?_ ?_);rotate_left
       ·simp only [Act.put, sA]
        rfl
       (refine pU (i := 14) (N := some 26) (a' := ?_) (mB 32 32767) rfl rfl HT_.out (by kernel_rfl) (fun _ _ _ h => h) rfl ?_ ?_);rotate_left
       ·simp only [Act.put, sA]
        rfl
       (refine pU (i := 15) (N := some 27) (a' := ?_) (mB 32 65535) rfl rfl HT_.out (by kernel_rfl) (fun _ _ _ h => h) rfl ?_ ?_);rotate_left
       ·simp only [Act.put, sA]
        rfl
       (refine pI (i := 16) (N := some 28) (v := ?_) (a' := ?_) (mB 32 131071) rfl rfl HT_.out (by kernel_rfl) (fun _ _ _ h => h) rfl ?_ ?_ ?_);rotate_left
       ·intro w'
        go_simp;(with_reducible rfl)
       rotate_left
       ·simp only [Act.put, sA]
        rfl
       (refine pI (i := 17) (N := some 29) (v := ?_) (a' := ?_) (mB 32 262143) rfl rfl HT_.out (by kernel_rfl) (fun _ _ _ h => h) rfl ?_ ?_ ?_);rotate_left
       ·intro w'
        go_simp;(with_reducible rfl)
       rotate_left
       ·simp only [Act.put, sA]
        rfl
       (refine pU (i := 18) (N := some 30) (a' := ?_) (mB 32 524287) rfl rfl HT_.out (by kernel_rfl) (fun _ _ _ h => h) rfl ?_ ?_);rotate_left
       ·simp only [Act.put, sA]
        rfl
       (refine pU (i := 19) (N := some 31) (a' := ?_) (mB 32 1048575) rfl rfl HT_.out (by kernel_rfl) (fun _ _ _ h => h) rfl ?_ ?_);rotate_left
       ·simp only [Act.put, sA]
        rfl
       (refine pU (i := 20) (N := some 32) (a' := ?_) (mB 32 2097151) rfl rfl HT_.out (by kernel_rfl) (fun _ _ _ h => h) rfl ?_ ?_);rotate_left
       ·simp only [Act.put, sA]
        rfl
       (refine pU (i := 21) (N := some 33) (a' := ?_) (mB 32 4194303) rfl rfl HT_.out (by kernel_rfl) (fun _ _ _ h => h) rfl ?_ ?_);rotate_left
       ·simp only [Act.put, sA]
        rfl
       (refine pU (i := 22) (N := some 34) (a' := ?_) (mB 32 8388607) rfl rfl HT_.out (by kernel_rfl) (fun _ _ _ h => h) rfl ?_ ?_);rotate_left
       ·simp only [Act.put, sA]
        rfl
       (refine pU (i := 23) (N := some 35) (a' := ?_) (mB 32 16777215) rfl rfl HT_.out (by kernel_rfl) (fun _ _ _ h => h) rfl ?_ ?_);rotate_left
       ·simp only [Act.put, sA]
        rfl
       (refine pU (i := 24) (N := some 36) (a' := ?_) (mB 32 33554431) rfl rfl HT_.out (by kernel_rfl) (fun _ _ _ h => h) rfl ?_ ?_);rotate_left
       ·simp only [Act.put, sA]
        rfl
       (refine pU (i := 25) (N := some 37) (a' := ?_) (mB 32 67108863) rfl rfl HT_.out (by kernel_rfl) (fun _ _ _ h => h) rfl ?_ ?_);rotate_left
       ·simp only [Act.put, sA]
        rfl
       (refine pU (i := 26) (N := some 38) (a' := ?_) (mB 32 134217727) rfl rfl HT_.out (by kernel_rfl) (fun _ _ _ h => h) rfl ?_ ?_);rotate_left
       ·simp only [Act.put, sA]
        rfl
       (refine pU (i := 27) (N := some 39) (a' := ?_) (mB 32 268435455) rfl rfl HT_.out (by kernel_rfl) (fun _ _ _ h => h) rfl ?_ ?_);rotate_left
       ·simp only [Act.put, sA]
        rfl
       (refine pU (i := 28) (N := some 40) (a' := ?_) (mB 32 536870911) rfl rfl HT_.out (by kernel_rfl) (fun _ _ _ h => h) rfl ?_ ?_);rotate_left
       ·simp only [Act.put, sA]
        rfl
       (refine pU (i := 29) (N := some 41) (a' := ?_) (mB 32 1073741823) rfl rfl HT_.out (by kernel_rfl) (fun _ _ _ h => h) rfl ?_ ?_);rotate_left
       ·simp only [Act.put, sA]
        rfl
       (refine pU (i := 30) (N := some 42) (a' := ?_) (mB 32 2147483647) rfl rfl HT_.out (by kernel_rfl) (fun _ _ _ h => h) rfl ?_ ?_);rotate_left
       ·simp only [Act.put, sA]
        rfl
       (refine pI (i := 31) (N := some 43) (v := ?_) (a' := ?_) (mB 32 4294967295) rfl rfl HT_.out (by kernel_rfl) (fun _ _ _ h => h) rfl ?_ ?_ ?_);rotate_left
       ·intro w'
        go_simp;(with_reducible rfl)
       rotate_left
       ·simp only [Act.put, sA]
        rfl
       (refine done_ (done_of HT_.out (by kernel_rfl)) ?_);(try go_wp2);(go_ret);(exact ⟨zq27, zq42⟩)
     ·rw [if_neg c4] at H
      exact absurd H (by simp)
    ·rw [if_neg c3] at H
     exact absurd H (by simp)
   ·rw [if_neg c2] at H
    (have c2b0 : decide (x7_1 < (l0.length : Int)) = false := decide_eq_false c2);clear c2;(obtain rfl := Option.some.inj H);(go_wp2);(go_ret);(exact ⟨zq27, zq45⟩)

end Go.Proofs.YtalmeecdjhelkaaDoor.PFnDates
