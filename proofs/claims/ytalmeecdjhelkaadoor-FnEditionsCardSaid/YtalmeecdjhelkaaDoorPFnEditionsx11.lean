-- Made by a program of this session (gprint.py) out of the kit's print of the translation and texts of my own. SLIM
import Derived.Test.YtalmeecdjhelkaaDoorPFnEditionsx0
import Derived.Test.YtalmeecdjhelkaaDoorPFnEditionsx10
namespace Go.Proofs.YtalmeecdjhelkaaDoor.PFnEditions
open Go.RowKit Go.Proofs.YtalmeecdjhelkaaDoorW.PrintWords Go.Proofs.YtalmeecdjhelkaaDoorW.PrintLast Go.Proofs.YtalmeecdjhelkaaDoorW.PrintMore
set_option maxHeartbeats 64000000
set_option maxRecDepth 100000
attribute [local go_sem] max2_int min2_int max_two min_two max_three min_three max_four min_four   -- for this text's walks alone
set_option linter.unusedVariables false
set_option linter.unusedSimpArgs false

/-! ### spec_NearestEdition: function 48 -/
mutual
def spec_NearestEdition.j0 : Nat → List (S64) → List ByteArray → Int → Bool → Option (Int × Int × Int)
 | 0, _, _, _, _ => none
 | k + 1, x0, x1, x7, x19 => if x19 = true then (spec_NearestEdition.j1 k x0 x1 3) else (spec_NearestEdition.j1 k x0 x1 x7)
def spec_NearestEdition.j1 : Nat → List (S64) → List ByteArray → Int → Option (Int × Int × Int)
 | 0, _, _, _ => none
 | k + 1, x0, x1, x7 => if x7 = 0 then (spec_NearestEdition.l0 k x0 x1 0 1) else (some (0, 0, x7))
def spec_NearestEdition.l0 : Nat → List (S64) → List ByteArray → Int → Int → Option (Int × Int × Int)
 | 0, _, _, _, _ => none
 | k + 1, x0, x1, x8, x9 => if x9 < (x0.length : Int) then (if 0 ≤ x9 then ((spec_l14Differ.f k ((rd_T64 x0 x9).f1) x1).bind fun t352 => (if 0 ≤ x8 then (if x8 < (x0.length : Int) then ((spec_l14Differ.f k ((rd_T64 x0 x8).f1) x1).bind fun t354 => (if t352 < t354 then (spec_NearestEdition.l0 k x0 x1 x9 (wrap64 (x9 + 1))) else (spec_NearestEdition.l0 k x0 x1 x8 (wrap64 (x9 + 1))))) else (none)) else (none))) else (none)) else (if 0 ≤ x8 then (if x8 < (x0.length : Int) then ((spec_l14Differ.f k ((rd_T64 x0 x8).f1) x1).bind fun t350 => (some (x8, t350, 0))) else (none)) else (none))
end
def spec_NearestEdition.f (k : Nat) (l0 : List (S64)) (l1 : List ByteArray) : Option (Int × Int × Int) := (spec_l14Code.f k l0 l1).bind fun t348 => (if t348 = 0 then (spec_NearestEdition.j0 k l0 l1 t348 ((l0.length : Int) == 0)) else (spec_NearestEdition.j0 k l0 l1 t348 false))
theorem spec_NearestEdition.mono_l : ∀ k, (∀ y0 y1 y2 y3, LeO (spec_NearestEdition.j0 k y0 y1 y2 y3) (spec_NearestEdition.j0 (k + 1) y0 y1 y2 y3)) ∧ (∀ y0 y1 y2, LeO (spec_NearestEdition.j1 k y0 y1 y2) (spec_NearestEdition.j1 (k + 1) y0 y1 y2)) ∧ (∀ y0 y1 y2 y3, LeO (spec_NearestEdition.l0 k y0 y1 y2 y3) (spec_NearestEdition.l0 (k + 1) y0 y1 y2 y3))
 | 0 => ⟨fun _ _ _ _ r h => by simp [spec_NearestEdition.j0] at h, fun _ _ _ r h => by simp [spec_NearestEdition.j1] at h, fun _ _ _ _ r h => by simp [spec_NearestEdition.l0] at h⟩
 | k + 1 => by
  (obtain ⟨ih0, ih1, ih2⟩ := spec_NearestEdition.mono_l k);(refine ⟨?_, ?_, ?_⟩)
  ·intro y0 y1 y2 y3
   unfold spec_NearestEdition.j0
   repeat' first | with_reducible (first | exact ih0 _ _ _ _ | exact ih1 _ _ _ | exact ih2 _ _ _ _ | exact spec_l14Code.mono _ _ _ | exact spec_l14Differ.mono _ _ _ | exact LeO.refl _ | exact LeO.none _ | refine LeO.ite ?_ ?_ | refine LeO.bind ?_ (fun _ => ?_)) | exact ih0 _ _ _ _ | exact ih1 _ _ _ | exact ih2 _ _ _ _ | exact spec_l14Code.mono _ _ _ | exact spec_l14Differ.mono _ _ _ | exact LeO.none _ | refine LeO.ite ?_ ?_ | refine LeO.bind ?_ (fun _ => ?_)
  ·intro y0 y1 y2
   unfold spec_NearestEdition.j1
   repeat' first | with_reducible (first | exact ih0 _ _ _ _ | exact ih1 _ _ _ | exact ih2 _ _ _ _ | exact spec_l14Code.mono _ _ _ | exact spec_l14Differ.mono _ _ _ | exact LeO.refl _ | exact LeO.none _ | refine LeO.ite ?_ ?_ | refine LeO.bind ?_ (fun _ => ?_)) | exact ih0 _ _ _ _ | exact ih1 _ _ _ | exact ih2 _ _ _ _ | exact spec_l14Code.mono _ _ _ | exact spec_l14Differ.mono _ _ _ | exact LeO.none _ | refine LeO.ite ?_ ?_ | refine LeO.bind ?_ (fun _ => ?_)
  ·intro y0 y1 y2 y3
   unfold spec_NearestEdition.l0
   repeat' first | with_reducible (first | exact ih0 _ _ _ _ | exact ih1 _ _ _ | exact ih2 _ _ _ _ | exact spec_l14Code.mono _ _ _ | exact spec_l14Differ.mono _ _ _ | exact LeO.refl _ | exact LeO.none _ | refine LeO.ite ?_ ?_ | refine LeO.bind ?_ (fun _ => ?_)) | exact ih0 _ _ _ _ | exact ih1 _ _ _ | exact ih2 _ _ _ _ | exact spec_l14Code.mono _ _ _ | exact spec_l14Differ.mono _ _ _ | exact LeO.none _ | refine LeO.ite ?_ ?_ | refine LeO.bind ?_ (fun _ => ?_)
theorem spec_NearestEdition.mono : ∀ a0 a1 k, LeO (spec_NearestEdition.f k a0 a1) (spec_NearestEdition.f (k + 1) a0 a1) := by
 intro a0 a1 k;(obtain ⟨ih0, ih1, ih2⟩ := spec_NearestEdition.mono_l k);(unfold spec_NearestEdition.f)
 repeat' first | with_reducible (first | exact ih0 _ _ _ _ | exact ih1 _ _ _ | exact ih2 _ _ _ _ | exact spec_l14Code.mono _ _ _ | exact spec_l14Differ.mono _ _ _ | exact LeO.refl _ | exact LeO.none _ | refine LeO.ite ?_ ?_ | refine LeO.bind ?_ (fun _ => ?_)) | exact ih0 _ _ _ _ | exact ih1 _ _ _ | exact ih2 _ _ _ _ | exact spec_l14Code.mono _ _ _ | exact spec_l14Differ.mono _ _ _ | exact LeO.none _ | refine LeO.ite ?_ ?_ | refine LeO.bind ?_ (fun _ => ?_)
def spec_NearestEdition.T10 : Bool × List (List Nat × List Nat) := (true, [([], []), ([], []), ([0, 1], [0, 1]), ([2], [2]), ([3], [3]), ([], []), ([4, 5], [4, 5]), ([], []), ([], []), ([7, 8], [7, 8]), ([9], [9]), ([10], [10]), ([], []), ([11, 12, 6], [11, 12]), ([6, 13], [6, 13])])
def spec_NearestEdition.B10 : List Nat := [0, 0, 3, 7, 15, 0, 63, 0, 0, 384, 896, 1920, 0, 8191, 16383]
theorem spec_NearestEdition.tab10 : rtab .any (opsOf Tryd.f48 10) = spec_NearestEdition.T10 := by kernel_rfl
theorem spec_NearestEdition.bits10 : waitsOk spec_NearestEdition.T10.2 spec_NearestEdition.B10 = true := by kernel_rfl
theorem spec_NearestEdition.calls (k : Nat) (A0 : Option Addr) (c0 : Nat) (l0 : List (S64)) (A1 : Option Addr) (c1 : Nat) (l1 : List ByteArray) (r1 : Int) (r2 : Int) (r3 : Int) (w : World) (hr0 : Kd.C k64 w A0 l0.length l0) (hc0 : l0.length ≤ c0) (hr1 : Kd.C Kd.string w A1 l1.length l1) (hc1 : l1.length ≤ c1) (h : spec_NearestEdition.f k l0 l1 = some (r1, r2, r3)) :
  Calls Tryd.prog 48 #[.slice A0 l0.length c0, .slice A1 l1.length c1] w fun e w' => e = .returned (.tuple #[.int .i64 r1, .int .i64 r2, .int .i64 r3]) ∧ Below w.heap.size w w' := by
 (have HR0 := Aside0.mk hr0);(have HC0 := Aside0.mk hc0);clear hr0 hc0;(have HR1 := Aside0.mk hr1);(have HC1 := Aside0.mk hc1);clear hr1 hc1;(have HB := Aside0.mk (Below.refl w.heap.size w));(have H : ((spec_l14Code.f k l0 l1).bind fun t348 => (if t348 = 0 then (spec_NearestEdition.j0 k l0 l1 t348 ((l0.length : Int) == 0)) else (spec_NearestEdition.j0 k l0 l1 t348 false))) = some (r1, r2, r3) := h);clear h;(replace H := Option.bind_eq_some_iff.mp H);(obtain ⟨t348, A30, H⟩ := H);(replace H : (if t348 = 0 then (spec_NearestEdition.j0 k l0 l1 t348 ((l0.length : Int) == 0)) else (spec_NearestEdition.j0 k l0 l1 t348 false)) = some (r1, r2, r3) := H);(have A3 := Aside0.mk A30);clear A30;(have HC4 := Aside0.mk H);clear H
 go_enter Tryd.func48, Tryd.ntmps48
 (go_upto_region 2 with (first | ((with_reducible refine gate_callee (f := 106) rfl ?_); refine goesL_ (some 12) rfl rfl Tryd.func106 (by kernel_rfl) rfl #[.slice A0 l0.length c0, .slice A1 l1.length c1] rfl zq1 ?_; (with_reducible refine (spec_l14Code.calls k _ _ l0 _ _ l1 t348 _ ?side1 ?side2 ?side3 ?side4 A3.out).mono ?_); (case side1 => exact zq88); (case side2 => exact HC0.out); (case side3 => exact zq89); (case side4 => exact HC1.out); rintro e w5 ⟨rfl, hb⟩; refine ⟨_, rfl, ?_⟩; have n0_ := Aside0.mk (below_step zq55 hb); clear HB; have HB := n0_; clear n0_; (try clear hb); (try clear hb2); (try clear hk); (try clear hi))));((try simp only [Act.put, List.setIfInBounds_toArray, List.set_cons_zero, List.set_cons_succ]))
 go_cut [19] (fun v19 wc => ∃ (kq : Nat) (x19_3 : Bool), v19 = .bool x19_3 ∧ Aside0 (spec_NearestEdition.j0 kq l0 l1 t348 x19_3 = some (r1, r2, r3)) ∧ Aside0 (kq ≤ k) ∧ Aside0 (Below w.heap.size w wc))
 case first =>
  (have H := HC4.out);clear HC4;(by_cases c6 : t348 = 0)
  ·rw [if_pos c6] at H
   (have c6b0 : (t348 == 0) = true := beq_iff_eq.mpr c6);(have c6b1 : (t348 != 0) = false := bne_eq_false_iff_eq.mpr c6);clear c6;((first | rw [c6b0] | (simp only [i64_w, i32_w]; rw [c6b0]) | skip));(have H' := Aside0.mk H);clear H;(go_wp2)
   go_meet
   case rel => exact ⟨_, (((l0.length : Int) == 0)), zq35, H', ⟨zq33⟩, ⟨zq55⟩⟩
  ·rw [if_neg c6] at H
   (have c6b0 : (t348 == 0) = false := beq_eq_false_iff_ne.mpr c6);(have c6b1 : (t348 != 0) = true := bne_iff_ne.mpr c6);((first | rw [c6b0] | (simp only [i64_w, i32_w]; rw [c6b0]) | skip));(have H' := Aside0.mk H);clear H;(go_wp2)
   go_meet
   case rel => exact ⟨_, (false), zq35, H', ⟨zq33⟩, ⟨zq55⟩⟩
 case rest =>
  clear HC4;(try clear c1);(try clear p2);(try clear c4);(try clear c6);(try clear c6b0);(try clear c6b1);(obtain ⟨kq, x19_3, rfl, HA, HJ3, HB⟩ := hcut)
  cases kq with
  | zero => exact absurd HA.out (by simp [spec_NearestEdition.j0])
  | succ kj3 =>
   (have H := HA.out);clear HA;(simp only [spec_NearestEdition.j0] at H);(have HC7 := Aside0.mk H);clear H
   go_upto_if 19 with (fail)
   go_cut [7] (fun v7 wc => ∃ (kq : Nat) (x7_6 : Int), v7 = .int .i64 x7_6 ∧ Aside0 (spec_NearestEdition.j1 kq l0 l1 x7_6 = some (r1, r2, r3)) ∧ Aside0 (kq ≤ kj3) ∧ Aside0 (Below w.heap.size w wc))
   case first =>
    (have H := HC7.out);clear HC7;(by_cases c8 : x19_3 = true)
    ·subst c8
     (have H1 : (spec_NearestEdition.j1 kj3 l0 l1 3) = some (r1, r2, r3) := zq93);clear H;(have H := H1);clear H1;(have H' := Aside0.mk H);clear H;(go_wp2)
     go_meet
     case rel => exact ⟨_, (3), zq35, H', ⟨by have := HJ3.out; first | omega | exact Nat.le_refl _⟩, ⟨zq55⟩⟩
    ·replace c8 := Bool.eq_false_iff.mpr c8
     subst c8;(have H1 : (spec_NearestEdition.j1 kj3 l0 l1 t348) = some (r1, r2, r3) := zq92);clear H;(have H := H1);clear H1;(have H' := Aside0.mk H);clear H;(go_wp2)
     go_meet
     case rel => exact ⟨_, (t348), zq35, H', ⟨by have := HJ3.out; first | omega | exact Nat.le_refl _⟩, ⟨zq55⟩⟩
   case rest =>
    clear HC7;(try clear c1);(try clear p2);(try clear c4);(try clear c6);(try clear c6b0);(try clear c6b1);(try clear c8);(try clear p2);(obtain ⟨kq, x7_6, rfl, HA, HJ6, HB⟩ := hcut)
    cases kq with
    | zero => exact absurd HA.out (by simp [spec_NearestEdition.j1])
    | succ kj6 =>
     (have H := HA.out);clear HA;(simp only [spec_NearestEdition.j1] at H);(by_cases c9 : x7_6 = 0)
     ·rw [if_pos c9] at H
      (have c9b0 : (x7_6 == 0) = true := beq_iff_eq.mpr c9);(have c9b1 : (x7_6 != 0) = false := bne_eq_false_iff_eq.mpr c9);clear c9;(have H' := Aside0.mk H);clear H;(go_wp2)
      go_loopg [8, 9] kj6 (fun kq v8 v9 w' => ∃ (x8_3 : Int) (x9_3 : Int), v8 = .int .i64 x8_3 ∧ v9 = .int .i64 x9_3 ∧ Aside0 (spec_NearestEdition.l0 kq l0 l1 x8_3 x9_3 = some (r1, r2, r3)) ∧ Aside0 (kq ≤ kj6) ∧ Aside0 (Below w.heap.size w w'))
      case atStart => exact ⟨(0), (1), zq35, zq35, H', ⟨Nat.le_refl _⟩, ⟨zq55⟩⟩
      case round =>
       clear H';(try clear c1);(try clear p2);(try clear c4);(try clear c6);(try clear c6b0);(try clear c6b1);(try clear c8);(try clear c9);(try clear c9b0);(try clear c9b1);(try clear p2);(obtain ⟨x8_3, x9_3, rfl, rfl, HA, HK3, HB⟩ := hrel)
       cases gk with
       | zero => exact absurd HA.out (by simp [spec_NearestEdition.l0])
       | succ k3 =>
        (have H := HA.out);clear HA;(simp only [spec_NearestEdition.l0] at H);(by_cases c10 : x9_3 < (l0.length : Int))
        ·rw [if_pos c10] at H
         (have c10b0 : decide (x9_3 < (l0.length : Int)) = true := decide_eq_true c10);clear c10;(by_cases c11 : 0 ≤ x9_3)
         ·rw [if_pos c11] at H
          (have c11b0 : decide (0 ≤ x9_3) = true := decide_eq_true c11);clear c11;(replace H := Option.bind_eq_some_iff.mp H);(obtain ⟨t352, A120, H⟩ := H);(replace H : (if 0 ≤ x8_3 then (if x8_3 < (l0.length : Int) then ((spec_l14Differ.f k3 ((rd_T64 l0 x8_3).f1) l1).bind fun t354 => (if t352 < t354 then (spec_NearestEdition.l0 k3 l0 l1 x9_3 (wrap64 (x9_3 + 1))) else (spec_NearestEdition.l0 k3 l0 l1 x8_3 (wrap64 (x9_3 + 1))))) else (none)) else (none)) = some (r1, r2, r3) := H);(have A12 := Aside0.mk A120);clear A120;(by_cases c13 : 0 ≤ x8_3)
          ·rw [if_pos c13] at H
           (have c13b0 : decide (0 ≤ x8_3) = true := decide_eq_true c13);clear c13;(by_cases c14 : x8_3 < (l0.length : Int))
           ·rw [if_pos c14] at H
            (have c14b0 : decide (x8_3 < (l0.length : Int)) = true := decide_eq_true c14);clear c14;(replace H := Option.bind_eq_some_iff.mp H);(obtain ⟨t354, A150, H⟩ := H);(replace H : (if t352 < t354 then (spec_NearestEdition.l0 k3 l0 l1 x9_3 (wrap64 (x9_3 + 1))) else (spec_NearestEdition.l0 k3 l0 l1 x8_3 (wrap64 (x9_3 + 1)))) = some (r1, r2, r3) := H);(have A15 := Aside0.mk A150);clear A150;(by_cases c16 : t352 < t354)
            ·rw [if_pos c16] at H
             (have c16b0 : decide (t352 < t354) = true := decide_eq_true c16);clear c16;(have H' := Aside0.mk H);clear H;(try go_wp2);(have n0_ := Aside0.mk (below_drew1 HB.out));clear HB;(have HB := n0_);clear n0_;(have p351 : 0 ≤ (x9_3 : Int) := of_decide_eq_true zq26);(have q351 : x9_3 < (l0.length : Int) := of_decide_eq_true zq26);(obtain ⟨ad351, A351_1, c351_1, e351, hx351_0, hx351_1, hl351_1, hi351_1⟩ := at_T64 HR0.out x9_3 p351 q351);(have hw351_1 := hx351_1);(have hw351_0 := hx351_0)
             cases e351
             (replace hx351_0 := (HB.out.cell (World.block_lt_of_cell? w _ hx351_0)).trans hx351_0);(replace hx351_1 := (HB.out.cell (World.block_lt_of_cell? w _ hx351_1)).trans hx351_1);(have HR351_1 := Aside0.mk hi351_1);(have HC351_1 := Aside0.mk hl351_1);clear hi351_1 hl351_1;(replace p351 := eq_true p351);(replace q351 := eq_true q351);(have p353 : 0 ≤ (x8_3 : Int) := of_decide_eq_true zq26);(have q353 : x8_3 < (l0.length : Int) := of_decide_eq_true zq26);(obtain ⟨ad353, A353_1, c353_1, e353, hx353_0, hx353_1, hl353_1, hi353_1⟩ := at_T64 HR0.out x8_3 p353 q353);(have hw353_1 := hx353_1);(have hw353_0 := hx353_0);(obtain rfl : ad351 = ad353 := (by injection e353));(replace hx353_0 := (HB.out.cell (World.block_lt_of_cell? w _ hx353_0)).trans hx353_0);(replace hx353_1 := (HB.out.cell (World.block_lt_of_cell? w _ hx353_1)).trans hx353_1);(have HR353_1 := Aside0.mk hi353_1);(have HC353_1 := Aside0.mk hl353_1);clear hi353_1 hl353_1;(replace p353 := eq_true p353);(replace q353 := eq_true q353);(refine start_ (n := 15) (S := fun w' => w'.cell? (ad351.add ((x9_3).toNat * 2)) = some (.int .i64 ((rd_T64 l0 x9_3).f0)) ∧ w'.cell? ⟨(ad351.add ((x9_3).toNat * 2)).block, (ad351.add ((x9_3).toNat * 2)).off + 1, none⟩ = some (.slice A351_1 ((rd_T64 l0 x9_3).f1).length c351_1) ∧ w'.cell? (ad351.add ((x8_3).toNat * 2)) = some (.int .i64 ((rd_T64 l0 x8_3).f0)) ∧ w'.cell? ⟨(ad351.add ((x8_3).toNat * 2)).block, (ad351.add ((x8_3).toNat * 2)).off + 1, none⟩ = some (.slice A353_1 ((rd_T64 l0 x8_3).f1).length c353_1)) (ds := []) #[false,false,false,false,false,false,false,false,false,false,false,false,false,false,false] (by kernel_rfl) rfl rfl ⟨((HB.out.cell (World.block_lt_of_cell? w _ hw351_0)).trans hw351_0), ((HB.out.cell (World.block_lt_of_cell? w _ hw351_1)).trans hw351_1), ((HB.out.cell (World.block_lt_of_cell? w _ hw353_0)).trans hw353_0), ((HB.out.cell (World.block_lt_of_cell? w _ hw353_1)).trans hw353_1)⟩ (fun hHeld => ?_); refine with_tabW spec_NearestEdition.tab10 spec_NearestEdition.bits10 (fun HT_ HW_ => ?_));(generalize wr.drew = w17 at HB HR351_1 HR353_1 hx351_0 hx351_1 hx353_0 hx353_1 hHeld ⊢);(refine pI (i := 0) (N := some 29) (v := ?_) (a' := ?_) (mB 15 1) rfl rfl HT_.out (by kernel_rfl) (fun _ _ _ h => h) rfl ?_ ?_ ?_);rotate_left
             ·intro w'
              go_simp;(with_reducible rfl)
             rotate_left
             ·simp only [Act.put, sA]
              rfl
             (refine pI (i := 1) (N := some 30) (v := ?_) (a' := ?_) (mB 15 3) rfl rfl HT_.out (by kernel_rfl) (fun _ _ _ h => h) rfl ?_ ?_ ?_);rotate_left
             ·intro w'
              go_simp;(with_reducible rfl)
             rotate_left
             ·simp only [Act.put, sA]
              rfl
             (refine pI (i := 2) (N := some 31) (v := ?_) (a' := ?_) (mB 15 7) rfl rfl HT_.out (by kernel_rfl) (fun _ _ _ h => h) rfl ?_ ?_ ?_);rotate_left
             ·intro w'
              go_simp;(with_reducible rfl)
             rotate_left
             ·simp only [Act.put, sA]
              rfl
             (refine pI (i := 3) (N := some 32) (v := ?_) (a' := ?_) (mB 15 15) rfl rfl HT_.out (by kernel_rfl) (fun _ _ _ h => h) rfl ?_ ?_ ?_);rotate_left
             ·intro w'
              go_simp;(with_reducible rfl)
             rotate_left
             ·simp only [Act.put, sA]
              rfl
             (refine pI (i := 5) (N := some 34) (v := ?_) (a' := ?_) (mB 15 47) rfl rfl HT_.out (by kernel_rfl) (fun _ _ _ h => h) rfl ?_ ?_ ?_);rotate_left
             ·intro w'
              go_simp;(with_reducible rfl)
             rotate_left
             ·simp only [Act.put, sA]
              rfl
             (refine pI (i := 7) (N := some 36) (v := ?_) (a' := ?_) (mB 15 175) rfl rfl HT_.out (by kernel_rfl) (fun _ _ _ h => h) rfl ?_ ?_ ?_);rotate_left
             ·intro w'
              go_simp;(with_reducible rfl)
             rotate_left
             ·simp only [Act.put, sA]
              rfl
             (refine pI (i := 8) (N := some 37) (v := ?_) (a' := ?_) (mB 15 431) rfl rfl HT_.out (by kernel_rfl) (fun _ _ _ h => h) rfl ?_ ?_ ?_);rotate_left
             ·intro w'
              go_simp;(with_reducible rfl)
             rotate_left
             ·simp only [Act.put, sA]
              rfl
             (refine pI (i := 9) (N := some 38) (v := ?_) (a' := ?_) (mB 15 943) rfl rfl HT_.out (by kernel_rfl) (fun _ _ _ h => h) rfl ?_ ?_ ?_);rotate_left
             ·intro w'
              go_simp;(with_reducible rfl)
             rotate_left
             ·simp only [Act.put, sA]
              rfl
             (refine pI (i := 10) (N := some 39) (v := ?_) (a' := ?_) (mB 15 1967) rfl rfl HT_.out (by kernel_rfl) (fun _ _ _ h => h) rfl ?_ ?_ ?_);rotate_left
             ·intro w'
              go_simp;(with_reducible rfl)
             rotate_left
             ·simp only [Act.put, sA]
              rfl
             (refine pI (i := 12) (N := some 41) (v := ?_) (a' := ?_) (mB 15 6063) rfl rfl HT_.out (by kernel_rfl) (fun _ _ _ h => h) rfl ?_ ?_ ?_);rotate_left
             ·intro w'
              go_simp;(with_reducible rfl)
             rotate_left
             ·simp only [Act.put, sA]
              rfl
             (refine tI (i := 4) (N := some 33) (v := ?_) (a' := ?_) (mB 15 6079) rfl rfl HT_.out HW_.out (by kernel_rfl) (fun _ _ _ h => h) rfl ?_ hHeld ?_ ?_);rotate_left
             ·rintro w' ⟨s0, s1, s2, s3⟩
              go_simp;(with_reducible rfl)
             rotate_left
             ·simp only [Act.put, sA]
              rfl
             (refine tI (i := 11) (N := some 40) (v := ?_) (a' := ?_) (mB 15 8127) rfl rfl HT_.out HW_.out (by kernel_rfl) (fun _ _ _ h => h) rfl ?_ hHeld ?_ ?_);rotate_left
             ·rintro w' ⟨s0, s1, s2, s3⟩
              go_simp;(with_reducible rfl)
             rotate_left
             ·simp only [Act.put, sA]
              rfl
             (refine one_ (i := 6) (N := some 35) (mB 15 8191) rfl rfl (one_of HT_.out (by kernel_rfl)) (by decide) (fun K hK => ?_));(refine goes_ Tryd.func107 (by kernel_rfl) rfl #[.slice A351_1 ((rd_T64 l0 x9_3).f1).length c351_1, .slice A1 l1.length c1] (by rfl) rfl rfl zq1 ?_);(with_reducible refine (spec_l14Differ.calls k3 _ _ ((rd_T64 l0 x9_3).f1) _ _ l1 t352 _ ?side1 ?side2 ?side3 ?side4 A12.out).mono ?_);((case side1 => exact zq68));((case side2 => exact HC351_1.out));((case side3 => exact zq64));((case side4 => exact HC1.out));(rintro e w18 ⟨rfl, hb⟩);(refine ⟨_, rfl, ?_⟩);(have n0_ := Aside0.mk (below_step zq55 hb));clear HB;(have HB := n0_);clear n0_;(try clear hb);(try clear hb2);(try clear hk);(try clear hi);(refine hK.out _ _ ⟨((HB.out.cell (World.block_lt_of_cell? w _ hw351_0)).trans hw351_0), ((HB.out.cell (World.block_lt_of_cell? w _ hw351_1)).trans hw351_1), ((HB.out.cell (World.block_lt_of_cell? w _ hw353_0)).trans hw353_0), ((HB.out.cell (World.block_lt_of_cell? w _ hw353_1)).trans hw353_1)⟩ (fun hHeld => ?_));clear hK K;(refine norm_ (a' := ?_) ?_ ?_);rotate_left
             ·show Act.put _ (some 35) _ = _
              (simp only [Act.put, sA]);rfl
             (refine one_ (i := 13) (N := some 42) (mB 15 16383) rfl rfl (one_of HT_.out (by kernel_rfl)) (by decide) (fun K hK => ?_));(refine goes_ Tryd.func107 (by kernel_rfl) rfl #[.slice A353_1 ((rd_T64 l0 x8_3).f1).length c353_1, .slice A1 l1.length c1] (by rfl) rfl rfl zq1 ?_);(with_reducible refine (spec_l14Differ.calls k3 _ _ ((rd_T64 l0 x8_3).f1) _ _ l1 t354 _ ?side1 ?side2 ?side3 ?side4 A15.out).mono ?_);((case side1 => exact zq69));((case side2 => exact HC353_1.out));((case side3 => exact zq64));((case side4 => exact HC1.out));(rintro e w19 ⟨rfl, hb⟩);(refine ⟨_, rfl, ?_⟩);(have n0_ := Aside0.mk (below_step zq55 hb));clear HB;(have HB := n0_);clear n0_;(try clear hb);(try clear hb2);(try clear hk);(try clear hi);(refine hK.out _ _ ⟨((HB.out.cell (World.block_lt_of_cell? w _ hw351_0)).trans hw351_0), ((HB.out.cell (World.block_lt_of_cell? w _ hw351_1)).trans hw351_1), ((HB.out.cell (World.block_lt_of_cell? w _ hw353_0)).trans hw353_0), ((HB.out.cell (World.block_lt_of_cell? w _ hw353_1)).trans hw353_1)⟩ (fun hHeld => ?_));clear hK K;(refine norm_ (a' := ?_) ?_ ?_);rotate_left
             ·show Act.put _ (some 42) _ = _
              (simp only [Act.put, sA]);rfl
             (refine pI (i := 14) (N := some 43) (v := ?_) (a' := ?_) (mB 15 32767) rfl rfl HT_.out (by kernel_rfl) (fun _ _ _ h => h) rfl ?_ ?_ ?_);rotate_left
             ·intro w'
              go_simp;(with_reducible rfl)
             rotate_left
             ·simp only [Act.put, sA]
              rfl
             (refine done_ (done_of HT_.out (by kernel_rfl)) ?_);(try go_wp2);(go_roundg k3)
             case measure => have := HJ3.out; have := HJ6.out; have := HK3.out; omega
             case rel => exact ⟨(x9_3), (wrap64 (x9_3 + 1)), zq35, zq35, H', ⟨by have := HJ3.out; have := HJ6.out; have := HK3.out; omega⟩, ⟨zq55⟩⟩
            ·rw [if_neg c16] at H
             (have c16b0 : decide (t352 < t354) = false := decide_eq_false c16);clear c16;(have H' := Aside0.mk H);clear H;(try go_wp2);(have n0_ := Aside0.mk (below_drew1 HB.out));clear HB;(have HB := n0_);clear n0_;(have p351 : 0 ≤ (x9_3 : Int) := of_decide_eq_true zq26);(have q351 : x9_3 < (l0.length : Int) := of_decide_eq_true zq26);(obtain ⟨ad351, A351_1, c351_1, e351, hx351_0, hx351_1, hl351_1, hi351_1⟩ := at_T64 HR0.out x9_3 p351 q351);(have hw351_1 := hx351_1);(have hw351_0 := hx351_0)
             cases e351
             (replace hx351_0 := (HB.out.cell (World.block_lt_of_cell? w _ hx351_0)).trans hx351_0);(replace hx351_1 := (HB.out.cell (World.block_lt_of_cell? w _ hx351_1)).trans hx351_1);(have HR351_1 := Aside0.mk hi351_1);(have HC351_1 := Aside0.mk hl351_1);clear hi351_1 hl351_1;(replace p351 := eq_true p351);(replace q351 := eq_true q351);(have p353 : 0 ≤ (x8_3 : Int) := of_decide_eq_true zq26);(have q353 : x8_3 < (l0.length : Int) := of_decide_eq_true zq26);(obtain ⟨ad353, A353_1, c353_1, e353, hx353_0, hx353_1, hl353_1, hi353_1⟩ := at_T64 HR0.out x8_3 p353 q353);(have hw353_1 := hx353_1);(have hw353_0 := hx353_0);(obtain rfl : ad351 = ad353 := (by injection e353));(replace hx353_0 := (HB.out.cell (World.block_lt_of_cell? w _ hx353_0)).trans hx353_0);(replace hx353_1 := (HB.out.cell (World.block_lt_of_cell? w _ hx353_1)).trans hx353_1);(have HR353_1 := Aside0.mk hi353_1);(have HC353_1 := Aside0.mk hl353_1);clear hi353_1 hl353_1;(replace p353 := eq_true p353);(replace q353 := eq_true q353);(refine start_ (n := 15) (S := fun w' => w'.cell? (ad351.add ((x9_3).toNat * 2)) = some (.int .i64 ((rd_T64 l0 x9_3).f0)) ∧ w'.cell? ⟨(ad351.add ((x9_3).toNat * 2)).block, (ad351.add ((x9_3).toNat * 2)).off + 1, none⟩ = some (.slice A351_1 ((rd_T64 l0 x9_3).f1).length c351_1) ∧ w'.cell? (ad351.add ((x8_3).toNat * 2)) = some (.int .i64 ((rd_T64 l0 x8_3).f0)) ∧ w'.cell? ⟨(ad351.add ((x8_3).toNat * 2)).block, (ad351.add ((x8_3).toNat * 2)).off + 1, none⟩ = some (.slice A353_1 ((rd_T64 l0 x8_3).f1).length c353_1)) (ds := []) #[false,false,false,false,false,false,false,false,false,false,false,false,false,false,false] (by kernel_rfl) rfl rfl ⟨((HB.out.cell (World.block_lt_of_cell? w _ hw351_0)).trans hw351_0), ((HB.out.cell (World.block_lt_of_cell? w _ hw351_1)).trans hw351_1), ((HB.out.cell (World.block_lt_of_cell? w _ hw353_0)).trans hw353_0), ((HB.out.cell (World.block_lt_of_cell? w _ hw353_1)).trans hw353_1)⟩ (fun hHeld => ?_); refine with_tabW spec_NearestEdition.tab10 spec_NearestEdition.bits10 (fun HT_ HW_ => ?_));(generalize wr.drew = w20 at HB HR351_1 HR353_1 hx351_0 hx351_1 hx353_0 hx353_1 hHeld ⊢);(refine pI (i := 0) (N := some 29) (v := ?_) (a' := ?_) (mB 15 1) rfl rfl HT_.out (by kernel_rfl) (fun _ _ _ h => h) rfl ?_ ?_ ?_);rotate_left
             ·intro w'
              go_simp;(with_reducible rfl)
             rotate_left
             ·simp only [Act.put, sA]
              rfl
             (refine pI (i := 1) (N := some 30) (v := ?_) (a' := ?_) (mB 15 3) rfl rfl HT_.out (by kernel_rfl) (fun _ _ _ h => h) rfl ?_ ?_ ?_);rotate_left
             ·intro w'
              go_simp;(with_reducible rfl)
             rotate_left
             ·simp only [Act.put, sA]
              rfl
             (refine pI (i := 2) (N := some 31) (v := ?_) (a' := ?_) (mB 15 7) rfl rfl HT_.out (by kernel_rfl) (fun _ _ _ h => h) rfl ?_ ?_ ?_);rotate_left
             ·intro w'
              go_simp;(with_reducible rfl)
             rotate_left
             ·simp only [Act.put, sA]
              rfl
             (refine pI (i := 3) (N := some 32) (v := ?_) (a' := ?_) (mB 15 15) rfl rfl HT_.out (by kernel_rfl) (fun _ _ _ h => h) rfl ?_ ?_ ?_);rotate_left
             ·intro w'
              go_simp;(with_reducible rfl)
             rotate_left
             ·simp only [Act.put, sA]
              rfl
             (refine pI (i := 5) (N := some 34) (v := ?_) (a' := ?_) (mB 15 47) rfl rfl HT_.out (by kernel_rfl) (fun _ _ _ h => h) rfl ?_ ?_ ?_);rotate_left
             ·intro w'
              go_simp;(with_reducible rfl)
             rotate_left
             ·simp only [Act.put, sA]
              rfl
             (refine pI (i := 7) (N := some 36) (v := ?_) (a' := ?_) (mB 15 175) rfl rfl HT_.out (by kernel_rfl) (fun _ _ _ h => h) rfl ?_ ?_ ?_);rotate_left
             ·intro w'
              go_simp;(with_reducible rfl)
             rotate_left
             ·simp only [Act.put, sA]
              rfl
             (refine pI (i := 8) (N := some 37) (v := ?_) (a' := ?_) (mB 15 431) rfl rfl HT_.out (by kernel_rfl) (fun _ _ _ h => h) rfl ?_ ?_ ?_);rotate_left
             ·intro w'
              go_simp;(with_reducible rfl)
             rotate_left
             ·simp only [Act.put, sA]
              rfl
             (refine pI (i := 9) (N := some 38) (v := ?_) (a' := ?_) (mB 15 943) rfl rfl HT_.out (by kernel_rfl) (fun _ _ _ h => h) rfl ?_ ?_ ?_);rotate_left
             ·intro w'
              go_simp;(with_reducible rfl)
             rotate_left
             ·simp only [Act.put, sA]
              rfl
             (refine pI (i := 10) (N := some 39) (v := ?_) (a' := ?_) (mB 15 1967) rfl rfl HT_.out (by kernel_rfl) (fun _ _ _ h => h) rfl ?_ ?_ ?_);rotate_left
             ·intro w'
              go_simp;(with_reducible rfl)
             rotate_left
             ·simp only [Act.put, sA]
              rfl
             (refine pI (i := 12) (N := some 41) (v := ?_) (a' := ?_) (mB 15 6063) rfl rfl HT_.out (by kernel_rfl) (fun _ _ _ h => h) rfl ?_ ?_ ?_);rotate_left
             ·intro w'
              go_simp;(with_reducible rfl)
             rotate_left
             ·simp only [Act.put, sA]
              rfl
             (refine tI (i := 4) (N := some 33) (v := ?_) (a' := ?_) (mB 15 6079) rfl rfl HT_.out HW_.out (by kernel_rfl) (fun _ _ _ h => h) rfl ?_ hHeld ?_ ?_);rotate_left
             ·rintro w' ⟨s0, s1, s2, s3⟩
              go_simp;(with_reducible rfl)
             rotate_left
             ·simp only [Act.put, sA]
              rfl
             (refine tI (i := 11) (N := some 40) (v := ?_) (a' := ?_) (mB 15 8127) rfl rfl HT_.out HW_.out (by kernel_rfl) (fun _ _ _ h => h) rfl ?_ hHeld ?_ ?_);rotate_left
             ·rintro w' ⟨s0, s1, s2, s3⟩
              go_simp;(with_reducible rfl)
             rotate_left
             ·simp only [Act.put, sA]
              rfl
             (refine one_ (i := 6) (N := some 35) (mB 15 8191) rfl rfl (one_of HT_.out (by kernel_rfl)) (by decide) (fun K hK => ?_));(refine goes_ Tryd.func107 (by kernel_rfl) rfl #[.slice A351_1 ((rd_T64 l0 x9_3).f1).length c351_1, .slice A1 l1.length c1] (by rfl) rfl rfl zq1 ?_);(with_reducible refine (spec_l14Differ.calls k3 _ _ ((rd_T64 l0 x9_3).f1) _ _ l1 t352 _ ?side1 ?side2 ?side3 ?side4 A12.out).mono ?_);((case side1 => exact zq68));((case side2 => exact HC351_1.out));((case side3 => exact zq64));((case side4 => exact HC1.out));(rintro e w21 ⟨rfl, hb⟩);(refine ⟨_, rfl, ?_⟩);(have n0_ := Aside0.mk (below_step zq55 hb));clear HB;(have HB := n0_);clear n0_;(try clear hb);(try clear hb2);(try clear hk);(try clear hi);(refine hK.out _ _ ⟨((HB.out.cell (World.block_lt_of_cell? w _ hw351_0)).trans hw351_0), ((HB.out.cell (World.block_lt_of_cell? w _ hw351_1)).trans hw351_1), ((HB.out.cell (World.block_lt_of_cell? w _ hw353_0)).trans hw353_0), ((HB.out.cell (World.block_lt_of_cell? w _ hw353_1)).trans hw353_1)⟩ (fun hHeld => ?_));clear hK K;(refine norm_ (a' := ?_) ?_ ?_);rotate_left
             ·show Act.put _ (some 35) _ = _
              (simp only [Act.put, sA]);rfl
             (refine one_ (i := 13) (N := some 42) (mB 15 16383) rfl rfl (one_of HT_.out (by kernel_rfl)) (by decide) (fun K hK => ?_));(refine goes_ Tryd.func107 (by kernel_rfl) rfl #[.slice A353_1 ((rd_T64 l0 x8_3).f1).length c353_1, .slice A1 l1.length c1] (by rfl) rfl rfl zq1 ?_);(with_reducible refine (spec_l14Differ.calls k3 _ _ ((rd_T64 l0 x8_3).f1) _ _ l1 t354 _ ?side1 ?side2 ?side3 ?side4 A15.out).mono ?_);((case side1 => exact zq69));((case side2 => exact HC353_1.out));((case side3 => exact zq64));((case side4 => exact HC1.out));(rintro e w22 ⟨rfl, hb⟩);(refine ⟨_, rfl, ?_⟩);(have n0_ := Aside0.mk (below_step zq55 hb));clear HB;(have HB := n0_);clear n0_;(try clear hb);(try clear hb2);(try clear hk);(try clear hi);(refine hK.out _ _ ⟨((HB.out.cell (World.block_lt_of_cell? w _ hw351_0)).trans hw351_0), ((HB.out.cell (World.block_lt_of_cell? w _ hw351_1)).trans hw351_1), ((HB.out.cell (World.block_lt_of_cell? w _ hw353_0)).trans hw353_0), ((HB.out.cell (World.block_lt_of_cell? w _ hw353_1)).trans hw353_1)⟩ (fun hHeld => ?_));clear hK K;(refine norm_ (a' := ?_) ?_ ?_);rotate_left
             ·show Act.put _ (some 42) _ = _
              (simp only [Act.put, sA]);rfl
             (refine pI (i := 14) (N := some 43) (v := ?_) (a' := ?_) (mB 15 32767) rfl rfl HT_.out (by kernel_rfl) (fun _ _ _ h => h) rfl ?_ ?_ ?_);rotate_left
             ·intro w'
              go_simp;(with_reducible rfl)
             rotate_left
             ·simp only [Act.put, sA]
              rfl
             (refine done_ (done_of HT_.out (by kernel_rfl)) ?_);(try go_wp2);(go_roundg k3)
             case measure => have := HJ3.out; have := HJ6.out; have := HK3.out; omega
             case rel => exact ⟨(x8_3), (wrap64 (x9_3 + 1)), zq35, zq35, H', ⟨by have := HJ3.out; have := HJ6.out; have := HK3.out; omega⟩, ⟨zq55⟩⟩
           ·rw [if_neg c14] at H
            exact absurd H (by simp)
          ·rw [if_neg c13] at H
           exact absurd H (by simp)
         ·rw [if_neg c11] at H
          exact absurd H (by simp)
        ·rw [if_neg c10] at H
         (have c10b0 : decide (x9_3 < (l0.length : Int)) = false := decide_eq_false c10);clear c10;(by_cases c23 : 0 ≤ x8_3)
         ·rw [if_pos c23] at H
          (have c23b0 : decide (0 ≤ x8_3) = true := decide_eq_true c23);clear c23;(by_cases c24 : x8_3 < (l0.length : Int))
          ·rw [if_pos c24] at H
           (have c24b0 : decide (x8_3 < (l0.length : Int)) = true := decide_eq_true c24);clear c24;(replace H := Option.bind_eq_some_iff.mp H);(obtain ⟨t350, A250, H⟩ := H);(replace H : (some (x8_3, t350, 0)) = some (r1, r2, r3) := H);(have A25 := Aside0.mk A250);clear A250;(simp only [Option.some.injEq, Prod.mk.injEq] at H);(obtain ⟨rfl, rfl, rfl⟩ := H);(have p349 : 0 ≤ (x8_3 : Int) := of_decide_eq_true zq26);(have q349 : x8_3 < (l0.length : Int) := of_decide_eq_true zq26);(obtain ⟨ad349, A349_1, c349_1, e349, hx349_0, hx349_1, hl349_1, hi349_1⟩ := at_T64 HR0.out x8_3 p349 q349)
           cases e349
           (replace hx349_0 := (HB.out.cell (World.block_lt_of_cell? w _ hx349_0)).trans hx349_0);(replace hx349_1 := (HB.out.cell (World.block_lt_of_cell? w _ hx349_1)).trans hx349_1);(have HR349_1 := Aside0.mk hi349_1);(have HC349_1 := Aside0.mk hl349_1);clear hi349_1 hl349_1;(replace p349 := eq_true p349);(replace q349 := eq_true q349);(go_wp2_with (first | ((with_reducible refine gate_callee (f := 107) rfl ?_); refine goesL_ (some 52) rfl rfl Tryd.func107 (by kernel_rfl) rfl #[.slice A349_1 ((rd_T64 l0 x8_3).f1).length c349_1, .slice A1 l1.length c1] rfl zq1 ?_; (with_reducible refine (spec_l14Differ.calls k3 _ _ ((rd_T64 l0 x8_3).f1) _ _ l1 t350 _ ?side1 ?side2 ?side3 ?side4 A25.out).mono ?_); (case side1 => exact by repeat (first | exact (Kd.C_below HR349_1.out HB.out) | (with_reducible refine Kd.C_alloc ?_ _) | (with_reducible refine Kd.C_drewN ?_ _) | (with_reducible refine Kd.C_drew ?_))); (case side2 => exact HC349_1.out); (case side3 => exact zq64); (case side4 => exact HC1.out); rintro e w26 ⟨rfl, hb⟩; refine ⟨_, rfl, ?_⟩; have n0_ := Aside0.mk (below_step zq55 hb); clear HB; have HB := n0_; clear n0_; (try clear hb); (try clear hb2); (try clear hk); (try clear hi))));(go_ret3);(exact ⟨zq34, zq55⟩)
          ·rw [if_neg c24] at H
           exact absurd H (by simp)
         ·rw [if_neg c23] at H
          exact absurd H (by simp)
     ·rw [if_neg c9] at H
      (have c9b0 : (x7_6 == 0) = false := beq_eq_false_iff_ne.mpr c9);(have c9b1 : (x7_6 != 0) = true := bne_iff_ne.mpr c9);(simp only [Option.some.injEq, Prod.mk.injEq] at H);(obtain ⟨rfl, rfl, rfl⟩ := H);(go_wp2);(go_ret3);(exact ⟨zq34, zq55⟩)

/-! ### slices_Equal_string_string: function 110 -/
def slices_Equal_string_string.l0 : Nat → List ByteArray → List ByteArray → Int → Int → Option (Bool)
 | 0, _, _, _, _ => none
 | k + 1, x0, x1, x12, x13 => if x13 < x12 then (if 0 ≤ x13 then (if x13 < (x0.length : Int) then (if x13 < (x1.length : Int) then (if (rdOf ByteArray.empty x0 x13).toList = (rdOf ByteArray.empty x1 x13).toList then (slices_Equal_string_string.l0 k x0 x1 x12 (wrap64 (x13 + 1))) else (some false)) else (none)) else (none)) else (none)) else (some true)
def slices_Equal_string_string.f (k : Nat) (l0 : List ByteArray) (l1 : List ByteArray) : Option (Bool) := if (l0.length : Int) = (l1.length : Int) then (slices_Equal_string_string.l0 k l0 l1 (l0.length : Int) 0) else (some false)
theorem slices_Equal_string_string.mono_l : ∀ k, (∀ y0 y1 y2 y3, LeO (slices_Equal_string_string.l0 k y0 y1 y2 y3) (slices_Equal_string_string.l0 (k + 1) y0 y1 y2 y3))
 | 0 => fun _ _ _ _ r h => by simp [slices_Equal_string_string.l0] at h
 | k + 1 => by
  have ih0 := slices_Equal_string_string.mono_l k
  ·intro y0 y1 y2 y3
   unfold slices_Equal_string_string.l0
   repeat' first | with_reducible (first | exact ih0 _ _ _ _ | exact LeO.refl _ | exact LeO.none _ | refine LeO.ite ?_ ?_ | refine LeO.bind ?_ (fun _ => ?_)) | exact ih0 _ _ _ _ | exact LeO.none _ | refine LeO.ite ?_ ?_ | refine LeO.bind ?_ (fun _ => ?_)
theorem slices_Equal_string_string.mono : ∀ a0 a1 k, LeO (slices_Equal_string_string.f k a0 a1) (slices_Equal_string_string.f (k + 1) a0 a1) := by
 intro a0 a1 k;(have ih0 := slices_Equal_string_string.mono_l k);(unfold slices_Equal_string_string.f)
 repeat' first | with_reducible (first | exact ih0 _ _ _ _ | exact LeO.refl _ | exact LeO.none _ | refine LeO.ite ?_ ?_ | refine LeO.bind ?_ (fun _ => ?_)) | exact ih0 _ _ _ _ | exact LeO.none _ | refine LeO.ite ?_ ?_ | refine LeO.bind ?_ (fun _ => ?_)
theorem slices_Equal_string_string.calls (k : Nat) (A0 : Option Addr) (c0 : Nat) (l0 : List ByteArray) (A1 : Option Addr) (c1 : Nat) (l1 : List ByteArray) (r : Bool) (w : World) (hr0 : Kd.C Kd.string w A0 l0.length l0) (hc0 : l0.length ≤ c0) (hr1 : Kd.C Kd.string w A1 l1.length l1) (hc1 : l1.length ≤ c1) (h : slices_Equal_string_string.f k l0 l1 = some r) :
  Calls Tryd.prog 110 #[.slice A0 l0.length c0, .slice A1 l1.length c1] w fun e w' => e = .returned (.bool r) ∧ Drawn0 w w' := by
 (have HR0 := Aside0.mk hr0);(have HC0 := Aside0.mk hc0);clear hr0 hc0;(have HR1 := Aside0.mk hr1);(have HC1 := Aside0.mk hc1);clear hr1 hc1;(have H : (if (l0.length : Int) = (l1.length : Int) then (slices_Equal_string_string.l0 k l0 l1 (l0.length : Int) 0) else (some false)) = some r := h);clear h;(by_cases c3 : (l0.length : Int) = (l1.length : Int))
 ·rw [if_pos c3] at H
  (have c3b0 : ((l0.length : Int) == (l1.length : Int)) = true := beq_iff_eq.mpr c3);(have c3b1 : ((l0.length : Int) != (l1.length : Int)) = false := bne_eq_false_iff_eq.mpr c3);(have c3b2 : (l0.length == l1.length) = true := zq36);clear c3;(have H' := Aside0.mk H);clear H
  go_enter Tryd.func110, Tryd.ntmps110
  (go_wp2);(repeat (go_quiet (fail); try go_wp2))
  go_loopg [13] k (fun kq v13 w' => ∃ (x13_1 : Int), v13 = .int .i64 x13_1 ∧ Aside0 (slices_Equal_string_string.l0 kq l0 l1 (l0.length : Int) x13_1 = some r) ∧ Aside0 (kq ≤ k) ∧ Drawn0 w w')
  case atStart => exact ⟨(0), zq35, H', ⟨Nat.le_refl _⟩, zq87⟩
  case round =>
   clear H';(try clear c1);(try clear p2);(try clear c3);(try clear c3b0);(try clear c3b1);(try clear c3b2);(obtain ⟨x13_1, rfl, HA, HK1, ⟨m1, rfl⟩⟩ := hrel)
   cases gk with
   | zero => exact absurd HA.out (by simp [slices_Equal_string_string.l0])
   | succ k1 =>
    (have H := HA.out);clear HA;(simp only [slices_Equal_string_string.l0] at H);(by_cases c4 : x13_1 < (l0.length : Int))
    ·rw [if_pos c4] at H
     (have c4b0 : decide (x13_1 < (l0.length : Int)) = true := decide_eq_true c4);clear c4;(by_cases c5 : 0 ≤ x13_1)
     ·rw [if_pos c5] at H
      (have c5b0 : decide (0 ≤ x13_1) = true := decide_eq_true c5);clear c5;(by_cases c6 : x13_1 < (l0.length : Int))
      ·rw [if_pos c6] at H
       (have c6b0 : decide (x13_1 < (l0.length : Int)) = true := decide_eq_true c6);clear c6;(by_cases c7 : x13_1 < (l1.length : Int))
       ·rw [if_pos c7] at H
        (have c7b0 : decide (x13_1 < (l1.length : Int)) = true := decide_eq_true c7);clear c7;(by_cases c8 : (rdOf ByteArray.empty l0 x13_1).toList = (rdOf ByteArray.empty l1 x13_1).toList)
        ·rw [if_pos c8] at H
         (have c8b0 : ((rdOf ByteArray.empty l0 x13_1).toList == (rdOf ByteArray.empty l1 x13_1).toList) = true := beq_iff_eq.mpr c8);(have c8b1 : ((rdOf ByteArray.empty l0 x13_1).toList != (rdOf ByteArray.empty l1 x13_1).toList) = false := bne_eq_false_iff_eq.mpr c8);clear c8;(have H' := Aside0.mk H);clear H;(have p355 : 0 ≤ (x13_1 : Int) := of_decide_eq_true zq26);(have q355 : x13_1 < (l0.length : Int) := of_decide_eq_true zq26);(obtain ⟨ad355, e355, hx355_0⟩ := Kd.at_string HR0.out x13_1 p355 q355)
         cases e355
         (replace p355 := eq_true p355);(replace q355 := eq_true q355);(have p356 : 0 ≤ (x13_1 : Int) := of_decide_eq_true zq26);(have q356 : x13_1 < (l1.length : Int) := of_decide_eq_true zq26);(obtain ⟨ad356, e356, hx356_0⟩ := Kd.at_string HR1.out x13_1 p356 q356)
         cases e356
         (replace p356 := eq_true p356);(replace q356 := eq_true q356);(go_wp2);(repeat (go_quiet (fail); try go_wp2));(go_roundg k1)
         case measure => have := HK1.out; omega
         case rel => exact ⟨(wrap64 (x13_1 + 1)), zq35, H', ⟨zq41⟩, zq87⟩
        ·rw [if_neg c8] at H
         (have c8b0 : ((rdOf ByteArray.empty l0 x13_1).toList == (rdOf ByteArray.empty l1 x13_1).toList) = false := beq_eq_false_iff_ne.mpr c8);(have c8b1 : ((rdOf ByteArray.empty l0 x13_1).toList != (rdOf ByteArray.empty l1 x13_1).toList) = true := bne_iff_ne.mpr c8);(obtain rfl := Option.some.inj H);(have p355 : 0 ≤ (x13_1 : Int) := of_decide_eq_true zq26);(have q355 : x13_1 < (l0.length : Int) := of_decide_eq_true zq26);(obtain ⟨ad355, e355, hx355_0⟩ := Kd.at_string HR0.out x13_1 p355 q355)
         cases e355
         (replace p355 := eq_true p355);(replace q355 := eq_true q355);(have p356 : 0 ≤ (x13_1 : Int) := of_decide_eq_true zq26);(have q356 : x13_1 < (l1.length : Int) := of_decide_eq_true zq26);(obtain ⟨ad356, e356, hx356_0⟩ := Kd.at_string HR1.out x13_1 p356 q356)
         cases e356
         (replace p356 := eq_true p356);(replace q356 := eq_true q356);(go_wp2);(repeat (go_quiet (fail); try go_wp2));(go_ret);(exact ⟨zq35, zq87⟩)
       ·rw [if_neg c7] at H
        exact absurd H (by simp)
      ·rw [if_neg c6] at H
       exact absurd H (by simp)
     ·rw [if_neg c5] at H
      exact absurd H (by simp)
    ·rw [if_neg c4] at H
     (have c4b0 : decide (x13_1 < (l0.length : Int)) = false := decide_eq_false c4);clear c4;(obtain rfl := Option.some.inj H);(go_wp2);(repeat (go_quiet (fail); try go_wp2));(go_ret);(exact ⟨zq35, zq87⟩)
 ·rw [if_neg c3] at H
  (have c3b0 : ((l0.length : Int) == (l1.length : Int)) = false := beq_eq_false_iff_ne.mpr c3);(have c3b1 : ((l0.length : Int) != (l1.length : Int)) = true := bne_iff_ne.mpr c3);(have c3b2 : (l0.length == l1.length) = false := zq36);(obtain rfl := Option.some.inj H)
  go_enter Tryd.func110, Tryd.ntmps110
  (go_wp2);(repeat (go_quiet (fail); try go_wp2));(go_ret);(exact ⟨zq35, zq87⟩)

end Go.Proofs.YtalmeecdjhelkaaDoor.PFnEditions
