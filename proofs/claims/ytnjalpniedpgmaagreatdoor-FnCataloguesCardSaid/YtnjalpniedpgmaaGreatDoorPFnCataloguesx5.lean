-- Made by a program of this session (gprint.py) out of the kit's print of the translation and texts of my own. SLIM
import Derived.Test.YtnjalpniedpgmaaGreatDoorPFnCataloguesx0
import Derived.Test.YtnjalpniedpgmaaGreatDoorPFnCataloguesx4
namespace Go.Proofs.YtnjalpniedpgmaaGreatDoor.PFnCatalogues
open Go.RowKit Go.Proofs.YtnjalpniedpgmaaGreatDoorW.PrintWords Go.Proofs.YtnjalpniedpgmaaGreatDoorW.PrintLast Go.Proofs.YtnjalpniedpgmaaGreatDoorW.PrintMore
set_option maxHeartbeats 64000000
set_option maxRecDepth 100000
attribute [local go_sem] max2_int min2_int max_two min_two max_three min_three max_four min_four   -- for this text's walks alone
set_option linter.unusedVariables false
set_option linter.unusedSimpArgs false

/-! ### spec_l16One: function 41 -/
-- given by hand
def spec_l16One.f (k : Nat) (f0 : ByteArray) (f1 : Int) (f2 : Int) (f3 : Int) : Option Bool := (spec_IsName.f k f0).bind fun t => (if t = true then ((spec_l00In.f f1 1 6).bind fun t => (if t = true then ((spec_l02Ok.f f2 f3).bind fun t => some t) else (some false))) else (some false))
theorem spec_l16One.callsP (a : Addr) (k : Nat) (f0 : ByteArray) (f1 : Int) (f2 : Int) (f3 : Int) (r : Bool) (w : World) (hx0 : w.cell? a = some (.string f0)) (hx1 : w.cell? ⟨a.block, a.off + 1, none⟩ = some (.int .i64 f1)) (hx2 : w.cell? ⟨a.block, a.off + 2, none⟩ = some (.int .i64 f2)) (hx3 : w.cell? ⟨a.block, a.off + 3, none⟩ = some (.int .i64 f3)) (h : spec_l16One.f k f0 f1 f2 f3 = some r) :
  Calls Tryz.prog 41 #[.pointer (some a)] w fun e w' => e = .returned (.bool r) ∧ Below w.heap.size w w' := by
 (have hx3b : w.cell? ⟨a.block, a.off + 2 + 1, none⟩ = some (.int .i64 f3) := hx3);(have H := h);clear h;(unfold spec_l16One.f at H);(obtain ⟨t0, B0, H⟩ := Option.bind_eq_some_iff.1 H);(have A0 := Aside0.mk B0);clear B0
 cases t0 with
 | false =>
  (obtain rfl := Option.some.inj (show some false = some r from H));clear H
  go_enter Tryz.func41, Tryz.ntmps41
  (go_wp2_with (first | (go_at_call 61; (with_reducible refine (spec_IsName.calls k f0 false _ A0.out).mono ?_); rintro e w' ⟨rfl, ⟨nd, rfl⟩⟩)));(go_ret);(exact ⟨rfl, Drawn0.below zq87⟩)
 | true =>
  (replace H : ((spec_l00In.f f1 1 6).bind fun t => (if t = true then ((spec_l02Ok.f f2 f3).bind fun t => some t) else (some false))) = some r := H);(obtain ⟨t1, B1, H⟩ := Option.bind_eq_some_iff.1 H);(have A1 := Aside0.mk B1);clear B1
  cases t1 with
  | false =>
   (obtain rfl := Option.some.inj (show some false = some r from H));clear H
   go_enter Tryz.func41, Tryz.ntmps41
   (go_wp2_with (first | (go_at_call 61; (with_reducible refine (spec_IsName.calls k f0 true _ A0.out).mono ?_); rintro e w' ⟨rfl, ⟨nd, rfl⟩⟩) | (go_at_call 33; (with_reducible refine (spec_l00In.calls f1 1 6 false _ A1.out).mono ?_); rintro e w' ⟨rfl, ⟨nd, rfl⟩⟩)));(go_ret);(exact ⟨rfl, Drawn0.below zq87⟩)
  | true =>
   (replace H : ((spec_l02Ok.f f2 f3).bind fun t => some t) = some r := H);(obtain ⟨t2, B2, H⟩ := Option.bind_eq_some_iff.1 H);(have A2 := Aside0.mk B2);clear B2;(obtain rfl := Option.some.inj H)
   go_enter Tryz.func41, Tryz.ntmps41
   (go_wp2_with (first | (go_at_call 61; (with_reducible refine (spec_IsName.calls k f0 true _ A0.out).mono ?_); rintro e w' ⟨rfl, ⟨nd, rfl⟩⟩) | (go_at_call 33; (with_reducible refine (spec_l00In.calls f1 1 6 true _ A1.out).mono ?_); rintro e w' ⟨rfl, ⟨nd, rfl⟩⟩) | (go_at_call 62; (with_reducible refine (spec_l02Ok.calls f2 f3 t2 _ A2.out).mono ?_); rintro e w' ⟨rfl, hb_⟩)));(go_ret);(exact ⟨rfl, below_step (by repeat (first | exact Below.refl _ _ | apply pw_below_drewN | apply below_drew1 | apply below_alloc)) hb_⟩)
theorem spec_l16One.mono : ∀ f0 f1 f2 f3 k, LeO (spec_l16One.f k f0 f1 f2 f3) (spec_l16One.f (k + 1) f0 f1 f2 f3) := by
 intro f0 f1 f2 f3 k;(unfold spec_l16One.f)
 repeat' first
 | (with_reducible exact LeO.refl _)
 | exact spec_IsName.mono _ _
 | (with_reducible refine LeO.ite ?_ ?_)
 | (with_reducible refine LeO.bind ?_ (fun _ => ?_))
 | exact LeO.refl _
 | refine LeO.ite ?_ ?_
 | refine LeO.bind ?_ (fun _ => ?_)

/-! ### spec_l16Ok: function 32 -/
mutual
def spec_l16Ok.l0 : Nat → List (S40) → Int → Option (Bool)
 | 0, _, _ => none
 | k + 1, x0, x3 => if x3 < (x0.length : Int) then (if 0 ≤ x3 then ((spec_l16One.f k ((rd_T40 x0 x3).f0) ((rd_T40 x0 x3).f1) ((rd_T40 x0 x3).f2.f0) ((rd_T40 x0 x3).f2.f1)).bind fun t289 => (if t289 = true then (spec_l16Ok.l1 k x0 x3 0) else (some false))) else (none)) else (some (decide ((x0.length : Int) ≤ 30)))
def spec_l16Ok.l1 : Nat → List (S40) → Int → Int → Option (Bool)
 | 0, _, _, _ => none
 | k + 1, x0, x3, x4 => if x4 < x3 then (if 0 ≤ x4 then (if x4 < (x0.length : Int) then (if 0 ≤ x3 then (if x3 < (x0.length : Int) then (if ((rd_T40 x0 x4).f0).toList = ((rd_T40 x0 x3).f0).toList then (some false) else (spec_l16Ok.l1 k x0 x3 (wrap64 (x4 + 1)))) else (none)) else (none)) else (none)) else (none)) else (spec_l16Ok.l0 k x0 (wrap64 (x3 + 1)))
end
def spec_l16Ok.f (k : Nat) (l0 : List (S40)) : Option (Bool) := spec_l16Ok.l0 k l0 0
theorem spec_l16Ok.mono_l : ∀ k, (∀ y0 y1, LeO (spec_l16Ok.l0 k y0 y1) (spec_l16Ok.l0 (k + 1) y0 y1)) ∧ (∀ y0 y1 y2, LeO (spec_l16Ok.l1 k y0 y1 y2) (spec_l16Ok.l1 (k + 1) y0 y1 y2))
 | 0 => ⟨fun _ _ r h => by simp [spec_l16Ok.l0] at h, fun _ _ _ r h => by simp [spec_l16Ok.l1] at h⟩
 | k + 1 => by
  (obtain ⟨ih0, ih1⟩ := spec_l16Ok.mono_l k);(refine ⟨?_, ?_⟩)
  ·intro y0 y1
   unfold spec_l16Ok.l0
   repeat' first | with_reducible (first | exact ih0 _ _ | exact ih1 _ _ _ | exact spec_l16One.mono _ _ _ _ _ | exact LeO.refl _ | exact LeO.none _ | refine LeO.ite ?_ ?_ | refine LeO.bind ?_ (fun _ => ?_)) | exact ih0 _ _ | exact ih1 _ _ _ | exact spec_l16One.mono _ _ _ _ _ | exact LeO.none _ | refine LeO.ite ?_ ?_ | refine LeO.bind ?_ (fun _ => ?_)
  ·intro y0 y1 y2
   unfold spec_l16Ok.l1
   repeat' first | with_reducible (first | exact ih0 _ _ | exact ih1 _ _ _ | exact spec_l16One.mono _ _ _ _ _ | exact LeO.refl _ | exact LeO.none _ | refine LeO.ite ?_ ?_ | refine LeO.bind ?_ (fun _ => ?_)) | exact ih0 _ _ | exact ih1 _ _ _ | exact spec_l16One.mono _ _ _ _ _ | exact LeO.none _ | refine LeO.ite ?_ ?_ | refine LeO.bind ?_ (fun _ => ?_)
theorem spec_l16Ok.mono : ∀ a0 k, LeO (spec_l16Ok.f k a0) (spec_l16Ok.f (k + 1) a0) := by
 intro a0 k;(obtain ⟨ih0, ih1⟩ := spec_l16Ok.mono_l k);(unfold spec_l16Ok.f)
 repeat' first | with_reducible (first | exact ih0 _ _ | exact ih1 _ _ _ | exact spec_l16One.mono _ _ _ _ _ | exact LeO.refl _ | exact LeO.none _ | refine LeO.ite ?_ ?_ | refine LeO.bind ?_ (fun _ => ?_)) | exact ih0 _ _ | exact ih1 _ _ _ | exact spec_l16One.mono _ _ _ _ _ | exact LeO.none _ | refine LeO.ite ?_ ?_ | refine LeO.bind ?_ (fun _ => ?_)
theorem spec_l16Ok.calls (k : Nat) (A0 : Option Addr) (c0 : Nat) (l0 : List (S40)) (r : Bool) (w : World) (hr0 : Kd.C k40 w A0 l0.length l0) (hc0 : l0.length ≤ c0) (h : spec_l16Ok.f k l0 = some r) :
  Calls Tryz.prog 32 #[.slice A0 l0.length c0] w fun e w' => e = .returned (.bool r) ∧ Below w.heap.size w w' := by
 (have HR0 := Aside0.mk hr0);(have HC0 := Aside0.mk hc0);clear hr0 hc0;(have HB := Aside0.mk (Below.refl w.heap.size w));(have H : (spec_l16Ok.l0 k l0 0) = some r := h);clear h;(have H' := Aside0.mk H);clear H
 go_enter Tryz.func32, Tryz.ntmps32
 (go_wp2);(repeat (go_quiet (fail); try go_wp2))
 go_loopg [3] k (fun kq v3 w' => ∃ (x3_1 : Int), v3 = .int .i64 x3_1 ∧ Aside0 (spec_l16Ok.l0 kq l0 x3_1 = some r) ∧ Aside0 (kq ≤ k) ∧ Aside0 (Below w.heap.size w w'))
 case atStart => exact ⟨(0), zq34, H', ⟨Nat.le_refl _⟩, ⟨zq66⟩⟩
 case round =>
  clear H';(obtain ⟨x3_1, rfl, HA, HK1, HB⟩ := hrel)
  cases gk with
  | zero => exact absurd HA.out (by simp [spec_l16Ok.l0])
  | succ k1 =>
   (have H := HA.out);clear HA;(simp only [spec_l16Ok.l0] at H);(by_cases c2 : x3_1 < (l0.length : Int))
   ·rw [if_pos c2] at H
    (have c2b0 : decide (x3_1 < (l0.length : Int)) = true := decide_eq_true c2);clear c2;(by_cases c3 : 0 ≤ x3_1)
    ·rw [if_pos c3] at H
     (have c3b0 : decide (0 ≤ x3_1) = true := decide_eq_true c3);clear c3;(replace H := Option.bind_eq_some_iff.mp H);(obtain ⟨t289, A40, H⟩ := H);(replace H : (if t289 = true then (spec_l16Ok.l1 k1 l0 x3_1 0) else (some false)) = some r := H);(have A4 := Aside0.mk A40);clear A40;(by_cases c5 : t289 = true)
     ·subst c5
      (have H1 : (spec_l16Ok.l1 k1 l0 x3_1 0) = some r := zq97);clear H;(have H := H1);clear H1;(have H' := Aside0.mk H);clear H;(have p288 : 0 ≤ (x3_1 : Int) := of_decide_eq_true zq27);(have q288 : x3_1 < (l0.length : Int) := of_decide_eq_true zq27);(obtain ⟨ad288, e288, hx288_0, hx288_1, hx288_2, hx288_3⟩ := at_T40 HR0.out x3_1 p288 q288);(have G288 := Aside0.mk (And.intro hx288_0 (And.intro hx288_1 (And.intro hx288_2 hx288_3))))
      cases e288
      (replace hx288_0 := (HB.out.cell (World.block_lt_of_cell? w _ hx288_0)).trans hx288_0);(replace hx288_1 := (HB.out.cell (World.block_lt_of_cell? w _ hx288_1)).trans hx288_1);(replace hx288_2 := (HB.out.cell (World.block_lt_of_cell? w _ hx288_2)).trans hx288_2);(replace hx288_3 := (HB.out.cell (World.block_lt_of_cell? w _ hx288_3)).trans hx288_3);(replace p288 := eq_true p288);(replace q288 := eq_true q288);(go_wp2_with (first | (go_at_call 41; (with_reducible refine (spec_l16One.callsP _ k1 ((rd_T40 l0 x3_1).f0) ((rd_T40 l0 x3_1).f1) ((rd_T40 l0 x3_1).f2.f0) ((rd_T40 l0 x3_1).f2.f1) true _ ?p0_0 ?p0_1 ?p0_2 ?p0_3 A4.out).mono ?_); (case p0_0 => exact ((show Below w.heap.size w _ from zq66).cell (World.block_lt_of_cell? w _ G288.out.1)).trans G288.out.1); (case p0_1 => exact ((show Below w.heap.size w _ from zq66).cell (World.block_lt_of_cell? w _ G288.out.2.1)).trans G288.out.2.1); (case p0_2 => exact ((show Below w.heap.size w _ from zq66).cell (World.block_lt_of_cell? w _ G288.out.2.2.1)).trans G288.out.2.2.1); (case p0_3 => exact ((show Below w.heap.size w _ from zq66).cell (World.block_lt_of_cell? w _ G288.out.2.2.2)).trans G288.out.2.2.2); rintro e w6 ⟨rfl, hb⟩; have n0_ := Aside0.mk (below_step zq66 hb); clear HB; have HB := n0_; clear n0_; (try clear hb); (try clear hb2); (try clear hk); (try clear hi))));(repeat (go_quiet (first | (go_at_call 41; (with_reducible refine (spec_l16One.callsP _ k1 ((rd_T40 l0 x3_1).f0) ((rd_T40 l0 x3_1).f1) ((rd_T40 l0 x3_1).f2.f0) ((rd_T40 l0 x3_1).f2.f1) true _ ?p0_0 ?p0_1 ?p0_2 ?p0_3 A4.out).mono ?_); (case p0_0 => exact ((show Below w.heap.size w _ from zq66).cell (World.block_lt_of_cell? w _ G288.out.1)).trans G288.out.1); (case p0_1 => exact ((show Below w.heap.size w _ from zq66).cell (World.block_lt_of_cell? w _ G288.out.2.1)).trans G288.out.2.1); (case p0_2 => exact ((show Below w.heap.size w _ from zq66).cell (World.block_lt_of_cell? w _ G288.out.2.2.1)).trans G288.out.2.2.1); (case p0_3 => exact ((show Below w.heap.size w _ from zq66).cell (World.block_lt_of_cell? w _ G288.out.2.2.2)).trans G288.out.2.2.2); rintro e w6 ⟨rfl, hb⟩; have n0_ := Aside0.mk (below_step zq66 hb); clear HB; have HB := n0_; clear n0_; (try clear hb); (try clear hb2); (try clear hk); (try clear hi))); try go_wp2_with (first | (go_at_call 41; (with_reducible refine (spec_l16One.callsP _ k1 ((rd_T40 l0 x3_1).f0) ((rd_T40 l0 x3_1).f1) ((rd_T40 l0 x3_1).f2.f0) ((rd_T40 l0 x3_1).f2.f1) true _ ?p0_0 ?p0_1 ?p0_2 ?p0_3 A4.out).mono ?_); (case p0_0 => exact ((show Below w.heap.size w _ from zq66).cell (World.block_lt_of_cell? w _ G288.out.1)).trans G288.out.1); (case p0_1 => exact ((show Below w.heap.size w _ from zq66).cell (World.block_lt_of_cell? w _ G288.out.2.1)).trans G288.out.2.1); (case p0_2 => exact ((show Below w.heap.size w _ from zq66).cell (World.block_lt_of_cell? w _ G288.out.2.2.1)).trans G288.out.2.2.1); (case p0_3 => exact ((show Below w.heap.size w _ from zq66).cell (World.block_lt_of_cell? w _ G288.out.2.2.2)).trans G288.out.2.2.2); rintro e w6 ⟨rfl, hb⟩; have n0_ := Aside0.mk (below_step zq66 hb); clear HB; have HB := n0_; clear n0_; (try clear hb); (try clear hb2); (try clear hk); (try clear hi)))))
      go_loopg [4] k1 (fun kq v4 w' => ∃ (x4_2 : Int), v4 = .int .i64 x4_2 ∧ Aside0 (spec_l16Ok.l1 kq l0 x3_1 x4_2 = some r) ∧ Aside0 (kq ≤ k1) ∧ Aside0 (Below w.heap.size w w'))
      case atStart => exact ⟨(0), zq34, H', ⟨Nat.le_refl _⟩, ⟨zq66⟩⟩
      case round =>
       clear H';(try clear c2);(try clear c2b0);(try clear p2);(try clear q2);(try clear hx2);(try clear c3);(try clear c3b0);(try clear c5);(try clear hx288_0);(try clear hx288_1);(try clear hx288_2);(try clear hx288_3);(try clear p288);(try clear q288);(obtain ⟨x4_2, rfl, HA, HK2, HB⟩ := hrel)
       cases gk with
       | zero => exact absurd HA.out (by simp [spec_l16Ok.l1])
       | succ k2 =>
        (have H := HA.out);clear HA;(simp only [spec_l16Ok.l1] at H);(by_cases c7 : x4_2 < x3_1)
        ·rw [if_pos c7] at H
         (have c7b0 : decide (x4_2 < x3_1) = true := decide_eq_true c7);clear c7;(by_cases c8 : 0 ≤ x4_2)
         ·rw [if_pos c8] at H
          (have c8b0 : decide (0 ≤ x4_2) = true := decide_eq_true c8);clear c8;(by_cases c9 : x4_2 < (l0.length : Int))
          ·rw [if_pos c9] at H
           (have c9b0 : decide (x4_2 < (l0.length : Int)) = true := decide_eq_true c9);clear c9;(by_cases c10 : 0 ≤ x3_1)
           ·rw [if_pos c10] at H
            (have c10b0 : decide (0 ≤ x3_1) = true := decide_eq_true c10);clear c10;(by_cases c11 : x3_1 < (l0.length : Int))
            ·rw [if_pos c11] at H
             (have c11b0 : decide (x3_1 < (l0.length : Int)) = true := decide_eq_true c11);clear c11;(by_cases c12 : ((rd_T40 l0 x4_2).f0).toList = ((rd_T40 l0 x3_1).f0).toList)
             ·rw [if_pos c12] at H
              (have c12b0 : (((rd_T40 l0 x4_2).f0).toList == ((rd_T40 l0 x3_1).f0).toList) = true := beq_iff_eq.mpr c12);(have c12b1 : (((rd_T40 l0 x4_2).f0).toList != ((rd_T40 l0 x3_1).f0).toList) = false := bne_eq_false_iff_eq.mpr c12);clear c12;(obtain rfl := Option.some.inj H);(have p290 : 0 ≤ (x4_2 : Int) := of_decide_eq_true zq27);(have q290 : x4_2 < (l0.length : Int) := of_decide_eq_true zq27);(obtain ⟨ad290, e290, hx290_0, hx290_1, hx290_2, hx290_3⟩ := at_T40 HR0.out x4_2 p290 q290);(have G290 := Aside0.mk (And.intro hx290_0 (And.intro hx290_1 (And.intro hx290_2 hx290_3))));(obtain rfl : ad288 = ad290 := (by injection e290));(replace hx290_0 := (HB.out.cell (World.block_lt_of_cell? w _ hx290_0)).trans hx290_0);(replace hx290_1 := (HB.out.cell (World.block_lt_of_cell? w _ hx290_1)).trans hx290_1);(replace hx290_2 := (HB.out.cell (World.block_lt_of_cell? w _ hx290_2)).trans hx290_2);(replace hx290_3 := (HB.out.cell (World.block_lt_of_cell? w _ hx290_3)).trans hx290_3);(replace p290 := eq_true p290);(replace q290 := eq_true q290);(have p291 : 0 ≤ (x3_1 : Int) := of_decide_eq_true zq27);(have q291 : x3_1 < (l0.length : Int) := of_decide_eq_true zq27);(obtain ⟨ad291, e291, hx291_0, hx291_1, hx291_2, hx291_3⟩ := at_T40 HR0.out x3_1 p291 q291);(have G291 := Aside0.mk (And.intro hx291_0 (And.intro hx291_1 (And.intro hx291_2 hx291_3))));(obtain rfl : ad288 = ad291 := (by injection e291));(replace hx291_0 := (HB.out.cell (World.block_lt_of_cell? w _ hx291_0)).trans hx291_0);(replace hx291_1 := (HB.out.cell (World.block_lt_of_cell? w _ hx291_1)).trans hx291_1);(replace hx291_2 := (HB.out.cell (World.block_lt_of_cell? w _ hx291_2)).trans hx291_2);(replace hx291_3 := (HB.out.cell (World.block_lt_of_cell? w _ hx291_3)).trans hx291_3);(replace p291 := eq_true p291);(replace q291 := eq_true q291);(go_wp2);(repeat (go_quiet (fail); try go_wp2));(go_ret);(exact ⟨zq31, zq66⟩)
             ·rw [if_neg c12] at H
              (have c12b0 : (((rd_T40 l0 x4_2).f0).toList == ((rd_T40 l0 x3_1).f0).toList) = false := beq_eq_false_iff_ne.mpr c12);(have c12b1 : (((rd_T40 l0 x4_2).f0).toList != ((rd_T40 l0 x3_1).f0).toList) = true := bne_iff_ne.mpr c12);(have H' := Aside0.mk H);clear H;(have p290 : 0 ≤ (x4_2 : Int) := of_decide_eq_true zq27);(have q290 : x4_2 < (l0.length : Int) := of_decide_eq_true zq27);(obtain ⟨ad290, e290, hx290_0, hx290_1, hx290_2, hx290_3⟩ := at_T40 HR0.out x4_2 p290 q290);(have G290 := Aside0.mk (And.intro hx290_0 (And.intro hx290_1 (And.intro hx290_2 hx290_3))));(obtain rfl : ad288 = ad290 := (by injection e290));(replace hx290_0 := (HB.out.cell (World.block_lt_of_cell? w _ hx290_0)).trans hx290_0);(replace hx290_1 := (HB.out.cell (World.block_lt_of_cell? w _ hx290_1)).trans hx290_1);(replace hx290_2 := (HB.out.cell (World.block_lt_of_cell? w _ hx290_2)).trans hx290_2);(replace hx290_3 := (HB.out.cell (World.block_lt_of_cell? w _ hx290_3)).trans hx290_3);(replace p290 := eq_true p290);(replace q290 := eq_true q290);(have p291 : 0 ≤ (x3_1 : Int) := of_decide_eq_true zq27);(have q291 : x3_1 < (l0.length : Int) := of_decide_eq_true zq27);(obtain ⟨ad291, e291, hx291_0, hx291_1, hx291_2, hx291_3⟩ := at_T40 HR0.out x3_1 p291 q291);(have G291 := Aside0.mk (And.intro hx291_0 (And.intro hx291_1 (And.intro hx291_2 hx291_3))));(obtain rfl : ad288 = ad291 := (by injection e291));(replace hx291_0 := (HB.out.cell (World.block_lt_of_cell? w _ hx291_0)).trans hx291_0);(replace hx291_1 := (HB.out.cell (World.block_lt_of_cell? w _ hx291_1)).trans hx291_1);(replace hx291_2 := (HB.out.cell (World.block_lt_of_cell? w _ hx291_2)).trans hx291_2);(replace hx291_3 := (HB.out.cell (World.block_lt_of_cell? w _ hx291_3)).trans hx291_3);(replace p291 := eq_true p291);(replace q291 := eq_true q291);(go_wp2);(repeat (go_quiet (fail); try go_wp2));(go_roundg k2)
              case measure => have := HK1.out; have := HK2.out; omega
              case rel => exact ⟨(wrap64 (x4_2 + 1)), zq34, H', ⟨zq39⟩, ⟨zq66⟩⟩
            ·rw [if_neg c11] at H
             exact absurd H (by simp)
           ·rw [if_neg c10] at H
            exact absurd H (by simp)
          ·rw [if_neg c9] at H
           exact absurd H (by simp)
         ·rw [if_neg c8] at H
          exact absurd H (by simp)
        ·rw [if_neg c7] at H
         (have c7b0 : decide (x4_2 < x3_1) = false := decide_eq_false c7);clear c7;(have H' := Aside0.mk H);clear H;(go_wp2);(repeat (go_quiet (fail); try go_wp2));(go_roundg k2)
         case measure => have := HK1.out; have := HK2.out; omega
         case rel => exact ⟨(wrap64 (x3_1 + 1)), zq34, H', ⟨zq39⟩, ⟨zq66⟩⟩
     ·replace c5 := Bool.eq_false_iff.mpr c5
      subst c5;(have H1 : (some false) = some r := zq96);clear H;(have H := H1);clear H1;(obtain rfl := Option.some.inj H);(have p288 : 0 ≤ (x3_1 : Int) := of_decide_eq_true zq27);(have q288 : x3_1 < (l0.length : Int) := of_decide_eq_true zq27);(obtain ⟨ad288, e288, hx288_0, hx288_1, hx288_2, hx288_3⟩ := at_T40 HR0.out x3_1 p288 q288);(have G288 := Aside0.mk (And.intro hx288_0 (And.intro hx288_1 (And.intro hx288_2 hx288_3))))
      cases e288
      (replace hx288_0 := (HB.out.cell (World.block_lt_of_cell? w _ hx288_0)).trans hx288_0);(replace hx288_1 := (HB.out.cell (World.block_lt_of_cell? w _ hx288_1)).trans hx288_1);(replace hx288_2 := (HB.out.cell (World.block_lt_of_cell? w _ hx288_2)).trans hx288_2);(replace hx288_3 := (HB.out.cell (World.block_lt_of_cell? w _ hx288_3)).trans hx288_3);(replace p288 := eq_true p288);(replace q288 := eq_true q288);(go_wp2_with (first | (go_at_call 41; (with_reducible refine (spec_l16One.callsP _ k1 ((rd_T40 l0 x3_1).f0) ((rd_T40 l0 x3_1).f1) ((rd_T40 l0 x3_1).f2.f0) ((rd_T40 l0 x3_1).f2.f1) false _ ?p0_0 ?p0_1 ?p0_2 ?p0_3 A4.out).mono ?_); (case p0_0 => exact ((show Below w.heap.size w _ from zq66).cell (World.block_lt_of_cell? w _ G288.out.1)).trans G288.out.1); (case p0_1 => exact ((show Below w.heap.size w _ from zq66).cell (World.block_lt_of_cell? w _ G288.out.2.1)).trans G288.out.2.1); (case p0_2 => exact ((show Below w.heap.size w _ from zq66).cell (World.block_lt_of_cell? w _ G288.out.2.2.1)).trans G288.out.2.2.1); (case p0_3 => exact ((show Below w.heap.size w _ from zq66).cell (World.block_lt_of_cell? w _ G288.out.2.2.2)).trans G288.out.2.2.2); rintro e w13 ⟨rfl, hb⟩; have n0_ := Aside0.mk (below_step zq66 hb); clear HB; have HB := n0_; clear n0_; (try clear hb); (try clear hb2); (try clear hk); (try clear hi))));(repeat (go_quiet (first | (go_at_call 41; (with_reducible refine (spec_l16One.callsP _ k1 ((rd_T40 l0 x3_1).f0) ((rd_T40 l0 x3_1).f1) ((rd_T40 l0 x3_1).f2.f0) ((rd_T40 l0 x3_1).f2.f1) false _ ?p0_0 ?p0_1 ?p0_2 ?p0_3 A4.out).mono ?_); (case p0_0 => exact ((show Below w.heap.size w _ from zq66).cell (World.block_lt_of_cell? w _ G288.out.1)).trans G288.out.1); (case p0_1 => exact ((show Below w.heap.size w _ from zq66).cell (World.block_lt_of_cell? w _ G288.out.2.1)).trans G288.out.2.1); (case p0_2 => exact ((show Below w.heap.size w _ from zq66).cell (World.block_lt_of_cell? w _ G288.out.2.2.1)).trans G288.out.2.2.1); (case p0_3 => exact ((show Below w.heap.size w _ from zq66).cell (World.block_lt_of_cell? w _ G288.out.2.2.2)).trans G288.out.2.2.2); rintro e w13 ⟨rfl, hb⟩; have n0_ := Aside0.mk (below_step zq66 hb); clear HB; have HB := n0_; clear n0_; (try clear hb); (try clear hb2); (try clear hk); (try clear hi))); try go_wp2_with (first | (go_at_call 41; (with_reducible refine (spec_l16One.callsP _ k1 ((rd_T40 l0 x3_1).f0) ((rd_T40 l0 x3_1).f1) ((rd_T40 l0 x3_1).f2.f0) ((rd_T40 l0 x3_1).f2.f1) false _ ?p0_0 ?p0_1 ?p0_2 ?p0_3 A4.out).mono ?_); (case p0_0 => exact ((show Below w.heap.size w _ from zq66).cell (World.block_lt_of_cell? w _ G288.out.1)).trans G288.out.1); (case p0_1 => exact ((show Below w.heap.size w _ from zq66).cell (World.block_lt_of_cell? w _ G288.out.2.1)).trans G288.out.2.1); (case p0_2 => exact ((show Below w.heap.size w _ from zq66).cell (World.block_lt_of_cell? w _ G288.out.2.2.1)).trans G288.out.2.2.1); (case p0_3 => exact ((show Below w.heap.size w _ from zq66).cell (World.block_lt_of_cell? w _ G288.out.2.2.2)).trans G288.out.2.2.2); rintro e w13 ⟨rfl, hb⟩; have n0_ := Aside0.mk (below_step zq66 hb); clear HB; have HB := n0_; clear n0_; (try clear hb); (try clear hb2); (try clear hk); (try clear hi)))));(go_ret);(exact ⟨zq31, zq66⟩)
    ·rw [if_neg c3] at H
     exact absurd H (by simp)
   ·rw [if_neg c2] at H
    (have c2b0 : decide (x3_1 < (l0.length : Int)) = false := decide_eq_false c2);clear c2;(obtain rfl := Option.some.inj H);(go_wp2);(repeat (go_quiet (fail); try go_wp2));(go_ret);(exact ⟨zq31, zq66⟩)

/-! ### spec_BrighterThan: function 7 -/
def spec_BrighterThan.l0 : Nat → List (S40) → Int → List Int → Int → Option (List Int × Int)
 | 0, _, _, _, _ => none
 | k + 1, x0, x1, x6, x7 => if x7 < (x0.length : Int) then (if 0 ≤ x7 then (if ((rd_T40 x0 x7).f1) ≤ x1 then (if x6.length < 17592186044416 then (spec_BrighterThan.l0 k x0 x1 (x6 ++ [x7]) (wrap64 (x7 + 1))) else (none)) else (spec_BrighterThan.l0 k x0 x1 x6 (wrap64 (x7 + 1)))) else (none)) else (some (x6, 0))
def spec_BrighterThan.f (k : Nat) (l0 : List (S40)) (a1 : Int) : Option (List Int × Int) := (spec_l16Ok.f k l0).bind fun t292 => (if t292 = true then ((spec_l00In.f a1 1 6).bind fun t293 => (if t293 = true then (spec_BrighterThan.l0 k l0 a1 (([] : List Int)) 0) else (some (([] : List Int), 2)))) else (some (([] : List Int), 1)))
theorem spec_BrighterThan.mono_l : ∀ k, (∀ y0 y1 y2 y3, LeO (spec_BrighterThan.l0 k y0 y1 y2 y3) (spec_BrighterThan.l0 (k + 1) y0 y1 y2 y3))
 | 0 => fun _ _ _ _ r h => by simp [spec_BrighterThan.l0] at h
 | k + 1 => by
  have ih0 := spec_BrighterThan.mono_l k
  ·intro y0 y1 y2 y3
   unfold spec_BrighterThan.l0
   repeat' first | with_reducible (first | exact ih0 _ _ _ _ | exact spec_l16Ok.mono _ _ | exact LeO.refl _ | exact LeO.none _ | refine LeO.ite ?_ ?_ | refine LeO.bind ?_ (fun _ => ?_)) | exact ih0 _ _ _ _ | exact spec_l16Ok.mono _ _ | exact LeO.none _ | refine LeO.ite ?_ ?_ | refine LeO.bind ?_ (fun _ => ?_)
theorem spec_BrighterThan.mono : ∀ a0 a1 k, LeO (spec_BrighterThan.f k a0 a1) (spec_BrighterThan.f (k + 1) a0 a1) := by
 intro a0 a1 k;(have ih0 := spec_BrighterThan.mono_l k);(unfold spec_BrighterThan.f)
 repeat' first | with_reducible (first | exact ih0 _ _ _ _ | exact spec_l16Ok.mono _ _ | exact LeO.refl _ | exact LeO.none _ | refine LeO.ite ?_ ?_ | refine LeO.bind ?_ (fun _ => ?_)) | exact ih0 _ _ _ _ | exact spec_l16Ok.mono _ _ | exact LeO.none _ | refine LeO.ite ?_ ?_ | refine LeO.bind ?_ (fun _ => ?_)
theorem spec_BrighterThan.calls (k : Nat) (A0 : Option Addr) (c0 : Nat) (l0 : List (S40)) (a1 : Int) (r1 : List Int) (r2 : Int) (w : World) (hr0 : Kd.C k40 w A0 l0.length l0) (hc0 : l0.length ≤ c0) (h : spec_BrighterThan.f k l0 a1 = some (r1, r2)) :
  Calls Tryz.prog 7 #[.slice A0 l0.length c0, .int .i64 a1] w fun e w' => ∃ v0_ : Value, e = .returned (.tuple #[v0_, .int .i64 r2]) ∧ Kd.R (Kd.int .i64) 2 w' w.heap.size (fun _ => True) v0_ r1 ∧ Below w.heap.size w w' := by
 (have HR0 := Aside0.mk hr0);(have HC0 := Aside0.mk hc0);clear hr0 hc0;(have HB := Aside0.mk (Below.refl w.heap.size w));(have H : ((spec_l16Ok.f k l0).bind fun t292 => (if t292 = true then ((spec_l00In.f a1 1 6).bind fun t293 => (if t293 = true then (spec_BrighterThan.l0 k l0 a1 (([] : List Int)) 0) else (some (([] : List Int), 2)))) else (some (([] : List Int), 1)))) = some (r1, r2) := h);clear h;(replace H := Option.bind_eq_some_iff.mp H);(obtain ⟨t292, A30, H⟩ := H);(replace H : (if t292 = true then ((spec_l00In.f a1 1 6).bind fun t293 => (if t293 = true then (spec_BrighterThan.l0 k l0 a1 (([] : List Int)) 0) else (some (([] : List Int), 2)))) else (some (([] : List Int), 1))) = some (r1, r2) := H);(have A3 := Aside0.mk A30);clear A30;(by_cases c4 : t292 = true)
 ·subst c4
  (have H1 : ((spec_l00In.f a1 1 6).bind fun t293 => (if t293 = true then (spec_BrighterThan.l0 k l0 a1 (([] : List Int)) 0) else (some (([] : List Int), 2)))) = some (r1, r2) := zq97);clear H;(have H := H1);clear H1;(replace H := Option.bind_eq_some_iff.mp H);(obtain ⟨t293, A50, H⟩ := H);(replace H : (if t293 = true then (spec_BrighterThan.l0 k l0 a1 (([] : List Int)) 0) else (some (([] : List Int), 2))) = some (r1, r2) := H);(have A5 := Aside0.mk A50);clear A50;(by_cases c6 : t293 = true)
  ·subst c6
   (have H1 : (spec_BrighterThan.l0 k l0 a1 (([] : List Int)) 0) = some (r1, r2) := zq97);clear H;(have H := H1);clear H1;(obtain ⟨y294, hy_⟩ : ∃ y_ : List Int, y_ = (([] : List Int)) := ⟨_, rfl⟩);(replace H : (spec_BrighterThan.l0 k l0 a1 y294 0) = some (r1, r2) := zq26);(have Ny294 := Aside0.mk hy_);clear hy_;(have H' := Aside0.mk H);clear H
   go_enter Tryz.func7, Tryz.ntmps7
   go_wp2_with (first | ((with_reducible refine gate_callee (f := 32) rfl ?_); refine goesL_ (some 9) rfl rfl Tryz.func32 (by kernel_rfl) rfl #[.slice A0 l0.length c0] rfl zq0 ?_; (with_reducible refine (spec_l16Ok.calls k _ _ l0 true _ ?side1 ?side2 A3.out).mono ?_); (case side1 => exact zq88); (case side2 => exact HC0.out); rintro e w7 ⟨rfl, hb⟩; refine ⟨_, rfl, ?_⟩; have n0_ := Aside0.mk (below_step zq66 hb); clear HB; have HB := n0_; clear n0_; (try clear hb); (try clear hb2); (try clear hk); (try clear hi)) | ((with_reducible refine gate_callee (f := 33) rfl ?_); refine goesL_ (some 12) rfl rfl Tryz.func33 (by kernel_rfl) rfl #[.int .i64 a1, .int .i64 1, .int .i64 6] rfl zq0 ?_; (with_reducible refine (spec_l00In.calls a1 1 6 true _ A5.out).mono ?_); rintro e w' ⟨rfl, ⟨nd, rfl⟩⟩; refine ⟨_, rfl, ?_⟩) | ((with_reducible refine gate_dst (N := 14) rfl ?_); refine Kd.R_lit (Kd.int .i64) _ 2 ?hg (N := 14) ?hd (xs := ([] : List Int)) (inner := []) (ok := fun _ => True) (okp := fun _ => True) ?hr ?hp (fun _ hk => hk) trivial (Below.refl _ _) (Nat.le_refl _) (by simp) ?_; (case hd => rfl); (case hg => rfl); (case hr => first | (go_simp; done) | (go_simp; rfl)); (case hp => exact (Reps.none _ _)); intro v295 w8 ho9 hb hg_ hnew_; clear hg_ hnew_; (first | rw [← Ny294.out] at ho9 | (simp only [Int.reduceToNat] at ho9; rw [← Ny294.out] at ho9)); have n0_ := Aside0.mk (Kd.R_lower ho9 (below_size zq66)); have n1_ := Aside0.mk (below_step zq66 hb); clear HB; have HO296 := n0_; have HB := n1_; clear n0_ n1_; clear hb ho9))
   go_loopg [6, 7] k (fun kq v6 v7 w' => ∃ (x6_1 : List Int) (x7_1 : Int), v7 = .int .i64 x7_1 ∧ Aside0 (spec_BrighterThan.l0 kq l0 a1 x6_1 x7_1 = some (r1, r2)) ∧ Aside0 (kq ≤ k) ∧ Aside0 (Kd.R (Kd.int .i64) 2 w' w.heap.size (fun _ => True) v6 x6_1) ∧ Aside0 (Below w.heap.size w w'))
   case atStart => exact ⟨(y294), (0), zq34, H', ⟨Nat.le_refl _⟩, ⟨zR HO296.out⟩, ⟨zq66⟩⟩
   case round =>
    clear H';(try clear p2);(try clear c3);(try clear c4);(try clear c6);(try clear c7);(obtain ⟨x6_1, x7_1, rfl, HA, HK1, HO_6, HB⟩ := hrel)
    cases gk with
    | zero => exact absurd HA.out (by simp [spec_BrighterThan.l0])
    | succ k1 =>
     (have H := HA.out);clear HA;(simp only [spec_BrighterThan.l0] at H);(by_cases c10 : x7_1 < (l0.length : Int))
     ·rw [if_pos c10] at H
      (have c10b0 : decide (x7_1 < (l0.length : Int)) = true := decide_eq_true c10);clear c10;(by_cases c11 : 0 ≤ x7_1)
      ·rw [if_pos c11] at H
       (have c11b0 : decide (0 ≤ x7_1) = true := decide_eq_true c11);clear c11;(by_cases c12 : ((rd_T40 l0 x7_1).f1) ≤ a1)
       ·rw [if_pos c12] at H
        (have c12b0 : decide (((rd_T40 l0 x7_1).f1) ≤ a1) = true := decide_eq_true c12);clear c12;(by_cases c13 : x6_1.length < 17592186044416)
        ·rw [if_pos c13] at H
         (have LMc13 := Aside0.mk c13);clear c13;(obtain ⟨y298, hy_⟩ : ∃ y_ : List Int, y_ = (x6_1 ++ [x7_1]) := ⟨_, rfl⟩);(replace H : (spec_BrighterThan.l0 k1 l0 a1 y298 (wrap64 (x7_1 + 1))) = some (r1, r2) := zq26);(have Ny298 := Aside0.mk hy_);clear hy_;(have H' := Aside0.mk H);clear H;(have p297 : 0 ≤ (x7_1 : Int) := of_decide_eq_true zq27);(have q297 : x7_1 < (l0.length : Int) := of_decide_eq_true zq27);(obtain ⟨ad297, e297, hx297_0, hx297_1, hx297_2, hx297_3⟩ := at_T40 HR0.out x7_1 p297 q297)
         cases e297
         (replace hx297_0 := (HB.out.cell (World.block_lt_of_cell? w _ hx297_0)).trans hx297_0);(replace hx297_1 := (HB.out.cell (World.block_lt_of_cell? w _ hx297_1)).trans hx297_1);(replace hx297_2 := (HB.out.cell (World.block_lt_of_cell? w _ hx297_2)).trans hx297_2);(replace hx297_3 := (HB.out.cell (World.block_lt_of_cell? w _ hx297_3)).trans hx297_3);(replace p297 := eq_true p297);(replace q297 := eq_true q297);(go_wp2_with (first | ((with_reducible refine gate_builtin (b := .append) (xs := #[.tmp 28, .tmp 30]) rfl ?_); at_builtin; refine Kd.R_append (Kd.int .i64) (w0 := w) w.heap.size rfl (.tmp 28) (.tmp 30) 27 2 (.int .i64 0) 8 rfl Tryz.underlying27 info2 rfl (by decide) (by omega) u6 x6_1 x7_1 [.int .i64 x7_1] (fun _ => True) (fun _ => False) rfl rfl ?aP (fun _ hk => hk.elim) ?aF ?aO ?aB ?aS ?aL ?_; (case aP => exact rfl); (case aB => exact zq66); (case aF => exact (fun _ _ => trivial)); (case aO => exact (zR HO_6.out)); (case aS => exact (below_size zq66)); (case aL => have := LMc13.out; omega); intro v299 w14 ho hb hg hat; rw [← Ny298.out] at ho; have n0_ := Aside0.mk (hb); have n1_ := Aside0.mk (ho); clear HB; clear HO_6; have HB := n0_; have HO300 := n1_; clear n0_ n1_; clear ho hb hg hat)));(go_roundg k1)
         case measure => have := HK1.out; omega
         case rel => exact ⟨(y298), (wrap64 (x7_1 + 1)), zq34, H', ⟨zq40⟩, ⟨zR HO300.out⟩, ⟨zq66⟩⟩
        ·rw [if_neg c13] at H
         exact absurd H (by simp)
       ·rw [if_neg c12] at H
        (have c12b0 : decide (((rd_T40 l0 x7_1).f1) ≤ a1) = false := decide_eq_false c12);clear c12;(have H' := Aside0.mk H);clear H;(have p297 : 0 ≤ (x7_1 : Int) := of_decide_eq_true zq27);(have q297 : x7_1 < (l0.length : Int) := of_decide_eq_true zq27);(obtain ⟨ad297, e297, hx297_0, hx297_1, hx297_2, hx297_3⟩ := at_T40 HR0.out x7_1 p297 q297)
        cases e297
        (replace hx297_0 := (HB.out.cell (World.block_lt_of_cell? w _ hx297_0)).trans hx297_0);(replace hx297_1 := (HB.out.cell (World.block_lt_of_cell? w _ hx297_1)).trans hx297_1);(replace hx297_2 := (HB.out.cell (World.block_lt_of_cell? w _ hx297_2)).trans hx297_2);(replace hx297_3 := (HB.out.cell (World.block_lt_of_cell? w _ hx297_3)).trans hx297_3);(replace p297 := eq_true p297);(replace q297 := eq_true q297);(go_wp2);(go_roundg k1)
        case measure => have := HK1.out; omega
        case rel => exact ⟨(x6_1), (wrap64 (x7_1 + 1)), zq34, H', ⟨zq40⟩, ⟨zR HO_6.out⟩, ⟨zq66⟩⟩
      ·rw [if_neg c11] at H
       exact absurd H (by simp)
     ·rw [if_neg c10] at H
      (have c10b0 : decide (x7_1 < (l0.length : Int)) = false := decide_eq_false c10);clear c10;(simp only [Option.some.injEq, Prod.mk.injEq] at H);(obtain ⟨rfl, rfl⟩ := H);(go_wp2);(go_ret2);(exact ⟨_, zq31, zR HO_6.out, zq66⟩)
  ·replace c6 := Bool.eq_false_iff.mpr c6
   subst c6;(have H1 : (some (([] : List Int), 2)) = some (r1, r2) := zq96);clear H;(have H := H1);clear H1;(simp only [Option.some.injEq, Prod.mk.injEq] at H);(obtain ⟨rfl, rfl⟩ := H)
   go_enter Tryz.func7, Tryz.ntmps7
   (go_wp2_with (first | ((with_reducible refine gate_callee (f := 32) rfl ?_); refine goesL_ (some 9) rfl rfl Tryz.func32 (by kernel_rfl) rfl #[.slice A0 l0.length c0] rfl zq0 ?_; (with_reducible refine (spec_l16Ok.calls k _ _ l0 true _ ?side1 ?side2 A3.out).mono ?_); (case side1 => exact zq88); (case side2 => exact HC0.out); rintro e w15 ⟨rfl, hb⟩; refine ⟨_, rfl, ?_⟩; have n0_ := Aside0.mk (below_step zq66 hb); clear HB; have HB := n0_; clear n0_; (try clear hb); (try clear hb2); (try clear hk); (try clear hi)) | ((with_reducible refine gate_callee (f := 33) rfl ?_); refine goesL_ (some 12) rfl rfl Tryz.func33 (by kernel_rfl) rfl #[.int .i64 a1, .int .i64 1, .int .i64 6] rfl zq0 ?_; (with_reducible refine (spec_l00In.calls a1 1 6 false _ A5.out).mono ?_); rintro e w' ⟨rfl, ⟨nd, rfl⟩⟩; refine ⟨_, rfl, ?_⟩)));(go_ret2);(exact ⟨_, zq31, zq28, zq66⟩)
 ·replace c4 := Bool.eq_false_iff.mpr c4
  subst c4;(have H1 : (some (([] : List Int), 1)) = some (r1, r2) := zq96);clear H;(have H := H1);clear H1;(simp only [Option.some.injEq, Prod.mk.injEq] at H);(obtain ⟨rfl, rfl⟩ := H)
  go_enter Tryz.func7, Tryz.ntmps7
  (go_wp2_with (first | ((with_reducible refine gate_callee (f := 32) rfl ?_); refine goesL_ (some 9) rfl rfl Tryz.func32 (by kernel_rfl) rfl #[.slice A0 l0.length c0] rfl zq0 ?_; (with_reducible refine (spec_l16Ok.calls k _ _ l0 false _ ?side1 ?side2 A3.out).mono ?_); (case side1 => exact zq88); (case side2 => exact HC0.out); rintro e w16 ⟨rfl, hb⟩; refine ⟨_, rfl, ?_⟩; have n0_ := Aside0.mk (below_step zq66 hb); clear HB; have HB := n0_; clear n0_; (try clear hb); (try clear hb2); (try clear hk); (try clear hi))));(go_ret2);(exact ⟨_, zq31, zq28, zq66⟩)

/-! ### impl_CountClasses: function 8 -/
def impl_CountClasses.l0 : Nat → List Int → List (S40) → Int → Int → Option (List Int × Int)
 | 0, _, _, _, _ => none
 | k + 1, x4, x11, x12, x13 => if x13 < x12 then (if 0 ≤ x13 then (if x13 < (x11.length : Int) then (if 0 ≤ (wrap64 (((rd_T40 x11 x13).f1) - 1)) then (if (wrap64 (((rd_T40 x11 x13).f1) - 1)) < (x4.length : Int) then (impl_CountClasses.l0 k (x4.set ((wrap64 (((rd_T40 x11 x13).f1) - 1)) : Int).toNat (wrap64 ((rd x4 (wrap64 (((rd_T40 x11 x13).f1) - 1))) + 1))) x11 x12 (wrap64 (x13 + 1))) else (none)) else (none)) else (none)) else (none)) else (some (x4, 0))
def impl_CountClasses.f (k : Nat) (l0 : List (S40)) : Option (List Int × Int) := (impl_ValidCatalogue.f l0).bind fun t301 => (if t301 = true then (if 6 ≤ 35184372088832 then (impl_CountClasses.l0 k (List.replicate 6 0) l0 (l0.length : Int) 0) else (none)) else (some (([] : List Int), 1)))
theorem impl_CountClasses.mono_l : ∀ k, (∀ y0 y1 y2 y3, LeO (impl_CountClasses.l0 k y0 y1 y2 y3) (impl_CountClasses.l0 (k + 1) y0 y1 y2 y3))
 | 0 => fun _ _ _ _ r h => by simp [impl_CountClasses.l0] at h
 | k + 1 => by
  have ih0 := impl_CountClasses.mono_l k
  ·intro y0 y1 y2 y3
   unfold impl_CountClasses.l0
   repeat' first | with_reducible (first | exact ih0 _ _ _ _ | exact LeO.refl _ | exact LeO.none _ | refine LeO.ite ?_ ?_ | refine LeO.bind ?_ (fun _ => ?_)) | exact ih0 _ _ _ _ | exact LeO.none _ | refine LeO.ite ?_ ?_ | refine LeO.bind ?_ (fun _ => ?_)
theorem impl_CountClasses.mono : ∀ a0 k, LeO (impl_CountClasses.f k a0) (impl_CountClasses.f (k + 1) a0) := by
 intro a0 k;(have ih0 := impl_CountClasses.mono_l k);(unfold impl_CountClasses.f)
 repeat' first | with_reducible (first | exact ih0 _ _ _ _ | exact LeO.refl _ | exact LeO.none _ | refine LeO.ite ?_ ?_ | refine LeO.bind ?_ (fun _ => ?_)) | exact ih0 _ _ _ _ | exact LeO.none _ | refine LeO.ite ?_ ?_ | refine LeO.bind ?_ (fun _ => ?_)
theorem impl_CountClasses.calls (k : Nat) (A0 : Option Addr) (c0 : Nat) (l0 : List (S40)) (r1 : List Int) (r2 : Int) (w : World) (hr0 : Kd.C k40 w A0 l0.length l0) (hc0 : l0.length ≤ c0) (h : impl_CountClasses.f k l0 = some (r1, r2)) :
  Calls Tryz.prog 8 #[.slice A0 l0.length c0] w fun e w' => ∃ v0_ : Value, e = .returned (.tuple #[v0_, .int .i64 r2]) ∧ Kd.R (Kd.int .i64) 2 w' w.heap.size (fun _ => True) v0_ r1 ∧ Below w.heap.size w w' := by
 (have hu40 := Tryz.underlying40);(have HR0 := Aside0.mk hr0);(have HC0 := Aside0.mk hc0);clear hr0 hc0;(have HB := Aside0.mk (Below.refl w.heap.size w));(have H : ((impl_ValidCatalogue.f l0).bind fun t301 => (if t301 = true then (if 6 ≤ 35184372088832 then (impl_CountClasses.l0 k (List.replicate 6 0) l0 (l0.length : Int) 0) else (none)) else (some (([] : List Int), 1)))) = some (r1, r2) := h);clear h;(replace H := Option.bind_eq_some_iff.mp H);(obtain ⟨t301, A20, H⟩ := H);(replace H : (if t301 = true then (if 6 ≤ 35184372088832 then (impl_CountClasses.l0 k (List.replicate 6 0) l0 (l0.length : Int) 0) else (none)) else (some (([] : List Int), 1))) = some (r1, r2) := H);(have A2 := Aside0.mk A20);clear A20;(by_cases c3 : t301 = true)
 ·subst c3
  (have H1 : (if 6 ≤ 35184372088832 then (impl_CountClasses.l0 k (List.replicate 6 0) l0 (l0.length : Int) 0) else (none)) = some (r1, r2) := zq97);clear H;(have H := H1);clear H1;(by_cases c4 : 6 ≤ 35184372088832)
  ·rw [if_pos c4] at H
   (have c4b0 := eq_true c4);(have c4b1 : decide (6 ≤ 35184372088832) = true := decide_eq_true c4);clear c4;(obtain ⟨y302, hy_⟩ : ∃ y_ : List Int, y_ = (List.replicate 6 0) := ⟨_, rfl⟩);(replace H : (impl_CountClasses.l0 k y302 l0 (l0.length : Int) 0) = some (r1, r2) := zq26);(have Ny302 := Aside0.mk hy_);clear hy_;(have H' := Aside0.mk H);clear H
   go_enter Tryz.func8, Tryz.ntmps8
   go_wp2_with (first | ((with_reducible refine gate_callee (f := 21) rfl ?_); refine goesL_ (some 8) rfl rfl Tryz.func21 (by kernel_rfl) rfl #[.slice A0 l0.length c0] rfl zq0 ?_; (with_reducible refine (impl_ValidCatalogue.calls _ _ l0 true _ ?side1 ?side2 A2.out).mono ?_); (case side1 => exact zq88); (case side2 => exact HC0.out); rintro e w5 ⟨rfl, hb⟩; refine ⟨_, rfl, ?_⟩; have n0_ := Aside0.mk (below_step zq66 hb); clear HB; have HB := n0_; clear n0_; (try clear hb); (try clear hb2); (try clear hk); (try clear hi)) | ((with_reducible refine gate_dst (N := 10) rfl ?_); refine Kd.R_make (Kd.int .i64) _ 2 rfl (N := 10) rfl 27 _ _ rfl 6 rfl rfl Tryz.underlying27 (.int .i64 0) 8 info2 rfl (by decide) (by omega) 0 (ok := fun _ => True) (okp := fun _ => True) rfl (fun _ hk => hk) trivial (by omega) (by omega) (Below.refl _ _) (Nat.le_refl _) ?_; intro v303 w6 ho7 hb hg_ hnew_; clear hg_ hnew_; (first | rw [← Ny302.out] at ho7 | (simp only [Int.reduceToNat] at ho7; rw [← Ny302.out] at ho7)); have n0_ := Aside0.mk (Kd.R_lower ho7 (below_size zq66)); have n1_ := Aside0.mk (below_step zq66 hb); clear HB; have HO304 := n0_; have HB := n1_; clear n0_ n1_; clear hb ho7))
   go_loopg [13] k (fun kq v13 w' => ∃ (x4_1 : List Int) (x13_1 : Int), v13 = .int .i64 x13_1 ∧ Aside0 (impl_CountClasses.l0 kq x4_1 l0 (l0.length : Int) x13_1 = some (r1, r2)) ∧ Aside0 (kq ≤ k) ∧ Aside0 (Kd.R (Kd.int .i64) 2 w' w.heap.size (fun _ => True) v303 x4_1) ∧ Aside0 (Below w.heap.size w w'))
   case atStart => exact ⟨(y302), (0), zq34, H', ⟨Nat.le_refl _⟩, ⟨zR HO304.out⟩, ⟨zq66⟩⟩
   case round =>
    clear H';(try clear c2);(try clear p2);(try clear c3);(try clear c4);(try clear c4b0);(try clear c4b1);(obtain ⟨x4_1, x13_1, rfl, HA, HK1, HO_4, HB⟩ := hrel)
    cases gk with
    | zero => exact absurd HA.out (by simp [impl_CountClasses.l0])
    | succ k1 =>
     (have H := HA.out);clear HA;(simp only [impl_CountClasses.l0] at H);(by_cases c8 : x13_1 < (l0.length : Int))
     ·rw [if_pos c8] at H
      (have c8b0 : decide (x13_1 < (l0.length : Int)) = true := decide_eq_true c8);clear c8;(by_cases c9 : 0 ≤ x13_1)
      ·rw [if_pos c9] at H
       (have c9b0 : decide (0 ≤ x13_1) = true := decide_eq_true c9);clear c9;(by_cases c10 : x13_1 < (l0.length : Int))
       ·rw [if_pos c10] at H
        (have c10b0 : decide (x13_1 < (l0.length : Int)) = true := decide_eq_true c10);clear c10;(obtain ⟨ji11, hji11⟩ : ∃ j_ : Int, (wrap64 (((rd_T40 l0 x13_1).f1) - 1)) = j_ := ⟨_, rfl⟩);(replace H : (if 0 ≤ (ji11) then (if (ji11) < (x4_1.length : Int) then (impl_CountClasses.l0 k1 (x4_1.set ((ji11) : Int).toNat (wrap64 ((rd x4_1 (ji11)) + 1))) l0 (l0.length : Int) (wrap64 (x13_1 + 1))) else (none)) else (none)) = some (r1, r2) := by first | (rw [hji11] at H; exact H) | (simp only [hji11] at H ⊢; exact H));(have hji11w : (IntKind.i64.wrap (((rd_T40 l0 x13_1).f1) - 1)) = ji11 := (i64_w _).trans hji11);(by_cases c12 : 0 ≤ (ji11))
        ·rw [if_pos c12] at H
         (have c12b0 : decide (0 ≤ (ji11)) = true := decide_eq_true c12);clear c12;(by_cases c13 : (ji11) < (x4_1.length : Int))
         ·rw [if_pos c13] at H
          (have c13b0 : decide ((ji11) < (x4_1.length : Int)) = true := decide_eq_true c13);clear c13;(obtain ⟨y308, hy_⟩ : ∃ y_ : List Int, y_ = (x4_1.set ((ji11) : Int).toNat (wrap64 ((rd x4_1 (ji11)) + 1))) := ⟨_, rfl⟩);(replace H : (impl_CountClasses.l0 k1 y308 l0 (l0.length : Int) (wrap64 (x13_1 + 1))) = some (r1, r2) := zq26);(have Ny308 := Aside0.mk hy_);clear hy_;(have H' := Aside0.mk H);clear H;(have p305 : 0 ≤ (x13_1 : Int) := of_decide_eq_true zq27);(have q305 : x13_1 < (l0.length : Int) := of_decide_eq_true zq27);(obtain ⟨ad305, e305, hx305_0, hx305_1, hx305_2, hx305_3⟩ := at_T40 HR0.out x13_1 p305 q305)
          cases e305
          (replace hx305_0 := (HB.out.cell (World.block_lt_of_cell? w _ hx305_0)).trans hx305_0);(replace hx305_1 := (HB.out.cell (World.block_lt_of_cell? w _ hx305_1)).trans hx305_1);(replace hx305_2 := (HB.out.cell (World.block_lt_of_cell? w _ hx305_2)).trans hx305_2);(replace hx305_3 := (HB.out.cell (World.block_lt_of_cell? w _ hx305_3)).trans hx305_3);(replace p305 := eq_true p305);(replace q305 := eq_true q305);(go_wp2_with (first | ((with_reducible refine gate_dst (N := 6) rfl ?_); refine box_event ?hg (N := 6) ?hd (cs := #[.string (⟨#[]⟩ : ByteArray), .int .i64 0, .int .i64 0, .int .i64 0]) (t := 40) ?hr ?_; (case hd => rfl); (case hg => rfl); (case hr => first | (go_simp; done) | (go_simp; rfl)); intro gb306 hg w15 hbox hb; have n0_ := Aside0.mk (Kd.R_below (zR HO_4.out) hb); have n1_ := Aside0.mk (below_step zq66 hb); have n2_ := Aside0.mk (hbox); have n3_ := Aside0.mk ((zq90 : w.heap.size ≤ gb306)); have n4_ := Aside0.mk ((zq90 : w.heap.size ≤ gb306)); clear HO_4; clear HB; have HO_4 := n0_; have HB := n1_; have BK306 := n2_; have GW306 := n3_; have GE306 := n4_; clear n0_ n1_ n2_ n3_ n4_; clear hb hbox hg; have hcz16_0 : w15.cell? ⟨gb306, 0, none⟩ = some (.string (⟨#[]⟩ : ByteArray)) := (blk_cell BK306.out 0).trans rfl; have hcz16_1 : w15.cell? ⟨gb306, 1, none⟩ = some (.int .i64 0) := (blk_cell BK306.out 1).trans rfl; have hcz16_2 : w15.cell? ⟨gb306, 2, none⟩ = some (.int .i64 0) := (blk_cell BK306.out 2).trans rfl; have hcz16_3 : w15.cell? ⟨gb306, 3, none⟩ = some (.int .i64 0) := (blk_cell BK306.out 3).trans rfl; have hfz16_0 := blk_frozen BK306.out 0; have hfz16_1 := blk_frozen BK306.out 1; have hfz16_2 := blk_frozen BK306.out 2; have hfz16_3 := blk_frozen BK306.out 3) | ((with_reducible refine gate_store (t := 40) (p := 6) rfl ?_); refine store_event (t := 40) (p := 6) (v := ?vo_w17) (w1 := ((((w15.setCell ⟨gb306, 0, none⟩ (.string ((rd_T40 l0 x13_1).f0))).setCell ⟨gb306, 1, none⟩ (.int .i64 ((rd_T40 l0 x13_1).f1))).setCell ⟨gb306, 2, none⟩ (.int .i64 ((rd_T40 l0 x13_1).f2.f0))).setCell ⟨gb306, 3, none⟩ (.int .i64 ((rd_T40 l0 x13_1).f2.f1)))) ?hg ?ho ?hn ?hr ?_; (case ho => rfl); (case hg => rfl); (case hn => rfl); (case hr => first | (go_simp; done) | (go_simp; rfl)); intro w17 hw; have n0_ : Aside0 (Kd.R (Kd.int .i64) 2 w17 w.heap.size (fun _ => True) v303 x4_1) := ⟨(by rw [hw]; exact (by (with_reducible repeat (first | apply Kd.R_alloc | apply Kd.R_drewN | apply Kd.R_drew)); exact Kd.R_mono (Kd.R_far (p := ⟨gb306, 3, none⟩) (Kd.R_far (p := ⟨gb306, 2, none⟩) (Kd.R_far (p := ⟨gb306, 1, none⟩) (Kd.R_far (p := ⟨gb306, 0, none⟩) (Kd.R_types HO_4.out BK306.out (by decide)) (fun _ hk => hk.2) (.string ((rd_T40 l0 x13_1).f0))) (fun _ hk => hk.2) (.int .i64 ((rd_T40 l0 x13_1).f1))) (fun _ hk => hk.2) (.int .i64 ((rd_T40 l0 x13_1).f2.f0))) (fun _ hk => hk.2) (.int .i64 ((rd_T40 l0 x13_1).f2.f1))) (fun _ hk => trivial)))⟩; have n1_ : Aside0 (w17.heap[gb306]? = some (.cells #[.string ((rd_T40 l0 x13_1).f0), .int .i64 ((rd_T40 l0 x13_1).f1), .int .i64 ((rd_T40 l0 x13_1).f2.f0), .int .i64 ((rd_T40 l0 x13_1).f2.f1)] 40 (0, 0))) := ⟨(by rw [hw]; exact (by (with_reducible repeat (first | refine blk_drewN ?_ _ | refine blk_drew ?_ | refine blk_alloc ?_ _)); refine blk_put (cs := #[.string ((rd_T40 l0 x13_1).f0), .int .i64 ((rd_T40 l0 x13_1).f1), .int .i64 ((rd_T40 l0 x13_1).f2.f0), .int .i64 0]) ?_ 3 _ rfl; (with_reducible repeat (first | refine blk_drewN ?_ _ | refine blk_drew ?_ | refine blk_alloc ?_ _)); refine blk_put (cs := #[.string ((rd_T40 l0 x13_1).f0), .int .i64 ((rd_T40 l0 x13_1).f1), .int .i64 0, .int .i64 0]) ?_ 2 _ rfl; (with_reducible repeat (first | refine blk_drewN ?_ _ | refine blk_drew ?_ | refine blk_alloc ?_ _)); refine blk_put (cs := #[.string ((rd_T40 l0 x13_1).f0), .int .i64 0, .int .i64 0, .int .i64 0]) ?_ 1 _ rfl; (with_reducible repeat (first | refine blk_drewN ?_ _ | refine blk_drew ?_ | refine blk_alloc ?_ _)); refine blk_put (cs := #[.string (⟨#[]⟩ : ByteArray), .int .i64 0, .int .i64 0, .int .i64 0]) ?_ 0 _ rfl; (with_reducible repeat (first | refine blk_drewN ?_ _ | refine blk_drew ?_ | refine blk_alloc ?_ _)); exact BK306.out))⟩; have n2_ : Aside0 (Below w.heap.size w w17) := ⟨(by rw [hw]; exact zq55)⟩; clear hw; clear HO_4; clear BK306; clear HB; have HO_4 := n0_; have BK306 := n1_; have HB := n2_; clear n0_ n1_ n2_; have hcz18_0 : w17.cell? ⟨gb306, 0, none⟩ = some (.string ((rd_T40 l0 x13_1).f0)) := (blk_cell BK306.out 0).trans rfl; have hcz18_1 : w17.cell? ⟨gb306, 1, none⟩ = some (.int .i64 ((rd_T40 l0 x13_1).f1)) := (blk_cell BK306.out 1).trans rfl; have hcz18_2 : w17.cell? ⟨gb306, 2, none⟩ = some (.int .i64 ((rd_T40 l0 x13_1).f2.f0)) := (blk_cell BK306.out 2).trans rfl; have hcz18_3 : w17.cell? ⟨gb306, 3, none⟩ = some (.int .i64 ((rd_T40 l0 x13_1).f2.f1)) := (blk_cell BK306.out 3).trans rfl; have hfz18_0 := blk_frozen BK306.out 0; have hfz18_1 := blk_frozen BK306.out 1; have hfz18_2 := blk_frozen BK306.out 2; have hfz18_3 := blk_frozen BK306.out 3; obtain ⟨Ao19, co19, eo19⟩ := Kd.R_slice HO_4.out; subst eo19; have p307 : 0 ≤ ((ji11) : Int) := of_decide_eq_true zq27; have q307 : (ji11) < (x4_1.length : Int) := of_decide_eq_true zq27; obtain ⟨ad307, e307, hx307_0⟩ := Kd.at_int (Kd.R_reads' HO_4.out).2.2 (ji11) p307 q307; cases e307; replace p307 := eq_true p307; replace q307 := eq_true q307; have p14 : 0 ≤ ((ji11) : Int) := of_decide_eq_true zq27; have q14 : ((ji11) : Int) < ((x4_1.length : Int) : Int) := of_decide_eq_true zq27; obtain ⟨go14, co14, eo14, gb14, gl14, cl14, HG14⟩ := Kd.R_form HO_4.out (by omega); (first | cases eo14 | (injection eo14 with ea_ en_ ec_; (first | subst ea_ | (injection ea_ with ea_; subst ea_)); subst ec_; clear en_)); have GB14 := Aside0.mk gb14; have GG14 := Aside0.mk HG14; clear gb14 gl14 HG14; (first | simp only [add_plain] at hx307_0 | skip); obtain ⟨hx14_0, hf14_0⟩ := Kd.R_celln 0 HO_4.out ((ji11) : Int) p14 q14; replace p14 := eq_true p14; replace q14 := eq_true q14; obtain ⟨hy20_, hz20_⟩ := Kd.R_celln 0 HO_4.out ((ji11) : Int) (of_decide_eq_true zq27) (of_decide_eq_true zq27); have HP20 := Kd.R_putg HO_4.out ((ji11) : Int) (wrap64 ((rd x4_1 (ji11)) + 1))) | ((with_reducible refine gate_store (t := 2) (p := 24) rfl ?_); refine store_event (t := 2) (p := 24) (v := ?vo_w21) (w1 := (w17.setCell ⟨go14, ((ji11) : Int).toNat, none⟩ (.int .i64 (wrap64 ((rd x4_1 (ji11)) + 1))))) ?hg ?ho ?hn ?hr ?_; (case ho => rfl); (case hg => rfl); (case hn => rfl); (case hr => first | (go_simp; done) | (go_simp; rfl)); intro w21 hw; have hg : w17.grownBy w21 (some go14) := (by rw [hw]; exact HP20.2); have hp_ : Kd.R (Kd.int .i64) 2 w21 w.heap.size (fun _ => True) (.slice (some ⟨go14, 0, none⟩) x4_1.length co19) y308 := (by rw [hw, Ny308.out]; exact HP20.1); clear HP20; have n0_ := Aside0.mk (hp_); have n1_ := Aside0.mk (blk_grown (g := gb306) (o := .cells #[.string ((rd_T40 l0 x13_1).f0), .int .i64 ((rd_T40 l0 x13_1).f1), .int .i64 ((rd_T40 l0 x13_1).f2.f0), .int .i64 ((rd_T40 l0 x13_1).f2.f1)] 40 (0, 0)) (by (with_reducible repeat (first | refine blk_drewN ?_ _ | refine blk_drew ?_ | refine blk_alloc ?_ _)); exact BK306.out) hg (Kd.R_ne HO_4.out BK306.out (by decide))); have n2_ := Aside0.mk ((by rw [hw]; exact below_set (HB.out) GB14.out : Below w.heap.size w w21)); clear HO_4; clear BK306; clear HB; have HO_4 := n0_; have BK306 := n1_; have HB := n2_; clear n0_ n1_ n2_; clear hg hw hp_)));(go_roundg k1)
          case measure => have := HK1.out; omega
          case rel => exact ⟨(y308), (wrap64 (x13_1 + 1)), zq34, H', ⟨zq40⟩, ⟨zR HO_4.out⟩, ⟨zq55⟩⟩
         ·rw [if_neg c13] at H
          exact absurd H (by simp)
        ·rw [if_neg c12] at H
         exact absurd H (by simp)
       ·rw [if_neg c10] at H
        exact absurd H (by simp)
      ·rw [if_neg c9] at H
       exact absurd H (by simp)
     ·rw [if_neg c8] at H
      (have c8b0 : decide (x13_1 < (l0.length : Int)) = false := decide_eq_false c8);clear c8;(simp only [Option.some.injEq, Prod.mk.injEq] at H);(obtain ⟨rfl, rfl⟩ := H);(go_wp2);(go_ret2);(exact ⟨_, zq31, zR HO_4.out, zq66⟩)
  ·rw [if_neg c4] at H
   exact absurd H (by simp)
 ·replace c3 := Bool.eq_false_iff.mpr c3
  subst c3;(have H1 : (some (([] : List Int), 1)) = some (r1, r2) := zq96);clear H;(have H := H1);clear H1;(simp only [Option.some.injEq, Prod.mk.injEq] at H);(obtain ⟨rfl, rfl⟩ := H)
  go_enter Tryz.func8, Tryz.ntmps8
  (go_wp2_with (first | ((with_reducible refine gate_callee (f := 21) rfl ?_); refine goesL_ (some 8) rfl rfl Tryz.func21 (by kernel_rfl) rfl #[.slice A0 l0.length c0] rfl zq0 ?_; (with_reducible refine (impl_ValidCatalogue.calls _ _ l0 false _ ?side1 ?side2 A2.out).mono ?_); (case side1 => exact zq88); (case side2 => exact HC0.out); rintro e w22 ⟨rfl, hb⟩; refine ⟨_, rfl, ?_⟩; have n0_ := Aside0.mk (below_step zq66 hb); clear HB; have HB := n0_; clear n0_; (try clear hb); (try clear hb2); (try clear hk); (try clear hi))));(go_ret2);(exact ⟨_, zq31, zq28, zq66⟩)

/-! ### spec_CountClasses: function 9 -/
def spec_CountClasses.l0 : Nat → List (S40) → List Int → Int → Option (List Int × Int)
 | 0, _, _, _ => none
 | k + 1, x0, x4, x5 => if x5 < (x0.length : Int) then (if 0 ≤ x5 then (if 0 ≤ (wrap64 (((rd_T40 x0 x5).f1) - 1)) then (if (wrap64 (((rd_T40 x0 x5).f1) - 1)) < (x4.length : Int) then (spec_CountClasses.l0 k x0 (x4.set ((wrap64 (((rd_T40 x0 x5).f1) - 1)) : Int).toNat (wrap64 ((rd x4 (wrap64 (((rd_T40 x0 x5).f1) - 1))) + 1))) (wrap64 (x5 + 1))) else (none)) else (none)) else (none)) else (some (x4, 0))
def spec_CountClasses.f (k : Nat) (l0 : List (S40)) : Option (List Int × Int) := (spec_l16Ok.f k l0).bind fun t309 => (if t309 = true then (if 6 ≤ 35184372088832 then (spec_CountClasses.l0 k l0 (List.replicate 6 0) 0) else (none)) else (some (([] : List Int), 1)))
theorem spec_CountClasses.mono_l : ∀ k, (∀ y0 y1 y2, LeO (spec_CountClasses.l0 k y0 y1 y2) (spec_CountClasses.l0 (k + 1) y0 y1 y2))
 | 0 => fun _ _ _ r h => by simp [spec_CountClasses.l0] at h
 | k + 1 => by
  have ih0 := spec_CountClasses.mono_l k
  ·intro y0 y1 y2
   unfold spec_CountClasses.l0
   repeat' first | with_reducible (first | exact ih0 _ _ _ | exact spec_l16Ok.mono _ _ | exact LeO.refl _ | exact LeO.none _ | refine LeO.ite ?_ ?_ | refine LeO.bind ?_ (fun _ => ?_)) | exact ih0 _ _ _ | exact spec_l16Ok.mono _ _ | exact LeO.none _ | refine LeO.ite ?_ ?_ | refine LeO.bind ?_ (fun _ => ?_)
theorem spec_CountClasses.mono : ∀ a0 k, LeO (spec_CountClasses.f k a0) (spec_CountClasses.f (k + 1) a0) := by
 intro a0 k;(have ih0 := spec_CountClasses.mono_l k);(unfold spec_CountClasses.f)
 repeat' first | with_reducible (first | exact ih0 _ _ _ | exact spec_l16Ok.mono _ _ | exact LeO.refl _ | exact LeO.none _ | refine LeO.ite ?_ ?_ | refine LeO.bind ?_ (fun _ => ?_)) | exact ih0 _ _ _ | exact spec_l16Ok.mono _ _ | exact LeO.none _ | refine LeO.ite ?_ ?_ | refine LeO.bind ?_ (fun _ => ?_)
theorem spec_CountClasses.calls (k : Nat) (A0 : Option Addr) (c0 : Nat) (l0 : List (S40)) (r1 : List Int) (r2 : Int) (w : World) (hr0 : Kd.C k40 w A0 l0.length l0) (hc0 : l0.length ≤ c0) (h : spec_CountClasses.f k l0 = some (r1, r2)) :
  Calls Tryz.prog 9 #[.slice A0 l0.length c0] w fun e w' => ∃ v0_ : Value, e = .returned (.tuple #[v0_, .int .i64 r2]) ∧ Kd.R (Kd.int .i64) 2 w' w.heap.size (fun _ => True) v0_ r1 ∧ Below w.heap.size w w' := by
 (have HR0 := Aside0.mk hr0);(have HC0 := Aside0.mk hc0);clear hr0 hc0;(have HB := Aside0.mk (Below.refl w.heap.size w));(have H : ((spec_l16Ok.f k l0).bind fun t309 => (if t309 = true then (if 6 ≤ 35184372088832 then (spec_CountClasses.l0 k l0 (List.replicate 6 0) 0) else (none)) else (some (([] : List Int), 1)))) = some (r1, r2) := h);clear h;(replace H := Option.bind_eq_some_iff.mp H);(obtain ⟨t309, A20, H⟩ := H);(replace H : (if t309 = true then (if 6 ≤ 35184372088832 then (spec_CountClasses.l0 k l0 (List.replicate 6 0) 0) else (none)) else (some (([] : List Int), 1))) = some (r1, r2) := H);(have A2 := Aside0.mk A20);clear A20;(by_cases c3 : t309 = true)
 ·subst c3
  (have H1 : (if 6 ≤ 35184372088832 then (spec_CountClasses.l0 k l0 (List.replicate 6 0) 0) else (none)) = some (r1, r2) := zq97);clear H;(have H := H1);clear H1;(by_cases c4 : 6 ≤ 35184372088832)
  ·rw [if_pos c4] at H
   (have c4b0 := eq_true c4);(have c4b1 : decide (6 ≤ 35184372088832) = true := decide_eq_true c4);clear c4;(obtain ⟨y310, hy_⟩ : ∃ y_ : List Int, y_ = (List.replicate 6 0) := ⟨_, rfl⟩);(replace H : (spec_CountClasses.l0 k l0 y310 0) = some (r1, r2) := zq26);(have Ny310 := Aside0.mk hy_);clear hy_;(have H' := Aside0.mk H);clear H
   go_enter Tryz.func9, Tryz.ntmps9
   go_wp2_with (first | ((with_reducible refine gate_callee (f := 32) rfl ?_); refine goesL_ (some 7) rfl rfl Tryz.func32 (by kernel_rfl) rfl #[.slice A0 l0.length c0] rfl zq0 ?_; (with_reducible refine (spec_l16Ok.calls k _ _ l0 true _ ?side1 ?side2 A2.out).mono ?_); (case side1 => exact zq88); (case side2 => exact HC0.out); rintro e w5 ⟨rfl, hb⟩; refine ⟨_, rfl, ?_⟩; have n0_ := Aside0.mk (below_step zq66 hb); clear HB; have HB := n0_; clear n0_; (try clear hb); (try clear hb2); (try clear hk); (try clear hi)) | ((with_reducible refine gate_dst (N := 9) rfl ?_); refine Kd.R_make (Kd.int .i64) _ 2 rfl (N := 9) rfl 27 _ _ rfl 6 rfl rfl Tryz.underlying27 (.int .i64 0) 8 info2 rfl (by decide) (by omega) 0 (ok := fun _ => True) (okp := fun _ => True) rfl (fun _ hk => hk) trivial (by omega) (by omega) (Below.refl _ _) (Nat.le_refl _) ?_; intro v311 w6 ho7 hb hg_ hnew_; clear hg_ hnew_; (first | rw [← Ny310.out] at ho7 | (simp only [Int.reduceToNat] at ho7; rw [← Ny310.out] at ho7)); have n0_ := Aside0.mk (Kd.R_lower ho7 (below_size zq66)); have n1_ := Aside0.mk (below_step zq66 hb); clear HB; have HO312 := n0_; have HB := n1_; clear n0_ n1_; clear hb ho7))
   go_loopg [5] k (fun kq v5 w' => ∃ (x4_1 : List Int) (x5_1 : Int), v5 = .int .i64 x5_1 ∧ Aside0 (spec_CountClasses.l0 kq l0 x4_1 x5_1 = some (r1, r2)) ∧ Aside0 (kq ≤ k) ∧ Aside0 (Kd.R (Kd.int .i64) 2 w' w.heap.size (fun _ => True) v311 x4_1) ∧ Aside0 (Below w.heap.size w w'))
   case atStart => exact ⟨(y310), (0), zq34, H', ⟨Nat.le_refl _⟩, ⟨zR HO312.out⟩, ⟨zq66⟩⟩
   case round =>
    clear H';(try clear p2);(try clear c3);(try clear c4);(try clear c4b0);(try clear c4b1);(obtain ⟨x4_1, x5_1, rfl, HA, HK1, HO_4, HB⟩ := hrel)
    cases gk with
    | zero => exact absurd HA.out (by simp [spec_CountClasses.l0])
    | succ k1 =>
     (have H := HA.out);clear HA;(simp only [spec_CountClasses.l0] at H);(by_cases c8 : x5_1 < (l0.length : Int))
     ·rw [if_pos c8] at H
      (have c8b0 : decide (x5_1 < (l0.length : Int)) = true := decide_eq_true c8);clear c8;(by_cases c9 : 0 ≤ x5_1)
      ·rw [if_pos c9] at H
       (have c9b0 : decide (0 ≤ x5_1) = true := decide_eq_true c9);clear c9;(obtain ⟨ji10, hji10⟩ : ∃ j_ : Int, (wrap64 (((rd_T40 l0 x5_1).f1) - 1)) = j_ := ⟨_, rfl⟩);(replace H : (if 0 ≤ (ji10) then (if (ji10) < (x4_1.length : Int) then (spec_CountClasses.l0 k1 l0 (x4_1.set ((ji10) : Int).toNat (wrap64 ((rd x4_1 (ji10)) + 1))) (wrap64 (x5_1 + 1))) else (none)) else (none)) = some (r1, r2) := by first | (rw [hji10] at H; exact H) | (simp only [hji10] at H ⊢; exact H));(have hji10w : (IntKind.i64.wrap (((rd_T40 l0 x5_1).f1) - 1)) = ji10 := (i64_w _).trans hji10);(by_cases c11 : 0 ≤ (ji10))
       ·rw [if_pos c11] at H
        (have c11b0 : decide (0 ≤ (ji10)) = true := decide_eq_true c11);clear c11;(by_cases c12 : (ji10) < (x4_1.length : Int))
        ·rw [if_pos c12] at H
         (have c12b0 : decide ((ji10) < (x4_1.length : Int)) = true := decide_eq_true c12);clear c12;(obtain ⟨y315, hy_⟩ : ∃ y_ : List Int, y_ = (x4_1.set ((ji10) : Int).toNat (wrap64 ((rd x4_1 (ji10)) + 1))) := ⟨_, rfl⟩);(replace H : (spec_CountClasses.l0 k1 l0 y315 (wrap64 (x5_1 + 1))) = some (r1, r2) := zq26);(have Ny315 := Aside0.mk hy_);clear hy_;(have H' := Aside0.mk H);clear H;(have p313 : 0 ≤ (x5_1 : Int) := of_decide_eq_true zq27);(have q313 : x5_1 < (l0.length : Int) := of_decide_eq_true zq27);(obtain ⟨ad313, e313, hx313_0, hx313_1, hx313_2, hx313_3⟩ := at_T40 HR0.out x5_1 p313 q313)
         cases e313
         (replace hx313_0 := (HB.out.cell (World.block_lt_of_cell? w _ hx313_0)).trans hx313_0);(replace hx313_1 := (HB.out.cell (World.block_lt_of_cell? w _ hx313_1)).trans hx313_1);(replace hx313_2 := (HB.out.cell (World.block_lt_of_cell? w _ hx313_2)).trans hx313_2);(replace hx313_3 := (HB.out.cell (World.block_lt_of_cell? w _ hx313_3)).trans hx313_3);(replace p313 := eq_true p313);(replace q313 := eq_true q313);(obtain ⟨Ao14, co14, eo14⟩ := Kd.R_slice HO_4.out);subst eo14;(have p314 : 0 ≤ ((ji10) : Int) := of_decide_eq_true zq27);(have q314 : (ji10) < (x4_1.length : Int) := of_decide_eq_true zq27);(obtain ⟨ad314, e314, hx314_0⟩ := Kd.at_int (Kd.R_reads' HO_4.out).2.2 (ji10) p314 q314)
         cases e314
         (replace p314 := eq_true p314);(replace q314 := eq_true q314);(have p13 : 0 ≤ ((ji10) : Int) := of_decide_eq_true zq27);(have q13 : ((ji10) : Int) < ((x4_1.length : Int) : Int) := of_decide_eq_true zq27);(obtain ⟨go13, co13, eo13, gb13, gl13, cl13, HG13⟩ := Kd.R_form HO_4.out (by omega));((first | cases eo13 | (injection eo13 with ea_ en_ ec_; (first | subst ea_ | (injection ea_ with ea_; subst ea_)); subst ec_; clear en_)));(have GB13 := Aside0.mk gb13);(have GG13 := Aside0.mk HG13);clear gb13 gl13 HG13;((first | simp only [add_plain] at hx314_0 | skip));(obtain ⟨hx13_0, hf13_0⟩ := Kd.R_celln 0 HO_4.out ((ji10) : Int) p13 q13);(replace p13 := eq_true p13);(replace q13 := eq_true q13);(have HP15 := Kd.R_putg HO_4.out ((ji10) : Int) (wrap64 ((rd x4_1 (ji10)) + 1)));(go_wp2_with (first | ((with_reducible refine gate_store (t := 2) (p := 26) rfl ?_); refine store_event (t := 2) (p := 26) (v := ?vo_w16) (w1 := (wr.setCell ⟨go13, ((ji10) : Int).toNat, none⟩ (.int .i64 (wrap64 ((rd x4_1 (ji10)) + 1))))) ?hg ?ho ?hn ?hr ?_; (case ho => rfl); (case hg => rfl); (case hn => rfl); (case hr => first | (go_simp; done) | (go_simp; rfl)); intro w16 hw; have hg : wr.grownBy w16 (some go13) := (by rw [hw]; exact HP15.2); have hp_ : Kd.R (Kd.int .i64) 2 w16 w.heap.size (fun _ => True) (.slice (some ⟨go13, 0, none⟩) x4_1.length co14) y315 := (by rw [hw, Ny315.out]; exact HP15.1); clear HP15; have n0_ := Aside0.mk (hp_); have n1_ := Aside0.mk ((by rw [hw]; exact below_set (HB.out) GB13.out : Below w.heap.size w w16)); clear HO_4; clear HB; have HO_4 := n0_; have HB := n1_; clear n0_ n1_; clear hg hw hp_)));(go_roundg k1)
         case measure => have := HK1.out; omega
         case rel => exact ⟨(y315), (wrap64 (x5_1 + 1)), zq34, H', ⟨zq40⟩, ⟨zR HO_4.out⟩, ⟨zq66⟩⟩
        ·rw [if_neg c12] at H
         exact absurd H (by simp)
       ·rw [if_neg c11] at H
        exact absurd H (by simp)
      ·rw [if_neg c9] at H
       exact absurd H (by simp)
     ·rw [if_neg c8] at H
      (have c8b0 : decide (x5_1 < (l0.length : Int)) = false := decide_eq_false c8);clear c8;(simp only [Option.some.injEq, Prod.mk.injEq] at H);(obtain ⟨rfl, rfl⟩ := H);(go_wp2);(go_ret2);(exact ⟨_, zq31, zR HO_4.out, zq66⟩)
  ·rw [if_neg c4] at H
   exact absurd H (by simp)
 ·replace c3 := Bool.eq_false_iff.mpr c3
  subst c3;(have H1 : (some (([] : List Int), 1)) = some (r1, r2) := zq96);clear H;(have H := H1);clear H1;(simp only [Option.some.injEq, Prod.mk.injEq] at H);(obtain ⟨rfl, rfl⟩ := H)
  go_enter Tryz.func9, Tryz.ntmps9
  (go_wp2_with (first | ((with_reducible refine gate_callee (f := 32) rfl ?_); refine goesL_ (some 7) rfl rfl Tryz.func32 (by kernel_rfl) rfl #[.slice A0 l0.length c0] rfl zq0 ?_; (with_reducible refine (spec_l16Ok.calls k _ _ l0 false _ ?side1 ?side2 A2.out).mono ?_); (case side1 => exact zq88); (case side2 => exact HC0.out); rintro e w17 ⟨rfl, hb⟩; refine ⟨_, rfl, ?_⟩; have n0_ := Aside0.mk (below_step zq66 hb); clear HB; have HB := n0_; clear n0_; (try clear hb); (try clear hb2); (try clear hk); (try clear hi))));(go_ret2);(exact ⟨_, zq31, zq28, zq66⟩)

end Go.Proofs.YtnjalpniedpgmaaGreatDoor.PFnCatalogues
