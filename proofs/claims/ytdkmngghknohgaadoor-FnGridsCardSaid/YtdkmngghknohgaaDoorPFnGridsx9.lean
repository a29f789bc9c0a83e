-- Made by a program of this session (gprint.py) out of the kit's print of the translation and texts of my own. SLIM
import Derived.Test.YtdkmngghknohgaaDoorPFnGridsx0
import Derived.Test.YtdkmngghknohgaaDoorPFnGridsx5
import Derived.Test.YtdkmngghknohgaaDoorPFnGridsx7
import Derived.Test.YtdkmngghknohgaaDoorPFnGridsx8
namespace Go.Proofs.YtdkmngghknohgaaDoor.PFnGrids
open Go.RowKit Go.Proofs.YtdkmngghknohgaaDoorW.PrintWords Go.Proofs.YtdkmngghknohgaaDoorW.PrintLast Go.Proofs.YtdkmngghknohgaaDoorW.PrintMore
set_option maxHeartbeats 64000000
set_option maxRecDepth 100000
attribute [local go_sem] max2_int min2_int max_two min_two max_three min_three max_four min_four   -- for this text's walks alone
set_option linter.unusedVariables false
set_option linter.unusedSimpArgs false

/-! ### spec_GridBorders: function 23 -/
mutual
def spec_GridBorders.l0 : Nat → List ByteArray → ByteArray → List ByteArray → Int → Option (List ByteArray × Int)
 | 0, _, _, _, _ => none
 | k + 1, x0, x4, x5, x6 => if x6 < (x4.size : Int) then (spec_GridBorders.l1 k x0 x4 x5 x6 (wrap64 (x6 + 1))) else (some (x5, 0))
def spec_GridBorders.l1 : Nat → List ByteArray → ByteArray → List ByteArray → Int → Int → Option (List ByteArray × Int)
 | 0, _, _, _, _, _ => none
 | k + 1, x0, x4, x5, x6, x7 => if x7 < (x4.size : Int) then (if 0 ≤ x6 then (if x6 < (x4.size : Int) then (if 0 ≤ x7 then ((spec_l12Meet.f k x0 (bt x4 x6) (bt x4 x7)).bind fun t314 => (if t314 = true then (if x6 ≤ (wrap64 (x6 + 1)) then (if (wrap64 (x6 + 1)) ≤ (x4.size : Int) then (if x7 ≤ (wrap64 (x7 + 1)) then (if (wrap64 (x7 + 1)) ≤ (x4.size : Int) then (if (x4.extract (x6 : Int).toNat ((wrap64 (x6 + 1)) : Int).toNat).size + (x4.extract (x7 : Int).toNat ((wrap64 (x7 + 1)) : Int).toNat).size ≤ 9223372036854775807 then (if x5.length < 8796093022208 then (spec_GridBorders.l1 k x0 x4 (x5 ++ [(x4.extract (x6 : Int).toNat ((wrap64 (x6 + 1)) : Int).toNat) ++ (x4.extract (x7 : Int).toNat ((wrap64 (x7 + 1)) : Int).toNat)]) x6 (wrap64 (x7 + 1))) else (none)) else (none)) else (none)) else (none)) else (none)) else (none)) else (spec_GridBorders.l1 k x0 x4 x5 x6 (wrap64 (x7 + 1))))) else (none)) else (none)) else (none)) else (spec_GridBorders.l0 k x0 x4 x5 (wrap64 (x6 + 1)))
end
def spec_GridBorders.f (k : Nat) (l0 : List ByteArray) : Option (List ByteArray × Int) := (spec_l12Ok.f k l0).bind fun t309 => (if t309 = true then ((spec_l12Lands.f k l0).bind fun t310 => (spec_GridBorders.l0 k l0 t310 (([] : List ByteArray)) 0)) else (some (([] : List ByteArray), 1)))
theorem spec_GridBorders.mono_l : ∀ k, (∀ y0 y1 y2 y3, LeO (spec_GridBorders.l0 k y0 y1 y2 y3) (spec_GridBorders.l0 (k + 1) y0 y1 y2 y3)) ∧ (∀ y0 y1 y2 y3 y4, LeO (spec_GridBorders.l1 k y0 y1 y2 y3 y4) (spec_GridBorders.l1 (k + 1) y0 y1 y2 y3 y4))
 | 0 => ⟨fun _ _ _ _ r h => by simp [spec_GridBorders.l0] at h, fun _ _ _ _ _ r h => by simp [spec_GridBorders.l1] at h⟩
 | k + 1 => by
  (obtain ⟨ih0, ih1⟩ := spec_GridBorders.mono_l k);(refine ⟨?_, ?_⟩)
  ·intro y0 y1 y2 y3
   unfold spec_GridBorders.l0
   repeat' first | with_reducible (first | exact ih0 _ _ _ _ | exact ih1 _ _ _ _ _ | exact spec_l12Lands.mono _ _ | exact spec_l12Meet.mono _ _ _ _ | exact spec_l12Ok.mono _ _ | exact LeO.refl _ | exact LeO.none _ | refine LeO.ite ?_ ?_ | refine LeO.bind ?_ (fun _ => ?_)) | exact ih0 _ _ _ _ | exact ih1 _ _ _ _ _ | exact spec_l12Lands.mono _ _ | exact spec_l12Meet.mono _ _ _ _ | exact spec_l12Ok.mono _ _ | exact LeO.none _ | refine LeO.ite ?_ ?_ | refine LeO.bind ?_ (fun _ => ?_)
  ·intro y0 y1 y2 y3 y4
   unfold spec_GridBorders.l1
   repeat' first | with_reducible (first | exact ih0 _ _ _ _ | exact ih1 _ _ _ _ _ | exact spec_l12Lands.mono _ _ | exact spec_l12Meet.mono _ _ _ _ | exact spec_l12Ok.mono _ _ | exact LeO.refl _ | exact LeO.none _ | refine LeO.ite ?_ ?_ | refine LeO.bind ?_ (fun _ => ?_)) | exact ih0 _ _ _ _ | exact ih1 _ _ _ _ _ | exact spec_l12Lands.mono _ _ | exact spec_l12Meet.mono _ _ _ _ | exact spec_l12Ok.mono _ _ | exact LeO.none _ | refine LeO.ite ?_ ?_ | refine LeO.bind ?_ (fun _ => ?_)
theorem spec_GridBorders.mono : ∀ a0 k, LeO (spec_GridBorders.f k a0) (spec_GridBorders.f (k + 1) a0) := by
 intro a0 k;(obtain ⟨ih0, ih1⟩ := spec_GridBorders.mono_l k);(unfold spec_GridBorders.f)
 repeat' first | with_reducible (first | exact ih0 _ _ _ _ | exact ih1 _ _ _ _ _ | exact spec_l12Lands.mono _ _ | exact spec_l12Meet.mono _ _ _ _ | exact spec_l12Ok.mono _ _ | exact LeO.refl _ | exact LeO.none _ | refine LeO.ite ?_ ?_ | refine LeO.bind ?_ (fun _ => ?_)) | exact ih0 _ _ _ _ | exact ih1 _ _ _ _ _ | exact spec_l12Lands.mono _ _ | exact spec_l12Meet.mono _ _ _ _ | exact spec_l12Ok.mono _ _ | exact LeO.none _ | refine LeO.ite ?_ ?_ | refine LeO.bind ?_ (fun _ => ?_)
def spec_GridBorders.T11 : Bool × List (List Nat × List Nat) := (true, [([], []), ([], []), ([], []), ([1, 2], [1, 2]), ([], []), ([], []), ([4, 5], [4, 5]), ([0, 3, 6], [0, 3, 6])])
def spec_GridBorders.B11 : List Nat := [0, 0, 0, 6, 0, 0, 48, 127]
theorem spec_GridBorders.tab11 : rtab .any (opsOf Tryd.f23 11) = spec_GridBorders.T11 := by kernel_rfl
theorem spec_GridBorders.bits11 : waitsOk spec_GridBorders.T11.2 spec_GridBorders.B11 = true := by kernel_rfl
def spec_GridBorders.T12 : Bool × List (List Nat × List Nat) := (true, [([], []), ([], []), ([], []), ([], []), ([3], [3]), ([1, 2, 4], [1, 2, 4]), ([], []), ([], []), ([], []), ([8], [8]), ([6, 7, 9], [6, 7, 9]), ([5, 10], [5, 10]), ([11], [11]), ([0, 12], [0, 12]), ([13, 13, 0, 1, 2, 3, 4, 5, 6, 7, 8, 9, 10, 11, 12, 13], [0, 13])])
def spec_GridBorders.B12 : List Nat := [0, 0, 0, 0, 8, 30, 0, 0, 0, 256, 960, 2046, 4094, 8191, 16383]
theorem spec_GridBorders.tab12 : rtab .any (opsOf Tryd.f23 12) = spec_GridBorders.T12 := by kernel_rfl
theorem spec_GridBorders.bits12 : waitsOk spec_GridBorders.T12.2 spec_GridBorders.B12 = true := by kernel_rfl
theorem spec_GridBorders.calls (k : Nat) (A0 : Option Addr) (c0 : Nat) (l0 : List ByteArray) (r1 : List ByteArray) (r2 : Int) (w : World) (hr0 : Kd.C Kd.string w A0 l0.length l0) (hc0 : l0.length ≤ c0) (h : spec_GridBorders.f k l0 = some (r1, r2)) :
  Calls Tryd.prog 23 #[.slice A0 l0.length c0] w fun e w' => ∃ v0_ : Value, e = .returned (.tuple #[v0_, .int .i64 r2]) ∧ Kd.R Kd.string 9 w' w.heap.size (fun _ => True) v0_ r1 ∧ Below w.heap.size w w' := by
 (have HR0 := Aside0.mk hr0);(have HC0 := Aside0.mk hc0);clear hr0 hc0;(have HB := Aside0.mk (Below.refl w.heap.size w));(have H : ((spec_l12Ok.f k l0).bind fun t309 => (if t309 = true then ((spec_l12Lands.f k l0).bind fun t310 => (spec_GridBorders.l0 k l0 t310 (([] : List ByteArray)) 0)) else (some (([] : List ByteArray), 1)))) = some (r1, r2) := h);clear h;(replace H := Option.bind_eq_some_iff.mp H);(obtain ⟨t309, A20, H⟩ := H);(replace H : (if t309 = true then ((spec_l12Lands.f k l0).bind fun t310 => (spec_GridBorders.l0 k l0 t310 (([] : List ByteArray)) 0)) else (some (([] : List ByteArray), 1))) = some (r1, r2) := H);(have A2 := Aside0.mk A20);clear A20;(by_cases c3 : t309 = true)
 ·subst c3
  (have H1 : ((spec_l12Lands.f k l0).bind fun t310 => (spec_GridBorders.l0 k l0 t310 (([] : List ByteArray)) 0)) = some (r1, r2) := zq62);clear H;(have H := H1);clear H1;(replace H := Option.bind_eq_some_iff.mp H);(obtain ⟨t310, A40, H⟩ := H);(replace H : (spec_GridBorders.l0 k l0 t310 (([] : List ByteArray)) 0) = some (r1, r2) := H);(have A4 := Aside0.mk A40);clear A40;(obtain ⟨y311, hy_⟩ : ∃ y_ : List ByteArray, y_ = (([] : List ByteArray)) := ⟨_, rfl⟩);(replace H : (spec_GridBorders.l0 k l0 t310 y311 0) = some (r1, r2) := zq20);(have Ny311 := Aside0.mk hy_);clear hy_;(have H' := Aside0.mk H);clear H
  go_enter Tryd.func23, Tryd.ntmps23
  go_wp2_with (first | ((with_reducible refine gate_callee (f := 52) rfl ?_); refine goesL_ (some 9) rfl rfl Tryd.func52 (by kernel_rfl) rfl #[.slice A0 l0.length c0] rfl zq0 ?_; (with_reducible refine (spec_l12Ok.calls k _ _ l0 true _ ?side1 ?side2 A2.out).mono ?_); (case side1 => exact zq55); (case side2 => exact HC0.out); rintro e w' ⟨rfl, ⟨nd, rfl⟩⟩; refine ⟨_, rfl, ?_⟩) | ((with_reducible refine gate_callee (f := 55) rfl ?_); refine goesL_ (some 12) rfl rfl Tryd.func55 (by kernel_rfl) rfl #[.slice A0 l0.length c0] rfl zq0 ?_; (with_reducible refine (spec_l12Lands.calls k _ _ l0 t310 _ ?side1 ?side2 A4.out).mono ?_); (case side1 => exact zq55); (case side2 => exact HC0.out); rintro e w5 ⟨rfl, hb⟩; refine ⟨_, rfl, ?_⟩; have n0_ := Aside0.mk (below_step zq47 hb); clear HB; have HB := n0_; clear n0_; (try clear hb); (try clear hb2); (try clear hk); (try clear hi)) | ((with_reducible refine gate_dst (N := 13) rfl ?_); refine Kd.R_lit Kd.string _ 9 ?hg (N := 13) ?hd (xs := ([] : List ByteArray)) (inner := []) (ok := fun _ => True) (okp := fun _ => True) ?hr ?hp (fun _ hk => hk) trivial (Below.refl _ _) (Nat.le_refl _) (by simp) ?_; (case hd => rfl); (case hg => rfl); (case hr => first | (go_simp; done) | (go_simp; rfl)); (case hp => exact (Reps.none _ _)); intro v312 w6 ho7 hb hg_ hnew_; clear hg_ hnew_; (first | rw [← Ny311.out] at ho7 | (simp only [Int.reduceToNat] at ho7; rw [← Ny311.out] at ho7)); have n0_ := Aside0.mk (Kd.R_lower ho7 (below_size zq47)); have n1_ := Aside0.mk (below_step zq47 hb); clear HB; have HO313 := n0_; have HB := n1_; clear n0_ n1_; clear hb ho7))
  go_loopg [5, 6] k (fun kq v5 v6 w' => ∃ (x5_1 : List ByteArray) (x6_1 : Int), v6 = .int .i64 x6_1 ∧ Aside0 (spec_GridBorders.l0 kq l0 t310 x5_1 x6_1 = some (r1, r2)) ∧ Aside0 (kq ≤ k) ∧ Aside0 (Kd.R Kd.string 9 w' w.heap.size (fun _ => True) v5 x5_1) ∧ Aside0 (Below w.heap.size w w'))
  case atStart => exact ⟨(y311), (0), zq26, H', ⟨Nat.le_refl _⟩, ⟨zR HO313.out⟩, ⟨zq47⟩⟩
  case round =>
   clear H';(try clear c2);(try clear p2);(try clear c3);(try clear c5);(obtain ⟨x5_1, x6_1, rfl, HA, HK1, HO_5, HB⟩ := hrel)
   cases gk with
   | zero => exact absurd HA.out (by simp [spec_GridBorders.l0])
   | succ k1 =>
    (have H := HA.out);clear HA;(simp only [spec_GridBorders.l0] at H);(by_cases c8 : x6_1 < (t310.size : Int))
    ·rw [if_pos c8] at H
     (have c8b0 : decide (x6_1 < (t310.size : Int)) = true := decide_eq_true c8);clear c8;(have H' := Aside0.mk H);clear H;(go_wp2)
     go_loopg [5, 7] k1 (fun kq v5 v7 w' => ∃ (x5_2 : List ByteArray) (x7_2 : Int), v7 = .int .i64 x7_2 ∧ Aside0 (spec_GridBorders.l1 kq l0 t310 x5_2 x6_1 x7_2 = some (r1, r2)) ∧ Aside0 (kq ≤ k1) ∧ Aside0 (Kd.R Kd.string 9 w' w.heap.size (fun _ => True) v5 x5_2) ∧ Aside0 (Below w.heap.size w w'))
     case atStart => exact ⟨(x5_1), (wrap64 (x6_1 + 1)), zq26, H', ⟨Nat.le_refl _⟩, ⟨zR HO_5.out⟩, ⟨zq47⟩⟩
     case round =>
      clear H';(try clear c2);(try clear p2);(try clear c3);(try clear c5);(try clear p6);(try clear c8);(try clear c8b0);(try clear p2);(obtain ⟨x5_2, x7_2, rfl, HA, HK2, HO_5, HB⟩ := hrel)
      cases gk with
      | zero => exact absurd HA.out (by simp [spec_GridBorders.l1])
      | succ k2 =>
       (have H := HA.out);clear HA;(simp only [spec_GridBorders.l1] at H);(by_cases c9 : x7_2 < (t310.size : Int))
       ·rw [if_pos c9] at H
        (have c9b0 : decide (x7_2 < (t310.size : Int)) = true := decide_eq_true c9);clear c9;(by_cases c10 : 0 ≤ x6_1)
        ·rw [if_pos c10] at H
         (have c10b0 : decide (0 ≤ x6_1) = true := decide_eq_true c10);clear c10;(by_cases c11 : x6_1 < (t310.size : Int))
         ·rw [if_pos c11] at H
          (have c11b0 : decide (x6_1 < (t310.size : Int)) = true := decide_eq_true c11);clear c11;(by_cases c13 : 0 ≤ x7_2)
          ·rw [if_pos c13] at H
           (have c13b0 : decide (0 ≤ x7_2) = true := decide_eq_true c13);clear c13;(replace H := Option.bind_eq_some_iff.mp H);(obtain ⟨t314, A150, H⟩ := H);(replace H : (if t314 = true then (if x6_1 ≤ (wrap64 (x6_1 + 1)) then (if (wrap64 (x6_1 + 1)) ≤ (t310.size : Int) then (if x7_2 ≤ (wrap64 (x7_2 + 1)) then (if (wrap64 (x7_2 + 1)) ≤ (t310.size : Int) then (if (t310.extract (x6_1 : Int).toNat ((wrap64 (x6_1 + 1)) : Int).toNat).size + (t310.extract (x7_2 : Int).toNat ((wrap64 (x7_2 + 1)) : Int).toNat).size ≤ 9223372036854775807 then (if x5_2.length < 8796093022208 then (spec_GridBorders.l1 k2 l0 t310 (x5_2 ++ [(t310.extract (x6_1 : Int).toNat ((wrap64 (x6_1 + 1)) : Int).toNat) ++ (t310.extract (x7_2 : Int).toNat ((wrap64 (x7_2 + 1)) : Int).toNat)]) x6_1 (wrap64 (x7_2 + 1))) else (none)) else (none)) else (none)) else (none)) else (none)) else (none)) else (spec_GridBorders.l1 k2 l0 t310 x5_2 x6_1 (wrap64 (x7_2 + 1)))) = some (r1, r2) := H);(have A15 := Aside0.mk A150);clear A150;(by_cases c16 : t314 = true)
           ·subst c16
            (have H1 : (if x6_1 ≤ (wrap64 (x6_1 + 1)) then (if (wrap64 (x6_1 + 1)) ≤ (t310.size : Int) then (if x7_2 ≤ (wrap64 (x7_2 + 1)) then (if (wrap64 (x7_2 + 1)) ≤ (t310.size : Int) then (if (t310.extract (x6_1 : Int).toNat ((wrap64 (x6_1 + 1)) : Int).toNat).size + (t310.extract (x7_2 : Int).toNat ((wrap64 (x7_2 + 1)) : Int).toNat).size ≤ 9223372036854775807 then (if x5_2.length < 8796093022208 then (spec_GridBorders.l1 k2 l0 t310 (x5_2 ++ [(t310.extract (x6_1 : Int).toNat ((wrap64 (x6_1 + 1)) : Int).toNat) ++ (t310.extract (x7_2 : Int).toNat ((wrap64 (x7_2 + 1)) : Int).toNat)]) x6_1 (wrap64 (x7_2 + 1))) else (none)) else (none)) else (none)) else (none)) else (none)) else (none)) = some (r1, r2) := zq62);clear H;(have H := H1);clear H1;(have c17b0 := eq_true (of_decide_eq_true zq21 : 0 ≤ x6_1));(by_cases c18 : x6_1 ≤ (wrap64 (x6_1 + 1)))
            ·rw [if_pos c18] at H
             (have c18b0 := eq_true c18);(have c18b1 : decide (x6_1 ≤ (wrap64 (x6_1 + 1))) = true := decide_eq_true c18);(by_cases c19 : (wrap64 (x6_1 + 1)) ≤ (t310.size : Int))
             ·rw [if_pos c19] at H
              (have c19b0 := eq_true c19);(have c19b1 : decide ((wrap64 (x6_1 + 1)) ≤ (t310.size : Int)) = true := decide_eq_true c19);(have c20b0 := eq_true (of_decide_eq_true zq21 : 0 ≤ x7_2));(by_cases c21 : x7_2 ≤ (wrap64 (x7_2 + 1)))
              ·rw [if_pos c21] at H
               (have c21b0 := eq_true c21);(have c21b1 : decide (x7_2 ≤ (wrap64 (x7_2 + 1))) = true := decide_eq_true c21);(by_cases c22 : (wrap64 (x7_2 + 1)) ≤ (t310.size : Int))
               ·rw [if_pos c22] at H
                (have c22b0 := eq_true c22);(have c22b1 : decide ((wrap64 (x7_2 + 1)) ≤ (t310.size : Int)) = true := decide_eq_true c22);(by_cases c23 : (t310.extract (x6_1 : Int).toNat ((wrap64 (x6_1 + 1)) : Int).toNat).size + (t310.extract (x7_2 : Int).toNat ((wrap64 (x7_2 + 1)) : Int).toNat).size ≤ 9223372036854775807)
                ·rw [if_pos c23] at H
                 (have c23b0 := eq_true c23);(have c23b1 : decide ((t310.extract (x6_1 : Int).toNat ((wrap64 (x6_1 + 1)) : Int).toNat).size + (t310.extract (x7_2 : Int).toNat ((wrap64 (x7_2 + 1)) : Int).toNat).size ≤ 9223372036854775807) = true := decide_eq_true c23);(try have c23b2 : (9223372036854775807 < (t310.extract (x6_1 : Int).toNat ((wrap64 (x6_1 + 1)) : Int).toNat).size + (t310.extract (x7_2 : Int).toNat ((wrap64 (x7_2 + 1)) : Int).toNat).size) = False := eq_false (Nat.not_lt.2 c23));(have c23b5 : (9223372036854775807 < ((wrap64 (x6_1 + 1)).toNat - x6_1.toNat) + ((wrap64 (x7_2 + 1)).toNat - x7_2.toNat)) = False := eq_false (by have z_ := Nat.not_lt.2 c23; simp only [ByteArray.size_extract] at z_; omega));(by_cases c24 : x5_2.length < 8796093022208)
                 ·rw [if_pos c24] at H
                  (have LMc24 := Aside0.mk c24);clear c24;(obtain ⟨y315, hy_⟩ : ∃ y_ : List ByteArray, y_ = (x5_2 ++ [(t310.extract (x6_1 : Int).toNat ((wrap64 (x6_1 + 1)) : Int).toNat) ++ (t310.extract (x7_2 : Int).toNat ((wrap64 (x7_2 + 1)) : Int).toNat)]) := ⟨_, rfl⟩);(replace H : (spec_GridBorders.l1 k2 l0 t310 y315 x6_1 (wrap64 (x7_2 + 1))) = some (r1, r2) := zq20);(have Ny315 := Aside0.mk hy_);clear hy_;(have H' := Aside0.mk H);clear H;(try go_wp2);(have n0_ := Aside0.mk (Kd.R_drew HO_5.out));(have n1_ := Aside0.mk (below_drew1 HB.out));clear HO_5;clear HB;(have HO_5 := n0_);(have HB := n1_);clear n0_ n1_;(have p12 : 0 ≤ (x6_1 : Int) := of_decide_eq_true zq21);(have q12 : x6_1 < (t310.size : Int) := of_decide_eq_true zq21);(have hx12 := bt_at t310 x6_1);(replace p12 := eq_true p12);(replace q12 := eq_true q12);(have p14 : 0 ≤ (x7_2 : Int) := of_decide_eq_true zq21);(have q14 : x7_2 < (t310.size : Int) := of_decide_eq_true zq21);(have hx14 := bt_at t310 x7_2);(replace p14 := eq_true p14);(replace q14 := eq_true q14);(refine start_ (n := 8) (S := fun w' => True) (ds := []) #[false,false,false,false,false,false,false,false] (by kernel_rfl) rfl rfl trivial (fun hHeld => ?_); refine with_tabW spec_GridBorders.tab11 spec_GridBorders.bits11 (fun HT_ HW_ => ?_));(generalize wr.drew = w25 at HO_5 HB hHeld ⊢);(refine pI (i := 0) (N := some 28) (v := ?_) (a' := ?_) (mB 8 1) rfl rfl HT_.out (by kernel_rfl) (fun _ _ _ h => h) rfl ?_ ?_ ?_);rotate_left
                  ·intro w'
                   go_simp;(with_reducible rfl)
                  rotate_left
                  ·simp only [Act.put, sA]
                   rfl
                  (refine pI (i := 1) (N := some 29) (v := ?_) (a' := ?_) (mB 8 3) rfl rfl HT_.out (by kernel_rfl) (fun _ _ _ h => h) rfl ?_ ?_ ?_);rotate_left
                  ·intro w'
                   go_simp;(with_reducible rfl)
                  rotate_left
                  ·simp only [Act.put, sA]
                   rfl
                  (refine pI (i := 2) (N := some 30) (v := ?_) (a' := ?_) (mB 8 7) rfl rfl HT_.out (by kernel_rfl) (fun _ _ _ h => h) rfl ?_ ?_ ?_);rotate_left
                  ·intro w'
                   go_simp;(with_reducible rfl)
                  rotate_left
                  ·simp only [Act.put, sA]
                   rfl
                  (refine pI (i := 4) (N := some 32) (v := ?_) (a' := ?_) (mB 8 23) rfl rfl HT_.out (by kernel_rfl) (fun _ _ _ h => h) rfl ?_ ?_ ?_);rotate_left
                  ·intro w'
                   go_simp;(with_reducible rfl)
                  rotate_left
                  ·simp only [Act.put, sA]
                   rfl
                  (refine pI (i := 5) (N := some 33) (v := ?_) (a' := ?_) (mB 8 55) rfl rfl HT_.out (by kernel_rfl) (fun _ _ _ h => h) rfl ?_ ?_ ?_);rotate_left
                  ·intro w'
                   go_simp;(with_reducible rfl)
                  rotate_left
                  ·simp only [Act.put, sA]
                   rfl
                  (refine tI (i := 3) (N := some 31) (v := ?_) (a' := ?_) (mB 8 63) rfl rfl HT_.out HW_.out (by kernel_rfl) (fun _ _ _ h => h) rfl ?_ hHeld ?_ ?_);rotate_left
                  ·intro w' _
                   go_simp;(with_reducible rfl)
                  rotate_left
                  ·simp only [Act.put, sA]
                   rfl
                  (refine tI (i := 6) (N := some 34) (v := ?_) (a' := ?_) (mB 8 127) rfl rfl HT_.out HW_.out (by kernel_rfl) (fun _ _ _ h => h) rfl ?_ hHeld ?_ ?_);rotate_left
                  ·intro w' _
                   go_simp;(with_reducible rfl)
                  rotate_left
                  ·simp only [Act.put, sA]
                   rfl
                  (refine one_ (i := 7) (N := some 35) (mB 8 255) rfl rfl (one_of HT_.out (by kernel_rfl)) (by decide) (fun K hK => ?_));(refine goes_ Tryd.func59 (by kernel_rfl) rfl #[.slice A0 l0.length c0, .int .u8 (bt t310 x6_1), .int .u8 (bt t310 x7_2)] (by rfl) rfl rfl zq0 ?_);(with_reducible refine (spec_l12Meet.calls k2 _ _ l0 (bt t310 x6_1) (bt t310 x7_2) true _ ?side1 ?side2 A15.out).mono ?_);((case side1 => exact zq53));((case side2 => exact HC0.out));(rintro e w' ⟨rfl, ⟨nd, rfl⟩⟩);(refine ⟨_, rfl, ?_⟩);(refine hK.out _ _ trivial (fun hHeld => ?_));clear hK K;(refine norm_ (a' := ?_) ?_ ?_);rotate_left
                  ·show Act.put _ (some 35) _ = _
                   (simp only [Act.put, sA]);rfl
                  (refine done_ (done_of HT_.out (by kernel_rfl)) ?_);(try go_wp2);((try (rw [drewN_self w25]; generalize hq_ : World.drewN w25 _ = w25; have n0_ : Aside0 (Kd.R Kd.string 9 w25 w.heap.size (fun _ => True) u5 x5_2) := ⟨by rw [← hq_]; exact (zR HO_5.out)⟩; have n1_ : Aside0 (Below w.heap.size w w25) := ⟨by rw [← hq_]; exact zq47⟩; clear HO_5 HB hq_; have HO_5 := n0_; have HB := n1_; clear n0_ n1_)));(have n0_ := Aside0.mk (Kd.R_drew HO_5.out));(have n1_ := Aside0.mk (below_drew1 HB.out));clear HO_5;clear HB;(have HO_5 := n0_);(have HB := n1_);clear n0_ n1_;(refine start_ (n := 15) (S := fun w' => True) (ds := []) #[false,false,false,false,false,false,false,false,false,false,false,false,false,false,false] (by kernel_rfl) rfl rfl trivial (fun hHeld => ?_); refine with_tabW spec_GridBorders.tab12 spec_GridBorders.bits12 (fun HT_ HW_ => ?_));(generalize w25.drew = w26 at HO_5 HB hHeld ⊢);(refine pI (i := 0) (N := some 36) (v := ?_) (a' := ?_) (mB 15 1) rfl rfl HT_.out (by kernel_rfl) (fun _ _ _ h => h) rfl ?_ ?_ ?_);rotate_left
                  ·intro w'
                   go_simp;(with_reducible rfl)
                  rotate_left
                  ·simp only [Act.put, sA]
                   rfl
                  (refine pI (i := 1) (N := some 37) (v := ?_) (a' := ?_) (mB 15 3) rfl rfl HT_.out (by kernel_rfl) (fun _ _ _ h => h) rfl ?_ ?_ ?_);rotate_left
                  ·intro w'
                   go_simp;(with_reducible rfl)
                  rotate_left
                  ·simp only [Act.put, sA]
                   rfl
                  (refine pI (i := 2) (N := some 38) (v := ?_) (a' := ?_) (mB 15 7) rfl rfl HT_.out (by kernel_rfl) (fun _ _ _ h => h) rfl ?_ ?_ ?_);rotate_left
                  ·intro w'
                   go_simp;(with_reducible rfl)
                  rotate_left
                  ·simp only [Act.put, sA]
                   rfl
                  (refine pI (i := 3) (N := some 39) (v := ?_) (a' := ?_) (mB 15 15) rfl rfl HT_.out (by kernel_rfl) (fun _ _ _ h => h) rfl ?_ ?_ ?_);rotate_left
                  ·intro w'
                   go_simp;(with_reducible rfl)
                  rotate_left
                  ·simp only [Act.put, sA]
                   rfl
                  (refine pI (i := 4) (N := some 40) (v := ?_) (a' := ?_) (mB 15 31) rfl rfl HT_.out (by kernel_rfl) (fun _ _ _ h => h) rfl ?_ ?_ ?_);rotate_left
                  ·intro w'
                   go_simp;(with_reducible rfl)
                  rotate_left
                  ·simp only [Act.put, sA]
                   rfl
                  (refine pI (i := 5) (N := some 41) (v := ?_) (a' := ?_) (mB 15 63) rfl rfl HT_.out (by kernel_rfl) (fun _ _ _ h => h) rfl ?_ ?_ ?_);rotate_left
                  ·intro w'
                   go_simp;(with_reducible rfl)
                  rotate_left
                  ·simp only [Act.put, sA]
                   rfl
                  (refine pI (i := 6) (N := some 42) (v := ?_) (a' := ?_) (mB 15 127) rfl rfl HT_.out (by kernel_rfl) (fun _ _ _ h => h) rfl ?_ ?_ ?_);rotate_left
                  ·intro w'
                   go_simp;(with_reducible rfl)
                  rotate_left
                  ·simp only [Act.put, sA]
                   rfl
                  (refine pI (i := 7) (N := some 43) (v := ?_) (a' := ?_) (mB 15 255) rfl rfl HT_.out (by kernel_rfl) (fun _ _ _ h => h) rfl ?_ ?_ ?_);rotate_left
                  ·intro w'
                   go_simp;(with_reducible rfl)
                  rotate_left
                  ·simp only [Act.put, sA]
                   rfl
                  (refine pI (i := 8) (N := some 44) (v := ?_) (a' := ?_) (mB 15 511) rfl rfl HT_.out (by kernel_rfl) (fun _ _ _ h => h) rfl ?_ ?_ ?_);rotate_left
                  ·intro w'
                   go_simp;(with_reducible rfl)
                  rotate_left
                  ·simp only [Act.put, sA]
                   rfl
                  (refine pI (i := 9) (N := some 45) (v := ?_) (a' := ?_) (mB 15 1023) rfl rfl HT_.out (by kernel_rfl) (fun _ _ _ h => h) rfl ?_ ?_ ?_);rotate_left
                  ·intro w'
                   go_simp;(with_reducible rfl)
                  rotate_left
                  ·simp only [Act.put, sA]
                   rfl
                  (refine pI (i := 10) (N := some 46) (v := ?_) (a' := ?_) (mB 15 2047) rfl rfl HT_.out (by kernel_rfl) (fun _ _ _ h => h) rfl ?_ ?_ ?_);rotate_left
                  ·intro w'
                   go_simp;(with_reducible rfl)
                  rotate_left
                  ·simp only [Act.put, sA]
                   rfl
                  (refine pI (i := 11) (N := some 47) (v := ?_) (a' := ?_) (mB 15 4095) rfl rfl HT_.out (by kernel_rfl) (fun _ _ _ h => h) rfl ?_ ?_ ?_);rotate_left
                  ·intro w'
                   go_simp;(with_reducible rfl)
                  rotate_left
                  ·simp only [Act.put, sA]
                   rfl
                  (refine one_ (i := 12) (N := some 48) (mB 15 8191) rfl rfl (one_of HT_.out (by kernel_rfl)) (by decide) (fun K hK => ?_));(refine value_ (w1 := ?_) (v := ?_) (by rfl) rfl ?_ ?_);(rotate_left 2)
                  ·go_simp
                   constructor
                   ·rfl
                   ·rfl
                  (refine hK.out _ _ trivial (fun hHeld => ?_));clear hK K;(refine norm_ (a' := ?_) ?_ ?_);rotate_left
                  ·show Act.put _ (some 48) _ = _
                   (simp only [Act.put, sA]);rfl
                  (refine one_ (i := 13) (N := some 49) (mB 15 16383) rfl rfl (one_of HT_.out (by kernel_rfl)) (by decide) (fun K hK => ?_));(refine Kd.R_append_step Kd.string (w0 := w) w.heap.size (by rfl) (.tmp 36) (.tmp 48) 24 9 (.string ⟨#[]⟩) 16 rfl Tryd.underlying24 info9 rfl (by decide) (by omega) u5 x5_2 ((t310.extract (x6_1 : Int).toNat ((wrap64 (x6_1 + 1)) : Int).toNat) ++ (t310.extract (x7_2 : Int).toNat ((wrap64 (x7_2 + 1)) : Int).toNat)) [.string ((t310.extract (x6_1 : Int).toNat ((wrap64 (x6_1 + 1)) : Int).toNat) ++ (t310.extract (x7_2 : Int).toNat ((wrap64 (x7_2 + 1)) : Int).toNat))] (fun _ => True) (fun _ => False) rfl rfl ?aP (fun _ hk => hk.elim) ?aF ?aO ?aB ?aS ?aL ?_);((case aP => exact rfl));((case aB => exact zq47));((case aF => exact (fun _ _ => trivial)));((case aO => exact (zR HO_5.out)));((case aS => exact (below_size zq47)));((case aL => have := LMc24.out; omega));intro v316 w27 ho hb hg hat;(rw [← Ny315.out] at ho);(have n0_ := Aside0.mk (hb));(have n1_ := Aside0.mk (ho));clear HB;clear HO_5;(have HB := n0_);(have HO317 := n1_);clear n0_ n1_;clear ho hb hg hat;(refine hK.out _ _ trivial (fun hHeld => ?_));clear hK K;(refine norm_ (a' := ?_) ?_ ?_);rotate_left
                  ·show Act.put _ (some 49) _ = _
                   (simp only [Act.put, sA]);rfl
                  (refine pI (i := 14) (N := some 5) (v := ?_) (a' := ?_) (mB 15 32767) rfl rfl HT_.out (by kernel_rfl) (fun _ _ _ h => h) rfl ?_ ?_ ?_);rotate_left
                  ·intro w'
                   go_simp;(with_reducible rfl)
                  rotate_left
                  ·simp only [Act.put, sA]
                   rfl
                  (refine done_ (done_of HT_.out (by kernel_rfl)) ?_);(try go_wp2);(go_roundg k2)
                  case measure => have := HK1.out; have := HK2.out; omega
                  case rel => exact ⟨(y315), (wrap64 (x7_2 + 1)), zq26, H', ⟨zq39⟩, ⟨zR HO317.out⟩, ⟨zq47⟩⟩
                 ·rw [if_neg c24] at H
                  exact absurd H (by simp)
                ·rw [if_neg c23] at H
                 exact absurd H (by simp)
               ·rw [if_neg c22] at H
                exact absurd H (by simp)
              ·rw [if_neg c21] at H
               exact absurd H (by simp)
             ·rw [if_neg c19] at H
              exact absurd H (by simp)
            ·rw [if_neg c18] at H
             exact absurd H (by simp)
           ·replace c16 := Bool.eq_false_iff.mpr c16
            subst c16;(have H1 : (spec_GridBorders.l1 k2 l0 t310 x5_2 x6_1 (wrap64 (x7_2 + 1))) = some (r1, r2) := zq61);clear H;(have H := H1);clear H1;(have H' := Aside0.mk H);clear H;(try go_wp2);(have n0_ := Aside0.mk (Kd.R_drew HO_5.out));(have n1_ := Aside0.mk (below_drew1 HB.out));clear HO_5;clear HB;(have HO_5 := n0_);(have HB := n1_);clear n0_ n1_;(have p12 : 0 ≤ (x6_1 : Int) := of_decide_eq_true zq21);(have q12 : x6_1 < (t310.size : Int) := of_decide_eq_true zq21);(have hx12 := bt_at t310 x6_1);(replace p12 := eq_true p12);(replace q12 := eq_true q12);(have p14 : 0 ≤ (x7_2 : Int) := of_decide_eq_true zq21);(have q14 : x7_2 < (t310.size : Int) := of_decide_eq_true zq21);(have hx14 := bt_at t310 x7_2);(replace p14 := eq_true p14);(replace q14 := eq_true q14);(refine start_ (n := 8) (S := fun w' => True) (ds := []) #[false,false,false,false,false,false,false,false] (by kernel_rfl) rfl rfl trivial (fun hHeld => ?_); refine with_tabW spec_GridBorders.tab11 spec_GridBorders.bits11 (fun HT_ HW_ => ?_));(generalize wr.drew = w28 at HO_5 HB hHeld ⊢);(refine pI (i := 0) (N := some 28) (v := ?_) (a' := ?_) (mB 8 1) rfl rfl HT_.out (by kernel_rfl) (fun _ _ _ h => h) rfl ?_ ?_ ?_);rotate_left
            ·intro w'
             go_simp;(with_reducible rfl)
            rotate_left
            ·simp only [Act.put, sA]
             rfl
            (refine pI (i := 1) (N := some 29) (v := ?_) (a' := ?_) (mB 8 3) rfl rfl HT_.out (by kernel_rfl) (fun _ _ _ h => h) rfl ?_ ?_ ?_);rotate_left
            ·intro w'
             go_simp;(with_reducible rfl)
            rotate_left
            ·simp only [Act.put, sA]
             rfl
            (refine pI (i := 2) (N := some 30) (v := ?_) (a' := ?_) (mB 8 7) rfl rfl HT_.out (by kernel_rfl) (fun _ _ _ h => h) rfl ?_ ?_ ?_);rotate_left
            ·intro w'
             go_simp;(with_reducible rfl)
            rotate_left
            ·simp only [Act.put, sA]
             rfl
            (refine pI (i := 4) (N := some 32) (v := ?_) (a' := ?_) (mB 8 23) rfl rfl HT_.out (by kernel_rfl) (fun _ _ _ h => h) rfl ?_ ?_ ?_);rotate_left
            ·intro w'
             go_simp;(with_reducible rfl)
            rotate_left
            ·simp only [Act.put, sA]
             rfl
            (refine pI (i := 5) (N := some 33) (v := ?_) (a' := ?_) (mB 8 55) rfl rfl HT_.out (by kernel_rfl) (fun _ _ _ h => h) rfl ?_ ?_ ?_);rotate_left
            ·intro w'
             go_simp;(with_reducible rfl)
            rotate_left
            ·simp only [Act.put, sA]
             rfl
            (refine tI (i := 3) (N := some 31) (v := ?_) (a' := ?_) (mB 8 63) rfl rfl HT_.out HW_.out (by kernel_rfl) (fun _ _ _ h => h) rfl ?_ hHeld ?_ ?_);rotate_left
            ·intro w' _
             go_simp;(with_reducible rfl)
            rotate_left
            ·simp only [Act.put, sA]
             rfl
            (refine tI (i := 6) (N := some 34) (v := ?_) (a' := ?_) (mB 8 127) rfl rfl HT_.out HW_.out (by kernel_rfl) (fun _ _ _ h => h) rfl ?_ hHeld ?_ ?_);rotate_left
            ·intro w' _
             go_simp;(with_reducible rfl)
            rotate_left
            ·simp only [Act.put, sA]
             rfl
            (refine one_ (i := 7) (N := some 35) (mB 8 255) rfl rfl (one_of HT_.out (by kernel_rfl)) (by decide) (fun K hK => ?_));(refine goes_ Tryd.func59 (by kernel_rfl) rfl #[.slice A0 l0.length c0, .int .u8 (bt t310 x6_1), .int .u8 (bt t310 x7_2)] (by rfl) rfl rfl zq0 ?_);(with_reducible refine (spec_l12Meet.calls k2 _ _ l0 (bt t310 x6_1) (bt t310 x7_2) false _ ?side1 ?side2 A15.out).mono ?_);((case side1 => exact zq53));((case side2 => exact HC0.out));(rintro e w' ⟨rfl, ⟨nd, rfl⟩⟩);(refine ⟨_, rfl, ?_⟩);(refine hK.out _ _ trivial (fun hHeld => ?_));clear hK K;(refine norm_ (a' := ?_) ?_ ?_);rotate_left
            ·show Act.put _ (some 35) _ = _
             (simp only [Act.put, sA]);rfl
            (refine done_ (done_of HT_.out (by kernel_rfl)) ?_);(try go_wp2);(go_roundg k2)
            case measure => have := HK1.out; have := HK2.out; omega
            case rel => exact ⟨(x5_2), (wrap64 (x7_2 + 1)), zq26, H', ⟨zq39⟩, ⟨zR HO_5.out⟩, ⟨zq47⟩⟩
          ·rw [if_neg c13] at H
           exact absurd H (by simp)
         ·rw [if_neg c11] at H
          exact absurd H (by simp)
        ·rw [if_neg c10] at H
         exact absurd H (by simp)
       ·rw [if_neg c9] at H
        (have c9b0 : decide (x7_2 < (t310.size : Int)) = false := decide_eq_false c9);clear c9;(have H' := Aside0.mk H);clear H;(go_wp2);(go_roundg k2)
        case measure => have := HK1.out; have := HK2.out; omega
        case rel => exact ⟨(x5_2), (wrap64 (x6_1 + 1)), zq26, H', ⟨zq39⟩, ⟨zR HO_5.out⟩, ⟨zq47⟩⟩
    ·rw [if_neg c8] at H
     (have c8b0 : decide (x6_1 < (t310.size : Int)) = false := decide_eq_false c8);clear c8;(simp only [Option.some.injEq, Prod.mk.injEq] at H);(obtain ⟨rfl, rfl⟩ := H);(go_wp2);(go_ret2);(exact ⟨_, zq25, zR HO_5.out, zq47⟩)
 ·replace c3 := Bool.eq_false_iff.mpr c3
  subst c3;(have H1 : (some (([] : List ByteArray), 1)) = some (r1, r2) := zq61);clear H;(have H := H1);clear H1;(simp only [Option.some.injEq, Prod.mk.injEq] at H);(obtain ⟨rfl, rfl⟩ := H)
  go_enter Tryd.func23, Tryd.ntmps23
  (go_wp2_with (first | ((with_reducible refine gate_callee (f := 52) rfl ?_); refine goesL_ (some 9) rfl rfl Tryd.func52 (by kernel_rfl) rfl #[.slice A0 l0.length c0] rfl zq0 ?_; (with_reducible refine (spec_l12Ok.calls k _ _ l0 false _ ?side1 ?side2 A2.out).mono ?_); (case side1 => exact zq55); (case side2 => exact HC0.out); rintro e w' ⟨rfl, ⟨nd, rfl⟩⟩; refine ⟨_, rfl, ?_⟩)));(go_ret2);(exact ⟨_, zq25, zq22, zq47⟩)

end Go.Proofs.YtdkmngghknohgaaDoor.PFnGrids
