-- Made by a program of this session (gprint.py) out of the kit's print of the translation and texts of my own. SLIM
import Derived.Test.YtdkmngghknohgaaDoorPFnGridsx0
import Derived.Test.YtdkmngghknohgaaDoorPFnGridsx1
import Derived.Test.YtdkmngghknohgaaDoorPFnGridsx5
namespace Go.Proofs.YtdkmngghknohgaaDoor.PFnGrids
open Go.RowKit Go.Proofs.YtdkmngghknohgaaDoorW.PrintWords Go.Proofs.YtdkmngghknohgaaDoorW.PrintLast Go.Proofs.YtdkmngghknohgaaDoorW.PrintMore
set_option maxHeartbeats 64000000
set_option maxRecDepth 100000
attribute [local go_sem] max2_int min2_int max_two min_two max_three min_three max_four min_four   -- for this text's walks alone
set_option linter.unusedVariables false
set_option linter.unusedSimpArgs false

/-! ### spec_TurnGrid: function 19 -/
mutual
def spec_TurnGrid.j0 : Nat → List ByteArray → Int → Int → Option (List ByteArray × Int)
 | 0, _, _, _ => none
 | k + 1, x0, x6, x7 => spec_TurnGrid.l0 k x0 x6 x7 (([] : List ByteArray)) 0
def spec_TurnGrid.l0 : Nat → List ByteArray → Int → Int → List ByteArray → Int → Option (List ByteArray × Int)
 | 0, _, _, _, _, _ => none
 | k + 1, x0, x6, x7, x8, x9 => if x9 < (x0.length : Int) then (if 0 ≤ x9 then (if 0 ≤ (wrap64 (x6 - x7)) then (if (wrap64 (x6 - x7)) ≤ ((rdOf ByteArray.empty x0 x9).size : Int) then (if ((rdOf ByteArray.empty x0 x9).extract ((wrap64 (x6 - x7)) : Int).toNat (rdOf ByteArray.empty x0 x9).size).size + ((rdOf ByteArray.empty x0 x9).extract 0 ((wrap64 (x6 - x7)) : Int).toNat).size ≤ 9223372036854775807 then (if x8.length < 8796093022208 then (spec_TurnGrid.l0 k x0 x6 x7 (x8 ++ [((rdOf ByteArray.empty x0 x9).extract ((wrap64 (x6 - x7)) : Int).toNat (rdOf ByteArray.empty x0 x9).size) ++ ((rdOf ByteArray.empty x0 x9).extract 0 ((wrap64 (x6 - x7)) : Int).toNat)]) (wrap64 (x9 + 1))) else (none)) else (none)) else (none)) else (none)) else (none)) else (some (x8, 0))
end
def spec_TurnGrid.f (k : Nat) (l0 : List ByteArray) (a1 : Int) : Option (List ByteArray × Int) := (spec_l12Ok.f k l0).bind fun t279 => (if t279 = true then ((spec_l00In.f a1 (-1000) 1000).bind fun t280 => (if t280 = true then (if 0 < (l0.length : Int) then (if ((rdOf ByteArray.empty l0 0).size : Int) = 0 then (none) else (if (Int.tmod a1 ((rdOf ByteArray.empty l0 0).size : Int)) < 0 then (spec_TurnGrid.j0 k l0 ((rdOf ByteArray.empty l0 0).size : Int) (wrap64 ((Int.tmod a1 ((rdOf ByteArray.empty l0 0).size : Int)) + ((rdOf ByteArray.empty l0 0).size : Int)))) else (spec_TurnGrid.j0 k l0 ((rdOf ByteArray.empty l0 0).size : Int) (Int.tmod a1 ((rdOf ByteArray.empty l0 0).size : Int))))) else (none)) else (some (([] : List ByteArray), 2)))) else (some (([] : List ByteArray), 1)))
theorem spec_TurnGrid.mono_l : ∀ k, (∀ y0 y1 y2, LeO (spec_TurnGrid.j0 k y0 y1 y2) (spec_TurnGrid.j0 (k + 1) y0 y1 y2)) ∧ (∀ y0 y1 y2 y3 y4, LeO (spec_TurnGrid.l0 k y0 y1 y2 y3 y4) (spec_TurnGrid.l0 (k + 1) y0 y1 y2 y3 y4))
 | 0 => ⟨fun _ _ _ r h => by simp [spec_TurnGrid.j0] at h, fun _ _ _ _ _ r h => by simp [spec_TurnGrid.l0] at h⟩
 | k + 1 => by
  (obtain ⟨ih0, ih1⟩ := spec_TurnGrid.mono_l k);(refine ⟨?_, ?_⟩)
  ·intro y0 y1 y2
   unfold spec_TurnGrid.j0
   repeat' first | with_reducible (first | exact ih0 _ _ _ | exact ih1 _ _ _ _ _ | exact spec_l12Ok.mono _ _ | exact LeO.refl _ | exact LeO.none _ | refine LeO.ite ?_ ?_ | refine LeO.bind ?_ (fun _ => ?_)) | exact ih0 _ _ _ | exact ih1 _ _ _ _ _ | exact spec_l12Ok.mono _ _ | exact LeO.none _ | refine LeO.ite ?_ ?_ | refine LeO.bind ?_ (fun _ => ?_)
  ·intro y0 y1 y2 y3 y4
   unfold spec_TurnGrid.l0
   repeat' first | with_reducible (first | exact ih0 _ _ _ | exact ih1 _ _ _ _ _ | exact spec_l12Ok.mono _ _ | exact LeO.refl _ | exact LeO.none _ | refine LeO.ite ?_ ?_ | refine LeO.bind ?_ (fun _ => ?_)) | exact ih0 _ _ _ | exact ih1 _ _ _ _ _ | exact spec_l12Ok.mono _ _ | exact LeO.none _ | refine LeO.ite ?_ ?_ | refine LeO.bind ?_ (fun _ => ?_)
theorem spec_TurnGrid.mono : ∀ a0 a1 k, LeO (spec_TurnGrid.f k a0 a1) (spec_TurnGrid.f (k + 1) a0 a1) := by
 intro a0 a1 k;(obtain ⟨ih0, ih1⟩ := spec_TurnGrid.mono_l k);(unfold spec_TurnGrid.f)
 repeat' first | with_reducible (first | exact ih0 _ _ _ | exact ih1 _ _ _ _ _ | exact spec_l12Ok.mono _ _ | exact LeO.refl _ | exact LeO.none _ | refine LeO.ite ?_ ?_ | refine LeO.bind ?_ (fun _ => ?_)) | exact ih0 _ _ _ | exact ih1 _ _ _ _ _ | exact spec_l12Ok.mono _ _ | exact LeO.none _ | refine LeO.ite ?_ ?_ | refine LeO.bind ?_ (fun _ => ?_)
def spec_TurnGrid.T13 : Bool × List (List Nat × List Nat) := (true, [([], []), ([], []), ([], []), ([1, 2], [1, 2]), ([3], [3]), ([], []), ([], []), ([5, 6], [5, 6]), ([4, 7], [4, 7]), ([], []), ([], []), ([9, 10], [9, 10]), ([11], [11]), ([], []), ([], []), ([13, 14], [13, 14]), ([12, 15], [12, 15]), ([8, 16], [8, 16]), ([17], [17]), ([0, 18], [0, 18]), ([19, 19, 0, 1, 2, 3, 4, 5, 6, 7, 8, 9, 10, 11, 12, 13, 14, 15, 16, 17, 18, 19], [0, 19])])
def spec_TurnGrid.B13 : List Nat := [0, 0, 0, 6, 14, 0, 0, 96, 254, 0, 0, 1536, 3584, 0, 0, 24576, 65024, 131070, 262142, 524287, 1048575]
theorem spec_TurnGrid.tab13 : rtab .any (opsOf Tryd.f19 13) = spec_TurnGrid.T13 := by kernel_rfl
theorem spec_TurnGrid.bits13 : waitsOk spec_TurnGrid.T13.2 spec_TurnGrid.B13 = true := by kernel_rfl
theorem spec_TurnGrid.calls (k : Nat) (A0 : Option Addr) (c0 : Nat) (l0 : List ByteArray) (a1 : Int) (r1 : List ByteArray) (r2 : Int) (w : World) (hr0 : Kd.C Kd.string w A0 l0.length l0) (hc0 : l0.length ≤ c0) (h : spec_TurnGrid.f k l0 a1 = some (r1, r2)) :
  Calls Tryd.prog 19 #[.slice A0 l0.length c0, .int .i64 a1] w fun e w' => ∃ v0_ : Value, e = .returned (.tuple #[v0_, .int .i64 r2]) ∧ Kd.R Kd.string 9 w' w.heap.size (fun _ => True) v0_ r1 ∧ Below w.heap.size w w' := by
 (have HR0 := Aside0.mk hr0);(have HC0 := Aside0.mk hc0);clear hr0 hc0;(have HB := Aside0.mk (Below.refl w.heap.size w));(have H : ((spec_l12Ok.f k l0).bind fun t279 => (if t279 = true then ((spec_l00In.f a1 (-1000) 1000).bind fun t280 => (if t280 = true then (if 0 < (l0.length : Int) then (if ((rdOf ByteArray.empty l0 0).size : Int) = 0 then (none) else (if (Int.tmod a1 ((rdOf ByteArray.empty l0 0).size : Int)) < 0 then (spec_TurnGrid.j0 k l0 ((rdOf ByteArray.empty l0 0).size : Int) (wrap64 ((Int.tmod a1 ((rdOf ByteArray.empty l0 0).size : Int)) + ((rdOf ByteArray.empty l0 0).size : Int)))) else (spec_TurnGrid.j0 k l0 ((rdOf ByteArray.empty l0 0).size : Int) (Int.tmod a1 ((rdOf ByteArray.empty l0 0).size : Int))))) else (none)) else (some (([] : List ByteArray), 2)))) else (some (([] : List ByteArray), 1)))) = some (r1, r2) := h);clear h;(replace H := Option.bind_eq_some_iff.mp H);(obtain ⟨t279, A30, H⟩ := H);(replace H : (if t279 = true then ((spec_l00In.f a1 (-1000) 1000).bind fun t280 => (if t280 = true then (if 0 < (l0.length : Int) then (if ((rdOf ByteArray.empty l0 0).size : Int) = 0 then (none) else (if (Int.tmod a1 ((rdOf ByteArray.empty l0 0).size : Int)) < 0 then (spec_TurnGrid.j0 k l0 ((rdOf ByteArray.empty l0 0).size : Int) (wrap64 ((Int.tmod a1 ((rdOf ByteArray.empty l0 0).size : Int)) + ((rdOf ByteArray.empty l0 0).size : Int)))) else (spec_TurnGrid.j0 k l0 ((rdOf ByteArray.empty l0 0).size : Int) (Int.tmod a1 ((rdOf ByteArray.empty l0 0).size : Int))))) else (none)) else (some (([] : List ByteArray), 2)))) else (some (([] : List ByteArray), 1))) = some (r1, r2) := H);(have A3 := Aside0.mk A30);clear A30;(by_cases c4 : t279 = true)
 ·subst c4
  (have H1 : ((spec_l00In.f a1 (-1000) 1000).bind fun t280 => (if t280 = true then (if 0 < (l0.length : Int) then (if ((rdOf ByteArray.empty l0 0).size : Int) = 0 then (none) else (if (Int.tmod a1 ((rdOf ByteArray.empty l0 0).size : Int)) < 0 then (spec_TurnGrid.j0 k l0 ((rdOf ByteArray.empty l0 0).size : Int) (wrap64 ((Int.tmod a1 ((rdOf ByteArray.empty l0 0).size : Int)) + ((rdOf ByteArray.empty l0 0).size : Int)))) else (spec_TurnGrid.j0 k l0 ((rdOf ByteArray.empty l0 0).size : Int) (Int.tmod a1 ((rdOf ByteArray.empty l0 0).size : Int))))) else (none)) else (some (([] : List ByteArray), 2)))) = some (r1, r2) := zq62);clear H;(have H := H1);clear H1;(replace H := Option.bind_eq_some_iff.mp H);(obtain ⟨t280, A50, H⟩ := H);(replace H : (if t280 = true then (if 0 < (l0.length : Int) then (if ((rdOf ByteArray.empty l0 0).size : Int) = 0 then (none) else (if (Int.tmod a1 ((rdOf ByteArray.empty l0 0).size : Int)) < 0 then (spec_TurnGrid.j0 k l0 ((rdOf ByteArray.empty l0 0).size : Int) (wrap64 ((Int.tmod a1 ((rdOf ByteArray.empty l0 0).size : Int)) + ((rdOf ByteArray.empty l0 0).size : Int)))) else (spec_TurnGrid.j0 k l0 ((rdOf ByteArray.empty l0 0).size : Int) (Int.tmod a1 ((rdOf ByteArray.empty l0 0).size : Int))))) else (none)) else (some (([] : List ByteArray), 2))) = some (r1, r2) := H);(have A5 := Aside0.mk A50);clear A50;(by_cases c6 : t280 = true)
  ·subst c6
   (have H1 : (if 0 < (l0.length : Int) then (if ((rdOf ByteArray.empty l0 0).size : Int) = 0 then (none) else (if (Int.tmod a1 ((rdOf ByteArray.empty l0 0).size : Int)) < 0 then (spec_TurnGrid.j0 k l0 ((rdOf ByteArray.empty l0 0).size : Int) (wrap64 ((Int.tmod a1 ((rdOf ByteArray.empty l0 0).size : Int)) + ((rdOf ByteArray.empty l0 0).size : Int)))) else (spec_TurnGrid.j0 k l0 ((rdOf ByteArray.empty l0 0).size : Int) (Int.tmod a1 ((rdOf ByteArray.empty l0 0).size : Int))))) else (none)) = some (r1, r2) := zq62);clear H;(have H := H1);clear H1;(by_cases c7 : 0 < (l0.length : Int))
   ·rw [if_pos c7] at H
    (have c7b0 : decide (0 < (l0.length : Int)) = true := decide_eq_true c7);(have c7b1 : decide (0 < l0.length) = true := decide_eq_true (by omega));clear c7;(by_cases c8 : ((rdOf ByteArray.empty l0 0).size : Int) = 0)
    ·rw [if_pos c8] at H
     exact absurd H (by simp)
    ·rw [if_neg c8] at H
     (have c8b0 : (((rdOf ByteArray.empty l0 0).size : Int) == 0) = false := beq_eq_false_iff_ne.mpr c8);(have c8b1 : (((rdOf ByteArray.empty l0 0).size : Int) != 0) = true := bne_iff_ne.mpr c8);(have HC9 := Aside0.mk H);clear H
     go_enter Tryd.func19, Tryd.ntmps19
     go_upto_if 24 with (first | ((with_reducible refine gate_callee (f := 52) rfl ?_); refine goesL_ (some 11) rfl rfl Tryd.func52 (by kernel_rfl) rfl #[.slice A0 l0.length c0] rfl zq0 ?_; (with_reducible refine (spec_l12Ok.calls k _ _ l0 true _ ?side1 ?side2 A3.out).mono ?_); (case side1 => exact zq55); (case side2 => exact HC0.out); rintro e w' ⟨rfl, ⟨nd, rfl⟩⟩; refine ⟨_, rfl, ?_⟩) | ((with_reducible refine gate_callee (f := 53) rfl ?_); refine goesL_ (some 14) rfl rfl Tryd.func53 (by kernel_rfl) rfl #[.int .i64 a1, .int .i64 (-1000), .int .i64 1000] rfl zq0 ?_; (with_reducible refine (spec_l00In.calls a1 (-1000) 1000 true _ A5.out).mono ?_); rintro e w' ⟨rfl, ⟨nd, rfl⟩⟩; refine ⟨_, rfl, ?_⟩; have p281 : 0 ≤ (0 : Int) := (by omega); have q281 : 0 < (l0.length : Int) := of_decide_eq_true zq21; obtain ⟨ad281, e281, hx281_0⟩ := Kd.at_string HR0.out 0 p281 q281; cases e281; have qi281 : (0 < l0.length) = True := eq_true (by omega); (try rw [show ((0 : Int)).toNat = 0 from rfl] at hx281_0); (try rw [Addr.add_zero'] at hx281_0); replace p281 := eq_true p281; replace q281 := eq_true q281))
     (try simp only [Act.put, List.setIfInBounds_toArray, List.set_cons_zero, List.set_cons_succ])
     go_cut [7] (fun v7 wc => ∃ (kq : Nat) (x7_8 : Int), v7 = .int .i64 x7_8 ∧ Aside0 (spec_TurnGrid.j0 kq l0 ((rdOf ByteArray.empty l0 0).size : Int) x7_8 = some (r1, r2)) ∧ Aside0 (kq ≤ k) ∧ Aside0 (Below w.heap.size w wc))
     case first =>
      (have H := HC9.out);clear HC9;(by_cases c10 : (Int.tmod a1 ((rdOf ByteArray.empty l0 0).size : Int)) < 0)
      ·rw [if_pos c10] at H
       (have c10b0 : decide ((Int.tmod a1 ((rdOf ByteArray.empty l0 0).size : Int)) < 0) = true := decide_eq_true c10);clear c10;((first | rw [c10b0] | (simp only [i64_w, i32_w]; rw [c10b0]) | skip));(have H' := Aside0.mk H);clear H;(go_wp2)
       go_meet
       case rel => exact ⟨_, (wrap64 ((Int.tmod a1 ((rdOf ByteArray.empty l0 0).size : Int)) + ((rdOf ByteArray.empty l0 0).size : Int))), zq26, H', ⟨zq23⟩, ⟨zq47⟩⟩
      ·rw [if_neg c10] at H
       (have c10b0 : decide ((Int.tmod a1 ((rdOf ByteArray.empty l0 0).size : Int)) < 0) = false := decide_eq_false c10);clear c10;((first | rw [c10b0] | (simp only [i64_w, i32_w]; rw [c10b0]) | skip));(have H' := Aside0.mk H);clear H;(go_wp2)
       go_meet
       case rel => exact ⟨_, (Int.tmod a1 ((rdOf ByteArray.empty l0 0).size : Int)), zq26, H', ⟨zq23⟩, ⟨zq47⟩⟩
     case rest =>
      clear HC9;(try clear c1);(try clear p2);(try clear q2);(try clear hx2);(try clear qi2);(try clear c4);(try clear c5);(try clear c6);(try clear p6);(try clear c7);(try clear c7b0);(try clear c7b1);(try clear c8);(try clear c8b0);(try clear c8b1);(try clear c10);(try clear c10b0);(try clear hx281_0);(try clear p281);(try clear q281);(obtain ⟨kq, x7_8, rfl, HA, HJ8, HB⟩ := hcut)
      cases kq with
      | zero => exact absurd HA.out (by simp [spec_TurnGrid.j0])
      | succ kj8 =>
       (have H := HA.out);clear HA;(simp only [spec_TurnGrid.j0] at H);(obtain ⟨y282, hy_⟩ : ∃ y_ : List ByteArray, y_ = (([] : List ByteArray)) := ⟨_, rfl⟩);(replace H : (spec_TurnGrid.l0 kj8 l0 ((rdOf ByteArray.empty l0 0).size : Int) x7_8 y282 0) = some (r1, r2) := zq20);(have Ny282 := Aside0.mk hy_);clear hy_;(have H' := Aside0.mk H);clear H;(go_wp2_with (first | ((with_reducible refine gate_dst (N := 28) rfl ?_); refine Kd.R_lit Kd.string _ 9 ?hg (N := 28) ?hd (xs := ([] : List ByteArray)) (inner := []) (ok := fun _ => True) (okp := fun _ => True) ?hr ?hp (fun _ hk => hk) trivial (Below.refl _ _) (Nat.le_refl _) (by simp) ?_; (case hd => rfl); (case hg => rfl); (case hr => first | (go_simp; done) | (go_simp; rfl)); (case hp => exact (Reps.none _ _)); intro v283 w11 ho12 hb hg_ hnew_; clear hg_ hnew_; (first | rw [← Ny282.out] at ho12 | (simp only [Int.reduceToNat] at ho12; rw [← Ny282.out] at ho12)); have n0_ := Aside0.mk (Kd.R_lower ho12 (below_size zq47)); have n1_ := Aside0.mk (below_step zq47 hb); clear HB; have HO284 := n0_; have HB := n1_; clear n0_ n1_; clear hb ho12)))
       go_loopg [8, 9] kj8 (fun kq v8 v9 w' => ∃ (x8_2 : List ByteArray) (x9_2 : Int), v9 = .int .i64 x9_2 ∧ Aside0 (spec_TurnGrid.l0 kq l0 ((rdOf ByteArray.empty l0 0).size : Int) x7_8 x8_2 x9_2 = some (r1, r2)) ∧ Aside0 (kq ≤ kj8) ∧ Aside0 (Kd.R Kd.string 9 w' w.heap.size (fun _ => True) v8 x8_2) ∧ Aside0 (Below w.heap.size w w'))
       case atStart => exact ⟨(y282), (0), zq26, H', ⟨Nat.le_refl _⟩, ⟨zR HO284.out⟩, ⟨zq47⟩⟩
       case round =>
        clear H';(try clear c1);(try clear p2);(try clear q2);(try clear hx2);(try clear qi2);(try clear c4);(try clear c5);(try clear c6);(try clear p6);(try clear c7);(try clear c7b0);(try clear c7b1);(try clear c8);(try clear c8b0);(try clear c8b1);(try clear c10);(try clear c10b0);(try clear hx281_0);(try clear p2);(try clear p281);(try clear p6);(try clear q2);(try clear q281);(obtain ⟨x8_2, x9_2, rfl, HA, HK2, HO_8, HB⟩ := hrel)
        cases gk with
        | zero => exact absurd HA.out (by simp [spec_TurnGrid.l0])
        | succ k2 =>
         (have H := HA.out);clear HA;(simp only [spec_TurnGrid.l0] at H);(by_cases c13 : x9_2 < (l0.length : Int))
         ·rw [if_pos c13] at H
          (have c13b0 : decide (x9_2 < (l0.length : Int)) = true := decide_eq_true c13);clear c13;(by_cases c14 : 0 ≤ x9_2)
          ·rw [if_pos c14] at H
           (have c14b0 : decide (0 ≤ x9_2) = true := decide_eq_true c14);clear c14;(obtain ⟨ji15, hji15⟩ : ∃ j_ : Int, (wrap64 (((rdOf ByteArray.empty l0 0).size : Int) - x7_8)) = j_ := ⟨_, rfl⟩);(replace H : (if 0 ≤ (ji15) then (if (ji15) ≤ ((rdOf ByteArray.empty l0 x9_2).size : Int) then (if ((rdOf ByteArray.empty l0 x9_2).extract ((ji15) : Int).toNat (rdOf ByteArray.empty l0 x9_2).size).size + ((rdOf ByteArray.empty l0 x9_2).extract 0 ((ji15) : Int).toNat).size ≤ 9223372036854775807 then (if x8_2.length < 8796093022208 then (spec_TurnGrid.l0 k2 l0 ((rdOf ByteArray.empty l0 0).size : Int) x7_8 (x8_2 ++ [((rdOf ByteArray.empty l0 x9_2).extract ((ji15) : Int).toNat (rdOf ByteArray.empty l0 x9_2).size) ++ ((rdOf ByteArray.empty l0 x9_2).extract 0 ((ji15) : Int).toNat)]) (wrap64 (x9_2 + 1))) else (none)) else (none)) else (none)) else (none)) = some (r1, r2) := zq18);(have hji15w : (IntKind.i64.wrap (((rdOf ByteArray.empty l0 0).size : Int) - x7_8)) = ji15 := (i64_w _).trans hji15);(by_cases c16 : 0 ≤ (ji15))
           ·rw [if_pos c16] at H
            (have c16b0 := eq_true c16);(have c16b1 : decide (0 ≤ (ji15)) = true := decide_eq_true c16);clear c16;(by_cases c17 : (ji15) ≤ ((rdOf ByteArray.empty l0 x9_2).size : Int))
            ·rw [if_pos c17] at H
             (have c17b0 := eq_true c17);(have c17b1 : decide ((ji15) ≤ ((rdOf ByteArray.empty l0 x9_2).size : Int)) = true := decide_eq_true c17);clear c17;(have c18b0 := eq_true (of_decide_eq_true zq21 : 0 ≤ (ji15)));(have c19b0 := eq_true (of_decide_eq_true zq21 : (ji15) ≤ ((rdOf ByteArray.empty l0 x9_2).size : Int)));(by_cases c20 : ((rdOf ByteArray.empty l0 x9_2).extract ((ji15) : Int).toNat (rdOf ByteArray.empty l0 x9_2).size).size + ((rdOf ByteArray.empty l0 x9_2).extract 0 ((ji15) : Int).toNat).size ≤ 9223372036854775807)
             ·rw [if_pos c20] at H
              (have c20b0 := eq_true c20);(have c20b1 : decide (((rdOf ByteArray.empty l0 x9_2).extract ((ji15) : Int).toNat (rdOf ByteArray.empty l0 x9_2).size).size + ((rdOf ByteArray.empty l0 x9_2).extract 0 ((ji15) : Int).toNat).size ≤ 9223372036854775807) = true := decide_eq_true c20);(try have c20b2 : (9223372036854775807 < ((rdOf ByteArray.empty l0 x9_2).extract ((ji15) : Int).toNat (rdOf ByteArray.empty l0 x9_2).size).size + ((rdOf ByteArray.empty l0 x9_2).extract 0 ((ji15) : Int).toNat).size) = False := eq_false (Nat.not_lt.2 c20));(have c20b5 : (9223372036854775807 < (rdOf ByteArray.empty l0 x9_2).size) = False := eq_false (by have z_ := c20; simp only [ByteArray.size_extract] at z_; omega));(by_cases c21 : x8_2.length < 8796093022208)
              ·rw [if_pos c21] at H
               (have LMc21 := Aside0.mk c21);clear c21;(obtain ⟨y287, hy_⟩ : ∃ y_ : List ByteArray, y_ = (x8_2 ++ [((rdOf ByteArray.empty l0 x9_2).extract ((ji15) : Int).toNat (rdOf ByteArray.empty l0 x9_2).size) ++ ((rdOf ByteArray.empty l0 x9_2).extract 0 ((ji15) : Int).toNat)]) := ⟨_, rfl⟩);(replace H : (spec_TurnGrid.l0 k2 l0 ((rdOf ByteArray.empty l0 0).size : Int) x7_8 y287 (wrap64 (x9_2 + 1))) = some (r1, r2) := zq20);(have Ny287 := Aside0.mk hy_);clear hy_;(have H' := Aside0.mk H);clear H;(try go_wp2);(have n0_ := Aside0.mk (Kd.R_drew HO_8.out));(have n1_ := Aside0.mk (below_drew1 HB.out));clear HO_8;clear HB;(have HO_8 := n0_);(have HB := n1_);clear n0_ n1_;(have p285 : 0 ≤ (x9_2 : Int) := of_decide_eq_true zq21);(have q285 : x9_2 < (l0.length : Int) := of_decide_eq_true zq21);(obtain ⟨ad285, e285, hx285_0⟩ := Kd.at_string HR0.out x9_2 p285 q285);(have hw285_0 := hx285_0);(obtain rfl : ad281 = ad285 := (by injection e285));(replace hx285_0 := (HB.out.cell (World.block_lt_of_cell? w _ hx285_0)).trans hx285_0);(replace p285 := eq_true p285);(replace q285 := eq_true q285);(have p286 : 0 ≤ (x9_2 : Int) := of_decide_eq_true zq21);(have q286 : x9_2 < (l0.length : Int) := of_decide_eq_true zq21);(obtain ⟨ad286, e286, hx286_0⟩ := Kd.at_string HR0.out x9_2 p286 q286);(have hw286_0 := hx286_0);(obtain rfl : ad281 = ad286 := (by injection e286));(replace hx286_0 := (HB.out.cell (World.block_lt_of_cell? w _ hx286_0)).trans hx286_0);(replace p286 := eq_true p286);(replace q286 := eq_true q286);(refine start_ (n := 21) (S := fun w' => w'.cell? (ad281.add (x9_2).toNat) = some (.string (rdOf ByteArray.empty l0 x9_2)) ∧ w'.cell? (ad281.add (x9_2).toNat) = some (.string (rdOf ByteArray.empty l0 x9_2))) (ds := []) #[false,false,false,false,false,false,false,false,false,false,false,false,false,false,false,false,false,false,false,false,false] (by kernel_rfl) rfl rfl ⟨((HB.out.cell (World.block_lt_of_cell? w _ hw285_0)).trans hw285_0), ((HB.out.cell (World.block_lt_of_cell? w _ hw286_0)).trans hw286_0)⟩ (fun hHeld => ?_); refine with_tabW spec_TurnGrid.tab13 spec_TurnGrid.bits13 (fun HT_ HW_ => ?_));(generalize wr.drew = w22 at HO_8 HB hx285_0 hx286_0 hHeld ⊢);(refine pI (i := 0) (N := some 35) (v := ?_) (a' := ?_) (mB 21 1) rfl rfl HT_.out (by kernel_rfl) (fun _ _ _ h => h) rfl ?_ ?_ ?_);rotate_left
               ·intro w'
                go_simp;(with_reducible rfl)
               rotate_left
               ·simp only [Act.put, sA]
                rfl
               (refine pI (i := 1) (N := some 36) (v := ?_) (a' := ?_) (mB 21 3) rfl rfl HT_.out (by kernel_rfl) (fun _ _ _ h => h) rfl ?_ ?_ ?_);rotate_left
               ·intro w'
                go_simp;(with_reducible rfl)
               rotate_left
               ·simp only [Act.put, sA]
                rfl
               (refine pI (i := 2) (N := some 37) (v := ?_) (a' := ?_) (mB 21 7) rfl rfl HT_.out (by kernel_rfl) (fun _ _ _ h => h) rfl ?_ ?_ ?_);rotate_left
               ·intro w'
                go_simp;(with_reducible rfl)
               rotate_left
               ·simp only [Act.put, sA]
                rfl
               (refine pI (i := 3) (N := some 38) (v := ?_) (a' := ?_) (mB 21 15) rfl rfl HT_.out (by kernel_rfl) (fun _ _ _ h => h) rfl ?_ ?_ ?_);rotate_left
               ·intro w'
                go_simp;(with_reducible rfl)
               rotate_left
               ·simp only [Act.put, sA]
                rfl
               (refine pI (i := 5) (N := some 40) (v := ?_) (a' := ?_) (mB 21 47) rfl rfl HT_.out (by kernel_rfl) (fun _ _ _ h => h) rfl ?_ ?_ ?_);rotate_left
               ·intro w'
                go_simp;(with_reducible rfl)
               rotate_left
               ·simp only [Act.put, sA]
                rfl
               (refine pI (i := 6) (N := some 41) (v := ?_) (a' := ?_) (mB 21 111) rfl rfl HT_.out (by kernel_rfl) (fun _ _ _ h => h) rfl ?_ ?_ ?_);rotate_left
               ·intro w'
                go_simp;(with_reducible rfl)
               rotate_left
               ·simp only [Act.put, sA]
                rfl
               (refine pI (i := 7) (N := some 42) (v := ?_) (a' := ?_) (mB 21 239) rfl rfl HT_.out (by kernel_rfl) (fun _ _ _ h => h) rfl ?_ ?_ ?_);rotate_left
               ·intro w'
                go_simp;(with_reducible rfl)
               rotate_left
               ·simp only [Act.put, sA]
                rfl
               (refine pI (i := 9) (N := some 44) (v := ?_) (a' := ?_) (mB 21 751) rfl rfl HT_.out (by kernel_rfl) (fun _ _ _ h => h) rfl ?_ ?_ ?_);rotate_left
               ·intro w'
                go_simp;(with_reducible rfl)
               rotate_left
               ·simp only [Act.put, sA]
                rfl
               (refine pI (i := 10) (N := some 45) (v := ?_) (a' := ?_) (mB 21 1775) rfl rfl HT_.out (by kernel_rfl) (fun _ _ _ h => h) rfl ?_ ?_ ?_);rotate_left
               ·intro w'
                go_simp;(with_reducible rfl)
               rotate_left
               ·simp only [Act.put, sA]
                rfl
               (refine pI (i := 11) (N := some 46) (v := ?_) (a' := ?_) (mB 21 3823) rfl rfl HT_.out (by kernel_rfl) (fun _ _ _ h => h) rfl ?_ ?_ ?_);rotate_left
               ·intro w'
                go_simp;(with_reducible rfl)
               rotate_left
               ·simp only [Act.put, sA]
                rfl
               (refine pI (i := 13) (N := some 48) (v := ?_) (a' := ?_) (mB 21 12015) rfl rfl HT_.out (by kernel_rfl) (fun _ _ _ h => h) rfl ?_ ?_ ?_);rotate_left
               ·intro w'
                go_simp;(with_reducible rfl)
               rotate_left
               ·simp only [Act.put, sA]
                rfl
               (refine pI (i := 14) (N := some 49) (v := ?_) (a' := ?_) (mB 21 28399) rfl rfl HT_.out (by kernel_rfl) (fun _ _ _ h => h) rfl ?_ ?_ ?_);rotate_left
               ·intro w'
                go_simp;(with_reducible rfl)
               rotate_left
               ·simp only [Act.put, sA]
                rfl
               (refine pI (i := 15) (N := some 50) (v := ?_) (a' := ?_) (mB 21 61167) rfl rfl HT_.out (by kernel_rfl) (fun _ _ _ h => h) rfl ?_ ?_ ?_);rotate_left
               ·intro w'
                go_simp;(with_reducible rfl)
               rotate_left
               ·simp only [Act.put, sA]
                rfl
               (refine tI (i := 4) (N := some 39) (v := ?_) (a' := ?_) (mB 21 61183) rfl rfl HT_.out HW_.out (by kernel_rfl) (fun _ _ _ h => h) rfl ?_ hHeld ?_ ?_);rotate_left
               ·rintro w' ⟨s0, s1⟩
                go_simp;(with_reducible rfl)
               rotate_left
               ·simp only [Act.put, sA]
                rfl
               (refine pI (i := 8) (N := some 43) (v := ?_) (a' := ?_) (mB 21 61439) rfl rfl HT_.out (by kernel_rfl) (fun _ _ _ h => h) rfl ?_ ?_ ?_);rotate_left
               ·intro w'
                go_simp;(with_reducible rfl)
               rotate_left
               ·simp only [Act.put, sA]
                rfl
               (refine tI (i := 12) (N := some 47) (v := ?_) (a' := ?_) (mB 21 65535) rfl rfl HT_.out HW_.out (by kernel_rfl) (fun _ _ _ h => h) rfl ?_ hHeld ?_ ?_);rotate_left
               ·rintro w' ⟨s0, s1⟩
                go_simp;(with_reducible rfl)
               rotate_left
               ·simp only [Act.put, sA]
                rfl
               (refine pI (i := 16) (N := some 51) (v := ?_) (a' := ?_) (mB 21 131071) rfl rfl HT_.out (by kernel_rfl) (fun _ _ _ h => h) rfl ?_ ?_ ?_);rotate_left
               ·intro w'
                go_simp;(with_reducible rfl)
               rotate_left
               ·simp only [Act.put, sA]
                rfl
               (refine pI (i := 17) (N := some 52) (v := ?_) (a' := ?_) (mB 21 262143) rfl rfl HT_.out (by kernel_rfl) (fun _ _ _ h => h) rfl ?_ ?_ ?_);rotate_left
               ·intro w'
                go_simp;(with_reducible rfl)
               rotate_left
               ·simp only [Act.put, sA]
                rfl
               (refine one_ (i := 18) (N := some 53) (mB 21 524287) rfl rfl (one_of HT_.out (by kernel_rfl)) (by decide) (fun K hK => ?_));(refine value_ (w1 := ?_) (v := ?_) (by rfl) rfl ?_ ?_);(rotate_left 2)
               ·go_simp
                constructor
                ·rfl
                ·rfl
               (refine hK.out _ _ ⟨(World.cell?_alloc_lt _ _ _ (World.block_lt_of_cell? _ _ (((HB.out.cell (World.block_lt_of_cell? w _ hw285_0)).trans hw285_0)))).trans (((HB.out.cell (World.block_lt_of_cell? w _ hw285_0)).trans hw285_0)), (World.cell?_alloc_lt _ _ _ (World.block_lt_of_cell? _ _ (((HB.out.cell (World.block_lt_of_cell? w _ hw286_0)).trans hw286_0)))).trans (((HB.out.cell (World.block_lt_of_cell? w _ hw286_0)).trans hw286_0))⟩ (fun hHeld => ?_));clear hK K;(refine norm_ (a' := ?_) ?_ ?_);rotate_left
               ·show Act.put _ (some 53) _ = _
                (simp only [Act.put, sA]);rfl
               (refine one_ (i := 19) (N := some 54) (mB 21 1048575) rfl rfl (one_of HT_.out (by kernel_rfl)) (by decide) (fun K hK => ?_));(refine Kd.R_append_step Kd.string (w0 := w) w.heap.size (by rfl) (.tmp 35) (.tmp 53) 24 9 (.string ⟨#[]⟩) 16 rfl Tryd.underlying24 info9 rfl (by decide) (by omega) u8 x8_2 (((rdOf ByteArray.empty l0 x9_2).extract ((ji15) : Int).toNat (rdOf ByteArray.empty l0 x9_2).size) ++ ((rdOf ByteArray.empty l0 x9_2).extract 0 ((ji15) : Int).toNat)) [.string (((rdOf ByteArray.empty l0 x9_2).extract ((ji15) : Int).toNat (rdOf ByteArray.empty l0 x9_2).size) ++ ((rdOf ByteArray.empty l0 x9_2).extract 0 ((ji15) : Int).toNat))] (fun _ => True) (fun _ => False) rfl rfl ?aP (fun _ hk => hk.elim) ?aF ?aO ?aB ?aS ?aL ?_);((case aP => exact rfl));((case aB => exact zq47));((case aF => exact (fun _ _ => trivial)));((case aO => exact (zR HO_8.out)));((case aS => exact (below_size zq47)));((case aL => have := LMc21.out; omega));intro v288 w23 ho hb hg hat;(rw [← Ny287.out] at ho);(have n0_ := Aside0.mk (hb));(have n1_ := Aside0.mk (ho));clear HB;clear HO_8;(have HB := n0_);(have HO289 := n1_);clear n0_ n1_;clear ho hb hg hat;(refine hK.out _ _ ⟨((HB.out.cell (World.block_lt_of_cell? w _ hw285_0)).trans hw285_0), ((HB.out.cell (World.block_lt_of_cell? w _ hw286_0)).trans hw286_0)⟩ (fun hHeld => ?_));clear hK K;(refine norm_ (a' := ?_) ?_ ?_);rotate_left
               ·show Act.put _ (some 54) _ = _
                (simp only [Act.put, sA]);rfl
               (refine pI (i := 20) (N := some 8) (v := ?_) (a' := ?_) (mB 21 2097151) rfl rfl HT_.out (by kernel_rfl) (fun _ _ _ h => h) rfl ?_ ?_ ?_);rotate_left
               ·intro w'
                go_simp;(with_reducible rfl)
               rotate_left
               ·simp only [Act.put, sA]
                rfl
               (refine done_ (done_of HT_.out (by kernel_rfl)) ?_);(try go_wp2);((try subst hji15));(go_roundg k2)
               case measure => have := HJ8.out; have := HK2.out; omega
               case rel => exact ⟨(y287), (wrap64 (x9_2 + 1)), zq26, H', ⟨by have := HJ8.out; have := HK2.out; omega⟩, ⟨zR HO289.out⟩, ⟨zq47⟩⟩
              ·rw [if_neg c21] at H
               exact absurd H (by simp)
             ·rw [if_neg c20] at H
              exact absurd H (by simp)
            ·rw [if_neg c17] at H
             exact absurd H (by simp)
           ·rw [if_neg c16] at H
            exact absurd H (by simp)
          ·rw [if_neg c14] at H
           exact absurd H (by simp)
         ·rw [if_neg c13] at H
          (have c13b0 : decide (x9_2 < (l0.length : Int)) = false := decide_eq_false c13);clear c13;(simp only [Option.some.injEq, Prod.mk.injEq] at H);(obtain ⟨rfl, rfl⟩ := H);(go_wp2);(go_ret2);(exact ⟨_, zq25, zR HO_8.out, zq47⟩)
   ·rw [if_neg c7] at H
    exact absurd H (by simp)
  ·replace c6 := Bool.eq_false_iff.mpr c6
   subst c6;(have H1 : (some (([] : List ByteArray), 2)) = some (r1, r2) := zq61);clear H;(have H := H1);clear H1;(simp only [Option.some.injEq, Prod.mk.injEq] at H);(obtain ⟨rfl, rfl⟩ := H)
   go_enter Tryd.func19, Tryd.ntmps19
   (go_wp2_with (first | ((with_reducible refine gate_callee (f := 52) rfl ?_); refine goesL_ (some 11) rfl rfl Tryd.func52 (by kernel_rfl) rfl #[.slice A0 l0.length c0] rfl zq0 ?_; (with_reducible refine (spec_l12Ok.calls k _ _ l0 true _ ?side1 ?side2 A3.out).mono ?_); (case side1 => exact zq55); (case side2 => exact HC0.out); rintro e w' ⟨rfl, ⟨nd, rfl⟩⟩; refine ⟨_, rfl, ?_⟩) | ((with_reducible refine gate_callee (f := 53) rfl ?_); refine goesL_ (some 14) rfl rfl Tryd.func53 (by kernel_rfl) rfl #[.int .i64 a1, .int .i64 (-1000), .int .i64 1000] rfl zq0 ?_; (with_reducible refine (spec_l00In.calls a1 (-1000) 1000 false _ A5.out).mono ?_); rintro e w' ⟨rfl, ⟨nd, rfl⟩⟩; refine ⟨_, rfl, ?_⟩)));(go_ret2);(exact ⟨_, zq25, zq22, zq47⟩)
 ·replace c4 := Bool.eq_false_iff.mpr c4
  subst c4;(have H1 : (some (([] : List ByteArray), 1)) = some (r1, r2) := zq61);clear H;(have H := H1);clear H1;(simp only [Option.some.injEq, Prod.mk.injEq] at H);(obtain ⟨rfl, rfl⟩ := H)
  go_enter Tryd.func19, Tryd.ntmps19
  (go_wp2_with (first | ((with_reducible refine gate_callee (f := 52) rfl ?_); refine goesL_ (some 11) rfl rfl Tryd.func52 (by kernel_rfl) rfl #[.slice A0 l0.length c0] rfl zq0 ?_; (with_reducible refine (spec_l12Ok.calls k _ _ l0 false _ ?side1 ?side2 A3.out).mono ?_); (case side1 => exact zq55); (case side2 => exact HC0.out); rintro e w' ⟨rfl, ⟨nd, rfl⟩⟩; refine ⟨_, rfl, ?_⟩)));(go_ret2);(exact ⟨_, zq25, zq22, zq47⟩)

/-! ### impl_landsOf: function 54 -/
def impl_landsOf.l0 : Nat → List ByteArray → ByteArray → Int → Option (ByteArray)
 | 0, _, _, _ => none
 | k + 1, x0, x3, x4 => if x4 ≤ 122 then ((impl_cellsWith.f k x0 x4).bind fun t290 => (if (t290.length : Int) > 0 then (if x3.size + (Go.Utf8.encode (wrap32 (x4))).size ≤ 9223372036854775807 then (impl_landsOf.l0 k x0 (x3 ++ (Go.Utf8.encode (wrap32 (x4)))) ((x4 + 1) % 256)) else (none)) else (impl_landsOf.l0 k x0 x3 ((x4 + 1) % 256)))) else (some x3)
def impl_landsOf.f (k : Nat) (l0 : List ByteArray) : Option (ByteArray) := impl_landsOf.l0 k l0 (⟨#[]⟩ : ByteArray) 97
theorem impl_landsOf.mono_l : ∀ k, (∀ y0 y1 y2, LeO (impl_landsOf.l0 k y0 y1 y2) (impl_landsOf.l0 (k + 1) y0 y1 y2))
 | 0 => fun _ _ _ r h => by simp [impl_landsOf.l0] at h
 | k + 1 => by
  have ih0 := impl_landsOf.mono_l k
  ·intro y0 y1 y2
   unfold impl_landsOf.l0
   repeat' first | with_reducible (first | exact ih0 _ _ _ | exact impl_cellsWith.mono _ _ _ | exact LeO.refl _ | exact LeO.none _ | refine LeO.ite ?_ ?_ | refine LeO.bind ?_ (fun _ => ?_)) | exact ih0 _ _ _ | exact impl_cellsWith.mono _ _ _ | exact LeO.none _ | refine LeO.ite ?_ ?_ | refine LeO.bind ?_ (fun _ => ?_)
theorem impl_landsOf.mono : ∀ a0 k, LeO (impl_landsOf.f k a0) (impl_landsOf.f (k + 1) a0) := by
 intro a0 k;(have ih0 := impl_landsOf.mono_l k);(unfold impl_landsOf.f)
 repeat' first | with_reducible (first | exact ih0 _ _ _ | exact impl_cellsWith.mono _ _ _ | exact LeO.refl _ | exact LeO.none _ | refine LeO.ite ?_ ?_ | refine LeO.bind ?_ (fun _ => ?_)) | exact ih0 _ _ _ | exact impl_cellsWith.mono _ _ _ | exact LeO.none _ | refine LeO.ite ?_ ?_ | refine LeO.bind ?_ (fun _ => ?_)
theorem impl_landsOf.calls (k : Nat) (A0 : Option Addr) (c0 : Nat) (l0 : List ByteArray) (r : ByteArray) (w : World) (hr0 : Kd.C Kd.string w A0 l0.length l0) (hc0 : l0.length ≤ c0) (h : impl_landsOf.f k l0 = some r) :
  Calls Tryd.prog 54 #[.slice A0 l0.length c0] w fun e w' => e = .returned (.string r) ∧ Below w.heap.size w w' := by
 (have HR0 := Aside0.mk hr0);(have HC0 := Aside0.mk hc0);clear hr0 hc0;(have HB := Aside0.mk (Below.refl w.heap.size w));(have H : (impl_landsOf.l0 k l0 (⟨#[]⟩ : ByteArray) 97) = some r := h);clear h;(have H' := Aside0.mk H);clear H
 go_enter Tryd.func54, Tryd.ntmps54
 go_wp2
 go_loopg [3, 4] k (fun kq v3 v4 w' => ∃ (x3_1 : ByteArray) (x4_1 : Int), v3 = .string x3_1 ∧ v4 = .int .u8 x4_1 ∧ Aside0 (impl_landsOf.l0 kq l0 x3_1 x4_1 = some r) ∧ Aside0 (kq ≤ k) ∧ Aside0 (Below w.heap.size w w'))
 case atStart => exact ⟨((⟨#[]⟩ : ByteArray)), (97), zq26, zq26, H', ⟨Nat.le_refl _⟩, ⟨zq47⟩⟩
 case round =>
  clear H';(obtain ⟨x3_1, x4_1, rfl, rfl, HA, HK1, HB⟩ := hrel)
  cases gk with
  | zero => exact absurd HA.out (by simp [impl_landsOf.l0])
  | succ k1 =>
   (have H := HA.out);clear HA;(simp only [impl_landsOf.l0] at H);(by_cases c2 : x4_1 ≤ 122)
   ·rw [if_pos c2] at H
    (have c2b0 : decide (x4_1 ≤ 122) = true := decide_eq_true c2);clear c2;(replace H := Option.bind_eq_some_iff.mp H);(obtain ⟨t290, A30, H⟩ := H);(replace H : (if (t290.length : Int) > 0 then (if x3_1.size + (Go.Utf8.encode (wrap32 (x4_1))).size ≤ 9223372036854775807 then (impl_landsOf.l0 k1 l0 (x3_1 ++ (Go.Utf8.encode (wrap32 (x4_1)))) ((x4_1 + 1) % 256)) else (none)) else (impl_landsOf.l0 k1 l0 x3_1 ((x4_1 + 1) % 256))) = some r := H);(have A3 := Aside0.mk A30);clear A30;(by_cases c4 : (t290.length : Int) > 0)
    ·rw [if_pos c4] at H
     (have c4b0 : decide (0 < (t290.length : Int)) = true := decide_eq_true c4);(have c4b1 : decide (0 < t290.length) = true := decide_eq_true (by omega));clear c4;(by_cases c5 : x3_1.size + (Go.Utf8.encode (wrap32 (x4_1))).size ≤ 9223372036854775807)
     ·rw [if_pos c5] at H
      (have c5b0 := eq_true c5);(have c5b1 : decide (x3_1.size + (Go.Utf8.encode (wrap32 (x4_1))).size ≤ 9223372036854775807) = true := decide_eq_true c5);(try have c5b2 : (9223372036854775807 < x3_1.size + (Go.Utf8.encode (wrap32 (x4_1))).size) = False := eq_false (Nat.not_lt.2 c5));(have H' := Aside0.mk H);clear H;(go_wp2_with (first | ((with_reducible refine gate_callee (f := 43) rfl ?_); refine goesL_ (some 11) rfl rfl Tryd.func43 (by kernel_rfl) rfl #[.slice A0 l0.length c0, .int .u8 x4_1] rfl zq0 ?_; (with_reducible refine (impl_cellsWith.calls k1 _ _ l0 x4_1 t290 _ ?side1 ?side2 A3.out).mono ?_); (case side1 => exact zq53); (case side2 => exact HC0.out); rintro e w6 ⟨v291, rfl, ho0, hb⟩; refine ⟨_, rfl, ?_⟩; have n0_ := Aside0.mk (Kd.R_lower ho0 (below_size zq47)); have n1_ := Aside0.mk (below_step zq47 hb); clear HB; have HO292 := n0_; have HB := n1_; clear n0_ n1_; (try clear hb); (try clear hb2); (try clear hk); (try clear hi); (try clear ho0); obtain ⟨Ao7, co7, eo7⟩ := Kd.R_slice HO292.out; subst eo7)));(go_roundg k1)
      case measure => have := HK1.out; omega
      case rel => exact ⟨(x3_1 ++ (Go.Utf8.encode (wrap32 (x4_1)))), ((x4_1 + 1) % 256), zq26, zq26, H', ⟨zq40⟩, ⟨zq47⟩⟩
     ·rw [if_neg c5] at H
      exact absurd H (by simp)
    ·rw [if_neg c4] at H
     (have c4b0 : decide (0 < (t290.length : Int)) = false := decide_eq_false c4);(have c4b1 : decide (0 < t290.length) = false := decide_eq_false (by omega));clear c4;(have H' := Aside0.mk H);clear H;(go_wp2_with (first | ((with_reducible refine gate_callee (f := 43) rfl ?_); refine goesL_ (some 11) rfl rfl Tryd.func43 (by kernel_rfl) rfl #[.slice A0 l0.length c0, .int .u8 x4_1] rfl zq0 ?_; (with_reducible refine (impl_cellsWith.calls k1 _ _ l0 x4_1 t290 _ ?side1 ?side2 A3.out).mono ?_); (case side1 => exact zq53); (case side2 => exact HC0.out); rintro e w8 ⟨v291, rfl, ho0, hb⟩; refine ⟨_, rfl, ?_⟩; have n0_ := Aside0.mk (Kd.R_lower ho0 (below_size zq47)); have n1_ := Aside0.mk (below_step zq47 hb); clear HB; have HO292 := n0_; have HB := n1_; clear n0_ n1_; (try clear hb); (try clear hb2); (try clear hk); (try clear hi); (try clear ho0); obtain ⟨Ao9, co9, eo9⟩ := Kd.R_slice HO292.out; subst eo9)));(go_roundg k1)
     case measure => have := HK1.out; omega
     case rel => exact ⟨(x3_1), ((x4_1 + 1) % 256), zq26, zq26, H', ⟨zq40⟩, ⟨zq47⟩⟩
   ·rw [if_neg c2] at H
    (have c2b0 : decide (x4_1 ≤ 122) = false := decide_eq_false c2);clear c2;(obtain rfl := Option.some.inj H);(go_wp2);(go_ret);(exact ⟨zq25, zq47⟩)

/-! ### impl_LandsOf: function 20 -/
def impl_LandsOf.f (k : Nat) (l0 : List ByteArray) : Option (ByteArray × Int) := (impl_ValidGrid.f k l0).bind fun t293 => (if t293 = true then ((impl_landsOf.f k l0).bind fun t294 => (some (t294, 0))) else (some ((⟨#[]⟩ : ByteArray), 1)))
theorem impl_LandsOf.mono : ∀ a0 k, LeO (impl_LandsOf.f k a0) (impl_LandsOf.f (k + 1) a0) := by
 intro a0 k;(unfold impl_LandsOf.f)
 repeat' first | with_reducible (first | exact impl_ValidGrid.mono _ _ | exact impl_landsOf.mono _ _ | exact LeO.refl _ | exact LeO.none _ | refine LeO.ite ?_ ?_ | refine LeO.bind ?_ (fun _ => ?_)) | exact impl_ValidGrid.mono _ _ | exact impl_landsOf.mono _ _ | exact LeO.none _ | refine LeO.ite ?_ ?_ | refine LeO.bind ?_ (fun _ => ?_)
theorem impl_LandsOf.calls (k : Nat) (A0 : Option Addr) (c0 : Nat) (l0 : List ByteArray) (r1 : ByteArray) (r2 : Int) (w : World) (hr0 : Kd.C Kd.string w A0 l0.length l0) (hc0 : l0.length ≤ c0) (h : impl_LandsOf.f k l0 = some (r1, r2)) :
  Calls Tryd.prog 20 #[.slice A0 l0.length c0] w fun e w' => e = .returned (.tuple #[.string r1, .int .i64 r2]) ∧ Below w.heap.size w w' := by
 (have HR0 := Aside0.mk hr0);(have HC0 := Aside0.mk hc0);clear hr0 hc0;(have HB := Aside0.mk (Below.refl w.heap.size w));(have H : ((impl_ValidGrid.f k l0).bind fun t293 => (if t293 = true then ((impl_landsOf.f k l0).bind fun t294 => (some (t294, 0))) else (some ((⟨#[]⟩ : ByteArray), 1)))) = some (r1, r2) := h);clear h;(replace H := Option.bind_eq_some_iff.mp H);(obtain ⟨t293, A20, H⟩ := H);(replace H : (if t293 = true then ((impl_landsOf.f k l0).bind fun t294 => (some (t294, 0))) else (some ((⟨#[]⟩ : ByteArray), 1))) = some (r1, r2) := H);(have A2 := Aside0.mk A20);clear A20;(by_cases c3 : t293 = true)
 ·subst c3
  (have H1 : ((impl_landsOf.f k l0).bind fun t294 => (some (t294, 0))) = some (r1, r2) := zq62);clear H;(have H := H1);clear H1;(replace H := Option.bind_eq_some_iff.mp H);(obtain ⟨t294, A40, H⟩ := H);(replace H : (some (t294, 0)) = some (r1, r2) := H);(have A4 := Aside0.mk A40);clear A40;(simp only [Option.some.injEq, Prod.mk.injEq] at H);(obtain ⟨rfl, rfl⟩ := H)
  go_enter Tryd.func20, Tryd.ntmps20
  (go_wp2_with (first | ((with_reducible refine gate_callee (f := 30) rfl ?_); refine goesL_ (some 5) rfl rfl Tryd.func30 (by kernel_rfl) rfl #[.slice A0 l0.length c0] rfl zq0 ?_; (with_reducible refine (impl_ValidGrid.calls k _ _ l0 true _ ?side1 ?side2 A2.out).mono ?_); (case side1 => exact zq55); (case side2 => exact HC0.out); rintro e w5 ⟨rfl, hb⟩; refine ⟨_, rfl, ?_⟩; have n0_ := Aside0.mk (below_step zq47 hb); clear HB; have HB := n0_; clear n0_; (try clear hb); (try clear hb2); (try clear hk); (try clear hi)) | ((with_reducible refine gate_callee (f := 54) rfl ?_); refine goesL_ (some 8) rfl rfl Tryd.func54 (by kernel_rfl) rfl #[.slice A0 l0.length c0] rfl zq0 ?_; (with_reducible refine (impl_landsOf.calls k _ _ l0 t294 _ ?side1 ?side2 A4.out).mono ?_); (case side1 => exact zq53); (case side2 => exact HC0.out); rintro e w6 ⟨rfl, hb⟩; refine ⟨_, rfl, ?_⟩; have n0_ := Aside0.mk (below_step zq47 hb); clear HB; have HB := n0_; clear n0_; (try clear hb); (try clear hb2); (try clear hk); (try clear hi))));(go_ret2);(exact ⟨zq25, zq47⟩)
 ·replace c3 := Bool.eq_false_iff.mpr c3
  subst c3;(have H1 : (some ((⟨#[]⟩ : ByteArray), 1)) = some (r1, r2) := zq61);clear H;(have H := H1);clear H1;(simp only [Option.some.injEq, Prod.mk.injEq] at H);(obtain ⟨rfl, rfl⟩ := H)
  go_enter Tryd.func20, Tryd.ntmps20
  (go_wp2_with (first | ((with_reducible refine gate_callee (f := 30) rfl ?_); refine goesL_ (some 5) rfl rfl Tryd.func30 (by kernel_rfl) rfl #[.slice A0 l0.length c0] rfl zq0 ?_; (with_reducible refine (impl_ValidGrid.calls k _ _ l0 false _ ?side1 ?side2 A2.out).mono ?_); (case side1 => exact zq55); (case side2 => exact HC0.out); rintro e w7 ⟨rfl, hb⟩; refine ⟨_, rfl, ?_⟩; have n0_ := Aside0.mk (below_step zq47 hb); clear HB; have HB := n0_; clear n0_; (try clear hb); (try clear hb2); (try clear hk); (try clear hi))));(go_ret2);(exact ⟨zq25, zq47⟩)

/-! ### spec_l12Count: function 44 -/
mutual
def spec_l12Count.l0 : Nat → List ByteArray → Int → Int → Int → Option (Int)
 | 0, _, _, _, _ => none
 | k + 1, x0, x1, x5, x6 => if x6 < (x0.length : Int) then (spec_l12Count.l1 k x0 x1 x5 x6 0) else (some x5)
def spec_l12Count.l1 : Nat → List ByteArray → Int → Int → Int → Int → Option (Int)
 | 0, _, _, _, _, _ => none
 | k + 1, x0, x1, x5, x6, x7 => if 0 ≤ x6 then (if x6 < (x0.length : Int) then (if x7 < ((rdOf ByteArray.empty x0 x6).size : Int) then (if 0 ≤ x7 then (if (bt (rdOf ByteArray.empty x0 x6) x7) = x1 then (spec_l12Count.l1 k x0 x1 (wrap64 (x5 + 1)) x6 (wrap64 (x7 + 1))) else (spec_l12Count.l1 k x0 x1 x5 x6 (wrap64 (x7 + 1)))) else (none)) else (spec_l12Count.l0 k x0 x1 x5 (wrap64 (x6 + 1)))) else (none)) else (none)
end
def spec_l12Count.f (k : Nat) (l0 : List ByteArray) (a1 : Int) : Option (Int) := spec_l12Count.l0 k l0 a1 0 0
theorem spec_l12Count.mono_l : ∀ k, (∀ y0 y1 y2 y3, LeO (spec_l12Count.l0 k y0 y1 y2 y3) (spec_l12Count.l0 (k + 1) y0 y1 y2 y3)) ∧ (∀ y0 y1 y2 y3 y4, LeO (spec_l12Count.l1 k y0 y1 y2 y3 y4) (spec_l12Count.l1 (k + 1) y0 y1 y2 y3 y4))
 | 0 => ⟨fun _ _ _ _ r h => by simp [spec_l12Count.l0] at h, fun _ _ _ _ _ r h => by simp [spec_l12Count.l1] at h⟩
 | k + 1 => by
  (obtain ⟨ih0, ih1⟩ := spec_l12Count.mono_l k);(refine ⟨?_, ?_⟩)
  ·intro y0 y1 y2 y3
   unfold spec_l12Count.l0
   repeat' first | with_reducible (first | exact ih0 _ _ _ _ | exact ih1 _ _ _ _ _ | exact LeO.refl _ | exact LeO.none _ | refine LeO.ite ?_ ?_ | refine LeO.bind ?_ (fun _ => ?_)) | exact ih0 _ _ _ _ | exact ih1 _ _ _ _ _ | exact LeO.none _ | refine LeO.ite ?_ ?_ | refine LeO.bind ?_ (fun _ => ?_)
  ·intro y0 y1 y2 y3 y4
   unfold spec_l12Count.l1
   repeat' first | with_reducible (first | exact ih0 _ _ _ _ | exact ih1 _ _ _ _ _ | exact LeO.refl _ | exact LeO.none _ | refine LeO.ite ?_ ?_ | refine LeO.bind ?_ (fun _ => ?_)) | exact ih0 _ _ _ _ | exact ih1 _ _ _ _ _ | exact LeO.none _ | refine LeO.ite ?_ ?_ | refine LeO.bind ?_ (fun _ => ?_)
theorem spec_l12Count.mono : ∀ a0 a1 k, LeO (spec_l12Count.f k a0 a1) (spec_l12Count.f (k + 1) a0 a1) := by
 intro a0 a1 k;(obtain ⟨ih0, ih1⟩ := spec_l12Count.mono_l k);(unfold spec_l12Count.f)
 repeat' first | with_reducible (first | exact ih0 _ _ _ _ | exact ih1 _ _ _ _ _ | exact LeO.refl _ | exact LeO.none _ | refine LeO.ite ?_ ?_ | refine LeO.bind ?_ (fun _ => ?_)) | exact ih0 _ _ _ _ | exact ih1 _ _ _ _ _ | exact LeO.none _ | refine LeO.ite ?_ ?_ | refine LeO.bind ?_ (fun _ => ?_)
theorem spec_l12Count.calls (k : Nat) (A0 : Option Addr) (c0 : Nat) (l0 : List ByteArray) (a1 : Int) (r : Int) (w : World) (hr0 : Kd.C Kd.string w A0 l0.length l0) (hc0 : l0.length ≤ c0) (h : spec_l12Count.f k l0 a1 = some r) :
  Calls Tryd.prog 44 #[.slice A0 l0.length c0, .int .u8 a1] w fun e w' => e = .returned (.int .i64 r) ∧ Drawn0 w w' := by
 (have HR0 := Aside0.mk hr0);(have HC0 := Aside0.mk hc0);clear hr0 hc0;(have H : (spec_l12Count.l0 k l0 a1 0 0) = some r := h);clear h;(have H' := Aside0.mk H);clear H
 go_enter Tryd.func44, Tryd.ntmps44
 go_wp2
 go_loopg [5, 6] k (fun kq v5 v6 w' => ∃ (x5_1 : Int) (x6_1 : Int), v5 = .int .i64 x5_1 ∧ v6 = .int .i64 x6_1 ∧ Aside0 (spec_l12Count.l0 kq l0 a1 x5_1 x6_1 = some r) ∧ Aside0 (kq ≤ k) ∧ Drawn0 w w')
 case atStart => exact ⟨(0), (0), zq26, zq26, H', ⟨Nat.le_refl _⟩, zq54⟩
 case round =>
  clear H';(try clear p2);(obtain ⟨x5_1, x6_1, rfl, rfl, HA, HK1, ⟨m1, rfl⟩⟩ := hrel)
  cases gk with
  | zero => exact absurd HA.out (by simp [spec_l12Count.l0])
  | succ k1 =>
   (have H := HA.out);clear HA;(simp only [spec_l12Count.l0] at H);(by_cases c3 : x6_1 < (l0.length : Int))
   ·rw [if_pos c3] at H
    (have c3b0 : decide (x6_1 < (l0.length : Int)) = true := decide_eq_true c3);clear c3;(have H' := Aside0.mk H);clear H;(go_wp2)
    go_loopg [5, 7] k1 (fun kq v5 v7 w' => ∃ (x5_2 : Int) (x7_2 : Int), v5 = .int .i64 x5_2 ∧ v7 = .int .i64 x7_2 ∧ Aside0 (spec_l12Count.l1 kq l0 a1 x5_2 x6_1 x7_2 = some r) ∧ Aside0 (kq ≤ k1) ∧ Drawn0 w w')
    case atStart => exact ⟨(x5_1), (0), zq26, zq26, H', ⟨Nat.le_refl _⟩, zq54⟩
    case round =>
     clear H';(try clear p2);(try clear c3);(try clear c3b0);(try clear p2);(obtain ⟨x5_2, x7_2, rfl, rfl, HA, HK2, ⟨m2, rfl⟩⟩ := hrel)
     cases gk with
     | zero => exact absurd HA.out (by simp [spec_l12Count.l1])
     | succ k2 =>
      (have H := HA.out);clear HA;(simp only [spec_l12Count.l1] at H);(by_cases c4 : 0 ≤ x6_1)
      ·rw [if_pos c4] at H
       (have c4b0 : decide (0 ≤ x6_1) = true := decide_eq_true c4);clear c4;(by_cases c5 : x6_1 < (l0.length : Int))
       ·rw [if_pos c5] at H
        (have c5b0 : decide (x6_1 < (l0.length : Int)) = true := decide_eq_true c5);clear c5;(by_cases c6 : x7_2 < ((rdOf ByteArray.empty l0 x6_1).size : Int))
        ·rw [if_pos c6] at H
         (have c6b0 : decide (x7_2 < ((rdOf ByteArray.empty l0 x6_1).size : Int)) = true := decide_eq_true c6);clear c6;(by_cases c7 : 0 ≤ x7_2)
         ·rw [if_pos c7] at H
          (have c7b0 : decide (0 ≤ x7_2) = true := decide_eq_true c7);clear c7;(by_cases c9 : (bt (rdOf ByteArray.empty l0 x6_1) x7_2) = a1)
          ·rw [if_pos c9] at H
           (have c9b0 : ((bt (rdOf ByteArray.empty l0 x6_1) x7_2) == a1) = true := beq_iff_eq.mpr c9);(have c9b1 : ((bt (rdOf ByteArray.empty l0 x6_1) x7_2) != a1) = false := bne_eq_false_iff_eq.mpr c9);clear c9;(have H' := Aside0.mk H);clear H;(have p295 : 0 ≤ (x6_1 : Int) := of_decide_eq_true zq21);(have q295 : x6_1 < (l0.length : Int) := of_decide_eq_true zq21);(obtain ⟨ad295, e295, hx295_0⟩ := Kd.at_string HR0.out x6_1 p295 q295)
           cases e295
           (replace p295 := eq_true p295);(replace q295 := eq_true q295);(have p296 : 0 ≤ (x6_1 : Int) := of_decide_eq_true zq21);(have q296 : x6_1 < (l0.length : Int) := of_decide_eq_true zq21);(obtain ⟨ad296, e296, hx296_0⟩ := Kd.at_string HR0.out x6_1 p296 q296);(obtain rfl : ad295 = ad296 := (by injection e296));(replace p296 := eq_true p296);(replace q296 := eq_true q296);(have p8 : 0 ≤ (x7_2 : Int) := of_decide_eq_true zq21);(have q8 : x7_2 < ((rdOf ByteArray.empty l0 x6_1).size : Int) := of_decide_eq_true zq21);(have hx8 := bt_at (rdOf ByteArray.empty l0 x6_1) x7_2);(replace p8 := eq_true p8);(replace q8 := eq_true q8);(go_wp2);(go_roundg k2)
           case measure => have := HK1.out; have := HK2.out; omega
           case rel => exact ⟨(wrap64 (x5_2 + 1)), (wrap64 (x7_2 + 1)), zq26, zq26, H', ⟨zq39⟩, zq54⟩
          ·rw [if_neg c9] at H
           (have c9b0 : ((bt (rdOf ByteArray.empty l0 x6_1) x7_2) == a1) = false := beq_eq_false_iff_ne.mpr c9);(have c9b1 : ((bt (rdOf ByteArray.empty l0 x6_1) x7_2) != a1) = true := bne_iff_ne.mpr c9);(have H' := Aside0.mk H);clear H;(have p295 : 0 ≤ (x6_1 : Int) := of_decide_eq_true zq21);(have q295 : x6_1 < (l0.length : Int) := of_decide_eq_true zq21);(obtain ⟨ad295, e295, hx295_0⟩ := Kd.at_string HR0.out x6_1 p295 q295)
           cases e295
           (replace p295 := eq_true p295);(replace q295 := eq_true q295);(have p296 : 0 ≤ (x6_1 : Int) := of_decide_eq_true zq21);(have q296 : x6_1 < (l0.length : Int) := of_decide_eq_true zq21);(obtain ⟨ad296, e296, hx296_0⟩ := Kd.at_string HR0.out x6_1 p296 q296);(obtain rfl : ad295 = ad296 := (by injection e296));(replace p296 := eq_true p296);(replace q296 := eq_true q296);(have p8 : 0 ≤ (x7_2 : Int) := of_decide_eq_true zq21);(have q8 : x7_2 < ((rdOf ByteArray.empty l0 x6_1).size : Int) := of_decide_eq_true zq21);(have hx8 := bt_at (rdOf ByteArray.empty l0 x6_1) x7_2);(replace p8 := eq_true p8);(replace q8 := eq_true q8);(go_wp2);(go_roundg k2)
           case measure => have := HK1.out; have := HK2.out; omega
           case rel => exact ⟨(x5_2), (wrap64 (x7_2 + 1)), zq26, zq26, H', ⟨zq39⟩, zq54⟩
         ·rw [if_neg c7] at H
          exact absurd H (by simp)
        ·rw [if_neg c6] at H
         (have c6b0 : decide (x7_2 < ((rdOf ByteArray.empty l0 x6_1).size : Int)) = false := decide_eq_false c6);clear c6;(have H' := Aside0.mk H);clear H;(have p295 : 0 ≤ (x6_1 : Int) := of_decide_eq_true zq21);(have q295 : x6_1 < (l0.length : Int) := of_decide_eq_true zq21);(obtain ⟨ad295, e295, hx295_0⟩ := Kd.at_string HR0.out x6_1 p295 q295)
         cases e295
         (replace p295 := eq_true p295);(replace q295 := eq_true q295);(go_wp2);(go_roundg k2)
         case measure => have := HK1.out; have := HK2.out; omega
         case rel => exact ⟨(x5_2), (wrap64 (x6_1 + 1)), zq26, zq26, H', ⟨zq39⟩, zq54⟩
       ·rw [if_neg c5] at H
        exact absurd H (by simp)
      ·rw [if_neg c4] at H
       exact absurd H (by simp)
   ·rw [if_neg c3] at H
    (have c3b0 : decide (x6_1 < (l0.length : Int)) = false := decide_eq_false c3);clear c3;(obtain rfl := Option.some.inj H);(go_wp2);(go_ret);(exact ⟨zq26, zq54⟩)

end Go.Proofs.YtdkmngghknohgaaDoor.PFnGrids
