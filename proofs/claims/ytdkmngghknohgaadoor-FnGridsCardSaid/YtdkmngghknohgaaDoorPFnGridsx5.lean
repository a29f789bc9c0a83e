-- Made by a program of this session (gprint.py) out of the kit's print of the translation and texts of my own. SLIM
import Derived.Test.YtdkmngghknohgaaDoorPFnGridsx0
import Derived.Test.YtdkmngghknohgaaDoorPFnGridsx1
import Derived.Test.YtdkmngghknohgaaDoorPFnGridsx4
namespace Go.Proofs.YtdkmngghknohgaaDoor.PFnGrids
open Go.RowKit Go.Proofs.YtdkmngghknohgaaDoorW.PrintWords Go.Proofs.YtdkmngghknohgaaDoorW.PrintLast Go.Proofs.YtdkmngghknohgaaDoorW.PrintMore
set_option maxHeartbeats 64000000
set_option maxRecDepth 100000
attribute [local go_sem] max2_int min2_int max_two min_two max_three min_three max_four min_four   -- for this text's walks alone
set_option linter.unusedVariables false
set_option linter.unusedSimpArgs false

/-! ### impl_TurnGrid: function 18 -/
def impl_TurnGrid.l0 : Nat → Int → List ByteArray → List ByteArray → Int → Int → Option (List ByteArray × Int)
 | 0, _, _, _, _, _ => none
 | k + 1, x8, x9, x32, x33, x34 => if x34 < x33 then (if 0 ≤ x34 then (if x34 < (x32.length : Int) then (if 0 ≤ x8 then (if x8 ≤ ((rdOf ByteArray.empty x32 x34).size : Int) then (if ((rdOf ByteArray.empty x32 x34).extract (x8 : Int).toNat (rdOf ByteArray.empty x32 x34).size).size + ((rdOf ByteArray.empty x32 x34).extract 0 (x8 : Int).toNat).size ≤ 9223372036854775807 then (if x9.length < 8796093022208 then (impl_TurnGrid.l0 k x8 (x9 ++ [((rdOf ByteArray.empty x32 x34).extract (x8 : Int).toNat (rdOf ByteArray.empty x32 x34).size) ++ ((rdOf ByteArray.empty x32 x34).extract 0 (x8 : Int).toNat)]) x32 x33 (wrap64 (x34 + 1))) else (none)) else (none)) else (none)) else (none)) else (none)) else (none)) else (some (x9, 0))
def impl_TurnGrid.f (k : Nat) (l0 : List ByteArray) (a1 : Int) : Option (List ByteArray × Int) := (impl_ValidGrid.f k l0).bind fun t259 => ((impl_within.f a1 (-1000) 1000).bind fun t260 => ((impl_check.f t259 t260).bind fun t261 => (if t261 = 0 then (if 0 < (l0.length : Int) then (if ((rdOf ByteArray.empty l0 0).size : Int) = 0 then (none) else (impl_TurnGrid.l0 k (Int.tmod (wrap64 (((rdOf ByteArray.empty l0 0).size : Int) - (Int.tmod a1 ((rdOf ByteArray.empty l0 0).size : Int)))) ((rdOf ByteArray.empty l0 0).size : Int)) (([] : List ByteArray)) l0 (l0.length : Int) 0)) else (none)) else (some (([] : List ByteArray), t261)))))
theorem impl_TurnGrid.mono_l : ∀ k, (∀ y0 y1 y2 y3 y4, LeO (impl_TurnGrid.l0 k y0 y1 y2 y3 y4) (impl_TurnGrid.l0 (k + 1) y0 y1 y2 y3 y4))
 | 0 => fun _ _ _ _ _ r h => by simp [impl_TurnGrid.l0] at h
 | k + 1 => by
  have ih0 := impl_TurnGrid.mono_l k
  ·intro y0 y1 y2 y3 y4
   unfold impl_TurnGrid.l0
   repeat' first | with_reducible (first | exact ih0 _ _ _ _ _ | exact impl_ValidGrid.mono _ _ | exact LeO.refl _ | exact LeO.none _ | refine LeO.ite ?_ ?_ | refine LeO.bind ?_ (fun _ => ?_)) | exact ih0 _ _ _ _ _ | exact impl_ValidGrid.mono _ _ | exact LeO.none _ | refine LeO.ite ?_ ?_ | refine LeO.bind ?_ (fun _ => ?_)
theorem impl_TurnGrid.mono : ∀ a0 a1 k, LeO (impl_TurnGrid.f k a0 a1) (impl_TurnGrid.f (k + 1) a0 a1) := by
 intro a0 a1 k;(have ih0 := impl_TurnGrid.mono_l k);(unfold impl_TurnGrid.f)
 repeat' first | with_reducible (first | exact ih0 _ _ _ _ _ | exact impl_ValidGrid.mono _ _ | exact LeO.refl _ | exact LeO.none _ | refine LeO.ite ?_ ?_ | refine LeO.bind ?_ (fun _ => ?_)) | exact ih0 _ _ _ _ _ | exact impl_ValidGrid.mono _ _ | exact LeO.none _ | refine LeO.ite ?_ ?_ | refine LeO.bind ?_ (fun _ => ?_)
def impl_TurnGrid.T10 : Bool × List (List Nat × List Nat) := (true, [([], []), ([], []), ([], []), ([1, 2], [1, 2]), ([], []), ([], []), ([4, 5], [4, 5]), ([3, 6], [3, 6]), ([7], [7]), ([0, 8], [0, 8]), ([9, 9, 0, 1, 2, 3, 4, 5, 6, 7, 8, 9], [0, 9])])
def impl_TurnGrid.B10 : List Nat := [0, 0, 0, 6, 0, 0, 48, 126, 254, 511, 1023]
theorem impl_TurnGrid.tab10 : rtab .any (opsOf Tryd.f18 10) = impl_TurnGrid.T10 := by kernel_rfl
theorem impl_TurnGrid.bits10 : waitsOk impl_TurnGrid.T10.2 impl_TurnGrid.B10 = true := by kernel_rfl
theorem impl_TurnGrid.calls (k : Nat) (A0 : Option Addr) (c0 : Nat) (l0 : List ByteArray) (a1 : Int) (r1 : List ByteArray) (r2 : Int) (w : World) (hr0 : Kd.C Kd.string w A0 l0.length l0) (hc0 : l0.length ≤ c0) (h : impl_TurnGrid.f k l0 a1 = some (r1, r2)) :
  Calls Tryd.prog 18 #[.slice A0 l0.length c0, .int .i64 a1] w fun e w' => ∃ v0_ : Value, e = .returned (.tuple #[v0_, .int .i64 r2]) ∧ Kd.R Kd.string 9 w' w.heap.size (fun _ => True) v0_ r1 ∧ Below w.heap.size w w' := by
 (have HR0 := Aside0.mk hr0);(have HC0 := Aside0.mk hc0);clear hr0 hc0;(have HB := Aside0.mk (Below.refl w.heap.size w));(have H : ((impl_ValidGrid.f k l0).bind fun t259 => ((impl_within.f a1 (-1000) 1000).bind fun t260 => ((impl_check.f t259 t260).bind fun t261 => (if t261 = 0 then (if 0 < (l0.length : Int) then (if ((rdOf ByteArray.empty l0 0).size : Int) = 0 then (none) else (impl_TurnGrid.l0 k (Int.tmod (wrap64 (((rdOf ByteArray.empty l0 0).size : Int) - (Int.tmod a1 ((rdOf ByteArray.empty l0 0).size : Int)))) ((rdOf ByteArray.empty l0 0).size : Int)) (([] : List ByteArray)) l0 (l0.length : Int) 0)) else (none)) else (some (([] : List ByteArray), t261)))))) = some (r1, r2) := h);clear h;(replace H := Option.bind_eq_some_iff.mp H);(obtain ⟨t259, A30, H⟩ := H);(replace H : ((impl_within.f a1 (-1000) 1000).bind fun t260 => ((impl_check.f t259 t260).bind fun t261 => (if t261 = 0 then (if 0 < (l0.length : Int) then (if ((rdOf ByteArray.empty l0 0).size : Int) = 0 then (none) else (impl_TurnGrid.l0 k (Int.tmod (wrap64 (((rdOf ByteArray.empty l0 0).size : Int) - (Int.tmod a1 ((rdOf ByteArray.empty l0 0).size : Int)))) ((rdOf ByteArray.empty l0 0).size : Int)) (([] : List ByteArray)) l0 (l0.length : Int) 0)) else (none)) else (some (([] : List ByteArray), t261))))) = some (r1, r2) := H);(have A3 := Aside0.mk A30);clear A30;(replace H := Option.bind_eq_some_iff.mp H);(obtain ⟨t260, A40, H⟩ := H);(replace H : ((impl_check.f t259 t260).bind fun t261 => (if t261 = 0 then (if 0 < (l0.length : Int) then (if ((rdOf ByteArray.empty l0 0).size : Int) = 0 then (none) else (impl_TurnGrid.l0 k (Int.tmod (wrap64 (((rdOf ByteArray.empty l0 0).size : Int) - (Int.tmod a1 ((rdOf ByteArray.empty l0 0).size : Int)))) ((rdOf ByteArray.empty l0 0).size : Int)) (([] : List ByteArray)) l0 (l0.length : Int) 0)) else (none)) else (some (([] : List ByteArray), t261)))) = some (r1, r2) := H);(have A4 := Aside0.mk A40);clear A40;(replace H := Option.bind_eq_some_iff.mp H);(obtain ⟨t261, A50, H⟩ := H);(replace H : (if t261 = 0 then (if 0 < (l0.length : Int) then (if ((rdOf ByteArray.empty l0 0).size : Int) = 0 then (none) else (impl_TurnGrid.l0 k (Int.tmod (wrap64 (((rdOf ByteArray.empty l0 0).size : Int) - (Int.tmod a1 ((rdOf ByteArray.empty l0 0).size : Int)))) ((rdOf ByteArray.empty l0 0).size : Int)) (([] : List ByteArray)) l0 (l0.length : Int) 0)) else (none)) else (some (([] : List ByteArray), t261))) = some (r1, r2) := H);(have A5 := Aside0.mk A50);clear A50;(by_cases c6 : t261 = 0)
 ·rw [if_pos c6] at H
  (have c6b0 : (t261 == 0) = true := beq_iff_eq.mpr c6);(have c6b1 : (t261 != 0) = false := bne_eq_false_iff_eq.mpr c6);clear c6;(by_cases c7 : 0 < (l0.length : Int))
  ·rw [if_pos c7] at H
   (have c7b0 : decide (0 < (l0.length : Int)) = true := decide_eq_true c7);(have c7b1 : decide (0 < l0.length) = true := decide_eq_true (by omega));clear c7;(by_cases c8 : ((rdOf ByteArray.empty l0 0).size : Int) = 0)
   ·rw [if_pos c8] at H
    exact absurd H (by simp)
   ·rw [if_neg c8] at H
    (have c8b0 : (((rdOf ByteArray.empty l0 0).size : Int) == 0) = false := beq_eq_false_iff_ne.mpr c8);(have c8b1 : (((rdOf ByteArray.empty l0 0).size : Int) != 0) = true := bne_iff_ne.mpr c8);(obtain ⟨y263, hy_⟩ : ∃ y_ : List ByteArray, y_ = (([] : List ByteArray)) := ⟨_, rfl⟩);(replace H : (impl_TurnGrid.l0 k (Int.tmod (wrap64 (((rdOf ByteArray.empty l0 0).size : Int) - (Int.tmod a1 ((rdOf ByteArray.empty l0 0).size : Int)))) ((rdOf ByteArray.empty l0 0).size : Int)) y263 l0 (l0.length : Int) 0) = some (r1, r2) := zq20);(have Ny263 := Aside0.mk hy_);clear hy_;(have H' := Aside0.mk H);clear H
    go_enter Tryd.func18, Tryd.ntmps18
    go_wp2_with (first | ((with_reducible refine gate_callee (f := 30) rfl ?_); refine goesL_ (some 13) rfl rfl Tryd.func30 (by kernel_rfl) rfl #[.slice A0 l0.length c0] rfl zq0 ?_; (with_reducible refine (impl_ValidGrid.calls k _ _ l0 t259 _ ?side1 ?side2 A3.out).mono ?_); (case side1 => exact zq55); (case side2 => exact HC0.out); rintro e w9 ⟨rfl, hb⟩; refine ⟨_, rfl, ?_⟩; have n0_ := Aside0.mk (below_step zq47 hb); clear HB; have HB := n0_; clear n0_; (try clear hb); (try clear hb2); (try clear hk); (try clear hi)) | ((with_reducible refine gate_callee (f := 51) rfl ?_); refine goesL_ (some 15) rfl rfl Tryd.func51 (by kernel_rfl) rfl #[.int .i64 a1, .int .i64 (-1000), .int .i64 1000] rfl zq0 ?_; (with_reducible refine (impl_within.calls a1 (-1000) 1000 t260 _ A4.out).mono ?_); rintro e w' ⟨rfl, ⟨nd, rfl⟩⟩; refine ⟨_, rfl, ?_⟩) | ((with_reducible refine gate_callee (f := 50) rfl ?_); refine goesL_ (some 16) rfl rfl Tryd.func50 (by kernel_rfl) rfl #[.bool t259, .bool t260] rfl zq0 ?_; (with_reducible refine (impl_check.calls t259 t260 t261 _ A5.out).mono ?_); rintro e w' ⟨rfl, ⟨nd, rfl⟩⟩; refine ⟨_, rfl, ?_⟩; have p262 : 0 ≤ (0 : Int) := (by omega); have q262 : 0 < (l0.length : Int) := of_decide_eq_true zq21; obtain ⟨ad262, e262, hx262_0⟩ := Kd.at_string HR0.out 0 p262 q262; cases e262; have qi262 : (0 < l0.length) = True := eq_true (by omega); (try rw [show ((0 : Int)).toNat = 0 from rfl] at hx262_0); (try rw [Addr.add_zero'] at hx262_0); replace hx262_0 := (HB.out.cell (World.block_lt_of_cell? w _ hx262_0)).trans hx262_0; replace p262 := eq_true p262; replace q262 := eq_true q262) | ((with_reducible refine gate_dst (N := 31) rfl ?_); refine Kd.R_lit Kd.string _ 9 ?hg (N := 31) ?hd (xs := ([] : List ByteArray)) (inner := []) (ok := fun _ => True) (okp := fun _ => True) ?hr ?hp (fun _ hk => hk) trivial (Below.refl _ _) (Nat.le_refl _) (by simp) ?_; (case hd => rfl); (case hg => rfl); (case hr => first | (go_simp; done) | (go_simp; rfl)); (case hp => exact (Reps.none _ _)); intro v264 w10 ho11 hb hg_ hnew_; clear hg_ hnew_; (first | rw [← Ny263.out] at ho11 | (simp only [Int.reduceToNat] at ho11; rw [← Ny263.out] at ho11)); have n0_ := Aside0.mk (Kd.R_lower ho11 (below_size zq47)); have n1_ := Aside0.mk (below_step zq47 hb); clear HB; have HO265 := n0_; have HB := n1_; clear n0_ n1_; clear hb ho11))
    go_loopg [9, 34] k (fun kq v9 v34 w' => ∃ (x9_1 : List ByteArray) (x34_1 : Int), v34 = .int .i64 x34_1 ∧ Aside0 (impl_TurnGrid.l0 kq (Int.tmod (wrap64 (((rdOf ByteArray.empty l0 0).size : Int) - (Int.tmod a1 ((rdOf ByteArray.empty l0 0).size : Int)))) ((rdOf ByteArray.empty l0 0).size : Int)) x9_1 l0 (l0.length : Int) x34_1 = some (r1, r2)) ∧ Aside0 (kq ≤ k) ∧ Aside0 (Kd.R Kd.string 9 w' w.heap.size (fun _ => True) v9 x9_1) ∧ Aside0 (Below w.heap.size w w'))
    case atStart => exact ⟨(y263), (0), zq26, H', ⟨Nat.le_refl _⟩, ⟨zR HO265.out⟩, ⟨zq47⟩⟩
    case round =>
     clear H';(try clear c1);(try clear p2);(try clear q2);(try clear hx2);(try clear qi2);(try clear c3);(try clear c5);(try clear c6);(try clear c6b0);(try clear c6b1);(try clear p6);(try clear c7);(try clear c7b0);(try clear c7b1);(try clear c8);(try clear c8b0);(try clear c8b1);(try clear hx262_0);(try clear p262);(try clear q262);(obtain ⟨x9_1, x34_1, rfl, HA, HK1, HO_9, HB⟩ := hrel)
     cases gk with
     | zero => exact absurd HA.out (by simp [impl_TurnGrid.l0])
     | succ k1 =>
      (have H := HA.out);clear HA;(simp only [impl_TurnGrid.l0] at H);(by_cases c12 : x34_1 < (l0.length : Int))
      ·rw [if_pos c12] at H
       (have c12b0 : decide (x34_1 < (l0.length : Int)) = true := decide_eq_true c12);clear c12;(by_cases c13 : 0 ≤ x34_1)
       ·rw [if_pos c13] at H
        (have c13b0 : decide (0 ≤ x34_1) = true := decide_eq_true c13);clear c13;(by_cases c14 : x34_1 < (l0.length : Int))
        ·rw [if_pos c14] at H
         (have c14b0 : decide (x34_1 < (l0.length : Int)) = true := decide_eq_true c14);clear c14;(obtain ⟨ji15, hji15⟩ : ∃ j_ : Int, (Int.tmod (wrap64 (((rdOf ByteArray.empty l0 0).size : Int) - (Int.tmod a1 ((rdOf ByteArray.empty l0 0).size : Int)))) ((rdOf ByteArray.empty l0 0).size : Int)) = j_ := ⟨_, rfl⟩);(replace H : (if 0 ≤ (ji15) then (if (ji15) ≤ ((rdOf ByteArray.empty l0 x34_1).size : Int) then (if ((rdOf ByteArray.empty l0 x34_1).extract ((ji15) : Int).toNat (rdOf ByteArray.empty l0 x34_1).size).size + ((rdOf ByteArray.empty l0 x34_1).extract 0 ((ji15) : Int).toNat).size ≤ 9223372036854775807 then (if x9_1.length < 8796093022208 then (impl_TurnGrid.l0 k1 (ji15) (x9_1 ++ [((rdOf ByteArray.empty l0 x34_1).extract ((ji15) : Int).toNat (rdOf ByteArray.empty l0 x34_1).size) ++ ((rdOf ByteArray.empty l0 x34_1).extract 0 ((ji15) : Int).toNat)]) l0 (l0.length : Int) (wrap64 (x34_1 + 1))) else (none)) else (none)) else (none)) else (none)) = some (r1, r2) := zq18);(by_cases c16 : 0 ≤ (ji15))
         ·rw [if_pos c16] at H
          (have c16b0 := eq_true c16);(have c16b1 : decide (0 ≤ (ji15)) = true := decide_eq_true c16);clear c16;(by_cases c17 : (ji15) ≤ ((rdOf ByteArray.empty l0 x34_1).size : Int))
          ·rw [if_pos c17] at H
           (have c17b0 := eq_true c17);(have c17b1 : decide ((ji15) ≤ ((rdOf ByteArray.empty l0 x34_1).size : Int)) = true := decide_eq_true c17);clear c17;(have c18b0 := eq_true (of_decide_eq_true zq21 : 0 ≤ (ji15)));(have c19b0 := eq_true (of_decide_eq_true zq21 : (ji15) ≤ ((rdOf ByteArray.empty l0 x34_1).size : Int)));(by_cases c20 : ((rdOf ByteArray.empty l0 x34_1).extract ((ji15) : Int).toNat (rdOf ByteArray.empty l0 x34_1).size).size + ((rdOf ByteArray.empty l0 x34_1).extract 0 ((ji15) : Int).toNat).size ≤ 9223372036854775807)
           ·rw [if_pos c20] at H
            (have c20b0 := eq_true c20);(have c20b1 : decide (((rdOf ByteArray.empty l0 x34_1).extract ((ji15) : Int).toNat (rdOf ByteArray.empty l0 x34_1).size).size + ((rdOf ByteArray.empty l0 x34_1).extract 0 ((ji15) : Int).toNat).size ≤ 9223372036854775807) = true := decide_eq_true c20);(try have c20b2 : (9223372036854775807 < ((rdOf ByteArray.empty l0 x34_1).extract ((ji15) : Int).toNat (rdOf ByteArray.empty l0 x34_1).size).size + ((rdOf ByteArray.empty l0 x34_1).extract 0 ((ji15) : Int).toNat).size) = False := eq_false (Nat.not_lt.2 c20));(have c20b5 : (9223372036854775807 < (rdOf ByteArray.empty l0 x34_1).size) = False := eq_false (by have z_ := c20; simp only [ByteArray.size_extract] at z_; omega));(by_cases c21 : x9_1.length < 8796093022208)
            ·rw [if_pos c21] at H
             (have LMc21 := Aside0.mk c21);clear c21;(obtain ⟨y267, hy_⟩ : ∃ y_ : List ByteArray, y_ = (x9_1 ++ [((rdOf ByteArray.empty l0 x34_1).extract ((ji15) : Int).toNat (rdOf ByteArray.empty l0 x34_1).size) ++ ((rdOf ByteArray.empty l0 x34_1).extract 0 ((ji15) : Int).toNat)]) := ⟨_, rfl⟩);(replace H : (impl_TurnGrid.l0 k1 (ji15) y267 l0 (l0.length : Int) (wrap64 (x34_1 + 1))) = some (r1, r2) := zq20);(have Ny267 := Aside0.mk hy_);clear hy_;(have H' := Aside0.mk H);clear H;(have p266 : 0 ≤ (x34_1 : Int) := of_decide_eq_true zq21);(have q266 : x34_1 < (l0.length : Int) := of_decide_eq_true zq21);(obtain ⟨ad266, e266, hx266_0⟩ := Kd.at_string HR0.out x34_1 p266 q266);(obtain rfl : ad262 = ad266 := (by injection e266));(replace hx266_0 := (HB.out.cell (World.block_lt_of_cell? w _ hx266_0)).trans hx266_0);(replace p266 := eq_true p266);(replace q266 := eq_true q266);(try go_wp2);(have n0_ := Aside0.mk (Kd.R_drew HO_9.out));(have n1_ := Aside0.mk (below_drew1 HB.out));clear HO_9;clear HB;(have HO_9 := n0_);(have HB := n1_);clear n0_ n1_;(refine start_ (n := 11) (S := fun w' => True) (ds := []) #[false,false,false,false,false,false,false,false,false,false,false] (by kernel_rfl) rfl rfl trivial (fun hHeld => ?_); refine with_tabW impl_TurnGrid.tab10 impl_TurnGrid.bits10 (fun HT_ HW_ => ?_));(generalize wr.drew = w22 at HO_9 HB hHeld ⊢);(refine pI (i := 0) (N := some 38) (v := ?_) (a' := ?_) (mB 11 1) rfl rfl HT_.out (by kernel_rfl) (fun _ _ _ h => h) rfl ?_ ?_ ?_);rotate_left
             ·intro w'
              go_simp;(with_reducible rfl)
             rotate_left
             ·simp only [Act.put, sA]
              rfl
             (refine pI (i := 1) (N := some 39) (v := ?_) (a' := ?_) (mB 11 3) rfl rfl HT_.out (by kernel_rfl) (fun _ _ _ h => h) rfl ?_ ?_ ?_);rotate_left
             ·intro w'
              go_simp;(with_reducible rfl)
             rotate_left
             ·simp only [Act.put, sA]
              rfl
             (refine pI (i := 2) (N := some 40) (v := ?_) (a' := ?_) (mB 11 7) rfl rfl HT_.out (by kernel_rfl) (fun _ _ _ h => h) rfl ?_ ?_ ?_);rotate_left
             ·intro w'
              go_simp;(with_reducible rfl)
             rotate_left
             ·simp only [Act.put, sA]
              rfl
             (refine pI (i := 3) (N := some 41) (v := ?_) (a' := ?_) (mB 11 15) rfl rfl HT_.out (by kernel_rfl) (fun _ _ _ h => h) rfl ?_ ?_ ?_);rotate_left
             ·intro w'
              go_simp;(with_reducible rfl)
             rotate_left
             ·simp only [Act.put, sA]
              rfl
             (refine pI (i := 4) (N := some 42) (v := ?_) (a' := ?_) (mB 11 31) rfl rfl HT_.out (by kernel_rfl) (fun _ _ _ h => h) rfl ?_ ?_ ?_);rotate_left
             ·intro w'
              go_simp;(with_reducible rfl)
             rotate_left
             ·simp only [Act.put, sA]
              rfl
             (refine pI (i := 5) (N := some 43) (v := ?_) (a' := ?_) (mB 11 63) rfl rfl HT_.out (by kernel_rfl) (fun _ _ _ h => h) rfl ?_ ?_ ?_);rotate_left
             ·intro w'
              go_simp;(with_reducible rfl)
             rotate_left
             ·simp only [Act.put, sA]
              rfl
             (refine pI (i := 6) (N := some 44) (v := ?_) (a' := ?_) (mB 11 127) rfl rfl HT_.out (by kernel_rfl) (fun _ _ _ h => h) rfl ?_ ?_ ?_);rotate_left
             ·intro w'
              go_simp;(with_reducible rfl)
             rotate_left
             ·simp only [Act.put, sA]
              rfl
             (refine pI (i := 7) (N := some 45) (v := ?_) (a' := ?_) (mB 11 255) rfl rfl HT_.out (by kernel_rfl) (fun _ _ _ h => h) rfl ?_ ?_ ?_);rotate_left
             ·intro w'
              go_simp;(with_reducible rfl)
             rotate_left
             ·simp only [Act.put, sA]
              rfl
             (refine one_ (i := 8) (N := some 46) (mB 11 511) rfl rfl (one_of HT_.out (by kernel_rfl)) (by decide) (fun K hK => ?_));(refine value_ (w1 := ?_) (v := ?_) (by rfl) rfl ?_ ?_);(rotate_left 2)
             ·go_simp
              constructor
              ·rfl
              ·rfl
             (refine hK.out _ _ trivial (fun hHeld => ?_));clear hK K;(refine norm_ (a' := ?_) ?_ ?_);rotate_left
             ·show Act.put _ (some 46) _ = _
              (simp only [Act.put, sA]);rfl
             (refine one_ (i := 9) (N := some 47) (mB 11 1023) rfl rfl (one_of HT_.out (by kernel_rfl)) (by decide) (fun K hK => ?_));(refine Kd.R_append_step Kd.string (w0 := w) w.heap.size (by rfl) (.tmp 38) (.tmp 46) 24 9 (.string ⟨#[]⟩) 16 rfl Tryd.underlying24 info9 rfl (by decide) (by omega) u9 x9_1 (((rdOf ByteArray.empty l0 x34_1).extract ((ji15) : Int).toNat (rdOf ByteArray.empty l0 x34_1).size) ++ ((rdOf ByteArray.empty l0 x34_1).extract 0 ((ji15) : Int).toNat)) [.string (((rdOf ByteArray.empty l0 x34_1).extract ((ji15) : Int).toNat (rdOf ByteArray.empty l0 x34_1).size) ++ ((rdOf ByteArray.empty l0 x34_1).extract 0 ((ji15) : Int).toNat))] (fun _ => True) (fun _ => False) rfl rfl ?aP (fun _ hk => hk.elim) ?aF ?aO ?aB ?aS ?aL ?_);((case aP => exact rfl));((case aB => exact zq47));((case aF => exact (fun _ _ => trivial)));((case aO => exact (zR HO_9.out)));((case aS => exact (below_size zq47)));((case aL => have := LMc21.out; omega));intro v268 w23 ho hb hg hat;(rw [← Ny267.out] at ho);(have n0_ := Aside0.mk (hb));(have n1_ := Aside0.mk (ho));clear HB;clear HO_9;(have HB := n0_);(have HO269 := n1_);clear n0_ n1_;clear ho hb hg hat;(refine hK.out _ _ trivial (fun hHeld => ?_));clear hK K;(refine norm_ (a' := ?_) ?_ ?_);rotate_left
             ·show Act.put _ (some 47) _ = _
              (simp only [Act.put, sA]);rfl
             (refine pI (i := 10) (N := some 9) (v := ?_) (a' := ?_) (mB 11 2047) rfl rfl HT_.out (by kernel_rfl) (fun _ _ _ h => h) rfl ?_ ?_ ?_);rotate_left
             ·intro w'
              go_simp;(with_reducible rfl)
             rotate_left
             ·simp only [Act.put, sA]
              rfl
             (refine done_ (done_of HT_.out (by kernel_rfl)) ?_);(try go_wp2);((try subst hji15));(go_roundg k1)
             case measure => have := HK1.out; omega
             case rel => exact ⟨(y267), (wrap64 (x34_1 + 1)), zq26, H', ⟨zq40⟩, ⟨zR HO269.out⟩, ⟨zq47⟩⟩
            ·rw [if_neg c21] at H
             exact absurd H (by simp)
           ·rw [if_neg c20] at H
            exact absurd H (by simp)
          ·rw [if_neg c17] at H
           exact absurd H (by simp)
         ·rw [if_neg c16] at H
          exact absurd H (by simp)
        ·rw [if_neg c14] at H
         exact absurd H (by simp)
       ·rw [if_neg c13] at H
        exact absurd H (by simp)
      ·rw [if_neg c12] at H
       (have c12b0 : decide (x34_1 < (l0.length : Int)) = false := decide_eq_false c12);clear c12;(simp only [Option.some.injEq, Prod.mk.injEq] at H);(obtain ⟨rfl, rfl⟩ := H);(go_wp2);(go_ret2);(exact ⟨_, zq25, zR HO_9.out, zq47⟩)
  ·rw [if_neg c7] at H
   exact absurd H (by simp)
 ·rw [if_neg c6] at H
  (have c6b0 : (t261 == 0) = false := beq_eq_false_iff_ne.mpr c6);(have c6b1 : (t261 != 0) = true := bne_iff_ne.mpr c6);(simp only [Option.some.injEq, Prod.mk.injEq] at H);(obtain ⟨rfl, rfl⟩ := H)
  go_enter Tryd.func18, Tryd.ntmps18
  (go_wp2_with (first | ((with_reducible refine gate_callee (f := 30) rfl ?_); refine goesL_ (some 13) rfl rfl Tryd.func30 (by kernel_rfl) rfl #[.slice A0 l0.length c0] rfl zq0 ?_; (with_reducible refine (impl_ValidGrid.calls k _ _ l0 t259 _ ?side1 ?side2 A3.out).mono ?_); (case side1 => exact zq55); (case side2 => exact HC0.out); rintro e w24 ⟨rfl, hb⟩; refine ⟨_, rfl, ?_⟩; have n0_ := Aside0.mk (below_step zq47 hb); clear HB; have HB := n0_; clear n0_; (try clear hb); (try clear hb2); (try clear hk); (try clear hi)) | ((with_reducible refine gate_callee (f := 51) rfl ?_); refine goesL_ (some 15) rfl rfl Tryd.func51 (by kernel_rfl) rfl #[.int .i64 a1, .int .i64 (-1000), .int .i64 1000] rfl zq0 ?_; (with_reducible refine (impl_within.calls a1 (-1000) 1000 t260 _ A4.out).mono ?_); rintro e w' ⟨rfl, ⟨nd, rfl⟩⟩; refine ⟨_, rfl, ?_⟩) | ((with_reducible refine gate_callee (f := 50) rfl ?_); refine goesL_ (some 16) rfl rfl Tryd.func50 (by kernel_rfl) rfl #[.bool t259, .bool t260] rfl zq0 ?_; (with_reducible refine (impl_check.calls t259 t260 t261 _ A5.out).mono ?_); rintro e w' ⟨rfl, ⟨nd, rfl⟩⟩; refine ⟨_, rfl, ?_⟩)));(go_ret2);(exact ⟨_, zq25, zq22, zq47⟩)

/-! ### spec_l01Small: function 39 -/
def spec_l01Small.f (a0 : Int) : Option (Bool) := if a0 ≥ 97 then (some (decide (a0 ≤ 122))) else (some false)
theorem spec_l01Small.calls (a0 : Int) (r : Bool) (w : World) (h : spec_l01Small.f a0 = some r) :
  Calls Tryd.prog 39 #[.int .u8 a0] w fun e w' => e = .returned (.bool r) ∧ Drawn0 w w' := by
 (have H : (if a0 ≥ 97 then (some (decide (a0 ≤ 122))) else (some false)) = some r := h);clear h;(by_cases c2 : a0 ≥ 97)
 ·rw [if_pos c2] at H
  (have c2b0 : decide (97 ≤ a0) = true := decide_eq_true c2);clear c2;(obtain rfl := Option.some.inj H)
  go_enter Tryd.func39, Tryd.ntmps39
  (go_wp2);(go_ret);(exact ⟨zq26, zq54⟩)
 ·rw [if_neg c2] at H
  (have c2b0 : decide (97 ≤ a0) = false := decide_eq_false c2);clear c2;(obtain rfl := Option.some.inj H)
  go_enter Tryd.func39, Tryd.ntmps39
  (go_wp2);(go_ret);(exact ⟨zq26, zq54⟩)

/-! ### spec_l00In: function 53 -/
def spec_l00In.f (a0 : Int) (a1 : Int) (a2 : Int) : Option (Bool) := if a0 ≥ a1 then (some (decide (a0 ≤ a2))) else (some false)
theorem spec_l00In.calls (a0 : Int) (a1 : Int) (a2 : Int) (r : Bool) (w : World) (h : spec_l00In.f a0 a1 a2 = some r) :
  Calls Tryd.prog 53 #[.int .i64 a0, .int .i64 a1, .int .i64 a2] w fun e w' => e = .returned (.bool r) ∧ Drawn0 w w' := by
 (have H : (if a0 ≥ a1 then (some (decide (a0 ≤ a2))) else (some false)) = some r := h);clear h;(by_cases c4 : a0 ≥ a1)
 ·rw [if_pos c4] at H
  (have c4b0 : decide (a1 ≤ a0) = true := decide_eq_true c4);clear c4;(obtain rfl := Option.some.inj H)
  go_enter Tryd.func53, Tryd.ntmps53
  (go_wp2);(go_ret);(exact ⟨zq26, zq54⟩)
 ·rw [if_neg c4] at H
  (have c4b0 : decide (a1 ≤ a0) = false := decide_eq_false c4);clear c4;(obtain rfl := Option.some.inj H)
  go_enter Tryd.func53, Tryd.ntmps53
  (go_wp2);(go_ret);(exact ⟨zq26, zq54⟩)

/-! ### spec_l12Ok: function 52 -/
mutual
def spec_l12Ok.l0 : Nat → List ByteArray → Int → Option (Bool)
 | 0, _, _ => none
 | k + 1, x0, x3 => if x3 < (x0.length : Int) then (if 0 ≤ x3 then (if 0 < (x0.length : Int) then (if ((rdOf ByteArray.empty x0 x3).size : Int) = ((rdOf ByteArray.empty x0 0).size : Int) then ((spec_l00In.f ((rdOf ByteArray.empty x0 x3).size : Int) 1 32).bind fun t274 => (spec_l12Ok.j1 k x0 x3 (!t274))) else (spec_l12Ok.j1 k x0 x3 true)) else (none)) else (none)) else (some true)
def spec_l12Ok.j1 : Nat → List ByteArray → Int → Bool → Option (Bool)
 | 0, _, _, _ => none
 | k + 1, x0, x3, x33 => if x33 = true then (some false) else (spec_l12Ok.l1 k x0 x3 0)
def spec_l12Ok.l1 : Nat → List ByteArray → Int → Int → Option (Bool)
 | 0, _, _, _ => none
 | k + 1, x0, x3, x4 => if 0 ≤ x3 then (if x3 < (x0.length : Int) then (if x4 < ((rdOf ByteArray.empty x0 x3).size : Int) then (if 0 ≤ x4 then (if (bt (rdOf ByteArray.empty x0 x3) x4) = 46 then (spec_l12Ok.l1 k x0 x3 (wrap64 (x4 + 1))) else ((spec_l01Small.f (bt (rdOf ByteArray.empty x0 x3) x4)).bind fun t278 => (if t278 = true then (spec_l12Ok.l1 k x0 x3 (wrap64 (x4 + 1))) else (some false)))) else (none)) else (spec_l12Ok.l0 k x0 (wrap64 (x3 + 1)))) else (none)) else (none)
end
def spec_l12Ok.f (k : Nat) (l0 : List ByteArray) : Option (Bool) := (spec_l00In.f (l0.length : Int) 1 16).bind fun t270 => (if t270 = true then (spec_l12Ok.l0 k l0 0) else (some false))
theorem spec_l12Ok.mono_l : ∀ k, (∀ y0 y1, LeO (spec_l12Ok.l0 k y0 y1) (spec_l12Ok.l0 (k + 1) y0 y1)) ∧ (∀ y0 y1 y2, LeO (spec_l12Ok.j1 k y0 y1 y2) (spec_l12Ok.j1 (k + 1) y0 y1 y2)) ∧ (∀ y0 y1 y2, LeO (spec_l12Ok.l1 k y0 y1 y2) (spec_l12Ok.l1 (k + 1) y0 y1 y2))
 | 0 => ⟨fun _ _ r h => by simp [spec_l12Ok.l0] at h, fun _ _ _ r h => by simp [spec_l12Ok.j1] at h, fun _ _ _ r h => by simp [spec_l12Ok.l1] at h⟩
 | k + 1 => by
  (obtain ⟨ih0, ih1, ih2⟩ := spec_l12Ok.mono_l k);(refine ⟨?_, ?_, ?_⟩)
  ·intro y0 y1
   unfold spec_l12Ok.l0
   repeat' first | with_reducible (first | exact ih0 _ _ | exact ih1 _ _ _ | exact ih2 _ _ _ | exact LeO.refl _ | exact LeO.none _ | refine LeO.ite ?_ ?_ | refine LeO.bind ?_ (fun _ => ?_)) | exact ih0 _ _ | exact ih1 _ _ _ | exact ih2 _ _ _ | exact LeO.none _ | refine LeO.ite ?_ ?_ | refine LeO.bind ?_ (fun _ => ?_)
  ·intro y0 y1 y2
   unfold spec_l12Ok.j1
   repeat' first | with_reducible (first | exact ih0 _ _ | exact ih1 _ _ _ | exact ih2 _ _ _ | exact LeO.refl _ | exact LeO.none _ | refine LeO.ite ?_ ?_ | refine LeO.bind ?_ (fun _ => ?_)) | exact ih0 _ _ | exact ih1 _ _ _ | exact ih2 _ _ _ | exact LeO.none _ | refine LeO.ite ?_ ?_ | refine LeO.bind ?_ (fun _ => ?_)
  ·intro y0 y1 y2
   unfold spec_l12Ok.l1
   repeat' first | with_reducible (first | exact ih0 _ _ | exact ih1 _ _ _ | exact ih2 _ _ _ | exact LeO.refl _ | exact LeO.none _ | refine LeO.ite ?_ ?_ | refine LeO.bind ?_ (fun _ => ?_)) | exact ih0 _ _ | exact ih1 _ _ _ | exact ih2 _ _ _ | exact LeO.none _ | refine LeO.ite ?_ ?_ | refine LeO.bind ?_ (fun _ => ?_)
theorem spec_l12Ok.mono : ∀ a0 k, LeO (spec_l12Ok.f k a0) (spec_l12Ok.f (k + 1) a0) := by
 intro a0 k;(obtain ⟨ih0, ih1, ih2⟩ := spec_l12Ok.mono_l k);(unfold spec_l12Ok.f)
 repeat' first | with_reducible (first | exact ih0 _ _ | exact ih1 _ _ _ | exact ih2 _ _ _ | exact LeO.refl _ | exact LeO.none _ | refine LeO.ite ?_ ?_ | refine LeO.bind ?_ (fun _ => ?_)) | exact ih0 _ _ | exact ih1 _ _ _ | exact ih2 _ _ _ | exact LeO.none _ | refine LeO.ite ?_ ?_ | refine LeO.bind ?_ (fun _ => ?_)
theorem spec_l12Ok.calls (k : Nat) (A0 : Option Addr) (c0 : Nat) (l0 : List ByteArray) (r : Bool) (w : World) (hr0 : Kd.C Kd.string w A0 l0.length l0) (hc0 : l0.length ≤ c0) (h : spec_l12Ok.f k l0 = some r) :
  Calls Tryd.prog 52 #[.slice A0 l0.length c0] w fun e w' => e = .returned (.bool r) ∧ Drawn0 w w' := by
 (have HR0 := Aside0.mk hr0);(have HC0 := Aside0.mk hc0);clear hr0 hc0;(have H : ((spec_l00In.f (l0.length : Int) 1 16).bind fun t270 => (if t270 = true then (spec_l12Ok.l0 k l0 0) else (some false))) = some r := h);clear h;(replace H := Option.bind_eq_some_iff.mp H);(obtain ⟨t270, A20, H⟩ := H);(replace H : (if t270 = true then (spec_l12Ok.l0 k l0 0) else (some false)) = some r := H);(have A2 := Aside0.mk A20);clear A20;(by_cases c3 : t270 = true)
 ·subst c3
  (have H1 : (spec_l12Ok.l0 k l0 0) = some r := zq62);clear H;(have H := H1);clear H1;(have H' := Aside0.mk H);clear H
  go_enter Tryd.func52, Tryd.ntmps52
  (go_wp2_with (first | (go_at_call 53; (with_reducible refine (spec_l00In.calls (l0.length : Int) 1 16 true _ A2.out).mono ?_); rintro e w' ⟨rfl, ⟨nd, rfl⟩⟩; (try first | exact ⟨rfl, _, World.drewN_drewN _ _ _⟩ | exact ⟨rfl, _, Eq.trans (World.drewN_drewN _ _ _) (congrArg (World.drewN _) (Nat.add_assoc _ _ _))⟩))));(repeat (go_quiet (first | (go_at_call 53; (with_reducible refine (spec_l00In.calls (l0.length : Int) 1 16 true _ A2.out).mono ?_); rintro e w' ⟨rfl, ⟨nd, rfl⟩⟩; (try first | exact ⟨rfl, _, World.drewN_drewN _ _ _⟩ | exact ⟨rfl, _, Eq.trans (World.drewN_drewN _ _ _) (congrArg (World.drewN _) (Nat.add_assoc _ _ _))⟩))); try go_wp2_with (first | (go_at_call 53; (with_reducible refine (spec_l00In.calls (l0.length : Int) 1 16 true _ A2.out).mono ?_); rintro e w' ⟨rfl, ⟨nd, rfl⟩⟩; (try first | exact ⟨rfl, _, World.drewN_drewN _ _ _⟩ | exact ⟨rfl, _, Eq.trans (World.drewN_drewN _ _ _) (congrArg (World.drewN _) (Nat.add_assoc _ _ _))⟩)))))
  go_loopg [3] k (fun kq v3 w' => ∃ (x3_1 : Int), v3 = .int .i64 x3_1 ∧ Aside0 (spec_l12Ok.l0 kq l0 x3_1 = some r) ∧ Aside0 (kq ≤ k) ∧ Drawn0 w w')
  case atStart => exact ⟨(0), zq26, H', ⟨Nat.le_refl _⟩, zq54⟩
  case round =>
   clear H';(try clear p2);(try clear c3);(obtain ⟨x3_1, rfl, HA, HK1, ⟨m1, rfl⟩⟩ := hrel)
   cases gk with
   | zero => exact absurd HA.out (by simp [spec_l12Ok.l0])
   | succ k1 =>
    (have H := HA.out);clear HA;(simp only [spec_l12Ok.l0] at H);(by_cases c4 : x3_1 < (l0.length : Int))
    ·rw [if_pos c4] at H
     (have c4b0 : decide (x3_1 < (l0.length : Int)) = true := decide_eq_true c4);clear c4;(have HC5 := Aside0.mk H);clear H;(go_upto_region 6 with (fail));(repeat (go_quiet (fail); go_upto_region 6 with (fail)))
     go_cut [33] (fun v33 wc => ∃ (kq : Nat) (x33_4 : Bool), v33 = .bool x33_4 ∧ Aside0 (spec_l12Ok.j1 kq l0 x3_1 x33_4 = some r) ∧ Aside0 (kq ≤ k1) ∧ Drawn0 w wc)
     case first =>
      (have H := HC5.out);clear HC5;(by_cases c6 : 0 ≤ x3_1)
      ·rw [if_pos c6] at H
       (have c6b0 : decide (0 ≤ x3_1) = true := decide_eq_true c6);clear c6;((first | rw [c6b0] | (simp only [i64_w, i32_w]; rw [c6b0]) | skip));(by_cases c7 : 0 < (l0.length : Int))
       ·rw [if_pos c7] at H
        (have c7b0 : decide (0 < (l0.length : Int)) = true := decide_eq_true c7);(have c7b1 : decide (0 < l0.length) = true := decide_eq_true (by omega));clear c7;(by_cases c8 : ((rdOf ByteArray.empty l0 x3_1).size : Int) = ((rdOf ByteArray.empty l0 0).size : Int))
        ·rw [if_pos c8] at H
         (have c8b0 : (((rdOf ByteArray.empty l0 x3_1).size : Int) == ((rdOf ByteArray.empty l0 0).size : Int)) = true := beq_iff_eq.mpr c8);(have c8b1 : (((rdOf ByteArray.empty l0 x3_1).size : Int) != ((rdOf ByteArray.empty l0 0).size : Int)) = false := bne_eq_false_iff_eq.mpr c8);(have c8b2 : ((rdOf ByteArray.empty l0 x3_1).size == (rdOf ByteArray.empty l0 0).size) = true := by first | simpa using c8 | (simp at c8 ⊢; omega));clear c8;(replace H := Option.bind_eq_some_iff.mp H);(obtain ⟨t274, A90, H⟩ := H);(replace H : (spec_l12Ok.j1 k1 l0 x3_1 (!t274)) = some r := H);(have A9 := Aside0.mk A90);clear A90;(have H' := Aside0.mk H);clear H;(have p271 : 0 ≤ (x3_1 : Int) := of_decide_eq_true zq21);(have q271 : x3_1 < (l0.length : Int) := of_decide_eq_true zq21);(obtain ⟨ad271, e271, hx271_0⟩ := Kd.at_string HR0.out x3_1 p271 q271)
         cases e271
         (replace p271 := eq_true p271);(replace q271 := eq_true q271);(have p272 : 0 ≤ (0 : Int) := (by omega));(have q272 : 0 < (l0.length : Int) := of_decide_eq_true zq21);(obtain ⟨ad272, e272, hx272_0⟩ := Kd.at_string HR0.out 0 p272 q272);(obtain rfl : ad271 = ad272 := (by injection e272));(have qi272 : (0 < l0.length) = True := eq_true (by omega));((try rw [show ((0 : Int)).toNat = 0 from rfl] at hx272_0));((try rw [Addr.add_zero'] at hx272_0));(replace p272 := eq_true p272);(replace q272 := eq_true q272);(have p273 : 0 ≤ (x3_1 : Int) := of_decide_eq_true zq21);(have q273 : x3_1 < (l0.length : Int) := of_decide_eq_true zq21);(obtain ⟨ad273, e273, hx273_0⟩ := Kd.at_string HR0.out x3_1 p273 q273);(obtain rfl : ad271 = ad273 := (by injection e273));(replace p273 := eq_true p273);(replace q273 := eq_true q273);(go_wp2_with (first | (go_at_call 53; (with_reducible refine (spec_l00In.calls ((rdOf ByteArray.empty l0 x3_1).size : Int) 1 32 t274 _ A9.out).mono ?_); rintro e w' ⟨rfl, ⟨nd, rfl⟩⟩; (try first | exact ⟨rfl, _, World.drewN_drewN _ _ _⟩ | exact ⟨rfl, _, Eq.trans (World.drewN_drewN _ _ _) (congrArg (World.drewN _) (Nat.add_assoc _ _ _))⟩))));(repeat (go_quiet (first | (go_at_call 53; (with_reducible refine (spec_l00In.calls ((rdOf ByteArray.empty l0 x3_1).size : Int) 1 32 t274 _ A9.out).mono ?_); rintro e w' ⟨rfl, ⟨nd, rfl⟩⟩; (try first | exact ⟨rfl, _, World.drewN_drewN _ _ _⟩ | exact ⟨rfl, _, Eq.trans (World.drewN_drewN _ _ _) (congrArg (World.drewN _) (Nat.add_assoc _ _ _))⟩))); try go_wp2_with (first | (go_at_call 53; (with_reducible refine (spec_l00In.calls ((rdOf ByteArray.empty l0 x3_1).size : Int) 1 32 t274 _ A9.out).mono ?_); rintro e w' ⟨rfl, ⟨nd, rfl⟩⟩; (try first | exact ⟨rfl, _, World.drewN_drewN _ _ _⟩ | exact ⟨rfl, _, Eq.trans (World.drewN_drewN _ _ _) (congrArg (World.drewN _) (Nat.add_assoc _ _ _))⟩)))))
         go_meet
         case rel => exact ⟨_, (!t274), zq26, H', ⟨zq29⟩, zq54⟩
        ·rw [if_neg c8] at H
         (have c8b0 : (((rdOf ByteArray.empty l0 x3_1).size : Int) == ((rdOf ByteArray.empty l0 0).size : Int)) = false := beq_eq_false_iff_ne.mpr c8);(have c8b1 : (((rdOf ByteArray.empty l0 x3_1).size : Int) != ((rdOf ByteArray.empty l0 0).size : Int)) = true := bne_iff_ne.mpr c8);(have c8b2 : ((rdOf ByteArray.empty l0 x3_1).size == (rdOf ByteArray.empty l0 0).size) = false := by first | simpa using c8 | (simp at c8 ⊢; omega));(have H' := Aside0.mk H);clear H;(have p271 : 0 ≤ (x3_1 : Int) := of_decide_eq_true zq21);(have q271 : x3_1 < (l0.length : Int) := of_decide_eq_true zq21);(obtain ⟨ad271, e271, hx271_0⟩ := Kd.at_string HR0.out x3_1 p271 q271)
         cases e271
         (replace p271 := eq_true p271);(replace q271 := eq_true q271);(have p272 : 0 ≤ (0 : Int) := (by omega));(have q272 : 0 < (l0.length : Int) := of_decide_eq_true zq21);(obtain ⟨ad272, e272, hx272_0⟩ := Kd.at_string HR0.out 0 p272 q272);(obtain rfl : ad271 = ad272 := (by injection e272));(have qi272 : (0 < l0.length) = True := eq_true (by omega));((try rw [show ((0 : Int)).toNat = 0 from rfl] at hx272_0));((try rw [Addr.add_zero'] at hx272_0));(replace p272 := eq_true p272);(replace q272 := eq_true q272);(go_wp2);(repeat (go_quiet (fail); try go_wp2))
         go_meet
         case rel => exact ⟨_, (true), zq26, H', ⟨zq29⟩, zq54⟩
       ·rw [if_neg c7] at H
        exact absurd H (by simp)
      ·rw [if_neg c6] at H
       exact absurd H (by simp)
     case rest =>
      clear HC5;(try clear p2);(try clear q2);(try clear hx2);(try clear qi2);(try clear c3);(try clear c4);(try clear c4b0);(try clear c5);(try clear c6);(try clear c6b0);(try clear c7);(try clear c7b0);(try clear c7b1);(try clear c8);(try clear c8b0);(try clear c8b1);(try clear c8b2);(try clear hx271_0);(try clear hx272_0);(try clear hx273_0);(try clear p2);(try clear p271);(try clear p272);(try clear p273);(try clear q271);(try clear q272);(try clear q273);(obtain ⟨kq, x33_4, rfl, HA, HJ4, ⟨mc4, rfl⟩⟩ := hcut)
      cases kq with
      | zero => exact absurd HA.out (by simp [spec_l12Ok.j1])
      | succ kj4 =>
       (have H := HA.out);clear HA;(simp only [spec_l12Ok.j1] at H);(by_cases c10 : x33_4 = true)
       ·subst c10
        (have H1 : (some false) = some r := zq62);clear H;(have H := H1);clear H1;(obtain rfl := Option.some.inj H);(go_wp2);(repeat (go_quiet (fail); try go_wp2));(go_ret);(exact ⟨zq26, zq54⟩)
       ·replace c10 := Bool.eq_false_iff.mpr c10
        subst c10;(have H1 : (spec_l12Ok.l1 kj4 l0 x3_1 0) = some r := zq61);clear H;(have H := H1);clear H1;(have H' := Aside0.mk H);clear H;(go_wp2);(repeat (go_quiet (fail); try go_wp2))
        go_loopg [4] kj4 (fun kq v4 w' => ∃ (x4_3 : Int), v4 = .int .i64 x4_3 ∧ Aside0 (spec_l12Ok.l1 kq l0 x3_1 x4_3 = some r) ∧ Aside0 (kq ≤ kj4) ∧ Drawn0 w w')
        case atStart => exact ⟨(0), zq26, H', ⟨Nat.le_refl _⟩, zq54⟩
        case round =>
         clear H';(try clear c1);(try clear p2);(try clear q2);(try clear hx2);(try clear qi2);(try clear c3);(try clear c4);(try clear c4b0);(try clear c5);(try clear c6);(try clear c6b0);(try clear c7);(try clear c7b0);(try clear c7b1);(try clear c8);(try clear c8b0);(try clear c8b1);(try clear c8b2);(try clear c10);(try clear hx271_0);(try clear hx272_0);(try clear hx273_0);(try clear p2);(try clear p271);(try clear p272);(try clear p273);(try clear q2);(try clear q271);(try clear q272);(try clear q273);(obtain ⟨x4_3, rfl, HA, HK3, ⟨m3, rfl⟩⟩ := hrel)
         cases gk with
         | zero => exact absurd HA.out (by simp [spec_l12Ok.l1])
         | succ k3 =>
          (have H := HA.out);clear HA;(simp only [spec_l12Ok.l1] at H);(by_cases c11 : 0 ≤ x3_1)
          ·rw [if_pos c11] at H
           (have c11b0 : decide (0 ≤ x3_1) = true := decide_eq_true c11);clear c11;(by_cases c12 : x3_1 < (l0.length : Int))
           ·rw [if_pos c12] at H
            (have c12b0 : decide (x3_1 < (l0.length : Int)) = true := decide_eq_true c12);clear c12;(by_cases c13 : x4_3 < ((rdOf ByteArray.empty l0 x3_1).size : Int))
            ·rw [if_pos c13] at H
             (have c13b0 : decide (x4_3 < ((rdOf ByteArray.empty l0 x3_1).size : Int)) = true := decide_eq_true c13);clear c13;(by_cases c14 : 0 ≤ x4_3)
             ·rw [if_pos c14] at H
              (have c14b0 : decide (0 ≤ x4_3) = true := decide_eq_true c14);clear c14;(by_cases c16 : (bt (rdOf ByteArray.empty l0 x3_1) x4_3) = 46)
              ·rw [if_pos c16] at H
               (have c16b0 : ((bt (rdOf ByteArray.empty l0 x3_1) x4_3) == 46) = true := beq_iff_eq.mpr c16);(have c16b1 : ((bt (rdOf ByteArray.empty l0 x3_1) x4_3) != 46) = false := bne_eq_false_iff_eq.mpr c16);clear c16;(have H' := Aside0.mk H);clear H;(have p275 : 0 ≤ (x3_1 : Int) := of_decide_eq_true zq21);(have q275 : x3_1 < (l0.length : Int) := of_decide_eq_true zq21);(obtain ⟨ad275, e275, hx275_0⟩ := Kd.at_string HR0.out x3_1 p275 q275)
               cases e275
               (replace p275 := eq_true p275);(replace q275 := eq_true q275);(have p276 : 0 ≤ (x3_1 : Int) := of_decide_eq_true zq21);(have q276 : x3_1 < (l0.length : Int) := of_decide_eq_true zq21);(obtain ⟨ad276, e276, hx276_0⟩ := Kd.at_string HR0.out x3_1 p276 q276);(obtain rfl : ad275 = ad276 := (by injection e276));(replace p276 := eq_true p276);(replace q276 := eq_true q276);(have p15 : 0 ≤ (x4_3 : Int) := of_decide_eq_true zq21);(have q15 : x4_3 < ((rdOf ByteArray.empty l0 x3_1).size : Int) := of_decide_eq_true zq21);(have hx15 := bt_at (rdOf ByteArray.empty l0 x3_1) x4_3);(replace p15 := eq_true p15);(replace q15 := eq_true q15);(go_wp2);(repeat (go_quiet (fail); try go_wp2));(go_roundg k3)
               case measure => have := HK1.out; have := HJ4.out; have := HK3.out; omega
               case rel => exact ⟨(wrap64 (x4_3 + 1)), zq26, H', ⟨zq30⟩, zq54⟩
              ·rw [if_neg c16] at H
               (have c16b0 : ((bt (rdOf ByteArray.empty l0 x3_1) x4_3) == 46) = false := beq_eq_false_iff_ne.mpr c16);(have c16b1 : ((bt (rdOf ByteArray.empty l0 x3_1) x4_3) != 46) = true := bne_iff_ne.mpr c16);(replace H := Option.bind_eq_some_iff.mp H);(obtain ⟨t278, A180, H⟩ := H);(replace H : (if t278 = true then (spec_l12Ok.l1 k3 l0 x3_1 (wrap64 (x4_3 + 1))) else (some false)) = some r := H);(have A18 := Aside0.mk A180);clear A180;(by_cases c19 : t278 = true)
               ·subst c19
                (have H1 : (spec_l12Ok.l1 k3 l0 x3_1 (wrap64 (x4_3 + 1))) = some r := zq62);clear H;(have H := H1);clear H1;(have H' := Aside0.mk H);clear H;(have p275 : 0 ≤ (x3_1 : Int) := of_decide_eq_true zq21);(have q275 : x3_1 < (l0.length : Int) := of_decide_eq_true zq21);(obtain ⟨ad275, e275, hx275_0⟩ := Kd.at_string HR0.out x3_1 p275 q275)
                cases e275
                (replace p275 := eq_true p275);(replace q275 := eq_true q275);(have p276 : 0 ≤ (x3_1 : Int) := of_decide_eq_true zq21);(have q276 : x3_1 < (l0.length : Int) := of_decide_eq_true zq21);(obtain ⟨ad276, e276, hx276_0⟩ := Kd.at_string HR0.out x3_1 p276 q276);(obtain rfl : ad275 = ad276 := (by injection e276));(replace p276 := eq_true p276);(replace q276 := eq_true q276);(have p15 : 0 ≤ (x4_3 : Int) := of_decide_eq_true zq21);(have q15 : x4_3 < ((rdOf ByteArray.empty l0 x3_1).size : Int) := of_decide_eq_true zq21);(have hx15 := bt_at (rdOf ByteArray.empty l0 x3_1) x4_3);(replace p15 := eq_true p15);(replace q15 := eq_true q15);(have p277 : 0 ≤ (x3_1 : Int) := of_decide_eq_true zq21);(have q277 : x3_1 < (l0.length : Int) := of_decide_eq_true zq21);(obtain ⟨ad277, e277, hx277_0⟩ := Kd.at_string HR0.out x3_1 p277 q277);(obtain rfl : ad275 = ad277 := (by injection e277));(replace p277 := eq_true p277);(replace q277 := eq_true q277);(have p17 : 0 ≤ (x4_3 : Int) := of_decide_eq_true zq21);(have q17 : x4_3 < ((rdOf ByteArray.empty l0 x3_1).size : Int) := of_decide_eq_true zq21);(have hx17 := bt_at (rdOf ByteArray.empty l0 x3_1) x4_3);(replace p17 := eq_true p17);(replace q17 := eq_true q17);(go_wp2_with (first | (go_at_call 39; (with_reducible refine (spec_l01Small.calls (bt (rdOf ByteArray.empty l0 x3_1) x4_3) true _ A18.out).mono ?_); rintro e w' ⟨rfl, ⟨nd, rfl⟩⟩; (try first | exact ⟨rfl, _, World.drewN_drewN _ _ _⟩ | exact ⟨rfl, _, Eq.trans (World.drewN_drewN _ _ _) (congrArg (World.drewN _) (Nat.add_assoc _ _ _))⟩))));(repeat (go_quiet (first | (go_at_call 39; (with_reducible refine (spec_l01Small.calls (bt (rdOf ByteArray.empty l0 x3_1) x4_3) true _ A18.out).mono ?_); rintro e w' ⟨rfl, ⟨nd, rfl⟩⟩; (try first | exact ⟨rfl, _, World.drewN_drewN _ _ _⟩ | exact ⟨rfl, _, Eq.trans (World.drewN_drewN _ _ _) (congrArg (World.drewN _) (Nat.add_assoc _ _ _))⟩))); try go_wp2_with (first | (go_at_call 39; (with_reducible refine (spec_l01Small.calls (bt (rdOf ByteArray.empty l0 x3_1) x4_3) true _ A18.out).mono ?_); rintro e w' ⟨rfl, ⟨nd, rfl⟩⟩; (try first | exact ⟨rfl, _, World.drewN_drewN _ _ _⟩ | exact ⟨rfl, _, Eq.trans (World.drewN_drewN _ _ _) (congrArg (World.drewN _) (Nat.add_assoc _ _ _))⟩)))));(go_roundg k3)
                case measure => have := HK1.out; have := HJ4.out; have := HK3.out; omega
                case rel => exact ⟨(wrap64 (x4_3 + 1)), zq26, H', ⟨zq30⟩, zq54⟩
               ·replace c19 := Bool.eq_false_iff.mpr c19
                subst c19;(have H1 : (some false) = some r := zq61);clear H;(have H := H1);clear H1;(obtain rfl := Option.some.inj H);(have p275 : 0 ≤ (x3_1 : Int) := of_decide_eq_true zq21);(have q275 : x3_1 < (l0.length : Int) := of_decide_eq_true zq21);(obtain ⟨ad275, e275, hx275_0⟩ := Kd.at_string HR0.out x3_1 p275 q275)
                cases e275
                (replace p275 := eq_true p275);(replace q275 := eq_true q275);(have p276 : 0 ≤ (x3_1 : Int) := of_decide_eq_true zq21);(have q276 : x3_1 < (l0.length : Int) := of_decide_eq_true zq21);(obtain ⟨ad276, e276, hx276_0⟩ := Kd.at_string HR0.out x3_1 p276 q276);(obtain rfl : ad275 = ad276 := (by injection e276));(replace p276 := eq_true p276);(replace q276 := eq_true q276);(have p15 : 0 ≤ (x4_3 : Int) := of_decide_eq_true zq21);(have q15 : x4_3 < ((rdOf ByteArray.empty l0 x3_1).size : Int) := of_decide_eq_true zq21);(have hx15 := bt_at (rdOf ByteArray.empty l0 x3_1) x4_3);(replace p15 := eq_true p15);(replace q15 := eq_true q15);(have p277 : 0 ≤ (x3_1 : Int) := of_decide_eq_true zq21);(have q277 : x3_1 < (l0.length : Int) := of_decide_eq_true zq21);(obtain ⟨ad277, e277, hx277_0⟩ := Kd.at_string HR0.out x3_1 p277 q277);(obtain rfl : ad275 = ad277 := (by injection e277));(replace p277 := eq_true p277);(replace q277 := eq_true q277);(have p17 : 0 ≤ (x4_3 : Int) := of_decide_eq_true zq21);(have q17 : x4_3 < ((rdOf ByteArray.empty l0 x3_1).size : Int) := of_decide_eq_true zq21);(have hx17 := bt_at (rdOf ByteArray.empty l0 x3_1) x4_3);(replace p17 := eq_true p17);(replace q17 := eq_true q17);(go_wp2_with (first | (go_at_call 39; (with_reducible refine (spec_l01Small.calls (bt (rdOf ByteArray.empty l0 x3_1) x4_3) false _ A18.out).mono ?_); rintro e w' ⟨rfl, ⟨nd, rfl⟩⟩; (try first | exact ⟨rfl, _, World.drewN_drewN _ _ _⟩ | exact ⟨rfl, _, Eq.trans (World.drewN_drewN _ _ _) (congrArg (World.drewN _) (Nat.add_assoc _ _ _))⟩))));(repeat (go_quiet (first | (go_at_call 39; (with_reducible refine (spec_l01Small.calls (bt (rdOf ByteArray.empty l0 x3_1) x4_3) false _ A18.out).mono ?_); rintro e w' ⟨rfl, ⟨nd, rfl⟩⟩; (try first | exact ⟨rfl, _, World.drewN_drewN _ _ _⟩ | exact ⟨rfl, _, Eq.trans (World.drewN_drewN _ _ _) (congrArg (World.drewN _) (Nat.add_assoc _ _ _))⟩))); try go_wp2_with (first | (go_at_call 39; (with_reducible refine (spec_l01Small.calls (bt (rdOf ByteArray.empty l0 x3_1) x4_3) false _ A18.out).mono ?_); rintro e w' ⟨rfl, ⟨nd, rfl⟩⟩; (try first | exact ⟨rfl, _, World.drewN_drewN _ _ _⟩ | exact ⟨rfl, _, Eq.trans (World.drewN_drewN _ _ _) (congrArg (World.drewN _) (Nat.add_assoc _ _ _))⟩)))));(go_ret);(exact ⟨zq26, zq54⟩)
             ·rw [if_neg c14] at H
              exact absurd H (by simp)
            ·rw [if_neg c13] at H
             (have c13b0 : decide (x4_3 < ((rdOf ByteArray.empty l0 x3_1).size : Int)) = false := decide_eq_false c13);clear c13;(have H' := Aside0.mk H);clear H;(have p275 : 0 ≤ (x3_1 : Int) := of_decide_eq_true zq21);(have q275 : x3_1 < (l0.length : Int) := of_decide_eq_true zq21);(obtain ⟨ad275, e275, hx275_0⟩ := Kd.at_string HR0.out x3_1 p275 q275)
             cases e275
             (replace p275 := eq_true p275);(replace q275 := eq_true q275);(go_wp2);(repeat (go_quiet (fail); try go_wp2));(go_roundg k3)
             case measure => have := HK1.out; have := HJ4.out; have := HK3.out; omega
             case rel => exact ⟨(wrap64 (x3_1 + 1)), zq26, H', ⟨zq30⟩, zq54⟩
           ·rw [if_neg c12] at H
            exact absurd H (by simp)
          ·rw [if_neg c11] at H
           exact absurd H (by simp)
    ·rw [if_neg c4] at H
     (have c4b0 : decide (x3_1 < (l0.length : Int)) = false := decide_eq_false c4);clear c4;(obtain rfl := Option.some.inj H);(go_wp2);(repeat (go_quiet (fail); try go_wp2));(go_ret);(exact ⟨zq26, zq54⟩)
 ·replace c3 := Bool.eq_false_iff.mpr c3
  subst c3;(have H1 : (some false) = some r := zq61);clear H;(have H := H1);clear H1;(obtain rfl := Option.some.inj H)
  go_enter Tryd.func52, Tryd.ntmps52
  (go_wp2_with (first | (go_at_call 53; (with_reducible refine (spec_l00In.calls (l0.length : Int) 1 16 false _ A2.out).mono ?_); rintro e w' ⟨rfl, ⟨nd, rfl⟩⟩; (try first | exact ⟨rfl, _, World.drewN_drewN _ _ _⟩ | exact ⟨rfl, _, Eq.trans (World.drewN_drewN _ _ _) (congrArg (World.drewN _) (Nat.add_assoc _ _ _))⟩))));(repeat (go_quiet (first | (go_at_call 53; (with_reducible refine (spec_l00In.calls (l0.length : Int) 1 16 false _ A2.out).mono ?_); rintro e w' ⟨rfl, ⟨nd, rfl⟩⟩; (try first | exact ⟨rfl, _, World.drewN_drewN _ _ _⟩ | exact ⟨rfl, _, Eq.trans (World.drewN_drewN _ _ _) (congrArg (World.drewN _) (Nat.add_assoc _ _ _))⟩))); try go_wp2_with (first | (go_at_call 53; (with_reducible refine (spec_l00In.calls (l0.length : Int) 1 16 false _ A2.out).mono ?_); rintro e w' ⟨rfl, ⟨nd, rfl⟩⟩; (try first | exact ⟨rfl, _, World.drewN_drewN _ _ _⟩ | exact ⟨rfl, _, Eq.trans (World.drewN_drewN _ _ _) (congrArg (World.drewN _) (Nat.add_assoc _ _ _))⟩)))));(go_ret);(exact ⟨zq26, zq54⟩)

end Go.Proofs.YtdkmngghknohgaaDoor.PFnGrids
