-- Made by a program of this session (gprint.py) out of the kit's print of the translation and texts of my own. SLIM
import Derived.Test.YtalmeecdjhelkaaDoorPFnDatesx0
import Derived.Test.YtalmeecdjhelkaaDoorPFnDatesx8
import Derived.Test.YtalmeecdjhelkaaDoorPFnDatesx11
namespace Go.Proofs.YtalmeecdjhelkaaDoor.PFnDates
open Go.RowKit Go.Proofs.YtalmeecdjhelkaaDoorW.PrintWords Go.Proofs.YtalmeecdjhelkaaDoorW.PrintLast Go.Proofs.YtalmeecdjhelkaaDoorW.PrintMore
set_option maxHeartbeats 64000000
set_option maxRecDepth 100000
attribute [local go_sem] max2_int min2_int max_two min_two max_three min_three max_four min_four   -- for this text's walks alone
set_option linter.unusedVariables false
set_option linter.unusedSimpArgs false

/-! ### impl_TooLate: function 23 -/
def impl_TooLate.l0 : Nat → List (S64) → List (S90) → Int → List ByteArray → List ByteArray → Int → Int → Option (List ByteArray × Int)
 | 0, _, _, _, _, _, _, _ => none
 | k + 1, x0, x1, x2, x9, x27, x28, x29 => if x29 < x28 then (if 0 ≤ x29 then (if x29 < (x27.length : Int) then ((impl_knownAt.f x1 (rdOf ByteArray.empty x27 x29)).bind fun t168 => (if t168 ≥ 0 then (if 0 ≤ t168 then (if t168 < (x1.length : Int) then (if 0 ≤ x2 then (if x2 < (x0.length : Int) then ((impl_wasUsed.f ((rd_T90 x1 t168).f0) ((rd_T90 x1 t168).f1) ((rd_T90 x1 t168).f2) ((rd_T64 x0 x2).f0)).bind fun t171 => (if t171 = true then (impl_TooLate.l0 k x0 x1 x2 x9 x27 x28 (wrap64 (x29 + 1))) else (if x9.length < 8796093022208 then (impl_TooLate.l0 k x0 x1 x2 (x9 ++ [rdOf ByteArray.empty x27 x29]) x27 x28 (wrap64 (x29 + 1))) else (none)))) else (none)) else (none)) else (none)) else (none)) else (impl_TooLate.l0 k x0 x1 x2 x9 x27 x28 (wrap64 (x29 + 1))))) else (none)) else (none)) else (some (x9, 0))
def impl_TooLate.f (k : Nat) (l0 : List (S64)) (l1 : List (S90)) (a2 : Int) : Option (List ByteArray × Int) := (impl_ValidKnown.f k l1).bind fun t161 => (if t161 = true then ((impl_editionCode.f k l0 a2).bind fun t162 => (if t162 = 0 then (if 0 ≤ a2 then (if a2 < (l0.length : Int) then (impl_TooLate.l0 k l0 l1 a2 (([] : List ByteArray)) ((rd_T64 l0 a2).f1) (((rd_T64 l0 a2).f1).length : Int) 0) else (none)) else (none)) else (some (([] : List ByteArray), t162)))) else (some (([] : List ByteArray), 1)))
theorem impl_TooLate.mono_l : ∀ k, (∀ y0 y1 y2 y3 y4 y5 y6, LeO (impl_TooLate.l0 k y0 y1 y2 y3 y4 y5 y6) (impl_TooLate.l0 (k + 1) y0 y1 y2 y3 y4 y5 y6))
 | 0 => fun _ _ _ _ _ _ _ r h => by simp [impl_TooLate.l0] at h
 | k + 1 => by
  have ih0 := impl_TooLate.mono_l k
  ·intro y0 y1 y2 y3 y4 y5 y6
   unfold impl_TooLate.l0
   repeat' first | with_reducible (first | exact ih0 _ _ _ _ _ _ _ | exact impl_ValidKnown.mono _ _ | exact impl_editionCode.mono _ _ _ | exact LeO.refl _ | exact LeO.none _ | refine LeO.ite ?_ ?_ | refine LeO.bind ?_ (fun _ => ?_)) | exact ih0 _ _ _ _ _ _ _ | exact impl_ValidKnown.mono _ _ | exact impl_editionCode.mono _ _ _ | exact LeO.none _ | refine LeO.ite ?_ ?_ | refine LeO.bind ?_ (fun _ => ?_)
theorem impl_TooLate.mono : ∀ a0 a1 a2 k, LeO (impl_TooLate.f k a0 a1 a2) (impl_TooLate.f (k + 1) a0 a1 a2) := by
 intro a0 a1 a2 k;(have ih0 := impl_TooLate.mono_l k);(unfold impl_TooLate.f)
 repeat' first | with_reducible (first | exact ih0 _ _ _ _ _ _ _ | exact impl_ValidKnown.mono _ _ | exact impl_editionCode.mono _ _ _ | exact LeO.refl _ | exact LeO.none _ | refine LeO.ite ?_ ?_ | refine LeO.bind ?_ (fun _ => ?_)) | exact ih0 _ _ _ _ _ _ _ | exact impl_ValidKnown.mono _ _ | exact impl_editionCode.mono _ _ _ | exact LeO.none _ | refine LeO.ite ?_ ?_ | refine LeO.bind ?_ (fun _ => ?_)
def impl_TooLate.T11 : Bool × List (List Nat × List Nat) := (true, [([], []), ([0], [0]), ([1], [1]), ([2], [2]), ([2], [2]), ([3, 4, 2], [2, 3, 4]), ([5, 2], [2, 5]), ([2], [2]), ([2], [2]), ([7, 8, 2], [2, 7, 8]), ([9, 2], [2, 9]), ([10, 2], [2, 10]), ([6, 11, 2, 2], [2, 6, 11]), ([12, 2], [2, 12]), ([2, 13], [2, 13])])
def impl_TooLate.B11 : List Nat := [0, 1, 3, 7, 7, 31, 63, 7, 7, 391, 903, 1927, 4095, 8191, 16383]
theorem impl_TooLate.tab11 : rtab .any (opsOf Tryd.f23 11) = impl_TooLate.T11 := by kernel_rfl
theorem impl_TooLate.bits11 : waitsOk impl_TooLate.T11.2 impl_TooLate.B11 = true := by kernel_rfl
theorem impl_TooLate.calls (k : Nat) (A0 : Option Addr) (c0 : Nat) (l0 : List (S64)) (A1 : Option Addr) (c1 : Nat) (l1 : List (S90)) (a2 : Int) (r1 : List ByteArray) (r2 : Int) (w : World) (hr0 : Kd.C k64 w A0 l0.length l0) (hc0 : l0.length ≤ c0) (hr1 : Kd.C k90 w A1 l1.length l1) (hc1 : l1.length ≤ c1) (h : impl_TooLate.f k l0 l1 a2 = some (r1, r2)) :
  Calls Tryd.prog 23 #[.slice A0 l0.length c0, .slice A1 l1.length c1, .int .i64 a2] w fun e w' => ∃ v0_ : Value, e = .returned (.tuple #[v0_, .int .i64 r2]) ∧ Kd.R Kd.string 9 w' w.heap.size (fun _ => True) v0_ r1 ∧ Below w.heap.size w w' := by
 (have hu90 := Tryd.underlying90);(have HR0 := Aside0.mk hr0);(have HC0 := Aside0.mk hc0);clear hr0 hc0;(have HR1 := Aside0.mk hr1);(have HC1 := Aside0.mk hc1);clear hr1 hc1;(have HB := Aside0.mk (Below.refl w.heap.size w));(have H : ((impl_ValidKnown.f k l1).bind fun t161 => (if t161 = true then ((impl_editionCode.f k l0 a2).bind fun t162 => (if t162 = 0 then (if 0 ≤ a2 then (if a2 < (l0.length : Int) then (impl_TooLate.l0 k l0 l1 a2 (([] : List ByteArray)) ((rd_T64 l0 a2).f1) (((rd_T64 l0 a2).f1).length : Int) 0) else (none)) else (none)) else (some (([] : List ByteArray), t162)))) else (some (([] : List ByteArray), 1)))) = some (r1, r2) := h);clear h;(replace H := Option.bind_eq_some_iff.mp H);(obtain ⟨t161, A40, H⟩ := H);(replace H : (if t161 = true then ((impl_editionCode.f k l0 a2).bind fun t162 => (if t162 = 0 then (if 0 ≤ a2 then (if a2 < (l0.length : Int) then (impl_TooLate.l0 k l0 l1 a2 (([] : List ByteArray)) ((rd_T64 l0 a2).f1) (((rd_T64 l0 a2).f1).length : Int) 0) else (none)) else (none)) else (some (([] : List ByteArray), t162)))) else (some (([] : List ByteArray), 1))) = some (r1, r2) := H);(have A4 := Aside0.mk A40);clear A40;(by_cases c5 : t161 = true)
 ·subst c5
  (have H1 : ((impl_editionCode.f k l0 a2).bind fun t162 => (if t162 = 0 then (if 0 ≤ a2 then (if a2 < (l0.length : Int) then (impl_TooLate.l0 k l0 l1 a2 (([] : List ByteArray)) ((rd_T64 l0 a2).f1) (((rd_T64 l0 a2).f1).length : Int) 0) else (none)) else (none)) else (some (([] : List ByteArray), t162)))) = some (r1, r2) := zq80);clear H;(have H := H1);clear H1;(replace H := Option.bind_eq_some_iff.mp H);(obtain ⟨t162, A60, H⟩ := H);(replace H : (if t162 = 0 then (if 0 ≤ a2 then (if a2 < (l0.length : Int) then (impl_TooLate.l0 k l0 l1 a2 (([] : List ByteArray)) ((rd_T64 l0 a2).f1) (((rd_T64 l0 a2).f1).length : Int) 0) else (none)) else (none)) else (some (([] : List ByteArray), t162))) = some (r1, r2) := H);(have A6 := Aside0.mk A60);clear A60;(by_cases c7 : t162 = 0)
  ·rw [if_pos c7] at H
   (have c7b0 : (t162 == 0) = true := beq_iff_eq.mpr c7);(have c7b1 : (t162 != 0) = false := bne_eq_false_iff_eq.mpr c7);clear c7;(obtain ⟨y163, hy_⟩ : ∃ y_ : List ByteArray, y_ = (([] : List ByteArray)) := ⟨_, rfl⟩);(replace H : (if 0 ≤ a2 then (if a2 < (l0.length : Int) then (impl_TooLate.l0 k l0 l1 a2 y163 ((rd_T64 l0 a2).f1) (((rd_T64 l0 a2).f1).length : Int) 0) else (none)) else (none)) = some (r1, r2) := zq21);(have Ny163 := Aside0.mk hy_);clear hy_;(by_cases c8 : 0 ≤ a2)
   ·rw [if_pos c8] at H
    (have c8b0 : decide (0 ≤ a2) = true := decide_eq_true c8);clear c8;(by_cases c9 : a2 < (l0.length : Int))
    ·rw [if_pos c9] at H
     (have c9b0 : decide (a2 < (l0.length : Int)) = true := decide_eq_true c9);clear c9;(have H' := Aside0.mk H);clear H
     go_enter Tryd.func23, Tryd.ntmps23
     go_wp2_with (first | ((with_reducible refine gate_callee (f := 43) rfl ?_); refine goesL_ (some 14) rfl rfl Tryd.func43 (by kernel_rfl) rfl #[.slice A1 l1.length c1] rfl zq0 ?_; (with_reducible refine (impl_ValidKnown.calls k _ _ l1 true _ ?side1 ?side2 A4.out).mono ?_); (case side1 => exact zq75); (case side2 => exact HC1.out); rintro e w10 ⟨rfl, hb⟩; refine ⟨_, rfl, ?_⟩; have n0_ := Aside0.mk (below_step zq45 hb); clear HB; have HB := n0_; clear n0_; (try clear hb); (try clear hb2); (try clear hk); (try clear hi)) | ((with_reducible refine gate_callee (f := 65) rfl ?_); refine goesL_ (some 18) rfl rfl Tryd.func65 (by kernel_rfl) rfl #[.slice A0 l0.length c0, .int .i64 a2] rfl zq0 ?_; (with_reducible refine (impl_editionCode.calls k _ _ l0 a2 t162 _ ?side1 ?side2 A6.out).mono ?_); (case side1 => exact zq54); (case side2 => exact HC0.out); rintro e w11 ⟨rfl, hb⟩; refine ⟨_, rfl, ?_⟩; have n0_ := Aside0.mk (below_step zq45 hb); clear HB; have HB := n0_; clear n0_; (try clear hb); (try clear hb2); (try clear hk); (try clear hi)) | ((with_reducible refine gate_dst (N := 22) rfl ?_); refine Kd.R_lit Kd.string _ 9 ?hg (N := 22) ?hd (xs := ([] : List ByteArray)) (inner := []) (ok := fun _ => True) (okp := fun _ => True) ?hr ?hp (fun _ hk => hk) trivial (Below.refl _ _) (Nat.le_refl _) (by simp) ?_; (case hd => rfl); (case hg => rfl); (case hr => first | (go_simp; done) | (go_simp; rfl)); (case hp => exact (Reps.none _ _)); intro v164 w12 ho13 hb hg_ hnew_; clear hg_ hnew_; (first | rw [← Ny163.out] at ho13 | (simp only [Int.reduceToNat] at ho13; rw [← Ny163.out] at ho13)); have n0_ := Aside0.mk (Kd.R_lower ho13 (below_size zq45)); have n1_ := Aside0.mk (below_step zq45 hb); clear HB; have HO165 := n0_; have HB := n1_; clear n0_ n1_; clear hb ho13; have p166 : 0 ≤ (a2 : Int) := of_decide_eq_true zq22; have q166 : a2 < (l0.length : Int) := of_decide_eq_true zq22; obtain ⟨ad166, A166_1, c166_1, e166, hx166_0, hx166_1, hl166_1, hi166_1⟩ := at_T64 HR0.out a2 p166 q166; cases e166; replace hx166_0 := (HB.out.cell (World.block_lt_of_cell? w _ hx166_0)).trans hx166_0; replace hx166_1 := (HB.out.cell (World.block_lt_of_cell? w _ hx166_1)).trans hx166_1; have HR166_1 := Aside0.mk hi166_1; have HC166_1 := Aside0.mk hl166_1; clear hi166_1 hl166_1; replace p166 := eq_true p166; replace q166 := eq_true q166))
     go_loopg [9, 29] k (fun kq v9 v29 w' => ∃ (x9_1 : List ByteArray) (x29_1 : Int), v29 = .int .i64 x29_1 ∧ Aside0 (impl_TooLate.l0 kq l0 l1 a2 x9_1 ((rd_T64 l0 a2).f1) (((rd_T64 l0 a2).f1).length : Int) x29_1 = some (r1, r2)) ∧ Aside0 (kq ≤ k) ∧ Aside0 (Kd.R Kd.string 9 w' w.heap.size (fun _ => True) v9 x9_1) ∧ Aside0 (Below w.heap.size w w'))
     case atStart => exact ⟨(y163), (0), zq28, H', ⟨Nat.le_refl _⟩, ⟨zR HO165.out⟩, ⟨zq45⟩⟩
     case round =>
      clear H';(try clear c1);(try clear p1);(try clear q1);(try clear hx1);(try clear c2);(try clear p2);(try clear c4);(try clear c5);(try clear c6);(try clear c7);(try clear c7b0);(try clear c7b1);(try clear c8);(try clear c8b0);(try clear c9);(try clear c9b0);(try clear hx166_0);(try clear hx166_1);(try clear p166);(try clear q166);(obtain ⟨x9_1, x29_1, rfl, HA, HK1, HO_9, HB⟩ := hrel)
      cases gk with
      | zero => exact absurd HA.out (by simp [impl_TooLate.l0])
      | succ k1 =>
       (have H := HA.out);clear HA;(simp only [impl_TooLate.l0] at H);(by_cases c14 : x29_1 < (((rd_T64 l0 a2).f1).length : Int))
       ·rw [if_pos c14] at H
        (have c14b0 : decide (x29_1 < (((rd_T64 l0 a2).f1).length : Int)) = true := decide_eq_true c14);clear c14;(by_cases c15 : 0 ≤ x29_1)
        ·rw [if_pos c15] at H
         (have c15b0 : decide (0 ≤ x29_1) = true := decide_eq_true c15);clear c15;(by_cases c16 : x29_1 < (((rd_T64 l0 a2).f1).length : Int))
         ·rw [if_pos c16] at H
          (have c16b0 : decide (x29_1 < (((rd_T64 l0 a2).f1).length : Int)) = true := decide_eq_true c16);clear c16;(replace H := Option.bind_eq_some_iff.mp H);(obtain ⟨t168, A170, H⟩ := H);(replace H : (if t168 ≥ 0 then (if 0 ≤ t168 then (if t168 < (l1.length : Int) then (if 0 ≤ a2 then (if a2 < (l0.length : Int) then ((impl_wasUsed.f ((rd_T90 l1 t168).f0) ((rd_T90 l1 t168).f1) ((rd_T90 l1 t168).f2) ((rd_T64 l0 a2).f0)).bind fun t171 => (if t171 = true then (impl_TooLate.l0 k1 l0 l1 a2 x9_1 ((rd_T64 l0 a2).f1) (((rd_T64 l0 a2).f1).length : Int) (wrap64 (x29_1 + 1))) else (if x9_1.length < 8796093022208 then (impl_TooLate.l0 k1 l0 l1 a2 (x9_1 ++ [rdOf ByteArray.empty ((rd_T64 l0 a2).f1) x29_1]) ((rd_T64 l0 a2).f1) (((rd_T64 l0 a2).f1).length : Int) (wrap64 (x29_1 + 1))) else (none)))) else (none)) else (none)) else (none)) else (none)) else (impl_TooLate.l0 k1 l0 l1 a2 x9_1 ((rd_T64 l0 a2).f1) (((rd_T64 l0 a2).f1).length : Int) (wrap64 (x29_1 + 1)))) = some (r1, r2) := H);(have A17 := Aside0.mk A170);clear A170;(by_cases c18 : t168 ≥ 0)
          ·rw [if_pos c18] at H
           (have c18b0 : decide (0 ≤ t168) = true := decide_eq_true c18);clear c18;(by_cases c19 : 0 ≤ t168)
           ·rw [if_pos c19] at H
            (have c19b0 : decide (0 ≤ t168) = true := decide_eq_true c19);clear c19;(by_cases c20 : t168 < (l1.length : Int))
            ·rw [if_pos c20] at H
             (have c20b0 : decide (t168 < (l1.length : Int)) = true := decide_eq_true c20);clear c20;(by_cases c21 : 0 ≤ a2)
             ·rw [if_pos c21] at H
              (have c21b0 : decide (0 ≤ a2) = true := decide_eq_true c21);clear c21;(by_cases c22 : a2 < (l0.length : Int))
              ·rw [if_pos c22] at H
               (have c22b0 : decide (a2 < (l0.length : Int)) = true := decide_eq_true c22);clear c22;(replace H := Option.bind_eq_some_iff.mp H);(obtain ⟨t171, A230, H⟩ := H);(replace H : (if t171 = true then (impl_TooLate.l0 k1 l0 l1 a2 x9_1 ((rd_T64 l0 a2).f1) (((rd_T64 l0 a2).f1).length : Int) (wrap64 (x29_1 + 1))) else (if x9_1.length < 8796093022208 then (impl_TooLate.l0 k1 l0 l1 a2 (x9_1 ++ [rdOf ByteArray.empty ((rd_T64 l0 a2).f1) x29_1]) ((rd_T64 l0 a2).f1) (((rd_T64 l0 a2).f1).length : Int) (wrap64 (x29_1 + 1))) else (none))) = some (r1, r2) := H);(have A23 := Aside0.mk A230);clear A230;(by_cases c24 : t171 = true)
               ·subst c24
                (have H1 : (impl_TooLate.l0 k1 l0 l1 a2 x9_1 ((rd_T64 l0 a2).f1) (((rd_T64 l0 a2).f1).length : Int) (wrap64 (x29_1 + 1))) = some (r1, r2) := zq80);clear H;(have H := H1);clear H1;(have H' := Aside0.mk H);clear H;(have p167 : 0 ≤ (x29_1 : Int) := of_decide_eq_true zq22);(have q167 : x29_1 < (((rd_T64 l0 a2).f1).length : Int) := of_decide_eq_true zq22);(obtain ⟨ad167, e167, hx167_0⟩ := Kd.at_string HR166_1.out x29_1 p167 q167)
                cases e167
                (replace hx167_0 := (HB.out.cell (World.block_lt_of_cell? w _ hx167_0)).trans hx167_0);(replace p167 := eq_true p167);(replace q167 := eq_true q167);(try go_wp2_with (first | ((with_reducible refine gate_callee (f := 76) rfl ?_); refine goesL_ (some 35) rfl rfl Tryd.func76 (by kernel_rfl) rfl #[.slice A1 l1.length c1, .string (rdOf ByteArray.empty ((rd_T64 l0 a2).f1) x29_1)] rfl zq0 ?_; (with_reducible refine (impl_knownAt.calls _ _ l1 (rdOf ByteArray.empty ((rd_T64 l0 a2).f1) x29_1) t168 _ ?side1 ?side2 A17.out).mono ?_); (case side1 => exact zq55); (case side2 => exact HC1.out); rintro e w25 ⟨rfl, hb⟩; refine ⟨_, rfl, ?_⟩; have n0_ := Aside0.mk (Kd.R_below (zR HO_9.out) hb); have n1_ := Aside0.mk (below_step zq45 hb); clear HO_9; clear HB; have HO_9 := n0_; have HB := n1_; clear n0_ n1_; (try clear hb); (try clear hb2); (try clear hk); (try clear hi))));(have n0_ := Aside0.mk (Kd.R_drew HO_9.out));(have n1_ := Aside0.mk (below_drew1 HB.out));clear HO_9;clear HB;(have HO_9 := n0_);(have HB := n1_);clear n0_ n1_;(have p169 : 0 ≤ (t168 : Int) := of_decide_eq_true zq22);(have q169 : t168 < (l1.length : Int) := of_decide_eq_true zq22);(obtain ⟨ad169, e169, hx169_0, hx169_1, hx169_2⟩ := at_T90 HR1.out t168 p169 q169);(have hw169_2 := hx169_2);(have hw169_1 := hx169_1);(have hw169_0 := hx169_0)
                cases e169
                (replace hx169_0 := (HB.out.cell (World.block_lt_of_cell? w _ hx169_0)).trans hx169_0);(replace hx169_1 := (HB.out.cell (World.block_lt_of_cell? w _ hx169_1)).trans hx169_1);(replace hx169_2 := (HB.out.cell (World.block_lt_of_cell? w _ hx169_2)).trans hx169_2);(replace p169 := eq_true p169);(replace q169 := eq_true q169);(have p170 : 0 ≤ (a2 : Int) := of_decide_eq_true zq22);(have q170 : a2 < (l0.length : Int) := of_decide_eq_true zq22);(obtain ⟨ad170, A170_1, c170_1, e170, hx170_0, hx170_1, hl170_1, hi170_1⟩ := at_T64 HR0.out a2 p170 q170);(have hw170_1 := hx170_1);(have hw170_0 := hx170_0);(obtain rfl : ad166 = ad170 := (by injection e170));(replace hx170_0 := (HB.out.cell (World.block_lt_of_cell? w _ hx170_0)).trans hx170_0);(replace hx170_1 := (HB.out.cell (World.block_lt_of_cell? w _ hx170_1)).trans hx170_1);(have HR170_1 := Aside0.mk hi170_1);(have HC170_1 := Aside0.mk hl170_1);clear hi170_1 hl170_1;(replace p170 := eq_true p170);(replace q170 := eq_true q170);(refine start_ (n := 15) (S := fun w' => w'.cell? (ad169.add ((t168).toNat * 3)) = some (.string ((rd_T90 l1 t168).f0)) ∧ w'.cell? ⟨(ad169.add ((t168).toNat * 3)).block, (ad169.add ((t168).toNat * 3)).off + 1, none⟩ = some (.int .i64 ((rd_T90 l1 t168).f1)) ∧ w'.cell? ⟨(ad169.add ((t168).toNat * 3)).block, (ad169.add ((t168).toNat * 3)).off + 2, none⟩ = some (.int .i64 ((rd_T90 l1 t168).f2)) ∧ w'.cell? (ad166.add ((a2).toNat * 2)) = some (.int .i64 ((rd_T64 l0 a2).f0)) ∧ w'.cell? ⟨(ad166.add ((a2).toNat * 2)).block, (ad166.add ((a2).toNat * 2)).off + 1, none⟩ = some (.slice A170_1 ((rd_T64 l0 a2).f1).length c170_1)) (ds := []) #[false,false,false,false,false,false,false,false,false,false,false,false,false,false,false] (by kernel_rfl) rfl rfl ⟨((HB.out.cell (World.block_lt_of_cell? w _ hw169_0)).trans hw169_0), ((HB.out.cell (World.block_lt_of_cell? w _ hw169_1)).trans hw169_1), ((HB.out.cell (World.block_lt_of_cell? w _ hw169_2)).trans hw169_2), ((HB.out.cell (World.block_lt_of_cell? w _ hw170_0)).trans hw170_0), ((HB.out.cell (World.block_lt_of_cell? w _ hw170_1)).trans hw170_1)⟩ (fun hHeld => ?_); refine with_tabW impl_TooLate.tab11 impl_TooLate.bits11 (fun HT_ HW_ => ?_));(generalize w25.drew = w26 at HO_9 HB HR170_1 hx169_0 hx169_1 hx169_2 hx170_0 hx170_1 hHeld ⊢);(refine pI (i := 0) (N := some 36) (v := ?_) (a' := ?_) (mB 15 1) rfl rfl HT_.out (by kernel_rfl) (fun _ _ _ h => h) rfl ?_ ?_ ?_);rotate_left
                ·intro w'
                 go_simp;(with_reducible rfl)
                rotate_left
                ·simp only [Act.put, sA]
                 rfl
                (refine pI (i := 1) (N := some 37) (v := ?_) (a' := ?_) (mB 15 3) rfl rfl HT_.out (by kernel_rfl) (fun _ _ _ h => h) rfl ?_ ?_ ?_);rotate_left
                ·intro w'
                 go_simp;(with_reducible rfl)
                rotate_left
                ·simp only [Act.put, sA]
                 rfl
                (refine pI (i := 2) (N := some 38) (v := ?_) (a' := ?_) (mB 15 7) rfl rfl HT_.out (by kernel_rfl) (fun _ _ _ h => h) rfl ?_ ?_ ?_);rotate_left
                ·intro w'
                 go_simp;(with_reducible rfl)
                rotate_left
                ·simp only [Act.put, sA]
                 rfl
                (refine pI (i := 3) (N := some 39) (v := ?_) (a' := ?_) (mB 15 15) rfl rfl HT_.out (by kernel_rfl) (fun _ _ _ h => h) rfl ?_ ?_ ?_);rotate_left
                ·intro w'
                 go_simp;(with_reducible rfl)
                rotate_left
                ·simp only [Act.put, sA]
                 rfl
                (refine pI (i := 4) (N := some 40) (v := ?_) (a' := ?_) (mB 15 31) rfl rfl HT_.out (by kernel_rfl) (fun _ _ _ h => h) rfl ?_ ?_ ?_);rotate_left
                ·intro w'
                 go_simp;(with_reducible rfl)
                rotate_left
                ·simp only [Act.put, sA]
                 rfl
                (refine pI (i := 5) (N := some 41) (v := ?_) (a' := ?_) (mB 15 63) rfl rfl HT_.out (by kernel_rfl) (fun _ _ _ h => h) rfl ?_ ?_ ?_);rotate_left
                ·intro w'
                 go_simp;(with_reducible rfl)
                rotate_left
                ·simp only [Act.put, sA]
                 rfl
                (refine pI (i := 7) (N := some 43) (v := ?_) (a' := ?_) (mB 15 191) rfl rfl HT_.out (by kernel_rfl) (fun _ _ _ h => h) rfl ?_ ?_ ?_);rotate_left
                ·intro w'
                 go_simp;(with_reducible rfl)
                rotate_left
                ·simp only [Act.put, sA]
                 rfl
                (refine pI (i := 8) (N := some 44) (v := ?_) (a' := ?_) (mB 15 447) rfl rfl HT_.out (by kernel_rfl) (fun _ _ _ h => h) rfl ?_ ?_ ?_);rotate_left
                ·intro w'
                 go_simp;(with_reducible rfl)
                rotate_left
                ·simp only [Act.put, sA]
                 rfl
                (refine pI (i := 9) (N := some 45) (v := ?_) (a' := ?_) (mB 15 959) rfl rfl HT_.out (by kernel_rfl) (fun _ _ _ h => h) rfl ?_ ?_ ?_);rotate_left
                ·intro w'
                 go_simp;(with_reducible rfl)
                rotate_left
                ·simp only [Act.put, sA]
                 rfl
                (refine pI (i := 10) (N := some 46) (v := ?_) (a' := ?_) (mB 15 1983) rfl rfl HT_.out (by kernel_rfl) (fun _ _ _ h => h) rfl ?_ ?_ ?_);rotate_left
                ·intro w'
                 go_simp;(with_reducible rfl)
                rotate_left
                ·simp only [Act.put, sA]
                 rfl
                (refine tI (i := 6) (N := some 42) (v := ?_) (a' := ?_) (mB 15 2047) rfl rfl HT_.out HW_.out (by kernel_rfl) (fun _ _ _ h => h) rfl ?_ hHeld ?_ ?_);rotate_left
                ·rintro w' ⟨s0, s1, s2, s3, s4⟩
                 go_simp;(with_reducible rfl)
                rotate_left
                ·simp only [Act.put, sA]
                 rfl
                (refine tI (i := 11) (N := some 47) (v := ?_) (a' := ?_) (mB 15 4095) rfl rfl HT_.out HW_.out (by kernel_rfl) (fun _ _ _ h => h) rfl ?_ hHeld ?_ ?_);rotate_left
                ·rintro w' ⟨s0, s1, s2, s3, s4⟩
                 go_simp;(with_reducible rfl)
                rotate_left
                ·simp only [Act.put, sA]
                 rfl
                (refine one_ (i := 12) (N := some 48) (mB 15 8191) rfl rfl (one_of HT_.out (by kernel_rfl)) (by decide) (fun K hK => ?_));(refine goes_ Tryd.func77 (by kernel_rfl) rfl #[.agg #[.string ((rd_T90 l1 t168).f0), .int .i64 ((rd_T90 l1 t168).f1), .int .i64 ((rd_T90 l1 t168).f2)], .int .i64 ((rd_T64 l0 a2).f0)] (by rfl) rfl rfl zq0 ?_);(with_reducible refine (impl_wasUsed.calls ((rd_T90 l1 t168).f0) ((rd_T90 l1 t168).f1) ((rd_T90 l1 t168).f2) ((rd_T64 l0 a2).f0) true _ A23.out).mono ?_);(rintro e w27 ⟨rfl, hb⟩);(refine ⟨_, rfl, ?_⟩);(have n0_ := Aside0.mk (Kd.R_below (zR HO_9.out) hb));(have n1_ := Aside0.mk (below_step zq45 hb));clear HO_9;clear HB;(have HO_9 := n0_);(have HB := n1_);clear n0_ n1_;(try clear hb);(try clear hb2);(try clear hk);(try clear hi);(refine hK.out _ _ ⟨((HB.out.cell (World.block_lt_of_cell? w _ hw169_0)).trans hw169_0), ((HB.out.cell (World.block_lt_of_cell? w _ hw169_1)).trans hw169_1), ((HB.out.cell (World.block_lt_of_cell? w _ hw169_2)).trans hw169_2), ((HB.out.cell (World.block_lt_of_cell? w _ hw170_0)).trans hw170_0), ((HB.out.cell (World.block_lt_of_cell? w _ hw170_1)).trans hw170_1)⟩ (fun hHeld => ?_));clear hK K;(refine norm_ (a' := ?_) ?_ ?_);rotate_left
                ·show Act.put _ (some 48) _ = _
                 (simp only [Act.put, sA]);rfl
                (refine pI (i := 13) (N := some 49) (v := ?_) (a' := ?_) (mB 15 16383) rfl rfl HT_.out (by kernel_rfl) (fun _ _ _ h => h) rfl ?_ ?_ ?_);rotate_left
                ·intro w'
                 go_simp;(with_reducible rfl)
                rotate_left
                ·simp only [Act.put, sA]
                 rfl
                (refine pI (i := 14) (N := some 50) (v := ?_) (a' := ?_) (mB 15 32767) rfl rfl HT_.out (by kernel_rfl) (fun _ _ _ h => h) rfl ?_ ?_ ?_);rotate_left
                ·intro w'
                 go_simp;(with_reducible rfl)
                rotate_left
                ·simp only [Act.put, sA]
                 rfl
                (refine done_ (done_of HT_.out (by kernel_rfl)) ?_);(try go_wp2);(go_roundg k1)
                case measure => have := HK1.out; omega
                case rel => exact ⟨(x9_1), (wrap64 (x29_1 + 1)), zq28, H', ⟨zq33⟩, ⟨zR HO_9.out⟩, ⟨zq45⟩⟩
               ·replace c24 := Bool.eq_false_iff.mpr c24
                subst c24;(have H1 : (if x9_1.length < 8796093022208 then (impl_TooLate.l0 k1 l0 l1 a2 (x9_1 ++ [rdOf ByteArray.empty ((rd_T64 l0 a2).f1) x29_1]) ((rd_T64 l0 a2).f1) (((rd_T64 l0 a2).f1).length : Int) (wrap64 (x29_1 + 1))) else (none)) = some (r1, r2) := zq79);clear H;(have H := H1);clear H1;(by_cases c28 : x9_1.length < 8796093022208)
                ·rw [if_pos c28] at H
                 (have LMc28 := Aside0.mk c28);clear c28;(obtain ⟨y172, hy_⟩ : ∃ y_ : List ByteArray, y_ = (x9_1 ++ [rdOf ByteArray.empty ((rd_T64 l0 a2).f1) x29_1]) := ⟨_, rfl⟩);(replace H : (impl_TooLate.l0 k1 l0 l1 a2 y172 ((rd_T64 l0 a2).f1) (((rd_T64 l0 a2).f1).length : Int) (wrap64 (x29_1 + 1))) = some (r1, r2) := zq21);(have Ny172 := Aside0.mk hy_);clear hy_;(have H' := Aside0.mk H);clear H;(have p167 : 0 ≤ (x29_1 : Int) := of_decide_eq_true zq22);(have q167 : x29_1 < (((rd_T64 l0 a2).f1).length : Int) := of_decide_eq_true zq22);(obtain ⟨ad167, e167, hx167_0⟩ := Kd.at_string HR166_1.out x29_1 p167 q167)
                 cases e167
                 (replace hx167_0 := (HB.out.cell (World.block_lt_of_cell? w _ hx167_0)).trans hx167_0);(replace p167 := eq_true p167);(replace q167 := eq_true q167);(try go_wp2_with (first | ((with_reducible refine gate_callee (f := 76) rfl ?_); refine goesL_ (some 35) rfl rfl Tryd.func76 (by kernel_rfl) rfl #[.slice A1 l1.length c1, .string (rdOf ByteArray.empty ((rd_T64 l0 a2).f1) x29_1)] rfl zq0 ?_; (with_reducible refine (impl_knownAt.calls _ _ l1 (rdOf ByteArray.empty ((rd_T64 l0 a2).f1) x29_1) t168 _ ?side1 ?side2 A17.out).mono ?_); (case side1 => exact zq55); (case side2 => exact HC1.out); rintro e w29 ⟨rfl, hb⟩; refine ⟨_, rfl, ?_⟩; have n0_ := Aside0.mk (Kd.R_below (zR HO_9.out) hb); have n1_ := Aside0.mk (below_step zq45 hb); clear HO_9; clear HB; have HO_9 := n0_; have HB := n1_; clear n0_ n1_; (try clear hb); (try clear hb2); (try clear hk); (try clear hi))));(have n0_ := Aside0.mk (Kd.R_drew HO_9.out));(have n1_ := Aside0.mk (below_drew1 HB.out));clear HO_9;clear HB;(have HO_9 := n0_);(have HB := n1_);clear n0_ n1_;(have p169 : 0 ≤ (t168 : Int) := of_decide_eq_true zq22);(have q169 : t168 < (l1.length : Int) := of_decide_eq_true zq22);(obtain ⟨ad169, e169, hx169_0, hx169_1, hx169_2⟩ := at_T90 HR1.out t168 p169 q169);(have hw169_2 := hx169_2);(have hw169_1 := hx169_1);(have hw169_0 := hx169_0)
                 cases e169
                 (replace hx169_0 := (HB.out.cell (World.block_lt_of_cell? w _ hx169_0)).trans hx169_0);(replace hx169_1 := (HB.out.cell (World.block_lt_of_cell? w _ hx169_1)).trans hx169_1);(replace hx169_2 := (HB.out.cell (World.block_lt_of_cell? w _ hx169_2)).trans hx169_2);(replace p169 := eq_true p169);(replace q169 := eq_true q169);(have p170 : 0 ≤ (a2 : Int) := of_decide_eq_true zq22);(have q170 : a2 < (l0.length : Int) := of_decide_eq_true zq22);(obtain ⟨ad170, A170_1, c170_1, e170, hx170_0, hx170_1, hl170_1, hi170_1⟩ := at_T64 HR0.out a2 p170 q170);(have hw170_1 := hx170_1);(have hw170_0 := hx170_0);(obtain rfl : ad166 = ad170 := (by injection e170));(replace hx170_0 := (HB.out.cell (World.block_lt_of_cell? w _ hx170_0)).trans hx170_0);(replace hx170_1 := (HB.out.cell (World.block_lt_of_cell? w _ hx170_1)).trans hx170_1);(have HR170_1 := Aside0.mk hi170_1);(have HC170_1 := Aside0.mk hl170_1);clear hi170_1 hl170_1;(replace p170 := eq_true p170);(replace q170 := eq_true q170);(refine start_ (n := 15) (S := fun w' => w'.cell? (ad169.add ((t168).toNat * 3)) = some (.string ((rd_T90 l1 t168).f0)) ∧ w'.cell? ⟨(ad169.add ((t168).toNat * 3)).block, (ad169.add ((t168).toNat * 3)).off + 1, none⟩ = some (.int .i64 ((rd_T90 l1 t168).f1)) ∧ w'.cell? ⟨(ad169.add ((t168).toNat * 3)).block, (ad169.add ((t168).toNat * 3)).off + 2, none⟩ = some (.int .i64 ((rd_T90 l1 t168).f2)) ∧ w'.cell? (ad166.add ((a2).toNat * 2)) = some (.int .i64 ((rd_T64 l0 a2).f0)) ∧ w'.cell? ⟨(ad166.add ((a2).toNat * 2)).block, (ad166.add ((a2).toNat * 2)).off + 1, none⟩ = some (.slice A170_1 ((rd_T64 l0 a2).f1).length c170_1)) (ds := []) #[false,false,false,false,false,false,false,false,false,false,false,false,false,false,false] (by kernel_rfl) rfl rfl ⟨((HB.out.cell (World.block_lt_of_cell? w _ hw169_0)).trans hw169_0), ((HB.out.cell (World.block_lt_of_cell? w _ hw169_1)).trans hw169_1), ((HB.out.cell (World.block_lt_of_cell? w _ hw169_2)).trans hw169_2), ((HB.out.cell (World.block_lt_of_cell? w _ hw170_0)).trans hw170_0), ((HB.out.cell (World.block_lt_of_cell? w _ hw170_1)).trans hw170_1)⟩ (fun hHeld => ?_); refine with_tabW impl_TooLate.tab11 impl_TooLate.bits11 (fun HT_ HW_ => ?_));(generalize w29.drew = w30 at HO_9 HB HR170_1 hx169_0 hx169_1 hx169_2 hx170_0 hx170_1 hHeld ⊢);(refine pI (i := 0) (N := some 36) (v := ?_) (a' := ?_) (mB 15 1) rfl rfl HT_.out (by kernel_rfl) (fun _ _ _ h => h) rfl ?_ ?_ ?_);rotate_left
                 ·intro w'
                  go_simp;(with_reducible rfl)
                 rotate_left
                 ·simp only [Act.put, sA]
                  rfl
                 (refine pI (i := 1) (N := some 37) (v := ?_) (a' := ?_) (mB 15 3) rfl rfl HT_.out (by kernel_rfl) (fun _ _ _ h => h) rfl ?_ ?_ ?_);rotate_left
                 ·intro w'
                  go_simp;(with_reducible rfl)
                 rotate_left
                 ·simp only [Act.put, sA]
                  rfl
                 (refine pI (i := 2) (N := some 38) (v := ?_) (a' := ?_) (mB 15 7) rfl rfl HT_.out (by kernel_rfl) (fun _ _ _ h => h) rfl ?_ ?_ ?_);rotate_left
                 ·intro w'
                  go_simp;(with_reducible rfl)
                 rotate_left
                 ·simp only [Act.put, sA]
                  rfl
                 (refine pI (i := 3) (N := some 39) (v := ?_) (a' := ?_) (mB 15 15) rfl rfl HT_.out (by kernel_rfl) (fun _ _ _ h => h) rfl ?_ ?_ ?_);rotate_left
                 ·intro w'
                  go_simp;(with_reducible rfl)
                 rotate_left
                 ·simp only [Act.put, sA]
                  rfl
                 (refine pI (i := 4) (N := some 40) (v := ?_) (a' := ?_) (mB 15 31) rfl rfl HT_.out (by kernel_rfl) (fun _ _ _ h => h) rfl ?_ ?_ ?_);rotate_left
                 ·intro w'
                  go_simp;(with_reducible rfl)
                 rotate_left
                 ·simp only [Act.put, sA]
                  rfl
                 (refine pI (i := 5) (N := some 41) (v := ?_) (a' := ?_) (mB 15 63) rfl rfl HT_.out (by kernel_rfl) (fun _ _ _ h => h) rfl ?_ ?_ ?_);rotate_left
                 ·intro w'
                  go_simp;(with_reducible rfl)
                 rotate_left
                 ·simp only [Act.put, sA]
                  rfl
                 (refine pI (i := 7) (N := some 43) (v := ?_) (a' := ?_) (mB 15 191) rfl rfl HT_.out (by kernel_rfl) (fun _ _ _ h => h) rfl ?_ ?_ ?_);rotate_left
                 ·intro w'
                  go_simp;(with_reducible rfl)
                 rotate_left
                 ·simp only [Act.put, sA]
                  rfl
                 (refine pI (i := 8) (N := some 44) (v := ?_) (a' := ?_) (mB 15 447) rfl rfl HT_.out (by kernel_rfl) (fun _ _ _ h => h) rfl ?_ ?_ ?_);rotate_left
                 ·intro w'
                  go_simp;(with_reducible rfl)
                 rotate_left
                 ·simp only [Act.put, sA]
                  rfl
                 (refine pI (i := 9) (N := some 45) (v := ?_) (a' := ?_) (mB 15 959) rfl rfl HT_.out (by kernel_rfl) (fun _ _ _ h => h) rfl ?_ ?_ ?_);rotate_left
                 ·intro w'
                  go_simp;(with_reducible rfl)
                 rotate_left
                 ·simp only [Act.put, sA]
                  rfl
                 (refine pI (i := 10) (N := some 46) (v := ?_) (a' := ?_) (mB 15 1983) rfl rfl HT_.out (by kernel_rfl) (fun _ _ _ h => h) rfl ?_ ?_ ?_);rotate_left
                 ·intro w'
                  go_simp;(with_reducible rfl)
                 rotate_left
                 ·simp only [Act.put, sA]
                  rfl
                 (refine tI (i := 6) (N := some 42) (v := ?_) (a' := ?_) (mB 15 2047) rfl rfl HT_.out HW_.out (by kernel_rfl) (fun _ _ _ h => h) rfl ?_ hHeld ?_ ?_);rotate_left
                 ·rintro w' ⟨s0, s1, s2, s3, s4⟩
                  go_simp;(with_reducible rfl)
                 rotate_left
                 ·simp only [Act.put, sA]
                  rfl
                 (refine tI (i := 11) (N := some 47) (v := ?_) (a' := ?_) (mB 15 4095) rfl rfl HT_.out HW_.out (by kernel_rfl) (fun _ _ _ h => h) rfl ?_ hHeld ?_ ?_);rotate_left
                 ·rintro w' ⟨s0, s1, s2, s3, s4⟩
                  go_simp;(with_reducible rfl)
                 rotate_left
                 ·simp only [Act.put, sA]
                  rfl
                 (refine one_ (i := 12) (N := some 48) (mB 15 8191) rfl rfl (one_of HT_.out (by kernel_rfl)) (by decide) (fun K hK => ?_));(refine goes_ Tryd.func77 (by kernel_rfl) rfl #[.agg #[.string ((rd_T90 l1 t168).f0), .int .i64 ((rd_T90 l1 t168).f1), .int .i64 ((rd_T90 l1 t168).f2)], .int .i64 ((rd_T64 l0 a2).f0)] (by rfl) rfl rfl zq0 ?_);(with_reducible refine (impl_wasUsed.calls ((rd_T90 l1 t168).f0) ((rd_T90 l1 t168).f1) ((rd_T90 l1 t168).f2) ((rd_T64 l0 a2).f0) false _ A23.out).mono ?_);(rintro e w31 ⟨rfl, hb⟩);(refine ⟨_, rfl, ?_⟩);(have n0_ := Aside0.mk (Kd.R_below (zR HO_9.out) hb));(have n1_ := Aside0.mk (below_step zq45 hb));clear HO_9;clear HB;(have HO_9 := n0_);(have HB := n1_);clear n0_ n1_;(try clear hb);(try clear hb2);(try clear hk);(try clear hi);(refine hK.out _ _ ⟨((HB.out.cell (World.block_lt_of_cell? w _ hw169_0)).trans hw169_0), ((HB.out.cell (World.block_lt_of_cell? w _ hw169_1)).trans hw169_1), ((HB.out.cell (World.block_lt_of_cell? w _ hw169_2)).trans hw169_2), ((HB.out.cell (World.block_lt_of_cell? w _ hw170_0)).trans hw170_0), ((HB.out.cell (World.block_lt_of_cell? w _ hw170_1)).trans hw170_1)⟩ (fun hHeld => ?_));clear hK K;(refine norm_ (a' := ?_) ?_ ?_);rotate_left
                 ·show Act.put _ (some 48) _ = _
                  (simp only [Act.put, sA]);rfl
                 (refine pI (i := 13) (N := some 49) (v := ?_) (a' := ?_) (mB 15 16383) rfl rfl HT_.out (by kernel_rfl) (fun _ _ _ h => h) rfl ?_ ?_ ?_);rotate_left
                 ·intro w'
                  go_simp;(with_reducible rfl)
                 rotate_left
                 ·simp only [Act.put, sA]
                  rfl
                 (refine pI (i := 14) (N := some 50) (v := ?_) (a' := ?_) (mB 15 32767) rfl rfl HT_.out (by kernel_rfl) (fun _ _ _ h => h) rfl ?_ ?_ ?_);rotate_left
                 ·intro w'
                  go_simp;(with_reducible rfl)
                 rotate_left
                 ·simp only [Act.put, sA]
                  rfl
                 (refine done_ (done_of HT_.out (by kernel_rfl)) ?_);(try go_wp2_with (first | ((with_reducible refine gate_builtin (b := .append) (xs := #[.tmp 51, .tmp 53]) rfl ?_); at_builtin; refine Kd.R_append Kd.string (w0 := w) w.heap.size rfl (.tmp 51) (.tmp 53) 24 9 (.string ⟨#[]⟩) 16 rfl Tryd.underlying24 info9 rfl (by decide) (by omega) u9 x9_1 (rdOf ByteArray.empty ((rd_T64 l0 a2).f1) x29_1) [.string (rdOf ByteArray.empty ((rd_T64 l0 a2).f1) x29_1)] (fun _ => True) (fun _ => False) rfl rfl ?aP (fun _ hk => hk.elim) ?aF ?aO ?aB ?aS ?aL ?_; (case aP => exact rfl); (case aB => exact zq45); (case aF => exact (fun _ _ => trivial)); (case aO => exact (zR HO_9.out)); (case aS => exact (below_size zq45)); (case aL => have := LMc28.out; omega); intro v173 w32 ho hb hg hat; rw [← Ny172.out] at ho; have n0_ := Aside0.mk (hb); have n1_ := Aside0.mk (ho); clear HB; clear HO_9; have HB := n0_; have HO174 := n1_; clear n0_ n1_; clear ho hb hg hat)));(go_roundg k1)
                 case measure => have := HK1.out; omega
                 case rel => exact ⟨(y172), (wrap64 (x29_1 + 1)), zq28, H', ⟨zq33⟩, ⟨zR HO174.out⟩, ⟨zq45⟩⟩
                ·rw [if_neg c28] at H
                 exact absurd H (by simp)
              ·rw [if_neg c22] at H
               exact absurd H (by simp)
             ·rw [if_neg c21] at H
              exact absurd H (by simp)
            ·rw [if_neg c20] at H
             exact absurd H (by simp)
           ·rw [if_neg c19] at H
            exact absurd H (by simp)
          ·rw [if_neg c18] at H
           (have c18b0 : decide (0 ≤ t168) = false := decide_eq_false c18);clear c18;(have H' := Aside0.mk H);clear H;(have p167 : 0 ≤ (x29_1 : Int) := of_decide_eq_true zq22);(have q167 : x29_1 < (((rd_T64 l0 a2).f1).length : Int) := of_decide_eq_true zq22);(obtain ⟨ad167, e167, hx167_0⟩ := Kd.at_string HR166_1.out x29_1 p167 q167)
           cases e167
           (replace hx167_0 := (HB.out.cell (World.block_lt_of_cell? w _ hx167_0)).trans hx167_0);(replace p167 := eq_true p167);(replace q167 := eq_true q167);(try go_wp2_with (first | ((with_reducible refine gate_callee (f := 76) rfl ?_); refine goesL_ (some 35) rfl rfl Tryd.func76 (by kernel_rfl) rfl #[.slice A1 l1.length c1, .string (rdOf ByteArray.empty ((rd_T64 l0 a2).f1) x29_1)] rfl zq0 ?_; (with_reducible refine (impl_knownAt.calls _ _ l1 (rdOf ByteArray.empty ((rd_T64 l0 a2).f1) x29_1) t168 _ ?side1 ?side2 A17.out).mono ?_); (case side1 => exact zq55); (case side2 => exact HC1.out); rintro e w33 ⟨rfl, hb⟩; refine ⟨_, rfl, ?_⟩; have n0_ := Aside0.mk (Kd.R_below (zR HO_9.out) hb); have n1_ := Aside0.mk (below_step zq45 hb); clear HO_9; clear HB; have HO_9 := n0_; have HB := n1_; clear n0_ n1_; (try clear hb); (try clear hb2); (try clear hk); (try clear hi))));(have n0_ := Aside0.mk (Kd.R_drew HO_9.out));(have n1_ := Aside0.mk (below_drew1 HB.out));clear HO_9;clear HB;(have HO_9 := n0_);(have HB := n1_);clear n0_ n1_;(refine start_ (n := 15) (S := fun w' => True) (ds := []) #[false,false,false,false,false,false,false,false,false,false,false,false,false,false,false] (by kernel_rfl) rfl rfl trivial (fun hHeld => ?_); refine with_tabW impl_TooLate.tab11 impl_TooLate.bits11 (fun HT_ HW_ => ?_));(generalize w33.drew = w34 at HO_9 HB hHeld ⊢);(refine pI (i := 0) (N := some 36) (v := ?_) (a' := ?_) (mB 15 1) rfl rfl HT_.out (by kernel_rfl) (fun _ _ _ h => h) rfl ?_ ?_ ?_);rotate_left
           ·intro w'
            go_simp;(with_reducible rfl)
           rotate_left
           ·simp only [Act.put, sA]
            rfl
           (refine pI (i := 1) (N := some 37) (v := ?_) (a' := ?_) (mB 15 3) rfl rfl HT_.out (by kernel_rfl) (fun _ _ _ h => h) rfl ?_ ?_ ?_);rotate_left
           ·intro w'
            go_simp;(with_reducible rfl)
           rotate_left
           ·simp only [Act.put, sA]
            rfl
           (refine pI (i := 2) (N := some 38) (v := ?_) (a' := ?_) (mB 15 7) rfl rfl HT_.out (by kernel_rfl) (fun _ _ _ h => h) rfl ?_ ?_ ?_);rotate_left
           ·intro w'
            go_simp;(with_reducible rfl)
           rotate_left
           ·simp only [Act.put, sA]
            rfl
           (refine pU (i := 3) (N := some 39) (a' := ?_) (mB 15 15) rfl rfl HT_.out (by kernel_rfl) (fun _ _ _ h => h) rfl ?_ ?_);rotate_left
           ·simp only [Act.put, sA]
            rfl
           (refine pU (i := 4) (N := some 40) (a' := ?_) (mB 15 31) rfl rfl HT_.out (by kernel_rfl) (fun _ _ _ h => h) rfl ?_ ?_);rotate_left
           ·simp only [Act.put, sA]
            rfl
           (refine pU (i := 5) (N := some 41) (a' := ?_) (mB 15 63) rfl rfl HT_.out (by kernel_rfl) (fun _ _ _ h => h) rfl ?_ ?_);rotate_left
           ·simp only [Act.put, sA]
            rfl
           (refine pU (i := 6) (N := some 42) (a' := ?_) (mB 15 127) rfl rfl HT_.out (by kernel_rfl) (fun _ _ _ h => h) rfl ?_ ?_);rotate_left
           ·simp only [Act.put, sA]
            rfl
           (refine pU (i := 7) (N := some 43) (a' := ?_) (mB 15 255) rfl rfl HT_.out (by kernel_rfl) (fun _ _ _ h => h) rfl ?_ ?_);rotate_left
           ·simp only [Act.put, sA]
            rfl
           (refine pU (i := 8) (N := some 44) (a' := ?_) (mB 15 511) rfl rfl HT_.out (by kernel_rfl) (fun _ _ _ h => h) rfl ?_ ?_);rotate_left
           ·simp only [Act.put, sA]
            rfl
           (refine pU (i := 9) (N := some 45) (a' := ?_) (mB 15 1023) rfl rfl HT_.out (by kernel_rfl) (fun _ _ _ h => h) rfl ?_ ?_);rotate_left
           ·simp only [Act.put, sA]
            rfl
           (refine pU (i := 10) (N := some 46) (a' := ?_) (mB 15 2047) rfl rfl HT_.out (by kernel_rfl) (fun _ _ _ h => h) rfl ?_ ?_);rotate_left
           ·simp only [Act.put, sA]
            rfl
           (refine pU (i := 11) (N := some 47) (a' := ?_) (mB 15 4095) rfl rfl HT_.out (by kernel_rfl) (fun _ _ _ h => h) rfl ?_ ?_);rotate_left
           ·simp only [Act.put, sA]
            rfl
           (refine pU (i := 12) (N := some 48) (a' := ?_) (mB 15 8191) rfl rfl HT_.out (by kernel_rfl) (fun _ _ _ h => h) rfl ?_ ?_);rotate_left
           ·simp only [Act.put, sA]
            rfl
           (refine pU (i := 13) (N := some 49) (a' := ?_) (mB 15 16383) rfl rfl HT_.out (by kernel_rfl) (fun _ _ _ h => h) rfl ?_ ?_);rotate_left
           ·simp only [Act.put, sA]
            rfl
           (refine pI (i := 14) (N := some 50) (v := ?_) (a' := ?_) (mB 15 32767) rfl rfl HT_.out (by kernel_rfl) (fun _ _ _ h => h) rfl ?_ ?_ ?_);rotate_left
           ·intro w'
            go_simp;(with_reducible rfl)
           rotate_left
           ·simp only [Act.put, sA]
            rfl
           (refine done_ (done_of HT_.out (by kernel_rfl)) ?_);(try go_wp2);(go_roundg k1)
           case measure => have := HK1.out; omega
           case rel => exact ⟨(x9_1), (wrap64 (x29_1 + 1)), zq28, H', ⟨zq33⟩, ⟨zR HO_9.out⟩, ⟨zq45⟩⟩
         ·rw [if_neg c16] at H
          exact absurd H (by simp)
        ·rw [if_neg c15] at H
         exact absurd H (by simp)
       ·rw [if_neg c14] at H
        (have c14b0 : decide (x29_1 < (((rd_T64 l0 a2).f1).length : Int)) = false := decide_eq_false c14);clear c14;(simp only [Option.some.injEq, Prod.mk.injEq] at H);(obtain ⟨rfl, rfl⟩ := H);(go_wp2);(go_ret2);(exact ⟨_, zq27, zR HO_9.out, zq45⟩)
    ·rw [if_neg c9] at H
     exact absurd H (by simp)
   ·rw [if_neg c8] at H
    exact absurd H (by simp)
  ·rw [if_neg c7] at H
   (have c7b0 : (t162 == 0) = false := beq_eq_false_iff_ne.mpr c7);(have c7b1 : (t162 != 0) = true := bne_iff_ne.mpr c7);(simp only [Option.some.injEq, Prod.mk.injEq] at H);(obtain ⟨rfl, rfl⟩ := H)
   go_enter Tryd.func23, Tryd.ntmps23
   (go_wp2_with (first | ((with_reducible refine gate_callee (f := 43) rfl ?_); refine goesL_ (some 14) rfl rfl Tryd.func43 (by kernel_rfl) rfl #[.slice A1 l1.length c1] rfl zq0 ?_; (with_reducible refine (impl_ValidKnown.calls k _ _ l1 true _ ?side1 ?side2 A4.out).mono ?_); (case side1 => exact zq75); (case side2 => exact HC1.out); rintro e w35 ⟨rfl, hb⟩; refine ⟨_, rfl, ?_⟩; have n0_ := Aside0.mk (below_step zq45 hb); clear HB; have HB := n0_; clear n0_; (try clear hb); (try clear hb2); (try clear hk); (try clear hi)) | ((with_reducible refine gate_callee (f := 65) rfl ?_); refine goesL_ (some 18) rfl rfl Tryd.func65 (by kernel_rfl) rfl #[.slice A0 l0.length c0, .int .i64 a2] rfl zq0 ?_; (with_reducible refine (impl_editionCode.calls k _ _ l0 a2 t162 _ ?side1 ?side2 A6.out).mono ?_); (case side1 => exact zq54); (case side2 => exact HC0.out); rintro e w36 ⟨rfl, hb⟩; refine ⟨_, rfl, ?_⟩; have n0_ := Aside0.mk (below_step zq45 hb); clear HB; have HB := n0_; clear n0_; (try clear hb); (try clear hb2); (try clear hk); (try clear hi))));(go_ret2);(exact ⟨_, zq27, zq23, zq45⟩)
 ·replace c5 := Bool.eq_false_iff.mpr c5
  subst c5;(have H1 : (some (([] : List ByteArray), 1)) = some (r1, r2) := zq79);clear H;(have H := H1);clear H1;(simp only [Option.some.injEq, Prod.mk.injEq] at H);(obtain ⟨rfl, rfl⟩ := H)
  go_enter Tryd.func23, Tryd.ntmps23
  (go_wp2_with (first | ((with_reducible refine gate_callee (f := 43) rfl ?_); refine goesL_ (some 14) rfl rfl Tryd.func43 (by kernel_rfl) rfl #[.slice A1 l1.length c1] rfl zq0 ?_; (with_reducible refine (impl_ValidKnown.calls k _ _ l1 false _ ?side1 ?side2 A4.out).mono ?_); (case side1 => exact zq75); (case side2 => exact HC1.out); rintro e w37 ⟨rfl, hb⟩; refine ⟨_, rfl, ?_⟩; have n0_ := Aside0.mk (below_step zq45 hb); clear HB; have HB := n0_; clear n0_; (try clear hb); (try clear hb2); (try clear hk); (try clear hi))));(go_ret2);(exact ⟨_, zq27, zq23, zq45⟩)

/-! ### laws_f6big: function 34 -/
def laws_f6big.f (l0 : List Int) : Option (Bool) := some (decide ((l0.length : Int) > 4096))
theorem laws_f6big.calls (A0 : Option Addr) (c0 : Nat) (l0 : List Int) (r : Bool) (w : World) (hr0 : Kd.C (Kd.int .u8) w A0 l0.length l0) (hc0 : l0.length ≤ c0) (h : laws_f6big.f l0 = some r) :
  Calls Tryd.prog 34 #[.slice A0 l0.length c0] w fun e w' => e = .returned (.bool r) ∧ Drawn0 w w' := by
 (have HR0 := Aside0.mk hr0);(have HC0 := Aside0.mk hc0);clear hr0 hc0;(have H : (some (decide ((l0.length : Int) > 4096))) = some r := h);clear h;(obtain rfl := Option.some.inj H)
 go_enter Tryd.func34, Tryd.ntmps34
 (go_wp2);(go_ret);(exact ⟨zq28, zq73⟩)

/-- A state of type 134 at block g of W; what its slices lead to came in by w0. -/
def IsS134 (w0 W : World) (g : Nat) (f0 : List Int) (f1 : Int) (f2 : Int) : Prop := ∃ A0 c0, W.heap[g]? = some (.cells #[.slice A0 f0.length c0, .int .i64 f1, .int .u64 f2] 134 (0, 0)) ∧ w0.heap.size ≤ g ∧ Kd.C (Kd.int .u8) w0 A0 f0.length f0
theorem IsS134.grown {w0 W : World} {g : Nat} {f0 : List Int} {f1 : Int} {f2 : Int} {W1 : World} {row : Option Nat} (h : IsS134 w0 W g f0 f1 f2) (hw : W.grownBy W1 row) (hne : some g ≠ row) : IsS134 w0 W1 g f0 f1 f2 := by
 (obtain ⟨A0, c0, hb, hg, hr0⟩ := h);(exact ⟨A0, c0, blk_grown hb hw hne, hg, hr0⟩)
theorem IsS134.own_neN {w0 W : World} {g : Nat} {f0 : List Int} {f1 : Int} {f2 : Int} {α : Type} {d : Kd α} {e : Nat} {base : Nat} {ok : Nat → Prop} {v : Value} {xs : List α} (h : IsS134 w0 W g f0 f1 f2) (ho : Kd.N d e W base ok v xs) (ht : e ≠ 134) : some g ≠ v.ownBlock := by
 (obtain ⟨A0, c0, hb, hg, hr0⟩ := h);(exact Kd.N_ne ho hb ht)
theorem IsS134.fresh {w0 W : World} {g : Nat} {f0 : List Int} {f1 : Int} {f2 : Int} (h : IsS134 w0 W g f0 f1 f2) : ∀ k, W.heap.size ≤ k → k ≠ g := by
 (obtain ⟨A0, c0, hb, hg, hr0⟩ := h);(exact Kd.freshB hb)
theorem IsS134.kept {w0 W : World} {g : Nat} {f0 : List Int} {f1 : Int} {f2 : Int} {W1 : World} {S : Nat → Prop} (h : IsS134 w0 W g f0 f1 f2) (hk : Kept W W1 S) (hne : ¬ S g) : IsS134 w0 W1 g f0 f1 f2 := by
 (obtain ⟨A0, c0, hb, hg, hr0⟩ := h);(exact ⟨A0, c0, blk_kept hb hk hne, hg, hr0⟩)
theorem IsS134.below {w0 W : World} {g : Nat} {f0 : List Int} {f1 : Int} {f2 : Int} {W1 : World} (h : IsS134 w0 W g f0 f1 f2) (hw : Below W.heap.size W W1) : IsS134 w0 W1 g f0 f1 f2 := h.grown (grown_of_below hw none) (by simp)
theorem IsS134.alloc {w0 W : World} {g : Nat} {f0 : List Int} {f1 : Int} {f2 : Int} (h : IsS134 w0 W g f0 f1 f2) (o : Obj) : IsS134 w0 (W.alloc o) g f0 f1 f2 := h.below (below_alloc (Below.refl _ _) o)
theorem IsS134.drewN {w0 W : World} {g : Nat} {f0 : List Int} {f1 : Int} {f2 : Int} (h : IsS134 w0 W g f0 f1 f2) (m : Nat) : IsS134 w0 (W.drewN m) g f0 f1 f2 := h
theorem IsS134.drew {w0 W : World} {g : Nat} {f0 : List Int} {f1 : Int} {f2 : Int} (h : IsS134 w0 W g f0 f1 f2) : IsS134 w0 W.drew g f0 f1 f2 := h
theorem IsS134.at_ {w0 W : World} {g : Nat} {f0 : List Int} {f1 : Int} {f2 : Int} {w' : World} {m : Nat} (hq : W.drewN m = w') (h : IsS134 w0 W g f0 f1 f2) : IsS134 w0 w' g f0 f1 f2 := by subst hq; exact IsS134.drewN h m
theorem IsS134.apart {w0 W : World} {g : Nat} {f0 : List Int} {f1 : Int} {f2 : Int} {α : Type} {d : Kd α} {e : Nat} {base : Nat} {ok : Nat → Prop} {v : Value} {xs : List α} (h : IsS134 w0 W g f0 f1 f2) (ho : d.R e W base ok v xs) (ht : ∀ q, q ∈ e :: d.E → q ≠ 134) : d.R e W base (fun k => ok k ∧ k ≠ g) v xs := by
 (obtain ⟨A0, c0, hb, hg, hr0⟩ := h);(exact Kd.R_types ho hb ht)
theorem IsS134.own_ne {w0 W : World} {g : Nat} {f0 : List Int} {f1 : Int} {f2 : Int} {α : Type} {d : Kd α} {e : Nat} {base : Nat} {ok : Nat → Prop} {v : Value} {xs : List α} (h : IsS134 w0 W g f0 f1 f2) (ho : d.R e W base ok v xs) (ht : e ≠ 134) : some g ≠ v.ownBlock := by
 (obtain ⟨A0, c0, hb, hg, hr0⟩ := h);(exact Kd.R_ne ho hb ht)
theorem IsS134.apartQ {w0 W : World} {g : Nat} {f0 : List Int} {f1 : Int} {f2 : Int} {α : Type} {d : Kd α} {e : Nat} {base : Nat} {ok : Nat → Prop} {v : Value} {xs : List α} (h : IsS134 w0 W g f0 f1 f2) (ho : d.Q e W base ok v xs) (ht : ∀ q, q ∈ e :: d.E → q ≠ 134) : d.Q e W base (fun k => ok k ∧ k ≠ g) v xs := by
 (obtain ⟨A0, c0, hb, hg, hr0⟩ := h);(exact Kd.Q_types ho hb ht)
theorem IsS134.own_neQ {w0 W : World} {g : Nat} {f0 : List Int} {f1 : Int} {f2 : Int} {α : Type} {d : Kd α} {e : Nat} {base : Nat} {ok : Nat → Prop} {v : Value} {xs : List α} (h : IsS134 w0 W g f0 f1 f2) (ho : d.Q e W base ok v xs) (ht : e ≠ 134) : some g ≠ v.ownBlock := by
 (obtain ⟨A0, c0, hb, hg, hr0⟩ := h);(exact Kd.Q_ne ho hb ht)
theorem IsS134.apartS {w0 W : World} {g : Nat} {f0 : List Int} {f1 : Int} {f2 : Int} {α : Type} {d : Kd α} {e : Nat} {base : Nat} {ok : Nat → Prop} {v : Value} {xs : List α} (h : IsS134 w0 W g f0 f1 f2) (ho : d.S e W base ok v xs) (ht : ∀ q, q ∈ e :: d.E → q ≠ 134) : d.S e W base (fun k => ok k ∧ k ≠ g) v xs := by
 (obtain ⟨A0, c0, hb, hg, hr0⟩ := h);(exact Kd.S_types ho hb ht)
theorem IsS134.own_neS {w0 W : World} {g : Nat} {f0 : List Int} {f1 : Int} {f2 : Int} {α : Type} {d : Kd α} {e : Nat} {base : Nat} {ok : Nat → Prop} {v : Value} {xs : List α} (h : IsS134 w0 W g f0 f1 f2) (ho : d.S e W base ok v xs) (ht : e ≠ 134) : some g ≠ v.ownBlock := by
 (obtain ⟨A0, c0, hb, hg, hr0⟩ := h);(exact Kd.S_ne ho hb ht)
theorem IsS134.lt {w0 W : World} {g : Nat} {f0 : List Int} {f1 : Int} {f2 : Int} (h : IsS134 w0 W g f0 f1 f2) : g < W.heap.size := by
 (obtain ⟨A0, c0, hb, hg, hr0⟩ := h);(exact blk_lt hb)
theorem IsS134.ge {w0 W : World} {g : Nat} {f0 : List Int} {f1 : Int} {f2 : Int} (h : IsS134 w0 W g f0 f1 f2) : w0.heap.size ≤ g := by
 (obtain ⟨A0, c0, hb, hg, hr0⟩ := h);(exact hg)
theorem IsS134.ne_blk {w0 W : World} {g : Nat} {f0 : List Int} {f1 : Int} {f2 : Int} {a : Nat} {cs : Array Value} {t : TypeId} {fr : Nat × Nat} (h : IsS134 w0 W g f0 f1 f2) (hb2 : W.heap[a]? = some (.cells cs t fr)) (ht : t ≠ 134) : g ≠ a := by
 (obtain ⟨A0, c0, hb, hg, hr0⟩ := h);(rintro rfl);(rw [hb] at hb2)
 injection hb2 with hb2
 injection hb2 with _ ht2
 exact ht ht2.symm
theorem IsS134.far {w0 W : World} {g : Nat} {f0 : List Int} {f1 : Int} {f2 : Int} {p : Addr} (h : IsS134 w0 W g f0 f1 f2) (hne : g ≠ p.block) (u : Value) : IsS134 w0 (W.setCell p u) g f0 f1 f2 := by
 (obtain ⟨A0, c0, hb, hg, hr0⟩ := h);(exact ⟨A0, c0, blk_far hb hne u, hg, hr0⟩)
theorem cellS134_0 {W : World} {g : Nat} {A0 : Option Addr} {c0 : Nat} {f0 : List Int} {f1 : Int} {f2 : Int} (h : W.heap[g]? = some (.cells #[.slice A0 f0.length c0, .int .i64 f1, .int .u64 f2] 134 (0, 0))) : W.cell? ⟨g, 0, none⟩ = some (.slice A0 f0.length c0) := (blk_cell h 0).trans rfl
theorem cellS134_1 {W : World} {g : Nat} {A0 : Option Addr} {c0 : Nat} {f0 : List Int} {f1 : Int} {f2 : Int} (h : W.heap[g]? = some (.cells #[.slice A0 f0.length c0, .int .i64 f1, .int .u64 f2] 134 (0, 0))) : W.cell? ⟨g, 1, none⟩ = some (.int .i64 f1) := (blk_cell h 1).trans rfl
theorem IsS134.set_1 {w0 W : World} {g : Nat} {f0 : List Int} {f1 : Int} {f2 : Int} (h : IsS134 w0 W g f0 f1 f2) (x : Int) : IsS134 w0 (W.setCell ⟨g, 1, none⟩ (.int .i64 x)) g f0 x f2 := by
 (obtain ⟨A0, c0, hb, hg, hr0⟩ := h);(exact ⟨A0, c0, by simpa using blk_set hb 1 (.int .i64 x), hg, hr0⟩)
theorem cellS134_2 {W : World} {g : Nat} {A0 : Option Addr} {c0 : Nat} {f0 : List Int} {f1 : Int} {f2 : Int} (h : W.heap[g]? = some (.cells #[.slice A0 f0.length c0, .int .i64 f1, .int .u64 f2] 134 (0, 0))) : W.cell? ⟨g, 2, none⟩ = some (.int .u64 f2) := (blk_cell h 2).trans rfl
theorem IsS134.set_2 {w0 W : World} {g : Nat} {f0 : List Int} {f1 : Int} {f2 : Int} (h : IsS134 w0 W g f0 f1 f2) (x : Int) : IsS134 w0 (W.setCell ⟨g, 2, none⟩ (.int .u64 x)) g f0 f1 x := by
 (obtain ⟨A0, c0, hb, hg, hr0⟩ := h);(exact ⟨A0, c0, by simpa using blk_set hb 2 (.int .u64 x), hg, hr0⟩)
theorem IsS134.new (w0 W : World) (A0 : Option Addr) (c0 : Nat) (f0 : List Int) (f1 : Int) (f2 : Int) (hB : Below w0.heap.size w0 W) (hr0 : Kd.C (Kd.int .u8) w0 A0 f0.length f0) : IsS134 w0 (W.alloc (.cells #[.slice A0 f0.length c0, .int .i64 f1, .int .u64 f2] 134)) W.heap.size f0 f1 f2 := ⟨A0, c0, by simpa using heap_alloc_new W _, hB.size, hr0⟩

/-! ### spec_l00From: function 89 -/
def spec_l00From.f (l0 : List Int) : Option (List Int × Int × Int) := some (l0, 0, 0)
theorem spec_l00From.calls (A0 : Option Addr) (c0 : Nat) (l0 : List Int) (r1 : List Int) (r2 : Int) (r3 : Int) (w0 w : World) (hB : Below w0.heap.size w0 w) (hr0 : Kd.C (Kd.int .u8) w0 A0 l0.length l0) (hc0 : l0.length ≤ c0) (h : spec_l00From.f l0 = some (r1, r2, r3)) :
  Calls Tryd.prog 89 #[.slice A0 l0.length c0] w fun e w' => ∃ g_ : Nat, e = .returned (.pointer (some ⟨g_, 0, none⟩)) ∧ IsS134 w0 w' g_ r1 r2 r3 ∧ Below w0.heap.size w0 w' ∧ Below w.heap.size w w' := by
 (have hu134 := Tryd.underlying134);(have HR0 := Aside0.mk hr0);(have HC0 := Aside0.mk hc0);clear hr0 hc0;(have HBW := Aside0.mk (Below.refl w.heap.size w));(have HW0 := Aside0.mk hB.size);(have HB := Aside0.mk hB);clear hB;(have H : (some (l0, 0, 0)) = some (r1, r2, r3) := h);clear h;(simp only [Option.some.injEq, Prod.mk.injEq] at H);(obtain ⟨rfl, rfl, rfl⟩ := H)
 go_enter Tryd.func89, Tryd.ntmps89
 (go_wp2_with (first | ((with_reducible refine gate_dst (N := 5) rfl ?_); refine box_event ?hg (N := 5) ?hd (cs := #[.slice A0 l0.length c0, .int .i64 0, .int .u64 0]) (t := 134) ?hr ?_; (case hd => rfl); (case hg => rfl); (case hr => first | (go_simp; done) | (go_simp; rfl)); intro gb175 hg w2 hbox hb; have n0_ := Aside0.mk (below_step HBW.out hb); have n1_ := Aside0.mk (below_step zq45 hb); have n2_ := Aside0.mk (hbox); have n3_ := Aside0.mk ((zq77 : w.heap.size ≤ gb175)); have n4_ := Aside0.mk ((Nat.le_trans HW0.out (zq77 : w.heap.size ≤ gb175) : w0.heap.size ≤ gb175)); clear HBW; clear HB; have HBW := n0_; have HB := n1_; have BK175 := n2_; have GW175 := n3_; have GE175 := n4_; clear n0_ n1_ n2_ n3_ n4_; clear hb hbox hg)));(go_ret);(exact ⟨_, rfl, (show IsS134 w0 _ gb175 l0 0 0 from ⟨_, _, by (with_reducible repeat (first | refine blk_drewN ?_ _ | refine blk_drew ?_ | refine blk_alloc ?_ _)); exact BK175.out, GE175.out, HR0.out⟩), by repeat (first | (with_reducible first | exact HB.out | apply below_alloc | apply pw_below_drewN | apply below_drew1 | refine below_set ?_ GE175.out) | exact HB.out), by repeat (first | (with_reducible first | exact HBW.out | apply below_alloc | apply pw_below_drewN | apply below_drew1 | refine below_set ?_ GW175.out) | exact HBW.out)⟩)

end Go.Proofs.YtalmeecdjhelkaaDoor.PFnDates
