-- Made by a program of this session (gprint.py) out of the kit's print of the translation and texts of my own. SLIM
import Derived.Test.YtalmeecdjhelkaaDoorPFnDatesx0
import Derived.Test.YtalmeecdjhelkaaDoorPFnDatesx1
import Derived.Test.YtalmeecdjhelkaaDoorPFnDatesx2
import Derived.Test.YtalmeecdjhelkaaDoorPFnDatesx3
import Derived.Test.YtalmeecdjhelkaaDoorPFnDatesx4
import Derived.Test.YtalmeecdjhelkaaDoorPFnDatesx5
namespace Go.Proofs.YtalmeecdjhelkaaDoor.PFnDates
open Go.RowKit Go.Proofs.YtalmeecdjhelkaaDoorW.PrintWords Go.Proofs.YtalmeecdjhelkaaDoorW.PrintLast Go.Proofs.YtalmeecdjhelkaaDoorW.PrintMore
set_option maxHeartbeats 64000000
set_option maxRecDepth 100000
attribute [local go_sem] max2_int min2_int max_two min_two max_three min_three max_four min_four   -- for this text's walks alone
set_option linter.unusedVariables false
set_option linter.unusedSimpArgs false

/-! ### spec_TooLate: function 21 -/
mutual
def spec_TooLate.j0 : Nat → List (S64) → List (S90) → Int → Bool → Option (List ByteArray × Int)
 | 0, _, _, _, _ => none
 | k + 1, x0, x1, x2, x18 => if x18 = true then (some (([] : List ByteArray), 1)) else ((spec_l14One.f k x0 x2).bind fun t126 => (if t126 = 0 then (spec_TooLate.l0 k x0 x1 x2 (([] : List ByteArray)) 0) else (some (([] : List ByteArray), t126))))
def spec_TooLate.l0 : Nat → List (S64) → List (S90) → Int → List ByteArray → Int → Option (List ByteArray × Int)
 | 0, _, _, _, _, _ => none
 | k + 1, x0, x1, x2, x9, x10 => if x10 < (x1.length : Int) then (if 0 ≤ x2 then (if x2 < (x0.length : Int) then (if 0 ≤ x10 then ((spec_l14Has.f k ((rd_T64 x0 x2).f1) ((rd_T90 x1 x10).f0)).bind fun t132 => (if t132 = true then ((spec_l00In.f ((rd_T64 x0 x2).f0) ((rd_T90 x1 x10).f1) ((rd_T90 x1 x10).f2)).bind fun t136 => (if t136 = true then (spec_TooLate.l0 k x0 x1 x2 x9 (wrap64 (x10 + 1))) else (if x9.length < 8796093022208 then (spec_TooLate.l0 k x0 x1 x2 (x9 ++ [(rd_T90 x1 x10).f0]) (wrap64 (x10 + 1))) else (none)))) else (spec_TooLate.l0 k x0 x1 x2 x9 (wrap64 (x10 + 1))))) else (none)) else (none)) else (none)) else (some (x9, 0))
end
def spec_TooLate.f (k : Nat) (l0 : List (S64)) (l1 : List (S90)) (a2 : Int) : Option (List ByteArray × Int) := (spec_l14Ok.f k l0).bind fun t124 => (if t124 = true then ((spec_l14Known.f k l1).bind fun t125 => (spec_TooLate.j0 k l0 l1 a2 (!t125))) else (spec_TooLate.j0 k l0 l1 a2 true))
theorem spec_TooLate.mono_l : ∀ k, (∀ y0 y1 y2 y3, LeO (spec_TooLate.j0 k y0 y1 y2 y3) (spec_TooLate.j0 (k + 1) y0 y1 y2 y3)) ∧ (∀ y0 y1 y2 y3 y4, LeO (spec_TooLate.l0 k y0 y1 y2 y3 y4) (spec_TooLate.l0 (k + 1) y0 y1 y2 y3 y4))
 | 0 => ⟨fun _ _ _ _ r h => by simp [spec_TooLate.j0] at h, fun _ _ _ _ _ r h => by simp [spec_TooLate.l0] at h⟩
 | k + 1 => by
  (obtain ⟨ih0, ih1⟩ := spec_TooLate.mono_l k);(refine ⟨?_, ?_⟩)
  ·intro y0 y1 y2 y3
   unfold spec_TooLate.j0
   repeat' first | with_reducible (first | exact ih0 _ _ _ _ | exact ih1 _ _ _ _ _ | exact spec_l14Has.mono _ _ _ | exact spec_l14Known.mono _ _ | exact spec_l14Ok.mono _ _ | exact spec_l14One.mono _ _ _ | exact LeO.refl _ | exact LeO.none _ | refine LeO.ite ?_ ?_ | refine LeO.bind ?_ (fun _ => ?_)) | exact ih0 _ _ _ _ | exact ih1 _ _ _ _ _ | exact spec_l14Has.mono _ _ _ | exact spec_l14Known.mono _ _ | exact spec_l14Ok.mono _ _ | exact spec_l14One.mono _ _ _ | exact LeO.none _ | refine LeO.ite ?_ ?_ | refine LeO.bind ?_ (fun _ => ?_)
  ·intro y0 y1 y2 y3 y4
   unfold spec_TooLate.l0
   repeat' first | with_reducible (first | exact ih0 _ _ _ _ | exact ih1 _ _ _ _ _ | exact spec_l14Has.mono _ _ _ | exact spec_l14Known.mono _ _ | exact spec_l14Ok.mono _ _ | exact spec_l14One.mono _ _ _ | exact LeO.refl _ | exact LeO.none _ | refine LeO.ite ?_ ?_ | refine LeO.bind ?_ (fun _ => ?_)) | exact ih0 _ _ _ _ | exact ih1 _ _ _ _ _ | exact spec_l14Has.mono _ _ _ | exact spec_l14Known.mono _ _ | exact spec_l14Ok.mono _ _ | exact spec_l14One.mono _ _ _ | exact LeO.none _ | refine LeO.ite ?_ ?_ | refine LeO.bind ?_ (fun _ => ?_)
theorem spec_TooLate.mono : ∀ a0 a1 a2 k, LeO (spec_TooLate.f k a0 a1 a2) (spec_TooLate.f (k + 1) a0 a1 a2) := by
 intro a0 a1 a2 k;(obtain ⟨ih0, ih1⟩ := spec_TooLate.mono_l k);(unfold spec_TooLate.f)
 repeat' first | with_reducible (first | exact ih0 _ _ _ _ | exact ih1 _ _ _ _ _ | exact spec_l14Has.mono _ _ _ | exact spec_l14Known.mono _ _ | exact spec_l14Ok.mono _ _ | exact spec_l14One.mono _ _ _ | exact LeO.refl _ | exact LeO.none _ | refine LeO.ite ?_ ?_ | refine LeO.bind ?_ (fun _ => ?_)) | exact ih0 _ _ _ _ | exact ih1 _ _ _ _ _ | exact spec_l14Has.mono _ _ _ | exact spec_l14Known.mono _ _ | exact spec_l14Ok.mono _ _ | exact spec_l14One.mono _ _ _ | exact LeO.none _ | refine LeO.ite ?_ ?_ | refine LeO.bind ?_ (fun _ => ?_)
def spec_TooLate.T10 : Bool × List (List Nat × List Nat) := (true, [([], []), ([], []), ([0, 1], [0, 1]), ([2], [2]), ([3], [3]), ([], []), ([], []), ([5, 6], [5, 6]), ([7], [7]), ([8], [8]), ([4, 9], [4, 9]), ([10, 10], [10]), ([11], [11]), ([11], [11]), ([12, 13, 11], [11, 12, 13]), ([14, 11], [11, 14]), ([15, 11], [11, 15]), ([11], [11]), ([11], [11]), ([17, 18, 11], [11, 17, 18]), ([19, 11], [11, 19]), ([20, 11], [11, 20]), ([11], [11]), ([11], [11]), ([22, 23, 11], [11, 22, 23]), ([24, 11], [11, 24]), ([25, 11], [11, 25]), ([16, 21, 26, 11, 11], [11, 16, 21, 26]), ([27, 11], [11, 27]), ([11, 28], [11, 28])])
def spec_TooLate.B10 : List Nat := [0, 0, 3, 7, 15, 0, 0, 96, 224, 480, 1023, 2047, 4095, 4095, 16383, 32767, 65535, 4095, 4095, 397311, 921599, 1970175, 4095, 4095, 12587007, 29364223, 62918655, 134217727, 268435455, 536870911]
theorem spec_TooLate.tab10 : rtab .any (opsOf Tryd.f21 10) = spec_TooLate.T10 := by kernel_rfl
theorem spec_TooLate.bits10 : waitsOk spec_TooLate.T10.2 spec_TooLate.B10 = true := by kernel_rfl
theorem spec_TooLate.calls (k : Nat) (A0 : Option Addr) (c0 : Nat) (l0 : List (S64)) (A1 : Option Addr) (c1 : Nat) (l1 : List (S90)) (a2 : Int) (r1 : List ByteArray) (r2 : Int) (w : World) (hr0 : Kd.C k64 w A0 l0.length l0) (hc0 : l0.length ≤ c0) (hr1 : Kd.C k90 w A1 l1.length l1) (hc1 : l1.length ≤ c1) (h : spec_TooLate.f k l0 l1 a2 = some (r1, r2)) :
  Calls Tryd.prog 21 #[.slice A0 l0.length c0, .slice A1 l1.length c1, .int .i64 a2] w fun e w' => ∃ v0_ : Value, e = .returned (.tuple #[v0_, .int .i64 r2]) ∧ Kd.R Kd.string 9 w' w.heap.size (fun _ => True) v0_ r1 ∧ Below w.heap.size w w' := by
 (have HR0 := Aside0.mk hr0);(have HC0 := Aside0.mk hc0);clear hr0 hc0;(have HR1 := Aside0.mk hr1);(have HC1 := Aside0.mk hc1);clear hr1 hc1;(have HB := Aside0.mk (Below.refl w.heap.size w));(have H : ((spec_l14Ok.f k l0).bind fun t124 => (if t124 = true then ((spec_l14Known.f k l1).bind fun t125 => (spec_TooLate.j0 k l0 l1 a2 (!t125))) else (spec_TooLate.j0 k l0 l1 a2 true))) = some (r1, r2) := h);clear h;(have HC4 := Aside0.mk H);clear H
 go_enter Tryd.func21, Tryd.ntmps21
 go_upto_region 1 with (fail)
 go_cut [18] (fun v18 wc => ∃ (kq : Nat) (x18_3 : Bool), v18 = .bool x18_3 ∧ Aside0 (spec_TooLate.j0 kq l0 l1 a2 x18_3 = some (r1, r2)) ∧ Aside0 (kq ≤ k) ∧ Aside0 (Below w.heap.size w wc))
 case first =>
  (have H := HC4.out);clear HC4;(replace H := Option.bind_eq_some_iff.mp H);(obtain ⟨t124, A50, H⟩ := H);(replace H : (if t124 = true then ((spec_l14Known.f k l1).bind fun t125 => (spec_TooLate.j0 k l0 l1 a2 (!t125))) else (spec_TooLate.j0 k l0 l1 a2 true)) = some (r1, r2) := H);(have A5 := Aside0.mk A50);clear A50;(by_cases c6 : t124 = true)
  ·subst c6
   (have H1 : ((spec_l14Known.f k l1).bind fun t125 => (spec_TooLate.j0 k l0 l1 a2 (!t125))) = some (r1, r2) := zq80);clear H;(have H := H1);clear H1;(replace H := Option.bind_eq_some_iff.mp H);(obtain ⟨t125, A70, H⟩ := H);(replace H : (spec_TooLate.j0 k l0 l1 a2 (!t125)) = some (r1, r2) := H);(have A7 := Aside0.mk A70);clear A70;(have H' := Aside0.mk H);clear H;(go_wp2_with (first | ((with_reducible refine gate_callee (f := 71) rfl ?_); refine goesL_ (some 12) rfl rfl Tryd.func71 (by kernel_rfl) rfl #[.slice A0 l0.length c0] rfl zq0 ?_; (with_reducible refine (spec_l14Ok.calls k _ _ l0 true _ ?side1 ?side2 A5.out).mono ?_); (case side1 => exact zq54); (case side2 => exact HC0.out); rintro e w8 ⟨rfl, hb⟩; refine ⟨_, rfl, ?_⟩; have n0_ := Aside0.mk (below_step zq45 hb); clear HB; have HB := n0_; clear n0_; (try clear hb); (try clear hb2); (try clear hk); (try clear hi)) | (go_at_call 72; (with_reducible refine (spec_l14Known.calls k _ _ l1 t125 _ ?side1 ?side2 A7.out).mono ?_); (case side1 => exact zq55); (case side2 => exact HC1.out); rintro e w9 ⟨rfl, hb⟩; have n0_ := Aside0.mk (below_step zq45 hb); clear HB; have HB := n0_; clear n0_; (try clear hb); (try clear hb2); (try clear hk); (try clear hi))))
   go_meet
   case rel => exact ⟨_, (!t125), zq28, H', ⟨zq26⟩, ⟨zq45⟩⟩
  ·replace c6 := Bool.eq_false_iff.mpr c6
   subst c6;(have H1 : (spec_TooLate.j0 k l0 l1 a2 true) = some (r1, r2) := zq79);clear H;(have H := H1);clear H1;(have H' := Aside0.mk H);clear H;(go_wp2_with (first | ((with_reducible refine gate_callee (f := 71) rfl ?_); refine goesL_ (some 12) rfl rfl Tryd.func71 (by kernel_rfl) rfl #[.slice A0 l0.length c0] rfl zq0 ?_; (with_reducible refine (spec_l14Ok.calls k _ _ l0 false _ ?side1 ?side2 A5.out).mono ?_); (case side1 => exact zq54); (case side2 => exact HC0.out); rintro e w10 ⟨rfl, hb⟩; refine ⟨_, rfl, ?_⟩; have n0_ := Aside0.mk (below_step zq45 hb); clear HB; have HB := n0_; clear n0_; (try clear hb); (try clear hb2); (try clear hk); (try clear hi))))
   go_meet
   case rel => exact ⟨_, (true), zq28, H', ⟨zq26⟩, ⟨zq45⟩⟩
 case rest =>
  clear HC4;(try clear c1);(try clear c2);(try clear p2);(try clear c6);(try clear c7);(obtain ⟨kq, x18_3, rfl, HA, HJ3, HB⟩ := hcut)
  cases kq with
  | zero => exact absurd HA.out (by simp [spec_TooLate.j0])
  | succ kj3 =>
   (have H := HA.out);clear HA;(simp only [spec_TooLate.j0] at H);(by_cases c11 : x18_3 = true)
   ·subst c11
    (have H1 : (some (([] : List ByteArray), 1)) = some (r1, r2) := zq80);clear H;(have H := H1);clear H1;(simp only [Option.some.injEq, Prod.mk.injEq] at H);(obtain ⟨rfl, rfl⟩ := H);(go_wp2);(go_ret2);(exact ⟨_, zq27, zq23, zq45⟩)
   ·replace c11 := Bool.eq_false_iff.mpr c11
    subst c11;(have H1 : ((spec_l14One.f kj3 l0 a2).bind fun t126 => (if t126 = 0 then (spec_TooLate.l0 kj3 l0 l1 a2 (([] : List ByteArray)) 0) else (some (([] : List ByteArray), t126)))) = some (r1, r2) := zq79);clear H;(have H := H1);clear H1;(replace H := Option.bind_eq_some_iff.mp H);(obtain ⟨t126, A120, H⟩ := H);(replace H : (if t126 = 0 then (spec_TooLate.l0 kj3 l0 l1 a2 (([] : List ByteArray)) 0) else (some (([] : List ByteArray), t126))) = some (r1, r2) := H);(have A12 := Aside0.mk A120);clear A120;(by_cases c13 : t126 = 0)
    ·rw [if_pos c13] at H
     (have c13b0 : (t126 == 0) = true := beq_iff_eq.mpr c13);(have c13b1 : (t126 != 0) = false := bne_eq_false_iff_eq.mpr c13);clear c13;(obtain ⟨y127, hy_⟩ : ∃ y_ : List ByteArray, y_ = (([] : List ByteArray)) := ⟨_, rfl⟩);(replace H : (spec_TooLate.l0 kj3 l0 l1 a2 y127 0) = some (r1, r2) := zq21);(have Ny127 := Aside0.mk hy_);clear hy_;(have H' := Aside0.mk H);clear H;(go_wp2_with (first | ((with_reducible refine gate_callee (f := 61) rfl ?_); refine goesL_ (some 21) rfl rfl Tryd.func61 (by kernel_rfl) rfl #[.slice A0 l0.length c0, .int .i64 a2] rfl zq0 ?_; (with_reducible refine (spec_l14One.calls kj3 _ _ l0 a2 t126 _ ?side1 ?side2 A12.out).mono ?_); (case side1 => exact zq54); (case side2 => exact HC0.out); rintro e w14 ⟨rfl, hb⟩; refine ⟨_, rfl, ?_⟩; have n0_ := Aside0.mk (below_step zq45 hb); clear HB; have HB := n0_; clear n0_; (try clear hb); (try clear hb2); (try clear hk); (try clear hi)) | ((with_reducible refine gate_dst (N := 25) rfl ?_); refine Kd.R_lit Kd.string _ 9 ?hg (N := 25) ?hd (xs := ([] : List ByteArray)) (inner := []) (ok := fun _ => True) (okp := fun _ => True) ?hr ?hp (fun _ hk => hk) trivial (Below.refl _ _) (Nat.le_refl _) (by simp) ?_; (case hd => rfl); (case hg => rfl); (case hr => first | (go_simp; done) | (go_simp; rfl)); (case hp => exact (Reps.none _ _)); intro v128 w15 ho16 hb hg_ hnew_; clear hg_ hnew_; (first | rw [← Ny127.out] at ho16 | (simp only [Int.reduceToNat] at ho16; rw [← Ny127.out] at ho16)); have n0_ := Aside0.mk (Kd.R_lower ho16 (below_size zq45)); have n1_ := Aside0.mk (below_step zq45 hb); clear HB; have HO129 := n0_; have HB := n1_; clear n0_ n1_; clear hb ho16)))
     go_loopg [9, 10] kj3 (fun kq v9 v10 w' => ∃ (x9_2 : List ByteArray) (x10_2 : Int), v10 = .int .i64 x10_2 ∧ Aside0 (spec_TooLate.l0 kq l0 l1 a2 x9_2 x10_2 = some (r1, r2)) ∧ Aside0 (kq ≤ kj3) ∧ Aside0 (Kd.R Kd.string 9 w' w.heap.size (fun _ => True) v9 x9_2) ∧ Aside0 (Below w.heap.size w w'))
     case atStart => exact ⟨(y127), (0), zq28, H', ⟨Nat.le_refl _⟩, ⟨zR HO129.out⟩, ⟨zq45⟩⟩
     case round =>
      clear H';(try clear c1);(try clear c2);(try clear p2);(try clear c6);(try clear c7);(try clear c11);(try clear c13);(try clear c13b0);(try clear c13b1);(try clear p2);(obtain ⟨x9_2, x10_2, rfl, HA, HK2, HO_9, HB⟩ := hrel)
      cases gk with
      | zero => exact absurd HA.out (by simp [spec_TooLate.l0])
      | succ k2 =>
       (have H := HA.out);clear HA;(simp only [spec_TooLate.l0] at H);(by_cases c17 : x10_2 < (l1.length : Int))
       ·rw [if_pos c17] at H
        (have c17b0 : decide (x10_2 < (l1.length : Int)) = true := decide_eq_true c17);clear c17;(by_cases c18 : 0 ≤ a2)
        ·rw [if_pos c18] at H
         (have c18b0 : decide (0 ≤ a2) = true := decide_eq_true c18);clear c18;(by_cases c19 : a2 < (l0.length : Int))
         ·rw [if_pos c19] at H
          (have c19b0 : decide (a2 < (l0.length : Int)) = true := decide_eq_true c19);clear c19;(by_cases c20 : 0 ≤ x10_2)
          ·rw [if_pos c20] at H
           (have c20b0 : decide (0 ≤ x10_2) = true := decide_eq_true c20);clear c20;(replace H := Option.bind_eq_some_iff.mp H);(obtain ⟨t132, A210, H⟩ := H);(replace H : (if t132 = true then ((spec_l00In.f ((rd_T64 l0 a2).f0) ((rd_T90 l1 x10_2).f1) ((rd_T90 l1 x10_2).f2)).bind fun t136 => (if t136 = true then (spec_TooLate.l0 k2 l0 l1 a2 x9_2 (wrap64 (x10_2 + 1))) else (if x9_2.length < 8796093022208 then (spec_TooLate.l0 k2 l0 l1 a2 (x9_2 ++ [(rd_T90 l1 x10_2).f0]) (wrap64 (x10_2 + 1))) else (none)))) else (spec_TooLate.l0 k2 l0 l1 a2 x9_2 (wrap64 (x10_2 + 1)))) = some (r1, r2) := H);(have A21 := Aside0.mk A210);clear A210;(by_cases c22 : t132 = true)
           ·subst c22
            (have H1 : ((spec_l00In.f ((rd_T64 l0 a2).f0) ((rd_T90 l1 x10_2).f1) ((rd_T90 l1 x10_2).f2)).bind fun t136 => (if t136 = true then (spec_TooLate.l0 k2 l0 l1 a2 x9_2 (wrap64 (x10_2 + 1))) else (if x9_2.length < 8796093022208 then (spec_TooLate.l0 k2 l0 l1 a2 (x9_2 ++ [(rd_T90 l1 x10_2).f0]) (wrap64 (x10_2 + 1))) else (none)))) = some (r1, r2) := zq80);clear H;(have H := H1);clear H1;(replace H := Option.bind_eq_some_iff.mp H);(obtain ⟨t136, A230, H⟩ := H);(replace H : (if t136 = true then (spec_TooLate.l0 k2 l0 l1 a2 x9_2 (wrap64 (x10_2 + 1))) else (if x9_2.length < 8796093022208 then (spec_TooLate.l0 k2 l0 l1 a2 (x9_2 ++ [(rd_T90 l1 x10_2).f0]) (wrap64 (x10_2 + 1))) else (none))) = some (r1, r2) := H);(have A23 := Aside0.mk A230);clear A230;(by_cases c24 : t136 = true)
            ·subst c24
             (have H1 : (spec_TooLate.l0 k2 l0 l1 a2 x9_2 (wrap64 (x10_2 + 1))) = some (r1, r2) := zq80);clear H;(have H := H1);clear H1;(have H' := Aside0.mk H);clear H;(try go_wp2);(have n0_ := Aside0.mk (Kd.R_drew HO_9.out));(have n1_ := Aside0.mk (below_drew1 HB.out));clear HO_9;clear HB;(have HO_9 := n0_);(have HB := n1_);clear n0_ n1_;(have p130 : 0 ≤ (a2 : Int) := of_decide_eq_true zq22);(have q130 : a2 < (l0.length : Int) := of_decide_eq_true zq22);(obtain ⟨ad130, A130_1, c130_1, e130, hx130_0, hx130_1, hl130_1, hi130_1⟩ := at_T64 HR0.out a2 p130 q130);(have hw130_1 := hx130_1);(have hw130_0 := hx130_0)
             cases e130
             (replace hx130_0 := (HB.out.cell (World.block_lt_of_cell? w _ hx130_0)).trans hx130_0);(replace hx130_1 := (HB.out.cell (World.block_lt_of_cell? w _ hx130_1)).trans hx130_1);(have HR130_1 := Aside0.mk hi130_1);(have HC130_1 := Aside0.mk hl130_1);clear hi130_1 hl130_1;(replace p130 := eq_true p130);(replace q130 := eq_true q130);(have p131 : 0 ≤ (x10_2 : Int) := of_decide_eq_true zq22);(have q131 : x10_2 < (l1.length : Int) := of_decide_eq_true zq22);(obtain ⟨ad131, e131, hx131_0, hx131_1, hx131_2⟩ := at_T90 HR1.out x10_2 p131 q131);(have hw131_2 := hx131_2);(have hw131_1 := hx131_1);(have hw131_0 := hx131_0)
             cases e131
             (replace hx131_0 := (HB.out.cell (World.block_lt_of_cell? w _ hx131_0)).trans hx131_0);(replace hx131_1 := (HB.out.cell (World.block_lt_of_cell? w _ hx131_1)).trans hx131_1);(replace hx131_2 := (HB.out.cell (World.block_lt_of_cell? w _ hx131_2)).trans hx131_2);(replace p131 := eq_true p131);(replace q131 := eq_true q131);(have p133 : 0 ≤ (a2 : Int) := of_decide_eq_true zq22);(have q133 : a2 < (l0.length : Int) := of_decide_eq_true zq22);(obtain ⟨ad133, A133_1, c133_1, e133, hx133_0, hx133_1, hl133_1, hi133_1⟩ := at_T64 HR0.out a2 p133 q133);(have hw133_1 := hx133_1);(have hw133_0 := hx133_0);(obtain rfl : ad130 = ad133 := (by injection e133));(replace hx133_0 := (HB.out.cell (World.block_lt_of_cell? w _ hx133_0)).trans hx133_0);(replace hx133_1 := (HB.out.cell (World.block_lt_of_cell? w _ hx133_1)).trans hx133_1);(have HR133_1 := Aside0.mk hi133_1);(have HC133_1 := Aside0.mk hl133_1);clear hi133_1 hl133_1;(replace p133 := eq_true p133);(replace q133 := eq_true q133);(have ea_ := Option.some.inj (hx130_1.symm.trans hx133_1))
             injection ea_ with ea_ en_ ec_
             subst ea_;subst ec_;clear en_;(have p134 : 0 ≤ (x10_2 : Int) := of_decide_eq_true zq22);(have q134 : x10_2 < (l1.length : Int) := of_decide_eq_true zq22);(obtain ⟨ad134, e134, hx134_0, hx134_1, hx134_2⟩ := at_T90 HR1.out x10_2 p134 q134);(have hw134_2 := hx134_2);(have hw134_1 := hx134_1);(have hw134_0 := hx134_0);(obtain rfl : ad131 = ad134 := (by injection e134));(replace hx134_0 := (HB.out.cell (World.block_lt_of_cell? w _ hx134_0)).trans hx134_0);(replace hx134_1 := (HB.out.cell (World.block_lt_of_cell? w _ hx134_1)).trans hx134_1);(replace hx134_2 := (HB.out.cell (World.block_lt_of_cell? w _ hx134_2)).trans hx134_2);(replace p134 := eq_true p134);(replace q134 := eq_true q134);(have p135 : 0 ≤ (x10_2 : Int) := of_decide_eq_true zq22);(have q135 : x10_2 < (l1.length : Int) := of_decide_eq_true zq22);(obtain ⟨ad135, e135, hx135_0, hx135_1, hx135_2⟩ := at_T90 HR1.out x10_2 p135 q135);(have hw135_2 := hx135_2);(have hw135_1 := hx135_1);(have hw135_0 := hx135_0);(obtain rfl : ad131 = ad135 := (by injection e135));(replace hx135_0 := (HB.out.cell (World.block_lt_of_cell? w _ hx135_0)).trans hx135_0);(replace hx135_1 := (HB.out.cell (World.block_lt_of_cell? w _ hx135_1)).trans hx135_1);(replace hx135_2 := (HB.out.cell (World.block_lt_of_cell? w _ hx135_2)).trans hx135_2);(replace p135 := eq_true p135);(replace q135 := eq_true q135);(refine start_ (n := 30) (S := fun w' => w'.cell? (ad130.add ((a2).toNat * 2)) = some (.int .i64 ((rd_T64 l0 a2).f0)) ∧ w'.cell? ⟨(ad130.add ((a2).toNat * 2)).block, (ad130.add ((a2).toNat * 2)).off + 1, none⟩ = some (.slice A130_1 ((rd_T64 l0 a2).f1).length c130_1) ∧ w'.cell? (ad131.add ((x10_2).toNat * 3)) = some (.string ((rd_T90 l1 x10_2).f0)) ∧ w'.cell? ⟨(ad131.add ((x10_2).toNat * 3)).block, (ad131.add ((x10_2).toNat * 3)).off + 1, none⟩ = some (.int .i64 ((rd_T90 l1 x10_2).f1)) ∧ w'.cell? ⟨(ad131.add ((x10_2).toNat * 3)).block, (ad131.add ((x10_2).toNat * 3)).off + 2, none⟩ = some (.int .i64 ((rd_T90 l1 x10_2).f2)) ∧ w'.cell? (ad130.add ((a2).toNat * 2)) = some (.int .i64 ((rd_T64 l0 a2).f0)) ∧ w'.cell? ⟨(ad130.add ((a2).toNat * 2)).block, (ad130.add ((a2).toNat * 2)).off + 1, none⟩ = some (.slice A130_1 ((rd_T64 l0 a2).f1).length c130_1) ∧ w'.cell? (ad131.add ((x10_2).toNat * 3)) = some (.string ((rd_T90 l1 x10_2).f0)) ∧ w'.cell? ⟨(ad131.add ((x10_2).toNat * 3)).block, (ad131.add ((x10_2).toNat * 3)).off + 1, none⟩ = some (.int .i64 ((rd_T90 l1 x10_2).f1)) ∧ w'.cell? ⟨(ad131.add ((x10_2).toNat * 3)).block, (ad131.add ((x10_2).toNat * 3)).off + 2, none⟩ = some (.int .i64 ((rd_T90 l1 x10_2).f2)) ∧ w'.cell? (ad131.add ((x10_2).toNat * 3)) = some (.string ((rd_T90 l1 x10_2).f0)) ∧ w'.cell? ⟨(ad131.add ((x10_2).toNat * 3)).block, (ad131.add ((x10_2).toNat * 3)).off + 1, none⟩ = some (.int .i64 ((rd_T90 l1 x10_2).f1)) ∧ w'.cell? ⟨(ad131.add ((x10_2).toNat * 3)).block, (ad131.add ((x10_2).toNat * 3)).off + 2, none⟩ = some (.int .i64 ((rd_T90 l1 x10_2).f2))) (ds := []) #[false,false,false,false,false,false,false,false,false,false,false,false,false,false,false,false,false,false,false,false,false,false,false,false,false,false,false,false,false,false] (by kernel_rfl) rfl rfl ⟨((HB.out.cell (World.block_lt_of_cell? w _ hw130_0)).trans hw130_0), ((HB.out.cell (World.block_lt_of_cell? w _ hw130_1)).trans hw130_1), ((HB.out.cell (World.block_lt_of_cell? w _ hw131_0)).trans hw131_0), ((HB.out.cell (World.block_lt_of_cell? w _ hw131_1)).trans hw131_1), ((HB.out.cell (World.block_lt_of_cell? w _ hw131_2)).trans hw131_2), ((HB.out.cell (World.block_lt_of_cell? w _ hw133_0)).trans hw133_0), ((HB.out.cell (World.block_lt_of_cell? w _ hw133_1)).trans hw133_1), ((HB.out.cell (World.block_lt_of_cell? w _ hw134_0)).trans hw134_0), ((HB.out.cell (World.block_lt_of_cell? w _ hw134_1)).trans hw134_1), ((HB.out.cell (World.block_lt_of_cell? w _ hw134_2)).trans hw134_2), ((HB.out.cell (World.block_lt_of_cell? w _ hw135_0)).trans hw135_0), ((HB.out.cell (World.block_lt_of_cell? w _ hw135_1)).trans hw135_1), ((HB.out.cell (World.block_lt_of_cell? w _ hw135_2)).trans hw135_2)⟩ (fun hHeld => ?_); refine with_tabW spec_TooLate.tab10 spec_TooLate.bits10 (fun HT_ HW_ => ?_));(generalize wr.drew = w25 at HO_9 HB HR130_1 HR133_1 hx130_0 hx130_1 hx131_0 hx131_1 hx131_2 hx133_0 hx133_1 hx134_0 hx134_1 hx134_2 hx135_0 hx135_1 hx135_2 hHeld ⊢);(refine pI (i := 0) (N := some 32) (v := ?_) (a' := ?_) (mB 30 1) rfl rfl HT_.out (by kernel_rfl) (fun _ _ _ h => h) rfl ?_ ?_ ?_);rotate_left
             ·intro w'
              go_simp;(with_reducible rfl)
             rotate_left
             ·simp only [Act.put, sA]
              rfl
             (refine pI (i := 1) (N := some 33) (v := ?_) (a' := ?_) (mB 30 3) rfl rfl HT_.out (by kernel_rfl) (fun _ _ _ h => h) rfl ?_ ?_ ?_);rotate_left
             ·intro w'
              go_simp;(with_reducible rfl)
             rotate_left
             ·simp only [Act.put, sA]
              rfl
             (refine pI (i := 2) (N := some 34) (v := ?_) (a' := ?_) (mB 30 7) rfl rfl HT_.out (by kernel_rfl) (fun _ _ _ h => h) rfl ?_ ?_ ?_);rotate_left
             ·intro w'
              go_simp;(with_reducible rfl)
             rotate_left
             ·simp only [Act.put, sA]
              rfl
             (refine pI (i := 3) (N := some 35) (v := ?_) (a' := ?_) (mB 30 15) rfl rfl HT_.out (by kernel_rfl) (fun _ _ _ h => h) rfl ?_ ?_ ?_);rotate_left
             ·intro w'
              go_simp;(with_reducible rfl)
             rotate_left
             ·simp only [Act.put, sA]
              rfl
             (refine pI (i := 5) (N := some 37) (v := ?_) (a' := ?_) (mB 30 47) rfl rfl HT_.out (by kernel_rfl) (fun _ _ _ h => h) rfl ?_ ?_ ?_);rotate_left
             ·intro w'
              go_simp;(with_reducible rfl)
             rotate_left
             ·simp only [Act.put, sA]
              rfl
             (refine pI (i := 6) (N := some 38) (v := ?_) (a' := ?_) (mB 30 111) rfl rfl HT_.out (by kernel_rfl) (fun _ _ _ h => h) rfl ?_ ?_ ?_);rotate_left
             ·intro w'
              go_simp;(with_reducible rfl)
             rotate_left
             ·simp only [Act.put, sA]
              rfl
             (refine pI (i := 7) (N := some 39) (v := ?_) (a' := ?_) (mB 30 239) rfl rfl HT_.out (by kernel_rfl) (fun _ _ _ h => h) rfl ?_ ?_ ?_);rotate_left
             ·intro w'
              go_simp;(with_reducible rfl)
             rotate_left
             ·simp only [Act.put, sA]
              rfl
             (refine pI (i := 8) (N := some 40) (v := ?_) (a' := ?_) (mB 30 495) rfl rfl HT_.out (by kernel_rfl) (fun _ _ _ h => h) rfl ?_ ?_ ?_);rotate_left
             ·intro w'
              go_simp;(with_reducible rfl)
             rotate_left
             ·simp only [Act.put, sA]
              rfl
             (refine tI (i := 4) (N := some 36) (v := ?_) (a' := ?_) (mB 30 511) rfl rfl HT_.out HW_.out (by kernel_rfl) (fun _ _ _ h => h) rfl ?_ hHeld ?_ ?_);rotate_left
             ·rintro w' ⟨s0, s1, s2, s3, s4, s5, s6, s7, s8, s9, s10, s11, s12⟩
              go_simp;(with_reducible rfl)
             rotate_left
             ·simp only [Act.put, sA]
              rfl
             (refine tI (i := 9) (N := some 41) (v := ?_) (a' := ?_) (mB 30 1023) rfl rfl HT_.out HW_.out (by kernel_rfl) (fun _ _ _ h => h) rfl ?_ hHeld ?_ ?_);rotate_left
             ·rintro w' ⟨s0, s1, s2, s3, s4, s5, s6, s7, s8, s9, s10, s11, s12⟩
              go_simp;(with_reducible rfl)
             rotate_left
             ·simp only [Act.put, sA]
              rfl
             (refine one_ (i := 10) (N := some 42) (mB 30 2047) rfl rfl (one_of HT_.out (by kernel_rfl)) (by decide) (fun K hK => ?_));(refine goes_ Tryd.func73 (by kernel_rfl) rfl #[.slice A130_1 ((rd_T64 l0 a2).f1).length c130_1, .string ((rd_T90 l1 x10_2).f0)] (by rfl) rfl rfl zq0 ?_);(with_reducible refine (spec_l14Has.calls k2 _ _ ((rd_T64 l0 a2).f1) ((rd_T90 l1 x10_2).f0) true _ ?side1 ?side2 A21.out).mono ?_);((case side1 => exact zq57));((case side2 => exact HC130_1.out));(rintro e w' ⟨rfl, ⟨nd, rfl⟩⟩);(refine ⟨_, rfl, ?_⟩);(refine hK.out _ _ ⟨((HB.out.cell (World.block_lt_of_cell? w _ hw130_0)).trans hw130_0), ((HB.out.cell (World.block_lt_of_cell? w _ hw130_1)).trans hw130_1), ((HB.out.cell (World.block_lt_of_cell? w _ hw131_0)).trans hw131_0), ((HB.out.cell (World.block_lt_of_cell? w _ hw131_1)).trans hw131_1), ((HB.out.cell (World.block_lt_of_cell? w _ hw131_2)).trans hw131_2), ((HB.out.cell (World.block_lt_of_cell? w _ hw133_0)).trans hw133_0), ((HB.out.cell (World.block_lt_of_cell? w _ hw133_1)).trans hw133_1), ((HB.out.cell (World.block_lt_of_cell? w _ hw134_0)).trans hw134_0), ((HB.out.cell (World.block_lt_of_cell? w _ hw134_1)).trans hw134_1), ((HB.out.cell (World.block_lt_of_cell? w _ hw134_2)).trans hw134_2), ((HB.out.cell (World.block_lt_of_cell? w _ hw135_0)).trans hw135_0), ((HB.out.cell (World.block_lt_of_cell? w _ hw135_1)).trans hw135_1), ((HB.out.cell (World.block_lt_of_cell? w _ hw135_2)).trans hw135_2)⟩ (fun hHeld => ?_));clear hK K;(refine norm_ (a' := ?_) ?_ ?_);rotate_left
             ·show Act.put _ (some 42) _ = _
              (simp only [Act.put, sA]);rfl
             (refine pI (i := 11) (N := some 43) (v := ?_) (a' := ?_) (mB 30 4095) rfl rfl HT_.out (by kernel_rfl) (fun _ _ _ h => h) rfl ?_ ?_ ?_);rotate_left
             ·intro w'
              go_simp;(with_reducible rfl)
             rotate_left
             ·simp only [Act.put, sA]
              rfl
             (refine pI (i := 12) (N := some 44) (v := ?_) (a' := ?_) (mB 30 8191) rfl rfl HT_.out (by kernel_rfl) (fun _ _ _ h => h) rfl ?_ ?_ ?_);rotate_left
             ·intro w'
              go_simp;(with_reducible rfl)
             rotate_left
             ·simp only [Act.put, sA]
              rfl
             (refine pI (i := 13) (N := some 45) (v := ?_) (a' := ?_) (mB 30 16383) rfl rfl HT_.out (by kernel_rfl) (fun _ _ _ h => h) rfl ?_ ?_ ?_);rotate_left
             ·intro w'
              go_simp;(with_reducible rfl)
             rotate_left
             ·simp only [Act.put, sA]
              rfl
             (refine pI (i := 14) (N := some 46) (v := ?_) (a' := ?_) (mB 30 32767) rfl rfl HT_.out (by kernel_rfl) (fun _ _ _ h => h) rfl ?_ ?_ ?_);rotate_left
             ·intro w'
              go_simp;(with_reducible rfl)
             rotate_left
             ·simp only [Act.put, sA]
              rfl
             (refine pI (i := 15) (N := some 47) (v := ?_) (a' := ?_) (mB 30 65535) rfl rfl HT_.out (by kernel_rfl) (fun _ _ _ h => h) rfl ?_ ?_ ?_);rotate_left
             ·intro w'
              go_simp;(with_reducible rfl)
             rotate_left
             ·simp only [Act.put, sA]
              rfl
             (refine pI (i := 17) (N := some 49) (v := ?_) (a' := ?_) (mB 30 196607) rfl rfl HT_.out (by kernel_rfl) (fun _ _ _ h => h) rfl ?_ ?_ ?_);rotate_left
             ·intro w'
              go_simp;(with_reducible rfl)
             rotate_left
             ·simp only [Act.put, sA]
              rfl
             (refine pI (i := 18) (N := some 50) (v := ?_) (a' := ?_) (mB 30 458751) rfl rfl HT_.out (by kernel_rfl) (fun _ _ _ h => h) rfl ?_ ?_ ?_);rotate_left
             ·intro w'
              go_simp;(with_reducible rfl)
             rotate_left
             ·simp only [Act.put, sA]
              rfl
             (refine pI (i := 19) (N := some 51) (v := ?_) (a' := ?_) (mB 30 983039) rfl rfl HT_.out (by kernel_rfl) (fun _ _ _ h => h) rfl ?_ ?_ ?_);rotate_left
             ·intro w'
              go_simp;(with_reducible rfl)
             rotate_left
             ·simp only [Act.put, sA]
              rfl
             (refine pI (i := 20) (N := some 52) (v := ?_) (a' := ?_) (mB 30 2031615) rfl rfl HT_.out (by kernel_rfl) (fun _ _ _ h => h) rfl ?_ ?_ ?_);rotate_left
             ·intro w'
              go_simp;(with_reducible rfl)
             rotate_left
             ·simp only [Act.put, sA]
              rfl
             (refine pI (i := 22) (N := some 54) (v := ?_) (a' := ?_) (mB 30 6225919) rfl rfl HT_.out (by kernel_rfl) (fun _ _ _ h => h) rfl ?_ ?_ ?_);rotate_left
             ·intro w'
              go_simp;(with_reducible rfl)
             rotate_left
             ·simp only [Act.put, sA]
              rfl
             (refine pI (i := 23) (N := some 55) (v := ?_) (a' := ?_) (mB 30 14614527) rfl rfl HT_.out (by kernel_rfl) (fun _ _ _ h => h) rfl ?_ ?_ ?_);rotate_left
             ·intro w'
              go_simp;(with_reducible rfl)
             rotate_left
             ·simp only [Act.put, sA]
              rfl
             (refine pI (i := 24) (N := some 56) (v := ?_) (a' := ?_) (mB 30 31391743) rfl rfl HT_.out (by kernel_rfl) (fun _ _ _ h => h) rfl ?_ ?_ ?_);rotate_left
             ·intro w'
              go_simp;(with_reducible rfl)
             rotate_left
             ·simp only [Act.put, sA]
              rfl
             (refine pI (i := 25) (N := some 57) (v := ?_) (a' := ?_) (mB 30 64946175) rfl rfl HT_.out (by kernel_rfl) (fun _ _ _ h => h) rfl ?_ ?_ ?_);rotate_left
             ·intro w'
              go_simp;(with_reducible rfl)
             rotate_left
             ·simp only [Act.put, sA]
              rfl
             (refine tI (i := 16) (N := some 48) (v := ?_) (a' := ?_) (mB 30 65011711) rfl rfl HT_.out HW_.out (by kernel_rfl) (fun _ _ _ h => h) rfl ?_ hHeld ?_ ?_);rotate_left
             ·rintro w' ⟨s0, s1, s2, s3, s4, s5, s6, s7, s8, s9, s10, s11, s12⟩
              go_simp;(with_reducible rfl)
             rotate_left
             ·simp only [Act.put, sA]
              rfl
             (refine tI (i := 21) (N := some 53) (v := ?_) (a' := ?_) (mB 30 67108863) rfl rfl HT_.out HW_.out (by kernel_rfl) (fun _ _ _ h => h) rfl ?_ hHeld ?_ ?_);rotate_left
             ·rintro w' ⟨s0, s1, s2, s3, s4, s5, s6, s7, s8, s9, s10, s11, s12⟩
              go_simp;(with_reducible rfl)
             rotate_left
             ·simp only [Act.put, sA]
              rfl
             (refine tI (i := 26) (N := some 58) (v := ?_) (a' := ?_) (mB 30 134217727) rfl rfl HT_.out HW_.out (by kernel_rfl) (fun _ _ _ h => h) rfl ?_ hHeld ?_ ?_);rotate_left
             ·rintro w' ⟨s0, s1, s2, s3, s4, s5, s6, s7, s8, s9, s10, s11, s12⟩
              go_simp;(with_reducible rfl)
             rotate_left
             ·simp only [Act.put, sA]
              rfl
             (refine one_ (i := 27) (N := some 59) (mB 30 268435455) rfl rfl (one_of HT_.out (by kernel_rfl)) (by decide) (fun K hK => ?_));(refine goes_ Tryd.func74 (by kernel_rfl) rfl #[.int .i64 ((rd_T64 l0 a2).f0), .int .i64 ((rd_T90 l1 x10_2).f1), .int .i64 ((rd_T90 l1 x10_2).f2)] (by rfl) rfl rfl zq0 ?_);(with_reducible refine (spec_l00In.calls ((rd_T64 l0 a2).f0) ((rd_T90 l1 x10_2).f1) ((rd_T90 l1 x10_2).f2) true _ A23.out).mono ?_);(rintro e w' ⟨rfl, ⟨nd, rfl⟩⟩);(refine ⟨_, rfl, ?_⟩);(refine hK.out _ _ ⟨((HB.out.cell (World.block_lt_of_cell? w _ hw130_0)).trans hw130_0), ((HB.out.cell (World.block_lt_of_cell? w _ hw130_1)).trans hw130_1), ((HB.out.cell (World.block_lt_of_cell? w _ hw131_0)).trans hw131_0), ((HB.out.cell (World.block_lt_of_cell? w _ hw131_1)).trans hw131_1), ((HB.out.cell (World.block_lt_of_cell? w _ hw131_2)).trans hw131_2), ((HB.out.cell (World.block_lt_of_cell? w _ hw133_0)).trans hw133_0), ((HB.out.cell (World.block_lt_of_cell? w _ hw133_1)).trans hw133_1), ((HB.out.cell (World.block_lt_of_cell? w _ hw134_0)).trans hw134_0), ((HB.out.cell (World.block_lt_of_cell? w _ hw134_1)).trans hw134_1), ((HB.out.cell (World.block_lt_of_cell? w _ hw134_2)).trans hw134_2), ((HB.out.cell (World.block_lt_of_cell? w _ hw135_0)).trans hw135_0), ((HB.out.cell (World.block_lt_of_cell? w _ hw135_1)).trans hw135_1), ((HB.out.cell (World.block_lt_of_cell? w _ hw135_2)).trans hw135_2)⟩ (fun hHeld => ?_));clear hK K;(refine norm_ (a' := ?_) ?_ ?_);rotate_left
             ·show Act.put _ (some 59) _ = _
              (simp only [Act.put, sA]);rfl
             (refine pI (i := 28) (N := some 60) (v := ?_) (a' := ?_) (mB 30 536870911) rfl rfl HT_.out (by kernel_rfl) (fun _ _ _ h => h) rfl ?_ ?_ ?_);rotate_left
             ·intro w'
              go_simp;(with_reducible rfl)
             rotate_left
             ·simp only [Act.put, sA]
              rfl
             (refine pI (i := 29) (N := some 61) (v := ?_) (a' := ?_) (mB 30 1073741823) rfl rfl HT_.out (by kernel_rfl) (fun _ _ _ h => h) rfl ?_ ?_ ?_);rotate_left
             ·intro w'
              go_simp;(with_reducible rfl)
             rotate_left
             ·simp only [Act.put, sA]
              rfl
             (refine done_ (done_of HT_.out (by kernel_rfl)) ?_);(try go_wp2);(go_roundg k2)
             case measure => have := HJ3.out; have := HK2.out; omega
             case rel => exact ⟨(x9_2), (wrap64 (x10_2 + 1)), zq28, H', ⟨zq32⟩, ⟨zR HO_9.out⟩, ⟨zq45⟩⟩
            ·replace c24 := Bool.eq_false_iff.mpr c24
             subst c24;(have H1 : (if x9_2.length < 8796093022208 then (spec_TooLate.l0 k2 l0 l1 a2 (x9_2 ++ [(rd_T90 l1 x10_2).f0]) (wrap64 (x10_2 + 1))) else (none)) = some (r1, r2) := zq79);clear H;(have H := H1);clear H1;(by_cases c26 : x9_2.length < 8796093022208)
             ·rw [if_pos c26] at H
              (have LMc26 := Aside0.mk c26);clear c26;(obtain ⟨y138, hy_⟩ : ∃ y_ : List ByteArray, y_ = (x9_2 ++ [(rd_T90 l1 x10_2).f0]) := ⟨_, rfl⟩);(replace H : (spec_TooLate.l0 k2 l0 l1 a2 y138 (wrap64 (x10_2 + 1))) = some (r1, r2) := zq21);(have Ny138 := Aside0.mk hy_);clear hy_;(have H' := Aside0.mk H);clear H;(try go_wp2);(have n0_ := Aside0.mk (Kd.R_drew HO_9.out));(have n1_ := Aside0.mk (below_drew1 HB.out));clear HO_9;clear HB;(have HO_9 := n0_);(have HB := n1_);clear n0_ n1_;(have p130 : 0 ≤ (a2 : Int) := of_decide_eq_true zq22);(have q130 : a2 < (l0.length : Int) := of_decide_eq_true zq22);(obtain ⟨ad130, A130_1, c130_1, e130, hx130_0, hx130_1, hl130_1, hi130_1⟩ := at_T64 HR0.out a2 p130 q130);(have hw130_1 := hx130_1);(have hw130_0 := hx130_0)
              cases e130
              (replace hx130_0 := (HB.out.cell (World.block_lt_of_cell? w _ hx130_0)).trans hx130_0);(replace hx130_1 := (HB.out.cell (World.block_lt_of_cell? w _ hx130_1)).trans hx130_1);(have HR130_1 := Aside0.mk hi130_1);(have HC130_1 := Aside0.mk hl130_1);clear hi130_1 hl130_1;(replace p130 := eq_true p130);(replace q130 := eq_true q130);(have p131 : 0 ≤ (x10_2 : Int) := of_decide_eq_true zq22);(have q131 : x10_2 < (l1.length : Int) := of_decide_eq_true zq22);(obtain ⟨ad131, e131, hx131_0, hx131_1, hx131_2⟩ := at_T90 HR1.out x10_2 p131 q131);(have hw131_2 := hx131_2);(have hw131_1 := hx131_1);(have hw131_0 := hx131_0)
              cases e131
              (replace hx131_0 := (HB.out.cell (World.block_lt_of_cell? w _ hx131_0)).trans hx131_0);(replace hx131_1 := (HB.out.cell (World.block_lt_of_cell? w _ hx131_1)).trans hx131_1);(replace hx131_2 := (HB.out.cell (World.block_lt_of_cell? w _ hx131_2)).trans hx131_2);(replace p131 := eq_true p131);(replace q131 := eq_true q131);(have p133 : 0 ≤ (a2 : Int) := of_decide_eq_true zq22);(have q133 : a2 < (l0.length : Int) := of_decide_eq_true zq22);(obtain ⟨ad133, A133_1, c133_1, e133, hx133_0, hx133_1, hl133_1, hi133_1⟩ := at_T64 HR0.out a2 p133 q133);(have hw133_1 := hx133_1);(have hw133_0 := hx133_0);(obtain rfl : ad130 = ad133 := (by injection e133));(replace hx133_0 := (HB.out.cell (World.block_lt_of_cell? w _ hx133_0)).trans hx133_0);(replace hx133_1 := (HB.out.cell (World.block_lt_of_cell? w _ hx133_1)).trans hx133_1);(have HR133_1 := Aside0.mk hi133_1);(have HC133_1 := Aside0.mk hl133_1);clear hi133_1 hl133_1;(replace p133 := eq_true p133);(replace q133 := eq_true q133);(have ea_ := Option.some.inj (hx130_1.symm.trans hx133_1))
              injection ea_ with ea_ en_ ec_
              subst ea_;subst ec_;clear en_;(have p134 : 0 ≤ (x10_2 : Int) := of_decide_eq_true zq22);(have q134 : x10_2 < (l1.length : Int) := of_decide_eq_true zq22);(obtain ⟨ad134, e134, hx134_0, hx134_1, hx134_2⟩ := at_T90 HR1.out x10_2 p134 q134);(have hw134_2 := hx134_2);(have hw134_1 := hx134_1);(have hw134_0 := hx134_0);(obtain rfl : ad131 = ad134 := (by injection e134));(replace hx134_0 := (HB.out.cell (World.block_lt_of_cell? w _ hx134_0)).trans hx134_0);(replace hx134_1 := (HB.out.cell (World.block_lt_of_cell? w _ hx134_1)).trans hx134_1);(replace hx134_2 := (HB.out.cell (World.block_lt_of_cell? w _ hx134_2)).trans hx134_2);(replace p134 := eq_true p134);(replace q134 := eq_true q134);(have p135 : 0 ≤ (x10_2 : Int) := of_decide_eq_true zq22);(have q135 : x10_2 < (l1.length : Int) := of_decide_eq_true zq22);(obtain ⟨ad135, e135, hx135_0, hx135_1, hx135_2⟩ := at_T90 HR1.out x10_2 p135 q135);(have hw135_2 := hx135_2);(have hw135_1 := hx135_1);(have hw135_0 := hx135_0);(obtain rfl : ad131 = ad135 := (by injection e135));(replace hx135_0 := (HB.out.cell (World.block_lt_of_cell? w _ hx135_0)).trans hx135_0);(replace hx135_1 := (HB.out.cell (World.block_lt_of_cell? w _ hx135_1)).trans hx135_1);(replace hx135_2 := (HB.out.cell (World.block_lt_of_cell? w _ hx135_2)).trans hx135_2);(replace p135 := eq_true p135);(replace q135 := eq_true q135);(refine start_ (n := 30) (S := fun w' => w'.cell? (ad130.add ((a2).toNat * 2)) = some (.int .i64 ((rd_T64 l0 a2).f0)) ∧ w'.cell? ⟨(ad130.add ((a2).toNat * 2)).block, (ad130.add ((a2).toNat * 2)).off + 1, none⟩ = some (.slice A130_1 ((rd_T64 l0 a2).f1).length c130_1) ∧ w'.cell? (ad131.add ((x10_2).toNat * 3)) = some (.string ((rd_T90 l1 x10_2).f0)) ∧ w'.cell? ⟨(ad131.add ((x10_2).toNat * 3)).block, (ad131.add ((x10_2).toNat * 3)).off + 1, none⟩ = some (.int .i64 ((rd_T90 l1 x10_2).f1)) ∧ w'.cell? ⟨(ad131.add ((x10_2).toNat * 3)).block, (ad131.add ((x10_2).toNat * 3)).off + 2, none⟩ = some (.int .i64 ((rd_T90 l1 x10_2).f2)) ∧ w'.cell? (ad130.add ((a2).toNat * 2)) = some (.int .i64 ((rd_T64 l0 a2).f0)) ∧ w'.cell? ⟨(ad130.add ((a2).toNat * 2)).block, (ad130.add ((a2).toNat * 2)).off + 1, none⟩ = some (.slice A130_1 ((rd_T64 l0 a2).f1).length c130_1) ∧ w'.cell? (ad131.add ((x10_2).toNat * 3)) = some (.string ((rd_T90 l1 x10_2).f0)) ∧ w'.cell? ⟨(ad131.add ((x10_2).toNat * 3)).block, (ad131.add ((x10_2).toNat * 3)).off + 1, none⟩ = some (.int .i64 ((rd_T90 l1 x10_2).f1)) ∧ w'.cell? ⟨(ad131.add ((x10_2).toNat * 3)).block, (ad131.add ((x10_2).toNat * 3)).off + 2, none⟩ = some (.int .i64 ((rd_T90 l1 x10_2).f2)) ∧ w'.cell? (ad131.add ((x10_2).toNat * 3)) = some (.string ((rd_T90 l1 x10_2).f0)) ∧ w'.cell? ⟨(ad131.add ((x10_2).toNat * 3)).block, (ad131.add ((x10_2).toNat * 3)).off + 1, none⟩ = some (.int .i64 ((rd_T90 l1 x10_2).f1)) ∧ w'.cell? ⟨(ad131.add ((x10_2).toNat * 3)).block, (ad131.add ((x10_2).toNat * 3)).off + 2, none⟩ = some (.int .i64 ((rd_T90 l1 x10_2).f2))) (ds := []) #[false,false,false,false,false,false,false,false,false,false,false,false,false,false,false,false,false,false,false,false,false,false,false,false,false,false,false,false,false,false] (by kernel_rfl) rfl rfl ⟨((HB.out.cell (World.block_lt_of_cell? w _ hw130_0)).trans hw130_0), ((HB.out.cell (World.block_lt_of_cell? w _ hw130_1)).trans hw130_1), ((HB.out.cell (World.block_lt_of_cell? w _ hw131_0)).trans hw131_0), ((HB.out.cell (World.block_lt_of_cell? w _ hw131_1)).trans hw131_1), ((HB.out.cell (World.block_lt_of_cell? w _ hw131_2)).trans hw131_2), ((HB.out.cell (World.block_lt_of_cell? w _ hw133_0)).trans hw133_0), ((HB.out.cell (World.block_lt_of_cell? w _ hw133_1)).trans hw133_1), ((HB.out.cell (World.block_lt_of_cell? w _ hw134_0)).trans hw134_0), ((HB.out.cell (World.block_lt_of_cell? w _ hw134_1)).trans hw134_1), ((HB.out.cell (World.block_lt_of_cell? w _ hw134_2)).trans hw134_2), ((HB.out.cell (World.block_lt_of_cell? w _ hw135_0)).trans hw135_0), ((HB.out.cell (World.block_lt_of_cell? w _ hw135_1)).trans hw135_1), ((HB.out.cell (World.block_lt_of_cell? w _ hw135_2)).trans hw135_2)⟩ (fun hHeld => ?_); refine with_tabW spec_TooLate.tab10 spec_TooLate.bits10 (fun HT_ HW_ => ?_));(generalize wr.drew = w27 at HO_9 HB HR130_1 HR133_1 hx130_0 hx130_1 hx131_0 hx131_1 hx131_2 hx133_0 hx133_1 hx134_0 hx134_1 hx134_2 hx135_0 hx135_1 hx135_2 hHeld ⊢);(refine pI (i := 0) (N := some 32) (v := ?_) (a' := ?_) (mB 30 1) rfl rfl HT_.out (by kernel_rfl) (fun _ _ _ h => h) rfl ?_ ?_ ?_);rotate_left
              ·intro w'
               go_simp;(with_reducible rfl)
              rotate_left
              ·simp only [Act.put, sA]
               rfl
              (refine pI (i := 1) (N := some 33) (v := ?_) (a' := ?_) (mB 30 3) rfl rfl HT_.out (by kernel_rfl) (fun _ _ _ h => h) rfl ?_ ?_ ?_);rotate_left
              ·intro w'
               go_simp;(with_reducible rfl)
              rotate_left
              ·simp only [Act.put, sA]
               rfl
              (refine pI (i := 2) (N := some 34) (v := ?_) (a' := ?_) (mB 30 7) rfl rfl HT_.out (by kernel_rfl) (fun _ _ _ h => h) rfl ?_ ?_ ?_);rotate_left
              ·intro w'
               go_simp;(with_reducible rfl)
              rotate_left
              ·simp only [Act.put, sA]
               rfl
              (refine pI (i := 3) (N := some 35) (v := ?_) (a' := ?_) (mB 30 15) rfl rfl HT_.out (by kernel_rfl) (fun _ _ _ h => h) rfl ?_ ?_ ?_);rotate_left
              ·intro w'
               go_simp;(with_reducible rfl)
              rotate_left
              ·simp only [Act.put, sA]
               rfl
              (refine pI (i := 5) (N := some 37) (v := ?_) (a' := ?_) (mB 30 47) rfl rfl HT_.out (by kernel_rfl) (fun _ _ _ h => h) rfl ?_ ?_ ?_);rotate_left
              ·intro w'
               go_simp;(with_reducible rfl)
              rotate_left
              ·simp only [Act.put, sA]
               rfl
              (refine pI (i := 6) (N := some 38) (v := ?_) (a' := ?_) (mB 30 111) rfl rfl HT_.out (by kernel_rfl) (fun _ _ _ h => h) rfl ?_ ?_ ?_);rotate_left
              ·intro w'
               go_simp;(with_reducible rfl)
              rotate_left
              ·simp only [Act.put, sA]
               rfl
              (refine pI (i := 7) (N := some 39) (v := ?_) (a' := ?_) (mB 30 239) rfl rfl HT_.out (by kernel_rfl) (fun _ _ _ h => h) rfl ?_ ?_ ?_);rotate_left
              ·intro w'
               go_simp;(with_reducible rfl)
              rotate_left
              ·simp only [Act.put, sA]
               rfl
              (refine pI (i := 8) (N := some 40) (v := ?_) (a' := ?_) (mB 30 495) rfl rfl HT_.out (by kernel_rfl) (fun _ _ _ h => h) rfl ?_ ?_ ?_);rotate_left
              ·intro w'
               go_simp;(with_reducible rfl)
              rotate_left
              ·simp only [Act.put, sA]
               rfl
              (refine tI (i := 4) (N := some 36) (v := ?_) (a' := ?_) (mB 30 511) rfl rfl HT_.out HW_.out (by kernel_rfl) (fun _ _ _ h => h) rfl ?_ hHeld ?_ ?_);rotate_left
              ·rintro w' ⟨s0, s1, s2, s3, s4, s5, s6, s7, s8, s9, s10, s11, s12⟩
               go_simp;(with_reducible rfl)
              rotate_left
              ·simp only [Act.put, sA]
               rfl
              (refine tI (i := 9) (N := some 41) (v := ?_) (a' := ?_) (mB 30 1023) rfl rfl HT_.out HW_.out (by kernel_rfl) (fun _ _ _ h => h) rfl ?_ hHeld ?_ ?_);rotate_left
              ·rintro w' ⟨s0, s1, s2, s3, s4, s5, s6, s7, s8, s9, s10, s11, s12⟩
               go_simp;(with_reducible rfl)
              rotate_left
              ·simp only [Act.put, sA]
               rfl
              (refine one_ (i := 10) (N := some 42) (mB 30 2047) rfl rfl (one_of HT_.out (by kernel_rfl)) (by decide) (fun K hK => ?_));(refine goes_ Tryd.func73 (by kernel_rfl) rfl #[.slice A130_1 ((rd_T64 l0 a2).f1).length c130_1, .string ((rd_T90 l1 x10_2).f0)] (by rfl) rfl rfl zq0 ?_);(with_reducible refine (spec_l14Has.calls k2 _ _ ((rd_T64 l0 a2).f1) ((rd_T90 l1 x10_2).f0) true _ ?side1 ?side2 A21.out).mono ?_);((case side1 => exact zq57));((case side2 => exact HC130_1.out));(rintro e w' ⟨rfl, ⟨nd, rfl⟩⟩);(refine ⟨_, rfl, ?_⟩);(refine hK.out _ _ ⟨((HB.out.cell (World.block_lt_of_cell? w _ hw130_0)).trans hw130_0), ((HB.out.cell (World.block_lt_of_cell? w _ hw130_1)).trans hw130_1), ((HB.out.cell (World.block_lt_of_cell? w _ hw131_0)).trans hw131_0), ((HB.out.cell (World.block_lt_of_cell? w _ hw131_1)).trans hw131_1), ((HB.out.cell (World.block_lt_of_cell? w _ hw131_2)).trans hw131_2), ((HB.out.cell (World.block_lt_of_cell? w _ hw133_0)).trans hw133_0), ((HB.out.cell (World.block_lt_of_cell? w _ hw133_1)).trans hw133_1), ((HB.out.cell (World.block_lt_of_cell? w _ hw134_0)).trans hw134_0), ((HB.out.cell (World.block_lt_of_cell? w _ hw134_1)).trans hw134_1), ((HB.out.cell (World.block_lt_of_cell? w _ hw134_2)).trans hw134_2), ((HB.out.cell (World.block_lt_of_cell? w _ hw135_0)).trans hw135_0), ((HB.out.cell (World.block_lt_of_cell? w _ hw135_1)).trans hw135_1), ((HB.out.cell (World.block_lt_of_cell? w _ hw135_2)).trans hw135_2)⟩ (fun hHeld => ?_));clear hK K;(refine norm_ (a' := ?_) ?_ ?_);rotate_left
              ·show Act.put _ (some 42) _ = _
               (simp only [Act.put, sA]);rfl
              (refine pI (i := 11) (N := some 43) (v := ?_) (a' := ?_) (mB 30 4095) rfl rfl HT_.out (by kernel_rfl) (fun _ _ _ h => h) rfl ?_ ?_ ?_);rotate_left
              ·intro w'
               go_simp;(with_reducible rfl)
              rotate_left
              ·simp only [Act.put, sA]
               rfl
              (refine pI (i := 12) (N := some 44) (v := ?_) (a' := ?_) (mB 30 8191) rfl rfl HT_.out (by kernel_rfl) (fun _ _ _ h => h) rfl ?_ ?_ ?_);rotate_left
              ·intro w'
               go_simp;(with_reducible rfl)
              rotate_left
              ·simp only [Act.put, sA]
               rfl
              (refine pI (i := 13) (N := some 45) (v := ?_) (a' := ?_) (mB 30 16383) rfl rfl HT_.out (by kernel_rfl) (fun _ _ _ h => h) rfl ?_ ?_ ?_);rotate_left
              ·intro w'
               go_simp;(with_reducible rfl)
              rotate_left
              ·simp only [Act.put, sA]
               rfl
              (refine pI (i := 14) (N := some 46) (v := ?_) (a' := ?_) (mB 30 32767) rfl rfl HT_.out (by kernel_rfl) (fun _ _ _ h => h) rfl ?_ ?_ ?_);rotate_left
              ·intro w'
               go_simp;(with_reducible rfl)
              rotate_left
              ·simp only [Act.put, sA]
               rfl
              (refine pI (i := 15) (N := some 47) (v := ?_) (a' := ?_) (mB 30 65535) rfl rfl HT_.out (by kernel_rfl) (fun _ _ _ h => h) rfl ?_ ?_ ?_);rotate_left
              ·intro w'
               go_simp;(with_reducible rfl)
              rotate_left
              ·simp only [Act.put, sA]
               rfl
              (refine pI (i := 17) (N := some 49) (v := ?_) (a' := ?_) (mB 30 196607) rfl rfl HT_.out (by kernel_rfl) (fun _ _ _ h => h) rfl ?_ ?_ ?_);rotate_left
              ·intro w'
               go_simp;(with_reducible rfl)
              rotate_left
              ·simp only [Act.put, sA]
               rfl
              (refine pI (i := 18) (N := some 50) (v := ?_) (a' := ?_) (mB 30 458751) rfl rfl HT_.out (by kernel_rfl) (fun _ _ _ h => h) rfl ?_ ?_ ?_);rotate_left
              ·intro w'
               go_simp;(with_reducible rfl)
              rotate_left
              ·simp only [Act.put, sA]
               rfl
              (refine pI (i := 19) (N := some 51) (v := ?_) (a' := ?_) (mB 30 983039) rfl rfl HT_.out (by kernel_rfl) (fun _ _ _ h => h) rfl ?_ ?_ ?_);rotate_left
              ·intro w'
               go_simp;(with_reducible rfl)
              rotate_left
              ·simp only [Act.put, sA]
               rfl
              (refine pI (i := 20) (N := some 52) (v := ?_) (a' := ?_) (mB 30 2031615) rfl rfl HT_.out (by kernel_rfl) (fun _ _ _ h => h) rfl ?_ ?_ ?_);rotate_left
              ·intro w'
               go_simp;(with_reducible rfl)
              rotate_left
              ·simp only [Act.put, sA]
               rfl
              (refine pI (i := 22) (N := some 54) (v := ?_) (a' := ?_) (mB 30 6225919) rfl rfl HT_.out (by kernel_rfl) (fun _ _ _ h => h) rfl ?_ ?_ ?_);rotate_left
              ·intro w'
               go_simp;(with_reducible rfl)
              rotate_left
              ·simp only [Act.put, sA]
               rfl
              (refine pI (i := 23) (N := some 55) (v := ?_) (a' := ?_) (mB 30 14614527) rfl rfl HT_.out (by kernel_rfl) (fun _ _ _ h => h) rfl ?_ ?_ ?_);rotate_left
              ·intro w'
               go_simp;(with_reducible rfl)
              rotate_left
              ·simp only [Act.put, sA]
               rfl
              (refine pI (i := 24) (N := some 56) (v := ?_) (a' := ?_) (mB 30 31391743) rfl rfl HT_.out (by kernel_rfl) (fun _ _ _ h => h) rfl ?_ ?_ ?_);rotate_left
              ·intro w'
               go_simp;(with_reducible rfl)
              rotate_left
              ·simp only [Act.put, sA]
               rfl
              (refine pI (i := 25) (N := some 57) (v := ?_) (a' := ?_) (mB 30 64946175) rfl rfl HT_.out (by kernel_rfl) (fun _ _ _ h => h) rfl ?_ ?_ ?_);rotate_left
              ·intro w'
               go_simp;(with_reducible rfl)
              rotate_left
              ·simp only [Act.put, sA]
               rfl
              (refine tI (i := 16) (N := some 48) (v := ?_) (a' := ?_) (mB 30 65011711) rfl rfl HT_.out HW_.out (by kernel_rfl) (fun _ _ _ h => h) rfl ?_ hHeld ?_ ?_);rotate_left
              ·rintro w' ⟨s0, s1, s2, s3, s4, s5, s6, s7, s8, s9, s10, s11, s12⟩
               go_simp;(with_reducible rfl)
              rotate_left
              ·simp only [Act.put, sA]
               rfl
              (refine tI (i := 21) (N := some 53) (v := ?_) (a' := ?_) (mB 30 67108863) rfl rfl HT_.out HW_.out (by kernel_rfl) (fun _ _ _ h => h) rfl ?_ hHeld ?_ ?_);rotate_left
              ·rintro w' ⟨s0, s1, s2, s3, s4, s5, s6, s7, s8, s9, s10, s11, s12⟩
               go_simp;(with_reducible rfl)
              rotate_left
              ·simp only [Act.put, sA]
               rfl
              (refine tI (i := 26) (N := some 58) (v := ?_) (a' := ?_) (mB 30 134217727) rfl rfl HT_.out HW_.out (by kernel_rfl) (fun _ _ _ h => h) rfl ?_ hHeld ?_ ?_);rotate_left
              ·rintro w' ⟨s0, s1, s2, s3, s4, s5, s6, s7, s8, s9, s10, s11, s12⟩
               go_simp;(with_reducible rfl)
              rotate_left
              ·simp only [Act.put, sA]
               rfl
              (refine one_ (i := 27) (N := some 59) (mB 30 268435455) rfl rfl (one_of HT_.out (by kernel_rfl)) (by decide) (fun K hK => ?_));(refine goes_ Tryd.func74 (by kernel_rfl) rfl #[.int .i64 ((rd_T64 l0 a2).f0), .int .i64 ((rd_T90 l1 x10_2).f1), .int .i64 ((rd_T90 l1 x10_2).f2)] (by rfl) rfl rfl zq0 ?_);(with_reducible refine (spec_l00In.calls ((rd_T64 l0 a2).f0) ((rd_T90 l1 x10_2).f1) ((rd_T90 l1 x10_2).f2) false _ A23.out).mono ?_);(rintro e w' ⟨rfl, ⟨nd, rfl⟩⟩);(refine ⟨_, rfl, ?_⟩);(refine hK.out _ _ ⟨((HB.out.cell (World.block_lt_of_cell? w _ hw130_0)).trans hw130_0), ((HB.out.cell (World.block_lt_of_cell? w _ hw130_1)).trans hw130_1), ((HB.out.cell (World.block_lt_of_cell? w _ hw131_0)).trans hw131_0), ((HB.out.cell (World.block_lt_of_cell? w _ hw131_1)).trans hw131_1), ((HB.out.cell (World.block_lt_of_cell? w _ hw131_2)).trans hw131_2), ((HB.out.cell (World.block_lt_of_cell? w _ hw133_0)).trans hw133_0), ((HB.out.cell (World.block_lt_of_cell? w _ hw133_1)).trans hw133_1), ((HB.out.cell (World.block_lt_of_cell? w _ hw134_0)).trans hw134_0), ((HB.out.cell (World.block_lt_of_cell? w _ hw134_1)).trans hw134_1), ((HB.out.cell (World.block_lt_of_cell? w _ hw134_2)).trans hw134_2), ((HB.out.cell (World.block_lt_of_cell? w _ hw135_0)).trans hw135_0), ((HB.out.cell (World.block_lt_of_cell? w _ hw135_1)).trans hw135_1), ((HB.out.cell (World.block_lt_of_cell? w _ hw135_2)).trans hw135_2)⟩ (fun hHeld => ?_));clear hK K;(refine norm_ (a' := ?_) ?_ ?_);rotate_left
              ·show Act.put _ (some 59) _ = _
               (simp only [Act.put, sA]);rfl
              (refine pI (i := 28) (N := some 60) (v := ?_) (a' := ?_) (mB 30 536870911) rfl rfl HT_.out (by kernel_rfl) (fun _ _ _ h => h) rfl ?_ ?_ ?_);rotate_left
              ·intro w'
               go_simp;(with_reducible rfl)
              rotate_left
              ·simp only [Act.put, sA]
               rfl
              (refine pI (i := 29) (N := some 61) (v := ?_) (a' := ?_) (mB 30 1073741823) rfl rfl HT_.out (by kernel_rfl) (fun _ _ _ h => h) rfl ?_ ?_ ?_);rotate_left
              ·intro w'
               go_simp;(with_reducible rfl)
              rotate_left
              ·simp only [Act.put, sA]
               rfl
              (refine done_ (done_of HT_.out (by kernel_rfl)) ?_);(have p137 : 0 ≤ (x10_2 : Int) := of_decide_eq_true zq22);(have q137 : x10_2 < (l1.length : Int) := of_decide_eq_true zq22);(obtain ⟨ad137, e137, hx137_0, hx137_1, hx137_2⟩ := at_T90 HR1.out x10_2 p137 q137);(obtain rfl : ad131 = ad137 := (by injection e137));(replace hx137_0 := (HB.out.cell (World.block_lt_of_cell? w _ hx137_0)).trans hx137_0);(replace hx137_1 := (HB.out.cell (World.block_lt_of_cell? w _ hx137_1)).trans hx137_1);(replace hx137_2 := (HB.out.cell (World.block_lt_of_cell? w _ hx137_2)).trans hx137_2);(replace p137 := eq_true p137);(replace q137 := eq_true q137);(try go_wp2_with (first | ((with_reducible refine gate_builtin (b := .append) (xs := #[.tmp 62, .tmp 68]) rfl ?_); at_builtin; refine Kd.R_append Kd.string (w0 := w) w.heap.size rfl (.tmp 62) (.tmp 68) 24 9 (.string ⟨#[]⟩) 16 rfl Tryd.underlying24 info9 rfl (by decide) (by omega) u9 x9_2 ((rd_T90 l1 x10_2).f0) [.string ((rd_T90 l1 x10_2).f0)] (fun _ => True) (fun _ => False) rfl rfl ?aP (fun _ hk => hk.elim) ?aF ?aO ?aB ?aS ?aL ?_; (case aP => exact rfl); (case aB => exact zq45); (case aF => exact (fun _ _ => trivial)); (case aO => exact (zR HO_9.out)); (case aS => exact (below_size zq45)); (case aL => have := LMc26.out; omega); intro v139 w28 ho hb hg hat; rw [← Ny138.out] at ho; have n0_ := Aside0.mk (hb); have n1_ := Aside0.mk (ho); clear HB; clear HO_9; have HB := n0_; have HO140 := n1_; clear n0_ n1_; clear ho hb hg hat)));(go_roundg k2)
              case measure => have := HJ3.out; have := HK2.out; omega
              case rel => exact ⟨(y138), (wrap64 (x10_2 + 1)), zq28, H', ⟨zq32⟩, ⟨zR HO140.out⟩, ⟨zq45⟩⟩
             ·rw [if_neg c26] at H
              exact absurd H (by simp)
           ·replace c22 := Bool.eq_false_iff.mpr c22
            subst c22;(have H1 : (spec_TooLate.l0 k2 l0 l1 a2 x9_2 (wrap64 (x10_2 + 1))) = some (r1, r2) := zq79);clear H;(have H := H1);clear H1;(have H' := Aside0.mk H);clear H;(try go_wp2);(have n0_ := Aside0.mk (Kd.R_drew HO_9.out));(have n1_ := Aside0.mk (below_drew1 HB.out));clear HO_9;clear HB;(have HO_9 := n0_);(have HB := n1_);clear n0_ n1_;(have p130 : 0 ≤ (a2 : Int) := of_decide_eq_true zq22);(have q130 : a2 < (l0.length : Int) := of_decide_eq_true zq22);(obtain ⟨ad130, A130_1, c130_1, e130, hx130_0, hx130_1, hl130_1, hi130_1⟩ := at_T64 HR0.out a2 p130 q130);(have hw130_1 := hx130_1);(have hw130_0 := hx130_0)
            cases e130
            (replace hx130_0 := (HB.out.cell (World.block_lt_of_cell? w _ hx130_0)).trans hx130_0);(replace hx130_1 := (HB.out.cell (World.block_lt_of_cell? w _ hx130_1)).trans hx130_1);(have HR130_1 := Aside0.mk hi130_1);(have HC130_1 := Aside0.mk hl130_1);clear hi130_1 hl130_1;(replace p130 := eq_true p130);(replace q130 := eq_true q130);(have p131 : 0 ≤ (x10_2 : Int) := of_decide_eq_true zq22);(have q131 : x10_2 < (l1.length : Int) := of_decide_eq_true zq22);(obtain ⟨ad131, e131, hx131_0, hx131_1, hx131_2⟩ := at_T90 HR1.out x10_2 p131 q131);(have hw131_2 := hx131_2);(have hw131_1 := hx131_1);(have hw131_0 := hx131_0)
            cases e131
            (replace hx131_0 := (HB.out.cell (World.block_lt_of_cell? w _ hx131_0)).trans hx131_0);(replace hx131_1 := (HB.out.cell (World.block_lt_of_cell? w _ hx131_1)).trans hx131_1);(replace hx131_2 := (HB.out.cell (World.block_lt_of_cell? w _ hx131_2)).trans hx131_2);(replace p131 := eq_true p131);(replace q131 := eq_true q131);(refine start_ (n := 30) (S := fun w' => w'.cell? (ad130.add ((a2).toNat * 2)) = some (.int .i64 ((rd_T64 l0 a2).f0)) ∧ w'.cell? ⟨(ad130.add ((a2).toNat * 2)).block, (ad130.add ((a2).toNat * 2)).off + 1, none⟩ = some (.slice A130_1 ((rd_T64 l0 a2).f1).length c130_1) ∧ w'.cell? (ad131.add ((x10_2).toNat * 3)) = some (.string ((rd_T90 l1 x10_2).f0)) ∧ w'.cell? ⟨(ad131.add ((x10_2).toNat * 3)).block, (ad131.add ((x10_2).toNat * 3)).off + 1, none⟩ = some (.int .i64 ((rd_T90 l1 x10_2).f1)) ∧ w'.cell? ⟨(ad131.add ((x10_2).toNat * 3)).block, (ad131.add ((x10_2).toNat * 3)).off + 2, none⟩ = some (.int .i64 ((rd_T90 l1 x10_2).f2))) (ds := []) #[false,false,false,false,false,false,false,false,false,false,false,false,false,false,false,false,false,false,false,false,false,false,false,false,false,false,false,false,false,false] (by kernel_rfl) rfl rfl ⟨((HB.out.cell (World.block_lt_of_cell? w _ hw130_0)).trans hw130_0), ((HB.out.cell (World.block_lt_of_cell? w _ hw130_1)).trans hw130_1), ((HB.out.cell (World.block_lt_of_cell? w _ hw131_0)).trans hw131_0), ((HB.out.cell (World.block_lt_of_cell? w _ hw131_1)).trans hw131_1), ((HB.out.cell (World.block_lt_of_cell? w _ hw131_2)).trans hw131_2)⟩ (fun hHeld => ?_); refine with_tabW spec_TooLate.tab10 spec_TooLate.bits10 (fun HT_ HW_ => ?_));(generalize wr.drew = w29 at HO_9 HB HR130_1 hx130_0 hx130_1 hx131_0 hx131_1 hx131_2 hHeld ⊢);(refine pI (i := 0) (N := some 32) (v := ?_) (a' := ?_) (mB 30 1) rfl rfl HT_.out (by kernel_rfl) (fun _ _ _ h => h) rfl ?_ ?_ ?_);rotate_left
            ·intro w'
             go_simp;(with_reducible rfl)
            rotate_left
            ·simp only [Act.put, sA]
             rfl
            (refine pI (i := 1) (N := some 33) (v := ?_) (a' := ?_) (mB 30 3) rfl rfl HT_.out (by kernel_rfl) (fun _ _ _ h => h) rfl ?_ ?_ ?_);rotate_left
            ·intro w'
             go_simp;(with_reducible rfl)
            rotate_left
            ·simp only [Act.put, sA]
             rfl
            (refine pI (i := 2) (N := some 34) (v := ?_) (a' := ?_) (mB 30 7) rfl rfl HT_.out (by kernel_rfl) (fun _ _ _ h => h) rfl ?_ ?_ ?_);rotate_left
            ·intro w'
             go_simp;(with_reducible rfl)
            rotate_left
            ·simp only [Act.put, sA]
             rfl
            (refine pI (i := 3) (N := some 35) (v := ?_) (a' := ?_) (mB 30 15) rfl rfl HT_.out (by kernel_rfl) (fun _ _ _ h => h) rfl ?_ ?_ ?_);rotate_left
            ·intro w'
             go_simp;(with_reducible rfl)
            rotate_left
            ·simp only [Act.put, sA]
             rfl
            (refine pI (i := 5) (N := some 37) (v := ?_) (a' := ?_) (mB 30 47) rfl rfl HT_.out (by kernel_rfl) (fun _ _ _ h => h) rfl ?_ ?_ ?_);rotate_left
            ·intro w'
             go_simp;(with_reducible rfl)
            rotate_left
            ·simp only [Act.put, sA]
             rfl
            (refine pI (i := 6) (N := some 38) (v := ?_) (a' := ?_) (mB 30 111) rfl rfl HT_.out (by kernel_rfl) (fun _ _ _ h => h) rfl ?_ ?_ ?_);rotate_left
            ·intro w'
             go_simp;(with_reducible rfl)
            rotate_left
            ·simp only [Act.put, sA]
             rfl
            (refine pI (i := 7) (N := some 39) (v := ?_) (a' := ?_) (mB 30 239) rfl rfl HT_.out (by kernel_rfl) (fun _ _ _ h => h) rfl ?_ ?_ ?_);rotate_left
            ·intro w'
             go_simp;(with_reducible rfl)
            rotate_left
            ·simp only [Act.put, sA]
             rfl
            (refine pI (i := 8) (N := some 40) (v := ?_) (a' := ?_) (mB 30 495) rfl rfl HT_.out (by kernel_rfl) (fun _ _ _ h => h) rfl ?_ ?_ ?_);rotate_left
            ·intro w'
             go_simp;(with_reducible rfl)
            rotate_left
            ·simp only [Act.put, sA]
             rfl
            (refine tI (i := 4) (N := some 36) (v := ?_) (a' := ?_) (mB 30 511) rfl rfl HT_.out HW_.out (by kernel_rfl) (fun _ _ _ h => h) rfl ?_ hHeld ?_ ?_);rotate_left
            ·rintro w' ⟨s0, s1, s2, s3, s4⟩
             go_simp;(with_reducible rfl)
            rotate_left
            ·simp only [Act.put, sA]
             rfl
            (refine tI (i := 9) (N := some 41) (v := ?_) (a' := ?_) (mB 30 1023) rfl rfl HT_.out HW_.out (by kernel_rfl) (fun _ _ _ h => h) rfl ?_ hHeld ?_ ?_);rotate_left
            ·rintro w' ⟨s0, s1, s2, s3, s4⟩
             go_simp;(with_reducible rfl)
            rotate_left
            ·simp only [Act.put, sA]
             rfl
            (refine one_ (i := 10) (N := some 42) (mB 30 2047) rfl rfl (one_of HT_.out (by kernel_rfl)) (by decide) (fun K hK => ?_));(refine goes_ Tryd.func73 (by kernel_rfl) rfl #[.slice A130_1 ((rd_T64 l0 a2).f1).length c130_1, .string ((rd_T90 l1 x10_2).f0)] (by rfl) rfl rfl zq0 ?_);(with_reducible refine (spec_l14Has.calls k2 _ _ ((rd_T64 l0 a2).f1) ((rd_T90 l1 x10_2).f0) false _ ?side1 ?side2 A21.out).mono ?_);((case side1 => exact zq57));((case side2 => exact HC130_1.out));(rintro e w' ⟨rfl, ⟨nd, rfl⟩⟩);(refine ⟨_, rfl, ?_⟩);(refine hK.out _ _ ⟨((HB.out.cell (World.block_lt_of_cell? w _ hw130_0)).trans hw130_0), ((HB.out.cell (World.block_lt_of_cell? w _ hw130_1)).trans hw130_1), ((HB.out.cell (World.block_lt_of_cell? w _ hw131_0)).trans hw131_0), ((HB.out.cell (World.block_lt_of_cell? w _ hw131_1)).trans hw131_1), ((HB.out.cell (World.block_lt_of_cell? w _ hw131_2)).trans hw131_2)⟩ (fun hHeld => ?_));clear hK K;(refine norm_ (a' := ?_) ?_ ?_);rotate_left
            ·show Act.put _ (some 42) _ = _
             (simp only [Act.put, sA]);rfl
            (refine pI (i := 11) (N := some 43) (v := ?_) (a' := ?_) (mB 30 4095) rfl rfl HT_.out (by kernel_rfl) (fun _ _ _ h => h) rfl ?_ ?_ ?_);rotate_left
            ·intro w'
             go_simp;(with_reducible rfl)
            rotate_left
            ·simp only [Act.put, sA]
             rfl
            (refine pU (i := 12) (N := some 44) (a' := ?_) (mB 30 8191) rfl rfl HT_.out (by kernel_rfl) (fun _ _ _ h => h) rfl ?_ ?_);rotate_left
            ·simp only [Act.put, sA]
             rfl
            (refine pU (i := 13) (N := some 45) (a' := ?_) (mB 30 16383) rfl rfl HT_.out (by kernel_rfl) (fun _ _ _ h => h) rfl ?_ ?_);rotate_left
            ·simp only [Act.put, sA]
             rfl
            (refine pU (i := 14) (N := some 46) (a' := ?_) (mB 30 32767) rfl rfl HT_.out (by kernel_rfl) (fun _ _ _ h => h) rfl ?_ ?_);rotate_left
            ·simp only [Act.put, sA]
             rfl
            (refine pU (i := 15) (N := some 47) (a' := ?_) (mB 30 65535) rfl rfl HT_.out (by kernel_rfl) (fun _ _ _ h => h) rfl ?_ ?_);rotate_left
            ·simp only [Act.put, sA]
             rfl
            (refine pU (i := 16) (N := some 48) (a' := ?_) (mB 30 131071) rfl rfl HT_.out (by kernel_rfl) (fun _ _ _ h => h) rfl ?_ ?_);rotate_left
            ·simp only [Act.put, sA]
             rfl
            (refine pU (i := 17) (N := some 49) (a' := ?_) (mB 30 262143) rfl rfl HT_.out (by kernel_rfl) (fun _ _ _ h => h) rfl ?_ ?_);rotate_left
            ·simp only [Act.put, sA]
             rfl
            (refine pU (i := 18) (N := some 50) (a' := ?_) (mB 30 524287) rfl rfl HT_.out (by kernel_rfl) (fun _ _ _ h => h) rfl ?_ ?_);rotate_left
            ·simp only [Act.put, sA]
             rfl
            (refine pU (i := 19) (N := some 51) (a' := ?_) (mB 30 1048575) rfl rfl HT_.out (by kernel_rfl) (fun _ _ _ h => h) rfl ?_ ?_);rotate_left
            ·simp only [Act.put, sA]
             rfl
            (refine pU (i := 20) (N := some 52) (a' := ?_) (mB 30 2097151) rfl rfl HT_.out (by kernel_rfl) (fun _ _ _ h => h) rfl ?_ ?_);rotate_left
            ·simp only [Act.put, sA]
             rfl
            (refine pU (i := 21) (N := some 53) (a' := ?_) (mB 30 4194303) rfl rfl HT_.out (by kernel_rfl) (fun _ _ _ h => h) rfl ?_ ?_);rotate_left
            ·simp only [Act.put, sA]
             rfl
            (refine pU (i := 22) (N := some 54) (a' := ?_) (mB 30 8388607) rfl rfl HT_.out (by kernel_rfl) (fun _ _ _ h => h) rfl ?_ ?_);rotate_left
            ·simp only [Act.put, sA]
             rfl
            (refine pU (i := 23) (N := some 55) (a' := ?_) (mB 30 16777215) rfl rfl HT_.out (by kernel_rfl) (fun _ _ _ h => h) rfl ?_ ?_);rotate_left
            ·simp only [Act.put, sA]
             rfl
            (refine pU (i := 24) (N := some 56) (a' := ?_) (mB 30 33554431) rfl rfl HT_.out (by kernel_rfl) (fun _ _ _ h => h) rfl ?_ ?_);rotate_left
            ·simp only [Act.put, sA]
             rfl
            (refine pU (i := 25) (N := some 57) (a' := ?_) (mB 30 67108863) rfl rfl HT_.out (by kernel_rfl) (fun _ _ _ h => h) rfl ?_ ?_);rotate_left
            ·simp only [Act.put, sA]
             rfl
            (refine pU (i := 26) (N := some 58) (a' := ?_) (mB 30 134217727) rfl rfl HT_.out (by kernel_rfl) (fun _ _ _ h => h) rfl ?_ ?_);rotate_left
            ·simp only [Act.put, sA]
             rfl
            (refine pU (i := 27) (N := some 59) (a' := ?_) (mB 30 268435455) rfl rfl HT_.out (by kernel_rfl) (fun _ _ _ h => h) rfl ?_ ?_);rotate_left
            ·simp only [Act.put, sA]
             rfl
            (refine pU (i := 28) (N := some 60) (a' := ?_) (mB 30 536870911) rfl rfl HT_.out (by kernel_rfl) (fun _ _ _ h => h) rfl ?_ ?_);rotate_left
            ·simp only [Act.put, sA]
             rfl
            (refine pI (i := 29) (N := some 61) (v := ?_) (a' := ?_) (mB 30 1073741823) rfl rfl HT_.out (by kernel_rfl) (fun _ _ _ h => h) rfl ?_ ?_ ?_);rotate_left
            ·intro w'
             go_simp;(with_reducible rfl)
            rotate_left
            ·simp only [Act.put, sA]
             rfl
            (refine done_ (done_of HT_.out (by kernel_rfl)) ?_);(try go_wp2);(go_roundg k2)
            case measure => have := HJ3.out; have := HK2.out; omega
            case rel => exact ⟨(x9_2), (wrap64 (x10_2 + 1)), zq28, H', ⟨zq32⟩, ⟨zR HO_9.out⟩, ⟨zq45⟩⟩
          ·rw [if_neg c20] at H
           exact absurd H (by simp)
         ·rw [if_neg c19] at H
          exact absurd H (by simp)
        ·rw [if_neg c18] at H
         exact absurd H (by simp)
       ·rw [if_neg c17] at H
        (have c17b0 : decide (x10_2 < (l1.length : Int)) = false := decide_eq_false c17);clear c17;(simp only [Option.some.injEq, Prod.mk.injEq] at H);(obtain ⟨rfl, rfl⟩ := H);(go_wp2);(go_ret2);(exact ⟨_, zq27, zR HO_9.out, zq45⟩)
    ·rw [if_neg c13] at H
     (have c13b0 : (t126 == 0) = false := beq_eq_false_iff_ne.mpr c13);(have c13b1 : (t126 != 0) = true := bne_iff_ne.mpr c13);(simp only [Option.some.injEq, Prod.mk.injEq] at H);(obtain ⟨rfl, rfl⟩ := H);(go_wp2_with (first | ((with_reducible refine gate_callee (f := 61) rfl ?_); refine goesL_ (some 21) rfl rfl Tryd.func61 (by kernel_rfl) rfl #[.slice A0 l0.length c0, .int .i64 a2] rfl zq0 ?_; (with_reducible refine (spec_l14One.calls kj3 _ _ l0 a2 t126 _ ?side1 ?side2 A12.out).mono ?_); (case side1 => exact zq54); (case side2 => exact HC0.out); rintro e w30 ⟨rfl, hb⟩; refine ⟨_, rfl, ?_⟩; have n0_ := Aside0.mk (below_step zq45 hb); clear HB; have HB := n0_; clear n0_; (try clear hb); (try clear hb2); (try clear hk); (try clear hi))));(go_ret2);(exact ⟨_, zq27, zq23, zq45⟩)

end Go.Proofs.YtalmeecdjhelkaaDoor.PFnDates
