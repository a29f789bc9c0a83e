-- Made by a program of this session (gprint.py) out of the kit's print of the translation and texts of my own. SLIM
import Derived.Test.YtalmeecdjhelkaaDoorPFnEditionsx0
import Derived.Test.YtalmeecdjhelkaaDoorPFnEditionsx3
import Derived.Test.YtalmeecdjhelkaaDoorPFnEditionsx6
namespace Go.Proofs.YtalmeecdjhelkaaDoor.PFnEditions
open Go.RowKit Go.Proofs.YtalmeecdjhelkaaDoorW.PrintWords Go.Proofs.YtalmeecdjhelkaaDoorW.PrintLast Go.Proofs.YtalmeecdjhelkaaDoorW.PrintMore
set_option maxHeartbeats 64000000
set_option maxRecDepth 100000
attribute [local go_sem] max2_int min2_int max_two min_two max_three min_three max_four min_four   -- for this text's walks alone
set_option linter.unusedVariables false
set_option linter.unusedSimpArgs false

/-! ### spec_OldNames: function 18 -/
def spec_OldNames.f (k : Nat) (l0 : List (S64)) (a1 : Int) : Option (List ByteArray × Int) := (spec_l14One.f k l0 a1).bind fun t171 => (if t171 = 0 then ((spec_l14Before.f l0 a1).bind fun t172 => (if 0 ≤ a1 then (if a1 < (l0.length : Int) then ((spec_l14Less.f k t172 ((rd_T64 l0 a1).f1)).bind fun t176 => (some (t176, 0))) else (none)) else (none))) else (some (([] : List ByteArray), t171)))
theorem spec_OldNames.mono : ∀ a0 a1 k, LeO (spec_OldNames.f k a0 a1) (spec_OldNames.f (k + 1) a0 a1) := by
 intro a0 a1 k;(unfold spec_OldNames.f)
 repeat' first | with_reducible (first | exact spec_l14Less.mono _ _ _ | exact spec_l14One.mono _ _ _ | exact LeO.refl _ | exact LeO.none _ | refine LeO.ite ?_ ?_ | refine LeO.bind ?_ (fun _ => ?_)) | exact spec_l14Less.mono _ _ _ | exact spec_l14One.mono _ _ _ | exact LeO.none _ | refine LeO.ite ?_ ?_ | refine LeO.bind ?_ (fun _ => ?_)
def spec_OldNames.T4 : Bool × List (List Nat × List Nat) := (true, [([], []), ([], []), ([0, 1], [0, 1]), ([], []), ([], []), ([3, 4], [3, 4]), ([5], [5]), ([6], [6]), ([2, 7, 2], [2, 7]), ([8, 8, 0, 1, 2, 3, 4, 5, 6, 7, 8], [8]), ([9, 0, 1, 2, 3, 4, 5, 6, 7, 8, 9], [])])
def spec_OldNames.B4 : List Nat := [0, 0, 3, 0, 0, 24, 56, 120, 255, 511, 1023]
theorem spec_OldNames.tab4 : rtab .any (opsOf Tryd.f18 4) = spec_OldNames.T4 := by kernel_rfl
theorem spec_OldNames.bits4 : waitsOk spec_OldNames.T4.2 spec_OldNames.B4 = true := by kernel_rfl
theorem spec_OldNames.calls (k : Nat) (A0 : Option Addr) (c0 : Nat) (l0 : List (S64)) (a1 : Int) (r1 : List ByteArray) (r2 : Int) (w : World) (hr0 : Kd.C k64 w A0 l0.length l0) (hc0 : l0.length ≤ c0) (h : spec_OldNames.f k l0 a1 = some (r1, r2)) :
  Calls Tryd.prog 18 #[.slice A0 l0.length c0, .int .i64 a1] w fun e w' => ∃ v0_ : Value, e = .returned (.tuple #[v0_, .int .i64 r2]) ∧ Kd.R Kd.string 9 w' w.heap.size (fun _ => True) v0_ r1 ∧ Below w.heap.size w w' := by
 (have HR0 := Aside0.mk hr0);(have HC0 := Aside0.mk hc0);clear hr0 hc0;(have HB := Aside0.mk (Below.refl w.heap.size w));(have H : ((spec_l14One.f k l0 a1).bind fun t171 => (if t171 = 0 then ((spec_l14Before.f l0 a1).bind fun t172 => (if 0 ≤ a1 then (if a1 < (l0.length : Int) then ((spec_l14Less.f k t172 ((rd_T64 l0 a1).f1)).bind fun t176 => (some (t176, 0))) else (none)) else (none))) else (some (([] : List ByteArray), t171)))) = some (r1, r2) := h);clear h;(replace H := Option.bind_eq_some_iff.mp H);(obtain ⟨t171, A30, H⟩ := H);(replace H : (if t171 = 0 then ((spec_l14Before.f l0 a1).bind fun t172 => (if 0 ≤ a1 then (if a1 < (l0.length : Int) then ((spec_l14Less.f k t172 ((rd_T64 l0 a1).f1)).bind fun t176 => (some (t176, 0))) else (none)) else (none))) else (some (([] : List ByteArray), t171))) = some (r1, r2) := H);(have A3 := Aside0.mk A30);clear A30;(by_cases c4 : t171 = 0)
 ·rw [if_pos c4] at H
  (have c4b0 : (t171 == 0) = true := beq_iff_eq.mpr c4);(have c4b1 : (t171 != 0) = false := bne_eq_false_iff_eq.mpr c4);clear c4;(replace H := Option.bind_eq_some_iff.mp H);(obtain ⟨t172, A50, H⟩ := H);(replace H : (if 0 ≤ a1 then (if a1 < (l0.length : Int) then ((spec_l14Less.f k t172 ((rd_T64 l0 a1).f1)).bind fun t176 => (some (t176, 0))) else (none)) else (none)) = some (r1, r2) := H);(have A5 := Aside0.mk A50);clear A50;(by_cases c6 : 0 ≤ a1)
  ·rw [if_pos c6] at H
   (have c6b0 : decide (0 ≤ a1) = true := decide_eq_true c6);clear c6;(by_cases c7 : a1 < (l0.length : Int))
   ·rw [if_pos c7] at H
    (have c7b0 : decide (a1 < (l0.length : Int)) = true := decide_eq_true c7);clear c7;(replace H := Option.bind_eq_some_iff.mp H);(obtain ⟨t176, A80, H⟩ := H);(replace H : (some (t176, 0)) = some (r1, r2) := H);(have A8 := Aside0.mk A80);clear A80;(simp only [Option.some.injEq, Prod.mk.injEq] at H);(obtain ⟨rfl, rfl⟩ := H)
    go_enter Tryd.func18, Tryd.ntmps18
    (try go_wp2_with (first | ((with_reducible refine gate_callee (f := 61) rfl ?_); refine goesL_ (some 9) rfl rfl Tryd.func61 (by kernel_rfl) rfl #[.slice A0 l0.length c0, .int .i64 a1] rfl zq1 ?_; (with_reducible refine (spec_l14One.calls k _ _ l0 a1 t171 _ ?side1 ?side2 A3.out).mono ?_); (case side1 => exact zq88); (case side2 => exact HC0.out); rintro e w9 ⟨rfl, hb⟩; refine ⟨_, rfl, ?_⟩; have n0_ := Aside0.mk (below_step zq55 hb); clear HB; have HB := n0_; clear n0_; (try clear hb); (try clear hb2); (try clear hk); (try clear hi))));(have n0_ := Aside0.mk (below_drew1 HB.out));clear HB;(have HB := n0_);clear n0_;(have p175 : 0 ≤ (a1 : Int) := of_decide_eq_true zq26);(have q175 : a1 < (l0.length : Int) := of_decide_eq_true zq26);(obtain ⟨ad175, A175_1, c175_1, e175, hx175_0, hx175_1, hl175_1, hi175_1⟩ := at_T64 HR0.out a1 p175 q175);(have hw175_1 := hx175_1);(have hw175_0 := hx175_0)
    cases e175
    (replace hx175_0 := (HB.out.cell (World.block_lt_of_cell? w _ hx175_0)).trans hx175_0);(replace hx175_1 := (HB.out.cell (World.block_lt_of_cell? w _ hx175_1)).trans hx175_1);(have HR175_1 := Aside0.mk hi175_1);(have HC175_1 := Aside0.mk hl175_1);clear hi175_1 hl175_1;(replace p175 := eq_true p175);(replace q175 := eq_true q175);(refine start_ (n := 11) (S := fun w' => w'.cell? (ad175.add ((a1).toNat * 2)) = some (.int .i64 ((rd_T64 l0 a1).f0)) ∧ w'.cell? ⟨(ad175.add ((a1).toNat * 2)).block, (ad175.add ((a1).toNat * 2)).off + 1, none⟩ = some (.slice A175_1 ((rd_T64 l0 a1).f1).length c175_1)) (ds := []) #[false,false,false,false,false,false,false,false,false,false,false] (by kernel_rfl) rfl rfl ⟨((HB.out.cell (World.block_lt_of_cell? w _ hw175_0)).trans hw175_0), ((HB.out.cell (World.block_lt_of_cell? w _ hw175_1)).trans hw175_1)⟩ (fun hHeld => ?_); refine with_tabW spec_OldNames.tab4 spec_OldNames.bits4 (fun HT_ HW_ => ?_));(generalize w9.drew = w10 at HB HR175_1 hx175_0 hx175_1 hHeld ⊢);(refine pI (i := 0) (N := some 13) (v := ?_) (a' := ?_) (mB 11 1) rfl rfl HT_.out (by kernel_rfl) (fun _ _ _ h => h) rfl ?_ ?_ ?_);rotate_left
    ·intro w'
     go_simp;(with_reducible rfl)
    rotate_left
    ·simp only [Act.put, sA]
     rfl
    (refine pI (i := 1) (N := some 14) (v := ?_) (a' := ?_) (mB 11 3) rfl rfl HT_.out (by kernel_rfl) (fun _ _ _ h => h) rfl ?_ ?_ ?_);rotate_left
    ·intro w'
     go_simp;(with_reducible rfl)
    rotate_left
    ·simp only [Act.put, sA]
     rfl
    (refine pI (i := 3) (N := some 16) (v := ?_) (a' := ?_) (mB 11 11) rfl rfl HT_.out (by kernel_rfl) (fun _ _ _ h => h) rfl ?_ ?_ ?_);rotate_left
    ·intro w'
     go_simp;(with_reducible rfl)
    rotate_left
    ·simp only [Act.put, sA]
     rfl
    (refine pI (i := 4) (N := some 17) (v := ?_) (a' := ?_) (mB 11 27) rfl rfl HT_.out (by kernel_rfl) (fun _ _ _ h => h) rfl ?_ ?_ ?_);rotate_left
    ·intro w'
     go_simp;(with_reducible rfl)
    rotate_left
    ·simp only [Act.put, sA]
     rfl
    (refine pI (i := 5) (N := some 18) (v := ?_) (a' := ?_) (mB 11 59) rfl rfl HT_.out (by kernel_rfl) (fun _ _ _ h => h) rfl ?_ ?_ ?_);rotate_left
    ·intro w'
     go_simp;(with_reducible rfl)
    rotate_left
    ·simp only [Act.put, sA]
     rfl
    (refine pI (i := 6) (N := some 19) (v := ?_) (a' := ?_) (mB 11 123) rfl rfl HT_.out (by kernel_rfl) (fun _ _ _ h => h) rfl ?_ ?_ ?_);rotate_left
    ·intro w'
     go_simp;(with_reducible rfl)
    rotate_left
    ·simp only [Act.put, sA]
     rfl
    (refine tI (i := 7) (N := some 20) (v := ?_) (a' := ?_) (mB 11 251) rfl rfl HT_.out HW_.out (by kernel_rfl) (fun _ _ _ h => h) rfl ?_ hHeld ?_ ?_);rotate_left
    ·rintro w' ⟨s0, s1⟩
     go_simp;(with_reducible rfl)
    rotate_left
    ·simp only [Act.put, sA]
     rfl
    (refine one_ (i := 2) (N := some 15) (mB 11 255) rfl rfl (one_of HT_.out (by kernel_rfl)) (by decide) (fun K hK => ?_));(refine goes_ Tryd.func63 (by kernel_rfl) rfl #[.slice (some ad175) l0.length c0, .int .i64 a1] (by rfl) rfl rfl zq1 ?_);(with_reducible refine (spec_l14Before.calls (fun k_ => k_ < w.heap.size) _ _ l0 a1 t172 _ ?side1 A5.out).mono ?_);((case side1 => exact Kd.V_mk HC0.out (Kd.F_below (Kd.C_F k64_heap HR0.out) zq55)));(rintro e w11 ⟨v173, rfl, ho0, hb⟩);(refine ⟨_, rfl, ?_⟩);(have n0_ := Aside0.mk (Kd.V_lower (Kd.V_mono (ok' := fun k_ => True) ho0 (fun k_ hk_ => trivial)) (below_size zq55)));(have n1_ := Aside0.mk (below_step zq55 hb));clear HB;(have HO174 := n0_);(have HB := n1_);clear n0_ n1_;(try clear hb);(try clear hb2);(try clear hk);(try clear hi);(try clear ho0);(obtain ⟨Ao12, co12, eo12⟩ := Kd.V_slice HO174.out);((first | subst eo12 | (injection eo12 with f1_ f2_ f3_; have f4_ := f1_.symm; have f5_ := f3_.symm; clear f1_ f2_ f3_; subst f4_; subst f5_)));(refine hK.out _ _ ⟨((HB.out.cell (World.block_lt_of_cell? w _ hw175_0)).trans hw175_0), ((HB.out.cell (World.block_lt_of_cell? w _ hw175_1)).trans hw175_1)⟩ (fun hHeld => ?_));clear hK K;(refine norm_ (a' := ?_) ?_ ?_);rotate_left
    ·show Act.put _ (some 15) _ = _
     (simp only [Act.put, sA]);rfl
    (refine one_ (i := 8) (N := some 21) (mB 11 511) rfl rfl (one_of HT_.out (by kernel_rfl)) (by decide) (fun K hK => ?_));(refine goes_ Tryd.func62 (by kernel_rfl) rfl #[.slice Ao12 t172.length co12, .slice A175_1 ((rd_T64 l0 a1).f1).length c175_1] (by rfl) rfl rfl zq1 ?_);(with_reducible refine (spec_l14Less.calls k _ _ t172 _ _ ((rd_T64 l0 a1).f1) t176 _ ?side1 ?side2 ?side3 ?side4 A8.out).mono ?_);((case side1 => exact by repeat (first | exact (Kd.V_reads' HO174.out).2.2 | (with_reducible refine Kd.C_alloc ?_ _) | (with_reducible refine Kd.C_drewN ?_ _) | (with_reducible refine Kd.C_drew ?_))));((case side2 => exact (Kd.V_reads' HO174.out).2.1));((case side3 => exact by repeat (first | exact (Kd.C_below HR175_1.out HB.out) | (with_reducible refine Kd.C_alloc ?_ _) | (with_reducible refine Kd.C_drewN ?_ _) | (with_reducible refine Kd.C_drew ?_))));((case side4 => exact HC175_1.out));(rintro e w13 ⟨v177, rfl, ho0, hb⟩);(refine ⟨_, rfl, ?_⟩);(have n0_ := Aside0.mk (Kd.V_elder' (by (with_reducible repeat (first | apply Kd.V_alloc | apply Kd.V_drewN | apply Kd.V_drew)); exact HO174.out) (Kd.R_base ho0) hb));(have n1_ := Aside0.mk (Kd.R_lower ho0 (below_size zq55)));(have n2_ := Aside0.mk (below_step zq55 hb));clear HO174;clear HB;(have HO174 := n0_);(have HO178 := n1_);(have HB := n2_);clear n0_ n1_ n2_;(try clear hb);(try clear hb2);(try clear hk);(try clear hi);(try clear ho0);(refine hK.out _ _ ⟨((HB.out.cell (World.block_lt_of_cell? w _ hw175_0)).trans hw175_0), ((HB.out.cell (World.block_lt_of_cell? w _ hw175_1)).trans hw175_1)⟩ (fun hHeld => ?_));clear hK K;(refine norm_ (a' := ?_) ?_ ?_);rotate_left
    ·show Act.put _ (some 21) _ = _
     (simp only [Act.put, sA]);rfl
    (refine pI (i := 9) (N := some 4) (v := ?_) (a' := ?_) (mB 11 1023) rfl rfl HT_.out (by kernel_rfl) (fun _ _ _ h => h) rfl ?_ ?_ ?_);rotate_left
    ·intro w'
     go_simp;(with_reducible rfl)
    rotate_left
    ·simp only [Act.put, sA]
     rfl
    (refine pI (i := 10) (N := some 5) (v := ?_) (a' := ?_) (mB 11 2047) rfl rfl HT_.out (by kernel_rfl) (fun _ _ _ h => h) rfl ?_ ?_ ?_);rotate_left
    ·intro w'
     go_simp;(with_reducible rfl)
    rotate_left
    ·simp only [Act.put, sA]
     rfl
    (refine done_ (done_of HT_.out (by kernel_rfl)) ?_);(try go_wp2);(go_ret2);(exact ⟨_, zq34, zR HO178.out, zq55⟩)
   ·rw [if_neg c7] at H
    exact absurd H (by simp)
  ·rw [if_neg c6] at H
   exact absurd H (by simp)
 ·rw [if_neg c4] at H
  (have c4b0 : (t171 == 0) = false := beq_eq_false_iff_ne.mpr c4);(have c4b1 : (t171 != 0) = true := bne_iff_ne.mpr c4);(simp only [Option.some.injEq, Prod.mk.injEq] at H);(obtain ⟨rfl, rfl⟩ := H)
  go_enter Tryd.func18, Tryd.ntmps18
  (go_wp2_with (first | ((with_reducible refine gate_callee (f := 61) rfl ?_); refine goesL_ (some 9) rfl rfl Tryd.func61 (by kernel_rfl) rfl #[.slice A0 l0.length c0, .int .i64 a1] rfl zq1 ?_; (with_reducible refine (spec_l14One.calls k _ _ l0 a1 t171 _ ?side1 ?side2 A3.out).mono ?_); (case side1 => exact zq88); (case side2 => exact HC0.out); rintro e w14 ⟨rfl, hb⟩; refine ⟨_, rfl, ?_⟩; have n0_ := Aside0.mk (below_step zq55 hb); clear HB; have HB := n0_; clear n0_; (try clear hb); (try clear hb2); (try clear hk); (try clear hi))));(go_ret2);(exact ⟨_, zq34, zq27, zq55⟩)

/-! ### impl_OldNames: function 19 -/
def impl_OldNames.f (k : Nat) (l0 : List (S64)) (a1 : Int) : Option (List ByteArray × Int) := (impl_editionCode.f k l0 a1).bind fun t179 => (if t179 = 0 then ((impl_namesBefore.f l0 a1).bind fun t180 => (if 0 ≤ a1 then (if a1 < (l0.length : Int) then ((impl_less.f k t180 ((rd_T64 l0 a1).f1)).bind fun t184 => (some (t184, 0))) else (none)) else (none))) else (some (([] : List ByteArray), t179)))
theorem impl_OldNames.mono : ∀ a0 a1 k, LeO (impl_OldNames.f k a0 a1) (impl_OldNames.f (k + 1) a0 a1) := by
 intro a0 a1 k;(unfold impl_OldNames.f)
 repeat' first | with_reducible (first | exact impl_editionCode.mono _ _ _ | exact impl_less.mono _ _ _ | exact LeO.refl _ | exact LeO.none _ | refine LeO.ite ?_ ?_ | refine LeO.bind ?_ (fun _ => ?_)) | exact impl_editionCode.mono _ _ _ | exact impl_less.mono _ _ _ | exact LeO.none _ | refine LeO.ite ?_ ?_ | refine LeO.bind ?_ (fun _ => ?_)
def impl_OldNames.T4 : Bool × List (List Nat × List Nat) := (true, [([], []), ([], []), ([0, 1], [0, 1]), ([], []), ([], []), ([3, 4], [3, 4]), ([5], [5]), ([6], [6]), ([2, 7, 2], [2, 7]), ([8, 8, 0, 1, 2, 3, 4, 5, 6, 7, 8], [8]), ([9, 0, 1, 2, 3, 4, 5, 6, 7, 8, 9], [])])
def impl_OldNames.B4 : List Nat := [0, 0, 3, 0, 0, 24, 56, 120, 255, 511, 1023]
theorem impl_OldNames.tab4 : rtab .any (opsOf Tryd.f19 4) = impl_OldNames.T4 := by kernel_rfl
theorem impl_OldNames.bits4 : waitsOk impl_OldNames.T4.2 impl_OldNames.B4 = true := by kernel_rfl
theorem impl_OldNames.calls (k : Nat) (A0 : Option Addr) (c0 : Nat) (l0 : List (S64)) (a1 : Int) (r1 : List ByteArray) (r2 : Int) (w : World) (hr0 : Kd.C k64 w A0 l0.length l0) (hc0 : l0.length ≤ c0) (h : impl_OldNames.f k l0 a1 = some (r1, r2)) :
  Calls Tryd.prog 19 #[.slice A0 l0.length c0, .int .i64 a1] w fun e w' => ∃ v0_ : Value, e = .returned (.tuple #[v0_, .int .i64 r2]) ∧ Kd.R Kd.string 9 w' w.heap.size (fun _ => True) v0_ r1 ∧ Below w.heap.size w w' := by
 (have HR0 := Aside0.mk hr0);(have HC0 := Aside0.mk hc0);clear hr0 hc0;(have HB := Aside0.mk (Below.refl w.heap.size w));(have H : ((impl_editionCode.f k l0 a1).bind fun t179 => (if t179 = 0 then ((impl_namesBefore.f l0 a1).bind fun t180 => (if 0 ≤ a1 then (if a1 < (l0.length : Int) then ((impl_less.f k t180 ((rd_T64 l0 a1).f1)).bind fun t184 => (some (t184, 0))) else (none)) else (none))) else (some (([] : List ByteArray), t179)))) = some (r1, r2) := h);clear h;(replace H := Option.bind_eq_some_iff.mp H);(obtain ⟨t179, A30, H⟩ := H);(replace H : (if t179 = 0 then ((impl_namesBefore.f l0 a1).bind fun t180 => (if 0 ≤ a1 then (if a1 < (l0.length : Int) then ((impl_less.f k t180 ((rd_T64 l0 a1).f1)).bind fun t184 => (some (t184, 0))) else (none)) else (none))) else (some (([] : List ByteArray), t179))) = some (r1, r2) := H);(have A3 := Aside0.mk A30);clear A30;(by_cases c4 : t179 = 0)
 ·rw [if_pos c4] at H
  (have c4b0 : (t179 == 0) = true := beq_iff_eq.mpr c4);(have c4b1 : (t179 != 0) = false := bne_eq_false_iff_eq.mpr c4);clear c4;(replace H := Option.bind_eq_some_iff.mp H);(obtain ⟨t180, A50, H⟩ := H);(replace H : (if 0 ≤ a1 then (if a1 < (l0.length : Int) then ((impl_less.f k t180 ((rd_T64 l0 a1).f1)).bind fun t184 => (some (t184, 0))) else (none)) else (none)) = some (r1, r2) := H);(have A5 := Aside0.mk A50);clear A50;(by_cases c6 : 0 ≤ a1)
  ·rw [if_pos c6] at H
   (have c6b0 : decide (0 ≤ a1) = true := decide_eq_true c6);clear c6;(by_cases c7 : a1 < (l0.length : Int))
   ·rw [if_pos c7] at H
    (have c7b0 : decide (a1 < (l0.length : Int)) = true := decide_eq_true c7);clear c7;(replace H := Option.bind_eq_some_iff.mp H);(obtain ⟨t184, A80, H⟩ := H);(replace H : (some (t184, 0)) = some (r1, r2) := H);(have A8 := Aside0.mk A80);clear A80;(simp only [Option.some.injEq, Prod.mk.injEq] at H);(obtain ⟨rfl, rfl⟩ := H)
    go_enter Tryd.func19, Tryd.ntmps19
    (try go_wp2_with (first | ((with_reducible refine gate_callee (f := 65) rfl ?_); refine goesL_ (some 9) rfl rfl Tryd.func65 (by kernel_rfl) rfl #[.slice A0 l0.length c0, .int .i64 a1] rfl zq1 ?_; (with_reducible refine (impl_editionCode.calls k _ _ l0 a1 t179 _ ?side1 ?side2 A3.out).mono ?_); (case side1 => exact zq88); (case side2 => exact HC0.out); rintro e w9 ⟨rfl, hb⟩; refine ⟨_, rfl, ?_⟩; have n0_ := Aside0.mk (below_step zq55 hb); clear HB; have HB := n0_; clear n0_; (try clear hb); (try clear hb2); (try clear hk); (try clear hi))));(have n0_ := Aside0.mk (below_drew1 HB.out));clear HB;(have HB := n0_);clear n0_;(have p183 : 0 ≤ (a1 : Int) := of_decide_eq_true zq26);(have q183 : a1 < (l0.length : Int) := of_decide_eq_true zq26);(obtain ⟨ad183, A183_1, c183_1, e183, hx183_0, hx183_1, hl183_1, hi183_1⟩ := at_T64 HR0.out a1 p183 q183);(have hw183_1 := hx183_1);(have hw183_0 := hx183_0)
    cases e183
    (replace hx183_0 := (HB.out.cell (World.block_lt_of_cell? w _ hx183_0)).trans hx183_0);(replace hx183_1 := (HB.out.cell (World.block_lt_of_cell? w _ hx183_1)).trans hx183_1);(have HR183_1 := Aside0.mk hi183_1);(have HC183_1 := Aside0.mk hl183_1);clear hi183_1 hl183_1;(replace p183 := eq_true p183);(replace q183 := eq_true q183);(refine start_ (n := 11) (S := fun w' => w'.cell? (ad183.add ((a1).toNat * 2)) = some (.int .i64 ((rd_T64 l0 a1).f0)) ∧ w'.cell? ⟨(ad183.add ((a1).toNat * 2)).block, (ad183.add ((a1).toNat * 2)).off + 1, none⟩ = some (.slice A183_1 ((rd_T64 l0 a1).f1).length c183_1)) (ds := []) #[false,false,false,false,false,false,false,false,false,false,false] (by kernel_rfl) rfl rfl ⟨((HB.out.cell (World.block_lt_of_cell? w _ hw183_0)).trans hw183_0), ((HB.out.cell (World.block_lt_of_cell? w _ hw183_1)).trans hw183_1)⟩ (fun hHeld => ?_); refine with_tabW impl_OldNames.tab4 impl_OldNames.bits4 (fun HT_ HW_ => ?_));(generalize w9.drew = w10 at HB HR183_1 hx183_0 hx183_1 hHeld ⊢);(refine pI (i := 0) (N := some 13) (v := ?_) (a' := ?_) (mB 11 1) rfl rfl HT_.out (by kernel_rfl) (fun _ _ _ h => h) rfl ?_ ?_ ?_);rotate_left
    ·intro w'
     go_simp;(with_reducible rfl)
    rotate_left
    ·simp only [Act.put, sA]
     rfl
    (refine pI (i := 1) (N := some 14) (v := ?_) (a' := ?_) (mB 11 3) rfl rfl HT_.out (by kernel_rfl) (fun _ _ _ h => h) rfl ?_ ?_ ?_);rotate_left
    ·intro w'
     go_simp;(with_reducible rfl)
    rotate_left
    ·simp only [Act.put, sA]
     rfl
    (refine pI (i := 3) (N := some 16) (v := ?_) (a' := ?_) (mB 11 11) rfl rfl HT_.out (by kernel_rfl) (fun _ _ _ h => h) rfl ?_ ?_ ?_);rotate_left
    ·intro w'
     go_simp;(with_reducible rfl)
    rotate_left
    ·simp only [Act.put, sA]
     rfl
    (refine pI (i := 4) (N := some 17) (v := ?_) (a' := ?_) (mB 11 27) rfl rfl HT_.out (by kernel_rfl) (fun _ _ _ h => h) rfl ?_ ?_ ?_);rotate_left
    ·intro w'
     go_simp;(with_reducible rfl)
    rotate_left
    ·simp only [Act.put, sA]
     rfl
    (refine pI (i := 5) (N := some 18) (v := ?_) (a' := ?_) (mB 11 59) rfl rfl HT_.out (by kernel_rfl) (fun _ _ _ h => h) rfl ?_ ?_ ?_);rotate_left
    ·intro w'
     go_simp;(with_reducible rfl)
    rotate_left
    ·simp only [Act.put, sA]
     rfl
    (refine pI (i := 6) (N := some 19) (v := ?_) (a' := ?_) (mB 11 123) rfl rfl HT_.out (by kernel_rfl) (fun _ _ _ h => h) rfl ?_ ?_ ?_);rotate_left
    ·intro w'
     go_simp;(with_reducible rfl)
    rotate_left
    ·simp only [Act.put, sA]
     rfl
    (refine tI (i := 7) (N := some 20) (v := ?_) (a' := ?_) (mB 11 251) rfl rfl HT_.out HW_.out (by kernel_rfl) (fun _ _ _ h => h) rfl ?_ hHeld ?_ ?_);rotate_left
    ·rintro w' ⟨s0, s1⟩
     go_simp;(with_reducible rfl)
    rotate_left
    ·simp only [Act.put, sA]
     rfl
    (refine one_ (i := 2) (N := some 15) (mB 11 255) rfl rfl (one_of HT_.out (by kernel_rfl)) (by decide) (fun K hK => ?_));(refine goes_ Tryd.func67 (by kernel_rfl) rfl #[.slice (some ad183) l0.length c0, .int .i64 a1] (by rfl) rfl rfl zq1 ?_);(with_reducible refine (impl_namesBefore.calls (fun k_ => k_ < w.heap.size) _ _ l0 a1 t180 _ ?side1 A5.out).mono ?_);((case side1 => exact Kd.V_mk HC0.out (Kd.F_below (Kd.C_F k64_heap HR0.out) zq55)));(rintro e w11 ⟨v181, rfl, ho0, hb⟩);(refine ⟨_, rfl, ?_⟩);(have n0_ := Aside0.mk (Kd.V_lower (Kd.V_mono (ok' := fun k_ => True) ho0 (fun k_ hk_ => trivial)) (below_size zq55)));(have n1_ := Aside0.mk (below_step zq55 hb));clear HB;(have HO182 := n0_);(have HB := n1_);clear n0_ n1_;(try clear hb);(try clear hb2);(try clear hk);(try clear hi);(try clear ho0);(obtain ⟨Ao12, co12, eo12⟩ := Kd.V_slice HO182.out);((first | subst eo12 | (injection eo12 with f1_ f2_ f3_; have f4_ := f1_.symm; have f5_ := f3_.symm; clear f1_ f2_ f3_; subst f4_; subst f5_)));(refine hK.out _ _ ⟨((HB.out.cell (World.block_lt_of_cell? w _ hw183_0)).trans hw183_0), ((HB.out.cell (World.block_lt_of_cell? w _ hw183_1)).trans hw183_1)⟩ (fun hHeld => ?_));clear hK K;(refine norm_ (a' := ?_) ?_ ?_);rotate_left
    ·show Act.put _ (some 15) _ = _
     (simp only [Act.put, sA]);rfl
    (refine one_ (i := 8) (N := some 21) (mB 11 511) rfl rfl (one_of HT_.out (by kernel_rfl)) (by decide) (fun K hK => ?_));(refine goes_ Tryd.func66 (by kernel_rfl) rfl #[.slice Ao12 t180.length co12, .slice A183_1 ((rd_T64 l0 a1).f1).length c183_1] (by rfl) rfl rfl zq1 ?_);(with_reducible refine (impl_less.calls k _ _ t180 _ _ ((rd_T64 l0 a1).f1) t184 _ ?side1 ?side2 ?side3 ?side4 A8.out).mono ?_);((case side1 => exact by repeat (first | exact (Kd.V_reads' HO182.out).2.2 | (with_reducible refine Kd.C_alloc ?_ _) | (with_reducible refine Kd.C_drewN ?_ _) | (with_reducible refine Kd.C_drew ?_))));((case side2 => exact (Kd.V_reads' HO182.out).2.1));((case side3 => exact by repeat (first | exact (Kd.C_below HR183_1.out HB.out) | (with_reducible refine Kd.C_alloc ?_ _) | (with_reducible refine Kd.C_drewN ?_ _) | (with_reducible refine Kd.C_drew ?_))));((case side4 => exact HC183_1.out));(rintro e w13 ⟨v185, rfl, ho0, hb⟩);(refine ⟨_, rfl, ?_⟩);(have n0_ := Aside0.mk (Kd.V_elder' (by (with_reducible repeat (first | apply Kd.V_alloc | apply Kd.V_drewN | apply Kd.V_drew)); exact HO182.out) (Kd.R_base ho0) hb));(have n1_ := Aside0.mk (Kd.R_lower ho0 (below_size zq55)));(have n2_ := Aside0.mk (below_step zq55 hb));clear HO182;clear HB;(have HO182 := n0_);(have HO186 := n1_);(have HB := n2_);clear n0_ n1_ n2_;(try clear hb);(try clear hb2);(try clear hk);(try clear hi);(try clear ho0);(refine hK.out _ _ ⟨((HB.out.cell (World.block_lt_of_cell? w _ hw183_0)).trans hw183_0), ((HB.out.cell (World.block_lt_of_cell? w _ hw183_1)).trans hw183_1)⟩ (fun hHeld => ?_));clear hK K;(refine norm_ (a' := ?_) ?_ ?_);rotate_left
    ·show Act.put _ (some 21) _ = _
     (simp only [Act.put, sA]);rfl
    (refine pI (i := 9) (N := some 4) (v := ?_) (a' := ?_) (mB 11 1023) rfl rfl HT_.out (by kernel_rfl) (fun _ _ _ h => h) rfl ?_ ?_ ?_);rotate_left
    ·intro w'
     go_simp;(with_reducible rfl)
    rotate_left
    ·simp only [Act.put, sA]
     rfl
    (refine pI (i := 10) (N := some 5) (v := ?_) (a' := ?_) (mB 11 2047) rfl rfl HT_.out (by kernel_rfl) (fun _ _ _ h => h) rfl ?_ ?_ ?_);rotate_left
    ·intro w'
     go_simp;(with_reducible rfl)
    rotate_left
    ·simp only [Act.put, sA]
     rfl
    (refine done_ (done_of HT_.out (by kernel_rfl)) ?_);(try go_wp2);(go_ret2);(exact ⟨_, zq34, zR HO186.out, zq55⟩)
   ·rw [if_neg c7] at H
    exact absurd H (by simp)
  ·rw [if_neg c6] at H
   exact absurd H (by simp)
 ·rw [if_neg c4] at H
  (have c4b0 : (t179 == 0) = false := beq_eq_false_iff_ne.mpr c4);(have c4b1 : (t179 != 0) = true := bne_iff_ne.mpr c4);(simp only [Option.some.injEq, Prod.mk.injEq] at H);(obtain ⟨rfl, rfl⟩ := H)
  go_enter Tryd.func19, Tryd.ntmps19
  (go_wp2_with (first | ((with_reducible refine gate_callee (f := 65) rfl ?_); refine goesL_ (some 9) rfl rfl Tryd.func65 (by kernel_rfl) rfl #[.slice A0 l0.length c0, .int .i64 a1] rfl zq1 ?_; (with_reducible refine (impl_editionCode.calls k _ _ l0 a1 t179 _ ?side1 ?side2 A3.out).mono ?_); (case side1 => exact zq88); (case side2 => exact HC0.out); rintro e w14 ⟨rfl, hb⟩; refine ⟨_, rfl, ?_⟩; have n0_ := Aside0.mk (below_step zq55 hb); clear HB; have HB := n0_; clear n0_; (try clear hb); (try clear hb2); (try clear hk); (try clear hi))));(go_ret2);(exact ⟨_, zq34, zq27, zq55⟩)

/-! ### laws_f6big: function 34 -/
def laws_f6big.f (l0 : List Int) : Option (Bool) := some (decide ((l0.length : Int) > 4096))
theorem laws_f6big.calls (A0 : Option Addr) (c0 : Nat) (l0 : List Int) (r : Bool) (w : World) (hr0 : Kd.C (Kd.int .u8) w A0 l0.length l0) (hc0 : l0.length ≤ c0) (h : laws_f6big.f l0 = some r) :
  Calls Tryd.prog 34 #[.slice A0 l0.length c0] w fun e w' => e = .returned (.bool r) ∧ Drawn0 w w' := by
 (have HR0 := Aside0.mk hr0);(have HC0 := Aside0.mk hc0);clear hr0 hc0;(have H : (some (decide ((l0.length : Int) > 4096))) = some r := h);clear h;(obtain rfl := Option.some.inj H)
 go_enter Tryd.func34, Tryd.ntmps34
 (go_wp2);(go_ret);(exact ⟨zq35, zq87⟩)

/-! ### laws_f6texts: function 42 -/
def laws_f6texts.l0 : Nat → List ByteArray → List ByteArray → Int → Option (Bool)
 | 0, _, _, _ => none
 | k + 1, x0, x1, x5 => if x5 < (x0.length : Int) then (if 0 ≤ x5 then (if x5 < (x1.length : Int) then (if (rdOf ByteArray.empty x0 x5).toList = (rdOf ByteArray.empty x1 x5).toList then (laws_f6texts.l0 k x0 x1 (wrap64 (x5 + 1))) else (some false)) else (none)) else (none)) else (some true)
def laws_f6texts.f (k : Nat) (l0 : List ByteArray) (l1 : List ByteArray) : Option (Bool) := if (l0.length : Int) = (l1.length : Int) then (laws_f6texts.l0 k l0 l1 0) else (some false)
theorem laws_f6texts.mono_l : ∀ k, (∀ y0 y1 y2, LeO (laws_f6texts.l0 k y0 y1 y2) (laws_f6texts.l0 (k + 1) y0 y1 y2))
 | 0 => fun _ _ _ r h => by simp [laws_f6texts.l0] at h
 | k + 1 => by
  have ih0 := laws_f6texts.mono_l k
  ·intro y0 y1 y2
   unfold laws_f6texts.l0
   repeat' first | with_reducible (first | exact ih0 _ _ _ | exact LeO.refl _ | exact LeO.none _ | refine LeO.ite ?_ ?_ | refine LeO.bind ?_ (fun _ => ?_)) | exact ih0 _ _ _ | exact LeO.none _ | refine LeO.ite ?_ ?_ | refine LeO.bind ?_ (fun _ => ?_)
theorem laws_f6texts.mono : ∀ a0 a1 k, LeO (laws_f6texts.f k a0 a1) (laws_f6texts.f (k + 1) a0 a1) := by
 intro a0 a1 k;(have ih0 := laws_f6texts.mono_l k);(unfold laws_f6texts.f)
 repeat' first | with_reducible (first | exact ih0 _ _ _ | exact LeO.refl _ | exact LeO.none _ | refine LeO.ite ?_ ?_ | refine LeO.bind ?_ (fun _ => ?_)) | exact ih0 _ _ _ | exact LeO.none _ | refine LeO.ite ?_ ?_ | refine LeO.bind ?_ (fun _ => ?_)
theorem laws_f6texts.calls (k : Nat) (A0 : Option Addr) (c0 : Nat) (l0 : List ByteArray) (A1 : Option Addr) (c1 : Nat) (l1 : List ByteArray) (r : Bool) (w : World) (hr0 : Kd.C Kd.string w A0 l0.length l0) (hc0 : l0.length ≤ c0) (hr1 : Kd.C Kd.string w A1 l1.length l1) (hc1 : l1.length ≤ c1) (h : laws_f6texts.f k l0 l1 = some r) :
  Calls Tryd.prog 42 #[.slice A0 l0.length c0, .slice A1 l1.length c1] w fun e w' => e = .returned (.bool r) ∧ Drawn0 w w' := by
 (have HR0 := Aside0.mk hr0);(have HC0 := Aside0.mk hc0);clear hr0 hc0;(have HR1 := Aside0.mk hr1);(have HC1 := Aside0.mk hc1);clear hr1 hc1;(have H : (if (l0.length : Int) = (l1.length : Int) then (laws_f6texts.l0 k l0 l1 0) else (some false)) = some r := h);clear h;(by_cases c3 : (l0.length : Int) = (l1.length : Int))
 ·rw [if_pos c3] at H
  (have c3b0 : ((l0.length : Int) == (l1.length : Int)) = true := beq_iff_eq.mpr c3);(have c3b1 : ((l0.length : Int) != (l1.length : Int)) = false := bne_eq_false_iff_eq.mpr c3);(have c3b2 : (l0.length == l1.length) = true := zq36);clear c3;(have H' := Aside0.mk H);clear H
  go_enter Tryd.func42, Tryd.ntmps42
  (go_wp2);(repeat (go_quiet (fail); try go_wp2))
  go_loopg [5] k (fun kq v5 w' => ∃ (x5_1 : Int), v5 = .int .i64 x5_1 ∧ Aside0 (laws_f6texts.l0 kq l0 l1 x5_1 = some r) ∧ Aside0 (kq ≤ k) ∧ Drawn0 w w')
  case atStart => exact ⟨(0), zq35, H', ⟨Nat.le_refl _⟩, zq87⟩
  case round =>
   clear H';(try clear c1);(try clear p2);(try clear c3);(try clear c3b0);(try clear c3b1);(try clear c3b2);(obtain ⟨x5_1, rfl, HA, HK1, ⟨m1, rfl⟩⟩ := hrel)
   cases gk with
   | zero => exact absurd HA.out (by simp [laws_f6texts.l0])
   | succ k1 =>
    (have H := HA.out);clear HA;(simp only [laws_f6texts.l0] at H);(by_cases c4 : x5_1 < (l0.length : Int))
    ·rw [if_pos c4] at H
     (have c4b0 : decide (x5_1 < (l0.length : Int)) = true := decide_eq_true c4);clear c4;(by_cases c5 : 0 ≤ x5_1)
     ·rw [if_pos c5] at H
      (have c5b0 : decide (0 ≤ x5_1) = true := decide_eq_true c5);clear c5;(by_cases c6 : x5_1 < (l1.length : Int))
      ·rw [if_pos c6] at H
       (have c6b0 : decide (x5_1 < (l1.length : Int)) = true := decide_eq_true c6);clear c6;(by_cases c7 : (rdOf ByteArray.empty l0 x5_1).toList = (rdOf ByteArray.empty l1 x5_1).toList)
       ·rw [if_pos c7] at H
        (have c7b0 : ((rdOf ByteArray.empty l0 x5_1).toList == (rdOf ByteArray.empty l1 x5_1).toList) = true := beq_iff_eq.mpr c7);(have c7b1 : ((rdOf ByteArray.empty l0 x5_1).toList != (rdOf ByteArray.empty l1 x5_1).toList) = false := bne_eq_false_iff_eq.mpr c7);clear c7;(have H' := Aside0.mk H);clear H;(have p187 : 0 ≤ (x5_1 : Int) := of_decide_eq_true zq26);(have q187 : x5_1 < (l0.length : Int) := of_decide_eq_true zq26);(obtain ⟨ad187, e187, hx187_0⟩ := Kd.at_string HR0.out x5_1 p187 q187)
        cases e187
        (replace p187 := eq_true p187);(replace q187 := eq_true q187);(have p188 : 0 ≤ (x5_1 : Int) := of_decide_eq_true zq26);(have q188 : x5_1 < (l1.length : Int) := of_decide_eq_true zq26);(obtain ⟨ad188, e188, hx188_0⟩ := Kd.at_string HR1.out x5_1 p188 q188)
        cases e188
        (replace p188 := eq_true p188);(replace q188 := eq_true q188);(go_wp2);(repeat (go_quiet (fail); try go_wp2));(go_roundg k1)
        case measure => have := HK1.out; omega
        case rel => exact ⟨(wrap64 (x5_1 + 1)), zq35, H', ⟨zq41⟩, zq87⟩
       ·rw [if_neg c7] at H
        (have c7b0 : ((rdOf ByteArray.empty l0 x5_1).toList == (rdOf ByteArray.empty l1 x5_1).toList) = false := beq_eq_false_iff_ne.mpr c7);(have c7b1 : ((rdOf ByteArray.empty l0 x5_1).toList != (rdOf ByteArray.empty l1 x5_1).toList) = true := bne_iff_ne.mpr c7);(obtain rfl := Option.some.inj H);(have p187 : 0 ≤ (x5_1 : Int) := of_decide_eq_true zq26);(have q187 : x5_1 < (l0.length : Int) := of_decide_eq_true zq26);(obtain ⟨ad187, e187, hx187_0⟩ := Kd.at_string HR0.out x5_1 p187 q187)
        cases e187
        (replace p187 := eq_true p187);(replace q187 := eq_true q187);(have p188 : 0 ≤ (x5_1 : Int) := of_decide_eq_true zq26);(have q188 : x5_1 < (l1.length : Int) := of_decide_eq_true zq26);(obtain ⟨ad188, e188, hx188_0⟩ := Kd.at_string HR1.out x5_1 p188 q188)
        cases e188
        (replace p188 := eq_true p188);(replace q188 := eq_true q188);(go_wp2);(repeat (go_quiet (fail); try go_wp2));(go_ret);(exact ⟨zq35, zq87⟩)
      ·rw [if_neg c6] at H
       exact absurd H (by simp)
     ·rw [if_neg c5] at H
      exact absurd H (by simp)
    ·rw [if_neg c4] at H
     (have c4b0 : decide (x5_1 < (l0.length : Int)) = false := decide_eq_false c4);clear c4;(obtain rfl := Option.some.inj H);(go_wp2);(repeat (go_quiet (fail); try go_wp2));(go_ret);(exact ⟨zq35, zq87⟩)
 ·rw [if_neg c3] at H
  (have c3b0 : ((l0.length : Int) == (l1.length : Int)) = false := beq_eq_false_iff_ne.mpr c3);(have c3b1 : ((l0.length : Int) != (l1.length : Int)) = true := bne_iff_ne.mpr c3);(have c3b2 : (l0.length == l1.length) = false := zq36);(obtain rfl := Option.some.inj H)
  go_enter Tryd.func42, Tryd.ntmps42
  (go_wp2);(repeat (go_quiet (fail); try go_wp2));(go_ret);(exact ⟨zq35, zq87⟩)

/-! ### laws_f6word: function 45 -/
def laws_f6word.l0 : Nat → List ByteArray → ByteArray → Int → Option (Bool)
 | 0, _, _, _ => none
 | k + 1, x0, x1, x5 => if x5 < (x0.length : Int) then (if 0 ≤ x5 then (if (rdOf ByteArray.empty x0 x5).toList = x1.toList then (some true) else (laws_f6word.l0 k x0 x1 (wrap64 (x5 + 1)))) else (none)) else (some false)
def laws_f6word.f (k : Nat) (l0 : List ByteArray) (a1 : ByteArray) : Option (Bool) := laws_f6word.l0 k l0 a1 0
theorem laws_f6word.mono_l : ∀ k, (∀ y0 y1 y2, LeO (laws_f6word.l0 k y0 y1 y2) (laws_f6word.l0 (k + 1) y0 y1 y2))
 | 0 => fun _ _ _ r h => by simp [laws_f6word.l0] at h
 | k + 1 => by
  have ih0 := laws_f6word.mono_l k
  ·intro y0 y1 y2
   unfold laws_f6word.l0
   repeat' first | with_reducible (first | exact ih0 _ _ _ | exact LeO.refl _ | exact LeO.none _ | refine LeO.ite ?_ ?_ | refine LeO.bind ?_ (fun _ => ?_)) | exact ih0 _ _ _ | exact LeO.none _ | refine LeO.ite ?_ ?_ | refine LeO.bind ?_ (fun _ => ?_)
theorem laws_f6word.mono : ∀ a0 a1 k, LeO (laws_f6word.f k a0 a1) (laws_f6word.f (k + 1) a0 a1) := by
 intro a0 a1 k;(have ih0 := laws_f6word.mono_l k);(unfold laws_f6word.f)
 repeat' first | with_reducible (first | exact ih0 _ _ _ | exact LeO.refl _ | exact LeO.none _ | refine LeO.ite ?_ ?_ | refine LeO.bind ?_ (fun _ => ?_)) | exact ih0 _ _ _ | exact LeO.none _ | refine LeO.ite ?_ ?_ | refine LeO.bind ?_ (fun _ => ?_)
theorem laws_f6word.calls (k : Nat) (A0 : Option Addr) (c0 : Nat) (l0 : List ByteArray) (a1 : ByteArray) (r : Bool) (w : World) (hr0 : Kd.C Kd.string w A0 l0.length l0) (hc0 : l0.length ≤ c0) (h : laws_f6word.f k l0 a1 = some r) :
  Calls Tryd.prog 45 #[.slice A0 l0.length c0, .string a1] w fun e w' => e = .returned (.bool r) ∧ Drawn0 w w' := by
 (have HR0 := Aside0.mk hr0);(have HC0 := Aside0.mk hc0);clear hr0 hc0;(have H : (laws_f6word.l0 k l0 a1 0) = some r := h);clear h;(have H' := Aside0.mk H);clear H
 go_enter Tryd.func45, Tryd.ntmps45
 go_wp2
 go_loopg [5] k (fun kq v5 w' => ∃ (x5_1 : Int), v5 = .int .i64 x5_1 ∧ Aside0 (laws_f6word.l0 kq l0 a1 x5_1 = some r) ∧ Aside0 (kq ≤ k) ∧ Drawn0 w w')
 case atStart => exact ⟨(0), zq35, H', ⟨Nat.le_refl _⟩, zq87⟩
 case round =>
  clear H';(try clear p2);(obtain ⟨x5_1, rfl, HA, HK1, ⟨m1, rfl⟩⟩ := hrel)
  cases gk with
  | zero => exact absurd HA.out (by simp [laws_f6word.l0])
  | succ k1 =>
   (have H := HA.out);clear HA;(simp only [laws_f6word.l0] at H);(by_cases c3 : x5_1 < (l0.length : Int))
   ·rw [if_pos c3] at H
    (have c3b0 : decide (x5_1 < (l0.length : Int)) = true := decide_eq_true c3);clear c3;(by_cases c4 : 0 ≤ x5_1)
    ·rw [if_pos c4] at H
     (have c4b0 : decide (0 ≤ x5_1) = true := decide_eq_true c4);clear c4;(by_cases c5 : (rdOf ByteArray.empty l0 x5_1).toList = a1.toList)
     ·rw [if_pos c5] at H
      (have c5b0 : ((rdOf ByteArray.empty l0 x5_1).toList == a1.toList) = true := beq_iff_eq.mpr c5);(have c5b1 : ((rdOf ByteArray.empty l0 x5_1).toList != a1.toList) = false := bne_eq_false_iff_eq.mpr c5);clear c5;(obtain rfl := Option.some.inj H);(have p189 : 0 ≤ (x5_1 : Int) := of_decide_eq_true zq26);(have q189 : x5_1 < (l0.length : Int) := of_decide_eq_true zq26);(obtain ⟨ad189, e189, hx189_0⟩ := Kd.at_string HR0.out x5_1 p189 q189)
      cases e189
      (replace p189 := eq_true p189);(replace q189 := eq_true q189);(go_wp2);(go_ret);(exact ⟨zq35, zq87⟩)
     ·rw [if_neg c5] at H
      (have c5b0 : ((rdOf ByteArray.empty l0 x5_1).toList == a1.toList) = false := beq_eq_false_iff_ne.mpr c5);(have c5b1 : ((rdOf ByteArray.empty l0 x5_1).toList != a1.toList) = true := bne_iff_ne.mpr c5);(have H' := Aside0.mk H);clear H;(have p189 : 0 ≤ (x5_1 : Int) := of_decide_eq_true zq26);(have q189 : x5_1 < (l0.length : Int) := of_decide_eq_true zq26);(obtain ⟨ad189, e189, hx189_0⟩ := Kd.at_string HR0.out x5_1 p189 q189)
      cases e189
      (replace p189 := eq_true p189);(replace q189 := eq_true q189);(go_wp2);(go_roundg k1)
      case measure => have := HK1.out; omega
      case rel => exact ⟨(wrap64 (x5_1 + 1)), zq35, H', ⟨zq41⟩, zq87⟩
    ·rw [if_neg c4] at H
     exact absurd H (by simp)
   ·rw [if_neg c3] at H
    (have c3b0 : decide (x5_1 < (l0.length : Int)) = false := decide_eq_false c3);clear c3;(obtain rfl := Option.some.inj H);(go_wp2);(go_ret);(exact ⟨zq35, zq87⟩)

/-- A state of type 134 at block g of W; what its slices lead to came in by w0. -/
def IsS134 (w0 W : World) (g : Nat) (f0 : List Int) (f1 : Int) (f2 : Int) : Prop := ∃ A0 c0, W.heap[g]? = some (.cells #[.slice A0 f0.length c0, .int .i64 f1, .int .u64 f2] 134 (0, 0)) ∧ w0.heap.size ≤ g ∧ Kd.C (Kd.int .u8) w0 A0 f0.length f0
theorem IsS134.grown {w0 W : World} {g : Nat} {f0 : List Int} {f1 : Int} {f2 : Int} {W1 : World} {row : Option Nat} (h : IsS134 w0 W g f0 f1 f2) (hw : W.grownBy W1 row) (hne : some g ≠ row) : IsS134 w0 W1 g f0 f1 f2 := by
 (obtain ⟨A0, c0, hb, hg, hr0⟩ := h);(exact ⟨A0, c0, blk_grown hb hw hne, hg, hr0⟩)
theorem IsS134.own_neN {w0 W : World} {g : Nat} {f0 : List Int} {f1 : Int} {f2 : Int} {α : Type} {d : Kd α} {e : Nat} {base : Nat} {ok : Nat → Prop} {v : Value} {xs : List α} (h : IsS134 w0 W g f0 f1 f2) (ho : Kd.N d e W base ok v xs) (ht : e ≠ 134) : some g ≠ v.ownBlock := by
 (obtain ⟨A0, c0, hb, hg, hr0⟩ := h);(exact Kd.N_ne ho hb ht)
theorem IsS134.fresh {w0 W : World} {g : Nat} {f0 : List Int} {f1 : Int} {f2 : Int} (h : IsS134 w0 W g f0 f1 f2) : ∀ k, W.heap.size ≤ k → k ≠ g := by
 (obtain ⟨A0, c0, hb, hg, hr0⟩ := h);(exact Kd.freshB hb)
theorem IsS134.kept {w0 W : World} {g : Nat} {f0 : List Int} {f1 : Int} {f2 : Int} {W1 : World} {S : Nat → Prop} (h : IsS134 w0 W g f0 f1 f2) (hk : Kept W W1 S) (hne : ¬ S g) : IsS134 w0 W1 g f0 f1 f2 := by
 (obtain ⟨A0, c0, hb, hg, hr0⟩ := h);(exact ⟨A0, c0, blk_kept hb hk hne, hg, hr0⟩)
theorem IsS134.below {w0 W : World} {g : Nat} {f0 : List Int} {f1 : Int} {f2 : Int} {W1 : World} (h : IsS134 w0 W g f0 f1 f2) (hw : Below W.heap.size W W1) : IsS134 w0 W1 g f0 f1 f2 := h.grown (grown_of_below hw none) (by simp)
theorem IsS134.alloc {w0 W : World} {g : Nat} {f0 : List Int} {f1 : Int} {f2 : Int} (h : IsS134 w0 W g f0 f1 f2) (o : Obj) : IsS134 w0 (W.alloc o) g f0 f1 f2 := h.below (below_alloc (Below.refl _ _) o)
theorem IsS134.drewN {w0 W : World} {g : Nat} {f0 : List Int} {f1 : Int} {f2 : Int} (h : IsS134 w0 W g f0 f1 f2) (m : Nat) : IsS134 w0 (W.drewN m) g f0 f1 f2 := h
theorem IsS134.drew {w0 W : World} {g : Nat} {f0 : List Int} {f1 : Int} {f2 : Int} (h : IsS134 w0 W g f0 f1 f2) : IsS134 w0 W.drew g f0 f1 f2 := h
theorem IsS134.at_ {w0 W : World} {g : Nat} {f0 : List Int} {f1 : Int} {f2 : Int} {w' : World} {m : Nat} (hq : W.drewN m = w') (h : IsS134 w0 W g f0 f1 f2) : IsS134 w0 w' g f0 f1 f2 := by subst hq; exact IsS134.drewN h m
theorem IsS134.apart {w0 W : World} {g : Nat} {f0 : List Int} {f1 : Int} {f2 : Int} {α : Type} {d : Kd α} {e : Nat} {base : Nat} {ok : Nat → Prop} {v : Value} {xs : List α} (h : IsS134 w0 W g f0 f1 f2) (ho : d.R e W base ok v xs) (ht : ∀ q, q ∈ e :: d.E → q ≠ 134) : d.R e W base (fun k => ok k ∧ k ≠ g) v xs := by
 (obtain ⟨A0, c0, hb, hg, hr0⟩ := h);(exact Kd.R_types ho hb ht)
theorem IsS134.own_ne {w0 W : World} {g : Nat} {f0 : List Int} {f1 : Int} {f2 : Int} {α : Type} {d : Kd α} {e : Nat} {base : Nat} {ok : Nat → Prop} {v : Value} {xs : List α} (h : IsS134 w0 W g f0 f1 f2) (ho : d.R e W base ok v xs) (ht : e ≠ 134) : some g ≠ v.ownBlock := by
 (obtain ⟨A0, c0, hb, hg, hr0⟩ := h);(exact Kd.R_ne ho hb ht)
theorem IsS134.apartQ {w0 W : World} {g : Nat} {f0 : List Int} {f1 : Int} {f2 : Int} {α : Type} {d : Kd α} {e : Nat} {base : Nat} {ok : Nat → Prop} {v : Value} {xs : List α} (h : IsS134 w0 W g f0 f1 f2) (ho : d.Q e W base ok v xs) (ht : ∀ q, q ∈ e :: d.E → q ≠ 134) : d.Q e W base (fun k => ok k ∧ k ≠ g) v xs := by
 (obtain ⟨A0, c0, hb, hg, hr0⟩ := h);(exact Kd.Q_types ho hb ht)
theorem IsS134.own_neQ {w0 W : World} {g : Nat} {f0 : List Int} {f1 : Int} {f2 : Int} {α : Type} {d : Kd α} {e : Nat} {base : Nat} {ok : Nat → Prop} {v : Value} {xs : List α} (h : IsS134 w0 W g f0 f1 f2) (ho : d.Q e W base ok v xs) (ht : e ≠ 134) : some g ≠ v.ownBlock := by
 (obtain ⟨A0, c0, hb, hg, hr0⟩ := h);(exact Kd.Q_ne ho hb ht)
theorem IsS134.apartS {w0 W : World} {g : Nat} {f0 : List Int} {f1 : Int} {f2 : Int} {α : Type} {d : Kd α} {e : Nat} {base : Nat} {ok : Nat → Prop} {v : Value} {xs : List α} (h : IsS134 w0 W g f0 f1 f2) (ho : d.S e W base ok v xs) (ht : ∀ q, q ∈ e :: d.E → q ≠ 134) : d.S e W base (fun k => ok k ∧ k ≠ g) v xs := by
 (obtain ⟨A0, c0, hb, hg, hr0⟩ := h);(exact Kd.S_types ho hb ht)
theorem IsS134.own_neS {w0 W : World} {g : Nat} {f0 : List Int} {f1 : Int} {f2 : Int} {α : Type} {d : Kd α} {e : Nat} {base : Nat} {ok : Nat → Prop} {v : Value} {xs : List α} (h : IsS134 w0 W g f0 f1 f2) (ho : d.S e W base ok v xs) (ht : e ≠ 134) : some g ≠ v.ownBlock := by
 (obtain ⟨A0, c0, hb, hg, hr0⟩ := h);(exact Kd.S_ne ho hb ht)
theorem IsS134.lt {w0 W : World} {g : Nat} {f0 : List Int} {f1 : Int} {f2 : Int} (h : IsS134 w0 W g f0 f1 f2) : g < W.heap.size := by
 (obtain ⟨A0, c0, hb, hg, hr0⟩ := h);(exact blk_lt hb)
theorem IsS134.ge {w0 W : World} {g : Nat} {f0 : List Int} {f1 : Int} {f2 : Int} (h : IsS134 w0 W g f0 f1 f2) : w0.heap.size ≤ g := by
 (obtain ⟨A0, c0, hb, hg, hr0⟩ := h);(exact hg)
theorem IsS134.ne_blk {w0 W : World} {g : Nat} {f0 : List Int} {f1 : Int} {f2 : Int} {a : Nat} {cs : Array Value} {t : TypeId} {fr : Nat × Nat} (h : IsS134 w0 W g f0 f1 f2) (hb2 : W.heap[a]? = some (.cells cs t fr)) (ht : t ≠ 134) : g ≠ a := by
 (obtain ⟨A0, c0, hb, hg, hr0⟩ := h);(rintro rfl);(rw [hb] at hb2)
 injection hb2 with hb2
 injection hb2 with _ ht2
 exact ht ht2.symm
theorem IsS134.far {w0 W : World} {g : Nat} {f0 : List Int} {f1 : Int} {f2 : Int} {p : Addr} (h : IsS134 w0 W g f0 f1 f2) (hne : g ≠ p.block) (u : Value) : IsS134 w0 (W.setCell p u) g f0 f1 f2 := by
 (obtain ⟨A0, c0, hb, hg, hr0⟩ := h);(exact ⟨A0, c0, blk_far hb hne u, hg, hr0⟩)
theorem cellS134_0 {W : World} {g : Nat} {A0 : Option Addr} {c0 : Nat} {f0 : List Int} {f1 : Int} {f2 : Int} (h : W.heap[g]? = some (.cells #[.slice A0 f0.length c0, .int .i64 f1, .int .u64 f2] 134 (0, 0))) : W.cell? ⟨g, 0, none⟩ = some (.slice A0 f0.length c0) := (blk_cell h 0).trans rfl
theorem cellS134_1 {W : World} {g : Nat} {A0 : Option Addr} {c0 : Nat} {f0 : List Int} {f1 : Int} {f2 : Int} (h : W.heap[g]? = some (.cells #[.slice A0 f0.length c0, .int .i64 f1, .int .u64 f2] 134 (0, 0))) : W.cell? ⟨g, 1, none⟩ = some (.int .i64 f1) := (blk_cell h 1).trans rfl
theorem IsS134.set_1 {w0 W : World} {g : Nat} {f0 : List Int} {f1 : Int} {f2 : Int} (h : IsS134 w0 W g f0 f1 f2) (x : Int) : IsS134 w0 (W.setCell ⟨g, 1, none⟩ (.int .i64 x)) g f0 x f2 := by
 (obtain ⟨A0, c0, hb, hg, hr0⟩ := h);(exact ⟨A0, c0, by simpa using blk_set hb 1 (.int .i64 x), hg, hr0⟩)
theorem cellS134_2 {W : World} {g : Nat} {A0 : Option Addr} {c0 : Nat} {f0 : List Int} {f1 : Int} {f2 : Int} (h : W.heap[g]? = some (.cells #[.slice A0 f0.length c0, .int .i64 f1, .int .u64 f2] 134 (0, 0))) : W.cell? ⟨g, 2, none⟩ = some (.int .u64 f2) := (blk_cell h 2).trans rfl
theorem IsS134.set_2 {w0 W : World} {g : Nat} {f0 : List Int} {f1 : Int} {f2 : Int} (h : IsS134 w0 W g f0 f1 f2) (x : Int) : IsS134 w0 (W.setCell ⟨g, 2, none⟩ (.int .u64 x)) g f0 f1 x := by
 (obtain ⟨A0, c0, hb, hg, hr0⟩ := h);(exact ⟨A0, c0, by simpa using blk_set hb 2 (.int .u64 x), hg, hr0⟩)
theorem IsS134.new (w0 W : World) (A0 : Option Addr) (c0 : Nat) (f0 : List Int) (f1 : Int) (f2 : Int) (hB : Below w0.heap.size w0 W) (hr0 : Kd.C (Kd.int .u8) w0 A0 f0.length f0) : IsS134 w0 (W.alloc (.cells #[.slice A0 f0.length c0, .int .i64 f1, .int .u64 f2] 134)) W.heap.size f0 f1 f2 := ⟨A0, c0, by simpa using heap_alloc_new W _, hB.size, hr0⟩

/-! ### spec_l00From: function 89 -/
def spec_l00From.f (l0 : List Int) : Option (List Int × Int × Int) := some (l0, 0, 0)
theorem spec_l00From.calls (A0 : Option Addr) (c0 : Nat) (l0 : List Int) (r1 : List Int) (r2 : Int) (r3 : Int) (w0 w : World) (hB : Below w0.heap.size w0 w) (hr0 : Kd.C (Kd.int .u8) w0 A0 l0.length l0) (hc0 : l0.length ≤ c0) (h : spec_l00From.f l0 = some (r1, r2, r3)) :
  Calls Tryd.prog 89 #[.slice A0 l0.length c0] w fun e w' => ∃ g_ : Nat, e = .returned (.pointer (some ⟨g_, 0, none⟩)) ∧ IsS134 w0 w' g_ r1 r2 r3 ∧ Below w0.heap.size w0 w' ∧ Below w.heap.size w w' := by
 (have hu134 := Tryd.underlying134);(have HR0 := Aside0.mk hr0);(have HC0 := Aside0.mk hc0);clear hr0 hc0;(have HBW := Aside0.mk (Below.refl w.heap.size w));(have HW0 := Aside0.mk hB.size);(have HB := Aside0.mk hB);clear hB;(have H : (some (l0, 0, 0)) = some (r1, r2, r3) := h);clear h;(simp only [Option.some.injEq, Prod.mk.injEq] at H);(obtain ⟨rfl, rfl, rfl⟩ := H)
 go_enter Tryd.func89, Tryd.ntmps89
 (go_wp2_with (first | ((with_reducible refine gate_dst (N := 5) rfl ?_); refine box_event ?hg (N := 5) ?hd (cs := #[.slice A0 l0.length c0, .int .i64 0, .int .u64 0]) (t := 134) ?hr ?_; (case hd => rfl); (case hg => rfl); (case hr => first | (go_simp; done) | (go_simp; rfl)); intro gb190 hg w2 hbox hb; have n0_ := Aside0.mk (below_step HBW.out hb); have n1_ := Aside0.mk (below_step zq55 hb); have n2_ := Aside0.mk (hbox); have n3_ := Aside0.mk ((zq91 : w.heap.size ≤ gb190)); have n4_ := Aside0.mk ((Nat.le_trans HW0.out (zq91 : w.heap.size ≤ gb190) : w0.heap.size ≤ gb190)); clear HBW; clear HB; have HBW := n0_; have HB := n1_; have BK190 := n2_; have GW190 := n3_; have GE190 := n4_; clear n0_ n1_ n2_ n3_ n4_; clear hb hbox hg)));(go_ret);(exact ⟨_, rfl, (show IsS134 w0 _ gb190 l0 0 0 from ⟨_, _, by (with_reducible repeat (first | refine blk_drewN ?_ _ | refine blk_drew ?_ | refine blk_alloc ?_ _)); exact BK190.out, GE190.out, HR0.out⟩), by repeat (first | (with_reducible first | exact HB.out | apply below_alloc | apply pw_below_drewN | apply below_drew1 | refine below_set ?_ GE190.out) | exact HB.out), by repeat (first | (with_reducible first | exact HBW.out | apply below_alloc | apply pw_below_drewN | apply below_drew1 | refine below_set ?_ GW190.out) | exact HBW.out)⟩)

end Go.Proofs.YtalmeecdjhelkaaDoor.PFnEditions
