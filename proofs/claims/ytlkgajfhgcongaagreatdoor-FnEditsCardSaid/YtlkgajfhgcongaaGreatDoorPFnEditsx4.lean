-- Made by a program of this session (gprint.py) out of the kit's print of the translation and texts of my own. SLIM
import Derived.Test.YtlkgajfhgcongaaGreatDoorPFnEditsx0
import Derived.Test.YtlkgajfhgcongaaGreatDoorPFnEditsx3
namespace Go.Proofs.YtlkgajfhgcongaaGreatDoor.PFnEdits
open Go.RowKit Go.Proofs.YtlkgajfhgcongaaGreatDoorW.PrintWords Go.Proofs.YtlkgajfhgcongaaGreatDoorW.PrintLast Go.Proofs.YtlkgajfhgcongaaGreatDoorW.PrintMore
set_option maxHeartbeats 64000000
set_option maxRecDepth 100000
attribute [local go_sem] max2_int min2_int max_two min_two max_three min_three max_four min_four   -- for this text's walks alone
set_option linter.unusedVariables false
set_option linter.unusedSimpArgs false

/-! ### impl_EditsBetween: function 6 -/
def impl_EditsBetween.l0 : Nat → List ByteArray → List ByteArray → List (S36) → Int → Int → Option ((List (S36)) × Int)
 | 0, _, _, _, _, _ => none
 | k + 1, x0, x1, x7, x18, x19 => if x19 < x18 then (if 0 ≤ x19 then (if x19 < (x0.length : Int) then (if x19 < (x1.length : Int) then (if (rdOf ByteArray.empty x0 x19).toList = (rdOf ByteArray.empty x1 x19).toList then (impl_EditsBetween.l0 k x0 x1 x7 x18 (wrap64 (x19 + 1))) else (if x7.length < 3518437208883 then (impl_EditsBetween.l0 k x0 x1 (x7 ++ [(⟨x19, rdOf ByteArray.empty x0 x19, rdOf ByteArray.empty x1 x19⟩ : S36)]) x18 (wrap64 (x19 + 1))) else (none))) else (none)) else (none)) else (none)) else (some (x7, 0))
def impl_EditsBetween.f (k : Nat) (l0 : List ByteArray) (l1 : List ByteArray) : Option ((List (S36)) × Int) := (impl_platesCode.f k (([l0, l1] : List (List ByteArray)))).bind fun t184 => (if t184 = 0 then (impl_EditsBetween.l0 k l0 l1 (([] : List (S36))) (l0.length : Int) 0) else (some (([] : List (S36)), t184)))
theorem impl_EditsBetween.mono_l : ∀ k, (∀ y0 y1 y2 y3 y4, LeO (impl_EditsBetween.l0 k y0 y1 y2 y3 y4) (impl_EditsBetween.l0 (k + 1) y0 y1 y2 y3 y4))
 | 0 => fun _ _ _ _ _ r h => by simp [impl_EditsBetween.l0] at h
 | k + 1 => by
  have ih0 := impl_EditsBetween.mono_l k
  ·intro y0 y1 y2 y3 y4
   unfold impl_EditsBetween.l0
   repeat' first | with_reducible (first | exact ih0 _ _ _ _ _ | exact impl_platesCode.mono _ _ | exact LeO.refl _ | exact LeO.none _ | refine LeO.ite ?_ ?_ | refine LeO.bind ?_ (fun _ => ?_)) | exact ih0 _ _ _ _ _ | exact impl_platesCode.mono _ _ | exact LeO.none _ | refine LeO.ite ?_ ?_ | refine LeO.bind ?_ (fun _ => ?_)
theorem impl_EditsBetween.mono : ∀ a0 a1 k, LeO (impl_EditsBetween.f k a0 a1) (impl_EditsBetween.f (k + 1) a0 a1) := by
 intro a0 a1 k;(have ih0 := impl_EditsBetween.mono_l k);(unfold impl_EditsBetween.f)
 repeat' first | with_reducible (first | exact ih0 _ _ _ _ _ | exact impl_platesCode.mono _ _ | exact LeO.refl _ | exact LeO.none _ | refine LeO.ite ?_ ?_ | refine LeO.bind ?_ (fun _ => ?_)) | exact ih0 _ _ _ _ _ | exact impl_platesCode.mono _ _ | exact LeO.none _ | refine LeO.ite ?_ ?_ | refine LeO.bind ?_ (fun _ => ?_)
def impl_EditsBetween.T8 : Bool × List (List Nat × List Nat) := (true, [([], []), ([], []), ([0, 1], [0, 1]), ([2], [2]), ([], []), ([], []), ([4, 5], [4, 5]), ([6], [6]), ([3, 7], [3, 7])])
def impl_EditsBetween.B8 : List Nat := [0, 0, 3, 7, 0, 0, 48, 112, 255]
theorem impl_EditsBetween.tab8 : rtab .any (opsOf Tryz.f6 8) = impl_EditsBetween.T8 := by kernel_rfl
theorem impl_EditsBetween.bits8 : waitsOk impl_EditsBetween.T8.2 impl_EditsBetween.B8 = true := by kernel_rfl
def impl_EditsBetween.T9 : Bool × List (List Nat × List Nat) := (true, [([], []), ([], []), ([], []), ([], []), ([2, 3], [2, 3]), ([4], [4]), ([], []), ([], []), ([6, 7], [6, 7]), ([8], [8]), ([1, 5, 9], [1, 5, 9]), ([10], [10]), ([0, 11], [0, 11]), ([12, 12, 0, 1, 2, 3, 4, 5, 6, 7, 8, 9, 10, 11, 12], [0, 12])])
def impl_EditsBetween.B9 : List Nat := [0, 0, 0, 0, 12, 28, 0, 0, 192, 448, 1022, 2046, 4095, 8191]
theorem impl_EditsBetween.tab9 : rtab .any (opsOf Tryz.f6 9) = impl_EditsBetween.T9 := by kernel_rfl
theorem impl_EditsBetween.bits9 : waitsOk impl_EditsBetween.T9.2 impl_EditsBetween.B9 = true := by kernel_rfl
theorem impl_EditsBetween.calls (k : Nat) (P0_ : Nat → Prop) (A0 : Option Addr) (c0 : Nat) (l0 : List ByteArray) (P1_ : Nat → Prop) (A1 : Option Addr) (c1 : Nat) (l1 : List ByteArray) (r1 : List (S36)) (r2 : Int) (w : World) (hs0 : Kd.V Kd.string 9 w w.heap.size (fun k_ => P0_ k_) (.slice A0 l0.length c0) l0) (hs1 : Kd.V Kd.string 9 w w.heap.size (fun k_ => P1_ k_) (.slice A1 l1.length c1) l1) (h : impl_EditsBetween.f k l0 l1 = some (r1, r2)) :
  Calls Tryz.prog 6 #[.slice A0 l0.length c0, .slice A1 l1.length c1] w fun e w' => ∃ v0_ : Value, e = .returned (.tuple #[v0_, .int .i64 r2]) ∧ Kd.R k36 36 w' w.heap.size (fun k_ => (w.heap.size ≤ k_)) v0_ r1 ∧ Below w.heap.size w w' := by
 (have hu36 := Tryz.underlying36);(have HO0 := Aside0.mk (show Kd.V Kd.string 9 w w.heap.size (fun k_ => ((P0_ k_ ∨ P1_ k_) ∨ w.heap.size ≤ k_)) (.slice A0 l0.length c0) l0 from Kd.V_mono hs0 (fun k_ hk => .inl (.inl hk))));(have HO1 := Aside0.mk (show Kd.V Kd.string 9 w w.heap.size (fun k_ => ((P0_ k_ ∨ P1_ k_) ∨ w.heap.size ≤ k_)) (.slice A1 l1.length c1) l1 from Kd.V_mono hs1 (fun k_ hk => .inl (.inr hk))));(have HB := Aside0.mk (Below.refl w.heap.size w));(have H : ((impl_platesCode.f k (([l0, l1] : List (List ByteArray)))).bind fun t184 => (if t184 = 0 then (impl_EditsBetween.l0 k l0 l1 (([] : List (S36))) (l0.length : Int) 0) else (some (([] : List (S36)), t184)))) = some (r1, r2) := h);clear h;(obtain ⟨y181, hy_⟩ : ∃ y_ : List (List ByteArray), y_ = (([l0, l1] : List (List ByteArray))) := ⟨_, rfl⟩);(replace H : ((impl_platesCode.f k y181).bind fun t184 => (if t184 = 0 then (impl_EditsBetween.l0 k l0 l1 (([] : List (S36))) (l0.length : Int) 0) else (some (([] : List (S36)), t184)))) = some (r1, r2) := zq34);(have Ny181 := Aside0.mk hy_);clear hy_;(replace H := Option.bind_eq_some_iff.mp H);(obtain ⟨t184, A30, H⟩ := H);(replace H : (if t184 = 0 then (impl_EditsBetween.l0 k l0 l1 (([] : List (S36))) (l0.length : Int) 0) else (some (([] : List (S36)), t184))) = some (r1, r2) := H);(have A3 := Aside0.mk A30);clear A30;(by_cases c4 : t184 = 0)
 ·rw [if_pos c4] at H
  (have c4b0 : (t184 == 0) = true := beq_iff_eq.mpr c4);(have c4b1 : (t184 != 0) = false := bne_eq_false_iff_eq.mpr c4);clear c4;(obtain ⟨y185, hy_⟩ : ∃ y_ : List (S36), y_ = (([] : List (S36))) := ⟨_, rfl⟩);(replace H : (impl_EditsBetween.l0 k l0 l1 y185 (l0.length : Int) 0) = some (r1, r2) := zq34);(have Ny185 := Aside0.mk hy_);clear hy_;(have H' := Aside0.mk H);clear H
  go_enter Tryz.func6, Tryz.ntmps6
  go_wp2_with (first | ((with_reducible refine gate_dst (N := 11) rfl ?_); refine Kd.N_lit (Kd.slice 9 Kd.string) _ 24 ?hg (N' := 11) ?hd (xs := ([l0, l1] : List (List ByteArray))) (inner := [.slice A0 l0.length c0, .slice A1 l1.length c1]) (ok := (fun k_ => ((P0_ k_ ∨ P1_ k_) ∨ w.heap.size ≤ k_))) (okp := (fun k_ => ((P0_ k_ ∨ P1_ k_) ∨ w.heap.size ≤ k_))) ?hr ?hp (fun _ hk => hk) ((show ∀ k_, w.heap.size ≤ k_ → (fun k_ => ((P0_ k_ ∨ P1_ k_) ∨ w.heap.size ≤ k_)) k_ from fun k_ hk => (.inr (Nat.le_trans (below_size zq54) hk))) _ (Nat.le_refl _)) (Below.refl _ _) (Nat.le_refl _) (by simp) ?_; (case hd => rfl); (case hg => rfl); (case hr => first | (go_simp; done) | (go_simp; rfl)); (case hp => exact (Reps.one (show Kd.FK (Kd.slice 9 Kd.string) _ _ l0 [.slice A0 l0.length c0] from (Kd.FK_slice_mk (Kd.V_reads' (Kd.V_mono (ok' := (fun k_ => ((P0_ k_ ∨ P1_ k_) ∨ w.heap.size ≤ k_))) (HO0.out) (fun k_ hk => hk))).2.1 (Kd.V_F (Kd.V_mono (ok' := (fun k_ => ((P0_ k_ ∨ P1_ k_) ∨ w.heap.size ≤ k_))) (HO0.out) (fun k_ hk => hk))))) (Reps.one (show Kd.FK (Kd.slice 9 Kd.string) _ _ l1 [.slice A1 l1.length c1] from (Kd.FK_slice_mk (Kd.V_reads' (Kd.V_mono (ok' := (fun k_ => ((P0_ k_ ∨ P1_ k_) ∨ w.heap.size ≤ k_))) (HO1.out) (fun k_ hk => hk))).2.1 (Kd.V_F (Kd.V_mono (ok' := (fun k_ => ((P0_ k_ ∨ P1_ k_) ∨ w.heap.size ≤ k_))) (HO1.out) (fun k_ hk => hk))))) (Reps.none _ _)))); intro v182 w5 ho6 hb hg_ hnew_; clear hg_ hnew_; (first | rw [← Ny181.out] at ho6 | (simp only [Int.reduceToNat] at ho6; rw [← Ny181.out] at ho6)); have n0_ := Aside0.mk (Kd.V_elder' zq6 (Kd.N_base ho6) hb); have n1_ := Aside0.mk (Kd.V_elder' zq7 (Kd.N_base ho6) hb); have n2_ := Aside0.mk (Kd.N_lower ho6 (below_size zq54)); have n3_ := Aside0.mk (below_step zq54 hb); clear HO0; clear HO1; clear HB; have HO0 := n0_; have HO1 := n1_; have HO183 := n2_; have HB := n3_; clear n0_ n1_ n2_ n3_; clear hb ho6; obtain ⟨Ao7, co7, eo7⟩ := Kd.N_slice HO183.out; subst eo7) | ((with_reducible refine gate_callee (f := 18) rfl ?_); refine goesL_ (some 12) rfl rfl Tryz.func18 (by kernel_rfl) rfl #[.slice Ao7 y181.length co7] rfl zq0 ?_; (with_reducible refine (impl_platesCode.calls k _ _ y181 t184 _ ?side1 ?side2 A3.out).mono ?_); (case side1 => exact zq64); (case side2 => exact (Kd.N_reads' HO183.out).2.1); rintro e w8 ⟨rfl, hb⟩; refine ⟨_, rfl, ?_⟩; have n0_ := Aside0.mk (Kd.V_below zq6 hb); have n1_ := Aside0.mk (Kd.V_below zq7 hb); have n2_ := Aside0.mk (Kd.N_below zq1 hb); have n3_ := Aside0.mk (below_step zq54 hb); clear HO0; clear HO1; clear HO183; clear HB; have HO0 := n0_; have HO1 := n1_; have HO183 := n2_; have HB := n3_; clear n0_ n1_ n2_ n3_; (try clear hb); (try clear hb2); (try clear hk); (try clear hi)) | ((with_reducible refine gate_dst (N := 16) rfl ?_); refine Kd.R_lit k36 _ 36 ?hg (N := 16) ?hd (xs := ([] : List (S36))) (inner := []) (ok := fun _ => True) (okp := fun _ => True) ?hr ?hp (fun _ hk => hk) trivial (Below.refl _ _) (Nat.le_refl _) (by simp) ?_; (case hd => rfl); (case hg => rfl); (case hr => first | (go_simp; done) | (go_simp; rfl)); (case hp => exact (Reps.none _ _)); intro v186 w9 ho10 hb hg_ hnew_; clear hg_ hnew_; (first | rw [← Ny185.out] at ho10 | (simp only [Int.reduceToNat] at ho10; rw [← Ny185.out] at ho10)); have n0_ := Aside0.mk (Kd.V_elder' zq6 (Kd.R_base ho10) hb); have n1_ := Aside0.mk (Kd.V_elder' zq7 (Kd.R_base ho10) hb); have n2_ := Aside0.mk (Kd.N_elder' zq1 (Kd.R_base ho10) hb); have n3_ := Aside0.mk (Kd.R_lower (Kd.R_newM (M := fun k_ => (w.heap.size ≤ k_)) ho10 (below_size zq54) (fun k_ h_ => h_)) (below_size zq54)); have n4_ := Aside0.mk (below_step zq54 hb); clear HO0; clear HO1; clear HO183; clear HB; have HO0 := n0_; have HO1 := n1_; have HO183 := n2_; have HO187 := n3_; have HB := n4_; clear n0_ n1_ n2_ n3_ n4_; clear hb ho10))
  go_loopg [7, 19] k (fun kq v7 v19 w' => ∃ (x7_1 : List (S36)) (x19_1 : Int), v19 = .int .i64 x19_1 ∧ Aside0 (impl_EditsBetween.l0 kq l0 l1 x7_1 (l0.length : Int) x19_1 = some (r1, r2)) ∧ Aside0 (kq ≤ k) ∧ Aside0 (Kd.V Kd.string 9 w' w.heap.size (fun k_ => ((P0_ k_ ∨ P1_ k_) ∨ w.heap.size ≤ k_) ∧ some k_ ≠ (v7 : Value).ownBlock) (.slice A0 l0.length c0) l0) ∧ Aside0 (Kd.V Kd.string 9 w' w.heap.size (fun k_ => ((P0_ k_ ∨ P1_ k_) ∨ w.heap.size ≤ k_) ∧ some k_ ≠ (v7 : Value).ownBlock) (.slice A1 l1.length c1) l1) ∧ Aside0 (Kd.R k36 36 w' w.heap.size (fun k_ => (w.heap.size ≤ k_)) v7 x7_1) ∧ Aside0 (Below w.heap.size w w'))
  case atStart => exact ⟨(y185), (0), zq41, H', ⟨Nat.le_refl _⟩, ⟨by (with_reducible repeat (first | apply Kd.V_alloc | apply Kd.V_drewN | apply Kd.V_drew)); exact Kd.V_mono HO0.out (fun _ hk => ⟨hk.1.1, hk.2⟩)⟩, ⟨by (with_reducible repeat (first | apply Kd.V_alloc | apply Kd.V_drewN | apply Kd.V_drew)); exact Kd.V_mono HO1.out (fun _ hk => ⟨hk.1.1, hk.2⟩)⟩, ⟨by (with_reducible repeat (first | apply Kd.R_alloc | apply Kd.R_drewN | apply Kd.R_drew)); exact Kd.R_mono HO187.out (fun _ hk => hk.1)⟩, ⟨zq54⟩⟩
  case round =>
   clear H';(try clear c1);(try clear p2);(try clear c4);(try clear c4b0);(try clear c4b1);(try clear c6);(obtain ⟨x7_1, x19_1, rfl, HA, HK1, HO_0, HO_1, HO_7, HB⟩ := hrel)
   cases gk with
   | zero => exact absurd HA.out (by simp [impl_EditsBetween.l0])
   | succ k1 =>
    (have H := HA.out);clear HA;(simp only [impl_EditsBetween.l0] at H);(by_cases c11 : x19_1 < (l0.length : Int))
    ·rw [if_pos c11] at H
     (have c11b0 : decide (x19_1 < (l0.length : Int)) = true := decide_eq_true c11);clear c11;(by_cases c12 : 0 ≤ x19_1)
     ·rw [if_pos c12] at H
      (have c12b0 : decide (0 ≤ x19_1) = true := decide_eq_true c12);clear c12;(by_cases c13 : x19_1 < (l0.length : Int))
      ·rw [if_pos c13] at H
       (have c13b0 : decide (x19_1 < (l0.length : Int)) = true := decide_eq_true c13);clear c13;(by_cases c14 : x19_1 < (l1.length : Int))
       ·rw [if_pos c14] at H
        (have c14b0 : decide (x19_1 < (l1.length : Int)) = true := decide_eq_true c14);clear c14;(by_cases c15 : (rdOf ByteArray.empty l0 x19_1).toList = (rdOf ByteArray.empty l1 x19_1).toList)
        ·rw [if_pos c15] at H
         (have c15b0 : ((rdOf ByteArray.empty l0 x19_1).toList == (rdOf ByteArray.empty l1 x19_1).toList) = true := beq_iff_eq.mpr c15);(have c15b1 : ((rdOf ByteArray.empty l0 x19_1).toList != (rdOf ByteArray.empty l1 x19_1).toList) = false := bne_eq_false_iff_eq.mpr c15);clear c15;(have H' := Aside0.mk H);clear H;(try go_wp2);(have n0_ := Aside0.mk (Kd.V_drew HO_0.out));(have n1_ := Aside0.mk (Kd.V_drew HO_1.out));(have n2_ := Aside0.mk (Kd.R_drew HO_7.out));(have n3_ := Aside0.mk (below_drew1 HB.out));clear HO_0;clear HO_1;clear HO_7;clear HB;(have HO_0 := n0_);(have HO_1 := n1_);(have HO_7 := n2_);(have HB := n3_);clear n0_ n1_ n2_ n3_;(have p188 : 0 ≤ (x19_1 : Int) := of_decide_eq_true zq35);(have q188 : x19_1 < (l0.length : Int) := of_decide_eq_true zq35);(obtain ⟨ad188, e188, hx188_0⟩ := Kd.at_string (Kd.V_reads' HO_0.out).2.2 x19_1 p188 q188)
         cases e188
         (replace p188 := eq_true p188);(replace q188 := eq_true q188);(have p189 : 0 ≤ (x19_1 : Int) := of_decide_eq_true zq35);(have q189 : x19_1 < (l1.length : Int) := of_decide_eq_true zq35);(obtain ⟨ad189, e189, hx189_0⟩ := Kd.at_string (Kd.V_reads' HO_1.out).2.2 x19_1 p189 q189)
         cases e189
         (replace p189 := eq_true p189);(replace q189 := eq_true q189);(refine start_ (n := 9) (S := fun w' => w'.cell? (ad188.add (x19_1).toNat) = some (.string (rdOf ByteArray.empty l0 x19_1)) ∧ w'.cell? (ad189.add (x19_1).toNat) = some (.string (rdOf ByteArray.empty l1 x19_1))) (ds := []) #[false,false,false,false,false,false,false,false,false] (by kernel_rfl) rfl rfl ⟨hx188_0, hx189_0⟩ (fun hHeld => ?_); refine with_tabW impl_EditsBetween.tab8 impl_EditsBetween.bits8 (fun HT_ HW_ => ?_));(generalize wr.drew = w16 at HO_0 HO_1 HO_7 HB hx188_0 hx189_0 hHeld ⊢);(refine pI (i := 0) (N := some 22) (v := ?_) (a' := ?_) (mB 9 1) rfl rfl HT_.out (by kernel_rfl) (fun _ _ _ h => h) rfl ?_ ?_ ?_);rotate_left
         ·intro w'
          go_simp;(with_reducible rfl)
         rotate_left
         ·simp only [Act.put, sA]
          rfl
         (refine pI (i := 1) (N := some 23) (v := ?_) (a' := ?_) (mB 9 3) rfl rfl HT_.out (by kernel_rfl) (fun _ _ _ h => h) rfl ?_ ?_ ?_);rotate_left
         ·intro w'
          go_simp;(with_reducible rfl)
         rotate_left
         ·simp only [Act.put, sA]
          rfl
         (refine pI (i := 2) (N := some 24) (v := ?_) (a' := ?_) (mB 9 7) rfl rfl HT_.out (by kernel_rfl) (fun _ _ _ h => h) rfl ?_ ?_ ?_);rotate_left
         ·intro w'
          go_simp;(with_reducible rfl)
         rotate_left
         ·simp only [Act.put, sA]
          rfl
         (refine pI (i := 4) (N := some 26) (v := ?_) (a' := ?_) (mB 9 23) rfl rfl HT_.out (by kernel_rfl) (fun _ _ _ h => h) rfl ?_ ?_ ?_);rotate_left
         ·intro w'
          go_simp;(with_reducible rfl)
         rotate_left
         ·simp only [Act.put, sA]
          rfl
         (refine pI (i := 5) (N := some 27) (v := ?_) (a' := ?_) (mB 9 55) rfl rfl HT_.out (by kernel_rfl) (fun _ _ _ h => h) rfl ?_ ?_ ?_);rotate_left
         ·intro w'
          go_simp;(with_reducible rfl)
         rotate_left
         ·simp only [Act.put, sA]
          rfl
         (refine pI (i := 6) (N := some 28) (v := ?_) (a' := ?_) (mB 9 119) rfl rfl HT_.out (by kernel_rfl) (fun _ _ _ h => h) rfl ?_ ?_ ?_);rotate_left
         ·intro w'
          go_simp;(with_reducible rfl)
         rotate_left
         ·simp only [Act.put, sA]
          rfl
         (refine tI (i := 3) (N := some 25) (v := ?_) (a' := ?_) (mB 9 127) rfl rfl HT_.out HW_.out (by kernel_rfl) (fun _ _ _ h => h) rfl ?_ hHeld ?_ ?_);rotate_left
         ·rintro w' ⟨s0, s1⟩
          go_simp;(with_reducible rfl)
         rotate_left
         ·simp only [Act.put, sA]
          rfl
         (refine tI (i := 7) (N := some 29) (v := ?_) (a' := ?_) (mB 9 255) rfl rfl HT_.out HW_.out (by kernel_rfl) (fun _ _ _ h => h) rfl ?_ hHeld ?_ ?_);rotate_left
         ·rintro w' ⟨s0, s1⟩
          go_simp;(with_reducible rfl)
         rotate_left
         ·simp only [Act.put, sA]
          rfl
         (refine pI (i := 8) (N := some 30) (v := ?_) (a' := ?_) (mB 9 511) rfl rfl HT_.out (by kernel_rfl) (fun _ _ _ h => h) rfl ?_ ?_ ?_);rotate_left
         ·intro w'
          go_simp;(with_reducible rfl)
         rotate_left
         ·simp only [Act.put, sA]
          rfl
         (refine done_ (done_of HT_.out (by kernel_rfl)) ?_);(try go_wp2);(go_roundg k1)
         case measure => have := HK1.out; omega
         case rel => exact ⟨(x7_1), (wrap64 (x19_1 + 1)), zq41, H', ⟨zq42⟩, ⟨zq8⟩, ⟨zq9⟩, ⟨zR HO_7.out⟩, ⟨zq54⟩⟩
        ·rw [if_neg c15] at H
         (have c15b0 : ((rdOf ByteArray.empty l0 x19_1).toList == (rdOf ByteArray.empty l1 x19_1).toList) = false := beq_eq_false_iff_ne.mpr c15);(have c15b1 : ((rdOf ByteArray.empty l0 x19_1).toList != (rdOf ByteArray.empty l1 x19_1).toList) = true := bne_iff_ne.mpr c15);(by_cases c17 : x7_1.length < 3518437208883)
         ·rw [if_pos c17] at H
          (have LMc17 := Aside0.mk c17);clear c17;(obtain ⟨y192, hy_⟩ : ∃ y_ : List (S36), y_ = (x7_1 ++ [(⟨x19_1, rdOf ByteArray.empty l0 x19_1, rdOf ByteArray.empty l1 x19_1⟩ : S36)]) := ⟨_, rfl⟩);(replace H : (impl_EditsBetween.l0 k1 l0 l1 y192 (l0.length : Int) (wrap64 (x19_1 + 1))) = some (r1, r2) := zq34);(have Ny192 := Aside0.mk hy_);clear hy_;(have H' := Aside0.mk H);clear H;(try go_wp2);(have n0_ := Aside0.mk (Kd.V_drew HO_0.out));(have n1_ := Aside0.mk (Kd.V_drew HO_1.out));(have n2_ := Aside0.mk (Kd.R_drew HO_7.out));(have n3_ := Aside0.mk (below_drew1 HB.out));clear HO_0;clear HO_1;clear HO_7;clear HB;(have HO_0 := n0_);(have HO_1 := n1_);(have HO_7 := n2_);(have HB := n3_);clear n0_ n1_ n2_ n3_;(have p188 : 0 ≤ (x19_1 : Int) := of_decide_eq_true zq35);(have q188 : x19_1 < (l0.length : Int) := of_decide_eq_true zq35);(obtain ⟨ad188, e188, hx188_0⟩ := Kd.at_string (Kd.V_reads' HO_0.out).2.2 x19_1 p188 q188)
          cases e188
          (replace p188 := eq_true p188);(replace q188 := eq_true q188);(have p189 : 0 ≤ (x19_1 : Int) := of_decide_eq_true zq35);(have q189 : x19_1 < (l1.length : Int) := of_decide_eq_true zq35);(obtain ⟨ad189, e189, hx189_0⟩ := Kd.at_string (Kd.V_reads' HO_1.out).2.2 x19_1 p189 q189)
          cases e189
          (replace p189 := eq_true p189);(replace q189 := eq_true q189);(refine start_ (n := 9) (S := fun w' => w'.cell? (ad188.add (x19_1).toNat) = some (.string (rdOf ByteArray.empty l0 x19_1)) ∧ w'.cell? (ad189.add (x19_1).toNat) = some (.string (rdOf ByteArray.empty l1 x19_1))) (ds := []) #[false,false,false,false,false,false,false,false,false] (by kernel_rfl) rfl rfl ⟨hx188_0, hx189_0⟩ (fun hHeld => ?_); refine with_tabW impl_EditsBetween.tab8 impl_EditsBetween.bits8 (fun HT_ HW_ => ?_));(generalize wr.drew = w18 at HO_0 HO_1 HO_7 HB hx188_0 hx189_0 hHeld ⊢);(refine pI (i := 0) (N := some 22) (v := ?_) (a' := ?_) (mB 9 1) rfl rfl HT_.out (by kernel_rfl) (fun _ _ _ h => h) rfl ?_ ?_ ?_);rotate_left
          ·intro w'
           go_simp;(with_reducible rfl)
          rotate_left
          ·simp only [Act.put, sA]
           rfl
          (refine pI (i := 1) (N := some 23) (v := ?_) (a' := ?_) (mB 9 3) rfl rfl HT_.out (by kernel_rfl) (fun _ _ _ h => h) rfl ?_ ?_ ?_);rotate_left
          ·intro w'
           go_simp;(with_reducible rfl)
          rotate_left
          ·simp only [Act.put, sA]
           rfl
          (refine pI (i := 2) (N := some 24) (v := ?_) (a' := ?_) (mB 9 7) rfl rfl HT_.out (by kernel_rfl) (fun _ _ _ h => h) rfl ?_ ?_ ?_);rotate_left
          ·intro w'
           go_simp;(with_reducible rfl)
          rotate_left
          ·simp only [Act.put, sA]
           rfl
          (refine pI (i := 4) (N := some 26) (v := ?_) (a' := ?_) (mB 9 23) rfl rfl HT_.out (by kernel_rfl) (fun _ _ _ h => h) rfl ?_ ?_ ?_);rotate_left
          ·intro w'
           go_simp;(with_reducible rfl)
          rotate_left
          ·simp only [Act.put, sA]
           rfl
          (refine pI (i := 5) (N := some 27) (v := ?_) (a' := ?_) (mB 9 55) rfl rfl HT_.out (by kernel_rfl) (fun _ _ _ h => h) rfl ?_ ?_ ?_);rotate_left
          ·intro w'
           go_simp;(with_reducible rfl)
          rotate_left
          ·simp only [Act.put, sA]
           rfl
          (refine pI (i := 6) (N := some 28) (v := ?_) (a' := ?_) (mB 9 119) rfl rfl HT_.out (by kernel_rfl) (fun _ _ _ h => h) rfl ?_ ?_ ?_);rotate_left
          ·intro w'
           go_simp;(with_reducible rfl)
          rotate_left
          ·simp only [Act.put, sA]
           rfl
          (refine tI (i := 3) (N := some 25) (v := ?_) (a' := ?_) (mB 9 127) rfl rfl HT_.out HW_.out (by kernel_rfl) (fun _ _ _ h => h) rfl ?_ hHeld ?_ ?_);rotate_left
          ·rintro w' ⟨s0, s1⟩
           go_simp;(with_reducible rfl)
          rotate_left
          ·simp only [Act.put, sA]
           rfl
          (refine tI (i := 7) (N := some 29) (v := ?_) (a' := ?_) (mB 9 255) rfl rfl HT_.out HW_.out (by kernel_rfl) (fun _ _ _ h => h) rfl ?_ hHeld ?_ ?_);rotate_left
          ·rintro w' ⟨s0, s1⟩
           go_simp;(with_reducible rfl)
          rotate_left
          ·simp only [Act.put, sA]
           rfl
          (refine pI (i := 8) (N := some 30) (v := ?_) (a' := ?_) (mB 9 511) rfl rfl HT_.out (by kernel_rfl) (fun _ _ _ h => h) rfl ?_ ?_ ?_);rotate_left
          ·intro w'
           go_simp;(with_reducible rfl)
          rotate_left
          ·simp only [Act.put, sA]
           rfl
          (refine done_ (done_of HT_.out (by kernel_rfl)) ?_);(try go_wp2);(have n0_ := Aside0.mk (Kd.V_drew HO_0.out));(have n1_ := Aside0.mk (Kd.V_drew HO_1.out));(have n2_ := Aside0.mk (Kd.R_drew HO_7.out));(have n3_ := Aside0.mk (below_drew1 HB.out));clear HO_0;clear HO_1;clear HO_7;clear HB;(have HO_0 := n0_);(have HO_1 := n1_);(have HO_7 := n2_);(have HB := n3_);clear n0_ n1_ n2_ n3_;(have p190 : 0 ≤ (x19_1 : Int) := of_decide_eq_true zq35);(have q190 : x19_1 < (l0.length : Int) := of_decide_eq_true zq35);(obtain ⟨ad190, e190, hx190_0⟩ := Kd.at_string (Kd.V_reads' HO_0.out).2.2 x19_1 p190 q190);(obtain rfl : ad188 = ad190 := (by injection e190));(replace p190 := eq_true p190);(replace q190 := eq_true q190);(have p191 : 0 ≤ (x19_1 : Int) := of_decide_eq_true zq35);(have q191 : x19_1 < (l1.length : Int) := of_decide_eq_true zq35);(obtain ⟨ad191, e191, hx191_0⟩ := Kd.at_string (Kd.V_reads' HO_1.out).2.2 x19_1 p191 q191);(obtain rfl : ad189 = ad191 := (by injection e191));(replace p191 := eq_true p191);(replace q191 := eq_true q191);(refine start_ (n := 14) (S := fun w' => w'.cell? (ad188.add (x19_1).toNat) = some (.string (rdOf ByteArray.empty l0 x19_1)) ∧ w'.cell? (ad189.add (x19_1).toNat) = some (.string (rdOf ByteArray.empty l1 x19_1))) (ds := [11, 12]) #[false,false,false,false,false,false,false,false,false,false,false,false,false,false] (by kernel_rfl) rfl rfl ⟨hx190_0, hx191_0⟩ (fun hHeld => ?_); refine with_tabW impl_EditsBetween.tab9 impl_EditsBetween.bits9 (fun HT_ HW_ => ?_));(generalize w18.drew = w19 at HO_0 HO_1 HO_7 HB hx190_0 hx191_0 hHeld ⊢);(refine pI (i := 0) (N := some 31) (v := ?_) (a' := ?_) (mB 14 1) rfl rfl HT_.out (by kernel_rfl) (fun _ _ _ h => h) rfl ?_ ?_ ?_);rotate_left
          ·intro w'
           go_simp;(with_reducible rfl)
          rotate_left
          ·simp only [Act.put, sA]
           rfl
          (refine pI (i := 1) (N := some 32) (v := ?_) (a' := ?_) (mB 14 3) rfl rfl HT_.out (by kernel_rfl) (fun _ _ _ h => h) rfl ?_ ?_ ?_);rotate_left
          ·intro w'
           go_simp;(with_reducible rfl)
          rotate_left
          ·simp only [Act.put, sA]
           rfl
          (refine pI (i := 2) (N := some 33) (v := ?_) (a' := ?_) (mB 14 7) rfl rfl HT_.out (by kernel_rfl) (fun _ _ _ h => h) rfl ?_ ?_ ?_);rotate_left
          ·intro w'
           go_simp;(with_reducible rfl)
          rotate_left
          ·simp only [Act.put, sA]
           rfl
          (refine pI (i := 3) (N := some 34) (v := ?_) (a' := ?_) (mB 14 15) rfl rfl HT_.out (by kernel_rfl) (fun _ _ _ h => h) rfl ?_ ?_ ?_);rotate_left
          ·intro w'
           go_simp;(with_reducible rfl)
          rotate_left
          ·simp only [Act.put, sA]
           rfl
          (refine pI (i := 4) (N := some 35) (v := ?_) (a' := ?_) (mB 14 31) rfl rfl HT_.out (by kernel_rfl) (fun _ _ _ h => h) rfl ?_ ?_ ?_);rotate_left
          ·intro w'
           go_simp;(with_reducible rfl)
          rotate_left
          ·simp only [Act.put, sA]
           rfl
          (refine pI (i := 6) (N := some 37) (v := ?_) (a' := ?_) (mB 14 95) rfl rfl HT_.out (by kernel_rfl) (fun _ _ _ h => h) rfl ?_ ?_ ?_);rotate_left
          ·intro w'
           go_simp;(with_reducible rfl)
          rotate_left
          ·simp only [Act.put, sA]
           rfl
          (refine pI (i := 7) (N := some 38) (v := ?_) (a' := ?_) (mB 14 223) rfl rfl HT_.out (by kernel_rfl) (fun _ _ _ h => h) rfl ?_ ?_ ?_);rotate_left
          ·intro w'
           go_simp;(with_reducible rfl)
          rotate_left
          ·simp only [Act.put, sA]
           rfl
          (refine pI (i := 8) (N := some 39) (v := ?_) (a' := ?_) (mB 14 479) rfl rfl HT_.out (by kernel_rfl) (fun _ _ _ h => h) rfl ?_ ?_ ?_);rotate_left
          ·intro w'
           go_simp;(with_reducible rfl)
          rotate_left
          ·simp only [Act.put, sA]
           rfl
          (refine tI (i := 5) (N := some 36) (v := ?_) (a' := ?_) (mB 14 511) rfl rfl HT_.out HW_.out (by kernel_rfl) (fun _ _ _ h => h) rfl ?_ hHeld ?_ ?_);rotate_left
          ·rintro w' ⟨s0, s1⟩
           go_simp;(with_reducible rfl)
          rotate_left
          ·simp only [Act.put, sA]
           rfl
          (refine tI (i := 9) (N := some 40) (v := ?_) (a' := ?_) (mB 14 1023) rfl rfl HT_.out HW_.out (by kernel_rfl) (fun _ _ _ h => h) rfl ?_ hHeld ?_ ?_);rotate_left
          ·rintro w' ⟨s0, s1⟩
           go_simp;(with_reducible rfl)
          rotate_left
          ·simp only [Act.put, sA]
           rfl
          (refine pI (i := 10) (N := some 41) (v := ?_) (a' := ?_) (mB 14 2047) rfl rfl HT_.out (by kernel_rfl) (fun _ _ _ h => h) rfl ?_ ?_ ?_);rotate_left
          ·intro w'
           go_simp;(with_reducible rfl)
          rotate_left
          ·simp only [Act.put, sA]
           rfl
          (refine last_ (i := 11) (N := some 42) #[true,true,true,true,true,true,true,true,true,true,true,true,false,false] rfl rfl (one_of HT_.out (by kernel_rfl)) (by decide) (fun K hK => ?_));(refine value_ (w1 := ?_) (v := ?_) (by rfl) rfl ?_ ?_);(rotate_left 2)
          ·go_simp
           constructor
           ·rfl
           ·rfl
          (refine hK.out _ _ ?_);clear hK K;(refine norm_ (a' := ?_) ?_ ?_);rotate_left
          ·show Act.put _ (some 42) _ = _
           (simp only [Act.put, sA]);rfl
          (refine last_ (i := 12) (N := some 43) #[true,true,true,true,true,true,true,true,true,true,true,true,true,false] rfl rfl (one_of HT_.out (by kernel_rfl)) (by decide) (fun K hK => ?_));(refine Kd.R_append_step k36 (w0 := w) w.heap.size (by rfl) (.tmp 31) (.tmp 42) 27 36 (.agg #[(.int .i64 0), (.string ⟨#[]⟩), (.string ⟨#[]⟩)]) 40 rfl Tryz.underlying27 info36 rfl (by decide) (by omega) u7 x7_1 (⟨x19_1, rdOf ByteArray.empty l0 x19_1, rdOf ByteArray.empty l1 x19_1⟩ : S36) [.int .i64 x19_1, .string (rdOf ByteArray.empty l0 x19_1), .string (rdOf ByteArray.empty l1 x19_1)] (fun k_ => (w.heap.size ≤ k_)) (fun _ => False) rfl rfl ?aP (fun _ hk => hk.elim) ?aF ?aO ?aB ?aS ?aL ?_);((case aP => exact k36_mkM _ _ _ (⟨x19_1, rdOf ByteArray.empty l0 x19_1, rdOf ByteArray.empty l1 x19_1⟩ : S36)));((case aB => exact zq54));((case aF => exact (fun k_ hk => (Nat.le_trans (below_size zq54) hk))));((case aO => exact (zR HO_7.out)));((case aS => exact (below_size zq54)));((case aL => have := LMc17.out; omega));intro v193 w20 ho hb hg hat;(rw [← Ny192.out] at ho);(have n0_ := Aside0.mk (Kd.V_afterv (ok := (fun k_ => ((P0_ k_ ∨ P1_ k_) ∨ w.heap.size ≤ k_))) zq8 hg hat));(have n1_ := Aside0.mk (Kd.V_afterv (ok := (fun k_ => ((P0_ k_ ∨ P1_ k_) ∨ w.heap.size ≤ k_))) zq9 hg hat));(have n2_ := Aside0.mk (hb));(have n3_ := Aside0.mk (ho));clear HO_0;clear HO_1;clear HB;clear HO_7;(have HO_0 := n0_);(have HO_1 := n1_);(have HB := n2_);(have HO194 := n3_);clear n0_ n1_ n2_ n3_;clear ho hb hg hat;(refine hK.out _ _ ?_);clear hK K;(refine norm_ (a' := ?_) ?_ ?_);rotate_left
          ·show Act.put _ (some 43) _ = _
           (simp only [Act.put, sA]);rfl
          (refine pI (i := 13) (N := some 7) (v := ?_) (a' := ?_) (mB 14 16383) rfl rfl HT_.out (by kernel_rfl) (fun _ _ _ h => h) rfl ?_ ?_ ?_);rotate_left
          ·intro w'
           go_simp;(with_reducible rfl)
          rotate_left
          ·simp only [Act.put, sA]
           rfl
          (refine done_ (done_of HT_.out (by kernel_rfl)) ?_);(try go_wp2);(go_roundg k1)
          case measure => have := HK1.out; omega
          case rel => exact ⟨(y192), (wrap64 (x19_1 + 1)), zq41, H', ⟨zq42⟩, ⟨zq8⟩, ⟨zq9⟩, ⟨zR HO194.out⟩, ⟨zq54⟩⟩
         ·rw [if_neg c17] at H
          exact absurd H (by simp)
       ·rw [if_neg c14] at H
        exact absurd H (by simp)
      ·rw [if_neg c13] at H
       exact absurd H (by simp)
     ·rw [if_neg c12] at H
      exact absurd H (by simp)
    ·rw [if_neg c11] at H
     (have c11b0 : decide (x19_1 < (l0.length : Int)) = false := decide_eq_false c11);clear c11;(simp only [Option.some.injEq, Prod.mk.injEq] at H);(obtain ⟨rfl, rfl⟩ := H);(go_wp2);(go_ret2);(exact ⟨_, zq40, zR HO_7.out, zq54⟩)
 ·rw [if_neg c4] at H
  (have c4b0 : (t184 == 0) = false := beq_eq_false_iff_ne.mpr c4);(have c4b1 : (t184 != 0) = true := bne_iff_ne.mpr c4);(simp only [Option.some.injEq, Prod.mk.injEq] at H);(obtain ⟨rfl, rfl⟩ := H)
  go_enter Tryz.func6, Tryz.ntmps6
  (go_wp2_with (first | ((with_reducible refine gate_dst (N := 11) rfl ?_); refine Kd.N_lit (Kd.slice 9 Kd.string) _ 24 ?hg (N' := 11) ?hd (xs := ([l0, l1] : List (List ByteArray))) (inner := [.slice A0 l0.length c0, .slice A1 l1.length c1]) (ok := (fun k_ => ((P0_ k_ ∨ P1_ k_) ∨ w.heap.size ≤ k_))) (okp := (fun k_ => ((P0_ k_ ∨ P1_ k_) ∨ w.heap.size ≤ k_))) ?hr ?hp (fun _ hk => hk) ((show ∀ k_, w.heap.size ≤ k_ → (fun k_ => ((P0_ k_ ∨ P1_ k_) ∨ w.heap.size ≤ k_)) k_ from fun k_ hk => (.inr (Nat.le_trans (below_size zq54) hk))) _ (Nat.le_refl _)) (Below.refl _ _) (Nat.le_refl _) (by simp) ?_; (case hd => rfl); (case hg => rfl); (case hr => first | (go_simp; done) | (go_simp; rfl)); (case hp => exact (Reps.one (show Kd.FK (Kd.slice 9 Kd.string) _ _ l0 [.slice A0 l0.length c0] from (Kd.FK_slice_mk (Kd.V_reads' (Kd.V_mono (ok' := (fun k_ => ((P0_ k_ ∨ P1_ k_) ∨ w.heap.size ≤ k_))) (HO0.out) (fun k_ hk => hk))).2.1 (Kd.V_F (Kd.V_mono (ok' := (fun k_ => ((P0_ k_ ∨ P1_ k_) ∨ w.heap.size ≤ k_))) (HO0.out) (fun k_ hk => hk))))) (Reps.one (show Kd.FK (Kd.slice 9 Kd.string) _ _ l1 [.slice A1 l1.length c1] from (Kd.FK_slice_mk (Kd.V_reads' (Kd.V_mono (ok' := (fun k_ => ((P0_ k_ ∨ P1_ k_) ∨ w.heap.size ≤ k_))) (HO1.out) (fun k_ hk => hk))).2.1 (Kd.V_F (Kd.V_mono (ok' := (fun k_ => ((P0_ k_ ∨ P1_ k_) ∨ w.heap.size ≤ k_))) (HO1.out) (fun k_ hk => hk))))) (Reps.none _ _)))); intro v182 w21 ho22 hb hg_ hnew_; clear hg_ hnew_; (first | rw [← Ny181.out] at ho22 | (simp only [Int.reduceToNat] at ho22; rw [← Ny181.out] at ho22)); have n0_ := Aside0.mk (Kd.V_elder' zq6 (Kd.N_base ho22) hb); have n1_ := Aside0.mk (Kd.V_elder' zq7 (Kd.N_base ho22) hb); have n2_ := Aside0.mk (Kd.N_lower ho22 (below_size zq54)); have n3_ := Aside0.mk (below_step zq54 hb); clear HO0; clear HO1; clear HB; have HO0 := n0_; have HO1 := n1_; have HO183 := n2_; have HB := n3_; clear n0_ n1_ n2_ n3_; clear hb ho22; obtain ⟨Ao23, co23, eo23⟩ := Kd.N_slice HO183.out; subst eo23) | ((with_reducible refine gate_callee (f := 18) rfl ?_); refine goesL_ (some 12) rfl rfl Tryz.func18 (by kernel_rfl) rfl #[.slice Ao23 y181.length co23] rfl zq0 ?_; (with_reducible refine (impl_platesCode.calls k _ _ y181 t184 _ ?side1 ?side2 A3.out).mono ?_); (case side1 => exact zq64); (case side2 => exact (Kd.N_reads' HO183.out).2.1); rintro e w24 ⟨rfl, hb⟩; refine ⟨_, rfl, ?_⟩; have n0_ := Aside0.mk (Kd.V_below zq6 hb); have n1_ := Aside0.mk (Kd.V_below zq7 hb); have n2_ := Aside0.mk (Kd.N_below zq1 hb); have n3_ := Aside0.mk (below_step zq54 hb); clear HO0; clear HO1; clear HO183; clear HB; have HO0 := n0_; have HO1 := n1_; have HO183 := n2_; have HB := n3_; clear n0_ n1_ n2_ n3_; (try clear hb); (try clear hb2); (try clear hk); (try clear hi))));(go_ret2);(exact ⟨_, zq40, zq37, zq54⟩)

/-! ### impl_within: function 51 -/
def impl_within.f (a0 : Int) (a1 : Int) (a2 : Int) : Option (Bool) := if a0 ≥ a1 then (some (decide (a0 ≤ a2))) else (some false)
theorem impl_within.calls (a0 : Int) (a1 : Int) (a2 : Int) (r : Bool) (w : World) (h : impl_within.f a0 a1 a2 = some r) :
  Calls Tryz.prog 51 #[.int .i64 a0, .int .i64 a1, .int .i64 a2] w fun e w' => e = .returned (.bool r) ∧ Drawn0 w w' := by
 (have H : (if a0 ≥ a1 then (some (decide (a0 ≤ a2))) else (some false)) = some r := h);clear h;(by_cases c4 : a0 ≥ a1)
 ·rw [if_pos c4] at H
  (have c4b0 : decide (a1 ≤ a0) = true := decide_eq_true c4);clear c4;(obtain rfl := Option.some.inj H)
  go_enter Tryz.func51, Tryz.ntmps51
  (go_wp2);(go_ret);(exact ⟨zq41, zq76⟩)
 ·rw [if_neg c4] at H
  (have c4b0 : decide (a1 ≤ a0) = false := decide_eq_false c4);clear c4;(obtain rfl := Option.some.inj H)
  go_enter Tryz.func51, Tryz.ntmps51
  (go_wp2);(go_ret);(exact ⟨zq41, zq76⟩)

/-! ### impl_isEdit: function 33 -/
def impl_isEdit.f (a0_0 : Int) (a0_1 : ByteArray) (a0_2 : ByteArray) : Option (Bool) := (impl_within.f a0_0 0 11).bind fun t196 => (if t196 = true then ((impl_isEngraved.f a0_1).bind fun t197 => (if t197 = true then ((impl_isEngraved.f a0_2).bind fun t198 => (if t198 = true then (some (a0_1.toList != a0_2.toList)) else (some false))) else (some false))) else (some false))
theorem impl_isEdit.calls (a0_0 : Int) (a0_1 : ByteArray) (a0_2 : ByteArray) (r : Bool) (w : World) (h : impl_isEdit.f a0_0 a0_1 a0_2 = some r) :
  Calls Tryz.prog 33 #[.agg #[.int .i64 a0_0, .string a0_1, .string a0_2]] w fun e w' => e = .returned (.bool r) ∧ Below w.heap.size w w' := by
 (have hu36 := Tryz.underlying36);(have HB := Aside0.mk (Below.refl w.heap.size w));(have H : ((impl_within.f a0_0 0 11).bind fun t196 => (if t196 = true then ((impl_isEngraved.f a0_1).bind fun t197 => (if t197 = true then ((impl_isEngraved.f a0_2).bind fun t198 => (if t198 = true then (some (a0_1.toList != a0_2.toList)) else (some false))) else (some false))) else (some false))) = some r := h);clear h;(replace H := Option.bind_eq_some_iff.mp H);(obtain ⟨t196, A20, H⟩ := H);(replace H : (if t196 = true then ((impl_isEngraved.f a0_1).bind fun t197 => (if t197 = true then ((impl_isEngraved.f a0_2).bind fun t198 => (if t198 = true then (some (a0_1.toList != a0_2.toList)) else (some false))) else (some false))) else (some false)) = some r := H);(have A2 := Aside0.mk A20);clear A20;(by_cases c3 : t196 = true)
 ·subst c3
  (have H1 : ((impl_isEngraved.f a0_1).bind fun t197 => (if t197 = true then ((impl_isEngraved.f a0_2).bind fun t198 => (if t198 = true then (some (a0_1.toList != a0_2.toList)) else (some false))) else (some false))) = some r := zq92);clear H;(have H := H1);clear H1;(replace H := Option.bind_eq_some_iff.mp H);(obtain ⟨t197, A40, H⟩ := H);(replace H : (if t197 = true then ((impl_isEngraved.f a0_2).bind fun t198 => (if t198 = true then (some (a0_1.toList != a0_2.toList)) else (some false))) else (some false)) = some r := H);(have A4 := Aside0.mk A40);clear A40;(by_cases c5 : t197 = true)
  ·subst c5
   (have H1 : ((impl_isEngraved.f a0_2).bind fun t198 => (if t198 = true then (some (a0_1.toList != a0_2.toList)) else (some false))) = some r := zq92);clear H;(have H := H1);clear H1;(replace H := Option.bind_eq_some_iff.mp H);(obtain ⟨t198, A60, H⟩ := H);(replace H : (if t198 = true then (some (a0_1.toList != a0_2.toList)) else (some false)) = some r := H);(have A6 := Aside0.mk A60);clear A60;(by_cases c7 : t198 = true)
   ·subst c7
    (have H1 : (some (a0_1.toList != a0_2.toList)) = some r := zq92);clear H;(have H := H1);clear H1;(obtain rfl := Option.some.inj H)
    go_enter Tryz.func33, Tryz.ntmps33
    (go_wp2_with (first | ((with_reducible refine gate_dst (N := 1) rfl ?_); refine box_event ?hg (N := 1) ?hd (cs := #[.int .i64 a0_0, .string a0_1, .string a0_2]) (t := 36) ?hr ?_; (case hd => rfl); (case hg => rfl); (case hr => first | (go_simp; done) | (go_simp; rfl)); intro gb195 hg w8 hbox hb; have n0_ := Aside0.mk (below_step zq54 hb); have n1_ := Aside0.mk (hbox); have n2_ := Aside0.mk ((zq83 : w.heap.size ≤ gb195)); have n3_ := Aside0.mk ((zq83 : w.heap.size ≤ gb195)); clear HB; have HB := n0_; have BK195 := n1_; have GW195 := n2_; have GE195 := n3_; clear n0_ n1_ n2_ n3_; clear hb hbox hg; have hcz9_0 : w8.cell? ⟨gb195, 0, none⟩ = some (.int .i64 a0_0) := (blk_cell BK195.out 0).trans rfl; have hcz9_1 : w8.cell? ⟨gb195, 1, none⟩ = some (.string a0_1) := (blk_cell BK195.out 1).trans rfl; have hcz9_2 : w8.cell? ⟨gb195, 2, none⟩ = some (.string a0_2) := (blk_cell BK195.out 2).trans rfl; have hfz9_0 := blk_frozen BK195.out 0; have hfz9_1 := blk_frozen BK195.out 1; have hfz9_2 := blk_frozen BK195.out 2) | ((with_reducible refine gate_callee (f := 51) rfl ?_); refine goesL_ (some 5) rfl rfl Tryz.func51 (by kernel_rfl) rfl #[.int .i64 a0_0, .int .i64 0, .int .i64 11] rfl zq0 ?_; (with_reducible refine (impl_within.calls a0_0 0 11 true _ A2.out).mono ?_); rintro e w' ⟨rfl, ⟨nd, rfl⟩⟩; refine ⟨_, rfl, ?_⟩) | (go_at_call 39; (with_reducible refine (impl_isEngraved.calls a0_1 true _ A4.out).mono ?_); rintro e w10 ⟨rfl, hb⟩; have n0_ := Aside0.mk (blk_below (g := gb195) (o := .cells #[.int .i64 a0_0, .string a0_1, .string a0_2] 36 (0, 0)) zq10 hb); have n1_ := Aside0.mk (below_step zq49 hb); clear BK195; clear HB; have BK195 := n0_; have HB := n1_; clear n0_ n1_; (try clear hb); (try clear hb2); (try clear hk); (try clear hi); have hcz11_0 : w10.cell? ⟨gb195, 0, none⟩ = some (.int .i64 a0_0) := (blk_cell BK195.out 0).trans rfl; have hcz11_1 : w10.cell? ⟨gb195, 1, none⟩ = some (.string a0_1) := (blk_cell BK195.out 1).trans rfl; have hcz11_2 : w10.cell? ⟨gb195, 2, none⟩ = some (.string a0_2) := (blk_cell BK195.out 2).trans rfl; have hfz11_0 := blk_frozen BK195.out 0; have hfz11_1 := blk_frozen BK195.out 1; have hfz11_2 := blk_frozen BK195.out 2) | (go_at_call 39; (with_reducible refine (impl_isEngraved.calls a0_2 true _ A6.out).mono ?_); rintro e w12 ⟨rfl, hb⟩; have n0_ := Aside0.mk (blk_below (g := gb195) (o := .cells #[.int .i64 a0_0, .string a0_1, .string a0_2] 36 (0, 0)) zq10 hb); have n1_ := Aside0.mk (below_step zq49 hb); clear BK195; clear HB; have BK195 := n0_; have HB := n1_; clear n0_ n1_; (try clear hb); (try clear hb2); (try clear hk); (try clear hi); have hcz13_0 : w12.cell? ⟨gb195, 0, none⟩ = some (.int .i64 a0_0) := (blk_cell BK195.out 0).trans rfl; have hcz13_1 : w12.cell? ⟨gb195, 1, none⟩ = some (.string a0_1) := (blk_cell BK195.out 1).trans rfl; have hcz13_2 : w12.cell? ⟨gb195, 2, none⟩ = some (.string a0_2) := (blk_cell BK195.out 2).trans rfl; have hfz13_0 := blk_frozen BK195.out 0; have hfz13_1 := blk_frozen BK195.out 1; have hfz13_2 := blk_frozen BK195.out 2)));(go_ret);(exact ⟨zq40, zq49⟩)
   ·replace c7 := Bool.eq_false_iff.mpr c7
    subst c7;(have H1 : (some false) = some r := zq91);clear H;(have H := H1);clear H1;(obtain rfl := Option.some.inj H)
    go_enter Tryz.func33, Tryz.ntmps33
    (go_wp2_with (first | ((with_reducible refine gate_dst (N := 1) rfl ?_); refine box_event ?hg (N := 1) ?hd (cs := #[.int .i64 a0_0, .string a0_1, .string a0_2]) (t := 36) ?hr ?_; (case hd => rfl); (case hg => rfl); (case hr => first | (go_simp; done) | (go_simp; rfl)); intro gb195 hg w14 hbox hb; have n0_ := Aside0.mk (below_step zq54 hb); have n1_ := Aside0.mk (hbox); have n2_ := Aside0.mk ((zq83 : w.heap.size ≤ gb195)); have n3_ := Aside0.mk ((zq83 : w.heap.size ≤ gb195)); clear HB; have HB := n0_; have BK195 := n1_; have GW195 := n2_; have GE195 := n3_; clear n0_ n1_ n2_ n3_; clear hb hbox hg; have hcz15_0 : w14.cell? ⟨gb195, 0, none⟩ = some (.int .i64 a0_0) := (blk_cell BK195.out 0).trans rfl; have hcz15_1 : w14.cell? ⟨gb195, 1, none⟩ = some (.string a0_1) := (blk_cell BK195.out 1).trans rfl; have hcz15_2 : w14.cell? ⟨gb195, 2, none⟩ = some (.string a0_2) := (blk_cell BK195.out 2).trans rfl; have hfz15_0 := blk_frozen BK195.out 0; have hfz15_1 := blk_frozen BK195.out 1; have hfz15_2 := blk_frozen BK195.out 2) | ((with_reducible refine gate_callee (f := 51) rfl ?_); refine goesL_ (some 5) rfl rfl Tryz.func51 (by kernel_rfl) rfl #[.int .i64 a0_0, .int .i64 0, .int .i64 11] rfl zq0 ?_; (with_reducible refine (impl_within.calls a0_0 0 11 true _ A2.out).mono ?_); rintro e w' ⟨rfl, ⟨nd, rfl⟩⟩; refine ⟨_, rfl, ?_⟩) | (go_at_call 39; (with_reducible refine (impl_isEngraved.calls a0_1 true _ A4.out).mono ?_); rintro e w16 ⟨rfl, hb⟩; have n0_ := Aside0.mk (blk_below (g := gb195) (o := .cells #[.int .i64 a0_0, .string a0_1, .string a0_2] 36 (0, 0)) zq10 hb); have n1_ := Aside0.mk (below_step zq49 hb); clear BK195; clear HB; have BK195 := n0_; have HB := n1_; clear n0_ n1_; (try clear hb); (try clear hb2); (try clear hk); (try clear hi); have hcz17_0 : w16.cell? ⟨gb195, 0, none⟩ = some (.int .i64 a0_0) := (blk_cell BK195.out 0).trans rfl; have hcz17_1 : w16.cell? ⟨gb195, 1, none⟩ = some (.string a0_1) := (blk_cell BK195.out 1).trans rfl; have hcz17_2 : w16.cell? ⟨gb195, 2, none⟩ = some (.string a0_2) := (blk_cell BK195.out 2).trans rfl; have hfz17_0 := blk_frozen BK195.out 0; have hfz17_1 := blk_frozen BK195.out 1; have hfz17_2 := blk_frozen BK195.out 2) | (go_at_call 39; (with_reducible refine (impl_isEngraved.calls a0_2 false _ A6.out).mono ?_); rintro e w18 ⟨rfl, hb⟩; have n0_ := Aside0.mk (blk_below (g := gb195) (o := .cells #[.int .i64 a0_0, .string a0_1, .string a0_2] 36 (0, 0)) zq10 hb); have n1_ := Aside0.mk (below_step zq49 hb); clear BK195; clear HB; have BK195 := n0_; have HB := n1_; clear n0_ n1_; (try clear hb); (try clear hb2); (try clear hk); (try clear hi))));(go_ret);(exact ⟨zq40, zq49⟩)
  ·replace c5 := Bool.eq_false_iff.mpr c5
   subst c5;(have H1 : (some false) = some r := zq91);clear H;(have H := H1);clear H1;(obtain rfl := Option.some.inj H)
   go_enter Tryz.func33, Tryz.ntmps33
   (go_wp2_with (first | ((with_reducible refine gate_dst (N := 1) rfl ?_); refine box_event ?hg (N := 1) ?hd (cs := #[.int .i64 a0_0, .string a0_1, .string a0_2]) (t := 36) ?hr ?_; (case hd => rfl); (case hg => rfl); (case hr => first | (go_simp; done) | (go_simp; rfl)); intro gb195 hg w19 hbox hb; have n0_ := Aside0.mk (below_step zq54 hb); have n1_ := Aside0.mk (hbox); have n2_ := Aside0.mk ((zq83 : w.heap.size ≤ gb195)); have n3_ := Aside0.mk ((zq83 : w.heap.size ≤ gb195)); clear HB; have HB := n0_; have BK195 := n1_; have GW195 := n2_; have GE195 := n3_; clear n0_ n1_ n2_ n3_; clear hb hbox hg; have hcz20_0 : w19.cell? ⟨gb195, 0, none⟩ = some (.int .i64 a0_0) := (blk_cell BK195.out 0).trans rfl; have hcz20_1 : w19.cell? ⟨gb195, 1, none⟩ = some (.string a0_1) := (blk_cell BK195.out 1).trans rfl; have hcz20_2 : w19.cell? ⟨gb195, 2, none⟩ = some (.string a0_2) := (blk_cell BK195.out 2).trans rfl; have hfz20_0 := blk_frozen BK195.out 0; have hfz20_1 := blk_frozen BK195.out 1; have hfz20_2 := blk_frozen BK195.out 2) | ((with_reducible refine gate_callee (f := 51) rfl ?_); refine goesL_ (some 5) rfl rfl Tryz.func51 (by kernel_rfl) rfl #[.int .i64 a0_0, .int .i64 0, .int .i64 11] rfl zq0 ?_; (with_reducible refine (impl_within.calls a0_0 0 11 true _ A2.out).mono ?_); rintro e w' ⟨rfl, ⟨nd, rfl⟩⟩; refine ⟨_, rfl, ?_⟩) | (go_at_call 39; (with_reducible refine (impl_isEngraved.calls a0_1 false _ A4.out).mono ?_); rintro e w21 ⟨rfl, hb⟩; have n0_ := Aside0.mk (blk_below (g := gb195) (o := .cells #[.int .i64 a0_0, .string a0_1, .string a0_2] 36 (0, 0)) zq10 hb); have n1_ := Aside0.mk (below_step zq49 hb); clear BK195; clear HB; have BK195 := n0_; have HB := n1_; clear n0_ n1_; (try clear hb); (try clear hb2); (try clear hk); (try clear hi))));(go_ret);(exact ⟨zq40, zq49⟩)
 ·replace c3 := Bool.eq_false_iff.mpr c3
  subst c3;(have H1 : (some false) = some r := zq91);clear H;(have H := H1);clear H1;(obtain rfl := Option.some.inj H)
  go_enter Tryz.func33, Tryz.ntmps33
  (go_wp2_with (first | ((with_reducible refine gate_dst (N := 1) rfl ?_); refine box_event ?hg (N := 1) ?hd (cs := #[.int .i64 a0_0, .string a0_1, .string a0_2]) (t := 36) ?hr ?_; (case hd => rfl); (case hg => rfl); (case hr => first | (go_simp; done) | (go_simp; rfl)); intro gb195 hg w22 hbox hb; have n0_ := Aside0.mk (below_step zq54 hb); have n1_ := Aside0.mk (hbox); have n2_ := Aside0.mk ((zq83 : w.heap.size ≤ gb195)); have n3_ := Aside0.mk ((zq83 : w.heap.size ≤ gb195)); clear HB; have HB := n0_; have BK195 := n1_; have GW195 := n2_; have GE195 := n3_; clear n0_ n1_ n2_ n3_; clear hb hbox hg; have hcz23_0 : w22.cell? ⟨gb195, 0, none⟩ = some (.int .i64 a0_0) := (blk_cell BK195.out 0).trans rfl; have hcz23_1 : w22.cell? ⟨gb195, 1, none⟩ = some (.string a0_1) := (blk_cell BK195.out 1).trans rfl; have hcz23_2 : w22.cell? ⟨gb195, 2, none⟩ = some (.string a0_2) := (blk_cell BK195.out 2).trans rfl; have hfz23_0 := blk_frozen BK195.out 0; have hfz23_1 := blk_frozen BK195.out 1; have hfz23_2 := blk_frozen BK195.out 2) | ((with_reducible refine gate_callee (f := 51) rfl ?_); refine goesL_ (some 5) rfl rfl Tryz.func51 (by kernel_rfl) rfl #[.int .i64 a0_0, .int .i64 0, .int .i64 11] rfl zq0 ?_; (with_reducible refine (impl_within.calls a0_0 0 11 false _ A2.out).mono ?_); rintro e w' ⟨rfl, ⟨nd, rfl⟩⟩; refine ⟨_, rfl, ?_⟩)));(go_ret);(exact ⟨zq40, zq49⟩)

/-! ### impl_ValidEdits: function 20 -/
-- given by hand

theorem idxEdit_rd (l0 : List S36) (x5 : Int) (h0 : 0 ≤ x5) (hlt : x5 < (l0.length : Int)) : (rd_T36 l0 x5) = l0[x5.toNat]'(by omega) := by
 (unfold rd_T36);(rw [List.getD_eq_getElem?_getD, List.getElem?_eq_getElem (show x5.toNat < l0.length by omega)]);rfl
def idxEdit_v (p : S36 → Bool) (l : List S36) : Int := if l.any p then (l.findIdx p : Int) else -1
theorem idxEdit_calls (p : S36 → Bool) (gg : Nat) (lb : Array Value) (eg : ∀ args w, (callFunc gg args).run Tryz.prog w = .ok (.enter gg args) w) (A0 : Option Addr) (c0 : Nat) (l0 : List S36) (w : World) (hr0 : Kd.C k36 w A0 l0.length l0)
  (hp : ∀ (W : World) (x : S36), Below w.heap.size w W → Calls Tryz.prog gg (#[.agg #[.int .i64 x.f0, .string x.f1, .string x.f2]] ++ lb) W fun e w' => e = .returned (.bool (p x)) ∧ Below w.heap.size w w') :
  Calls Tryz.prog 47 #[.slice A0 l0.length c0, .func (.func gg) #[] lb] w fun e w' => e = .returned (.int .i64 (idxEdit_v p l0)) ∧ Below w.heap.size w w' := by
 (have HR := Aside0.mk hr0);(have HM := Kd.C_max hr0);clear hr0;(have HP := Aside0.mk hp);clear hp
 go_enter Tryz.func47, Tryz.ntmps47
 go_wp2
 go_loopg [5, 8] l0.length (fun gk _ s8 wr => ∃ x5 : Int, s8 = .int .i64 x5 ∧ 0 ≤ x5 ∧ x5 ≤ (l0.length : Int) ∧ (l0.length : Int) - x5 ≤ gk ∧ Aside0 (Below w.heap.size w wr) ∧ Aside0 (∀ j, (h : j < l0.length) → (j : Int) < x5 → p l0[j] = false))
 case atStart => exact ⟨0, rfl, by omega, by omega, by omega, ⟨Below.refl _ w⟩, ⟨fun j h hj => by omega⟩⟩
 case round =>
  (obtain ⟨x5, rfl, h0, h1, hg, BW, AA⟩ := hrel);(by_cases hlt : x5 < (l0.length : Int))
  ·have c4b0 : decide (x5 < (l0.length : Int)) = true := decide_eq_true hlt
   obtain ⟨ad, he, hx0, hx1, hx2⟩ := at_T36 HR.out x5 h0 (show x5 < (l0.length : Int) from hlt)
   cases he
   (replace hx0 := (BW.out.cell (World.block_lt_of_cell? w _ hx0)).trans hx0);(replace hx1 := (BW.out.cell (World.block_lt_of_cell? w _ hx1)).trans hx1);(replace hx2 := (BW.out.cell (World.block_lt_of_cell? w _ hx2)).trans hx2);(have HY := Aside0.mk (idxEdit_rd l0 x5 h0 hlt));(have hcall := HP.out wr (rd_T36 l0 x5) BW.out)
   cases hq : p (rd_T36 l0 x5) with
   | true =>
    (rw [hq] at hcall);(have HQ := Aside0.mk hq);clear hq;(go_wp2_with (go_at_fn gg; refine hcall.mono ?_; rintro e w' ⟨rfl, hb'⟩));(go_ret);(refine ⟨?_, hb'⟩);(have hy := HY.out);(have hqq := HQ.out);(have hall := AA.out)
    have e : idxEdit_v p l0 = x5 := by
     (unfold idxEdit_v);(rw [if_pos (List.any_eq_true.2 ⟨l0[x5.toNat]'(by omega), List.getElem_mem _, by rw [← hy]; exact hqq⟩)])
     have : l0.findIdx p = x5.toNat := by
      (rw [List.findIdx_eq (by omega)]);(refine ⟨by rw [← hy]; exact hqq, fun j hj => hall j (by omega) (by omega)⟩)
     omega
    (rw [e]);rfl
   | false =>
    (rw [hq] at hcall);(have HQ := Aside0.mk hq);clear hq;(go_wp2_with (go_at_fn gg; refine hcall.mono ?_; rintro e w' ⟨rfl, hb'⟩));(go_roundg (l0.length - (x5.toNat + 1)))
    case measure => omega
    case rel =>
     (refine ⟨x5 + 1, by first | rfl | go_num, by omega, by omega, by omega, ⟨hb'⟩, ⟨fun j h hj => ?_⟩⟩);(by_cases ee : (j : Int) = x5)
     ·have hy := HY.out
      (have hqq := HQ.out);(rw [hy] at hqq);(have : j = x5.toNat := by omega);subst this;(exact hqq)
     ·exact AA.out j h (by omega)
  ·have c4b0 : decide (x5 < (l0.length : Int)) = false := decide_eq_false hlt
   (go_wp2);(go_ret);(refine ⟨?_, BW.out⟩)
   have e : idxEdit_v p l0 = -1 := by
    (unfold idxEdit_v);(rw [if_neg]);intro h;(obtain ⟨x, hx, hpx⟩ := List.any_eq_true.1 h);(obtain ⟨j, hj, rfl⟩ := List.getElem_of_mem hx);(have := AA.out j hj (by omega));(rw [hpx] at this)
    cases this
   (rw [e]);rfl
theorem idxEdit_nonneg (p : S36 → Bool) (l : List S36) : decide (0 ≤ idxEdit_v p l) = l.any p := by
 unfold idxEdit_v
 cases h : l.any p
 ·simp
 ·simp

theorem conEdit_calls (p : S36 → Bool) (gg : Nat) (lb : Array Value) (eg : ∀ args w, (callFunc gg args).run Tryz.prog w = .ok (.enter gg args) w) (A0 : Option Addr) (c0 : Nat) (l0 : List S36) (w : World) (hr0 : Kd.C k36 w A0 l0.length l0)
  (hp : ∀ (W : World) (x : S36), Below w.heap.size w W → Calls Tryz.prog gg (#[.agg #[.int .i64 x.f0, .string x.f1, .string x.f2]] ++ lb) W fun e w' => e = .returned (.bool (p x)) ∧ Below w.heap.size w w') :
  Calls Tryz.prog 40 #[.slice A0 l0.length c0, .func (.func gg) #[] lb] w fun e w' => e = .returned (.bool (l0.any p)) ∧ Below w.heap.size w w' := by
 (have hI := idxEdit_calls p gg lb eg A0 c0 l0 w hr0 hp);(have HN := Aside0.mk (idxEdit_nonneg p l0));(generalize idxEdit_v p l0 = vv at hI HN);(generalize l0.any p = bb at HN ⊢);clear hp hr0
 go_enter Tryz.func40, Tryz.ntmps40
 (go_wp2_with (go_at_call 47; refine hI.mono ?_; rintro e w' ⟨rfl, hb'⟩));(go_ret);(exact ⟨by rw [← HN.out]; rfl, hb'⟩)

theorem pEdit_some (x : S36) : ∃ b, impl_isEdit.f x.f0 x.f1 x.f2 = some b := by
 (obtain ⟨b, hb⟩ := pEngraved_some x.f1);(obtain ⟨b2, hb2⟩ := pEngraved_some x.f2);(unfold impl_isEdit.f impl_within.f);(rw [hb, hb2]);(by_cases h1 : x.f0 ≥ 0 <;> by_cases h2 : x.f0 ≤ 11 <;> cases b <;> cases b2 <;> simp [h1, h2])

def impl_isEditBad (x : S36) : Bool := !((impl_isEdit.f x.f0 x.f1 x.f2).getD false)
theorem impl_isEditBad_eq (x : S36) : impl_isEdit.f x.f0 x.f1 x.f2 = some (!impl_isEditBad x) := by
 (obtain ⟨b, hb⟩ := pEdit_some x);(unfold impl_isEditBad);(rw [hb])
 simp
theorem impl_isEditBad_calls (w W : World) (x : S36) (hB : Below w.heap.size w W) : Calls Tryz.prog 41 (#[.agg #[.int .i64 x.f0, .string x.f1, .string x.f2]] ++ #[]) W fun e w' => e = .returned (.bool (impl_isEditBad x)) ∧ Below w.heap.size w w' := by
 (have hv := fun W' => impl_isEdit.calls x.f0 x.f1 x.f2 (!impl_isEditBad x) W' (impl_isEditBad_eq x));(generalize impl_isEditBad x = bb at hv ⊢)
 show Calls Tryz.prog 41 #[.agg #[.int .i64 x.f0, .string x.f1, .string x.f2]] W _
 (have HB := Aside0.mk hB);clear hB
 cases x with
 | mk f0 f1 f2 =>
 go_enter Tryz.func41, Tryz.ntmps41
 (go_wp2_with (go_at_call 33; refine (hv _).mono ?_; rintro e w' ⟨rfl, hb'⟩));(go_ret);(exact ⟨by simp, zq44⟩)

def impl_ValidEdits.f (l0 : List S36) : Option Bool := if (l0.length : Int) ≤ 20 then (some (!l0.any impl_isEditBad)) else (some false)
theorem impl_ValidEdits.calls (A0 : Option Addr) (c0 : Nat) (l0 : List S36) (r : Bool) (w : World) (hr0 : Kd.C k36 w A0 l0.length l0) (hc0 : l0.length ≤ c0) (h : impl_ValidEdits.f l0 = some r) :
  Calls Tryz.prog 20 #[.slice A0 l0.length c0] w fun e w' => e = .returned (.bool r) ∧ Below w.heap.size w w' := by
 (have hC := conEdit_calls impl_isEditBad 41 #[] (enters_of Tryz.func41 (by kernel_rfl) rfl) A0 c0 l0 w hr0 (fun W x hb => impl_isEditBad_calls w W x hb));(have HM := Kd.C_max hr0);clear hr0 hc0;(unfold impl_ValidEdits.f at h);(by_cases c2 : (l0.length : Int) ≤ 20)
 ·rw [if_pos c2] at h
  (have c2b : decide ((l0.length : Int) ≤ 20) = true := decide_eq_true c2);(have c2c : decide (l0.length ≤ 20) = true := decide_eq_true (by omega));(obtain rfl := Option.some.inj h);(generalize l0.any impl_isEditBad = bb at hC ⊢)
  go_enter Tryz.func20, Tryz.ntmps20
  (go_wp2_with (go_at_call 40; refine hC.mono ?_; rintro e w' ⟨rfl, hb'⟩));(go_ret);(exact ⟨by simp, hb'⟩)
 ·rw [if_neg c2] at h
  (have c2b : decide ((l0.length : Int) ≤ 20) = false := decide_eq_false c2);(have c2c : decide (l0.length ≤ 20) = false := decide_eq_false (by omega));(obtain rfl := Option.some.inj h);clear hC
  go_enter Tryz.func20, Tryz.ntmps20
  (go_wp2);(go_ret);(exact ⟨rfl, Below.refl _ _⟩)


/-! ### slices_Clone_string_string: function 42 -/
-- given by hand

theorem pV_at {α : Type} {d : Kd α} {e : Nat} {W W' : World} {base m : Nat} {ok : Nat → Prop} {v : Value} {xs : List α} (hq : World.drewN W m = W') (h : Kd.V d e W base ok v xs) : Kd.V d e W' base ok v xs := by
 subst hq;(exact Kd.V_drewN h m)
def slices_Clone_string_string.f (l0 : List ByteArray) : Option (List ByteArray) := if l0.length < 8796093022208 then some l0 else none
theorem slices_Clone_string_string.calls (A0 : Option Addr) (c0 : Nat) (l0 : List ByteArray) (r : List ByteArray) (w : World) (hr0 : Kd.C Kd.string w A0 l0.length l0) (hc0 : l0.length ≤ c0) (h : slices_Clone_string_string.f l0 = some r) :
  Calls Tryz.prog 42 #[.slice A0 l0.length c0] w fun e w' => ∃ v0_ : Value, e = .returned (v0_) ∧ Kd.R Kd.string 9 w' w.heap.size (fun _ => True) v0_ r ∧ Below w.heap.size w w' := by
 (unfold slices_Clone_string_string.f at h);(by_cases c13 : l0.length < 8796093022208)
 ·rw [if_pos c13] at h
  (obtain rfl := Option.some.inj h);clear h;(have LMc13 := Aside0.mk (show (([] : List ByteArray)).length + l0.length < 8796093022208 by simpa using c13));clear c13;(have HB := Aside0.mk (Below.refl w.heap.size w));(have HR0 := Aside0.mk hr0)
  cases A0 with
  | none =>
   have hz : l0 = [] := by
    rcases Nat.eq_zero_or_pos l0.length with h | h
    ·exact List.length_eq_zero_iff.1 h
    ·exact absurd (hr0.2.2 h) (by simp)
   subst hz;clear hr0 hc0 HR0;(have hq : ∀ (W : World) (n' c' : Nat), (binOp .eql 24 (.slice none n' c') (.slice none 0 0)).run Tryz.prog W = .ok (.bool true) W := fun W n' c' => Go.Lib.run_eql_slice_nil W 24 9 none n' c' 0 0 Tryz.underlying24)
   go_enter Tryz.func42, Tryz.ntmps42
   (go_wp2);(go_ret);(exact ⟨_, rfl, Kd.R_nil _ _ _ _ _, Below.refl _ _⟩)
  | some ad =>
   (have HC0 := Aside0.mk hc0);clear hr0 hc0;(obtain ⟨y165, hy165⟩ : ∃ y_ : List ByteArray, y_ = (([] : List ByteArray)) := ⟨_, rfl⟩);(rw [← hy165] at LMc13);(have Ny165 := Aside0.mk hy165);(obtain ⟨y168, hy168⟩ : ∃ y_ : List ByteArray, y_ = (y165 ++ l0) := ⟨_, rfl⟩);(have Ny168 := Aside0.mk hy168);(have HE := Aside0.mk (show y168 = l0 by rw [hy168, hy165, List.nil_append]));clear hy165 hy168;(have hq : ∀ (W : World) (n' c' : Nat), (binOp .eql 24 (.slice (some ad) n' c') (.slice none 0 0)).run Tryz.prog W = .ok (.bool false) W := fun W n' c' => Go.Lib.run_eql_slice_nil W 24 9 (some ad) n' c' 0 0 Tryz.underlying24)
   go_enter Tryz.func42, Tryz.ntmps42
   (go_wp2_with (first | ((with_reducible refine gate_dst (N := 5) rfl ?_); (try (refine gate_guard (by rfl) ?_; dsimp only)); refine Kd.R_lit Kd.string _ 9 ?hg (N := 5) ?hd (xs := ([] : List ByteArray)) (inner := []) (ok := fun _ => True) (okp := fun _ => True) ?hr ?hp (fun _ hk => hk) trivial (Below.refl _ _) (Nat.le_refl _) (by simp) ?_; (case hd => rfl); (case hg => rfl); (case hr => first | (go_simp; done) | (go_simp; rfl)); (case hp => exact (Reps.none _ _)); intro v166 w14 ho15 hb hg_ hnew_; clear hg_ hnew_; (first | rw [← Ny165.out] at ho15 | (simp only [Int.reduceToNat] at ho15; rw [← Ny165.out] at ho15)); have n0_ := Aside0.mk (Kd.R_lower ho15 (below_size zq54)); have n1_ := Aside0.mk (below_step zq54 hb); clear HB; have HO167 := n0_; have HB := n1_; clear n0_ n1_; clear hb ho15) | ((with_reducible refine gate_builtin (b := .append) (xs := #[.tmp 5, .tmp 6]) rfl ?_); (try (refine gate_guard (by rfl) ?_; dsimp only)); at_builtin; refine Kd.R_append_rows Kd.string (w0 := w) w.heap.size rfl (.tmp 5) (.tmp 6) 24 9 (.string ⟨#[]⟩) 16 rfl Tryz.underlying24 info9 rfl (by decide) (by omega) v166 y165 l0 _ _ _ (fun _ => True) (fun _ => False) rfl rfl ?aO ?aR (fun _ _ h => h) (fun _ h => h.elim) ?aF ?aB ?aS ?aL ?_; (case aR => exact zq61); (case aB => exact zq54); (case aF => exact (fun _ _ => trivial)); (case aO => exact (zR HO167.out)); (case aS => exact (below_size zq54)); (case aL => have := LMc13.out; omega); intro v169 w16 ho hb hg hat; rw [← Ny168.out] at ho; have n0_ := Aside0.mk (hb); have n1_ := Aside0.mk (ho); clear HB; clear HO167; have HB := n0_; have HO170 := n1_; clear n0_ n1_; clear ho hb hg hat)));(repeat (go_quiet (first | ((with_reducible refine gate_dst (N := 5) rfl ?_); (try (refine gate_guard (by rfl) ?_; dsimp only)); refine Kd.R_lit Kd.string _ 9 ?hg (N := 5) ?hd (xs := ([] : List ByteArray)) (inner := []) (ok := fun _ => True) (okp := fun _ => True) ?hr ?hp (fun _ hk => hk) trivial (Below.refl _ _) (Nat.le_refl _) (by simp) ?_; (case hd => rfl); (case hg => rfl); (case hr => first | (go_simp; done) | (go_simp; rfl)); (case hp => exact (Reps.none _ _)); intro v166 w14 ho15 hb hg_ hnew_; clear hg_ hnew_; (first | rw [← Ny165.out] at ho15 | (simp only [Int.reduceToNat] at ho15; rw [← Ny165.out] at ho15)); have n0_ := Aside0.mk (Kd.R_lower ho15 (below_size zq54)); have n1_ := Aside0.mk (below_step zq54 hb); clear HB; have HO167 := n0_; have HB := n1_; clear n0_ n1_; clear hb ho15) | ((with_reducible refine gate_builtin (b := .append) (xs := #[.tmp 5, .tmp 6]) rfl ?_); (try (refine gate_guard (by rfl) ?_; dsimp only)); at_builtin; refine Kd.R_append_rows Kd.string (w0 := w) w.heap.size rfl (.tmp 5) (.tmp 6) 24 9 (.string ⟨#[]⟩) 16 rfl Tryz.underlying24 info9 rfl (by decide) (by omega) v166 y165 l0 _ _ _ (fun _ => True) (fun _ => False) rfl rfl ?aO ?aR (fun _ _ h => h) (fun _ h => h.elim) ?aF ?aB ?aS ?aL ?_; (case aR => exact zq61); (case aB => exact zq54); (case aF => exact (fun _ _ => trivial)); (case aO => exact (zR HO167.out)); (case aS => exact (below_size zq54)); (case aL => have := LMc13.out; omega); intro v169 w16 ho hb hg hat; rw [← Ny168.out] at ho; have n0_ := Aside0.mk (hb); have n1_ := Aside0.mk (ho); clear HB; clear HO167; have HB := n0_; have HO170 := n1_; clear n0_ n1_; clear ho hb hg hat)); try go_wp2_with (first | ((with_reducible refine gate_dst (N := 5) rfl ?_); (try (refine gate_guard (by rfl) ?_; dsimp only)); refine Kd.R_lit Kd.string _ 9 ?hg (N := 5) ?hd (xs := ([] : List ByteArray)) (inner := []) (ok := fun _ => True) (okp := fun _ => True) ?hr ?hp (fun _ hk => hk) trivial (Below.refl _ _) (Nat.le_refl _) (by simp) ?_; (case hd => rfl); (case hg => rfl); (case hr => first | (go_simp; done) | (go_simp; rfl)); (case hp => exact (Reps.none _ _)); intro v166 w14 ho15 hb hg_ hnew_; clear hg_ hnew_; (first | rw [← Ny165.out] at ho15 | (simp only [Int.reduceToNat] at ho15; rw [← Ny165.out] at ho15)); have n0_ := Aside0.mk (Kd.R_lower ho15 (below_size zq54)); have n1_ := Aside0.mk (below_step zq54 hb); clear HB; have HO167 := n0_; have HB := n1_; clear n0_ n1_; clear hb ho15) | ((with_reducible refine gate_builtin (b := .append) (xs := #[.tmp 5, .tmp 6]) rfl ?_); (try (refine gate_guard (by rfl) ?_; dsimp only)); at_builtin; refine Kd.R_append_rows Kd.string (w0 := w) w.heap.size rfl (.tmp 5) (.tmp 6) 24 9 (.string ⟨#[]⟩) 16 rfl Tryz.underlying24 info9 rfl (by decide) (by omega) v166 y165 l0 _ _ _ (fun _ => True) (fun _ => False) rfl rfl ?aO ?aR (fun _ _ h => h) (fun _ h => h.elim) ?aF ?aB ?aS ?aL ?_; (case aR => exact zq61); (case aB => exact zq54); (case aF => exact (fun _ _ => trivial)); (case aO => exact (zR HO167.out)); (case aS => exact (below_size zq54)); (case aL => have := LMc13.out; omega); intro v169 w16 ho hb hg hat; rw [← Ny168.out] at ho; have n0_ := Aside0.mk (hb); have n1_ := Aside0.mk (ho); clear HB; clear HO167; have HB := n0_; have HO170 := n1_; clear n0_ n1_; clear ho hb hg hat))));(go_ret);(refine ⟨_, rfl, ?_, zq54⟩);(rw [← HE.out]);((with_reducible repeat (first | apply Kd.R_alloc | apply Kd.R_drewN | apply Kd.R_drew)));(exact HO170.out)
 ·rw [if_neg c13] at h
  cases h


end Go.Proofs.YtlkgajfhgcongaaGreatDoor.PFnEdits
