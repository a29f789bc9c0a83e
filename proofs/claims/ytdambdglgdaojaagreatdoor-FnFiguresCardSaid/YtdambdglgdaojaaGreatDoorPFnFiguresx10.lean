-- Made by a program of this session (gprint.py) out of the kit's print of the translation and texts of my own. SLIM
import Derived.Test.YtdambdglgdaojaaGreatDoorPFnFiguresx0
namespace Go.Proofs.YtdambdglgdaojaaGreatDoor.PFnFigures
open Go.RowKit Go.Proofs.YtdambdglgdaojaaGreatDoorW.PrintWords Go.Proofs.YtdambdglgdaojaaGreatDoorW.PrintLast Go.Proofs.YtdambdglgdaojaaGreatDoorW.PrintMore
set_option maxHeartbeats 64000000
set_option maxRecDepth 100000
attribute [local go_sem] max2_int min2_int max_two min_two max_three min_three max_four min_four   -- for this text's walks alone
set_option linter.unusedVariables false
set_option linter.unusedSimpArgs false

/-! ### spec_l16Lines: function 32 -/
def spec_l16Lines.l0 : Nat → List (S39) → List Int → Int → Option (List Int)
 | 0, _, _, _ => none
 | k + 1, x1, x5, x6 => if x6 < (x1.length : Int) then (if 0 ≤ x6 then (if 0 ≤ ((rd_T39 x1 x6).f0) then (if ((rd_T39 x1 x6).f0) < (x5.length : Int) then ((some (x5.set (((rd_T39 x1 x6).f0) : Int).toNat (wrap64 ((rd x5 ((rd_T39 x1 x6).f0)) + 1)) : List Int)).bind fun y435 => (if 0 ≤ ((rd_T39 x1 x6).f1) then (if ((rd_T39 x1 x6).f1) < (x5.length : Int) then (spec_l16Lines.l0 k x1 (y435.set (((rd_T39 x1 x6).f1) : Int).toNat (wrap64 ((rd y435 ((rd_T39 x1 x6).f1)) + 1))) (wrap64 (x6 + 1))) else (none)) else (none))) else (none)) else (none)) else (none)) else (some x5)
def spec_l16Lines.f (k : Nat) (l0 : List (S53)) (l1 : List (S39)) : Option (List Int) := if 0 ≤ (l0.length : Int) then (if ((l0.length : Int) : Int).toNat ≤ 35184372088832 then (spec_l16Lines.l0 k l1 (List.replicate ((l0.length : Int) : Int).toNat 0) 0) else (none)) else (none)
theorem spec_l16Lines.mono_l : ∀ k, (∀ y0 y1 y2, LeO (spec_l16Lines.l0 k y0 y1 y2) (spec_l16Lines.l0 (k + 1) y0 y1 y2))
 | 0 => fun _ _ _ r h => by simp [spec_l16Lines.l0] at h
 | k + 1 => by
  have ih0 := spec_l16Lines.mono_l k
  ·intro y0 y1 y2
   unfold spec_l16Lines.l0
   repeat' first | with_reducible (first | exact ih0 _ _ _ | exact LeO.refl _ | exact LeO.none _ | refine LeO.ite ?_ ?_ | refine LeO.bind ?_ (fun _ => ?_)) | exact ih0 _ _ _ | exact LeO.none _ | refine LeO.ite ?_ ?_ | refine LeO.bind ?_ (fun _ => ?_)
theorem spec_l16Lines.mono : ∀ a0 a1 k, LeO (spec_l16Lines.f k a0 a1) (spec_l16Lines.f (k + 1) a0 a1) := by
 intro a0 a1 k;(have ih0 := spec_l16Lines.mono_l k);(unfold spec_l16Lines.f)
 repeat' first | with_reducible (first | exact ih0 _ _ _ | exact LeO.refl _ | exact LeO.none _ | refine LeO.ite ?_ ?_ | refine LeO.bind ?_ (fun _ => ?_)) | exact ih0 _ _ _ | exact LeO.none _ | refine LeO.ite ?_ ?_ | refine LeO.bind ?_ (fun _ => ?_)
theorem spec_l16Lines.calls (k : Nat) (A0 : Option Addr) (c0 : Nat) (l0 : List (S53)) (A1 : Option Addr) (c1 : Nat) (l1 : List (S39)) (r : List Int) (w : World) (hr0 : Kd.C k53 w A0 l0.length l0) (hc0 : l0.length ≤ c0) (hr1 : Kd.C k39 w A1 l1.length l1) (hc1 : l1.length ≤ c1) (h : spec_l16Lines.f k l0 l1 = some r) :
  Calls Tryz.prog 32 #[.slice A0 l0.length c0, .slice A1 l1.length c1] w fun e w' => ∃ v0_ : Value, e = .returned (v0_) ∧ Kd.R (Kd.int .i64) 2 w' w.heap.size (fun _ => True) v0_ r ∧ Below w.heap.size w w' := by
 (have HR0 := Aside0.mk hr0);(have HC0 := Aside0.mk hc0);clear hr0 hc0;(have HR1 := Aside0.mk hr1);(have HC1 := Aside0.mk hc1);clear hr1 hc1;(have HB := Aside0.mk (Below.refl w.heap.size w));(have H : (if 0 ≤ (l0.length : Int) then (if ((l0.length : Int) : Int).toNat ≤ 35184372088832 then (spec_l16Lines.l0 k l1 (List.replicate ((l0.length : Int) : Int).toNat 0) 0) else (none)) else (none)) = some r := h);clear h;(by_cases c3 : 0 ≤ (l0.length : Int))
 ·rw [if_pos c3] at H
  (have c3b0 := eq_true c3);(have c3b1 : decide (0 ≤ (l0.length : Int)) = true := decide_eq_true c3);clear c3;(by_cases c4 : ((l0.length : Int) : Int).toNat ≤ 35184372088832)
  ·rw [if_pos c4] at H
   (have c4b0 := eq_true c4);(have c4b1 : decide (((l0.length : Int) : Int).toNat ≤ 35184372088832) = true := decide_eq_true c4);clear c4;(obtain ⟨y430, hy_⟩ : ∃ y_ : List Int, y_ = (List.replicate ((l0.length : Int) : Int).toNat 0) := ⟨_, rfl⟩);(replace H : (spec_l16Lines.l0 k l1 y430 0) = some r := zq38);(have Ny430 := Aside0.mk hy_);clear hy_;(have H' := Aside0.mk H);clear H
   go_enter Tryz.func32, Tryz.ntmps32
   go_wp2_with (first | ((with_reducible refine gate_dst (N := 9) rfl ?_); refine Kd.R_make (Kd.int .i64) _ 2 rfl (N := 9) rfl 34 _ _ rfl (l0.length : Int) rfl rfl Tryz.underlying34 (.int .i64 0) 8 info2 rfl (by decide) (by omega) 0 (ok := fun _ => True) (okp := fun _ => True) rfl (fun _ hk => hk) trivial (of_decide_eq_true zq39) (Nat.le_trans (Nat.mul_le_mul_right _ (of_decide_eq_true zq39 : (l0.length : Int).toNat ≤ 35184372088832)) (by omega)) (Below.refl _ _) (Nat.le_refl _) ?_; intro v431 w5 ho6 hb hg_ hnew_; clear hg_ hnew_; (first | rw [← Ny430.out] at ho6 | (simp only [Int.reduceToNat] at ho6; rw [← Ny430.out] at ho6)); have n0_ := Aside0.mk (Kd.R_lower ho6 (below_size zq79)); have n1_ := Aside0.mk (below_step zq79 hb); clear HB; have HO432 := n0_; have HB := n1_; clear n0_ n1_; clear hb ho6))
   go_loopg [6] k (fun kq v6 w' => ∃ (x5_1 : List Int) (x6_1 : Int), v6 = .int .i64 x6_1 ∧ Aside0 (spec_l16Lines.l0 kq l1 x5_1 x6_1 = some r) ∧ Aside0 (kq ≤ k) ∧ Aside0 (Kd.R (Kd.int .i64) 2 w' w.heap.size (fun _ => True) v431 x5_1) ∧ Aside0 (Below w.heap.size w w'))
   case atStart => exact ⟨(y430), (0), zq46, H', ⟨Nat.le_refl _⟩, ⟨zR HO432.out⟩, ⟨zq79⟩⟩
   case round =>
    clear H';(try clear c1);(try clear p2);(try clear c3);(try clear c3b0);(try clear c3b1);(try clear c4);(try clear c4b0);(try clear c4b1);(obtain ⟨x5_1, x6_1, rfl, HA, HK1, HO_5, HB⟩ := hrel)
    cases gk with
    | zero => exact absurd HA.out (by simp [spec_l16Lines.l0])
    | succ k1 =>
     (have H := HA.out);clear HA;(simp only [spec_l16Lines.l0] at H);(by_cases c7 : x6_1 < (l1.length : Int))
     ·rw [if_pos c7] at H
      (have c7b0 : decide (x6_1 < (l1.length : Int)) = true := decide_eq_true c7);clear c7;(by_cases c8 : 0 ≤ x6_1)
      ·rw [if_pos c8] at H
       (have c8b0 : decide (0 ≤ x6_1) = true := decide_eq_true c8);clear c8;(by_cases c9 : 0 ≤ ((rd_T39 l1 x6_1).f0))
       ·rw [if_pos c9] at H
        (have c9b0 : decide (0 ≤ ((rd_T39 l1 x6_1).f0)) = true := decide_eq_true c9);clear c9;(by_cases c10 : ((rd_T39 l1 x6_1).f0) < (x5_1.length : Int))
        ·rw [if_pos c10] at H
         (have c10b0 : decide (((rd_T39 l1 x6_1).f0) < (x5_1.length : Int)) = true := decide_eq_true c10);clear c10;(obtain ⟨y435, hy_⟩ : ∃ y_ : List Int, y_ = (x5_1.set (((rd_T39 l1 x6_1).f0) : Int).toNat (wrap64 ((rd x5_1 ((rd_T39 l1 x6_1).f0)) + 1))) := ⟨_, rfl⟩);(replace H : (if 0 ≤ ((rd_T39 l1 x6_1).f1) then (if ((rd_T39 l1 x6_1).f1) < (x5_1.length : Int) then (spec_l16Lines.l0 k1 l1 (y435.set (((rd_T39 l1 x6_1).f1) : Int).toNat (wrap64 ((rd y435 ((rd_T39 l1 x6_1).f1)) + 1))) (wrap64 (x6_1 + 1))) else (none)) else (none)) = some r := zq38);(have Ny435 := Aside0.mk hy_);clear hy_;(by_cases c12 : 0 ≤ ((rd_T39 l1 x6_1).f1))
         ·rw [if_pos c12] at H
          (have c12b0 : decide (0 ≤ ((rd_T39 l1 x6_1).f1)) = true := decide_eq_true c12);clear c12;(by_cases c13 : ((rd_T39 l1 x6_1).f1) < (x5_1.length : Int))
          ·rw [if_pos c13] at H
           (have c13b0 : decide (((rd_T39 l1 x6_1).f1) < (x5_1.length : Int)) = true := decide_eq_true c13);clear c13;(obtain ⟨y438, hy_⟩ : ∃ y_ : List Int, y_ = (y435.set (((rd_T39 l1 x6_1).f1) : Int).toNat (wrap64 ((rd y435 ((rd_T39 l1 x6_1).f1)) + 1))) := ⟨_, rfl⟩);(replace H : (spec_l16Lines.l0 k1 l1 y438 (wrap64 (x6_1 + 1))) = some r := zq38);(have Ny438 := Aside0.mk hy_);clear hy_;(have H' := Aside0.mk H);clear H;(have p433 : 0 ≤ (x6_1 : Int) := of_decide_eq_true zq39);(have q433 : x6_1 < (l1.length : Int) := of_decide_eq_true zq39);(obtain ⟨ad433, e433, hx433_0, hx433_1⟩ := at_T39 HR1.out x6_1 p433 q433)
           cases e433
           (replace hx433_0 := (HB.out.cell (World.block_lt_of_cell? w _ hx433_0)).trans hx433_0);(replace hx433_1 := (HB.out.cell (World.block_lt_of_cell? w _ hx433_1)).trans hx433_1);(replace p433 := eq_true p433);(replace q433 := eq_true q433);(obtain ⟨Ao15, co15, eo15⟩ := Kd.R_slice HO_5.out);subst eo15;(have p434 : 0 ≤ (((rd_T39 l1 x6_1).f0) : Int) := of_decide_eq_true zq39);(have q434 : ((rd_T39 l1 x6_1).f0) < (x5_1.length : Int) := of_decide_eq_true zq39);(obtain ⟨ad434, e434, hx434_0⟩ := Kd.at_int (Kd.R_reads' HO_5.out).2.2 ((rd_T39 l1 x6_1).f0) p434 q434)
           cases e434
           (replace p434 := eq_true p434);(replace q434 := eq_true q434);(have p11 : 0 ≤ (((rd_T39 l1 x6_1).f0) : Int) := of_decide_eq_true zq39);(have q11 : (((rd_T39 l1 x6_1).f0) : Int) < ((x5_1.length : Int) : Int) := of_decide_eq_true zq39);(obtain ⟨go11, co11, eo11, gb11, gl11, cl11, HG11⟩ := Kd.R_form HO_5.out (by omega));((first | cases eo11 | (injection eo11 with ea_ en_ ec_; (first | subst ea_ | (injection ea_ with ea_; subst ea_)); subst ec_; clear en_)));(have GB11 := Aside0.mk gb11);(have GG11 := Aside0.mk HG11);clear gb11 gl11 HG11;((first | simp only [add_plain] at hx434_0 | skip));(obtain ⟨hx11_0, hf11_0⟩ := Kd.R_celln 0 HO_5.out (((rd_T39 l1 x6_1).f0) : Int) p11 q11);(replace p11 := eq_true p11);(replace q11 := eq_true q11);(have HP16 := Kd.R_putg HO_5.out (((rd_T39 l1 x6_1).f0) : Int) (wrap64 ((rd x5_1 ((rd_T39 l1 x6_1).f0)) + 1)));(go_wp2_with (first | ((with_reducible refine gate_store (t := 2) (p := 25) rfl ?_); refine store_event (t := 2) (p := 25) (v := ?vo_w17) (w1 := (wr.setCell ⟨go11, (((rd_T39 l1 x6_1).f0) : Int).toNat, none⟩ (.int .i64 (wrap64 ((rd x5_1 ((rd_T39 l1 x6_1).f0)) + 1))))) ?hg ?ho ?hn ?hr ?_; (case ho => rfl); (case hg => rfl); (case hn => rfl); (case hr => first | (go_simp; done) | (go_simp; rfl)); intro w17 hw; have hg : wr.grownBy w17 (some go11) := (by rw [hw]; exact HP16.2); have hp_ : Kd.R (Kd.int .i64) 2 w17 w.heap.size (fun _ => True) (.slice (some ⟨go11, 0, none⟩) x5_1.length co15) y435 := (by rw [hw, Ny435.out]; exact HP16.1); clear HP16; have n0_ := Aside0.mk (hp_); have n1_ := Aside0.mk ((by rw [hw]; exact below_set (HB.out) GB11.out : Below w.heap.size w w17)); clear HO_5; clear HB; have HO_5 := n0_; have HB := n1_; clear n0_ n1_; clear hg hw hp_; have p436 : 0 ≤ (x6_1 : Int) := of_decide_eq_true zq39; have q436 : x6_1 < (l1.length : Int) := of_decide_eq_true zq39; obtain ⟨ad436, e436, hx436_0, hx436_1⟩ := at_T39 HR1.out x6_1 p436 q436; obtain rfl : ad433 = ad436 := (by injection e436); replace hx436_0 := (HB.out.cell (World.block_lt_of_cell? w _ hx436_0)).trans hx436_0; replace hx436_1 := (HB.out.cell (World.block_lt_of_cell? w _ hx436_1)).trans hx436_1; replace p436 := eq_true p436; replace q436 := eq_true q436; have p437 : 0 ≤ (((rd_T39 l1 x6_1).f1) : Int) := of_decide_eq_true zq39; have q437 : ((rd_T39 l1 x6_1).f1) < (y435.length : Int) := (by have h_ : (((rd_T39 l1 x6_1).f1) : Int) < ((x5_1.length : Int) : Int) := of_decide_eq_true zq39; first | (have e_ := (Kd.R_reads' HO_5.out).1; omega) | simpa only [Ny435.out, List.length_set] using h_); have ql437 : ((((rd_T39 l1 x6_1).f1) : Int) < ((x5_1.length : Int) : Int)) = True := eq_true (of_decide_eq_true zq39); obtain ⟨ad437, e437, hx437_0⟩ := Kd.at_int (Kd.R_reads' HO_5.out).2.2 ((rd_T39 l1 x6_1).f1) p437 q437; obtain rfl : (⟨go11, 0, none⟩ : Addr) = ad437 := (by injection e437); (first | simp only [add_plain] at hx437_0 | simp only [add_at] at hx437_0 | simp only [Addr.add, Nat.zero_add] at hx437_0 | skip); replace p437 := eq_true p437; replace q437 := eq_true q437; have p14 : 0 ≤ (((rd_T39 l1 x6_1).f1) : Int) := of_decide_eq_true zq39; have q14 : (((rd_T39 l1 x6_1).f1) : Int) < ((x5_1.length : Int) : Int) := of_decide_eq_true zq39; obtain ⟨hx14_0, hf14_0⟩ := Kd.R_celln 0 HO_5.out (((rd_T39 l1 x6_1).f1) : Int) p14 q14; replace p14 := eq_true p14; replace q14 := eq_true q14; obtain ⟨hy18_, hz18_⟩ := Kd.R_celln 0 HO_5.out (((rd_T39 l1 x6_1).f1) : Int) (of_decide_eq_true zq39) (of_decide_eq_true zq39); have HP18 := Kd.R_putg HO_5.out (((rd_T39 l1 x6_1).f1) : Int) (wrap64 ((rd y435 ((rd_T39 l1 x6_1).f1)) + 1))) | ((with_reducible refine gate_store (t := 2) (p := 35) rfl ?_); refine store_event (t := 2) (p := 35) (v := ?vo_w19) (w1 := (w17.setCell ⟨go11, (((rd_T39 l1 x6_1).f1) : Int).toNat, none⟩ (.int .i64 (wrap64 ((rd y435 ((rd_T39 l1 x6_1).f1)) + 1))))) ?hg ?ho ?hn ?hr ?_; (case ho => rfl); (case hg => rfl); (case hn => rfl); (case hr => first | (go_simp; done) | (go_simp; rfl)); intro w19 hw; have hg : w17.grownBy w19 (some go11) := (by rw [hw]; exact HP18.2); have hp_ : Kd.R (Kd.int .i64) 2 w19 w.heap.size (fun _ => True) (.slice (some ⟨go11, 0, none⟩) x5_1.length co15) y438 := (by rw [hw, Ny438.out]; exact HP18.1); clear HP18; have n0_ := Aside0.mk (hp_); have n1_ := Aside0.mk ((by rw [hw]; exact below_set (HB.out) GB11.out : Below w.heap.size w w19)); clear HO_5; clear HB; have HO_5 := n0_; have HB := n1_; clear n0_ n1_; clear hg hw hp_)));(go_roundg k1)
           case measure => have := HK1.out; omega
           case rel => exact ⟨(y438), (wrap64 (x6_1 + 1)), zq46, H', ⟨zq56⟩, ⟨zR HO_5.out⟩, ⟨zq79⟩⟩
          ·rw [if_neg c13] at H
           exact absurd H (by simp)
         ·rw [if_neg c12] at H
          exact absurd H (by simp)
        ·rw [if_neg c10] at H
         exact absurd H (by simp)
       ·rw [if_neg c9] at H
        exact absurd H (by simp)
      ·rw [if_neg c8] at H
       exact absurd H (by simp)
     ·rw [if_neg c7] at H
      (have c7b0 : decide (x6_1 < (l1.length : Int)) = false := decide_eq_false c7);clear c7;(obtain rfl := Option.some.inj H);(go_wp2);(go_ret);(exact ⟨_, zq43, zR HO_5.out, zq79⟩)
  ·rw [if_neg c4] at H
   exact absurd H (by simp)
 ·rw [if_neg c3] at H
  exact absurd H (by simp)

/-! ### spec_l16Stars: function 47 -/
def spec_l16Stars.l0 : Nat → List Int → List Int → Int → Option (List Int)
 | 0, _, _, _ => none
 | k + 1, x5, x6, x7 => if x7 < (x5.length : Int) then (if 0 ≤ x7 then (if (rd x5 x7) > 0 then (if x6.length < 17592186044416 then (spec_l16Stars.l0 k x5 (x6 ++ [x7]) (wrap64 (x7 + 1))) else (none)) else (spec_l16Stars.l0 k x5 x6 (wrap64 (x7 + 1)))) else (none)) else (some x6)
def spec_l16Stars.f (k : Nat) (l0 : List (S53)) (l1 : List (S39)) : Option (List Int) := (spec_l16Lines.f k l0 l1).bind fun t439 => (spec_l16Stars.l0 k t439 (([] : List Int)) 0)
theorem spec_l16Stars.mono_l : ∀ k, (∀ y0 y1 y2, LeO (spec_l16Stars.l0 k y0 y1 y2) (spec_l16Stars.l0 (k + 1) y0 y1 y2))
 | 0 => fun _ _ _ r h => by simp [spec_l16Stars.l0] at h
 | k + 1 => by
  have ih0 := spec_l16Stars.mono_l k
  ·intro y0 y1 y2
   unfold spec_l16Stars.l0
   repeat' first | with_reducible (first | exact ih0 _ _ _ | exact spec_l16Lines.mono _ _ _ | exact LeO.refl _ | exact LeO.none _ | refine LeO.ite ?_ ?_ | refine LeO.bind ?_ (fun _ => ?_)) | exact ih0 _ _ _ | exact spec_l16Lines.mono _ _ _ | exact LeO.none _ | refine LeO.ite ?_ ?_ | refine LeO.bind ?_ (fun _ => ?_)
theorem spec_l16Stars.mono : ∀ a0 a1 k, LeO (spec_l16Stars.f k a0 a1) (spec_l16Stars.f (k + 1) a0 a1) := by
 intro a0 a1 k;(have ih0 := spec_l16Stars.mono_l k);(unfold spec_l16Stars.f)
 repeat' first | with_reducible (first | exact ih0 _ _ _ | exact spec_l16Lines.mono _ _ _ | exact LeO.refl _ | exact LeO.none _ | refine LeO.ite ?_ ?_ | refine LeO.bind ?_ (fun _ => ?_)) | exact ih0 _ _ _ | exact spec_l16Lines.mono _ _ _ | exact LeO.none _ | refine LeO.ite ?_ ?_ | refine LeO.bind ?_ (fun _ => ?_)
theorem spec_l16Stars.calls (k : Nat) (A0 : Option Addr) (c0 : Nat) (l0 : List (S53)) (A1 : Option Addr) (c1 : Nat) (l1 : List (S39)) (r : List Int) (w : World) (hr0 : Kd.C k53 w A0 l0.length l0) (hc0 : l0.length ≤ c0) (hr1 : Kd.C k39 w A1 l1.length l1) (hc1 : l1.length ≤ c1) (h : spec_l16Stars.f k l0 l1 = some r) :
  Calls Tryz.prog 47 #[.slice A0 l0.length c0, .slice A1 l1.length c1] w fun e w' => ∃ v0_ : Value, e = .returned (v0_) ∧ Kd.R (Kd.int .i64) 2 w' w.heap.size (fun _ => True) v0_ r ∧ Below w.heap.size w w' := by
 (have HR0 := Aside0.mk hr0);(have HC0 := Aside0.mk hc0);clear hr0 hc0;(have HR1 := Aside0.mk hr1);(have HC1 := Aside0.mk hc1);clear hr1 hc1;(have HB := Aside0.mk (Below.refl w.heap.size w));(have H : ((spec_l16Lines.f k l0 l1).bind fun t439 => (spec_l16Stars.l0 k t439 (([] : List Int)) 0)) = some r := h);clear h;(replace H := Option.bind_eq_some_iff.mp H);(obtain ⟨t439, A30, H⟩ := H);(replace H : (spec_l16Stars.l0 k t439 (([] : List Int)) 0) = some r := H);(have A3 := Aside0.mk A30);clear A30;(obtain ⟨y442, hy_⟩ : ∃ y_ : List Int, y_ = (([] : List Int)) := ⟨_, rfl⟩);(replace H : (spec_l16Stars.l0 k t439 y442 0) = some r := zq38);(have Ny442 := Aside0.mk hy_);clear hy_;(have H' := Aside0.mk H);clear H
 go_enter Tryz.func47, Tryz.ntmps47
 go_wp2_with (first | ((with_reducible refine gate_callee (f := 32) rfl ?_); refine goesL_ (some 10) rfl rfl Tryz.func32 (by kernel_rfl) rfl #[.slice A0 l0.length c0, .slice A1 l1.length c1] rfl zq0 ?_; (with_reducible refine (spec_l16Lines.calls k _ _ l0 _ _ l1 t439 _ ?side1 ?side2 ?side3 ?side4 A3.out).mono ?_); (case side1 => exact zq109); (case side2 => exact HC0.out); (case side3 => exact zq110); (case side4 => exact HC1.out); rintro e w4 ⟨v440, rfl, ho0, hb⟩; refine ⟨_, rfl, ?_⟩; have n0_ := Aside0.mk (Kd.R_lower ho0 (below_size zq79)); have n1_ := Aside0.mk (below_step zq79 hb); clear HB; have HO441 := n0_; have HB := n1_; clear n0_ n1_; (try clear hb); (try clear hb2); (try clear hk); (try clear hi); (try clear ho0)) | ((with_reducible refine gate_dst (N := 11) rfl ?_); refine Kd.R_lit (Kd.int .i64) _ 2 ?hg (N := 11) ?hd (xs := ([] : List Int)) (inner := []) (ok := fun _ => True) (okp := fun _ => True) ?hr ?hp (fun _ hk => hk) trivial (Below.refl _ _) (Nat.le_refl _) (by simp) ?_; (case hd => rfl); (case hg => rfl); (case hr => first | (go_simp; done) | (go_simp; rfl)); (case hp => exact (Reps.none _ _)); intro v443 w5 ho6 hb hg_ hnew_; clear hg_ hnew_; (first | rw [← Ny442.out] at ho6 | (simp only [Int.reduceToNat] at ho6; rw [← Ny442.out] at ho6)); have n0_ := Aside0.mk (Kd.R_elder' (zR HO441.out) (Kd.R_base ho6) hb); have n1_ := Aside0.mk (Kd.R_lower (Kd.R_new' ho6 (Kd.R_lt (zR HO441.out))) (below_size zq79)); have n2_ := Aside0.mk (below_step zq79 hb); clear HO441; clear HB; have HO441 := n0_; have HO444 := n1_; have HB := n2_; clear n0_ n1_ n2_; clear hb ho6))
 go_loopg [6, 7] k (fun kq v6 v7 w' => ∃ (x6_1 : List Int) (x7_1 : Int), v7 = .int .i64 x7_1 ∧ Aside0 (spec_l16Stars.l0 kq t439 x6_1 x7_1 = some r) ∧ Aside0 (kq ≤ k) ∧ Aside0 (Kd.R (Kd.int .i64) 2 w' w.heap.size (fun k_ => some k_ ≠ (v6 : Value).ownBlock) v440 t439) ∧ Aside0 (Kd.R (Kd.int .i64) 2 w' w.heap.size (fun k_ => some k_ ≠ (v440 : Value).ownBlock) v6 x6_1) ∧ Aside0 (Below w.heap.size w w'))
 case atStart => exact ⟨(y442), (0), zq46, H', ⟨Nat.le_refl _⟩, ⟨by (with_reducible repeat (first | apply Kd.R_alloc | apply Kd.R_drewN | apply Kd.R_drew)); exact Kd.R_mono HO441.out (fun _ hk => hk.2)⟩, ⟨by (with_reducible repeat (first | apply Kd.R_alloc | apply Kd.R_drewN | apply Kd.R_drew)); exact Kd.R_mono HO444.out (fun _ hk => hk.2)⟩, ⟨zq79⟩⟩
 case round =>
  clear H';(try clear c1);(try clear p2);(try clear c3);(try clear c4);(obtain ⟨x6_1, x7_1, rfl, HA, HK1, HO_5, HO_6, HB⟩ := hrel)
  cases gk with
  | zero => exact absurd HA.out (by simp [spec_l16Stars.l0])
  | succ k1 =>
   (have H := HA.out);clear HA;(simp only [spec_l16Stars.l0] at H);(by_cases c7 : x7_1 < (t439.length : Int))
   ·rw [if_pos c7] at H
    (have c7b0 : decide (x7_1 < (t439.length : Int)) = true := decide_eq_true c7);clear c7;(by_cases c8 : 0 ≤ x7_1)
    ·rw [if_pos c8] at H
     (have c8b0 : decide (0 ≤ x7_1) = true := decide_eq_true c8);clear c8;(by_cases c9 : (rd t439 x7_1) > 0)
     ·rw [if_pos c9] at H
      (have c9b0 : decide (0 < (rd t439 x7_1)) = true := decide_eq_true c9);clear c9;(by_cases c10 : x6_1.length < 17592186044416)
      ·rw [if_pos c10] at H
       (have LMc10 := Aside0.mk c10);clear c10;(obtain ⟨y446, hy_⟩ : ∃ y_ : List Int, y_ = (x6_1 ++ [x7_1]) := ⟨_, rfl⟩);(replace H : (spec_l16Stars.l0 k1 t439 y446 (wrap64 (x7_1 + 1))) = some r := zq38);(have Ny446 := Aside0.mk hy_);clear hy_;(have H' := Aside0.mk H);clear H;(obtain ⟨Ao11, co11, eo11⟩ := Kd.R_slice HO_5.out);subst eo11;(have p445 : 0 ≤ (x7_1 : Int) := of_decide_eq_true zq39);(have q445 : x7_1 < (t439.length : Int) := of_decide_eq_true zq39);(obtain ⟨ad445, e445, hx445_0⟩ := Kd.at_int (Kd.R_reads' HO_5.out).2.2 x7_1 p445 q445)
       cases e445
       (replace p445 := eq_true p445);(replace q445 := eq_true q445);(go_wp2_with (first | ((with_reducible refine gate_builtin (b := .append) (xs := #[.tmp 23, .tmp 25]) rfl ?_); at_builtin; refine Kd.R_append (Kd.int .i64) (w0 := w) w.heap.size rfl (.tmp 23) (.tmp 25) 34 2 (.int .i64 0) 8 rfl Tryz.underlying34 info2 rfl (by decide) (by omega) u6 x6_1 x7_1 [.int .i64 x7_1] (fun k_ => some k_ ≠ (.slice (some ad445) t439.length co11 : Value).ownBlock) (fun _ => False) rfl rfl ?aP (fun _ hk => hk.elim) ?aF ?aO ?aB ?aS ?aL ?_; (case aP => exact rfl); (case aB => exact zq79); (case aF => exact (fun k_ hk => Kd.fresh' (Kd.R_lt (zR HO_5.out)) k_ hk)); (case aO => exact (zR HO_6.out)); (case aS => exact (below_size zq79)); (case aL => have := LMc10.out; omega); intro v447 w12 ho hb hg hat; rw [← Ny446.out] at ho; have n0_ := Aside0.mk (Kd.R_after (ok := (fun _ => True)) zq14 hg hat); have n1_ := Aside0.mk (hb); have n2_ := Aside0.mk (ho); clear HO_5; clear HB; clear HO_6; have HO_5 := n0_; have HB := n1_; have HO448 := n2_; clear n0_ n1_ n2_; clear ho hb hg hat)));(go_roundg k1)
       case measure => have := HK1.out; omega
       case rel => exact ⟨(y446), (wrap64 (x7_1 + 1)), zq46, H', ⟨zq56⟩, ⟨zq13⟩, ⟨zR HO448.out⟩, ⟨zq79⟩⟩
      ·rw [if_neg c10] at H
       exact absurd H (by simp)
     ·rw [if_neg c9] at H
      (have c9b0 : decide (0 < (rd t439 x7_1)) = false := decide_eq_false c9);clear c9;(have H' := Aside0.mk H);clear H;(obtain ⟨Ao13, co13, eo13⟩ := Kd.R_slice HO_5.out);subst eo13;(have p445 : 0 ≤ (x7_1 : Int) := of_decide_eq_true zq39);(have q445 : x7_1 < (t439.length : Int) := of_decide_eq_true zq39);(obtain ⟨ad445, e445, hx445_0⟩ := Kd.at_int (Kd.R_reads' HO_5.out).2.2 x7_1 p445 q445)
      cases e445
      (replace p445 := eq_true p445);(replace q445 := eq_true q445);(go_wp2);(go_roundg k1)
      case measure => have := HK1.out; omega
      case rel => exact ⟨(x6_1), (wrap64 (x7_1 + 1)), zq46, H', ⟨zq56⟩, ⟨zR HO_5.out⟩, ⟨zR HO_6.out⟩, ⟨zq79⟩⟩
    ·rw [if_neg c8] at H
     exact absurd H (by simp)
   ·rw [if_neg c7] at H
    (have c7b0 : decide (x7_1 < (t439.length : Int)) = false := decide_eq_false c7);clear c7;(obtain rfl := Option.some.inj H);(obtain ⟨Ao14, co14, eo14⟩ := Kd.R_slice HO_5.out);subst eo14;(go_wp2);(go_ret);(exact ⟨_, zq43, by (with_reducible repeat (first | apply Kd.R_alloc | apply Kd.R_drewN | apply Kd.R_drew)); exact Kd.R_mono HO_6.out (fun _ hk => trivial), zq79⟩)

/-! ### spec_l00Has: function 48 -/
def spec_l00Has.l0 : Nat → List Int → Int → Int → Option (Bool)
 | 0, _, _, _ => none
 | k + 1, x0, x1, x5 => if x5 < (x0.length : Int) then (if 0 ≤ x5 then (if (rd x0 x5) = x1 then (some true) else (spec_l00Has.l0 k x0 x1 (wrap64 (x5 + 1)))) else (none)) else (some false)
def spec_l00Has.f (k : Nat) (l0 : List Int) (a1 : Int) : Option (Bool) := spec_l00Has.l0 k l0 a1 0
theorem spec_l00Has.mono_l : ∀ k, (∀ y0 y1 y2, LeO (spec_l00Has.l0 k y0 y1 y2) (spec_l00Has.l0 (k + 1) y0 y1 y2))
 | 0 => fun _ _ _ r h => by simp [spec_l00Has.l0] at h
 | k + 1 => by
  have ih0 := spec_l00Has.mono_l k
  ·intro y0 y1 y2
   unfold spec_l00Has.l0
   repeat' first | with_reducible (first | exact ih0 _ _ _ | exact LeO.refl _ | exact LeO.none _ | refine LeO.ite ?_ ?_ | refine LeO.bind ?_ (fun _ => ?_)) | exact ih0 _ _ _ | exact LeO.none _ | refine LeO.ite ?_ ?_ | refine LeO.bind ?_ (fun _ => ?_)
theorem spec_l00Has.mono : ∀ a0 a1 k, LeO (spec_l00Has.f k a0 a1) (spec_l00Has.f (k + 1) a0 a1) := by
 intro a0 a1 k;(have ih0 := spec_l00Has.mono_l k);(unfold spec_l00Has.f)
 repeat' first | with_reducible (first | exact ih0 _ _ _ | exact LeO.refl _ | exact LeO.none _ | refine LeO.ite ?_ ?_ | refine LeO.bind ?_ (fun _ => ?_)) | exact ih0 _ _ _ | exact LeO.none _ | refine LeO.ite ?_ ?_ | refine LeO.bind ?_ (fun _ => ?_)
theorem spec_l00Has.calls (k : Nat) (A0 : Option Addr) (c0 : Nat) (l0 : List Int) (a1 : Int) (r : Bool) (w : World) (hr0 : Kd.C (Kd.int .i64) w A0 l0.length l0) (hc0 : l0.length ≤ c0) (h : spec_l00Has.f k l0 a1 = some r) :
  Calls Tryz.prog 48 #[.slice A0 l0.length c0, .int .i64 a1] w fun e w' => e = .returned (.bool r) ∧ Drawn0 w w' := by
 (have HR0 := Aside0.mk hr0);(have HC0 := Aside0.mk hc0);clear hr0 hc0;(have H : (spec_l00Has.l0 k l0 a1 0) = some r := h);clear h;(have H' := Aside0.mk H);clear H
 go_enter Tryz.func48, Tryz.ntmps48
 go_wp2
 go_loopg [5] k (fun kq v5 w' => ∃ (x5_1 : Int), v5 = .int .i64 x5_1 ∧ Aside0 (spec_l00Has.l0 kq l0 a1 x5_1 = some r) ∧ Aside0 (kq ≤ k) ∧ Drawn0 w w')
 case atStart => exact ⟨(0), zq46, H', ⟨Nat.le_refl _⟩, zq108⟩
 case round =>
  clear H';(try clear p2);(obtain ⟨x5_1, rfl, HA, HK1, ⟨m1, rfl⟩⟩ := hrel)
  cases gk with
  | zero => exact absurd HA.out (by simp [spec_l00Has.l0])
  | succ k1 =>
   (have H := HA.out);clear HA;(simp only [spec_l00Has.l0] at H);(by_cases c3 : x5_1 < (l0.length : Int))
   ·rw [if_pos c3] at H
    (have c3b0 : decide (x5_1 < (l0.length : Int)) = true := decide_eq_true c3);clear c3;(by_cases c4 : 0 ≤ x5_1)
    ·rw [if_pos c4] at H
     (have c4b0 : decide (0 ≤ x5_1) = true := decide_eq_true c4);clear c4;(by_cases c5 : (rd l0 x5_1) = a1)
     ·rw [if_pos c5] at H
      (have c5b0 : ((rd l0 x5_1) == a1) = true := beq_iff_eq.mpr c5);(have c5b1 : ((rd l0 x5_1) != a1) = false := bne_eq_false_iff_eq.mpr c5);clear c5;(obtain rfl := Option.some.inj H);(have p449 : 0 ≤ (x5_1 : Int) := of_decide_eq_true zq39);(have q449 : x5_1 < (l0.length : Int) := of_decide_eq_true zq39);(obtain ⟨ad449, e449, hx449_0⟩ := Kd.at_int HR0.out x5_1 p449 q449)
      cases e449
      (replace p449 := eq_true p449);(replace q449 := eq_true q449);(go_wp2);(go_ret);(exact ⟨zq46, zq108⟩)
     ·rw [if_neg c5] at H
      (have c5b0 : ((rd l0 x5_1) == a1) = false := beq_eq_false_iff_ne.mpr c5);(have c5b1 : ((rd l0 x5_1) != a1) = true := bne_iff_ne.mpr c5);(have H' := Aside0.mk H);clear H;(have p449 : 0 ≤ (x5_1 : Int) := of_decide_eq_true zq39);(have q449 : x5_1 < (l0.length : Int) := of_decide_eq_true zq39);(obtain ⟨ad449, e449, hx449_0⟩ := Kd.at_int HR0.out x5_1 p449 q449)
      cases e449
      (replace p449 := eq_true p449);(replace q449 := eq_true q449);(go_wp2);(go_roundg k1)
      case measure => have := HK1.out; omega
      case rel => exact ⟨(wrap64 (x5_1 + 1)), zq46, H', ⟨zq56⟩, zq108⟩
    ·rw [if_neg c4] at H
     exact absurd H (by simp)
   ·rw [if_neg c3] at H
    (have c3b0 : decide (x5_1 < (l0.length : Int)) = false := decide_eq_false c3);clear c3;(obtain rfl := Option.some.inj H);(go_wp2);(go_ret);(exact ⟨zq46, zq108⟩)

end Go.Proofs.YtdambdglgdaojaaGreatDoor.PFnFigures
