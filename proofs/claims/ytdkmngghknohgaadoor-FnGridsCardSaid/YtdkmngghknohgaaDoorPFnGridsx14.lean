-- Made by a program of this session (gprint.py) out of the kit's print of the translation and texts of my own. SLIM
import Derived.Test.YtdkmngghknohgaaDoorPFnGridsx0
import Derived.Test.YtdkmngghknohgaaDoorPFnGridsx1
import Derived.Test.YtdkmngghknohgaaDoorPFnGridsx5
import Derived.Test.YtdkmngghknohgaaDoorPFnGridsx6
import Derived.Test.YtdkmngghknohgaaDoorPFnGridsx7
import Derived.Test.YtdkmngghknohgaaDoorPFnGridsx13
namespace Go.Proofs.YtdkmngghknohgaaDoor.PFnGrids
open Go.RowKit Go.Proofs.YtdkmngghknohgaaDoorW.PrintWords Go.Proofs.YtdkmngghknohgaaDoorW.PrintLast Go.Proofs.YtdkmngghknohgaaDoorW.PrintMore
set_option maxHeartbeats 64000000
set_option maxRecDepth 100000
attribute [local go_sem] max2_int min2_int max_two min_two max_three min_three max_four min_four   -- for this text's walks alone
set_option linter.unusedVariables false
set_option linter.unusedSimpArgs false

/-! ### spec_LandlockedOf: function 27 -/
def spec_LandlockedOf.l0 : Nat → List ByteArray → ByteArray → ByteArray → Int → Option (ByteArray × Int)
 | 0, _, _, _, _ => none
 | k + 1, x0, x4, x5, x6 => if x6 < (x4.size : Int) then (if 0 ≤ x6 then ((spec_l12Coast.f k x0 (bt x4 x6)).bind fun t365 => (if t365 = 0 then (if x6 ≤ (wrap64 (x6 + 1)) then (if (wrap64 (x6 + 1)) ≤ (x4.size : Int) then (if x5.size + (x4.extract (x6 : Int).toNat ((wrap64 (x6 + 1)) : Int).toNat).size ≤ 9223372036854775807 then (spec_LandlockedOf.l0 k x0 x4 (x5 ++ (x4.extract (x6 : Int).toNat ((wrap64 (x6 + 1)) : Int).toNat)) (wrap64 (x6 + 1))) else (none)) else (none)) else (none)) else (spec_LandlockedOf.l0 k x0 x4 x5 (wrap64 (x6 + 1))))) else (none)) else (some (x5, 0))
def spec_LandlockedOf.f (k : Nat) (l0 : List ByteArray) : Option (ByteArray × Int) := (spec_l12Ok.f k l0).bind fun t363 => (if t363 = true then ((spec_l12Lands.f k l0).bind fun t364 => (spec_LandlockedOf.l0 k l0 t364 (⟨#[]⟩ : ByteArray) 0)) else (some ((⟨#[]⟩ : ByteArray), 1)))
theorem spec_LandlockedOf.mono_l : ∀ k, (∀ y0 y1 y2 y3, LeO (spec_LandlockedOf.l0 k y0 y1 y2 y3) (spec_LandlockedOf.l0 (k + 1) y0 y1 y2 y3))
 | 0 => fun _ _ _ _ r h => by simp [spec_LandlockedOf.l0] at h
 | k + 1 => by
  have ih0 := spec_LandlockedOf.mono_l k
  ·intro y0 y1 y2 y3
   unfold spec_LandlockedOf.l0
   repeat' first | with_reducible (first | exact ih0 _ _ _ _ | exact spec_l12Coast.mono _ _ _ | exact spec_l12Lands.mono _ _ | exact spec_l12Ok.mono _ _ | exact LeO.refl _ | exact LeO.none _ | refine LeO.ite ?_ ?_ | refine LeO.bind ?_ (fun _ => ?_)) | exact ih0 _ _ _ _ | exact spec_l12Coast.mono _ _ _ | exact spec_l12Lands.mono _ _ | exact spec_l12Ok.mono _ _ | exact LeO.none _ | refine LeO.ite ?_ ?_ | refine LeO.bind ?_ (fun _ => ?_)
theorem spec_LandlockedOf.mono : ∀ a0 k, LeO (spec_LandlockedOf.f k a0) (spec_LandlockedOf.f (k + 1) a0) := by
 intro a0 k;(have ih0 := spec_LandlockedOf.mono_l k);(unfold spec_LandlockedOf.f)
 repeat' first | with_reducible (first | exact ih0 _ _ _ _ | exact spec_l12Coast.mono _ _ _ | exact spec_l12Lands.mono _ _ | exact spec_l12Ok.mono _ _ | exact LeO.refl _ | exact LeO.none _ | refine LeO.ite ?_ ?_ | refine LeO.bind ?_ (fun _ => ?_)) | exact ih0 _ _ _ _ | exact spec_l12Coast.mono _ _ _ | exact spec_l12Lands.mono _ _ | exact spec_l12Ok.mono _ _ | exact LeO.none _ | refine LeO.ite ?_ ?_ | refine LeO.bind ?_ (fun _ => ?_)
theorem spec_LandlockedOf.calls (k : Nat) (A0 : Option Addr) (c0 : Nat) (l0 : List ByteArray) (r1 : ByteArray) (r2 : Int) (w : World) (hr0 : Kd.C Kd.string w A0 l0.length l0) (hc0 : l0.length ≤ c0) (h : spec_LandlockedOf.f k l0 = some (r1, r2)) :
  Calls Tryd.prog 27 #[.slice A0 l0.length c0] w fun e w' => e = .returned (.tuple #[.string r1, .int .i64 r2]) ∧ Below w.heap.size w w' := by
 (have HR0 := Aside0.mk hr0);(have HC0 := Aside0.mk hc0);clear hr0 hc0;(have HB := Aside0.mk (Below.refl w.heap.size w));(have H : ((spec_l12Ok.f k l0).bind fun t363 => (if t363 = true then ((spec_l12Lands.f k l0).bind fun t364 => (spec_LandlockedOf.l0 k l0 t364 (⟨#[]⟩ : ByteArray) 0)) else (some ((⟨#[]⟩ : ByteArray), 1)))) = some (r1, r2) := h);clear h;(replace H := Option.bind_eq_some_iff.mp H);(obtain ⟨t363, A20, H⟩ := H);(replace H : (if t363 = true then ((spec_l12Lands.f k l0).bind fun t364 => (spec_LandlockedOf.l0 k l0 t364 (⟨#[]⟩ : ByteArray) 0)) else (some ((⟨#[]⟩ : ByteArray), 1))) = some (r1, r2) := H);(have A2 := Aside0.mk A20);clear A20;(by_cases c3 : t363 = true)
 ·subst c3
  (have H1 : ((spec_l12Lands.f k l0).bind fun t364 => (spec_LandlockedOf.l0 k l0 t364 (⟨#[]⟩ : ByteArray) 0)) = some (r1, r2) := zq62);clear H;(have H := H1);clear H1;(replace H := Option.bind_eq_some_iff.mp H);(obtain ⟨t364, A40, H⟩ := H);(replace H : (spec_LandlockedOf.l0 k l0 t364 (⟨#[]⟩ : ByteArray) 0) = some (r1, r2) := H);(have A4 := Aside0.mk A40);clear A40;(have H' := Aside0.mk H);clear H
  go_enter Tryd.func27, Tryd.ntmps27
  go_wp2_with (first | ((with_reducible refine gate_callee (f := 52) rfl ?_); refine goesL_ (some 8) rfl rfl Tryd.func52 (by kernel_rfl) rfl #[.slice A0 l0.length c0] rfl zq0 ?_; (with_reducible refine (spec_l12Ok.calls k _ _ l0 true _ ?side1 ?side2 A2.out).mono ?_); (case side1 => exact zq55); (case side2 => exact HC0.out); rintro e w' ⟨rfl, ⟨nd, rfl⟩⟩; refine ⟨_, rfl, ?_⟩) | ((with_reducible refine gate_callee (f := 55) rfl ?_); refine goesL_ (some 11) rfl rfl Tryd.func55 (by kernel_rfl) rfl #[.slice A0 l0.length c0] rfl zq0 ?_; (with_reducible refine (spec_l12Lands.calls k _ _ l0 t364 _ ?side1 ?side2 A4.out).mono ?_); (case side1 => exact zq55); (case side2 => exact HC0.out); rintro e w5 ⟨rfl, hb⟩; refine ⟨_, rfl, ?_⟩; have n0_ := Aside0.mk (below_step zq47 hb); clear HB; have HB := n0_; clear n0_; (try clear hb); (try clear hb2); (try clear hk); (try clear hi)))
  go_loopg [5, 6] k (fun kq v5 v6 w' => ∃ (x5_1 : ByteArray) (x6_1 : Int), v5 = .string x5_1 ∧ v6 = .int .i64 x6_1 ∧ Aside0 (spec_LandlockedOf.l0 kq l0 t364 x5_1 x6_1 = some (r1, r2)) ∧ Aside0 (kq ≤ k) ∧ Aside0 (Below w.heap.size w w'))
  case atStart => exact ⟨((⟨#[]⟩ : ByteArray)), (0), zq26, zq26, H', ⟨Nat.le_refl _⟩, ⟨zq47⟩⟩
  case round =>
   clear H';(try clear c2);(try clear p2);(try clear c3);(try clear c5);(obtain ⟨x5_1, x6_1, rfl, rfl, HA, HK1, HB⟩ := hrel)
   cases gk with
   | zero => exact absurd HA.out (by simp [spec_LandlockedOf.l0])
   | succ k1 =>
    (have H := HA.out);clear HA;(simp only [spec_LandlockedOf.l0] at H);(by_cases c6 : x6_1 < (t364.size : Int))
    ·rw [if_pos c6] at H
     (have c6b0 : decide (x6_1 < (t364.size : Int)) = true := decide_eq_true c6);clear c6;(by_cases c7 : 0 ≤ x6_1)
     ·rw [if_pos c7] at H
      (have c7b0 : decide (0 ≤ x6_1) = true := decide_eq_true c7);clear c7;(replace H := Option.bind_eq_some_iff.mp H);(obtain ⟨t365, A90, H⟩ := H);(replace H : (if t365 = 0 then (if x6_1 ≤ (wrap64 (x6_1 + 1)) then (if (wrap64 (x6_1 + 1)) ≤ (t364.size : Int) then (if x5_1.size + (t364.extract (x6_1 : Int).toNat ((wrap64 (x6_1 + 1)) : Int).toNat).size ≤ 9223372036854775807 then (spec_LandlockedOf.l0 k1 l0 t364 (x5_1 ++ (t364.extract (x6_1 : Int).toNat ((wrap64 (x6_1 + 1)) : Int).toNat)) (wrap64 (x6_1 + 1))) else (none)) else (none)) else (none)) else (spec_LandlockedOf.l0 k1 l0 t364 x5_1 (wrap64 (x6_1 + 1)))) = some (r1, r2) := H);(have A9 := Aside0.mk A90);clear A90;(by_cases c10 : t365 = 0)
      ·rw [if_pos c10] at H
       (have c10b0 : (t365 == 0) = true := beq_iff_eq.mpr c10);(have c10b1 : (t365 != 0) = false := bne_eq_false_iff_eq.mpr c10);clear c10;(have c11b0 := eq_true (of_decide_eq_true zq21 : 0 ≤ x6_1));(by_cases c12 : x6_1 ≤ (wrap64 (x6_1 + 1)))
       ·rw [if_pos c12] at H
        (have c12b0 := eq_true c12);(have c12b1 : decide (x6_1 ≤ (wrap64 (x6_1 + 1))) = true := decide_eq_true c12);(by_cases c13 : (wrap64 (x6_1 + 1)) ≤ (t364.size : Int))
        ·rw [if_pos c13] at H
         (have c13b0 := eq_true c13);(have c13b1 : decide ((wrap64 (x6_1 + 1)) ≤ (t364.size : Int)) = true := decide_eq_true c13);(by_cases c14 : x5_1.size + (t364.extract (x6_1 : Int).toNat ((wrap64 (x6_1 + 1)) : Int).toNat).size ≤ 9223372036854775807)
         ·rw [if_pos c14] at H
          (have c14b0 := eq_true c14);(have c14b1 : decide (x5_1.size + (t364.extract (x6_1 : Int).toNat ((wrap64 (x6_1 + 1)) : Int).toNat).size ≤ 9223372036854775807) = true := decide_eq_true c14);(try have c14b2 : (9223372036854775807 < x5_1.size + (t364.extract (x6_1 : Int).toNat ((wrap64 (x6_1 + 1)) : Int).toNat).size) = False := eq_false (Nat.not_lt.2 c14));(have H' := Aside0.mk H);clear H;(have p8 : 0 ≤ (x6_1 : Int) := of_decide_eq_true zq21);(have q8 : x6_1 < (t364.size : Int) := of_decide_eq_true zq21);(have hx8 := bt_at t364 x6_1);(replace p8 := eq_true p8);(replace q8 := eq_true q8);(go_wp2_with (first | ((with_reducible refine gate_callee (f := 46) rfl ?_); refine goesL_ (some 22) rfl rfl Tryd.func46 (by kernel_rfl) rfl #[.slice A0 l0.length c0, .int .u8 (bt t364 x6_1)] rfl zq0 ?_; (with_reducible refine (spec_l12Coast.calls k1 _ _ l0 (bt t364 x6_1) t365 _ ?side1 ?side2 A9.out).mono ?_); (case side1 => exact zq53); (case side2 => exact HC0.out); rintro e w' ⟨rfl, ⟨nd, rfl⟩⟩; refine ⟨_, rfl, ?_⟩)));(go_roundg k1)
          case measure => have := HK1.out; omega
          case rel => exact ⟨(x5_1 ++ (t364.extract (x6_1 : Int).toNat ((wrap64 (x6_1 + 1)) : Int).toNat)), (wrap64 (x6_1 + 1)), zq26, zq26, H', ⟨zq40⟩, ⟨zq47⟩⟩
         ·rw [if_neg c14] at H
          exact absurd H (by simp)
        ·rw [if_neg c13] at H
         exact absurd H (by simp)
       ·rw [if_neg c12] at H
        exact absurd H (by simp)
      ·rw [if_neg c10] at H
       (have c10b0 : (t365 == 0) = false := beq_eq_false_iff_ne.mpr c10);(have c10b1 : (t365 != 0) = true := bne_iff_ne.mpr c10);(have H' := Aside0.mk H);clear H;(have p8 : 0 ≤ (x6_1 : Int) := of_decide_eq_true zq21);(have q8 : x6_1 < (t364.size : Int) := of_decide_eq_true zq21);(have hx8 := bt_at t364 x6_1);(replace p8 := eq_true p8);(replace q8 := eq_true q8);(go_wp2_with (first | ((with_reducible refine gate_callee (f := 46) rfl ?_); refine goesL_ (some 22) rfl rfl Tryd.func46 (by kernel_rfl) rfl #[.slice A0 l0.length c0, .int .u8 (bt t364 x6_1)] rfl zq0 ?_; (with_reducible refine (spec_l12Coast.calls k1 _ _ l0 (bt t364 x6_1) t365 _ ?side1 ?side2 A9.out).mono ?_); (case side1 => exact zq53); (case side2 => exact HC0.out); rintro e w' ⟨rfl, ⟨nd, rfl⟩⟩; refine ⟨_, rfl, ?_⟩)));(go_roundg k1)
       case measure => have := HK1.out; omega
       case rel => exact ⟨(x5_1), (wrap64 (x6_1 + 1)), zq26, zq26, H', ⟨zq40⟩, ⟨zq47⟩⟩
     ·rw [if_neg c7] at H
      exact absurd H (by simp)
    ·rw [if_neg c6] at H
     (have c6b0 : decide (x6_1 < (t364.size : Int)) = false := decide_eq_false c6);clear c6;(simp only [Option.some.injEq, Prod.mk.injEq] at H);(obtain ⟨rfl, rfl⟩ := H);(go_wp2);(go_ret2);(exact ⟨zq25, zq47⟩)
 ·replace c3 := Bool.eq_false_iff.mpr c3
  subst c3;(have H1 : (some ((⟨#[]⟩ : ByteArray), 1)) = some (r1, r2) := zq61);clear H;(have H := H1);clear H1;(simp only [Option.some.injEq, Prod.mk.injEq] at H);(obtain ⟨rfl, rfl⟩ := H)
  go_enter Tryd.func27, Tryd.ntmps27
  (go_wp2_with (first | ((with_reducible refine gate_callee (f := 52) rfl ?_); refine goesL_ (some 8) rfl rfl Tryd.func52 (by kernel_rfl) rfl #[.slice A0 l0.length c0] rfl zq0 ?_; (with_reducible refine (spec_l12Ok.calls k _ _ l0 false _ ?side1 ?side2 A2.out).mono ?_); (case side1 => exact zq55); (case side2 => exact HC0.out); rintro e w' ⟨rfl, ⟨nd, rfl⟩⟩; refine ⟨_, rfl, ?_⟩)));(go_ret2);(exact ⟨zq25, zq47⟩)

/-! ### impl_GreatestLand: function 28 -/
-- given by hand
/-- The letter that most cells have, and how many. -/
def grB (k : Nat) (l0 : List ByteArray) : List Int → ByteArray → Int → Option (ByteArray × Int)
 | [], o, m => some (o, m)
 | b :: bs, o, m => (impl_cellsWith.f k l0 b).bind fun cs => if (cs.length : Int) > m then grB k l0 bs (Go.Utf8.encode (wrap32 b)) (cs.length : Int) else grB k l0 bs o m
def impl_GreatestLand.f (k : Nat) (l0 : List ByteArray) : Option (ByteArray × Int) := (impl_ValidGrid.f k l0).bind fun v => if v = true then ((impl_landsOf.f k l0).bind fun ls => if ls.size ≤ 9223372036854775807 then (grB k l0 (numsB ls) (⟨#[]⟩ : ByteArray) 0).bind fun o => if o.2 = 0 then some ((⟨#[]⟩ : ByteArray), 3) else some (o.1, 0) else none) else some ((⟨#[]⟩ : ByteArray), 1)
theorem grB_mono (l0 : List ByteArray) (k : Nat) : ∀ (bs : List Int) (o : ByteArray) (m : Int), LeO (grB k l0 bs o m) (grB (k + 1) l0 bs o m)
 | [], o, m => LeO.refl _
 | b :: bs, o, m => by
  (unfold grB);(exact LeO.bind (impl_cellsWith.mono _ _ _) (fun cs => LeO.ite (grB_mono l0 k bs _ _) (grB_mono l0 k bs o m)))
theorem impl_GreatestLand.mono : ∀ a0 k, LeO (impl_GreatestLand.f k a0) (impl_GreatestLand.f (k + 1) a0) := by
 intro a0 k;(unfold impl_GreatestLand.f);(refine LeO.bind (impl_ValidGrid.mono _ _) (fun v => LeO.ite ?_ (LeO.refl _)));(exact LeO.bind (impl_landsOf.mono _ _) (fun ls => LeO.ite (LeO.bind (grB_mono _ _ _ _ _) (fun o => LeO.refl _)) (LeO.refl _)))
theorem impl_GreatestLand.calls (k : Nat) (A0 : Option Addr) (c0 : Nat) (l0 : List ByteArray) (r1 : ByteArray) (r2 : Int) (w : World) (hr0 : Kd.C Kd.string w A0 l0.length l0) (hc0 : l0.length ≤ c0) (h : impl_GreatestLand.f k l0 = some (r1, r2)) :
  Calls Tryd.prog 28 #[.slice A0 l0.length c0] w fun e w' => e = .returned (.tuple #[.string r1, .int .i64 r2]) ∧ Below w.heap.size w w' := by
 (unfold impl_GreatestLand.f at h);(have h0 := h);clear h;(obtain ⟨v, e1, h⟩ := Option.bind_eq_some_iff.1 h0);clear h0;(have A1 := Aside0.mk e1);clear e1
 cases v with
 | false =>
  (obtain ⟨rfl, rfl⟩ := Prod.mk.inj (Option.some.inj (show some ((⟨#[]⟩ : ByteArray), (1 : Int)) = some (r1, r2) from h)));clear h
  go_enter Tryd.func28, Tryd.ntmps28
  (go_wp2_with (go_at_call 30; (with_reducible refine (impl_ValidGrid.calls k A0 c0 l0 false _ hr0 hc0 A1.out).mono ?_); rintro e w2 ⟨rfl, hb⟩));(go_ret2);(exact ⟨rfl, hb⟩)
 | true =>
  (rw [if_pos rfl] at h);(have h0 := h);clear h;(obtain ⟨ls, e2, h1⟩ := Option.bind_eq_some_iff.1 h0);clear h0;(by_cases hlim : ls.size ≤ 9223372036854775807)
  ·rw [if_pos hlim] at h1
   (obtain ⟨⟨o, mx⟩, e3, h⟩ := Option.bind_eq_some_iff.1 h1);clear h1;(have A2 := Aside0.mk e2);(have A3 := Aside0.mk e3);(have A4 := Aside0.mk (show (if mx = 0 then some ((⟨#[]⟩ : ByteArray), (3 : Int)) else some (o, 0)) = some (r1, r2) from h));(have L1 := Aside0.mk hlim);clear e2 e3 hlim h;(have HB := Aside0.mk (Below.refl w.heap.size w));(have HR0 := Aside0.mk hr0);(have HC0 := Aside0.mk hc0);clear hr0 hc0
   go_enter Tryd.func28, Tryd.ntmps28
   go_wp2_with (first | (go_at_call 30; (with_reducible refine (impl_ValidGrid.calls k A0 c0 l0 true _ HR0.out HC0.out A1.out).mono ?_); rintro e w2 ⟨rfl, hb⟩; have n1_ := Aside0.mk (below_step HB.out hb); clear HB hb; have HB := n1_; clear n1_) | (go_at_call 54; (with_reducible refine (impl_landsOf.calls k A0 c0 l0 ls _ (Kd.C_below HR0.out HB.out) HC0.out A2.out).mono ?_); rintro e w4 ⟨rfl, hb⟩; have n1_ := Aside0.mk (below_step HB.out hb); clear HB hb; have HB := n1_; clear n1_; have hcv := Go.Lib.run_convert_string_bytes (P := Tryd.prog) w4 9 22 5 ls (u := .string) Tryd.underlying9 Tryd.underlying22 Tryd.underlying5; have HN := Aside0.mk (BRow.new w4 5 ls L1.out); have hbb := Go.Lib.bytesWorld_below w4 5 ls; obtain ⟨W1, hW1⟩ : ∃ W1, W1 = Go.Lib.bytesWorld w4 5 ls := ⟨_, rfl⟩; rw [← hW1] at hcv HN hbb; clear hW1; have n1_ := Aside0.mk (below_step HB.out hbb); clear HB hbb; have HB := n1_; clear n1_; obtain ⟨gb, hgb⟩ : ∃ gb, gb = w4.heap.size := ⟨_, rfl⟩; rw [← hgb] at hcv HN; have HG := Aside0.mk hgb; clear hgb))
   go_loopg [4, 5, 16] ls.size (fun g v4 v5 v16 w' => ∃ (i : Nat) (o1 : ByteArray) (m : Int), v4 = .string o1 ∧ v5 = .int .i64 m ∧ v16 = .int .i64 i ∧ i + g = ls.size ∧ Aside0 (grB k l0 ((numsB ls).drop i) o1 m = some (o, mx)) ∧ Aside0 (BRow w' gb 5 (numsB ls)) ∧ Aside0 (Below w.heap.size w w'))
   case atStart => exact ⟨0, (⟨#[]⟩ : ByteArray), 0, rfl, rfl, rfl, by omega, A3, HN, HB⟩
   case round =>
    clear HN HB A3;(obtain ⟨i, o1, m, rfl, rfl, rfl, hig, A3, HN, HB⟩ := hrel)
    cases gk with
    | zero =>
     (have hi : i = ls.size := by omega);subst hi;(have c5b0 : decide ((ls.size : Int) < (ls.size : Int)) = false := decide_eq_false (by omega));(have H := A3.out);(rw [List.drop_eq_nil_of_le (by rw [numsB_length]; omega)] at H);(obtain ⟨rfl, rfl⟩ := Prod.mk.inj (Option.some.inj (show some (o1, m) = some (o, mx) from H)));clear H A3;(have H := A4.out);clear A4;(by_cases hz : m = 0)
     ·rw [if_pos hz] at H
      subst hz;(obtain ⟨rfl, rfl⟩ := Prod.mk.inj (Option.some.inj H));clear H;(go_wp2);(go_ret2);(exact ⟨rfl, HB.out⟩)
     ·rw [if_neg hz] at H
      (have cz0 : (m == 0) = false := beq_eq_false_iff_ne.mpr hz);(have cz1 : decide (m = 0) = false := decide_eq_false hz);(obtain ⟨rfl, rfl⟩ := Prod.mk.inj (Option.some.inj H));clear H;(go_wp2);(go_ret2);(exact ⟨rfl, HB.out⟩)
    | succ g =>
     (have hi : i < ls.size := by omega);(have c5b0 : decide ((i : Int) < (ls.size : Int)) = true := decide_eq_true (by omega));(have p6 : (0 ≤ (i : Int)) = True := eq_true (by omega));(have q6 : ((i : Int) < (ls.size : Int)) = True := eq_true (by omega));(have hil : i < (numsB ls).length := by rw [numsB_length]; exact hi);(obtain ⟨hat1, hat2⟩ := HN.out.at_ i hil);(obtain ⟨b, hb0⟩ : ∃ b, b = (numsB ls).getD i 0 := ⟨_, rfl⟩);(rw [← hb0] at hat1);(have hdr : (numsB ls).drop i = b :: (numsB ls).drop (i + 1) := zq73);(have H := A3.out);(rw [hdr] at H);(unfold grB at H);clear A3 hdr hb0;(have H0 := H);clear H;(obtain ⟨cs, e5, H⟩ := Option.bind_eq_some_iff.1 H0);clear H0;(have A5 := Aside0.mk e5);clear e5;(by_cases hz : (cs.length : Int) > m)
     ·rw [if_pos hz] at H
      (have cz0 : decide (m < (cs.length : Int)) = true := decide_eq_true hz);(have A3 := Aside0.mk H);clear H hz;(go_wp2_with (go_at_call 43; (with_reducible refine (impl_cellsWith.calls k A0 c0 l0 b cs _ (Kd.C_below HR0.out HB.out) HC0.out A5.out).mono ?_); rintro e w5 ⟨v26, rfl, hcs, hb⟩; have HN2 := Aside0.mk (HN.out.below hb); obtain ⟨A26, c26, rfl⟩ := Kd.R_slice hcs; have n1_ := Aside0.mk (below_step HB.out hb); clear HB HN hb hcs; have HB := n1_; have HN := HN2; clear n1_ HN2));(go_roundg g)
      case measure => omega
      case rel => exact ⟨i + 1, _, _, rfl, rfl, congrArg (Value.int .i64) (wrapS hi L1.out), by omega, A3, HN, HB⟩
     ·rw [if_neg hz] at H
      (have cz0 : decide (m < (cs.length : Int)) = false := decide_eq_false hz);(have A3 := Aside0.mk H);clear H hz;(go_wp2_with (go_at_call 43; (with_reducible refine (impl_cellsWith.calls k A0 c0 l0 b cs _ (Kd.C_below HR0.out HB.out) HC0.out A5.out).mono ?_); rintro e w5 ⟨v26, rfl, hcs, hb⟩; have HN2 := Aside0.mk (HN.out.below hb); obtain ⟨A26, c26, rfl⟩ := Kd.R_slice hcs; have n1_ := Aside0.mk (below_step HB.out hb); clear HB HN hb hcs; have HB := n1_; have HN := HN2; clear n1_ HN2));(go_roundg g)
      case measure => omega
      case rel => exact ⟨i + 1, o1, m, rfl, rfl, congrArg (Value.int .i64) (wrapS hi L1.out), by omega, A3, HN, HB⟩
  ·rw [if_neg hlim] at h1
   cases h1


/-! ### spec_GreatestLand: function 29 -/
def spec_GreatestLand.l0 : Nat → List ByteArray → ByteArray → Int → Int → Option (ByteArray × Int)
 | 0, _, _, _, _ => none
 | k + 1, x0, x4, x5, x6 => if x6 < (x4.size : Int) then (if 0 ≤ x6 then ((spec_l12Count.f k x0 (bt x4 x6)).bind fun t368 => (if 0 ≤ x5 then (if x5 < (x4.size : Int) then ((spec_l12Count.f k x0 (bt x4 x5)).bind fun t369 => (if t368 > t369 then (spec_GreatestLand.l0 k x0 x4 x6 (wrap64 (x6 + 1))) else (spec_GreatestLand.l0 k x0 x4 x5 (wrap64 (x6 + 1))))) else (none)) else (none))) else (none)) else (if 0 ≤ x5 then (if x5 ≤ (wrap64 (x5 + 1)) then (if (wrap64 (x5 + 1)) ≤ (x4.size : Int) then (some (x4.extract (x5 : Int).toNat ((wrap64 (x5 + 1)) : Int).toNat, 0)) else (none)) else (none)) else (none))
def spec_GreatestLand.f (k : Nat) (l0 : List ByteArray) : Option (ByteArray × Int) := (spec_l12Ok.f k l0).bind fun t366 => (if t366 = true then ((spec_l12Lands.f k l0).bind fun t367 => (if t367.toList = ([] : List UInt8) then (some ((⟨#[]⟩ : ByteArray), 3)) else (spec_GreatestLand.l0 k l0 t367 0 1))) else (some ((⟨#[]⟩ : ByteArray), 1)))
theorem spec_GreatestLand.mono_l : ∀ k, (∀ y0 y1 y2 y3, LeO (spec_GreatestLand.l0 k y0 y1 y2 y3) (spec_GreatestLand.l0 (k + 1) y0 y1 y2 y3))
 | 0 => fun _ _ _ _ r h => by simp [spec_GreatestLand.l0] at h
 | k + 1 => by
  have ih0 := spec_GreatestLand.mono_l k
  ·intro y0 y1 y2 y3
   unfold spec_GreatestLand.l0
   repeat' first | with_reducible (first | exact ih0 _ _ _ _ | exact spec_l12Count.mono _ _ _ | exact spec_l12Lands.mono _ _ | exact spec_l12Ok.mono _ _ | exact LeO.refl _ | exact LeO.none _ | refine LeO.ite ?_ ?_ | refine LeO.bind ?_ (fun _ => ?_)) | exact ih0 _ _ _ _ | exact spec_l12Count.mono _ _ _ | exact spec_l12Lands.mono _ _ | exact spec_l12Ok.mono _ _ | exact LeO.none _ | refine LeO.ite ?_ ?_ | refine LeO.bind ?_ (fun _ => ?_)
theorem spec_GreatestLand.mono : ∀ a0 k, LeO (spec_GreatestLand.f k a0) (spec_GreatestLand.f (k + 1) a0) := by
 intro a0 k;(have ih0 := spec_GreatestLand.mono_l k);(unfold spec_GreatestLand.f)
 repeat' first | with_reducible (first | exact ih0 _ _ _ _ | exact spec_l12Count.mono _ _ _ | exact spec_l12Lands.mono _ _ | exact spec_l12Ok.mono _ _ | exact LeO.refl _ | exact LeO.none _ | refine LeO.ite ?_ ?_ | refine LeO.bind ?_ (fun _ => ?_)) | exact ih0 _ _ _ _ | exact spec_l12Count.mono _ _ _ | exact spec_l12Lands.mono _ _ | exact spec_l12Ok.mono _ _ | exact LeO.none _ | refine LeO.ite ?_ ?_ | refine LeO.bind ?_ (fun _ => ?_)
theorem spec_GreatestLand.calls (k : Nat) (A0 : Option Addr) (c0 : Nat) (l0 : List ByteArray) (r1 : ByteArray) (r2 : Int) (w : World) (hr0 : Kd.C Kd.string w A0 l0.length l0) (hc0 : l0.length ≤ c0) (h : spec_GreatestLand.f k l0 = some (r1, r2)) :
  Calls Tryd.prog 29 #[.slice A0 l0.length c0] w fun e w' => e = .returned (.tuple #[.string r1, .int .i64 r2]) ∧ Below w.heap.size w w' := by
 (have HR0 := Aside0.mk hr0);(have HC0 := Aside0.mk hc0);clear hr0 hc0;(have HB := Aside0.mk (Below.refl w.heap.size w));(have H : ((spec_l12Ok.f k l0).bind fun t366 => (if t366 = true then ((spec_l12Lands.f k l0).bind fun t367 => (if t367.toList = ([] : List UInt8) then (some ((⟨#[]⟩ : ByteArray), 3)) else (spec_GreatestLand.l0 k l0 t367 0 1))) else (some ((⟨#[]⟩ : ByteArray), 1)))) = some (r1, r2) := h);clear h;(replace H := Option.bind_eq_some_iff.mp H);(obtain ⟨t366, A20, H⟩ := H);(replace H : (if t366 = true then ((spec_l12Lands.f k l0).bind fun t367 => (if t367.toList = ([] : List UInt8) then (some ((⟨#[]⟩ : ByteArray), 3)) else (spec_GreatestLand.l0 k l0 t367 0 1))) else (some ((⟨#[]⟩ : ByteArray), 1))) = some (r1, r2) := H);(have A2 := Aside0.mk A20);clear A20;(by_cases c3 : t366 = true)
 ·subst c3
  (have H1 : ((spec_l12Lands.f k l0).bind fun t367 => (if t367.toList = ([] : List UInt8) then (some ((⟨#[]⟩ : ByteArray), 3)) else (spec_GreatestLand.l0 k l0 t367 0 1))) = some (r1, r2) := zq62);clear H;(have H := H1);clear H1;(replace H := Option.bind_eq_some_iff.mp H);(obtain ⟨t367, A40, H⟩ := H);(replace H : (if t367.toList = ([] : List UInt8) then (some ((⟨#[]⟩ : ByteArray), 3)) else (spec_GreatestLand.l0 k l0 t367 0 1)) = some (r1, r2) := H);(have A4 := Aside0.mk A40);clear A40;(by_cases c5 : t367.toList = ([] : List UInt8))
  ·rw [if_pos c5] at H
   (have c5b0 : (t367.toList == ([] : List UInt8)) = true := beq_iff_eq.mpr c5);(have c5b1 : (t367.toList != ([] : List UInt8)) = false := bne_eq_false_iff_eq.mpr c5);clear c5;(simp only [Option.some.injEq, Prod.mk.injEq] at H);(obtain ⟨rfl, rfl⟩ := H)
   go_enter Tryd.func29, Tryd.ntmps29
   (go_wp2_with (first | (go_at_call 52; (with_reducible refine (spec_l12Ok.calls k _ _ l0 true _ ?side1 ?side2 A2.out).mono ?_); (case side1 => exact zq55); (case side2 => exact HC0.out); rintro e w' ⟨rfl, ⟨nd, rfl⟩⟩; (try first | exact ⟨rfl, _, World.drewN_drewN _ _ _⟩ | exact ⟨rfl, _, Eq.trans (World.drewN_drewN _ _ _) (congrArg (World.drewN _) (Nat.add_assoc _ _ _))⟩)) | (go_at_call 55; (with_reducible refine (spec_l12Lands.calls k _ _ l0 t367 _ ?side1 ?side2 A4.out).mono ?_); (case side1 => exact zq55); (case side2 => exact HC0.out); rintro e w6 ⟨rfl, hb⟩; have n0_ := Aside0.mk (below_step zq47 hb); clear HB; have HB := n0_; clear n0_; (try clear hb); (try clear hb2); (try clear hk); (try clear hi))));(repeat (go_quiet (first | (go_at_call 52; (with_reducible refine (spec_l12Ok.calls k _ _ l0 true _ ?side1 ?side2 A2.out).mono ?_); (case side1 => exact zq55); (case side2 => exact HC0.out); rintro e w' ⟨rfl, ⟨nd, rfl⟩⟩; (try first | exact ⟨rfl, _, World.drewN_drewN _ _ _⟩ | exact ⟨rfl, _, Eq.trans (World.drewN_drewN _ _ _) (congrArg (World.drewN _) (Nat.add_assoc _ _ _))⟩)) | (go_at_call 55; (with_reducible refine (spec_l12Lands.calls k _ _ l0 t367 _ ?side1 ?side2 A4.out).mono ?_); (case side1 => exact zq55); (case side2 => exact HC0.out); rintro e w6 ⟨rfl, hb⟩; have n0_ := Aside0.mk (below_step zq47 hb); clear HB; have HB := n0_; clear n0_; (try clear hb); (try clear hb2); (try clear hk); (try clear hi))); try go_wp2_with (first | (go_at_call 52; (with_reducible refine (spec_l12Ok.calls k _ _ l0 true _ ?side1 ?side2 A2.out).mono ?_); (case side1 => exact zq55); (case side2 => exact HC0.out); rintro e w' ⟨rfl, ⟨nd, rfl⟩⟩; (try first | exact ⟨rfl, _, World.drewN_drewN _ _ _⟩ | exact ⟨rfl, _, Eq.trans (World.drewN_drewN _ _ _) (congrArg (World.drewN _) (Nat.add_assoc _ _ _))⟩)) | (go_at_call 55; (with_reducible refine (spec_l12Lands.calls k _ _ l0 t367 _ ?side1 ?side2 A4.out).mono ?_); (case side1 => exact zq55); (case side2 => exact HC0.out); rintro e w6 ⟨rfl, hb⟩; have n0_ := Aside0.mk (below_step zq47 hb); clear HB; have HB := n0_; clear n0_; (try clear hb); (try clear hb2); (try clear hk); (try clear hi)))));(go_ret2);(exact ⟨zq25, zq47⟩)
  ·rw [if_neg c5] at H
   (have c5b0 : (t367.toList == ([] : List UInt8)) = false := beq_eq_false_iff_ne.mpr c5);(have c5b1 : (t367.toList != ([] : List UInt8)) = true := bne_iff_ne.mpr c5);(have H' := Aside0.mk H);clear H
   go_enter Tryd.func29, Tryd.ntmps29
   (go_wp2_with (first | (go_at_call 52; (with_reducible refine (spec_l12Ok.calls k _ _ l0 true _ ?side1 ?side2 A2.out).mono ?_); (case side1 => exact zq55); (case side2 => exact HC0.out); rintro e w' ⟨rfl, ⟨nd, rfl⟩⟩; (try first | exact ⟨rfl, _, World.drewN_drewN _ _ _⟩ | exact ⟨rfl, _, Eq.trans (World.drewN_drewN _ _ _) (congrArg (World.drewN _) (Nat.add_assoc _ _ _))⟩)) | (go_at_call 55; (with_reducible refine (spec_l12Lands.calls k _ _ l0 t367 _ ?side1 ?side2 A4.out).mono ?_); (case side1 => exact zq55); (case side2 => exact HC0.out); rintro e w7 ⟨rfl, hb⟩; have n0_ := Aside0.mk (below_step zq47 hb); clear HB; have HB := n0_; clear n0_; (try clear hb); (try clear hb2); (try clear hk); (try clear hi))));(repeat (go_quiet (first | (go_at_call 52; (with_reducible refine (spec_l12Ok.calls k _ _ l0 true _ ?side1 ?side2 A2.out).mono ?_); (case side1 => exact zq55); (case side2 => exact HC0.out); rintro e w' ⟨rfl, ⟨nd, rfl⟩⟩; (try first | exact ⟨rfl, _, World.drewN_drewN _ _ _⟩ | exact ⟨rfl, _, Eq.trans (World.drewN_drewN _ _ _) (congrArg (World.drewN _) (Nat.add_assoc _ _ _))⟩)) | (go_at_call 55; (with_reducible refine (spec_l12Lands.calls k _ _ l0 t367 _ ?side1 ?side2 A4.out).mono ?_); (case side1 => exact zq55); (case side2 => exact HC0.out); rintro e w7 ⟨rfl, hb⟩; have n0_ := Aside0.mk (below_step zq47 hb); clear HB; have HB := n0_; clear n0_; (try clear hb); (try clear hb2); (try clear hk); (try clear hi))); try go_wp2_with (first | (go_at_call 52; (with_reducible refine (spec_l12Ok.calls k _ _ l0 true _ ?side1 ?side2 A2.out).mono ?_); (case side1 => exact zq55); (case side2 => exact HC0.out); rintro e w' ⟨rfl, ⟨nd, rfl⟩⟩; (try first | exact ⟨rfl, _, World.drewN_drewN _ _ _⟩ | exact ⟨rfl, _, Eq.trans (World.drewN_drewN _ _ _) (congrArg (World.drewN _) (Nat.add_assoc _ _ _))⟩)) | (go_at_call 55; (with_reducible refine (spec_l12Lands.calls k _ _ l0 t367 _ ?side1 ?side2 A4.out).mono ?_); (case side1 => exact zq55); (case side2 => exact HC0.out); rintro e w7 ⟨rfl, hb⟩; have n0_ := Aside0.mk (below_step zq47 hb); clear HB; have HB := n0_; clear n0_; (try clear hb); (try clear hb2); (try clear hk); (try clear hi)))))
   go_loopg [5, 6] k (fun kq v5 v6 w' => ∃ (x5_1 : Int) (x6_1 : Int), v5 = .int .i64 x5_1 ∧ v6 = .int .i64 x6_1 ∧ Aside0 (spec_GreatestLand.l0 kq l0 t367 x5_1 x6_1 = some (r1, r2)) ∧ Aside0 (kq ≤ k) ∧ Aside0 (Below w.heap.size w w'))
   case atStart => exact ⟨(0), (1), zq26, zq26, H', ⟨Nat.le_refl _⟩, ⟨zq47⟩⟩
   case round =>
    clear H';(try clear c2);(try clear p2);(try clear c3);(try clear c5);(try clear c5b0);(try clear c5b1);(obtain ⟨x5_1, x6_1, rfl, rfl, HA, HK1, HB⟩ := hrel)
    cases gk with
    | zero => exact absurd HA.out (by simp [spec_GreatestLand.l0])
    | succ k1 =>
     (have H := HA.out);clear HA;(simp only [spec_GreatestLand.l0] at H);(by_cases c8 : x6_1 < (t367.size : Int))
     ·rw [if_pos c8] at H
      (have c8b0 : decide (x6_1 < (t367.size : Int)) = true := decide_eq_true c8);clear c8;(by_cases c9 : 0 ≤ x6_1)
      ·rw [if_pos c9] at H
       (have c9b0 : decide (0 ≤ x6_1) = true := decide_eq_true c9);clear c9;(replace H := Option.bind_eq_some_iff.mp H);(obtain ⟨t368, A110, H⟩ := H);(replace H : (if 0 ≤ x5_1 then (if x5_1 < (t367.size : Int) then ((spec_l12Count.f k1 l0 (bt t367 x5_1)).bind fun t369 => (if t368 > t369 then (spec_GreatestLand.l0 k1 l0 t367 x6_1 (wrap64 (x6_1 + 1))) else (spec_GreatestLand.l0 k1 l0 t367 x5_1 (wrap64 (x6_1 + 1))))) else (none)) else (none)) = some (r1, r2) := H);(have A11 := Aside0.mk A110);clear A110;(by_cases c12 : 0 ≤ x5_1)
       ·rw [if_pos c12] at H
        (have c12b0 : decide (0 ≤ x5_1) = true := decide_eq_true c12);clear c12;(by_cases c13 : x5_1 < (t367.size : Int))
        ·rw [if_pos c13] at H
         (have c13b0 : decide (x5_1 < (t367.size : Int)) = true := decide_eq_true c13);clear c13;(replace H := Option.bind_eq_some_iff.mp H);(obtain ⟨t369, A150, H⟩ := H);(replace H : (if t368 > t369 then (spec_GreatestLand.l0 k1 l0 t367 x6_1 (wrap64 (x6_1 + 1))) else (spec_GreatestLand.l0 k1 l0 t367 x5_1 (wrap64 (x6_1 + 1)))) = some (r1, r2) := H);(have A15 := Aside0.mk A150);clear A150;(by_cases c16 : t368 > t369)
         ·rw [if_pos c16] at H
          (have c16b0 : decide (t369 < t368) = true := decide_eq_true c16);clear c16;(have H' := Aside0.mk H);clear H;(have p10 : 0 ≤ (x6_1 : Int) := of_decide_eq_true zq21);(have q10 : x6_1 < (t367.size : Int) := of_decide_eq_true zq21);(have hx10 := bt_at t367 x6_1);(replace p10 := eq_true p10);(replace q10 := eq_true q10);(go_wp2_with (first | (go_at_call 44; (with_reducible refine (spec_l12Count.calls k1 _ _ l0 (bt t367 x6_1) t368 _ ?side1 ?side2 A11.out).mono ?_); (case side1 => exact zq53); (case side2 => exact HC0.out); rintro e w' ⟨rfl, ⟨nd, rfl⟩⟩; (try first | exact ⟨rfl, _, World.drewN_drewN _ _ _⟩ | exact ⟨rfl, _, Eq.trans (World.drewN_drewN _ _ _) (congrArg (World.drewN _) (Nat.add_assoc _ _ _))⟩); have p14 : 0 ≤ (x5_1 : Int) := of_decide_eq_true zq21; have q14 : x5_1 < (t367.size : Int) := of_decide_eq_true zq21; have hx14 := bt_at t367 x5_1; replace p14 := eq_true p14; replace q14 := eq_true q14) | (go_at_call 44; (with_reducible refine (spec_l12Count.calls k1 _ _ l0 (bt t367 x5_1) t369 _ ?side1 ?side2 A15.out).mono ?_); (case side1 => exact zq52); (case side2 => exact HC0.out); rintro e w' ⟨rfl, ⟨nd, rfl⟩⟩; (try first | exact ⟨rfl, _, World.drewN_drewN _ _ _⟩ | exact ⟨rfl, _, Eq.trans (World.drewN_drewN _ _ _) (congrArg (World.drewN _) (Nat.add_assoc _ _ _))⟩))));(repeat (go_quiet (first | (go_at_call 44; (with_reducible refine (spec_l12Count.calls k1 _ _ l0 (bt t367 x6_1) t368 _ ?side1 ?side2 A11.out).mono ?_); (case side1 => exact zq53); (case side2 => exact HC0.out); rintro e w' ⟨rfl, ⟨nd, rfl⟩⟩; (try first | exact ⟨rfl, _, World.drewN_drewN _ _ _⟩ | exact ⟨rfl, _, Eq.trans (World.drewN_drewN _ _ _) (congrArg (World.drewN _) (Nat.add_assoc _ _ _))⟩); have p14 : 0 ≤ (x5_1 : Int) := of_decide_eq_true zq21; have q14 : x5_1 < (t367.size : Int) := of_decide_eq_true zq21; have hx14 := bt_at t367 x5_1; replace p14 := eq_true p14; replace q14 := eq_true q14) | (go_at_call 44; (with_reducible refine (spec_l12Count.calls k1 _ _ l0 (bt t367 x5_1) t369 _ ?side1 ?side2 A15.out).mono ?_); (case side1 => exact zq52); (case side2 => exact HC0.out); rintro e w' ⟨rfl, ⟨nd, rfl⟩⟩; (try first | exact ⟨rfl, _, World.drewN_drewN _ _ _⟩ | exact ⟨rfl, _, Eq.trans (World.drewN_drewN _ _ _) (congrArg (World.drewN _) (Nat.add_assoc _ _ _))⟩))); try go_wp2_with (first | (go_at_call 44; (with_reducible refine (spec_l12Count.calls k1 _ _ l0 (bt t367 x6_1) t368 _ ?side1 ?side2 A11.out).mono ?_); (case side1 => exact zq53); (case side2 => exact HC0.out); rintro e w' ⟨rfl, ⟨nd, rfl⟩⟩; (try first | exact ⟨rfl, _, World.drewN_drewN _ _ _⟩ | exact ⟨rfl, _, Eq.trans (World.drewN_drewN _ _ _) (congrArg (World.drewN _) (Nat.add_assoc _ _ _))⟩); have p14 : 0 ≤ (x5_1 : Int) := of_decide_eq_true zq21; have q14 : x5_1 < (t367.size : Int) := of_decide_eq_true zq21; have hx14 := bt_at t367 x5_1; replace p14 := eq_true p14; replace q14 := eq_true q14) | (go_at_call 44; (with_reducible refine (spec_l12Count.calls k1 _ _ l0 (bt t367 x5_1) t369 _ ?side1 ?side2 A15.out).mono ?_); (case side1 => exact zq52); (case side2 => exact HC0.out); rintro e w' ⟨rfl, ⟨nd, rfl⟩⟩; (try first | exact ⟨rfl, _, World.drewN_drewN _ _ _⟩ | exact ⟨rfl, _, Eq.trans (World.drewN_drewN _ _ _) (congrArg (World.drewN _) (Nat.add_assoc _ _ _))⟩)))));(go_roundg k1)
          case measure => have := HK1.out; omega
          case rel => exact ⟨(x6_1), (wrap64 (x6_1 + 1)), zq26, zq26, H', ⟨zq40⟩, ⟨zq47⟩⟩
         ·rw [if_neg c16] at H
          (have c16b0 : decide (t369 < t368) = false := decide_eq_false c16);clear c16;(have H' := Aside0.mk H);clear H;(have p10 : 0 ≤ (x6_1 : Int) := of_decide_eq_true zq21);(have q10 : x6_1 < (t367.size : Int) := of_decide_eq_true zq21);(have hx10 := bt_at t367 x6_1);(replace p10 := eq_true p10);(replace q10 := eq_true q10);(go_wp2_with (first | (go_at_call 44; (with_reducible refine (spec_l12Count.calls k1 _ _ l0 (bt t367 x6_1) t368 _ ?side1 ?side2 A11.out).mono ?_); (case side1 => exact zq53); (case side2 => exact HC0.out); rintro e w' ⟨rfl, ⟨nd, rfl⟩⟩; (try first | exact ⟨rfl, _, World.drewN_drewN _ _ _⟩ | exact ⟨rfl, _, Eq.trans (World.drewN_drewN _ _ _) (congrArg (World.drewN _) (Nat.add_assoc _ _ _))⟩); have p14 : 0 ≤ (x5_1 : Int) := of_decide_eq_true zq21; have q14 : x5_1 < (t367.size : Int) := of_decide_eq_true zq21; have hx14 := bt_at t367 x5_1; replace p14 := eq_true p14; replace q14 := eq_true q14) | (go_at_call 44; (with_reducible refine (spec_l12Count.calls k1 _ _ l0 (bt t367 x5_1) t369 _ ?side1 ?side2 A15.out).mono ?_); (case side1 => exact zq52); (case side2 => exact HC0.out); rintro e w' ⟨rfl, ⟨nd, rfl⟩⟩; (try first | exact ⟨rfl, _, World.drewN_drewN _ _ _⟩ | exact ⟨rfl, _, Eq.trans (World.drewN_drewN _ _ _) (congrArg (World.drewN _) (Nat.add_assoc _ _ _))⟩))));(repeat (go_quiet (first | (go_at_call 44; (with_reducible refine (spec_l12Count.calls k1 _ _ l0 (bt t367 x6_1) t368 _ ?side1 ?side2 A11.out).mono ?_); (case side1 => exact zq53); (case side2 => exact HC0.out); rintro e w' ⟨rfl, ⟨nd, rfl⟩⟩; (try first | exact ⟨rfl, _, World.drewN_drewN _ _ _⟩ | exact ⟨rfl, _, Eq.trans (World.drewN_drewN _ _ _) (congrArg (World.drewN _) (Nat.add_assoc _ _ _))⟩); have p14 : 0 ≤ (x5_1 : Int) := of_decide_eq_true zq21; have q14 : x5_1 < (t367.size : Int) := of_decide_eq_true zq21; have hx14 := bt_at t367 x5_1; replace p14 := eq_true p14; replace q14 := eq_true q14) | (go_at_call 44; (with_reducible refine (spec_l12Count.calls k1 _ _ l0 (bt t367 x5_1) t369 _ ?side1 ?side2 A15.out).mono ?_); (case side1 => exact zq52); (case side2 => exact HC0.out); rintro e w' ⟨rfl, ⟨nd, rfl⟩⟩; (try first | exact ⟨rfl, _, World.drewN_drewN _ _ _⟩ | exact ⟨rfl, _, Eq.trans (World.drewN_drewN _ _ _) (congrArg (World.drewN _) (Nat.add_assoc _ _ _))⟩))); try go_wp2_with (first | (go_at_call 44; (with_reducible refine (spec_l12Count.calls k1 _ _ l0 (bt t367 x6_1) t368 _ ?side1 ?side2 A11.out).mono ?_); (case side1 => exact zq53); (case side2 => exact HC0.out); rintro e w' ⟨rfl, ⟨nd, rfl⟩⟩; (try first | exact ⟨rfl, _, World.drewN_drewN _ _ _⟩ | exact ⟨rfl, _, Eq.trans (World.drewN_drewN _ _ _) (congrArg (World.drewN _) (Nat.add_assoc _ _ _))⟩); have p14 : 0 ≤ (x5_1 : Int) := of_decide_eq_true zq21; have q14 : x5_1 < (t367.size : Int) := of_decide_eq_true zq21; have hx14 := bt_at t367 x5_1; replace p14 := eq_true p14; replace q14 := eq_true q14) | (go_at_call 44; (with_reducible refine (spec_l12Count.calls k1 _ _ l0 (bt t367 x5_1) t369 _ ?side1 ?side2 A15.out).mono ?_); (case side1 => exact zq52); (case side2 => exact HC0.out); rintro e w' ⟨rfl, ⟨nd, rfl⟩⟩; (try first | exact ⟨rfl, _, World.drewN_drewN _ _ _⟩ | exact ⟨rfl, _, Eq.trans (World.drewN_drewN _ _ _) (congrArg (World.drewN _) (Nat.add_assoc _ _ _))⟩)))));(go_roundg k1)
          case measure => have := HK1.out; omega
          case rel => exact ⟨(x5_1), (wrap64 (x6_1 + 1)), zq26, zq26, H', ⟨zq40⟩, ⟨zq47⟩⟩
        ·rw [if_neg c13] at H
         exact absurd H (by simp)
       ·rw [if_neg c12] at H
        exact absurd H (by simp)
      ·rw [if_neg c9] at H
       exact absurd H (by simp)
     ·rw [if_neg c8] at H
      (have c8b0 : decide (x6_1 < (t367.size : Int)) = false := decide_eq_false c8);clear c8;(by_cases c17 : 0 ≤ x5_1)
      ·rw [if_pos c17] at H
       (have c17b0 := eq_true c17);(have c17b1 : decide (0 ≤ x5_1) = true := decide_eq_true c17);clear c17;(by_cases c18 : x5_1 ≤ (wrap64 (x5_1 + 1)))
       ·rw [if_pos c18] at H
        (have c18b0 := eq_true c18);(have c18b1 : decide (x5_1 ≤ (wrap64 (x5_1 + 1))) = true := decide_eq_true c18);(by_cases c19 : (wrap64 (x5_1 + 1)) ≤ (t367.size : Int))
        ·rw [if_pos c19] at H
         (have c19b0 := eq_true c19);(have c19b1 : decide ((wrap64 (x5_1 + 1)) ≤ (t367.size : Int)) = true := decide_eq_true c19);(simp only [Option.some.injEq, Prod.mk.injEq] at H);(obtain ⟨rfl, rfl⟩ := H);(go_wp2);(repeat (go_quiet (fail); try go_wp2));(go_ret2);(exact ⟨zq25, zq47⟩)
        ·rw [if_neg c19] at H
         exact absurd H (by simp)
       ·rw [if_neg c18] at H
        exact absurd H (by simp)
      ·rw [if_neg c17] at H
       exact absurd H (by simp)
 ·replace c3 := Bool.eq_false_iff.mpr c3
  subst c3;(have H1 : (some ((⟨#[]⟩ : ByteArray), 1)) = some (r1, r2) := zq61);clear H;(have H := H1);clear H1;(simp only [Option.some.injEq, Prod.mk.injEq] at H);(obtain ⟨rfl, rfl⟩ := H)
  go_enter Tryd.func29, Tryd.ntmps29
  (go_wp2_with (first | (go_at_call 52; (with_reducible refine (spec_l12Ok.calls k _ _ l0 false _ ?side1 ?side2 A2.out).mono ?_); (case side1 => exact zq55); (case side2 => exact HC0.out); rintro e w' ⟨rfl, ⟨nd, rfl⟩⟩; (try first | exact ⟨rfl, _, World.drewN_drewN _ _ _⟩ | exact ⟨rfl, _, Eq.trans (World.drewN_drewN _ _ _) (congrArg (World.drewN _) (Nat.add_assoc _ _ _))⟩))));(repeat (go_quiet (first | (go_at_call 52; (with_reducible refine (spec_l12Ok.calls k _ _ l0 false _ ?side1 ?side2 A2.out).mono ?_); (case side1 => exact zq55); (case side2 => exact HC0.out); rintro e w' ⟨rfl, ⟨nd, rfl⟩⟩; (try first | exact ⟨rfl, _, World.drewN_drewN _ _ _⟩ | exact ⟨rfl, _, Eq.trans (World.drewN_drewN _ _ _) (congrArg (World.drewN _) (Nat.add_assoc _ _ _))⟩))); try go_wp2_with (first | (go_at_call 52; (with_reducible refine (spec_l12Ok.calls k _ _ l0 false _ ?side1 ?side2 A2.out).mono ?_); (case side1 => exact zq55); (case side2 => exact HC0.out); rintro e w' ⟨rfl, ⟨nd, rfl⟩⟩; (try first | exact ⟨rfl, _, World.drewN_drewN _ _ _⟩ | exact ⟨rfl, _, Eq.trans (World.drewN_drewN _ _ _) (congrArg (World.drewN _) (Nat.add_assoc _ _ _))⟩)))));(go_ret2);(exact ⟨zq25, zq47⟩)

/-! ### spec_ValidGrid: function 31 -/
def spec_ValidGrid.f (k : Nat) (l0 : List ByteArray) : Option (Bool) := (spec_l12Ok.f k l0).bind fun t370 => (some t370)
theorem spec_ValidGrid.mono : ∀ a0 k, LeO (spec_ValidGrid.f k a0) (spec_ValidGrid.f (k + 1) a0) := by
 intro a0 k;(unfold spec_ValidGrid.f)
 repeat' first | with_reducible (first | exact spec_l12Ok.mono _ _ | exact LeO.refl _ | exact LeO.none _ | refine LeO.ite ?_ ?_ | refine LeO.bind ?_ (fun _ => ?_)) | exact spec_l12Ok.mono _ _ | exact LeO.none _ | refine LeO.ite ?_ ?_ | refine LeO.bind ?_ (fun _ => ?_)
theorem spec_ValidGrid.calls (k : Nat) (A0 : Option Addr) (c0 : Nat) (l0 : List ByteArray) (r : Bool) (w : World) (hr0 : Kd.C Kd.string w A0 l0.length l0) (hc0 : l0.length ≤ c0) (h : spec_ValidGrid.f k l0 = some r) :
  Calls Tryd.prog 31 #[.slice A0 l0.length c0] w fun e w' => e = .returned (.bool r) ∧ Drawn0 w w' := by
 (have HR0 := Aside0.mk hr0);(have HC0 := Aside0.mk hc0);clear hr0 hc0;(have H : ((spec_l12Ok.f k l0).bind fun t370 => (some t370)) = some r := h);clear h;(replace H := Option.bind_eq_some_iff.mp H);(obtain ⟨t370, A20, H⟩ := H);(replace H : (some t370) = some r := H);(have A2 := Aside0.mk A20);clear A20;(obtain rfl := Option.some.inj H)
 go_enter Tryd.func31, Tryd.ntmps31
 (go_wp2_with (first | ((with_reducible refine gate_callee (f := 52) rfl ?_); refine goesL_ (some 4) rfl rfl Tryd.func52 (by kernel_rfl) rfl #[.slice A0 l0.length c0] rfl zq0 ?_; (with_reducible refine (spec_l12Ok.calls k _ _ l0 t370 _ ?side1 ?side2 A2.out).mono ?_); (case side1 => exact zq55); (case side2 => exact HC0.out); rintro e w' ⟨rfl, ⟨nd, rfl⟩⟩; refine ⟨_, rfl, ?_⟩)));(go_ret);(exact ⟨zq26, zq54⟩)

end Go.Proofs.YtdkmngghknohgaaDoor.PFnGrids
