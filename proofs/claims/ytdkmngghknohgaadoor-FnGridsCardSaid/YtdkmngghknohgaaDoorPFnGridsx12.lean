-- Made by a program of this session (gprint.py) out of the kit's print of the translation and texts of my own. SLIM
import Derived.Test.YtdkmngghknohgaaDoorPFnGridsx0
import Derived.Test.YtdkmngghknohgaaDoorPFnGridsx1
import Derived.Test.YtdkmngghknohgaaDoorPFnGridsx3
import Derived.Test.YtdkmngghknohgaaDoorPFnGridsx5
import Derived.Test.YtdkmngghknohgaaDoorPFnGridsx6
import Derived.Test.YtdkmngghknohgaaDoorPFnGridsx7
import Derived.Test.YtdkmngghknohgaaDoorPFnGridsx11
namespace Go.Proofs.YtdkmngghknohgaaDoor.PFnGrids
open Go.RowKit Go.Proofs.YtdkmngghknohgaaDoorW.PrintWords Go.Proofs.YtdkmngghknohgaaDoorW.PrintLast Go.Proofs.YtdkmngghknohgaaDoorW.PrintMore
set_option maxHeartbeats 64000000
set_option maxRecDepth 100000
attribute [local go_sem] max2_int min2_int max_two min_two max_three min_three max_four min_four   -- for this text's walks alone
set_option linter.unusedVariables false
set_option linter.unusedSimpArgs false

/-! ### spec_SeasOf: function 25 -/
def spec_SeasOf.f (k : Nat) (l0 : List ByteArray) : Option (Int × Int) := (spec_l12Ok.f k l0).bind fun t354 => (if t354 = true then ((spec_l12Parts.f k l0 46).bind fun t355 => (some (t355, 0))) else (some (0, 1)))
theorem spec_SeasOf.mono : ∀ a0 k, LeO (spec_SeasOf.f k a0) (spec_SeasOf.f (k + 1) a0) := by
 intro a0 k;(unfold spec_SeasOf.f)
 repeat' first | with_reducible (first | exact spec_l12Ok.mono _ _ | exact spec_l12Parts.mono _ _ _ | exact LeO.refl _ | exact LeO.none _ | refine LeO.ite ?_ ?_ | refine LeO.bind ?_ (fun _ => ?_)) | exact spec_l12Ok.mono _ _ | exact spec_l12Parts.mono _ _ _ | exact LeO.none _ | refine LeO.ite ?_ ?_ | refine LeO.bind ?_ (fun _ => ?_)
theorem spec_SeasOf.calls (k : Nat) (A0 : Option Addr) (c0 : Nat) (l0 : List ByteArray) (r1 : Int) (r2 : Int) (w : World) (hr0 : Kd.C Kd.string w A0 l0.length l0) (hc0 : l0.length ≤ c0) (h : spec_SeasOf.f k l0 = some (r1, r2)) :
  Calls Tryd.prog 25 #[.slice A0 l0.length c0] w fun e w' => e = .returned (.tuple #[.int .i64 r1, .int .i64 r2]) ∧ Below w.heap.size w w' := by
 (have HR0 := Aside0.mk hr0);(have HC0 := Aside0.mk hc0);clear hr0 hc0;(have HB := Aside0.mk (Below.refl w.heap.size w));(have H : ((spec_l12Ok.f k l0).bind fun t354 => (if t354 = true then ((spec_l12Parts.f k l0 46).bind fun t355 => (some (t355, 0))) else (some (0, 1)))) = some (r1, r2) := h);clear h;(replace H := Option.bind_eq_some_iff.mp H);(obtain ⟨t354, A20, H⟩ := H);(replace H : (if t354 = true then ((spec_l12Parts.f k l0 46).bind fun t355 => (some (t355, 0))) else (some (0, 1))) = some (r1, r2) := H);(have A2 := Aside0.mk A20);clear A20;(by_cases c3 : t354 = true)
 ·subst c3
  (have H1 : ((spec_l12Parts.f k l0 46).bind fun t355 => (some (t355, 0))) = some (r1, r2) := zq62);clear H;(have H := H1);clear H1;(replace H := Option.bind_eq_some_iff.mp H);(obtain ⟨t355, A40, H⟩ := H);(replace H : (some (t355, 0)) = some (r1, r2) := H);(have A4 := Aside0.mk A40);clear A40;(simp only [Option.some.injEq, Prod.mk.injEq] at H);(obtain ⟨rfl, rfl⟩ := H)
  go_enter Tryd.func25, Tryd.ntmps25
  (go_wp2_with (first | ((with_reducible refine gate_callee (f := 52) rfl ?_); refine goesL_ (some 5) rfl rfl Tryd.func52 (by kernel_rfl) rfl #[.slice A0 l0.length c0] rfl zq0 ?_; (with_reducible refine (spec_l12Ok.calls k _ _ l0 true _ ?side1 ?side2 A2.out).mono ?_); (case side1 => exact zq55); (case side2 => exact HC0.out); rintro e w' ⟨rfl, ⟨nd, rfl⟩⟩; refine ⟨_, rfl, ?_⟩) | ((with_reducible refine gate_callee (f := 42) rfl ?_); refine goesL_ (some 8) rfl rfl Tryd.func42 (by kernel_rfl) rfl #[.slice A0 l0.length c0, .int .u8 46] rfl zq0 ?_; (with_reducible refine (spec_l12Parts.calls k _ _ l0 46 t355 _ ?side1 ?side2 A4.out).mono ?_); (case side1 => exact zq55); (case side2 => exact HC0.out); rintro e w5 ⟨rfl, hb⟩; refine ⟨_, rfl, ?_⟩; have n0_ := Aside0.mk (below_step zq47 hb); clear HB; have HB := n0_; clear n0_; (try clear hb); (try clear hb2); (try clear hk); (try clear hi))));(go_ret2);(exact ⟨zq25, zq47⟩)
 ·replace c3 := Bool.eq_false_iff.mpr c3
  subst c3;(have H1 : (some (0, 1)) = some (r1, r2) := zq61);clear H;(have H := H1);clear H1;(simp only [Option.some.injEq, Prod.mk.injEq] at H);(obtain ⟨rfl, rfl⟩ := H)
  go_enter Tryd.func25, Tryd.ntmps25
  (go_wp2_with (first | ((with_reducible refine gate_callee (f := 52) rfl ?_); refine goesL_ (some 5) rfl rfl Tryd.func52 (by kernel_rfl) rfl #[.slice A0 l0.length c0] rfl zq0 ?_; (with_reducible refine (spec_l12Ok.calls k _ _ l0 false _ ?side1 ?side2 A2.out).mono ?_); (case side1 => exact zq55); (case side2 => exact HC0.out); rintro e w' ⟨rfl, ⟨nd, rfl⟩⟩; refine ⟨_, rfl, ?_⟩)));(go_ret2);(exact ⟨zq25, zq47⟩)

/-! ### impl_LandlockedOf: function 26 -/
-- given by hand
/-- The letters that have no coast. -/
def llB (k : Nat) (l0 : List ByteArray) : List Int → ByteArray → Option ByteArray
 | [], o => some o
 | b :: bs, o => (impl_coastOf.f k l0 b).bind fun n => if n = 0 then (if o.size + (Go.Utf8.encode (wrap32 b)).size ≤ 9223372036854775807 then llB k l0 bs (o ++ Go.Utf8.encode (wrap32 b)) else none) else llB k l0 bs o
def impl_LandlockedOf.f (k : Nat) (l0 : List ByteArray) : Option (ByteArray × Int) := (impl_ValidGrid.f k l0).bind fun v => if v = true then ((impl_landsOf.f k l0).bind fun ls => if ls.size ≤ 9223372036854775807 then (llB k l0 (numsB ls) (⟨#[]⟩ : ByteArray)).bind fun o => some (o, 0) else none) else some ((⟨#[]⟩ : ByteArray), 1)
theorem llB_mono (l0 : List ByteArray) (k : Nat) : ∀ (bs : List Int) (o : ByteArray), LeO (llB k l0 bs o) (llB (k + 1) l0 bs o)
 | [], o => LeO.refl _
 | b :: bs, o => by
  (unfold llB);(exact LeO.bind (impl_coastOf.mono _ _ _) (fun n => LeO.ite (LeO.ite (llB_mono l0 k bs _) (LeO.refl _)) (llB_mono l0 k bs o)))
theorem impl_LandlockedOf.mono : ∀ a0 k, LeO (impl_LandlockedOf.f k a0) (impl_LandlockedOf.f (k + 1) a0) := by
 intro a0 k;(unfold impl_LandlockedOf.f);(refine LeO.bind (impl_ValidGrid.mono _ _) (fun v => LeO.ite ?_ (LeO.refl _)));(exact LeO.bind (impl_landsOf.mono _ _) (fun ls => LeO.ite (LeO.bind (llB_mono _ _ _ _) (fun o => LeO.refl _)) (LeO.refl _)))
theorem impl_LandlockedOf.calls (k : Nat) (A0 : Option Addr) (c0 : Nat) (l0 : List ByteArray) (r1 : ByteArray) (r2 : Int) (w : World) (hr0 : Kd.C Kd.string w A0 l0.length l0) (hc0 : l0.length ≤ c0) (h : impl_LandlockedOf.f k l0 = some (r1, r2)) :
  Calls Tryd.prog 26 #[.slice A0 l0.length c0] w fun e w' => e = .returned (.tuple #[.string r1, .int .i64 r2]) ∧ Below w.heap.size w w' := by
 (unfold impl_LandlockedOf.f at h);(have h0 := h);clear h;(obtain ⟨v, e1, h⟩ := Option.bind_eq_some_iff.1 h0);clear h0;(have A1 := Aside0.mk e1);clear e1
 cases v with
 | false =>
  (obtain ⟨rfl, rfl⟩ := Prod.mk.inj (Option.some.inj (show some ((⟨#[]⟩ : ByteArray), (1 : Int)) = some (r1, r2) from h)));clear h
  go_enter Tryd.func26, Tryd.ntmps26
  (go_wp2_with (go_at_call 30; (with_reducible refine (impl_ValidGrid.calls k A0 c0 l0 false _ hr0 hc0 A1.out).mono ?_); rintro e w2 ⟨rfl, hb⟩));(go_ret2);(exact ⟨rfl, hb⟩)
 | true =>
  (rw [if_pos rfl] at h);(have h0 := h);clear h;(obtain ⟨ls, e2, h1⟩ := Option.bind_eq_some_iff.1 h0);clear h0;(by_cases hlim : ls.size ≤ 9223372036854775807)
  ·rw [if_pos hlim] at h1
   (obtain ⟨o, e3, h⟩ := Option.bind_eq_some_iff.1 h1);clear h1;(obtain ⟨rfl, rfl⟩ := Prod.mk.inj (Option.some.inj h));clear h;(have A2 := Aside0.mk e2);(have A3 := Aside0.mk e3);(have L1 := Aside0.mk hlim);clear e2 e3 hlim;(have HB := Aside0.mk (Below.refl w.heap.size w));(have HR0 := Aside0.mk hr0);(have HC0 := Aside0.mk hc0);clear hr0 hc0
   go_enter Tryd.func26, Tryd.ntmps26
   go_wp2_with (first | (go_at_call 30; (with_reducible refine (impl_ValidGrid.calls k A0 c0 l0 true _ HR0.out HC0.out A1.out).mono ?_); rintro e w2 ⟨rfl, hb⟩; have n1_ := Aside0.mk (below_step HB.out hb); clear HB hb; have HB := n1_; clear n1_) | (go_at_call 54; (with_reducible refine (impl_landsOf.calls k A0 c0 l0 ls _ (Kd.C_below HR0.out HB.out) HC0.out A2.out).mono ?_); rintro e w4 ⟨rfl, hb⟩; have n1_ := Aside0.mk (below_step HB.out hb); clear HB hb; have HB := n1_; clear n1_; have hcv := Go.Lib.run_convert_string_bytes (P := Tryd.prog) w4 9 22 5 ls (u := .string) Tryd.underlying9 Tryd.underlying22 Tryd.underlying5; have HN := Aside0.mk (BRow.new w4 5 ls L1.out); have hbb := Go.Lib.bytesWorld_below w4 5 ls; obtain ⟨W1, hW1⟩ : ∃ W1, W1 = Go.Lib.bytesWorld w4 5 ls := ⟨_, rfl⟩; rw [← hW1] at hcv HN hbb; clear hW1; have n1_ := Aside0.mk (below_step HB.out hbb); clear HB hbb; have HB := n1_; clear n1_; obtain ⟨gb, hgb⟩ : ∃ gb, gb = w4.heap.size := ⟨_, rfl⟩; rw [← hgb] at hcv HN; have HG := Aside0.mk hgb; clear hgb))
   go_loopg [4, 14] ls.size (fun g v4 v14 w' => ∃ (i : Nat) (o1 : ByteArray), v4 = .string o1 ∧ v14 = .int .i64 i ∧ i + g = ls.size ∧ Aside0 (llB k l0 ((numsB ls).drop i) o1 = some o) ∧ Aside0 (BRow w' gb 5 (numsB ls)) ∧ Aside0 (Below w.heap.size w w'))
   case atStart => exact ⟨0, (⟨#[]⟩ : ByteArray), rfl, rfl, by omega, A3, HN, HB⟩
   case round =>
    clear HN HB A3;(obtain ⟨i, o1, rfl, rfl, hig, A3, HN, HB⟩ := hrel)
    cases gk with
    | zero =>
     (have hi : i = ls.size := by omega);subst hi;(have c5b0 : decide ((ls.size : Int) < (ls.size : Int)) = false := decide_eq_false (by omega));(have H := A3.out);(rw [List.drop_eq_nil_of_le (by rw [numsB_length]; omega)] at H);(obtain rfl : o1 = o := Option.some.inj H);clear H A3;(go_wp2);(go_ret2);(exact ⟨rfl, HB.out⟩)
    | succ g =>
     (have hi : i < ls.size := by omega);(have c5b0 : decide ((i : Int) < (ls.size : Int)) = true := decide_eq_true (by omega));(have p6 : (0 ≤ (i : Int)) = True := eq_true (by omega));(have q6 : ((i : Int) < (ls.size : Int)) = True := eq_true (by omega));(have hil : i < (numsB ls).length := by rw [numsB_length]; exact hi);(obtain ⟨hat1, hat2⟩ := HN.out.at_ i hil);(obtain ⟨b, hb0⟩ : ∃ b, b = (numsB ls).getD i 0 := ⟨_, rfl⟩);(rw [← hb0] at hat1);(have hdr : (numsB ls).drop i = b :: (numsB ls).drop (i + 1) := zq73);(have H := A3.out);(rw [hdr] at H);(unfold llB at H);clear A3 hdr hb0;(have H0 := H);clear H;(obtain ⟨cn, e5, H⟩ := Option.bind_eq_some_iff.1 H0);clear H0;(have A5 := Aside0.mk e5);clear e5;(by_cases hz : cn = 0)
     ·rw [if_pos hz] at H
      subst hz;(by_cases hsz : o1.size + (Go.Utf8.encode (wrap32 b)).size ≤ 9223372036854775807)
      ·rw [if_pos hsz] at H
       (have c5b0' := eq_true hsz);(have c5b1 : decide (o1.size + (Go.Utf8.encode (wrap32 b)).size ≤ 9223372036854775807) = true := decide_eq_true hsz);(have c5b2 : (9223372036854775807 < o1.size + (Go.Utf8.encode (wrap32 b)).size) = False := eq_false (Nat.not_lt.2 hsz));(have A3 := Aside0.mk H);clear H hsz;(go_wp2_with (go_at_call 45; (with_reducible refine (impl_coastOf.calls k A0 c0 l0 b 0 _ (Kd.C_below HR0.out HB.out) HC0.out A5.out).mono ?_); rintro e w5 ⟨rfl, hb⟩; have HN2 := Aside0.mk (HN.out.below hb); have n1_ := Aside0.mk (below_step HB.out hb); clear HB HN hb; have HB := n1_; have HN := HN2; clear n1_ HN2));(go_roundg g)
       case measure => omega
       case rel => exact ⟨i + 1, _, rfl, congrArg (Value.int .i64) (wrapS hi L1.out), by omega, A3, HN, HB⟩
      ·rw [if_neg hsz] at H
       cases H
     ·rw [if_neg hz] at H
      (have cz0 : (cn == 0) = false := beq_eq_false_iff_ne.mpr hz);(have cz1 : decide (cn = 0) = false := decide_eq_false hz);(have A3 := Aside0.mk H);clear H;(go_wp2_with (go_at_call 45; (with_reducible refine (impl_coastOf.calls k A0 c0 l0 b cn _ (Kd.C_below HR0.out HB.out) HC0.out A5.out).mono ?_); rintro e w5 ⟨rfl, hb⟩; have HN2 := Aside0.mk (HN.out.below hb); have n1_ := Aside0.mk (below_step HB.out hb); clear HB HN hb; have HB := n1_; have HN := HN2; clear n1_ HN2));(go_roundg g)
      case measure => omega
      case rel => exact ⟨i + 1, o1, rfl, congrArg (Value.int .i64) (wrapS hi L1.out), by omega, A3, HN, HB⟩
  ·rw [if_neg hlim] at h1
   cases h1


end Go.Proofs.YtdkmngghknohgaaDoor.PFnGrids
