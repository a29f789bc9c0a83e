-- Made by a program of this session (gprint.py) out of the kit's print of the translation and texts of my own. SLIM
import Derived.Test.YtdambdglgdaojaaGreatDoorPFnFiguresx0
import Derived.Test.YtdambdglgdaojaaGreatDoorPFnFiguresx5
import Derived.Test.YtdambdglgdaojaaGreatDoorPFnFiguresx7
import Derived.Test.YtdambdglgdaojaaGreatDoorPFnFiguresx8
import Derived.Test.YtdambdglgdaojaaGreatDoorPFnFiguresx9
import Derived.Test.YtdambdglgdaojaaGreatDoorPFnFiguresx10
import Derived.Test.YtdambdglgdaojaaGreatDoorPFnFiguresx11
namespace Go.Proofs.YtdambdglgdaojaaGreatDoor.PFnFigures
open Go.RowKit Go.Proofs.YtdambdglgdaojaaGreatDoorW.PrintWords Go.Proofs.YtdambdglgdaojaaGreatDoorW.PrintLast Go.Proofs.YtdambdglgdaojaaGreatDoorW.PrintMore
set_option maxHeartbeats 64000000
set_option maxRecDepth 100000
attribute [local go_sem] max2_int min2_int max_two min_two max_three min_three max_four min_four   -- for this text's walks alone
set_option linter.unusedVariables false
set_option linter.unusedSimpArgs false

/-! ### impl_IsOnePiece: function 11 -/
def impl_IsOnePiece.f (k : Nat) (l0 : List (S53)) (l1 : List (S39)) : Option (Bool × Int) := (impl_ValidFigure.f k l0 l1).bind fun t487 => (if t487 = true then ((impl_isOnePiece.f k l1).bind fun t488 => (some (t488, 0))) else (some (false, 1)))
theorem impl_IsOnePiece.mono : ∀ a0 a1 k, LeO (impl_IsOnePiece.f k a0 a1) (impl_IsOnePiece.f (k + 1) a0 a1) := by
 intro a0 a1 k;(unfold impl_IsOnePiece.f)
 repeat' first | with_reducible (first | exact impl_ValidFigure.mono _ _ _ | exact impl_isOnePiece.mono _ _ | exact LeO.refl _ | exact LeO.none _ | refine LeO.ite ?_ ?_ | refine LeO.bind ?_ (fun _ => ?_)) | exact impl_ValidFigure.mono _ _ _ | exact impl_isOnePiece.mono _ _ | exact LeO.none _ | refine LeO.ite ?_ ?_ | refine LeO.bind ?_ (fun _ => ?_)
theorem impl_IsOnePiece.calls (k : Nat) (A0 : Option Addr) (c0 : Nat) (l0 : List (S53)) (A1 : Option Addr) (c1 : Nat) (l1 : List (S39)) (r1 : Bool) (r2 : Int) (w : World) (hr0 : Kd.C k53 w A0 l0.length l0) (hc0 : l0.length ≤ c0) (hr1 : Kd.C k39 w A1 l1.length l1) (hc1 : l1.length ≤ c1) (h : impl_IsOnePiece.f k l0 l1 = some (r1, r2)) :
  Calls Tryz.prog 11 #[.slice A0 l0.length c0, .slice A1 l1.length c1] w fun e w' => e = .returned (.tuple #[.bool r1, .int .i64 r2]) ∧ Below w.heap.size w w' := by
 (have HR0 := Aside0.mk hr0);(have HC0 := Aside0.mk hc0);clear hr0 hc0;(have HR1 := Aside0.mk hr1);(have HC1 := Aside0.mk hc1);clear hr1 hc1;(have HB := Aside0.mk (Below.refl w.heap.size w));(have H : ((impl_ValidFigure.f k l0 l1).bind fun t487 => (if t487 = true then ((impl_isOnePiece.f k l1).bind fun t488 => (some (t488, 0))) else (some (false, 1)))) = some (r1, r2) := h);clear h;(replace H := Option.bind_eq_some_iff.mp H);(obtain ⟨t487, A30, H⟩ := H);(replace H : (if t487 = true then ((impl_isOnePiece.f k l1).bind fun t488 => (some (t488, 0))) else (some (false, 1))) = some (r1, r2) := H);(have A3 := Aside0.mk A30);clear A30;(by_cases c4 : t487 = true)
 ·subst c4
  (have H1 : ((impl_isOnePiece.f k l1).bind fun t488 => (some (t488, 0))) = some (r1, r2) := zq118);clear H;(have H := H1);clear H1;(replace H := Option.bind_eq_some_iff.mp H);(obtain ⟨t488, A50, H⟩ := H);(replace H : (some (t488, 0)) = some (r1, r2) := H);(have A5 := Aside0.mk A50);clear A50;(simp only [Option.some.injEq, Prod.mk.injEq] at H);(obtain ⟨rfl, rfl⟩ := H)
  go_enter Tryz.func11, Tryz.ntmps11
  (go_wp2_with (first | ((with_reducible refine gate_callee (f := 24) rfl ?_); refine goesL_ (some 8) rfl rfl Tryz.func24 (by kernel_rfl) rfl #[.slice A0 l0.length c0, .slice A1 l1.length c1] rfl zq0 ?_; (with_reducible refine (impl_ValidFigure.calls k _ _ l0 _ _ l1 true _ ?side1 ?side2 ?side3 ?side4 A3.out).mono ?_); (case side1 => exact zq109); (case side2 => exact HC0.out); (case side3 => exact zq110); (case side4 => exact HC1.out); rintro e w6 ⟨rfl, hb⟩; refine ⟨_, rfl, ?_⟩; have n0_ := Aside0.mk (below_step zq79 hb); clear HB; have HB := n0_; clear n0_; (try clear hb); (try clear hb2); (try clear hk); (try clear hi)) | ((with_reducible refine gate_callee (f := 31) rfl ?_); refine goesL_ (some 11) rfl rfl Tryz.func31 (by kernel_rfl) rfl #[.slice A1 l1.length c1] rfl zq0 ?_; (with_reducible refine (impl_isOnePiece.calls k _ _ l1 t488 _ ?side1 ?side2 A5.out).mono ?_); (case side1 => exact zq94); (case side2 => exact HC1.out); rintro e w7 ⟨rfl, hb⟩; refine ⟨_, rfl, ?_⟩; have n0_ := Aside0.mk (below_step zq79 hb); clear HB; have HB := n0_; clear n0_; (try clear hb); (try clear hb2); (try clear hk); (try clear hi))));(go_ret2);(exact ⟨zq43, zq79⟩)
 ·replace c4 := Bool.eq_false_iff.mpr c4
  subst c4;(have H1 : (some (false, 1)) = some (r1, r2) := zq117);clear H;(have H := H1);clear H1;(simp only [Option.some.injEq, Prod.mk.injEq] at H);(obtain ⟨rfl, rfl⟩ := H)
  go_enter Tryz.func11, Tryz.ntmps11
  (go_wp2_with (first | ((with_reducible refine gate_callee (f := 24) rfl ?_); refine goesL_ (some 8) rfl rfl Tryz.func24 (by kernel_rfl) rfl #[.slice A0 l0.length c0, .slice A1 l1.length c1] rfl zq0 ?_; (with_reducible refine (impl_ValidFigure.calls k _ _ l0 _ _ l1 false _ ?side1 ?side2 ?side3 ?side4 A3.out).mono ?_); (case side1 => exact zq109); (case side2 => exact HC0.out); (case side3 => exact zq110); (case side4 => exact HC1.out); rintro e w8 ⟨rfl, hb⟩; refine ⟨_, rfl, ?_⟩; have n0_ := Aside0.mk (below_step zq79 hb); clear HB; have HB := n0_; clear n0_; (try clear hb); (try clear hb2); (try clear hk); (try clear hi))));(go_ret2);(exact ⟨zq43, zq79⟩)

/-! ### spec_IsOnePiece: function 12 -/
def spec_IsOnePiece.f (k : Nat) (l0 : List (S53)) (l1 : List (S39)) : Option (Bool × Int) := (spec_l16Figure.f k l0 l1).bind fun t489 => (if t489 = true then ((spec_l16Piece.f k l0 l1).bind fun t490 => (some (t490, 0))) else (some (false, 1)))
theorem spec_IsOnePiece.mono : ∀ a0 a1 k, LeO (spec_IsOnePiece.f k a0 a1) (spec_IsOnePiece.f (k + 1) a0 a1) := by
 intro a0 a1 k;(unfold spec_IsOnePiece.f)
 repeat' first | with_reducible (first | exact spec_l16Figure.mono _ _ _ | exact spec_l16Piece.mono _ _ _ | exact LeO.refl _ | exact LeO.none _ | refine LeO.ite ?_ ?_ | refine LeO.bind ?_ (fun _ => ?_)) | exact spec_l16Figure.mono _ _ _ | exact spec_l16Piece.mono _ _ _ | exact LeO.none _ | refine LeO.ite ?_ ?_ | refine LeO.bind ?_ (fun _ => ?_)
theorem spec_IsOnePiece.calls (k : Nat) (A0 : Option Addr) (c0 : Nat) (l0 : List (S53)) (A1 : Option Addr) (c1 : Nat) (l1 : List (S39)) (r1 : Bool) (r2 : Int) (w : World) (hr0 : Kd.C k53 w A0 l0.length l0) (hc0 : l0.length ≤ c0) (hr1 : Kd.C k39 w A1 l1.length l1) (hc1 : l1.length ≤ c1) (h : spec_IsOnePiece.f k l0 l1 = some (r1, r2)) :
  Calls Tryz.prog 12 #[.slice A0 l0.length c0, .slice A1 l1.length c1] w fun e w' => e = .returned (.tuple #[.bool r1, .int .i64 r2]) ∧ Below w.heap.size w w' := by
 (have HR0 := Aside0.mk hr0);(have HC0 := Aside0.mk hc0);clear hr0 hc0;(have HR1 := Aside0.mk hr1);(have HC1 := Aside0.mk hc1);clear hr1 hc1;(have HB := Aside0.mk (Below.refl w.heap.size w));(have H : ((spec_l16Figure.f k l0 l1).bind fun t489 => (if t489 = true then ((spec_l16Piece.f k l0 l1).bind fun t490 => (some (t490, 0))) else (some (false, 1)))) = some (r1, r2) := h);clear h;(replace H := Option.bind_eq_some_iff.mp H);(obtain ⟨t489, A30, H⟩ := H);(replace H : (if t489 = true then ((spec_l16Piece.f k l0 l1).bind fun t490 => (some (t490, 0))) else (some (false, 1))) = some (r1, r2) := H);(have A3 := Aside0.mk A30);clear A30;(by_cases c4 : t489 = true)
 ·subst c4
  (have H1 : ((spec_l16Piece.f k l0 l1).bind fun t490 => (some (t490, 0))) = some (r1, r2) := zq118);clear H;(have H := H1);clear H1;(replace H := Option.bind_eq_some_iff.mp H);(obtain ⟨t490, A50, H⟩ := H);(replace H : (some (t490, 0)) = some (r1, r2) := H);(have A5 := Aside0.mk A50);clear A50;(simp only [Option.some.injEq, Prod.mk.injEq] at H);(obtain ⟨rfl, rfl⟩ := H)
  go_enter Tryz.func12, Tryz.ntmps12
  (go_wp2_with (first | ((with_reducible refine gate_callee (f := 26) rfl ?_); refine goesL_ (some 8) rfl rfl Tryz.func26 (by kernel_rfl) rfl #[.slice A0 l0.length c0, .slice A1 l1.length c1] rfl zq0 ?_; (with_reducible refine (spec_l16Figure.calls k _ _ l0 _ _ l1 true _ ?side1 ?side2 ?side3 ?side4 A3.out).mono ?_); (case side1 => exact zq109); (case side2 => exact HC0.out); (case side3 => exact zq110); (case side4 => exact HC1.out); rintro e w6 ⟨rfl, hb⟩; refine ⟨_, rfl, ?_⟩; have n0_ := Aside0.mk (below_step zq79 hb); clear HB; have HB := n0_; clear n0_; (try clear hb); (try clear hb2); (try clear hk); (try clear hi)) | ((with_reducible refine gate_callee (f := 33) rfl ?_); refine goesL_ (some 12) rfl rfl Tryz.func33 (by kernel_rfl) rfl #[.slice A0 l0.length c0, .slice A1 l1.length c1] rfl zq0 ?_; (with_reducible refine (spec_l16Piece.calls k _ _ l0 _ _ l1 t490 _ ?side1 ?side2 ?side3 ?side4 A5.out).mono ?_); (case side1 => exact zq93); (case side2 => exact HC0.out); (case side3 => exact zq94); (case side4 => exact HC1.out); rintro e w7 ⟨rfl, hb⟩; refine ⟨_, rfl, ?_⟩; have n0_ := Aside0.mk (below_step zq79 hb); clear HB; have HB := n0_; clear n0_; (try clear hb); (try clear hb2); (try clear hk); (try clear hi))));(go_ret2);(exact ⟨zq43, zq79⟩)
 ·replace c4 := Bool.eq_false_iff.mpr c4
  subst c4;(have H1 : (some (false, 1)) = some (r1, r2) := zq117);clear H;(have H := H1);clear H1;(simp only [Option.some.injEq, Prod.mk.injEq] at H);(obtain ⟨rfl, rfl⟩ := H)
  go_enter Tryz.func12, Tryz.ntmps12
  (go_wp2_with (first | ((with_reducible refine gate_callee (f := 26) rfl ?_); refine goesL_ (some 8) rfl rfl Tryz.func26 (by kernel_rfl) rfl #[.slice A0 l0.length c0, .slice A1 l1.length c1] rfl zq0 ?_; (with_reducible refine (spec_l16Figure.calls k _ _ l0 _ _ l1 false _ ?side1 ?side2 ?side3 ?side4 A3.out).mono ?_); (case side1 => exact zq109); (case side2 => exact HC0.out); (case side3 => exact zq110); (case side4 => exact HC1.out); rintro e w8 ⟨rfl, hb⟩; refine ⟨_, rfl, ?_⟩; have n0_ := Aside0.mk (below_step zq79 hb); clear HB; have HB := n0_; clear n0_; (try clear hb); (try clear hb2); (try clear hk); (try clear hi))));(go_ret2);(exact ⟨zq43, zq79⟩)

/-! ### impl_EndsOfFigure: function 13 -/
-- given by hand

theorem idxI64_rd (l0 : List Int) (x5 : Int) (h0 : 0 ≤ x5) (hlt : x5 < (l0.length : Int)) : (rdOf (0 : Int) l0 x5) = l0[x5.toNat]'(by omega) := by
 (unfold rdOf);(rw [List.getD_eq_getElem?_getD, List.getElem?_eq_getElem (show x5.toNat < l0.length by omega)]);rfl
def idxI64_v (p : Int → Bool) (l : List Int) : Int := if l.any p then (l.findIdx p : Int) else -1
theorem idxI64_calls (p : Int → Bool) (gg : Nat) (lb : Array Value) (eg : ∀ args w, (callFunc gg args).run Tryz.prog w = .ok (.enter gg args) w) (A0 : Option Addr) (c0 : Nat) (l0 : List Int) (w : World) (hr0 : Kd.C (Kd.int .i64) w A0 l0.length l0)
  (hp : ∀ (W : World) (x : Int), Below w.heap.size w W → Calls Tryz.prog gg (#[.int .i64 x] ++ lb) W fun e w' => e = .returned (.bool (p x)) ∧ Below w.heap.size w w') :
  Calls Tryz.prog 49 #[.slice A0 l0.length c0, .func (.func gg) #[] lb] w fun e w' => e = .returned (.int .i64 (idxI64_v p l0)) ∧ Below w.heap.size w w' := by
 (have HR := Aside0.mk hr0);(have HM := Kd.C_max hr0);clear hr0;(have HP := Aside0.mk hp);clear hp
 go_enter Tryz.func49, Tryz.ntmps49
 go_wp2
 go_loopg [5, 8] l0.length (fun gk _ s8 wr => ∃ x5 : Int, s8 = .int .i64 x5 ∧ 0 ≤ x5 ∧ x5 ≤ (l0.length : Int) ∧ (l0.length : Int) - x5 ≤ gk ∧ Aside0 (Below w.heap.size w wr) ∧ Aside0 (∀ j, (h : j < l0.length) → (j : Int) < x5 → p l0[j] = false))
 case atStart => exact ⟨0, rfl, by omega, by omega, by omega, ⟨Below.refl _ w⟩, ⟨fun j h hj => by omega⟩⟩
 case round =>
  (obtain ⟨x5, rfl, h0, h1, hg, BW, AA⟩ := hrel);(by_cases hlt : x5 < (l0.length : Int))
  ·have c4b0 : decide (x5 < (l0.length : Int)) = true := decide_eq_true hlt
   obtain ⟨ad, he, hx0⟩ := (Kd.reads_of_C (enc := Value.int .i64) (d := (0 : Int)) (h1 := fun _ => rfl) HR.out).at_ x5 h0 (show x5 < (l0.length : Int) from hlt)
   cases he
   (replace hx0 := (BW.out.cell (World.block_lt_of_cell? w _ hx0)).trans hx0);(have HY := Aside0.mk (idxI64_rd l0 x5 h0 hlt));(have hcall := HP.out wr (rdOf (0 : Int) l0 x5) BW.out)
   cases hq : p (rdOf (0 : Int) l0 x5) with
   | true =>
    (rw [hq] at hcall);(have HQ := Aside0.mk hq);clear hq;(go_wp2_with (go_at_fn gg; refine hcall.mono ?_; rintro e w' ⟨rfl, hb'⟩));(go_ret);(refine ⟨?_, hb'⟩);(have hy := HY.out);(have hqq := HQ.out);(have hall := AA.out)
    have e : idxI64_v p l0 = x5 := by
     (unfold idxI64_v);(rw [if_pos (List.any_eq_true.2 ⟨l0[x5.toNat]'(by omega), List.getElem_mem _, by rw [← hy]; exact hqq⟩)])
     have : l0.findIdx p = x5.toNat := by
      (rw [List.findIdx_eq (by omega)]);(refine ⟨by rw [← hy]; exact hqq, fun j hj => hall j (by omega) (by omega)⟩)
     omega
    (rw [e]);rfl
   | false =>
    (rw [hq] at hcall);(have HQ := Aside0.mk hq);clear hq;(go_wp2_with (go_at_fn gg; refine hcall.mono ?_; rintro e w' ⟨rfl, hb'⟩));(go_roundg (l0.length - (x5.toNat + 1)))
    case measure => omega
    case rel =>
     (refine ⟨x5 + 1, zq47, by omega, by omega, by omega, ⟨hb'⟩, ⟨fun j h hj => ?_⟩⟩);(by_cases ee : (j : Int) = x5)
     ·have hy := HY.out
      (have hqq := HQ.out);(rw [hy] at hqq);(have : j = x5.toNat := by omega);subst this;(exact hqq)
     ·exact AA.out j h (by omega)
  ·have c4b0 : decide (x5 < (l0.length : Int)) = false := decide_eq_false hlt
   (go_wp2);(go_ret);(refine ⟨?_, BW.out⟩)
   have e : idxI64_v p l0 = -1 := by
    (unfold idxI64_v);(rw [if_neg]);intro h;(obtain ⟨x, hx, hpx⟩ := List.any_eq_true.1 h);(obtain ⟨j, hj, rfl⟩ := List.getElem_of_mem hx);(have := AA.out j hj (by omega));(rw [hpx] at this)
    cases this
   (rw [e]);rfl
theorem idxI64_nonneg (p : Int → Bool) (l : List Int) : decide (0 ≤ idxI64_v p l) = l.any p := by
 unfold idxI64_v
 cases h : l.any p
 ·simp
 ·simp

theorem linesAt_some (m : List S39) (hm : m.length ≤ 9223372036854775807) (x : Int) (d : Nat) : ∀ (v : Int) (i : Nat), i ≤ m.length → m.length - i = d → ∃ r, impl_linesAt.l0 (d + 1) x v m m.length i = some r := by
 induction d with
 | zero =>
  intro v i hi hd;(exact ⟨v, by simp only [impl_linesAt.l0, if_neg (show ¬ (i : Int) < (m.length : Int) by omega)]⟩)
 | succ d ih =>
  intro v i hi hd;(have hw : wrap64 ((i : Int) + 1) = ((i + 1 : Nat) : Int) := by unfold wrap64; omega);(rw [impl_linesAt.l0]);(simp only [if_pos (show (i : Int) < (m.length : Int) by omega), if_pos (show (0 : Int) ≤ (i : Int) by omega), hw])
  split
  ·exact ih _ (i + 1) (by omega) (by omega)
  ·split
   ·exact ih _ (i + 1) (by omega) (by omega)
   ·exact ih _ (i + 1) (by omega) (by omega)
def linesV (m : List S39) (x : Int) : Int := (impl_linesAt.f (m.length + 1) m x).getD 0
theorem linesV_eq (m : List S39) (hm : m.length ≤ 9223372036854775807) (x : Int) : impl_linesAt.f (m.length + 1) m x = some (linesV m x) := by
 (obtain ⟨r, hr⟩ := linesAt_some m hm x m.length 0 0 (by omega) (by omega));(have h : impl_linesAt.f (m.length + 1) m x = some r := hr);(unfold linesV);(rw [h]);rfl
def endsBad (m : List S39) (x : Int) : Bool := linesV m x != 1
theorem endsBad_calls (m : List S39) (Al : Option Addr) (cl : Nat) (box : Addr) (w1 W : World) (x : Int) (hc : w1.cell? box = some (.slice Al m.length cl)) (hr : Kd.C k39 w1 Al m.length m) (hcl : m.length ≤ cl) (hB : Below w1.heap.size w1 W) :
  Calls Tryz.prog 35 (#[.int .i64 x] ++ #[.pointer (some box)]) W fun e w' => e = .returned (.bool (endsBad m x)) ∧ Below W.heap.size W w' := by
 (have hc2 : W.cell? box = some (.slice Al m.length cl) := (hB.cell (World.block_lt_of_cell? w1 _ hc)).trans hc);(have hv := impl_linesAt.calls (m.length + 1) Al cl m x (linesV m x) W (Kd.C_below hr hB) hcl (linesV_eq m (Kd.C_max hr) x));(unfold endsBad);(generalize linesV m x = v at hv ⊢);clear hB hc hr
 show Calls Tryz.prog 35 #[.int .i64 x, .pointer (some box)] W _
 go_enter Tryz.func35, Tryz.ntmps35
 (go_wp2_with (go_at_call 30; refine hv.mono ?_; rintro e w' ⟨rfl, hb⟩));(go_ret);(exact ⟨by first | rfl | simp, hb⟩)
theorem ends_idx (p : Int → Bool) (gg : Nat) (lb : Array Value) (eg : ∀ args w, (callFunc gg args).run Tryz.prog w = .ok (.enter gg args) w) (A0 : Option Addr) (c0 : Nat) (d : List Int) (w1 w : World) (hB : Below w1.heap.size w1 w) (hr : Kd.C (Kd.int .i64) w A0 d.length d)
  (hp : ∀ (W : World) (x : Int), Below w1.heap.size w1 W → Calls Tryz.prog gg (#[.int .i64 x] ++ lb) W fun e w' => e = .returned (.bool (p x)) ∧ Below W.heap.size W w') :
  Calls Tryz.prog 49 #[.slice A0 d.length c0, .func (.func gg) #[] lb] w fun e w' => e = .returned (.int .i64 (idxI64_v p d)) ∧ Below w.heap.size w w' :=
 idxI64_calls p gg lb eg A0 c0 d w hr (fun W x hb => (hp W x (below_step hB hb)).mono (fun e w' h => ⟨h.1, below_step hb h.2⟩))
theorem del_none (p : Int → Bool) (gg : Nat) (lb : Array Value) (eg : ∀ args w, (callFunc gg args).run Tryz.prog w = .ok (.enter gg args) w) (A0 : Option Addr) (c0 : Nat) (d : List Int) (w1 w : World) (hB : Below w1.heap.size w1 w) (hr : Kd.C (Kd.int .i64) w A0 d.length d)
  (hp : ∀ (W : World) (x : Int), Below w1.heap.size w1 W → Calls Tryz.prog gg (#[.int .i64 x] ++ lb) W fun e w' => e = .returned (.bool (p x)) ∧ Below W.heap.size W w') (hn : d.any p = false) :
  Calls Tryz.prog 34 #[.slice A0 d.length c0, .func (.func gg) #[] lb] w fun e w' => e = .returned (.slice A0 d.length c0) ∧ Below w.heap.size w w' := by
 (have hI := ends_idx p gg lb eg A0 c0 d w1 w hB hr hp);(rw [show idxI64_v p d = -1 by unfold idxI64_v; rw [hn]; rfl] at hI);clear hp hr hB
 go_enter Tryz.func34, Tryz.ntmps34
 (go_wp2_with (go_at_call 49; refine hI.mono ?_; rintro e w' ⟨rfl, hb⟩));(go_ret);(exact ⟨rfl, hb⟩)
/-- The row in block g, element by element. -/
def rowAt (w : World) (g cap : Nat) (dk : Array Int) : Prop := ∃ cur : Array Value, w.heap[g]? = some (.cells cur 2 (0, 0)) ∧ cur.size = cap * 1 ∧ ∀ j, j < dk.size → cur[j]? = some (.int .i64 dk[j]!)
theorem below_cells (w : World) (g : Nat) (hg : w.heap.size ≤ g) : ∀ (vs : List Value) (o : Nat) (W : World), Below w.heap.size w W → Below w.heap.size w (W.setCells g o vs)
 | [], _, _, h => h
 | v :: r, o, _, h => below_cells w g hg r (o + 1) _ (below_set h hg)
theorem row_setCells (g : Nat) : ∀ (vs : List Value) (o : Nat) (w : World) (cur : Array Value), w.heap[g]? = some (.cells cur 2 (0, 0)) → ∃ cur', (w.setCells g o vs).heap[g]? = some (.cells cur' 2 (0, 0)) ∧ cur'.size = cur.size ∧ ∀ j, j < o → cur'[j]? = cur[j]?
 | [], o, w, cur, h => ⟨cur, h, rfl, fun _ _ => rfl⟩
 | v :: vs, o, w, cur, h => by
  (obtain ⟨cur', h1, h2, h3⟩ := row_setCells g vs (o + 1) (w.setCell ⟨g, o, none⟩ v) (cur.setIfInBounds o v) (blk_put h o v rfl));(refine ⟨cur', h1, by rw [h2, Array.size_setIfInBounds], fun j hj => ?_⟩);(rw [h3 j (by omega), Array.getElem?_setIfInBounds_ne (by omega)])
theorem del_calls (p : Int → Bool) (gg : Nat) (lb : Array Value) (eg : ∀ args w, (callFunc gg args).run Tryz.prog w = .ok (.enter gg args) w) (w1 : World) (g off cap : Nat) (hoff : off = 0) (d : Array Int) (w : World) (hB : Below w1.heap.size w1 w) (hg : w1.heap.size ≤ g) (hd : d.size ≤ 1000000) (hcap : d.size ≤ cap)
  (hrow : rowAt w g cap d) (hr : Kd.C (Kd.int .i64) w (some ⟨g, off, none⟩) d.toList.length d.toList)
  (hp : ∀ (W : World) (x : Int), Below w1.heap.size w1 W → Calls Tryz.prog gg (#[.int .i64 x] ++ lb) W fun e w' => e = .returned (.bool (p x)) ∧ Below W.heap.size W w') (hn : d.toList.any p = true) :
  Calls Tryz.prog 34 #[.slice (some ⟨g, off, none⟩) d.size cap, .func (.func gg) #[] lb] w fun e w' => e = .returned (.slice (some ⟨g, off, none⟩) (d.toList.filter fun x => !p x).length cap) ∧ (∃ cur : Array Value, w'.heap[g]? = some (.cells cur 2 (0, 0)) ∧ cur.size = cap * 1 ∧ cur.toList.take (d.toList.filter fun x => !p x).length = (d.toList.filter fun x => !p x).map (Value.int .i64)) ∧ Below w1.heap.size w1 w' := by
 (have hI := ends_idx p gg lb eg (some ⟨g, off, none⟩) cap d.toList w1 w hB hr hp);(rw [Array.length_toList] at hI);(obtain ⟨xx, hxx, hpx⟩ := List.any_eq_true.1 hn);(have hk0 : d.toList.findIdx p < d.toList.length := List.findIdx_lt_length_of_exists ⟨xx, hxx, hpx⟩);(rw [show idxI64_v p d.toList = ((d.toList.findIdx p : Nat) : Int) by unfold idxI64_v; rw [hn]; rfl] at hI);(obtain ⟨kp, HK⟩ : ∃ kp : Nat → Bool, Aside0 (kp = fun j => !p d[j]!) := ⟨_, ⟨rfl⟩⟩);(have hfil : (d.toList.filter fun x => !p x) = Go.Lib.keptUpTo kp d d.size := by rw [HK.out]; exact (Go.Lib.keptUpTo_filter (fun x => !p x) d).symm);(rw [hfil]);(have tl : ∀ j (hj : j < d.size), d[j]! = d.toList[j]'(by simpa using hj) := fun j hj => by rw [getElem!_pos d j hj]; simp);(have hk1 : d.toList.findIdx p < d.size := by simpa using hk0)
 have hkeep : ∀ j, j < d.toList.findIdx p → kp j = true := fun j hj => by
  rw [HK.out]
  show (!p d[j]!) = true
  (rw [tl j (by omega)]);(have := List.not_of_lt_findIdx hj)
  simpa using this
 have hdrop : kp (d.toList.findIdx p) = false := by
  rw [HK.out]
  show (!p d[d.toList.findIdx p]!) = false
  (rw [tl _ hk1, List.findIdx_getElem (w := hk0)]);rfl
 (have hstart := Go.Lib.KeptInv.start (d := d) hkeep hdrop);(generalize d.toList.findIdx p = k0 at hI hstart hk1);(have hne1 : ((k0 : Int) == -1) = false := beq_eq_false_iff_ne.2 (by omega));(have HS := Aside0.mk hstart);(have HO := Aside0.mk hoff);clear hoff;(have HB := Aside0.mk hB);(have HP := Aside0.mk hp);(have HR := Aside0.mk hrow);(have HG := Aside0.mk hg);clear hstart hB hp hrow hr hkeep hdrop tl hk0 hn hfil hxx hpx hg
 go_enter Tryz.func34, Tryz.ntmps34
 go_wp2_with (go_at_call 49; refine hI.mono ?_; rintro e w2 ⟨rfl, hb⟩; have HB2 := Aside0.mk (below_step HB.out hb); have HR2 : Aside0 (rowAt w2 g cap d) := ⟨(by obtain ⟨cur, q1, q2, q3⟩ := HR.out; exact ⟨cur, blk_below q1 hb, q2, q3⟩)⟩; clear hb HB HR)
 go_loopg [5, 6, 7] d.size (fun gk s5 s6 _ wr => ∃ (i j : Nat) (dk : Array Int), s5 = .int .i64 i ∧ s6 = .int .i64 j ∧ j ≤ d.size ∧ d.size - j ≤ gk ∧ Aside0 (Below w1.heap.size w1 wr) ∧ Aside0 (rowAt wr g cap dk) ∧ Aside0 (Go.Lib.KeptInv kp d j i dk))
 case atStart => exact ⟨k0, k0 + 1, d, rfl, zq47, by omega, by omega, HB2, HR2, HS⟩
 case round =>
  (obtain ⟨i, j, dk, rfl, rfl, hjd, hgg, HBW, HRW, HI⟩ := hrel);(have hij := HI.out.lt);(have hds := HI.out.size);(obtain ⟨cur, hh, hsz, hat⟩ := HRW.out);(have HH := Aside0.mk hh);(by_cases hlt : j < d.size)
  ·have hltz : (j : Int) < (d.size : Int) := by omega
   (have c19 : decide ((j : Int) < (d.size : Int)) = true := decide_eq_true hltz);(have hj! : dk[j]! = d[j]! := HI.out.high j (by omega));(have cj : wr.cell? ⟨g, off + j, none⟩ = some (.int .i64 d[j]!) := by rw [blk_cell hh, HO.out, Nat.zero_add, hat j (by omega), hj!]);(have hcall := HP.out wr d[j]! HBW.out);(have HD := Aside0.mk hat);(have HZ := Aside0.mk hsz);(clear hat hh hj! hsz);(generalize hu : d[j]! = u at cj hcall);(have HU := Aside0.mk hu);clear hu
   cases hq : p u with
   | false =>
    (rw [hq] at hcall);(have HQ := Aside0.mk hq);clear hq;(go_wp2_with (go_at_fn gg; refine hcall.mono ?_; rintro e w3 ⟨rfl, hb⟩; have HB3 := Aside0.mk (below_step HBW.out hb); have HH3 := Aside0.mk (blk_below HH.out hb); have ci : w3.cell? ⟨g, off + i, none⟩ = some (.int .i64 dk[i]!) := (by rw [blk_cell HH3.out, HO.out, Nat.zero_add, HD.out i (by omega)]); have fi : w3.frozen? ⟨g, off + i, none⟩ = false := blk_frozen HH3.out _; clear hb));(go_roundg (d.size - (j + 1)))
    case measure => omega
    case rel =>
     refine ⟨i + 1, j + 1, dk.setIfInBounds i u, zq47, zq47, by omega, Nat.le_refl _, ⟨below_set HB3.out HG.out⟩, ⟨⟨_, blk_put HH3.out (off + i) _ rfl, by rw [Array.size_setIfInBounds]; exact HZ.out, fun t ht => ?_⟩⟩, ⟨?_⟩⟩
     ·rw [Array.size_setIfInBounds] at ht
      (rw [HO.out, Nat.zero_add]);(by_cases e : i = t)
      ·subst e
       (have hci : i < cur.size := by rw [HZ.out]; omega);(rw [Array.getElem?_setIfInBounds_self_of_lt hci, getElem!_pos (dk.setIfInBounds i u) i (by rw [Array.size_setIfInBounds]; exact ht), Array.getElem_setIfInBounds_self])
      ·rw [Array.getElem?_setIfInBounds_ne e, HD.out t ht, getElem!_pos (dk.setIfInBounds i u) t (by rw [Array.size_setIfInBounds]; exact ht), Array.getElem_setIfInBounds_ne ht e, getElem!_pos dk t ht]
     ·have h2 := HI.out.keep hlt (by rw [HK.out]; show (!p d[j]!) = true; rw [HU.out, HQ.out]; rfl)
      rwa [HU.out] at h2
   | true =>
    (rw [hq] at hcall);(have HQ := Aside0.mk hq);clear hq;(go_wp2_with (go_at_fn gg; refine hcall.mono ?_; rintro e w3 ⟨rfl, hb⟩; have HB3 := Aside0.mk (below_step HBW.out hb); have HH3 := Aside0.mk (blk_below HH.out hb); clear hb));(go_roundg (d.size - (j + 1)))
    case measure => omega
    case rel => exact ⟨i, j + 1, dk, rfl, zq47, by omega, Nat.le_refl _, HB3, ⟨⟨cur, HH3.out, HZ.out, HD.out⟩⟩, ⟨HI.out.skip (by rw [HK.out]; show (!p d[j]!) = false; rw [HU.out, HQ.out]; rfl)⟩⟩
  ·obtain rfl : j = d.size := by omega
   (have c19 : decide ((d.size : Int) < (d.size : Int)) = false := decide_eq_false (by omega));(have hltz : ¬ (d.size : Int) < (d.size : Int) := by omega)
   have hcl : ∀ ty, (Builtin.clear_ #[34] ty #[.slice (some ⟨g, off + i, none⟩) (d.size - i) (cap - i)]).run Tryz.prog wr = .ok (.tuple #[]) (wr.setCells g (off + i) (List.replicate (d.size - i) (.int .i64 0))) :=
    fun ty => Go.Lib.run_clear_slice wr _ _ ty _ Tryz.underlying34 (fun w => Tryz.zeroValue2 w) rfl rfl g (off + i) _ _ (by omega) (fun t ht => by rw [show off + i + t = i + t by have := HO.out; omega, blk_cell hh, hat (i + t) (by omega)]; rfl) (fun t ht => blk_frozen hh _)
   (have HD := Aside0.mk hat);(have HZ := Aside0.mk hsz);clear hat hsz hh;(go_wp2);(go_ret);(obtain ⟨cur', q1, q2, q3⟩ := row_setCells g (List.replicate (d.size - i) (.int .i64 0)) (off + i) wr cur HH.out);(refine ⟨by rw [HI.out.len]; rfl, ⟨cur', q1, by rw [q2]; have h := HZ.out; omega, ?_⟩, below_cells _ g HG.out _ _ _ HBW.out⟩)
   apply List.ext_getElem?
   intro t;(rw [HI.out.len])
   rcases Nat.lt_or_ge t i with ht | ht
   ·rw [List.getElem?_take_of_lt ht, Array.getElem?_toList, q3 t (by have := HO.out; omega), HD.out t (by omega), List.getElem?_map, HI.out.low t ht]
    rfl
   ·rw [List.getElem?_take_eq_none (by omega), List.getElem?_eq_none (by rw [List.length_map, HI.out.len]; exact ht)]
def impl_EndsOfFigure.f (k : Nat) (l0 : List S53) (l1 : List S39) : Option (List Int × Int) := (impl_ValidFigure.f k l0 l1).bind fun t => (if t = true then ((impl_starsOf.f k l1).bind fun s => (if s.length ≤ 1000000 then some (s.filter (fun x => !endsBad l1 x), 0) else none)) else (some (([] : List Int), 1)))
theorem impl_EndsOfFigure.mono : ∀ a0 a1 k, LeO (impl_EndsOfFigure.f k a0 a1) (impl_EndsOfFigure.f (k + 1) a0 a1) := by
 intro a0 a1 k;(unfold impl_EndsOfFigure.f)
 repeat' first
   | exact impl_ValidFigure.mono _ _ _
   | exact impl_starsOf.mono _ _
   | (with_reducible exact LeO.refl _)
   | (with_reducible refine LeO.ite ?_ ?_)
   | (with_reducible refine LeO.bind ?_ (fun _ => ?_))
   | exact LeO.refl _
   | refine LeO.ite ?_ ?_
   | refine LeO.bind ?_ (fun _ => ?_)
theorem ends_del (m : List S39) (Al : Option Addr) (cl : Nat) (box : Addr) (w1 w : World) (v : Value) (s : List Int) (hs : s.length ≤ 1000000) (hc : w1.cell? box = some (.slice Al m.length cl)) (hr : Kd.C k39 w1 Al m.length m) (hcl : m.length ≤ cl) (hB : Below w1.heap.size w1 w) (hR : Kd.R (Kd.int .i64) 2 w w1.heap.size (fun _ => True) v s) :
  Calls Tryz.prog 34 #[v, .func (.func 35) #[] #[.pointer (some box)]] w fun e w' => ∃ v0, e = .returned v0 ∧ Kd.R (Kd.int .i64) 2 w' w1.heap.size (fun _ => True) v0 (s.filter (fun x => !endsBad m x)) ∧ Below w1.heap.size w1 w' := by
 (have hp := fun (W : World) (x : Int) (hb : Below w1.heap.size w1 W) => endsBad_calls m Al cl box w1 W x hc hr hcl hb);(have eg : ∀ args w, (callFunc 35 args).run Tryz.prog w = .ok (.enter 35 args) w := enters_of Tryz.func35 (by kernel_rfl) rfl)
 cases ha : s.any (endsBad m) with
 | false =>
  (obtain ⟨A1, c1, rfl⟩ := Kd.R_slice hR);(refine (del_none (endsBad m) 35 #[.pointer (some box)] eg A1 c1 s w1 w hB (Kd.R_reads' hR).2.2 hp ha).mono ?_);(rintro e w' ⟨rfl, hb⟩)
  have hf : s.filter (fun x => !endsBad m x) = s := by
   (rw [List.filter_eq_self]);intro x hx;(have := List.any_eq_false.1 ha x hx)
   simpa using this
  exact ⟨_, rfl, by rw [hf]; exact Kd.R_below hR hb, below_step hB hb⟩
 | true =>
  have hpos : 0 < s.length := by
   cases s with
   | nil => simp at ha
   | cons a s => simp
  (obtain ⟨g, cap, rfl, hgb, hgl, cells, hcell⟩ := Kd.R_form hR hpos);(have ho := Kd.own_of_R (enc := Value.int .i64) (h1 := fun _ => rfl) hR)
  rcases ho.2 with ⟨h0, _⟩ | ⟨g', cap', cur, hv, hgb2, hh, hn, hcap, hsz, ht⟩
  ·cases h0
  cases hv
  have ht' : cur.toList.take s.length = s.map (Value.int .i64) := by simpa [encs] using ht
  have hrow : rowAt w g cap s.toArray := ⟨cur, hh, hsz, fun j hj => by
   (have hj' : j < s.length := by simpa using hj);(have e1 : (cur.toList.take s.length)[j]? = (s.map (Value.int .i64))[j]? := by rw [ht']);(rw [List.getElem?_take_of_lt hj', Array.getElem?_toList, List.getElem?_map, List.getElem?_eq_getElem hj'] at e1);(rw [e1, getElem!_pos s.toArray j hj])
   simp⟩
  (have h := del_calls (endsBad m) 35 #[.pointer (some box)] eg w1 g 0 cap rfl s.toArray w hB hgb (by simpa using hs) (by simpa using hn) hrow (by simpa using (Kd.R_reads' hR).2.2) hp (by simpa using ha));(rw [show s.toArray.size = s.length by simp, show s.toArray.toList = s by simp] at h);(refine h.mono ?_);(rintro e w' ⟨rfl, ⟨cur', q1, q2, q3⟩, hb⟩);(have hfl : (s.filter (fun x => !endsBad m x)).length ≤ s.length := List.length_filter_le _ _);(exact ⟨_, rfl, Kd.R_of_own (enc := Value.int .i64) (h1 := fun _ => rfl) ⟨by simp [encs], .inr ⟨g, cap, cur', rfl, hgb, q1, by omega, hcap, q2, by simpa [encs] using q3⟩⟩ (fun _ _ => trivial), hb⟩)
theorem impl_EndsOfFigure.calls (k : Nat) (A0 : Option Addr) (c0 : Nat) (l0 : List S53) (A1 : Option Addr) (c1 : Nat) (l1 : List S39) (r1 : List Int) (r2 : Int) (w : World) (hr0 : Kd.C k53 w A0 l0.length l0) (hc0 : l0.length ≤ c0) (hr1 : Kd.C k39 w A1 l1.length l1) (hc1 : l1.length ≤ c1) (h : impl_EndsOfFigure.f k l0 l1 = some (r1, r2)) :
  Calls Tryz.prog 13 #[.slice A0 l0.length c0, .slice A1 l1.length c1] w fun e w' => ∃ v0_ : Value, e = .returned (.tuple #[v0_, .int .i64 r2]) ∧ Kd.R (Kd.int .i64) 2 w' w.heap.size (fun _ => True) v0_ r1 ∧ Below w.heap.size w w' := by
 (unfold impl_EndsOfFigure.f at h);(obtain ⟨t, e1, h⟩ := Option.bind_eq_some_iff.1 h);(have E1 := Aside0.mk e1);(have HR0 := Aside0.mk hr0);(have HC0 := Aside0.mk hc0);(have HR1 := Aside0.mk hr1);(have HC1 := Aside0.mk hc1);(have HB := Aside0.mk (Below.refl w.heap.size w));clear e1 hr0 hc0 hr1 hc1
 cases t with
 | false =>
  (have h2 : (some (([] : List Int), (1 : Int))) = some (r1, r2) := h);(obtain ⟨rfl, rfl⟩ := Prod.mk.inj (Option.some.inj h2));clear h h2
  go_enter Tryz.func13, Tryz.ntmps13
  (go_wp2_with (first | ((with_reducible refine gate_dst (N := 3) rfl ?_); refine box_event ?hg (N := 3) ?hd (cs := #[.slice A1 l1.length c1]) (t := 25) ?hr ?_; (case hd => rfl); (case hg => rfl); (case hr => first | (go_simp; done) | (go_simp; rfl)); intro gb hg w1 hbox hb; have n0_ := Aside0.mk (below_step HB.out hb); have n1_ := Aside0.mk (hbox); have hcz : w1.cell? ⟨gb, 0, none⟩ = some (.slice A1 l1.length c1) := ((blk_cell hbox 0).trans rfl); clear HB; have HB := n0_; have BK := n1_; clear n0_ n1_; clear hb hbox hg) | (go_at_call 24; refine (impl_ValidFigure.calls k _ _ l0 _ _ l1 false _ (Kd.C_below HR0.out HB.out) HC0.out (Kd.C_below HR1.out HB.out) HC1.out E1.out).mono ?_; rintro e w2 ⟨rfl, hb⟩; have n_ := Aside0.mk (below_step HB.out hb); clear HB; have HB := n_; clear n_ hb)));(go_ret2);(exact ⟨_, rfl, Kd.R_nil _ _ _ _ _, HB.out⟩)
 | true =>
  (obtain ⟨s, e2, h⟩ := Option.bind_eq_some_iff.1 (show ((impl_starsOf.f k l1).bind fun s => (if s.length ≤ 1000000 then some (s.filter (fun x => !endsBad l1 x), (0 : Int)) else none)) = some (r1, r2) from h));(have E2 := Aside0.mk e2);clear e2;(by_cases hs : s.length ≤ 1000000)
  ·rw [if_pos hs] at h
   (obtain ⟨rfl, rfl⟩ := Prod.mk.inj (Option.some.inj h));clear h
   go_enter Tryz.func13, Tryz.ntmps13
   (go_wp2_with (first | ((with_reducible refine gate_dst (N := 3) rfl ?_); refine box_event ?hg (N := 3) ?hd (cs := #[.slice A1 l1.length c1]) (t := 25) ?hr ?_; (case hd => rfl); (case hg => rfl); (case hr => first | (go_simp; done) | (go_simp; rfl)); intro gb hg w1 hbox hb; have n0_ := Aside0.mk (below_step HB.out hb); have n1_ := Aside0.mk (hbox); have hcz : w1.cell? ⟨gb, 0, none⟩ = some (.slice A1 l1.length c1) := ((blk_cell hbox 0).trans rfl); clear HB; have HB := n0_; have BK := n1_; clear n0_ n1_; clear hb hbox hg) | (go_at_call 24; refine (impl_ValidFigure.calls k _ _ l0 _ _ l1 true _ (Kd.C_below HR0.out HB.out) HC0.out (Kd.C_below HR1.out HB.out) HC1.out E1.out).mono ?_; rintro e w2 ⟨rfl, hb⟩; have HW2 := Aside0.mk (below_step HB.out hb); have hc2 : w2.cell? ⟨gb, 0, none⟩ = some (.slice A1 l1.length c1) := ((blk_cell (blk_below BK.out hb) 0).trans rfl); clear hb) | (go_at_call 29; refine (impl_starsOf.calls k _ _ l1 s _ (Kd.C_below HR1.out HW2.out) HC1.out E2.out).mono ?_; rintro e w3 ⟨v3, rfl, hR3, hb3⟩; have HR3 := Aside0.mk hR3; have HB3 := Aside0.mk hb3; clear hR3 hb3) | (go_at_call 34; refine (ends_del l1 A1 c1 ⟨gb, 0, none⟩ w2 w3 v3 s hs hc2 (Kd.C_below HR1.out HW2.out) HC1.out HB3.out HR3.out).mono ?_; rintro e w4 ⟨v4, rfl, hR4, hb4⟩; have HR4 := Aside0.mk hR4; have HB4 := Aside0.mk hb4; clear hR4 hb4)));(go_ret2);(exact ⟨_, rfl, Kd.R_lower HR4.out HW2.out.size, below_step HW2.out HB4.out⟩)
  ·rw [if_neg hs] at h
   cases h


/-! ### spec_EndsOfFigure: function 14 -/
def spec_EndsOfFigure.l0 : Nat → List Int → List Int → Int → Option (List Int × Int)
 | 0, _, _, _ => none
 | k + 1, x6, x7, x8 => if x8 < (x6.length : Int) then (if 0 ≤ x8 then (if (rd x6 x8) = 1 then (if x7.length < 17592186044416 then (spec_EndsOfFigure.l0 k x6 (x7 ++ [x8]) (wrap64 (x8 + 1))) else (none)) else (spec_EndsOfFigure.l0 k x6 x7 (wrap64 (x8 + 1)))) else (none)) else (some (x7, 0))
def spec_EndsOfFigure.f (k : Nat) (l0 : List (S53)) (l1 : List (S39)) : Option (List Int × Int) := (spec_l16Figure.f k l0 l1).bind fun t491 => (if t491 = true then ((spec_l16Lines.f k l0 l1).bind fun t492 => (spec_EndsOfFigure.l0 k t492 (([] : List Int)) 0)) else (some (([] : List Int), 1)))
theorem spec_EndsOfFigure.mono_l : ∀ k, (∀ y0 y1 y2, LeO (spec_EndsOfFigure.l0 k y0 y1 y2) (spec_EndsOfFigure.l0 (k + 1) y0 y1 y2))
 | 0 => fun _ _ _ r h => by simp [spec_EndsOfFigure.l0] at h
 | k + 1 => by
  have ih0 := spec_EndsOfFigure.mono_l k
  ·intro y0 y1 y2
   unfold spec_EndsOfFigure.l0
   repeat' first | with_reducible (first | exact ih0 _ _ _ | exact spec_l16Figure.mono _ _ _ | exact spec_l16Lines.mono _ _ _ | exact LeO.refl _ | exact LeO.none _ | refine LeO.ite ?_ ?_ | refine LeO.bind ?_ (fun _ => ?_)) | exact ih0 _ _ _ | exact spec_l16Figure.mono _ _ _ | exact spec_l16Lines.mono _ _ _ | exact LeO.none _ | refine LeO.ite ?_ ?_ | refine LeO.bind ?_ (fun _ => ?_)
theorem spec_EndsOfFigure.mono : ∀ a0 a1 k, LeO (spec_EndsOfFigure.f k a0 a1) (spec_EndsOfFigure.f (k + 1) a0 a1) := by
 intro a0 a1 k;(have ih0 := spec_EndsOfFigure.mono_l k);(unfold spec_EndsOfFigure.f)
 repeat' first | with_reducible (first | exact ih0 _ _ _ | exact spec_l16Figure.mono _ _ _ | exact spec_l16Lines.mono _ _ _ | exact LeO.refl _ | exact LeO.none _ | refine LeO.ite ?_ ?_ | refine LeO.bind ?_ (fun _ => ?_)) | exact ih0 _ _ _ | exact spec_l16Figure.mono _ _ _ | exact spec_l16Lines.mono _ _ _ | exact LeO.none _ | refine LeO.ite ?_ ?_ | refine LeO.bind ?_ (fun _ => ?_)
theorem spec_EndsOfFigure.calls (k : Nat) (A0 : Option Addr) (c0 : Nat) (l0 : List (S53)) (A1 : Option Addr) (c1 : Nat) (l1 : List (S39)) (r1 : List Int) (r2 : Int) (w : World) (hr0 : Kd.C k53 w A0 l0.length l0) (hc0 : l0.length ≤ c0) (hr1 : Kd.C k39 w A1 l1.length l1) (hc1 : l1.length ≤ c1) (h : spec_EndsOfFigure.f k l0 l1 = some (r1, r2)) :
  Calls Tryz.prog 14 #[.slice A0 l0.length c0, .slice A1 l1.length c1] w fun e w' => ∃ v0_ : Value, e = .returned (.tuple #[v0_, .int .i64 r2]) ∧ Kd.R (Kd.int .i64) 2 w' w.heap.size (fun _ => True) v0_ r1 ∧ Below w.heap.size w w' := by
 (have HR0 := Aside0.mk hr0);(have HC0 := Aside0.mk hc0);clear hr0 hc0;(have HR1 := Aside0.mk hr1);(have HC1 := Aside0.mk hc1);clear hr1 hc1;(have HB := Aside0.mk (Below.refl w.heap.size w));(have H : ((spec_l16Figure.f k l0 l1).bind fun t491 => (if t491 = true then ((spec_l16Lines.f k l0 l1).bind fun t492 => (spec_EndsOfFigure.l0 k t492 (([] : List Int)) 0)) else (some (([] : List Int), 1)))) = some (r1, r2) := h);clear h;(replace H := Option.bind_eq_some_iff.mp H);(obtain ⟨t491, A30, H⟩ := H);(replace H : (if t491 = true then ((spec_l16Lines.f k l0 l1).bind fun t492 => (spec_EndsOfFigure.l0 k t492 (([] : List Int)) 0)) else (some (([] : List Int), 1))) = some (r1, r2) := H);(have A3 := Aside0.mk A30);clear A30;(by_cases c4 : t491 = true)
 ·subst c4
  (have H1 : ((spec_l16Lines.f k l0 l1).bind fun t492 => (spec_EndsOfFigure.l0 k t492 (([] : List Int)) 0)) = some (r1, r2) := zq118);clear H;(have H := H1);clear H1;(replace H := Option.bind_eq_some_iff.mp H);(obtain ⟨t492, A50, H⟩ := H);(replace H : (spec_EndsOfFigure.l0 k t492 (([] : List Int)) 0) = some (r1, r2) := H);(have A5 := Aside0.mk A50);clear A50;(obtain ⟨y495, hy_⟩ : ∃ y_ : List Int, y_ = (([] : List Int)) := ⟨_, rfl⟩);(replace H : (spec_EndsOfFigure.l0 k t492 y495 0) = some (r1, r2) := zq38);(have Ny495 := Aside0.mk hy_);clear hy_;(have H' := Aside0.mk H);clear H
  go_enter Tryz.func14, Tryz.ntmps14
  go_wp2_with (first | ((with_reducible refine gate_callee (f := 26) rfl ?_); refine goesL_ (some 11) rfl rfl Tryz.func26 (by kernel_rfl) rfl #[.slice A0 l0.length c0, .slice A1 l1.length c1] rfl zq0 ?_; (with_reducible refine (spec_l16Figure.calls k _ _ l0 _ _ l1 true _ ?side1 ?side2 ?side3 ?side4 A3.out).mono ?_); (case side1 => exact zq109); (case side2 => exact HC0.out); (case side3 => exact zq110); (case side4 => exact HC1.out); rintro e w6 ⟨rfl, hb⟩; refine ⟨_, rfl, ?_⟩; have n0_ := Aside0.mk (below_step zq79 hb); clear HB; have HB := n0_; clear n0_; (try clear hb); (try clear hb2); (try clear hk); (try clear hi)) | ((with_reducible refine gate_callee (f := 32) rfl ?_); refine goesL_ (some 15) rfl rfl Tryz.func32 (by kernel_rfl) rfl #[.slice A0 l0.length c0, .slice A1 l1.length c1] rfl zq0 ?_; (with_reducible refine (spec_l16Lines.calls k _ _ l0 _ _ l1 t492 _ ?side1 ?side2 ?side3 ?side4 A5.out).mono ?_); (case side1 => exact zq93); (case side2 => exact HC0.out); (case side3 => exact zq94); (case side4 => exact HC1.out); rintro e w7 ⟨v493, rfl, ho0, hb⟩; refine ⟨_, rfl, ?_⟩; have n0_ := Aside0.mk (Kd.R_lower ho0 (below_size zq79)); have n1_ := Aside0.mk (below_step zq79 hb); clear HB; have HO494 := n0_; have HB := n1_; clear n0_ n1_; (try clear hb); (try clear hb2); (try clear hk); (try clear hi); (try clear ho0)) | ((with_reducible refine gate_dst (N := 16) rfl ?_); refine Kd.R_lit (Kd.int .i64) _ 2 ?hg (N := 16) ?hd (xs := ([] : List Int)) (inner := []) (ok := fun _ => True) (okp := fun _ => True) ?hr ?hp (fun _ hk => hk) trivial (Below.refl _ _) (Nat.le_refl _) (by simp) ?_; (case hd => rfl); (case hg => rfl); (case hr => first | (go_simp; done) | (go_simp; rfl)); (case hp => exact (Reps.none _ _)); intro v496 w8 ho9 hb hg_ hnew_; clear hg_ hnew_; (first | rw [← Ny495.out] at ho9 | (simp only [Int.reduceToNat] at ho9; rw [← Ny495.out] at ho9)); have n0_ := Aside0.mk (Kd.R_elder' (zR HO494.out) (Kd.R_base ho9) hb); have n1_ := Aside0.mk (Kd.R_lower (Kd.R_new' ho9 (Kd.R_lt (zR HO494.out))) (below_size zq79)); have n2_ := Aside0.mk (below_step zq79 hb); clear HO494; clear HB; have HO494 := n0_; have HO497 := n1_; have HB := n2_; clear n0_ n1_ n2_; clear hb ho9))
  go_loopg [7, 8] k (fun kq v7 v8 w' => ∃ (x7_1 : List Int) (x8_1 : Int), v8 = .int .i64 x8_1 ∧ Aside0 (spec_EndsOfFigure.l0 kq t492 x7_1 x8_1 = some (r1, r2)) ∧ Aside0 (kq ≤ k) ∧ Aside0 (Kd.R (Kd.int .i64) 2 w' w.heap.size (fun k_ => some k_ ≠ (v7 : Value).ownBlock) v493 t492) ∧ Aside0 (Kd.R (Kd.int .i64) 2 w' w.heap.size (fun k_ => some k_ ≠ (v493 : Value).ownBlock) v7 x7_1) ∧ Aside0 (Below w.heap.size w w'))
  case atStart => exact ⟨(y495), (0), zq46, H', ⟨Nat.le_refl _⟩, ⟨by (with_reducible repeat (first | apply Kd.R_alloc | apply Kd.R_drewN | apply Kd.R_drew)); exact Kd.R_mono HO494.out (fun _ hk => hk.2)⟩, ⟨by (with_reducible repeat (first | apply Kd.R_alloc | apply Kd.R_drewN | apply Kd.R_drew)); exact Kd.R_mono HO497.out (fun _ hk => hk.2)⟩, ⟨zq79⟩⟩
  case round =>
   clear H';(try clear c1);(try clear c2);(try clear p2);(try clear c3);(try clear c4);(obtain ⟨x7_1, x8_1, rfl, HA, HK1, HO_6, HO_7, HB⟩ := hrel)
   cases gk with
   | zero => exact absurd HA.out (by simp [spec_EndsOfFigure.l0])
   | succ k1 =>
    (have H := HA.out);clear HA;(simp only [spec_EndsOfFigure.l0] at H);(by_cases c10 : x8_1 < (t492.length : Int))
    ·rw [if_pos c10] at H
     (have c10b0 : decide (x8_1 < (t492.length : Int)) = true := decide_eq_true c10);clear c10;(by_cases c11 : 0 ≤ x8_1)
     ·rw [if_pos c11] at H
      (have c11b0 : decide (0 ≤ x8_1) = true := decide_eq_true c11);clear c11;(by_cases c12 : (rd t492 x8_1) = 1)
      ·rw [if_pos c12] at H
       (have c12b0 : ((rd t492 x8_1) == 1) = true := beq_iff_eq.mpr c12);(have c12b1 : ((rd t492 x8_1) != 1) = false := bne_eq_false_iff_eq.mpr c12);clear c12;(by_cases c13 : x7_1.length < 17592186044416)
       ·rw [if_pos c13] at H
        (have LMc13 := Aside0.mk c13);clear c13;(obtain ⟨y499, hy_⟩ : ∃ y_ : List Int, y_ = (x7_1 ++ [x8_1]) := ⟨_, rfl⟩);(replace H : (spec_EndsOfFigure.l0 k1 t492 y499 (wrap64 (x8_1 + 1))) = some (r1, r2) := zq38);(have Ny499 := Aside0.mk hy_);clear hy_;(have H' := Aside0.mk H);clear H;(obtain ⟨Ao14, co14, eo14⟩ := Kd.R_slice HO_6.out);subst eo14;(have p498 : 0 ≤ (x8_1 : Int) := of_decide_eq_true zq39);(have q498 : x8_1 < (t492.length : Int) := of_decide_eq_true zq39);(obtain ⟨ad498, e498, hx498_0⟩ := Kd.at_int (Kd.R_reads' HO_6.out).2.2 x8_1 p498 q498)
        cases e498
        (replace p498 := eq_true p498);(replace q498 := eq_true q498);(go_wp2_with (first | ((with_reducible refine gate_builtin (b := .append) (xs := #[.tmp 28, .tmp 30]) rfl ?_); at_builtin; refine Kd.R_append (Kd.int .i64) (w0 := w) w.heap.size rfl (.tmp 28) (.tmp 30) 34 2 (.int .i64 0) 8 rfl Tryz.underlying34 info2 rfl (by decide) (by omega) u7 x7_1 x8_1 [.int .i64 x8_1] (fun k_ => some k_ ≠ (.slice (some ad498) t492.length co14 : Value).ownBlock) (fun _ => False) rfl rfl ?aP (fun _ hk => hk.elim) ?aF ?aO ?aB ?aS ?aL ?_; (case aP => exact rfl); (case aB => exact zq79); (case aF => exact (fun k_ hk => Kd.fresh' (Kd.R_lt (zR HO_6.out)) k_ hk)); (case aO => exact (zR HO_7.out)); (case aS => exact (below_size zq79)); (case aL => have := LMc13.out; omega); intro v500 w15 ho hb hg hat; rw [← Ny499.out] at ho; have n0_ := Aside0.mk (Kd.R_after (ok := (fun _ => True)) (by (with_reducible repeat (first | apply Kd.R_alloc | apply Kd.R_drewN | apply Kd.R_drew)); exact Kd.R_mono HO_6.out (fun _ hk => ⟨trivial, hk⟩)) hg hat); have n1_ := Aside0.mk (hb); have n2_ := Aside0.mk (ho); clear HO_6; clear HB; clear HO_7; have HO_6 := n0_; have HB := n1_; have HO501 := n2_; clear n0_ n1_ n2_; clear ho hb hg hat)));(go_roundg k1)
        case measure => have := HK1.out; omega
        case rel => exact ⟨(y499), (wrap64 (x8_1 + 1)), zq46, H', ⟨zq56⟩, ⟨by (with_reducible repeat (first | apply Kd.R_alloc | apply Kd.R_drewN | apply Kd.R_drew)); exact Kd.R_mono HO_6.out (fun _ hk => hk.2)⟩, ⟨zR HO501.out⟩, ⟨zq79⟩⟩
       ·rw [if_neg c13] at H
        exact absurd H (by simp)
      ·rw [if_neg c12] at H
       (have c12b0 : ((rd t492 x8_1) == 1) = false := beq_eq_false_iff_ne.mpr c12);(have c12b1 : ((rd t492 x8_1) != 1) = true := bne_iff_ne.mpr c12);(have H' := Aside0.mk H);clear H;(obtain ⟨Ao16, co16, eo16⟩ := Kd.R_slice HO_6.out);subst eo16;(have p498 : 0 ≤ (x8_1 : Int) := of_decide_eq_true zq39);(have q498 : x8_1 < (t492.length : Int) := of_decide_eq_true zq39);(obtain ⟨ad498, e498, hx498_0⟩ := Kd.at_int (Kd.R_reads' HO_6.out).2.2 x8_1 p498 q498)
       cases e498
       (replace p498 := eq_true p498);(replace q498 := eq_true q498);(go_wp2);(go_roundg k1)
       case measure => have := HK1.out; omega
       case rel => exact ⟨(x7_1), (wrap64 (x8_1 + 1)), zq46, H', ⟨zq56⟩, ⟨zR HO_6.out⟩, ⟨zR HO_7.out⟩, ⟨zq79⟩⟩
     ·rw [if_neg c11] at H
      exact absurd H (by simp)
    ·rw [if_neg c10] at H
     (have c10b0 : decide (x8_1 < (t492.length : Int)) = false := decide_eq_false c10);clear c10;(simp only [Option.some.injEq, Prod.mk.injEq] at H);(obtain ⟨rfl, rfl⟩ := H);(obtain ⟨Ao17, co17, eo17⟩ := Kd.R_slice HO_6.out);subst eo17;(go_wp2);(go_ret2);(exact ⟨_, zq43, by (with_reducible repeat (first | apply Kd.R_alloc | apply Kd.R_drewN | apply Kd.R_drew)); exact Kd.R_mono HO_7.out (fun _ hk => trivial), zq79⟩)
 ·replace c4 := Bool.eq_false_iff.mpr c4
  subst c4;(have H1 : (some (([] : List Int), 1)) = some (r1, r2) := zq117);clear H;(have H := H1);clear H1;(simp only [Option.some.injEq, Prod.mk.injEq] at H);(obtain ⟨rfl, rfl⟩ := H)
  go_enter Tryz.func14, Tryz.ntmps14
  (go_wp2_with (first | ((with_reducible refine gate_callee (f := 26) rfl ?_); refine goesL_ (some 11) rfl rfl Tryz.func26 (by kernel_rfl) rfl #[.slice A0 l0.length c0, .slice A1 l1.length c1] rfl zq0 ?_; (with_reducible refine (spec_l16Figure.calls k _ _ l0 _ _ l1 false _ ?side1 ?side2 ?side3 ?side4 A3.out).mono ?_); (case side1 => exact zq109); (case side2 => exact HC0.out); (case side3 => exact zq110); (case side4 => exact HC1.out); rintro e w18 ⟨rfl, hb⟩; refine ⟨_, rfl, ?_⟩; have n0_ := Aside0.mk (below_step zq79 hb); clear HB; have HB := n0_; clear n0_; (try clear hb); (try clear hb2); (try clear hk); (try clear hi))));(go_ret2);(exact ⟨_, zq43, zq40, zq79⟩)

/-! ### laws_f6ints: function 15 -/
def laws_f6ints.l0 : Nat → List Int → List Int → Int → Option (Bool)
 | 0, _, _, _ => none
 | k + 1, x0, x1, x5 => if x5 < (x0.length : Int) then (if 0 ≤ x5 then (if x5 < (x1.length : Int) then (if (rd x0 x5) = (rd x1 x5) then (laws_f6ints.l0 k x0 x1 (wrap64 (x5 + 1))) else (some false)) else (none)) else (none)) else (some true)
def laws_f6ints.f (k : Nat) (l0 : List Int) (l1 : List Int) : Option (Bool) := if (l0.length : Int) = (l1.length : Int) then (laws_f6ints.l0 k l0 l1 0) else (some false)
theorem laws_f6ints.mono_l : ∀ k, (∀ y0 y1 y2, LeO (laws_f6ints.l0 k y0 y1 y2) (laws_f6ints.l0 (k + 1) y0 y1 y2))
 | 0 => fun _ _ _ r h => by simp [laws_f6ints.l0] at h
 | k + 1 => by
  have ih0 := laws_f6ints.mono_l k
  ·intro y0 y1 y2
   unfold laws_f6ints.l0
   repeat' first | with_reducible (first | exact ih0 _ _ _ | exact LeO.refl _ | exact LeO.none _ | refine LeO.ite ?_ ?_ | refine LeO.bind ?_ (fun _ => ?_)) | exact ih0 _ _ _ | exact LeO.none _ | refine LeO.ite ?_ ?_ | refine LeO.bind ?_ (fun _ => ?_)
theorem laws_f6ints.mono : ∀ a0 a1 k, LeO (laws_f6ints.f k a0 a1) (laws_f6ints.f (k + 1) a0 a1) := by
 intro a0 a1 k;(have ih0 := laws_f6ints.mono_l k);(unfold laws_f6ints.f)
 repeat' first | with_reducible (first | exact ih0 _ _ _ | exact LeO.refl _ | exact LeO.none _ | refine LeO.ite ?_ ?_ | refine LeO.bind ?_ (fun _ => ?_)) | exact ih0 _ _ _ | exact LeO.none _ | refine LeO.ite ?_ ?_ | refine LeO.bind ?_ (fun _ => ?_)
theorem laws_f6ints.calls (k : Nat) (A0 : Option Addr) (c0 : Nat) (l0 : List Int) (A1 : Option Addr) (c1 : Nat) (l1 : List Int) (r : Bool) (w : World) (hr0 : Kd.C (Kd.int .i64) w A0 l0.length l0) (hc0 : l0.length ≤ c0) (hr1 : Kd.C (Kd.int .i64) w A1 l1.length l1) (hc1 : l1.length ≤ c1) (h : laws_f6ints.f k l0 l1 = some r) :
  Calls Tryz.prog 15 #[.slice A0 l0.length c0, .slice A1 l1.length c1] w fun e w' => e = .returned (.bool r) ∧ Drawn0 w w' := by
 (have HR0 := Aside0.mk hr0);(have HC0 := Aside0.mk hc0);clear hr0 hc0;(have HR1 := Aside0.mk hr1);(have HC1 := Aside0.mk hc1);clear hr1 hc1;(have H : (if (l0.length : Int) = (l1.length : Int) then (laws_f6ints.l0 k l0 l1 0) else (some false)) = some r := h);clear h;(by_cases c3 : (l0.length : Int) = (l1.length : Int))
 ·rw [if_pos c3] at H
  (have c3b0 : ((l0.length : Int) == (l1.length : Int)) = true := beq_iff_eq.mpr c3);(have c3b1 : ((l0.length : Int) != (l1.length : Int)) = false := bne_eq_false_iff_eq.mpr c3);(have c3b2 : (l0.length == l1.length) = true := by first | simpa using c3 | (simp at c3 ⊢; omega));clear c3;(have H' := Aside0.mk H);clear H
  go_enter Tryz.func15, Tryz.ntmps15
  (go_wp2);(repeat (go_quiet (fail); try go_wp2))
  go_loopg [5] k (fun kq v5 w' => ∃ (x5_1 : Int), v5 = .int .i64 x5_1 ∧ Aside0 (laws_f6ints.l0 kq l0 l1 x5_1 = some r) ∧ Aside0 (kq ≤ k) ∧ Drawn0 w w')
  case atStart => exact ⟨(0), zq46, H', ⟨Nat.le_refl _⟩, zq108⟩
  case round =>
   clear H';(try clear c1);(try clear p2);(try clear c3);(try clear c3b0);(try clear c3b1);(try clear c3b2);(obtain ⟨x5_1, rfl, HA, HK1, ⟨m1, rfl⟩⟩ := hrel)
   cases gk with
   | zero => exact absurd HA.out (by simp [laws_f6ints.l0])
   | succ k1 =>
    (have H := HA.out);clear HA;(simp only [laws_f6ints.l0] at H);(by_cases c4 : x5_1 < (l0.length : Int))
    ·rw [if_pos c4] at H
     (have c4b0 : decide (x5_1 < (l0.length : Int)) = true := decide_eq_true c4);clear c4;(by_cases c5 : 0 ≤ x5_1)
     ·rw [if_pos c5] at H
      (have c5b0 : decide (0 ≤ x5_1) = true := decide_eq_true c5);clear c5;(by_cases c6 : x5_1 < (l1.length : Int))
      ·rw [if_pos c6] at H
       (have c6b0 : decide (x5_1 < (l1.length : Int)) = true := decide_eq_true c6);clear c6;(by_cases c7 : (rd l0 x5_1) = (rd l1 x5_1))
       ·rw [if_pos c7] at H
        (have c7b0 : ((rd l0 x5_1) == (rd l1 x5_1)) = true := beq_iff_eq.mpr c7);(have c7b1 : ((rd l0 x5_1) != (rd l1 x5_1)) = false := bne_eq_false_iff_eq.mpr c7);clear c7;(have H' := Aside0.mk H);clear H;(have p502 : 0 ≤ (x5_1 : Int) := of_decide_eq_true zq39);(have q502 : x5_1 < (l0.length : Int) := of_decide_eq_true zq39);(obtain ⟨ad502, e502, hx502_0⟩ := Kd.at_int HR0.out x5_1 p502 q502)
        cases e502
        (replace p502 := eq_true p502);(replace q502 := eq_true q502);(have p503 : 0 ≤ (x5_1 : Int) := of_decide_eq_true zq39);(have q503 : x5_1 < (l1.length : Int) := of_decide_eq_true zq39);(obtain ⟨ad503, e503, hx503_0⟩ := Kd.at_int HR1.out x5_1 p503 q503)
        cases e503
        (replace p503 := eq_true p503);(replace q503 := eq_true q503);(go_wp2);(repeat (go_quiet (fail); try go_wp2));(go_roundg k1)
        case measure => have := HK1.out; omega
        case rel => exact ⟨(wrap64 (x5_1 + 1)), zq46, H', ⟨zq56⟩, zq108⟩
       ·rw [if_neg c7] at H
        (have c7b0 : ((rd l0 x5_1) == (rd l1 x5_1)) = false := beq_eq_false_iff_ne.mpr c7);(have c7b1 : ((rd l0 x5_1) != (rd l1 x5_1)) = true := bne_iff_ne.mpr c7);(obtain rfl := Option.some.inj H);(have p502 : 0 ≤ (x5_1 : Int) := of_decide_eq_true zq39);(have q502 : x5_1 < (l0.length : Int) := of_decide_eq_true zq39);(obtain ⟨ad502, e502, hx502_0⟩ := Kd.at_int HR0.out x5_1 p502 q502)
        cases e502
        (replace p502 := eq_true p502);(replace q502 := eq_true q502);(have p503 : 0 ≤ (x5_1 : Int) := of_decide_eq_true zq39);(have q503 : x5_1 < (l1.length : Int) := of_decide_eq_true zq39);(obtain ⟨ad503, e503, hx503_0⟩ := Kd.at_int HR1.out x5_1 p503 q503)
        cases e503
        (replace p503 := eq_true p503);(replace q503 := eq_true q503);(go_wp2);(repeat (go_quiet (fail); try go_wp2));(go_ret);(exact ⟨zq46, zq108⟩)
      ·rw [if_neg c6] at H
       exact absurd H (by simp)
     ·rw [if_neg c5] at H
      exact absurd H (by simp)
    ·rw [if_neg c4] at H
     (have c4b0 : decide (x5_1 < (l0.length : Int)) = false := decide_eq_false c4);clear c4;(obtain rfl := Option.some.inj H);(go_wp2);(repeat (go_quiet (fail); try go_wp2));(go_ret);(exact ⟨zq46, zq108⟩)
 ·rw [if_neg c3] at H
  (have c3b0 : ((l0.length : Int) == (l1.length : Int)) = false := beq_eq_false_iff_ne.mpr c3);(have c3b1 : ((l0.length : Int) != (l1.length : Int)) = true := bne_iff_ne.mpr c3);(have c3b2 : (l0.length == l1.length) = false := by first | simpa using c3 | (simp at c3 ⊢; omega));(obtain rfl := Option.some.inj H)
  go_enter Tryz.func15, Tryz.ntmps15
  (go_wp2);(repeat (go_quiet (fail); try go_wp2));(go_ret);(exact ⟨zq46, zq108⟩)

/-! ### impl_StarsOfFigure: function 16 -/
def impl_StarsOfFigure.f (k : Nat) (l0 : List (S53)) (l1 : List (S39)) : Option (List Int × Int) := (impl_ValidFigure.f k l0 l1).bind fun t504 => (if t504 = true then ((impl_starsOf.f k l1).bind fun t505 => (some (t505, 0))) else (some (([] : List Int), 1)))
theorem impl_StarsOfFigure.mono : ∀ a0 a1 k, LeO (impl_StarsOfFigure.f k a0 a1) (impl_StarsOfFigure.f (k + 1) a0 a1) := by
 intro a0 a1 k;(unfold impl_StarsOfFigure.f)
 repeat' first | with_reducible (first | exact impl_ValidFigure.mono _ _ _ | exact impl_starsOf.mono _ _ | exact LeO.refl _ | exact LeO.none _ | refine LeO.ite ?_ ?_ | refine LeO.bind ?_ (fun _ => ?_)) | exact impl_ValidFigure.mono _ _ _ | exact impl_starsOf.mono _ _ | exact LeO.none _ | refine LeO.ite ?_ ?_ | refine LeO.bind ?_ (fun _ => ?_)
theorem impl_StarsOfFigure.calls (k : Nat) (A0 : Option Addr) (c0 : Nat) (l0 : List (S53)) (A1 : Option Addr) (c1 : Nat) (l1 : List (S39)) (r1 : List Int) (r2 : Int) (w : World) (hr0 : Kd.C k53 w A0 l0.length l0) (hc0 : l0.length ≤ c0) (hr1 : Kd.C k39 w A1 l1.length l1) (hc1 : l1.length ≤ c1) (h : impl_StarsOfFigure.f k l0 l1 = some (r1, r2)) :
  Calls Tryz.prog 16 #[.slice A0 l0.length c0, .slice A1 l1.length c1] w fun e w' => ∃ v0_ : Value, e = .returned (.tuple #[v0_, .int .i64 r2]) ∧ Kd.R (Kd.int .i64) 2 w' w.heap.size (fun _ => True) v0_ r1 ∧ Below w.heap.size w w' := by
 (have HR0 := Aside0.mk hr0);(have HC0 := Aside0.mk hc0);clear hr0 hc0;(have HR1 := Aside0.mk hr1);(have HC1 := Aside0.mk hc1);clear hr1 hc1;(have HB := Aside0.mk (Below.refl w.heap.size w));(have H : ((impl_ValidFigure.f k l0 l1).bind fun t504 => (if t504 = true then ((impl_starsOf.f k l1).bind fun t505 => (some (t505, 0))) else (some (([] : List Int), 1)))) = some (r1, r2) := h);clear h;(replace H := Option.bind_eq_some_iff.mp H);(obtain ⟨t504, A30, H⟩ := H);(replace H : (if t504 = true then ((impl_starsOf.f k l1).bind fun t505 => (some (t505, 0))) else (some (([] : List Int), 1))) = some (r1, r2) := H);(have A3 := Aside0.mk A30);clear A30;(by_cases c4 : t504 = true)
 ·subst c4
  (have H1 : ((impl_starsOf.f k l1).bind fun t505 => (some (t505, 0))) = some (r1, r2) := zq118);clear H;(have H := H1);clear H1;(replace H := Option.bind_eq_some_iff.mp H);(obtain ⟨t505, A50, H⟩ := H);(replace H : (some (t505, 0)) = some (r1, r2) := H);(have A5 := Aside0.mk A50);clear A50;(simp only [Option.some.injEq, Prod.mk.injEq] at H);(obtain ⟨rfl, rfl⟩ := H)
  go_enter Tryz.func16, Tryz.ntmps16
  (go_wp2_with (first | ((with_reducible refine gate_callee (f := 24) rfl ?_); refine goesL_ (some 8) rfl rfl Tryz.func24 (by kernel_rfl) rfl #[.slice A0 l0.length c0, .slice A1 l1.length c1] rfl zq0 ?_; (with_reducible refine (impl_ValidFigure.calls k _ _ l0 _ _ l1 true _ ?side1 ?side2 ?side3 ?side4 A3.out).mono ?_); (case side1 => exact zq109); (case side2 => exact HC0.out); (case side3 => exact zq110); (case side4 => exact HC1.out); rintro e w6 ⟨rfl, hb⟩; refine ⟨_, rfl, ?_⟩; have n0_ := Aside0.mk (below_step zq79 hb); clear HB; have HB := n0_; clear n0_; (try clear hb); (try clear hb2); (try clear hk); (try clear hi)) | ((with_reducible refine gate_callee (f := 29) rfl ?_); refine goesL_ (some 11) rfl rfl Tryz.func29 (by kernel_rfl) rfl #[.slice A1 l1.length c1] rfl zq0 ?_; (with_reducible refine (impl_starsOf.calls k _ _ l1 t505 _ ?side1 ?side2 A5.out).mono ?_); (case side1 => exact zq94); (case side2 => exact HC1.out); rintro e w7 ⟨v506, rfl, ho0, hb⟩; refine ⟨_, rfl, ?_⟩; have n0_ := Aside0.mk (Kd.R_lower ho0 (below_size zq79)); have n1_ := Aside0.mk (below_step zq79 hb); clear HB; have HO507 := n0_; have HB := n1_; clear n0_ n1_; (try clear hb); (try clear hb2); (try clear hk); (try clear hi); (try clear ho0))));(go_ret2);(exact ⟨_, zq43, zR HO507.out, zq79⟩)
 ·replace c4 := Bool.eq_false_iff.mpr c4
  subst c4;(have H1 : (some (([] : List Int), 1)) = some (r1, r2) := zq117);clear H;(have H := H1);clear H1;(simp only [Option.some.injEq, Prod.mk.injEq] at H);(obtain ⟨rfl, rfl⟩ := H)
  go_enter Tryz.func16, Tryz.ntmps16
  (go_wp2_with (first | ((with_reducible refine gate_callee (f := 24) rfl ?_); refine goesL_ (some 8) rfl rfl Tryz.func24 (by kernel_rfl) rfl #[.slice A0 l0.length c0, .slice A1 l1.length c1] rfl zq0 ?_; (with_reducible refine (impl_ValidFigure.calls k _ _ l0 _ _ l1 false _ ?side1 ?side2 ?side3 ?side4 A3.out).mono ?_); (case side1 => exact zq109); (case side2 => exact HC0.out); (case side3 => exact zq110); (case side4 => exact HC1.out); rintro e w8 ⟨rfl, hb⟩; refine ⟨_, rfl, ?_⟩; have n0_ := Aside0.mk (below_step zq79 hb); clear HB; have HB := n0_; clear n0_; (try clear hb); (try clear hb2); (try clear hk); (try clear hi))));(go_ret2);(exact ⟨_, zq43, zq40, zq79⟩)

end Go.Proofs.YtdambdglgdaojaaGreatDoor.PFnFigures
