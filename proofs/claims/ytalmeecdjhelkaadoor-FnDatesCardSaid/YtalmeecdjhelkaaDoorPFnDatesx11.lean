-- Made by a program of this session (gprint.py) out of the kit's print of the translation and texts of my own. SLIM
import Derived.Test.YtalmeecdjhelkaaDoorPFnDatesx0
import Derived.Test.YtalmeecdjhelkaaDoorPFnDatesx7
import Derived.Test.YtalmeecdjhelkaaDoorPFnDatesx10
namespace Go.Proofs.YtalmeecdjhelkaaDoor.PFnDates
open Go.RowKit Go.Proofs.YtalmeecdjhelkaaDoorW.PrintWords Go.Proofs.YtalmeecdjhelkaaDoorW.PrintLast Go.Proofs.YtalmeecdjhelkaaDoorW.PrintMore
set_option maxHeartbeats 64000000
set_option maxRecDepth 100000
attribute [local go_sem] max2_int min2_int max_two min_two max_three min_three max_four min_four   -- for this text's walks alone
set_option linter.unusedVariables false
set_option linter.unusedSimpArgs false

/-! ### impl_check: function 93 -/
def impl_check.f (a0 : Bool) (a1 : Bool) : Option (Int) := if a0 = true then (if a1 = true then (some 0) else (some 2)) else (some 1)
theorem impl_check.calls (a0 : Bool) (a1 : Bool) (r : Int) (w : World) (h : impl_check.f a0 a1 = some r) :
  Calls Tryd.prog 93 #[.bool a0, .bool a1] w fun e w' => e = .returned (.int .i64 r) ∧ Drawn0 w w' := by
 (have H : (if a0 = true then (if a1 = true then (some 0) else (some 2)) else (some 1)) = some r := h);clear h;(by_cases c3 : a0 = true)
 ·subst c3
  (have H1 : (if a1 = true then (some 0) else (some 2)) = some r := zq80);clear H;(have H := H1);clear H1;(by_cases c4 : a1 = true)
  ·subst c4
   (have H1 : (some 0) = some r := zq80);clear H;(have H := H1);clear H1;(obtain rfl := Option.some.inj H)
   go_enter Tryd.func93, Tryd.ntmps93
   (go_wp2);(go_ret);(exact ⟨zq28, zq73⟩)
  ·replace c4 := Bool.eq_false_iff.mpr c4
   subst c4;(have H1 : (some 2) = some r := zq79);clear H;(have H := H1);clear H1;(obtain rfl := Option.some.inj H)
   go_enter Tryd.func93, Tryd.ntmps93
   (go_wp2);(go_ret);(exact ⟨zq28, zq73⟩)
 ·replace c3 := Bool.eq_false_iff.mpr c3
  subst c3;(have H1 : (some 1) = some r := zq79);clear H;(have H := H1);clear H1;(obtain rfl := Option.some.inj H)
  go_enter Tryd.func93, Tryd.ntmps93
  (go_wp2);(go_ret);(exact ⟨zq28, zq73⟩)

/-! ### impl_editionCode: function 65 -/
def impl_editionCode.f (k : Nat) (l0 : List (S64)) (a1 : Int) : Option (Int) := (impl_ValidEditions.f k l0).bind fun t156 => ((impl_within.f a1 0 (wrap64 ((l0.length : Int) - 1))).bind fun t157 => ((impl_check.f t156 t157).bind fun t158 => (some t158)))
theorem impl_editionCode.mono : ∀ a0 a1 k, LeO (impl_editionCode.f k a0 a1) (impl_editionCode.f (k + 1) a0 a1) := by
 intro a0 a1 k;(unfold impl_editionCode.f)
 repeat' first | with_reducible (first | exact impl_ValidEditions.mono _ _ | exact LeO.refl _ | exact LeO.none _ | refine LeO.ite ?_ ?_ | refine LeO.bind ?_ (fun _ => ?_)) | exact impl_ValidEditions.mono _ _ | exact LeO.none _ | refine LeO.ite ?_ ?_ | refine LeO.bind ?_ (fun _ => ?_)
theorem impl_editionCode.calls (k : Nat) (A0 : Option Addr) (c0 : Nat) (l0 : List (S64)) (a1 : Int) (r : Int) (w : World) (hr0 : Kd.C k64 w A0 l0.length l0) (hc0 : l0.length ≤ c0) (h : impl_editionCode.f k l0 a1 = some r) :
  Calls Tryd.prog 65 #[.slice A0 l0.length c0, .int .i64 a1] w fun e w' => e = .returned (.int .i64 r) ∧ Below w.heap.size w w' := by
 (have HR0 := Aside0.mk hr0);(have HC0 := Aside0.mk hc0);clear hr0 hc0;(have HB := Aside0.mk (Below.refl w.heap.size w));(have H : ((impl_ValidEditions.f k l0).bind fun t156 => ((impl_within.f a1 0 (wrap64 ((l0.length : Int) - 1))).bind fun t157 => ((impl_check.f t156 t157).bind fun t158 => (some t158)))) = some r := h);clear h;(replace H := Option.bind_eq_some_iff.mp H);(obtain ⟨t156, A30, H⟩ := H);(replace H : ((impl_within.f a1 0 (wrap64 ((l0.length : Int) - 1))).bind fun t157 => ((impl_check.f t156 t157).bind fun t158 => (some t158))) = some r := H);(have A3 := Aside0.mk A30);clear A30;(replace H := Option.bind_eq_some_iff.mp H);(obtain ⟨t157, A40, H⟩ := H);(replace H : ((impl_check.f t156 t157).bind fun t158 => (some t158)) = some r := H);(have A4 := Aside0.mk A40);clear A40;(replace H := Option.bind_eq_some_iff.mp H);(obtain ⟨t158, A50, H⟩ := H);(replace H : (some t158) = some r := H);(have A5 := Aside0.mk A50);clear A50;(obtain rfl := Option.some.inj H)
 go_enter Tryd.func65, Tryd.ntmps65
 (go_wp2_with (first | ((with_reducible refine gate_callee (f := 58) rfl ?_); refine goesL_ (some 6) rfl rfl Tryd.func58 (by kernel_rfl) rfl #[.slice A0 l0.length c0] rfl zq0 ?_; (with_reducible refine (impl_ValidEditions.calls k _ _ l0 t156 _ ?side1 ?side2 A3.out).mono ?_); (case side1 => exact zq74); (case side2 => exact HC0.out); rintro e w6 ⟨rfl, hb⟩; refine ⟨_, rfl, ?_⟩; have n0_ := Aside0.mk (below_step zq45 hb); clear HB; have HB := n0_; clear n0_; (try clear hb); (try clear hb2); (try clear hk); (try clear hi)) | ((with_reducible refine gate_callee (f := 104) rfl ?_); refine goesL_ (some 11) rfl rfl Tryd.func104 (by kernel_rfl) rfl #[.int .i64 a1, .int .i64 0, .int .i64 (wrap64 ((l0.length : Int) - 1))] rfl zq0 ?_; (with_reducible refine (impl_within.calls a1 0 (wrap64 ((l0.length : Int) - 1)) t157 _ A4.out).mono ?_); rintro e w' ⟨rfl, ⟨nd, rfl⟩⟩; refine ⟨_, rfl, ?_⟩) | ((with_reducible refine gate_callee (f := 93) rfl ?_); refine goesL_ (some 12) rfl rfl Tryd.func93 (by kernel_rfl) rfl #[.bool t156, .bool t157] rfl zq0 ?_; (with_reducible refine (impl_check.calls t156 t157 t158 _ A5.out).mono ?_); rintro e w' ⟨rfl, ⟨nd, rfl⟩⟩; refine ⟨_, rfl, ?_⟩)));(go_ret);(exact ⟨zq27, zq45⟩)

/-! ### impl_knownAt: function 76 -/
-- given by hand

theorem idxKnown_rd (l0 : List S90) (x5 : Int) (h0 : 0 ≤ x5) (hlt : x5 < (l0.length : Int)) : (rd_T90 l0 x5) = l0[x5.toNat]'(by omega) := by
 (unfold rd_T90);(rw [List.getD_eq_getElem?_getD, List.getElem?_eq_getElem (show x5.toNat < l0.length by omega)]);rfl
def idxKnown_v (p : S90 → Bool) (l : List S90) : Int := if l.any p then (l.findIdx p : Int) else -1
theorem idxKnown_calls (p : S90 → Bool) (gg : Nat) (lb : Array Value) (eg : ∀ args w, (callFunc gg args).run Tryd.prog w = .ok (.enter gg args) w) (A0 : Option Addr) (c0 : Nat) (l0 : List S90) (w : World) (hr0 : Kd.C k90 w A0 l0.length l0)
  (hp : ∀ (W : World) (x : S90), Below w.heap.size w W → Calls Tryd.prog gg (#[.agg #[.string x.f0, .int .i64 x.f1, .int .i64 x.f2]] ++ lb) W fun e w' => e = .returned (.bool (p x)) ∧ Below w.heap.size w w') :
  Calls Tryd.prog 115 #[.slice A0 l0.length c0, .func (.func gg) #[] lb] w fun e w' => e = .returned (.int .i64 (idxKnown_v p l0)) ∧ Below w.heap.size w w' := by
 (have HR := Aside0.mk hr0);(have HM := Kd.C_max hr0);clear hr0;(have HP := Aside0.mk hp);clear hp
 go_enter Tryd.func115, Tryd.ntmps115
 go_wp2
 go_loopg [5, 8] l0.length (fun gk _ s8 wr => ∃ x5 : Int, s8 = .int .i64 x5 ∧ 0 ≤ x5 ∧ x5 ≤ (l0.length : Int) ∧ (l0.length : Int) - x5 ≤ gk ∧ Aside0 (Below w.heap.size w wr) ∧ Aside0 (∀ j, (h : j < l0.length) → (j : Int) < x5 → p l0[j] = false))
 case atStart => exact ⟨0, rfl, by omega, by omega, by omega, ⟨Below.refl _ w⟩, ⟨fun j h hj => by omega⟩⟩
 case round =>
  (obtain ⟨x5, rfl, h0, h1, hg, BW, AA⟩ := hrel);(by_cases hlt : x5 < (l0.length : Int))
  ·have c4b0 : decide (x5 < (l0.length : Int)) = true := decide_eq_true hlt
   obtain ⟨ad, he, hx0, hx1, hx2⟩ := at_T90 HR.out x5 h0 (show x5 < (l0.length : Int) from hlt)
   cases he
   (replace hx0 := (BW.out.cell (World.block_lt_of_cell? w _ hx0)).trans hx0);(replace hx1 := (BW.out.cell (World.block_lt_of_cell? w _ hx1)).trans hx1);(replace hx2 := (BW.out.cell (World.block_lt_of_cell? w _ hx2)).trans hx2);(have HY := Aside0.mk (idxKnown_rd l0 x5 h0 hlt));(have hcall := HP.out wr (rd_T90 l0 x5) BW.out)
   cases hq : p (rd_T90 l0 x5) with
   | true =>
    (rw [hq] at hcall);(have HQ := Aside0.mk hq);clear hq;(go_wp2_with (go_at_fn gg; refine hcall.mono ?_; rintro e w' ⟨rfl, hb'⟩));(go_ret);(refine ⟨?_, hb'⟩);(have hy := HY.out);(have hqq := HQ.out);(have hall := AA.out)
    have e : idxKnown_v p l0 = x5 := by
     (unfold idxKnown_v);(rw [if_pos (List.any_eq_true.2 ⟨l0[x5.toNat]'(by omega), List.getElem_mem _, by rw [← hy]; exact hqq⟩)])
     have : l0.findIdx p = x5.toNat := by
      (rw [List.findIdx_eq (by omega)]);(refine ⟨by rw [← hy]; exact hqq, fun j hj => hall j (by omega) (by omega)⟩)
     omega
    (rw [e]);rfl
   | false =>
    (rw [hq] at hcall);(have HQ := Aside0.mk hq);clear hq;(go_wp2_with (go_at_fn gg; refine hcall.mono ?_; rintro e w' ⟨rfl, hb'⟩));(go_roundg (l0.length - (x5.toNat + 1)))
    case measure => omega
    case rel =>
     (refine ⟨x5 + 1, by first | rfl | go_num, by omega, by omega, by omega, ⟨hb'⟩, ⟨fun j h hj => ?_⟩⟩);(by_cases ee : (j : Int) = x5)
     ·have hy := HY.out
      (have hqq := HQ.out);(rw [hy] at hqq);(have : j = x5.toNat := by omega);subst this;(exact hqq)
     ·exact AA.out j h (by omega)
  ·have c4b0 : decide (x5 < (l0.length : Int)) = false := decide_eq_false hlt
   (go_wp2);(go_ret);(refine ⟨?_, BW.out⟩)
   have e : idxKnown_v p l0 = -1 := by
    (unfold idxKnown_v);(rw [if_neg]);intro h;(obtain ⟨x, hx, hpx⟩ := List.any_eq_true.1 h);(obtain ⟨j, hj, rfl⟩ := List.getElem_of_mem hx);(have := AA.out j hj (by omega));(rw [hpx] at this)
    cases this
   (rw [e]);rfl
theorem idxKnown_nonneg (p : S90 → Bool) (l : List S90) : decide (0 ≤ idxKnown_v p l) = l.any p := by
 unfold idxKnown_v
 cases h : l.any p
 ·simp
 ·simp

theorem sameKnown_calls (s : ByteArray) (box : Addr) (w W : World) (x : S90) (hc : w.cell? box = some (.string s)) (hB : Below w.heap.size w W) :
  Calls Tryd.prog 116 (#[.agg #[.string x.f0, .int .i64 x.f1, .int .i64 x.f2]] ++ #[.pointer (some box)]) W fun e w' => e = .returned (.bool (x.f0.toList == s.toList)) ∧ Below w.heap.size w w' := by
 have hc2 : W.cell? box = some (.string s) := (hB.cell (World.block_lt_of_cell? w _ hc)).trans hc
 show Calls Tryd.prog 116 #[.agg #[.string x.f0, .int .i64 x.f1, .int .i64 x.f2], .pointer (some box)] W _
 (have HB := Aside0.mk hB);(have HX := Aside0.mk (World.block_lt_of_cell? W _ hc2));clear hB hc;(have ha : ∀ o : Obj, (W.alloc o).cell? box = some (.string s) := fun o => ((below_alloc (Below.refl W.heap.size W) o).cell HX.out).trans hc2)
 cases x with
 | mk f0 f1 f2 =>
 go_enter Tryd.func116, Tryd.ntmps116
 (go_wp2);(go_ret);(exact ⟨by first | rfl | simp, by repeat (first | exact HB.out | apply below_alloc | apply pw_below_drewN | apply below_drew1)⟩)
def impl_knownAt.f (l0 : List S90) (a1 : ByteArray) : Option Int := some (idxKnown_v (fun y => y.f0.toList == a1.toList) l0)
theorem impl_knownAt.calls (A0 : Option Addr) (c0 : Nat) (l0 : List S90) (a1 : ByteArray) (r : Int) (w : World) (hr0 : Kd.C k90 w A0 l0.length l0) (hc0 : l0.length ≤ c0) (h : impl_knownAt.f l0 a1 = some r) :
  Calls Tryd.prog 76 #[.slice A0 l0.length c0, .string a1] w fun e w' => e = .returned (.int .i64 r) ∧ Below w.heap.size w w' := by
 (have HH := Aside0.mk (Option.some.inj h).symm);(have HR := Aside0.mk hr0);(have HB := Aside0.mk (Below.refl w.heap.size w));clear h hr0 hc0
 go_enter Tryd.func76, Tryd.ntmps76
 (go_wp2_with (first | ((with_reducible refine gate_dst (N := 3) rfl ?_); refine box_event ?hg (N := 3) ?hd (cs := #[.string a1]) (t := 9) ?hr ?_; (case hd => rfl); (case hg => rfl); (case hr => first | (go_simp; done) | (go_simp; rfl)); intro gb hg w1 hbox hb; have n0_ := Aside0.mk (below_step HB.out hb); have n1_ := Aside0.mk (hbox); clear HB; have HB := n0_; have BK := n1_; clear n0_ n1_; clear hb hbox hg) | (go_at_call 115; refine (idxKnown_calls (fun y => y.f0.toList == a1.toList) 116 #[.pointer (some ⟨gb, 0, none⟩)] (enters_of Tryd.func116 (by kernel_rfl) rfl) A0 c0 l0 _ (Kd.C_below HR.out HB.out) (fun W x hB => sameKnown_calls a1 ⟨gb, 0, none⟩ _ W x ((blk_cell BK.out 0).trans rfl) hB)).mono ?_; rintro e w3 ⟨rfl, hb⟩; have n2_ := Aside0.mk (below_step HB.out hb); clear HB; have HB := n2_; clear n2_ hb)));(go_ret);(exact ⟨by rw [HH.out]; rfl, HB.out⟩)


/-! ### impl_wasUsed: function 77 -/
def impl_wasUsed.f (a0_0 : ByteArray) (a0_1 : Int) (a0_2 : Int) (a1 : Int) : Option (Bool) := (impl_within.f a1 a0_1 a0_2).bind fun t160 => (some t160)
theorem impl_wasUsed.calls (a0_0 : ByteArray) (a0_1 : Int) (a0_2 : Int) (a1 : Int) (r : Bool) (w : World) (h : impl_wasUsed.f a0_0 a0_1 a0_2 a1 = some r) :
  Calls Tryd.prog 77 #[.agg #[.string a0_0, .int .i64 a0_1, .int .i64 a0_2], .int .i64 a1] w fun e w' => e = .returned (.bool r) ∧ Below w.heap.size w w' := by
 (have hu90 := Tryd.underlying90);(have HB := Aside0.mk (Below.refl w.heap.size w));(have H : ((impl_within.f a1 a0_1 a0_2).bind fun t160 => (some t160)) = some r := h);clear h;(replace H := Option.bind_eq_some_iff.mp H);(obtain ⟨t160, A30, H⟩ := H);(replace H : (some t160) = some r := H);(have A3 := Aside0.mk A30);clear A30;(obtain rfl := Option.some.inj H)
 go_enter Tryd.func77, Tryd.ntmps77
 (go_wp2_with (first | ((with_reducible refine gate_dst (N := 2) rfl ?_); refine box_event ?hg (N := 2) ?hd (cs := #[.string a0_0, .int .i64 a0_1, .int .i64 a0_2]) (t := 90) ?hr ?_; (case hd => rfl); (case hg => rfl); (case hr => first | (go_simp; done) | (go_simp; rfl)); intro gb159 hg w4 hbox hb; have n0_ := Aside0.mk (below_step zq45 hb); have n1_ := Aside0.mk (hbox); have n2_ := Aside0.mk ((zq76 : w.heap.size ≤ gb159)); have n3_ := Aside0.mk ((zq76 : w.heap.size ≤ gb159)); clear HB; have HB := n0_; have BK159 := n1_; have GW159 := n2_; have GE159 := n3_; clear n0_ n1_ n2_ n3_; clear hb hbox hg; have hcz5_0 : w4.cell? ⟨gb159, 0, none⟩ = some (.string a0_0) := (blk_cell BK159.out 0).trans rfl; have hcz5_1 : w4.cell? ⟨gb159, 1, none⟩ = some (.int .i64 a0_1) := (blk_cell BK159.out 1).trans rfl; have hcz5_2 : w4.cell? ⟨gb159, 2, none⟩ = some (.int .i64 a0_2) := (blk_cell BK159.out 2).trans rfl; have hfz5_0 := blk_frozen BK159.out 0; have hfz5_1 := blk_frozen BK159.out 1; have hfz5_2 := blk_frozen BK159.out 2) | ((with_reducible refine gate_callee (f := 104) rfl ?_); refine goesL_ (some 10) rfl rfl Tryd.func104 (by kernel_rfl) rfl #[.int .i64 a1, .int .i64 a0_1, .int .i64 a0_2] rfl zq0 ?_; (with_reducible refine (impl_within.calls a1 a0_1 a0_2 t160 _ A3.out).mono ?_); rintro e w' ⟨rfl, ⟨nd, rfl⟩⟩; refine ⟨_, rfl, ?_⟩)));(go_ret);(exact ⟨zq27, by repeat (first | (with_reducible first | exact HB.out | apply below_alloc | apply pw_below_drewN | apply below_drew1 | refine below_set ?_ GE159.out) | exact HB.out)⟩)

end Go.Proofs.YtalmeecdjhelkaaDoor.PFnDates
