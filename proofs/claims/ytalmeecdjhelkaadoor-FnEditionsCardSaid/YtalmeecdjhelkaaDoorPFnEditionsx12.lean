-- Made by a program of this session (gprint.py) out of the kit's print of the translation and texts of my own. SLIM
import Derived.Test.YtalmeecdjhelkaaDoorPFnEditionsx0
import Derived.Test.YtalmeecdjhelkaaDoorPFnEditionsx4
import Derived.Test.YtalmeecdjhelkaaDoorPFnEditionsx5
import Derived.Test.YtalmeecdjhelkaaDoorPFnEditionsx6
import Derived.Test.YtalmeecdjhelkaaDoorPFnEditionsx7
import Derived.Test.YtalmeecdjhelkaaDoorPFnEditionsx8
import Derived.Test.YtalmeecdjhelkaaDoorPFnEditionsx9
import Derived.Test.YtalmeecdjhelkaaDoorPFnEditionsx10
import Derived.Test.YtalmeecdjhelkaaDoorPFnEditionsx11
namespace Go.Proofs.YtalmeecdjhelkaaDoor.PFnEditions
open Go.RowKit Go.Proofs.YtalmeecdjhelkaaDoorW.PrintWords Go.Proofs.YtalmeecdjhelkaaDoorW.PrintLast Go.Proofs.YtalmeecdjhelkaaDoorW.PrintMore
set_option maxHeartbeats 64000000
set_option maxRecDepth 100000
attribute [local go_sem] max2_int min2_int max_two min_two max_three min_three max_four min_four   -- for this text's walks alone
set_option linter.unusedVariables false
set_option linter.unusedSimpArgs false

/-! ### impl_EditionOf: function 49 -/
-- given by hand

theorem idxEd_rd (l0 : List S64) (x5 : Int) (h0 : 0 ≤ x5) (hlt : x5 < (l0.length : Int)) : (rd_T64 l0 x5) = l0[x5.toNat]'(by omega) := by
 (unfold rd_T64);(rw [List.getD_eq_getElem?_getD, List.getElem?_eq_getElem (show x5.toNat < l0.length by omega)]);rfl
def idxEd_v (p : S64 → Bool) (l : List S64) : Int := if l.any p then (l.findIdx p : Int) else -1
theorem idxEd_calls (p : S64 → Bool) (gg : Nat) (lb : Array Value) (eg : ∀ args w, (callFunc gg args).run Tryd.prog w = .ok (.enter gg args) w) (A0 : Option Addr) (c0 : Nat) (l0 : List S64) (w : World) (hr0 : Kd.C k64 w A0 l0.length l0)
  (hp : ∀ (W : World) (x : S64) (B1 : Option Addr) (d1 : Nat), Below w.heap.size w W → Kd.C Kd.string W B1 x.f1.length x.f1 → x.f1.length ≤ d1 → Calls Tryd.prog gg (#[.agg #[.int .i64 x.f0, .slice B1 x.f1.length d1]] ++ lb) W fun e w' => e = .returned (.bool (p x)) ∧ Below w.heap.size w w') :
  Calls Tryd.prog 108 #[.slice A0 l0.length c0, .func (.func gg) #[] lb] w fun e w' => e = .returned (.int .i64 (idxEd_v p l0)) ∧ Below w.heap.size w w' := by
 (have HR := Aside0.mk hr0);(have HM := Kd.C_max hr0);clear hr0;(have HP := Aside0.mk hp);clear hp
 go_enter Tryd.func108, Tryd.ntmps108
 go_wp2
 go_loopg [5, 8] l0.length (fun gk _ s8 wr => ∃ x5 : Int, s8 = .int .i64 x5 ∧ 0 ≤ x5 ∧ x5 ≤ (l0.length : Int) ∧ (l0.length : Int) - x5 ≤ gk ∧ Aside0 (Below w.heap.size w wr) ∧ Aside0 (∀ j, (h : j < l0.length) → (j : Int) < x5 → p l0[j] = false))
 case atStart => exact ⟨0, rfl, by omega, by omega, by omega, ⟨Below.refl _ w⟩, ⟨fun j h hj => by omega⟩⟩
 case round =>
  (obtain ⟨x5, rfl, h0, h1, hg, BW, AA⟩ := hrel);(by_cases hlt : x5 < (l0.length : Int))
  ·have c4b0 : decide (x5 < (l0.length : Int)) = true := decide_eq_true hlt
   obtain ⟨ad, B1, d1, he, hx0, hx1, hl1, hc1⟩ := at_T64 HR.out x5 h0 (show x5 < (l0.length : Int) from hlt)
   cases he
   (replace hx1 := (BW.out.cell (World.block_lt_of_cell? w _ hx1)).trans hx1);(have HCI := Aside0.mk (Kd.C_below hc1 BW.out));(have HLI := Aside0.mk hl1);clear hc1 hl1;(replace hx0 := (BW.out.cell (World.block_lt_of_cell? w _ hx0)).trans hx0);(have HY := Aside0.mk (idxEd_rd l0 x5 h0 hlt));(have hcall := HP.out wr (rd_T64 l0 x5) B1 d1 BW.out HCI.out HLI.out)
   cases hq : p (rd_T64 l0 x5) with
   | true =>
    (rw [hq] at hcall);(have HQ := Aside0.mk hq);clear hq;(go_wp2_with (go_at_fn gg; refine hcall.mono ?_; rintro e w' ⟨rfl, hb'⟩));(go_ret);(refine ⟨?_, hb'⟩);(have hy := HY.out);(have hqq := HQ.out);(have hall := AA.out)
    have e : idxEd_v p l0 = x5 := by
     (unfold idxEd_v);(rw [if_pos (List.any_eq_true.2 ⟨l0[x5.toNat]'(by omega), List.getElem_mem _, by rw [← hy]; exact hqq⟩)])
     have : l0.findIdx p = x5.toNat := by
      (rw [List.findIdx_eq (by omega)]);(refine ⟨by rw [← hy]; exact hqq, fun j hj => hall j (by omega) (by omega)⟩)
     omega
    (rw [e]);rfl
   | false =>
    (rw [hq] at hcall);(have HQ := Aside0.mk hq);clear hq;(go_wp2_with (go_at_fn gg; refine hcall.mono ?_; rintro e w' ⟨rfl, hb'⟩));(go_roundg (l0.length - (x5.toNat + 1)))
    case measure => omega
    case rel =>
     (refine ⟨x5 + 1, by first | rfl | go_num, by omega, by omega, by omega, ⟨hb'⟩, ⟨fun j h hj => ?_⟩⟩);(by_cases ee : (j : Int) = x5)
     ·have hy := HY.out
      (have hqq := HQ.out);(rw [hy] at hqq);(have : j = x5.toNat := by omega);subst this;(exact hqq)
     ·exact AA.out j h (by omega)
  ·have c4b0 : decide (x5 < (l0.length : Int)) = false := decide_eq_false hlt
   (go_wp2);(go_ret);(refine ⟨?_, BW.out⟩)
   have e : idxEd_v p l0 = -1 := by
    (unfold idxEd_v);(rw [if_neg]);intro h;(obtain ⟨x, hx, hpx⟩ := List.any_eq_true.1 h);(obtain ⟨j, hj, rfl⟩ := List.getElem_of_mem hx);(have := AA.out j hj (by omega));(rw [hpx] at this)
    cases this
   (rw [e]);rfl
theorem idxEd_nonneg (p : S64 → Bool) (l : List S64) : decide (0 ≤ idxEd_v p l) = l.any p := by
 unfold idxEd_v
 cases h : l.any p
 ·simp
 ·simp

def sameNames (a b : List ByteArray) : Bool := (slices_Equal_string_string.f (a.length + 1) a b).getD false
theorem equal_some (a b : List ByteArray) (ha : a.length ≤ 9223372036854775807) (hab : a.length = b.length) (d : Nat) : ∀ (i : Nat), i ≤ a.length → a.length - i = d → ∃ r, slices_Equal_string_string.l0 (d + 1) a b a.length i = some r := by
 induction d with
 | zero =>
  intro i hi hd;(exact ⟨true, by simp only [slices_Equal_string_string.l0, if_neg (show ¬ (i : Int) < (a.length : Int) by omega)]⟩)
 | succ d ih =>
  intro i hi hd;(have hw : wrap64 ((i : Int) + 1) = ((i + 1 : Nat) : Int) := by unfold wrap64; omega);(rw [slices_Equal_string_string.l0]);(simp only [if_pos (show (i : Int) < (a.length : Int) by omega), if_pos (show (0 : Int) ≤ (i : Int) by omega), if_pos (show (i : Int) < (b.length : Int) by omega), hw])
  repeat' split
  all_goals first | exact ⟨_, rfl⟩ | exact ih (i + 1) (by omega) (by omega)
theorem sameNames_eq (a b : List ByteArray) (ha : a.length ≤ 9223372036854775807) : slices_Equal_string_string.f (a.length + 1) a b = some (sameNames a b) := by
 have h : ∃ r, slices_Equal_string_string.f (a.length + 1) a b = some r := by
  unfold slices_Equal_string_string.f
  split
  ·exact equal_some a b ha (by omega) a.length 0 (by omega) (by omega)
  ·exact ⟨_, rfl⟩
 (obtain ⟨r, h⟩ := h);(unfold sameNames);(rw [h]);rfl
theorem sameEd_calls (m : List ByteArray) (Al : Option Addr) (cl : Nat) (box : Addr) (w1 W : World) (x : S64) (B1 : Option Addr) (d1 : Nat) (hc : w1.cell? box = some (.slice Al m.length cl)) (hr : Kd.C Kd.string w1 Al m.length m) (hcl : m.length ≤ cl) (hB : Below w1.heap.size w1 W) (hx : Kd.C Kd.string W B1 x.f1.length x.f1) (hxl : x.f1.length ≤ d1) :
  Calls Tryd.prog 109 (#[.agg #[.int .i64 x.f0, .slice B1 x.f1.length d1]] ++ #[.pointer (some box)]) W fun e w' => e = .returned (.bool (sameNames x.f1 m)) ∧ Below w1.heap.size w1 w' := by
 have hc2 : W.cell? box = some (.slice Al m.length cl) := (hB.cell (World.block_lt_of_cell? w1 _ hc)).trans hc
 cases x with
 | mk f0 f1 =>
 have hv := sameNames_eq f1 m (Kd.C_max hx)
 show Calls Tryd.prog 109 #[.agg #[.int .i64 f0, .slice B1 f1.length d1], .pointer (some box)] W _
 (have HB := Aside0.mk hB);(have HX := Aside0.mk (World.block_lt_of_cell? W _ hc2));(have HR := Aside0.mk (Kd.C_below hr hB));(have HXX := Aside0.mk hx);(have HXL := Aside0.mk hxl);(have HCL := Aside0.mk hcl);(have HV := Aside0.mk hv);(have ha : ∀ o : Obj, (W.alloc o).cell? box = some (.slice Al m.length cl) := fun o => ((below_alloc (Below.refl W.heap.size W) o).cell HX.out).trans hc2);clear hB hc hr hx hxl hcl hv
 go_enter Tryd.func109, Tryd.ntmps109
 (go_wp2_with (go_at_call 110; refine (slices_Equal_string_string.calls (f1.length + 1) B1 d1 f1 Al cl m _ _ (Kd.C_below HXX.out zq86) HXL.out (Kd.C_below HR.out zq86) HCL.out HV.out).mono ?_; rintro e w' ⟨rfl, ⟨n1, rfl⟩⟩));(go_ret);(exact ⟨by first | rfl | simp, by repeat (first | exact HB.out | apply below_alloc | apply pw_below_drewN | apply below_drew1)⟩)
def impl_EditionOf.f (k : Nat) (l0 : List S64) (a1 : List ByteArray) : Option (Int × Int) := (impl_ValidEditions.f k l0).bind fun v => (impl_areShown.f k a1).bind fun s => if v = true then (if s = true then (if idxEd_v (fun y => sameNames y.f1 a1) l0 < 0 then some (0, 3) else some (idxEd_v (fun y => sameNames y.f1 a1) l0, 0)) else some (0, 2)) else some (0, 1)
theorem impl_EditionOf.mono : ∀ a0 a1 k, LeO (impl_EditionOf.f k a0 a1) (impl_EditionOf.f (k + 1) a0 a1) := by
 intro a0 a1 k;(unfold impl_EditionOf.f)
 repeat' first
   | exact impl_ValidEditions.mono _ _
   | exact impl_areShown.mono _ _
   | (with_reducible exact LeO.refl _)
   | (with_reducible refine LeO.ite ?_ ?_)
   | (with_reducible refine LeO.bind ?_ (fun _ => ?_))
   | exact LeO.refl _
   | refine LeO.ite ?_ ?_
   | refine LeO.bind ?_ (fun _ => ?_)
theorem impl_EditionOf.calls (k : Nat) (A0 : Option Addr) (c0 : Nat) (l0 : List S64) (A1 : Option Addr) (c1 : Nat) (a1 : List ByteArray) (r1 : Int) (r2 : Int) (w : World) (hr0 : Kd.C k64 w A0 l0.length l0) (hc0 : l0.length ≤ c0) (hr1 : Kd.C Kd.string w A1 a1.length a1) (hc1 : a1.length ≤ c1) (h : impl_EditionOf.f k l0 a1 = some (r1, r2)) :
  Calls Tryd.prog 49 #[.slice A0 l0.length c0, .slice A1 a1.length c1] w fun e w' => e = .returned (.tuple #[.int .i64 r1, .int .i64 r2]) ∧ Below w.heap.size w w' := by
 (unfold impl_EditionOf.f at h);(obtain ⟨v, e1, h⟩ := Option.bind_eq_some_iff.1 h);(obtain ⟨s, e2, h⟩ := Option.bind_eq_some_iff.1 h);(have E1 := Aside0.mk e1);(have E2 := Aside0.mk e2);(have HR0 := Aside0.mk hr0);(have HC0 := Aside0.mk hc0);(have HR1 := Aside0.mk hr1);(have HC1 := Aside0.mk hc1);(have HB := Aside0.mk (Below.refl w.heap.size w));(have HM := Aside0.mk (Kd.C_max hr0));clear e1 e2 hr0 hc0 hr1 hc1
 cases v with
 | false =>
  (obtain ⟨rfl, rfl⟩ := Prod.mk.inj (Option.some.inj (show some ((0 : Int), (1 : Int)) = some (r1, r2) from h)));clear h
  go_enter Tryd.func49, Tryd.ntmps49
  (go_wp2_with (first | ((with_reducible refine gate_dst (N := 3) rfl ?_); refine box_event ?hg (N := 3) ?hd (cs := #[.slice A1 a1.length c1]) (t := 24) ?hr ?_; (case hd => rfl); (case hg => rfl); (case hr => first | (go_simp; done) | (go_simp; rfl)); intro gb hg w1 hbox hb; have n0_ := Aside0.mk (below_step HB.out hb); have n1_ := Aside0.mk (hbox); have hcz : w1.cell? ⟨gb, 0, none⟩ = some (.slice A1 a1.length c1) := ((blk_cell hbox 0).trans rfl); clear HB; have HB := n0_; have BK := n1_; clear n0_ n1_; clear hb hbox hg) | fail));(refine start_ (n := 6) (S := fun w' => w'.cell? ⟨gb, 0, none⟩ = some (.slice A1 a1.length c1)) (ds := []) #[false,false,false,false,false,false] (by kernel_rfl) rfl rfl (hcz) (fun hHeld => ?_));(replace HB := Aside0.mk (below_drew1 HB.out));(have hx0 : w1.drew.cell? ⟨gb, 0, none⟩ = some (.slice A1 a1.length c1) := hcz);(generalize hwa : w1.drew = wa at HB hx0 hHeld ⊢);clear hwa;(refine pure_ (i := 0) (N := some 8) (v := ?_) (a' := ?_) (mB 6 1) rfl rfl (by kernel_rfl) (fun _ _ _ h => h) (Or.inl ⟨by rfl, ?_⟩) ?_ ?_);rotate_left
  ·intro w'
   go_simp;(with_reducible rfl)
  rotate_left
  ·simp only [Act.put, sA]
   rfl
  (refine take_ (i := 2) (N := some 10) (v := ?_) (a' := ?_) (mB 6 5) rfl rfl (by kernel_rfl) (fun _ _ _ h => h) (Or.inl ⟨by rfl, ?_⟩) hHeld ?_ ?_);rotate_left
  ·intro w' s0
   go_simp;(with_reducible rfl)
  rotate_left
  ·simp only [Act.put, sA]
   rfl
  (refine one_ (i := 1) (N := some 9) (mB 6 7) rfl rfl (by kernel_rfl) (by decide) (fun K hK => ?_));(refine goes_ Tryd.func58 (by kernel_rfl) rfl #[.slice A0 l0.length c0] (by rfl) rfl rfl zq0 ?_);(with_reducible refine (impl_ValidEditions.calls k A0 c0 l0 false _ (Kd.C_below HR0.out HB.out) HC0.out E1.out).mono ?_);(rintro e w2 ⟨rfl, hb⟩);(refine ⟨_, rfl, ?_⟩);(replace hx0 := (hb.cell (World.block_lt_of_cell? wa _ hx0)).trans hx0);(have HB2 := Aside0.mk (below_step HB.out hb));clear hb HB;(refine hK.out _ _ (hx0) (fun hHeld => ?_));clear hK K;(refine norm_ (a' := ?_) ?_ ?_);rotate_left
  ·show Act.put _ (some 9) _ = _
   (simp only [Act.put, sA]);rfl
  (refine one_ (i := 3) (N := some 11) (mB 6 15) rfl rfl (by kernel_rfl) (by decide) (fun K hK => ?_));(refine goes_ Tryd.func94 (by kernel_rfl) rfl #[.slice A1 a1.length c1] (by rfl) rfl rfl zq0 ?_);(with_reducible refine (impl_areShown.calls k A1 c1 a1 s _ (Kd.C_below HR1.out HB2.out) HC1.out E2.out).mono ?_);(rintro e w3 ⟨rfl, hb⟩);(refine ⟨_, rfl, ?_⟩);(replace hx0 := (hb.cell (World.block_lt_of_cell? w2 _ hx0)).trans hx0);(have HB3 := Aside0.mk (below_step HB2.out hb));clear hb HB2;(refine hK.out _ _ (hx0) (fun hHeld => ?_));clear hK K;(refine norm_ (a' := ?_) ?_ ?_);rotate_left
  ·show Act.put _ (some 11) _ = _
   (simp only [Act.put, sA]);rfl
  (refine one_ (i := 4) (N := some 12) (mB 6 31) rfl rfl (by kernel_rfl) (by decide) (fun K hK => ?_));(refine goes_ Tryd.func93 (by kernel_rfl) rfl #[.bool false, .bool s] (by rfl) rfl rfl zq0 ?_);(with_reducible refine (impl_check.calls false s _ _ rfl).mono ?_);(rintro e w4 ⟨rfl, ⟨n1, rfl⟩⟩);(refine ⟨_, rfl, ?_⟩);(refine hK.out _ _ (hx0) (fun hHeld => ?_));clear hK K;(refine norm_ (a' := ?_) ?_ ?_);rotate_left
  ·show Act.put _ (some 12) _ = _
   (simp only [Act.put, sA]);rfl
  (refine pure_ (i := 5) (N := some 6) (v := ?_) (a' := ?_) (mB 6 63) rfl rfl (by kernel_rfl) (fun _ _ _ h => h) (Or.inl ⟨by rfl, ?_⟩) ?_ ?_);rotate_left
  ·intro w'
   go_simp;(with_reducible rfl)
  rotate_left
  ·simp only [Act.put, sA]
   rfl
  (refine done_ (by kernel_rfl) ?_);(have HBR := Aside0.mk (pw_below_drewN HB3.out n1));(replace hx0 : (w3.drewN n1).cell? ⟨gb, 0, none⟩ = some (.slice A1 a1.length c1) := hx0);(go_wp2);(go_ret2);(exact ⟨rfl, HBR.out⟩)
 | true =>
  cases s with
  | false =>
   (obtain ⟨rfl, rfl⟩ := Prod.mk.inj (Option.some.inj (show some ((0 : Int), (2 : Int)) = some (r1, r2) from h)));clear h
   go_enter Tryd.func49, Tryd.ntmps49
   (go_wp2_with (first | ((with_reducible refine gate_dst (N := 3) rfl ?_); refine box_event ?hg (N := 3) ?hd (cs := #[.slice A1 a1.length c1]) (t := 24) ?hr ?_; (case hd => rfl); (case hg => rfl); (case hr => first | (go_simp; done) | (go_simp; rfl)); intro gb hg w1 hbox hb; have n0_ := Aside0.mk (below_step HB.out hb); have n1_ := Aside0.mk (hbox); have hcz : w1.cell? ⟨gb, 0, none⟩ = some (.slice A1 a1.length c1) := ((blk_cell hbox 0).trans rfl); clear HB; have HB := n0_; have BK := n1_; clear n0_ n1_; clear hb hbox hg) | fail));(refine start_ (n := 6) (S := fun w' => w'.cell? ⟨gb, 0, none⟩ = some (.slice A1 a1.length c1)) (ds := []) #[false,false,false,false,false,false] (by kernel_rfl) rfl rfl (hcz) (fun hHeld => ?_));(replace HB := Aside0.mk (below_drew1 HB.out));(have hx0 : w1.drew.cell? ⟨gb, 0, none⟩ = some (.slice A1 a1.length c1) := hcz);(generalize hwa : w1.drew = wa at HB hx0 hHeld ⊢);clear hwa;(refine pure_ (i := 0) (N := some 8) (v := ?_) (a' := ?_) (mB 6 1) rfl rfl (by kernel_rfl) (fun _ _ _ h => h) (Or.inl ⟨by rfl, ?_⟩) ?_ ?_);rotate_left
   ·intro w'
    go_simp;(with_reducible rfl)
   rotate_left
   ·simp only [Act.put, sA]
    rfl
   (refine take_ (i := 2) (N := some 10) (v := ?_) (a' := ?_) (mB 6 5) rfl rfl (by kernel_rfl) (fun _ _ _ h => h) (Or.inl ⟨by rfl, ?_⟩) hHeld ?_ ?_);rotate_left
   ·intro w' s0
    go_simp;(with_reducible rfl)
   rotate_left
   ·simp only [Act.put, sA]
    rfl
   (refine one_ (i := 1) (N := some 9) (mB 6 7) rfl rfl (by kernel_rfl) (by decide) (fun K hK => ?_));(refine goes_ Tryd.func58 (by kernel_rfl) rfl #[.slice A0 l0.length c0] (by rfl) rfl rfl zq0 ?_);(with_reducible refine (impl_ValidEditions.calls k A0 c0 l0 true _ (Kd.C_below HR0.out HB.out) HC0.out E1.out).mono ?_);(rintro e w2 ⟨rfl, hb⟩);(refine ⟨_, rfl, ?_⟩);(replace hx0 := (hb.cell (World.block_lt_of_cell? wa _ hx0)).trans hx0);(have HB2 := Aside0.mk (below_step HB.out hb));clear hb HB;(refine hK.out _ _ (hx0) (fun hHeld => ?_));clear hK K;(refine norm_ (a' := ?_) ?_ ?_);rotate_left
   ·show Act.put _ (some 9) _ = _
    (simp only [Act.put, sA]);rfl
   (refine one_ (i := 3) (N := some 11) (mB 6 15) rfl rfl (by kernel_rfl) (by decide) (fun K hK => ?_));(refine goes_ Tryd.func94 (by kernel_rfl) rfl #[.slice A1 a1.length c1] (by rfl) rfl rfl zq0 ?_);(with_reducible refine (impl_areShown.calls k A1 c1 a1 false _ (Kd.C_below HR1.out HB2.out) HC1.out E2.out).mono ?_);(rintro e w3 ⟨rfl, hb⟩);(refine ⟨_, rfl, ?_⟩);(replace hx0 := (hb.cell (World.block_lt_of_cell? w2 _ hx0)).trans hx0);(have HB3 := Aside0.mk (below_step HB2.out hb));clear hb HB2;(refine hK.out _ _ (hx0) (fun hHeld => ?_));clear hK K;(refine norm_ (a' := ?_) ?_ ?_);rotate_left
   ·show Act.put _ (some 11) _ = _
    (simp only [Act.put, sA]);rfl
   (refine one_ (i := 4) (N := some 12) (mB 6 31) rfl rfl (by kernel_rfl) (by decide) (fun K hK => ?_));(refine goes_ Tryd.func93 (by kernel_rfl) rfl #[.bool true, .bool false] (by rfl) rfl rfl zq0 ?_);(with_reducible refine (impl_check.calls true false _ _ rfl).mono ?_);(rintro e w4 ⟨rfl, ⟨n1, rfl⟩⟩);(refine ⟨_, rfl, ?_⟩);(refine hK.out _ _ (hx0) (fun hHeld => ?_));clear hK K;(refine norm_ (a' := ?_) ?_ ?_);rotate_left
   ·show Act.put _ (some 12) _ = _
    (simp only [Act.put, sA]);rfl
   (refine pure_ (i := 5) (N := some 6) (v := ?_) (a' := ?_) (mB 6 63) rfl rfl (by kernel_rfl) (fun _ _ _ h => h) (Or.inl ⟨by rfl, ?_⟩) ?_ ?_);rotate_left
   ·intro w'
    go_simp;(with_reducible rfl)
   rotate_left
   ·simp only [Act.put, sA]
    rfl
   (refine done_ (by kernel_rfl) ?_);(have HBR := Aside0.mk (pw_below_drewN HB3.out n1));(replace hx0 : (w3.drewN n1).cell? ⟨gb, 0, none⟩ = some (.slice A1 a1.length c1) := hx0);(go_wp2);(go_ret2);(exact ⟨rfl, HBR.out⟩)
  | true =>
   (replace h : (if idxEd_v (fun y => sameNames y.f1 a1) l0 < 0 then some ((0 : Int), (3 : Int)) else some (idxEd_v (fun y => sameNames y.f1 a1) l0, 0)) = some (r1, r2) := h);(have HL : Aside0 (idxEd_v (fun y => sameNames y.f1 a1) l0 ≤ 9223372036854775807) := ⟨by unfold idxEd_v; have := HM.out; have := @List.findIdx_le_length _ (fun y : S64 => sameNames y.f1 a1) l0; split <;> omega⟩);(by_cases hi : idxEd_v (fun y => sameNames y.f1 a1) l0 < 0)
   ·rw [if_pos hi] at h
    (obtain ⟨rfl, rfl⟩ := Prod.mk.inj (Option.some.inj h));clear h;(have cidx : decide (idxEd_v (fun y => sameNames y.f1 a1) l0 < 0) = true := decide_eq_true hi)
    go_enter Tryd.func49, Tryd.ntmps49
    (go_wp2_with (first | ((with_reducible refine gate_dst (N := 3) rfl ?_); refine box_event ?hg (N := 3) ?hd (cs := #[.slice A1 a1.length c1]) (t := 24) ?hr ?_; (case hd => rfl); (case hg => rfl); (case hr => first | (go_simp; done) | (go_simp; rfl)); intro gb hg w1 hbox hb; have n0_ := Aside0.mk (below_step HB.out hb); have n1_ := Aside0.mk (hbox); have hcz : w1.cell? ⟨gb, 0, none⟩ = some (.slice A1 a1.length c1) := ((blk_cell hbox 0).trans rfl); clear HB; have HB := n0_; have BK := n1_; clear n0_ n1_; clear hb hbox hg) | fail));(refine start_ (n := 6) (S := fun w' => w'.cell? ⟨gb, 0, none⟩ = some (.slice A1 a1.length c1)) (ds := []) #[false,false,false,false,false,false] (by kernel_rfl) rfl rfl (hcz) (fun hHeld => ?_));(replace HB := Aside0.mk (below_drew1 HB.out));(have hx0 : w1.drew.cell? ⟨gb, 0, none⟩ = some (.slice A1 a1.length c1) := hcz);(generalize hwa : w1.drew = wa at HB hx0 hHeld ⊢);clear hwa;(refine pure_ (i := 0) (N := some 8) (v := ?_) (a' := ?_) (mB 6 1) rfl rfl (by kernel_rfl) (fun _ _ _ h => h) (Or.inl ⟨by rfl, ?_⟩) ?_ ?_);rotate_left
    ·intro w'
     go_simp;(with_reducible rfl)
    rotate_left
    ·simp only [Act.put, sA]
     rfl
    (refine take_ (i := 2) (N := some 10) (v := ?_) (a' := ?_) (mB 6 5) rfl rfl (by kernel_rfl) (fun _ _ _ h => h) (Or.inl ⟨by rfl, ?_⟩) hHeld ?_ ?_);rotate_left
    ·intro w' s0
     go_simp;(with_reducible rfl)
    rotate_left
    ·simp only [Act.put, sA]
     rfl
    (refine one_ (i := 1) (N := some 9) (mB 6 7) rfl rfl (by kernel_rfl) (by decide) (fun K hK => ?_));(refine goes_ Tryd.func58 (by kernel_rfl) rfl #[.slice A0 l0.length c0] (by rfl) rfl rfl zq0 ?_);(with_reducible refine (impl_ValidEditions.calls k A0 c0 l0 true _ (Kd.C_below HR0.out HB.out) HC0.out E1.out).mono ?_);(rintro e w2 ⟨rfl, hb⟩);(refine ⟨_, rfl, ?_⟩);(replace hx0 := (hb.cell (World.block_lt_of_cell? wa _ hx0)).trans hx0);(have HB2 := Aside0.mk (below_step HB.out hb));clear hb HB;(refine hK.out _ _ (hx0) (fun hHeld => ?_));clear hK K;(refine norm_ (a' := ?_) ?_ ?_);rotate_left
    ·show Act.put _ (some 9) _ = _
     (simp only [Act.put, sA]);rfl
    (refine one_ (i := 3) (N := some 11) (mB 6 15) rfl rfl (by kernel_rfl) (by decide) (fun K hK => ?_));(refine goes_ Tryd.func94 (by kernel_rfl) rfl #[.slice A1 a1.length c1] (by rfl) rfl rfl zq0 ?_);(with_reducible refine (impl_areShown.calls k A1 c1 a1 true _ (Kd.C_below HR1.out HB2.out) HC1.out E2.out).mono ?_);(rintro e w3 ⟨rfl, hb⟩);(refine ⟨_, rfl, ?_⟩);(replace hx0 := (hb.cell (World.block_lt_of_cell? w2 _ hx0)).trans hx0);(have HB3 := Aside0.mk (below_step HB2.out hb));clear hb HB2;(refine hK.out _ _ (hx0) (fun hHeld => ?_));clear hK K;(refine norm_ (a' := ?_) ?_ ?_);rotate_left
    ·show Act.put _ (some 11) _ = _
     (simp only [Act.put, sA]);rfl
    (refine one_ (i := 4) (N := some 12) (mB 6 31) rfl rfl (by kernel_rfl) (by decide) (fun K hK => ?_));(refine goes_ Tryd.func93 (by kernel_rfl) rfl #[.bool true, .bool true] (by rfl) rfl rfl zq0 ?_);(with_reducible refine (impl_check.calls true true _ _ rfl).mono ?_);(rintro e w4 ⟨rfl, ⟨n1, rfl⟩⟩);(refine ⟨_, rfl, ?_⟩);(refine hK.out _ _ (hx0) (fun hHeld => ?_));clear hK K;(refine norm_ (a' := ?_) ?_ ?_);rotate_left
    ·show Act.put _ (some 12) _ = _
     (simp only [Act.put, sA]);rfl
    (refine pure_ (i := 5) (N := some 6) (v := ?_) (a' := ?_) (mB 6 63) rfl rfl (by kernel_rfl) (fun _ _ _ h => h) (Or.inl ⟨by rfl, ?_⟩) ?_ ?_);rotate_left
    ·intro w'
     go_simp;(with_reducible rfl)
    rotate_left
    ·simp only [Act.put, sA]
     rfl
    (refine done_ (by kernel_rfl) ?_);(have HBR := Aside0.mk (pw_below_drewN HB3.out n1));(replace hx0 : (w3.drewN n1).cell? ⟨gb, 0, none⟩ = some (.slice A1 a1.length c1) := hx0);(go_wp2_with (first | (go_at_call 108; refine (idxEd_calls (fun y => sameNames y.f1 a1) 109 #[.pointer (some ⟨gb, 0, none⟩)] (enters_of Tryd.func109 (by kernel_rfl) rfl) A0 c0 l0 _ (Kd.C_below HR0.out HBR.out) (fun W x B1 d1 hB hc hl => sameEd_calls a1 A1 c1 ⟨gb, 0, none⟩ _ W x B1 d1 hx0 (Kd.C_below HR1.out HBR.out) HC1.out hB hc hl)).mono ?_; rintro e w5 ⟨rfl, hb⟩; have HB5 := Aside0.mk (below_step HBR.out hb); clear hb) | fail));(go_ret2);(exact ⟨rfl, HB5.out⟩)
   ·rw [if_neg hi] at h
    (obtain ⟨rfl, rfl⟩ := Prod.mk.inj (Option.some.inj h));clear h;(have cidx : decide (idxEd_v (fun y => sameNames y.f1 a1) l0 < 0) = false := decide_eq_false hi);(have cw : wrap64 (idxEd_v (fun y => sameNames y.f1 a1) l0) = idxEd_v (fun y => sameNames y.f1 a1) l0 := by have := HL.out; unfold wrap64; omega)
    go_enter Tryd.func49, Tryd.ntmps49
    (go_wp2_with (first | ((with_reducible refine gate_dst (N := 3) rfl ?_); refine box_event ?hg (N := 3) ?hd (cs := #[.slice A1 a1.length c1]) (t := 24) ?hr ?_; (case hd => rfl); (case hg => rfl); (case hr => first | (go_simp; done) | (go_simp; rfl)); intro gb hg w1 hbox hb; have n0_ := Aside0.mk (below_step HB.out hb); have n1_ := Aside0.mk (hbox); have hcz : w1.cell? ⟨gb, 0, none⟩ = some (.slice A1 a1.length c1) := ((blk_cell hbox 0).trans rfl); clear HB; have HB := n0_; have BK := n1_; clear n0_ n1_; clear hb hbox hg) | fail));(refine start_ (n := 6) (S := fun w' => w'.cell? ⟨gb, 0, none⟩ = some (.slice A1 a1.length c1)) (ds := []) #[false,false,false,false,false,false] (by kernel_rfl) rfl rfl (hcz) (fun hHeld => ?_));(replace HB := Aside0.mk (below_drew1 HB.out));(have hx0 : w1.drew.cell? ⟨gb, 0, none⟩ = some (.slice A1 a1.length c1) := hcz);(generalize hwa : w1.drew = wa at HB hx0 hHeld ⊢);clear hwa;(refine pure_ (i := 0) (N := some 8) (v := ?_) (a' := ?_) (mB 6 1) rfl rfl (by kernel_rfl) (fun _ _ _ h => h) (Or.inl ⟨by rfl, ?_⟩) ?_ ?_);rotate_left
    ·intro w'
     go_simp;(with_reducible rfl)
    rotate_left
    ·simp only [Act.put, sA]
     rfl
    (refine take_ (i := 2) (N := some 10) (v := ?_) (a' := ?_) (mB 6 5) rfl rfl (by kernel_rfl) (fun _ _ _ h => h) (Or.inl ⟨by rfl, ?_⟩) hHeld ?_ ?_);rotate_left
    ·intro w' s0
     go_simp;(with_reducible rfl)
    rotate_left
    ·simp only [Act.put, sA]
     rfl
    (refine one_ (i := 1) (N := some 9) (mB 6 7) rfl rfl (by kernel_rfl) (by decide) (fun K hK => ?_));(refine goes_ Tryd.func58 (by kernel_rfl) rfl #[.slice A0 l0.length c0] (by rfl) rfl rfl zq0 ?_);(with_reducible refine (impl_ValidEditions.calls k A0 c0 l0 true _ (Kd.C_below HR0.out HB.out) HC0.out E1.out).mono ?_);(rintro e w2 ⟨rfl, hb⟩);(refine ⟨_, rfl, ?_⟩);(replace hx0 := (hb.cell (World.block_lt_of_cell? wa _ hx0)).trans hx0);(have HB2 := Aside0.mk (below_step HB.out hb));clear hb HB;(refine hK.out _ _ (hx0) (fun hHeld => ?_));clear hK K;(refine norm_ (a' := ?_) ?_ ?_);rotate_left
    ·show Act.put _ (some 9) _ = _
     (simp only [Act.put, sA]);rfl
    (refine one_ (i := 3) (N := some 11) (mB 6 15) rfl rfl (by kernel_rfl) (by decide) (fun K hK => ?_));(refine goes_ Tryd.func94 (by kernel_rfl) rfl #[.slice A1 a1.length c1] (by rfl) rfl rfl zq0 ?_);(with_reducible refine (impl_areShown.calls k A1 c1 a1 true _ (Kd.C_below HR1.out HB2.out) HC1.out E2.out).mono ?_);(rintro e w3 ⟨rfl, hb⟩);(refine ⟨_, rfl, ?_⟩);(replace hx0 := (hb.cell (World.block_lt_of_cell? w2 _ hx0)).trans hx0);(have HB3 := Aside0.mk (below_step HB2.out hb));clear hb HB2;(refine hK.out _ _ (hx0) (fun hHeld => ?_));clear hK K;(refine norm_ (a' := ?_) ?_ ?_);rotate_left
    ·show Act.put _ (some 11) _ = _
     (simp only [Act.put, sA]);rfl
    (refine one_ (i := 4) (N := some 12) (mB 6 31) rfl rfl (by kernel_rfl) (by decide) (fun K hK => ?_));(refine goes_ Tryd.func93 (by kernel_rfl) rfl #[.bool true, .bool true] (by rfl) rfl rfl zq0 ?_);(with_reducible refine (impl_check.calls true true _ _ rfl).mono ?_);(rintro e w4 ⟨rfl, ⟨n1, rfl⟩⟩);(refine ⟨_, rfl, ?_⟩);(refine hK.out _ _ (hx0) (fun hHeld => ?_));clear hK K;(refine norm_ (a' := ?_) ?_ ?_);rotate_left
    ·show Act.put _ (some 12) _ = _
     (simp only [Act.put, sA]);rfl
    (refine pure_ (i := 5) (N := some 6) (v := ?_) (a' := ?_) (mB 6 63) rfl rfl (by kernel_rfl) (fun _ _ _ h => h) (Or.inl ⟨by rfl, ?_⟩) ?_ ?_);rotate_left
    ·intro w'
     go_simp;(with_reducible rfl)
    rotate_left
    ·simp only [Act.put, sA]
     rfl
    (refine done_ (by kernel_rfl) ?_);(have HBR := Aside0.mk (pw_below_drewN HB3.out n1));(replace hx0 : (w3.drewN n1).cell? ⟨gb, 0, none⟩ = some (.slice A1 a1.length c1) := hx0);(go_wp2_with (first | (go_at_call 108; refine (idxEd_calls (fun y => sameNames y.f1 a1) 109 #[.pointer (some ⟨gb, 0, none⟩)] (enters_of Tryd.func109 (by kernel_rfl) rfl) A0 c0 l0 _ (Kd.C_below HR0.out HBR.out) (fun W x B1 d1 hB hc hl => sameEd_calls a1 A1 c1 ⟨gb, 0, none⟩ _ W x B1 d1 hx0 (Kd.C_below HR1.out HBR.out) HC1.out hB hc hl)).mono ?_; rintro e w5 ⟨rfl, hb⟩; have HB5 := Aside0.mk (below_step HBR.out hb); clear hb) | fail));(go_ret2);(exact ⟨by first | rfl | (simp only [cw])| simp, HB5.out⟩)


/-! ### spec_EditionOf: function 50 -/
def spec_EditionOf.l0 : Nat → List (S64) → List ByteArray → Int → Option (Int × Int)
 | 0, _, _, _ => none
 | k + 1, x0, x1, x7 => if x7 < (x0.length : Int) then (if 0 ≤ x7 then ((spec_l14Differ.f k ((rd_T64 x0 x7).f1) x1).bind fun t359 => (if t359 = 0 then (some (x7, 0)) else (spec_EditionOf.l0 k x0 x1 (wrap64 (x7 + 1))))) else (none)) else (some (0, 3))
def spec_EditionOf.f (k : Nat) (l0 : List (S64)) (l1 : List ByteArray) : Option (Int × Int) := (spec_l14Code.f k l0 l1).bind fun t357 => (if t357 = 0 then (spec_EditionOf.l0 k l0 l1 0) else (some (0, t357)))
theorem spec_EditionOf.mono_l : ∀ k, (∀ y0 y1 y2, LeO (spec_EditionOf.l0 k y0 y1 y2) (spec_EditionOf.l0 (k + 1) y0 y1 y2))
 | 0 => fun _ _ _ r h => by simp [spec_EditionOf.l0] at h
 | k + 1 => by
  have ih0 := spec_EditionOf.mono_l k
  ·intro y0 y1 y2
   unfold spec_EditionOf.l0
   repeat' first | with_reducible (first | exact ih0 _ _ _ | exact spec_l14Code.mono _ _ _ | exact spec_l14Differ.mono _ _ _ | exact LeO.refl _ | exact LeO.none _ | refine LeO.ite ?_ ?_ | refine LeO.bind ?_ (fun _ => ?_)) | exact ih0 _ _ _ | exact spec_l14Code.mono _ _ _ | exact spec_l14Differ.mono _ _ _ | exact LeO.none _ | refine LeO.ite ?_ ?_ | refine LeO.bind ?_ (fun _ => ?_)
theorem spec_EditionOf.mono : ∀ a0 a1 k, LeO (spec_EditionOf.f k a0 a1) (spec_EditionOf.f (k + 1) a0 a1) := by
 intro a0 a1 k;(have ih0 := spec_EditionOf.mono_l k);(unfold spec_EditionOf.f)
 repeat' first | with_reducible (first | exact ih0 _ _ _ | exact spec_l14Code.mono _ _ _ | exact spec_l14Differ.mono _ _ _ | exact LeO.refl _ | exact LeO.none _ | refine LeO.ite ?_ ?_ | refine LeO.bind ?_ (fun _ => ?_)) | exact ih0 _ _ _ | exact spec_l14Code.mono _ _ _ | exact spec_l14Differ.mono _ _ _ | exact LeO.none _ | refine LeO.ite ?_ ?_ | refine LeO.bind ?_ (fun _ => ?_)
theorem spec_EditionOf.calls (k : Nat) (A0 : Option Addr) (c0 : Nat) (l0 : List (S64)) (A1 : Option Addr) (c1 : Nat) (l1 : List ByteArray) (r1 : Int) (r2 : Int) (w : World) (hr0 : Kd.C k64 w A0 l0.length l0) (hc0 : l0.length ≤ c0) (hr1 : Kd.C Kd.string w A1 l1.length l1) (hc1 : l1.length ≤ c1) (h : spec_EditionOf.f k l0 l1 = some (r1, r2)) :
  Calls Tryd.prog 50 #[.slice A0 l0.length c0, .slice A1 l1.length c1] w fun e w' => e = .returned (.tuple #[.int .i64 r1, .int .i64 r2]) ∧ Below w.heap.size w w' := by
 (have HR0 := Aside0.mk hr0);(have HC0 := Aside0.mk hc0);clear hr0 hc0;(have HR1 := Aside0.mk hr1);(have HC1 := Aside0.mk hc1);clear hr1 hc1;(have HB := Aside0.mk (Below.refl w.heap.size w));(have H : ((spec_l14Code.f k l0 l1).bind fun t357 => (if t357 = 0 then (spec_EditionOf.l0 k l0 l1 0) else (some (0, t357)))) = some (r1, r2) := h);clear h;(replace H := Option.bind_eq_some_iff.mp H);(obtain ⟨t357, A30, H⟩ := H);(replace H : (if t357 = 0 then (spec_EditionOf.l0 k l0 l1 0) else (some (0, t357))) = some (r1, r2) := H);(have A3 := Aside0.mk A30);clear A30;(by_cases c4 : t357 = 0)
 ·rw [if_pos c4] at H
  (have c4b0 : (t357 == 0) = true := beq_iff_eq.mpr c4);(have c4b1 : (t357 != 0) = false := bne_eq_false_iff_eq.mpr c4);clear c4;(have H' := Aside0.mk H);clear H
  go_enter Tryd.func50, Tryd.ntmps50
  go_wp2_with (first | ((with_reducible refine gate_callee (f := 106) rfl ?_); refine goesL_ (some 10) rfl rfl Tryd.func106 (by kernel_rfl) rfl #[.slice A0 l0.length c0, .slice A1 l1.length c1] rfl zq1 ?_; (with_reducible refine (spec_l14Code.calls k _ _ l0 _ _ l1 t357 _ ?side1 ?side2 ?side3 ?side4 A3.out).mono ?_); (case side1 => exact zq88); (case side2 => exact HC0.out); (case side3 => exact zq89); (case side4 => exact HC1.out); rintro e w5 ⟨rfl, hb⟩; refine ⟨_, rfl, ?_⟩; have n0_ := Aside0.mk (below_step zq55 hb); clear HB; have HB := n0_; clear n0_; (try clear hb); (try clear hb2); (try clear hk); (try clear hi)))
  go_loopg [7] k (fun kq v7 w' => ∃ (x7_1 : Int), v7 = .int .i64 x7_1 ∧ Aside0 (spec_EditionOf.l0 kq l0 l1 x7_1 = some (r1, r2)) ∧ Aside0 (kq ≤ k) ∧ Aside0 (Below w.heap.size w w'))
  case atStart => exact ⟨(0), zq35, H', ⟨Nat.le_refl _⟩, ⟨zq55⟩⟩
  case round =>
   clear H';(try clear c1);(try clear p2);(try clear c4);(try clear c4b0);(try clear c4b1);(try clear c5);(obtain ⟨x7_1, rfl, HA, HK1, HB⟩ := hrel)
   cases gk with
   | zero => exact absurd HA.out (by simp [spec_EditionOf.l0])
   | succ k1 =>
    (have H := HA.out);clear HA;(simp only [spec_EditionOf.l0] at H);(by_cases c6 : x7_1 < (l0.length : Int))
    ·rw [if_pos c6] at H
     (have c6b0 : decide (x7_1 < (l0.length : Int)) = true := decide_eq_true c6);clear c6;(by_cases c7 : 0 ≤ x7_1)
     ·rw [if_pos c7] at H
      (have c7b0 : decide (0 ≤ x7_1) = true := decide_eq_true c7);clear c7;(replace H := Option.bind_eq_some_iff.mp H);(obtain ⟨t359, A80, H⟩ := H);(replace H : (if t359 = 0 then (some (x7_1, 0)) else (spec_EditionOf.l0 k1 l0 l1 (wrap64 (x7_1 + 1)))) = some (r1, r2) := H);(have A8 := Aside0.mk A80);clear A80;(by_cases c9 : t359 = 0)
      ·rw [if_pos c9] at H
       (have c9b0 : (t359 == 0) = true := beq_iff_eq.mpr c9);(have c9b1 : (t359 != 0) = false := bne_eq_false_iff_eq.mpr c9);clear c9;(simp only [Option.some.injEq, Prod.mk.injEq] at H);(obtain ⟨rfl, rfl⟩ := H);(have p358 : 0 ≤ (x7_1 : Int) := of_decide_eq_true zq26);(have q358 : x7_1 < (l0.length : Int) := of_decide_eq_true zq26);(obtain ⟨ad358, A358_1, c358_1, e358, hx358_0, hx358_1, hl358_1, hi358_1⟩ := at_T64 HR0.out x7_1 p358 q358)
       cases e358
       (replace hx358_0 := (HB.out.cell (World.block_lt_of_cell? w _ hx358_0)).trans hx358_0);(replace hx358_1 := (HB.out.cell (World.block_lt_of_cell? w _ hx358_1)).trans hx358_1);(have HR358_1 := Aside0.mk hi358_1);(have HC358_1 := Aside0.mk hl358_1);clear hi358_1 hl358_1;(replace p358 := eq_true p358);(replace q358 := eq_true q358);(go_wp2_with (first | ((with_reducible refine gate_callee (f := 107) rfl ?_); refine goesL_ (some 26) rfl rfl Tryd.func107 (by kernel_rfl) rfl #[.slice A358_1 ((rd_T64 l0 x7_1).f1).length c358_1, .slice A1 l1.length c1] rfl zq1 ?_; (with_reducible refine (spec_l14Differ.calls k1 _ _ ((rd_T64 l0 x7_1).f1) _ _ l1 t359 _ ?side1 ?side2 ?side3 ?side4 A8.out).mono ?_); (case side1 => exact zq70); (case side2 => exact HC358_1.out); (case side3 => exact zq64); (case side4 => exact HC1.out); rintro e w10 ⟨rfl, hb⟩; refine ⟨_, rfl, ?_⟩; have n0_ := Aside0.mk (below_step zq55 hb); clear HB; have HB := n0_; clear n0_; (try clear hb); (try clear hb2); (try clear hk); (try clear hi))));(go_ret2);(exact ⟨zq34, zq55⟩)
      ·rw [if_neg c9] at H
       (have c9b0 : (t359 == 0) = false := beq_eq_false_iff_ne.mpr c9);(have c9b1 : (t359 != 0) = true := bne_iff_ne.mpr c9);(have H' := Aside0.mk H);clear H;(have p358 : 0 ≤ (x7_1 : Int) := of_decide_eq_true zq26);(have q358 : x7_1 < (l0.length : Int) := of_decide_eq_true zq26);(obtain ⟨ad358, A358_1, c358_1, e358, hx358_0, hx358_1, hl358_1, hi358_1⟩ := at_T64 HR0.out x7_1 p358 q358)
       cases e358
       (replace hx358_0 := (HB.out.cell (World.block_lt_of_cell? w _ hx358_0)).trans hx358_0);(replace hx358_1 := (HB.out.cell (World.block_lt_of_cell? w _ hx358_1)).trans hx358_1);(have HR358_1 := Aside0.mk hi358_1);(have HC358_1 := Aside0.mk hl358_1);clear hi358_1 hl358_1;(replace p358 := eq_true p358);(replace q358 := eq_true q358);(go_wp2_with (first | ((with_reducible refine gate_callee (f := 107) rfl ?_); refine goesL_ (some 26) rfl rfl Tryd.func107 (by kernel_rfl) rfl #[.slice A358_1 ((rd_T64 l0 x7_1).f1).length c358_1, .slice A1 l1.length c1] rfl zq1 ?_; (with_reducible refine (spec_l14Differ.calls k1 _ _ ((rd_T64 l0 x7_1).f1) _ _ l1 t359 _ ?side1 ?side2 ?side3 ?side4 A8.out).mono ?_); (case side1 => exact zq70); (case side2 => exact HC358_1.out); (case side3 => exact zq64); (case side4 => exact HC1.out); rintro e w11 ⟨rfl, hb⟩; refine ⟨_, rfl, ?_⟩; have n0_ := Aside0.mk (below_step zq55 hb); clear HB; have HB := n0_; clear n0_; (try clear hb); (try clear hb2); (try clear hk); (try clear hi))));(go_roundg k1)
       case measure => have := HK1.out; omega
       case rel => exact ⟨(wrap64 (x7_1 + 1)), zq35, H', ⟨zq41⟩, ⟨zq55⟩⟩
     ·rw [if_neg c7] at H
      exact absurd H (by simp)
    ·rw [if_neg c6] at H
     (have c6b0 : decide (x7_1 < (l0.length : Int)) = false := decide_eq_false c6);clear c6;(simp only [Option.some.injEq, Prod.mk.injEq] at H);(obtain ⟨rfl, rfl⟩ := H);(go_wp2);(go_ret2);(exact ⟨zq34, zq55⟩)
 ·rw [if_neg c4] at H
  (have c4b0 : (t357 == 0) = false := beq_eq_false_iff_ne.mpr c4);(have c4b1 : (t357 != 0) = true := bne_iff_ne.mpr c4);(simp only [Option.some.injEq, Prod.mk.injEq] at H);(obtain ⟨rfl, rfl⟩ := H)
  go_enter Tryd.func50, Tryd.ntmps50
  (go_wp2_with (first | ((with_reducible refine gate_callee (f := 106) rfl ?_); refine goesL_ (some 10) rfl rfl Tryd.func106 (by kernel_rfl) rfl #[.slice A0 l0.length c0, .slice A1 l1.length c1] rfl zq1 ?_; (with_reducible refine (spec_l14Code.calls k _ _ l0 _ _ l1 t357 _ ?side1 ?side2 ?side3 ?side4 A3.out).mono ?_); (case side1 => exact zq88); (case side2 => exact HC0.out); (case side3 => exact zq89); (case side4 => exact HC1.out); rintro e w12 ⟨rfl, hb⟩; refine ⟨_, rfl, ?_⟩; have n0_ := Aside0.mk (below_step zq55 hb); clear HB; have HB := n0_; clear n0_; (try clear hb); (try clear hb2); (try clear hk); (try clear hi))));(go_ret2);(exact ⟨zq34, zq55⟩)

/-! ### spec_l14DrawYear: function 98 -/
def spec_l14DrawYear.f (s0_0 : List Int) (s0_1 : Int) (s0_2 : Int) : Option (Int × Int × Int) := (spec_l00Src_one.f s0_0 s0_1 s0_2 10).bind fun bt360 => (if bt360.1 = true then ((spec_l00Src_among.f s0_0 bt360.2.1 bt360.2.2 (([(-1), 0, 1, 3000, 3001, (-9223372036854775808)] : List Int))).bind fun bt366 => (some (bt366.1, bt366.2.1, bt366.2.2))) else ((spec_l00Src_pick.f s0_0 bt360.2.1 bt360.2.2 250).bind fun bt369 => (some (wrap64 (1650 + bt369.1), bt369.2.1, bt369.2.2))))
theorem spec_l14DrawYear.calls (g : Nat) (s0_0 : List Int) (s0_1 : Int) (s0_2 : Int) (r1 : Int) (r2 : Int) (r3 : Int) (w0 w : World) (hI : IsS134 w0 w g s0_0 s0_1 s0_2) (hB : Below w0.heap.size w0 w) (h : spec_l14DrawYear.f s0_0 s0_1 s0_2 = some (r1, r2, r3)) :
  Calls Tryd.prog 98 #[.pointer (some ⟨g, 0, none⟩)] w fun e w' => e = .returned (.int .i64 r1) ∧ IsS134 w0 w' g s0_0 r2 r3 ∧ Below w0.heap.size w0 w' ∧ KeepBut w w' g none := by
 (have HI0 := Aside0.mk hI);(have HK := Aside0.mk (KeepBut.refl w g none));(have HL := Aside0.mk hB.size);clear hI;(have HW0 := Aside0.mk hB.size);(have HB := Aside0.mk hB);clear hB;(have H : ((spec_l00Src_one.f s0_0 s0_1 s0_2 10).bind fun bt360 => (if bt360.1 = true then ((spec_l00Src_among.f s0_0 bt360.2.1 bt360.2.2 (([(-1), 0, 1, 3000, 3001, (-9223372036854775808)] : List Int))).bind fun bt366 => (some (bt366.1, bt366.2.1, bt366.2.2))) else ((spec_l00Src_pick.f s0_0 bt360.2.1 bt360.2.2 250).bind fun bt369 => (some (wrap64 (1650 + bt369.1), bt369.2.1, bt369.2.2))))) = some (r1, r2, r3) := h);clear h;(replace H := Option.bind_eq_some_iff.mp H);(obtain ⟨⟨t360, t361, t362⟩, A20, H⟩ := H);(replace H : (if t360 = true then ((spec_l00Src_among.f s0_0 t361 t362 (([(-1), 0, 1, 3000, 3001, (-9223372036854775808)] : List Int))).bind fun bt366 => (some (bt366.1, bt366.2.1, bt366.2.2))) else ((spec_l00Src_pick.f s0_0 t361 t362 250).bind fun bt369 => (some (wrap64 (1650 + bt369.1), bt369.2.1, bt369.2.2)))) = some (r1, r2, r3) := H);(have A2 := Aside0.mk A20);clear A20;(by_cases c3 : t360 = true)
 ·subst c3
  (have H1 : ((spec_l00Src_among.f s0_0 t361 t362 (([(-1), 0, 1, 3000, 3001, (-9223372036854775808)] : List Int))).bind fun bt366 => (some (bt366.1, bt366.2.1, bt366.2.2))) = some (r1, r2, r3) := zq93);clear H;(have H := H1);clear H1;(obtain ⟨y363, hy_⟩ : ∃ y_ : List Int, y_ = (([(-1), 0, 1, 3000, 3001, (-9223372036854775808)] : List Int)) := ⟨_, rfl⟩);(replace H : ((spec_l00Src_among.f s0_0 t361 t362 y363).bind fun bt366 => (some (bt366.1, bt366.2.1, bt366.2.2))) = some (r1, r2, r3) := zq25);(have Ny363 := Aside0.mk hy_);clear hy_;(replace H := Option.bind_eq_some_iff.mp H);(obtain ⟨⟨t366, t367, t368⟩, A40, H⟩ := H);(replace H : (some (t366, t367, t368)) = some (r1, r2, r3) := H);(have A4 := Aside0.mk A40);clear A40;(simp only [Option.some.injEq, Prod.mk.injEq] at H);(obtain ⟨rfl, rfl, rfl⟩ := H)
  go_enter Tryd.func98, Tryd.ntmps98
  (go_wp2_with (first | ((with_reducible refine gate_callee (f := 91) rfl ?_); refine goesL_ (some 4) rfl rfl Tryd.func91 (by kernel_rfl) rfl #[.pointer (some ⟨g, 0, none⟩), .int .i64 10] rfl zq1 ?_; (with_reducible refine (spec_l00Src_one.calls g s0_0 s0_1 s0_2 10 true t361 t362 w0 _ ?side1 ?side2 A2.out).mono ?_); (case side1 => exact zq57); (case side2 => exact zq47); rintro e w5 ⟨rfl, hi, hb, hk⟩; refine ⟨_, rfl, ?_⟩; have n0_ := Aside0.mk (KeepBut.trans zq62 hk (.inl rfl)); have n1_ := Aside0.mk (hb); have n2_ := Aside0.mk (hi); clear HK; clear HB; clear HI0; have HK := n0_; have HB := n1_; have HI0 := n2_; clear n0_ n1_ n2_; (try clear hb); (try clear hb2); (try clear hk); (try clear hi)) | ((with_reducible refine gate_dst (N := 6) rfl ?_); refine Kd.R_lit (Kd.int .i64) _ 2 ?hg (N := 6) ?hd (xs := ([(-1), 0, 1, 3000, 3001, (-9223372036854775808)] : List Int)) (inner := [.int .i64 (-1), .int .i64 0, .int .i64 1, .int .i64 3000, .int .i64 3001, .int .i64 (-9223372036854775808)]) (ok := fun _ => True) (okp := fun _ => True) ?hr ?hp (fun _ hk => hk) trivial (Below.refl _ _) (Nat.le_refl _) (by simp) ?_; (case hd => rfl); (case hg => rfl); (case hr => first | (go_simp; done) | (go_simp; rfl)); (case hp => exact (Reps.one (show Kd.M (Kd.int .i64) _ _ _ (-1) [.int .i64 (-1)] from rfl) (Reps.one (show Kd.M (Kd.int .i64) _ _ _ 0 [.int .i64 0] from rfl) (Reps.one (show Kd.M (Kd.int .i64) _ _ _ 1 [.int .i64 1] from rfl) (Reps.one (show Kd.M (Kd.int .i64) _ _ _ 3000 [.int .i64 3000] from rfl) (Reps.one (show Kd.M (Kd.int .i64) _ _ _ 3001 [.int .i64 3001] from rfl) (Reps.one (show Kd.M (Kd.int .i64) _ _ _ (-9223372036854775808) [.int .i64 (-9223372036854775808)] from rfl) (Reps.none _ _)))))))); intro v364 w6 ho7 hb hg_ hnew_; clear hg_ hnew_; (first | rw [← Ny363.out] at ho7 | (simp only [Int.reduceToNat] at ho7; rw [← Ny363.out] at ho7)); have n0_ := Aside0.mk (Kd.R_lower ho7 (keep_size (w := w) (g := g) (row := none) zq62)); have n1_ := Aside0.mk (IsS134.below zq57 hb); have n2_ := Aside0.mk (KeepBut.trans zq62 (KeepBut.of_below hb g none) (.inl rfl)); have n3_ := Aside0.mk (below_step zq47 hb); clear HI0; clear HK; clear HB; have HO365 := n0_; have HI0 := n1_; have HK := n2_; have HB := n3_; clear n0_ n1_ n2_ n3_; clear hb ho7; obtain ⟨Ao8, co8, eo8⟩ := Kd.R_slice HO365.out; subst eo8) | ((with_reducible refine gate_callee (f := 127) rfl ?_); refine goesL_ (some 7) rfl rfl Tryd.func127 (by kernel_rfl) rfl #[.pointer (some ⟨g, 0, none⟩), .slice Ao8 y363.length co8] rfl zq1 ?_; (with_reducible refine (spec_l00Src_among.calls g s0_0 t361 t362 _ _ y363 t366 t367 t368 w0 _ ?side1 ?side2 ?side3 ?side4 ?side5 A4.out).mono ?_); (case side1 => exact zq57); (case side2 => exact zq47); (case side3 => exact by repeat (first | exact (Kd.R_reads' HO365.out).2.2 | (with_reducible refine Kd.C_alloc ?_ _) | (with_reducible refine Kd.C_drewN ?_ _) | (with_reducible refine Kd.C_drew ?_))); (case side4 => exact (Kd.R_reads' HO365.out).2.1); (case side5 => exact far_slice (IsS134.own_ne HI0.out HO365.out (by decide))); rintro e w9 ⟨rfl, hi, hb, hk⟩; refine ⟨_, rfl, ?_⟩; have n0_ := Aside0.mk (Kd.R_mono (Kd.R_keep (IsS134.apart (show IsS134 w0 _ g s0_0 t361 t362 from zq57) (zR HO365.out) (by decide)) hk (fun _ h => h.2)) (fun _ h => h.1)); have n1_ := Aside0.mk (KeepBut.trans zq62 hk (.inl rfl)); have n2_ := Aside0.mk (hb); have n3_ := Aside0.mk (hi); clear HO365; clear HK; clear HB; clear HI0; have HO365 := n0_; have HK := n1_; have HB := n2_; have HI0 := n3_; clear n0_ n1_ n2_ n3_; (try clear hb); (try clear hb2); (try clear hk); (try clear hi))));(go_ret);(exact ⟨zq34, zq57, zq47, zq62⟩)
 ·replace c3 := Bool.eq_false_iff.mpr c3
  subst c3;(have H1 : ((spec_l00Src_pick.f s0_0 t361 t362 250).bind fun bt369 => (some (wrap64 (1650 + bt369.1), bt369.2.1, bt369.2.2))) = some (r1, r2, r3) := zq92);clear H;(have H := H1);clear H1;(replace H := Option.bind_eq_some_iff.mp H);(obtain ⟨⟨t369, t370, t371⟩, A100, H⟩ := H);(replace H : (some (wrap64 (1650 + t369), t370, t371)) = some (r1, r2, r3) := H);(have A10 := Aside0.mk A100);clear A100;(simp only [Option.some.injEq, Prod.mk.injEq] at H);(obtain ⟨rfl, rfl, rfl⟩ := H)
  go_enter Tryd.func98, Tryd.ntmps98
  (go_wp2_with (first | ((with_reducible refine gate_callee (f := 91) rfl ?_); refine goesL_ (some 4) rfl rfl Tryd.func91 (by kernel_rfl) rfl #[.pointer (some ⟨g, 0, none⟩), .int .i64 10] rfl zq1 ?_; (with_reducible refine (spec_l00Src_one.calls g s0_0 s0_1 s0_2 10 false t361 t362 w0 _ ?side1 ?side2 A2.out).mono ?_); (case side1 => exact zq57); (case side2 => exact zq47); rintro e w11 ⟨rfl, hi, hb, hk⟩; refine ⟨_, rfl, ?_⟩; have n0_ := Aside0.mk (KeepBut.trans zq62 hk (.inl rfl)); have n1_ := Aside0.mk (hb); have n2_ := Aside0.mk (hi); clear HK; clear HB; clear HI0; have HK := n0_; have HB := n1_; have HI0 := n2_; clear n0_ n1_ n2_; (try clear hb); (try clear hb2); (try clear hk); (try clear hi)) | ((with_reducible refine gate_callee (f := 102) rfl ?_); refine goesL_ (some 9) rfl rfl Tryd.func102 (by kernel_rfl) rfl #[.pointer (some ⟨g, 0, none⟩), .int .i64 250] rfl zq1 ?_; (with_reducible refine (spec_l00Src_pick.calls g s0_0 t361 t362 250 t369 t370 t371 w0 _ ?side1 ?side2 A10.out).mono ?_); (case side1 => exact zq57); (case side2 => exact zq47); rintro e w12 ⟨rfl, hi, hb, hk⟩; refine ⟨_, rfl, ?_⟩; have n0_ := Aside0.mk (KeepBut.trans zq62 hk (.inl rfl)); have n1_ := Aside0.mk (hb); have n2_ := Aside0.mk (hi); clear HK; clear HB; clear HI0; have HK := n0_; have HB := n1_; have HI0 := n2_; clear n0_ n1_ n2_; (try clear hb); (try clear hb2); (try clear hk); (try clear hi))));(go_ret);(exact ⟨zq34, zq57, zq47, zq62⟩)

/-! ### spec_DrawEditionIn: function 51 -/
def spec_DrawEditionIn.f (k : Nat) (l0 : List Int) : Option ((List (S64)) × Int) := (spec_l00From.f l0).bind fun bt372 => ((spec_l14Draw.f k bt372.1 bt372.2.1 bt372.2.2).bind fun bt376 => ((spec_l14DrawYear.f bt372.1 bt376.2.1 bt376.2.2).bind fun bt381 => (some (bt376.1, bt381.1))))
theorem spec_DrawEditionIn.mono : ∀ a0 k, LeO (spec_DrawEditionIn.f k a0) (spec_DrawEditionIn.f (k + 1) a0) := by
 intro a0 k;(unfold spec_DrawEditionIn.f)
 repeat' first | with_reducible (first | exact spec_l14Draw.mono _ _ _ _ | exact LeO.refl _ | exact LeO.none _ | refine LeO.ite ?_ ?_ | refine LeO.bind ?_ (fun _ => ?_)) | exact spec_l14Draw.mono _ _ _ _ | exact LeO.none _ | refine LeO.ite ?_ ?_ | refine LeO.bind ?_ (fun _ => ?_)
theorem spec_DrawEditionIn.calls (k : Nat) (A0 : Option Addr) (c0 : Nat) (l0 : List Int) (r1 : List (S64)) (r2 : Int) (w : World) (hr0 : Kd.C (Kd.int .u8) w A0 l0.length l0) (hc0 : l0.length ≤ c0) (h : spec_DrawEditionIn.f k l0 = some (r1, r2)) :
  Calls Tryd.prog 51 #[.slice A0 l0.length c0] w fun e w' => ∃ v0_ : Value, e = .returned (.tuple #[v0_, .int .i64 r2]) ∧ Kd.S k64 64 w' w.heap.size (fun _ => True) v0_ r1 ∧ Below w.heap.size w w' := by
 (have HR0 := Aside0.mk hr0);(have HC0 := Aside0.mk hc0);clear hr0 hc0;(have HB := Aside0.mk (Below.refl w.heap.size w));(have H : ((spec_l00From.f l0).bind fun bt372 => ((spec_l14Draw.f k bt372.1 bt372.2.1 bt372.2.2).bind fun bt376 => ((spec_l14DrawYear.f bt372.1 bt376.2.1 bt376.2.2).bind fun bt381 => (some (bt376.1, bt381.1))))) = some (r1, r2) := h);clear h;(replace H := Option.bind_eq_some_iff.mp H);(obtain ⟨⟨t372, t373, t374⟩, A20, H⟩ := H);(replace H : ((spec_l14Draw.f k t372 t373 t374).bind fun bt376 => ((spec_l14DrawYear.f t372 bt376.2.1 bt376.2.2).bind fun bt381 => (some (bt376.1, bt381.1)))) = some (r1, r2) := H);(have A2 := Aside0.mk A20);clear A20;(replace H := Option.bind_eq_some_iff.mp H);(obtain ⟨⟨t376, t379, t380⟩, A30, H⟩ := H);(replace H : ((spec_l14DrawYear.f t372 t379 t380).bind fun bt381 => (some (t376, bt381.1))) = some (r1, r2) := H);(have A3 := Aside0.mk A30);clear A30;(replace H := Option.bind_eq_some_iff.mp H);(obtain ⟨⟨t381, t382, t383⟩, A40, H⟩ := H);(replace H : (some (t376, t381)) = some (r1, r2) := H);(have A4 := Aside0.mk A40);clear A40;(simp only [Option.some.injEq, Prod.mk.injEq] at H);(obtain ⟨rfl, rfl⟩ := H)
 go_enter Tryd.func51, Tryd.ntmps51
 (go_wp2_with (first | ((with_reducible refine gate_callee (f := 89) rfl ?_); refine goesL_ (some 7) rfl rfl Tryd.func89 (by kernel_rfl) rfl #[.slice A0 l0.length c0] rfl zq1 ?_; (with_reducible refine (spec_l00From.calls _ _ l0 t372 t373 t374 w _ ?side1 ?side2 ?side3 A2.out).mono ?_); (case side1 => exact zq55); (case side2 => exact HR0.out); (case side3 => exact HC0.out); rintro e w5 ⟨g375, rfl, hi, hb, hb2⟩; refine ⟨_, rfl, ?_⟩; have n0_ := Aside0.mk (hb); have n1_ := Aside0.mk (hi); clear HB; have HB := n0_; have HI375 := n1_; clear n0_ n1_; (try clear hb); (try clear hb2); (try clear hk); (try clear hi)) | ((with_reducible refine gate_callee (f := 101) rfl ?_); refine goesL_ (some 9) rfl rfl Tryd.func101 (by kernel_rfl) rfl #[.pointer (some ⟨g375, 0, none⟩)] rfl zq1 ?_; (with_reducible refine (spec_l14Draw.calls k g375 t372 t373 t374 t376 t379 t380 w _ ?side1 ?side2 A3.out).mono ?_); (case side1 => exact zq59); (case side2 => exact zq49); rintro e w6 ⟨v377, rfl, ho0, hi, hb, hk⟩; refine ⟨_, rfl, ?_⟩; have n0_ := Aside0.mk (Kd.S_lower ho0 (below_size zq49)); have n1_ := Aside0.mk (hb); have n2_ := Aside0.mk (hi); clear HB; clear HI375; have HO378 := n0_; have HB := n1_; have HI375 := n2_; clear n0_ n1_ n2_; (try clear hb); (try clear hb2); (try clear hk); (try clear hi); (try clear ho0)) | ((with_reducible refine gate_callee (f := 98) rfl ?_); refine goesL_ (some 12) rfl rfl Tryd.func98 (by kernel_rfl) rfl #[.pointer (some ⟨g375, 0, none⟩)] rfl zq1 ?_; (with_reducible refine (spec_l14DrawYear.calls g375 t372 t379 t380 t381 t382 t383 w _ ?side1 ?side2 A4.out).mono ?_); (case side1 => exact zq59); (case side2 => exact zq49); rintro e w7 ⟨rfl, hi, hb, hk⟩; refine ⟨_, rfl, ?_⟩; have n0_ := Aside0.mk (Kd.S_mono (Kd.S_keep (IsS134.apartS (show IsS134 w _ g375 t372 t379 t380 from zq59) zq5 (by decide)) hk (fun _ h => h.2)) (fun _ h => h.1)); have n1_ := Aside0.mk (hb); have n2_ := Aside0.mk (hi); clear HO378; clear HB; clear HI375; have HO378 := n0_; have HB := n1_; have HI375 := n2_; clear n0_ n1_ n2_; (try clear hb); (try clear hb2); (try clear hk); (try clear hi))));(go_ret2);(exact ⟨_, zq34, zq5, zq49⟩)

end Go.Proofs.YtalmeecdjhelkaaDoor.PFnEditions
