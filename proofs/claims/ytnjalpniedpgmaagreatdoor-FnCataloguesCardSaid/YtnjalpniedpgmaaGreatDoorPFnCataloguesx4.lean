-- Made by a program of this session (gprint.py) out of the kit's print of the translation and texts of my own. SLIM
import Derived.Test.YtnjalpniedpgmaaGreatDoorPFnCataloguesx0
import Derived.Test.YtnjalpniedpgmaaGreatDoorPFnCataloguesx3
namespace Go.Proofs.YtnjalpniedpgmaaGreatDoor.PFnCatalogues
open Go.RowKit Go.Proofs.YtnjalpniedpgmaaGreatDoorW.PrintWords Go.Proofs.YtnjalpniedpgmaaGreatDoorW.PrintLast Go.Proofs.YtnjalpniedpgmaaGreatDoorW.PrintMore
set_option maxHeartbeats 64000000
set_option maxRecDepth 100000
attribute [local go_sem] max2_int min2_int max_two min_two max_three min_three max_four min_four   -- for this text's walks alone
set_option linter.unusedVariables false
set_option linter.unusedSimpArgs false

/-! ### impl_ValidCatalogue: function 21 -/
-- given by hand

theorem idxStar_rd (l0 : List S40) (x5 : Int) (h0 : 0 ≤ x5) (hlt : x5 < (l0.length : Int)) : (rd_T40 l0 x5) = l0[x5.toNat]'(by omega) := by
 (unfold rd_T40);(rw [List.getD_eq_getElem?_getD, List.getElem?_eq_getElem (show x5.toNat < l0.length by omega)]);rfl
def idxStar_v (p : S40 → Bool) (l : List S40) : Int := if l.any p then (l.findIdx p : Int) else -1
theorem idxStar_calls (p : S40 → Bool) (gg : Nat) (lb : Array Value) (eg : ∀ args w, (callFunc gg args).run Tryz.prog w = .ok (.enter gg args) w) (A0 : Option Addr) (c0 : Nat) (l0 : List S40) (w : World) (hr0 : Kd.C k40 w A0 l0.length l0)
  (hp : ∀ (W : World) (x : S40), Below w.heap.size w W → Calls Tryz.prog gg (#[.agg #[.string x.f0, .int .i64 x.f1, .int .i64 x.f2.f0, .int .i64 x.f2.f1]] ++ lb) W fun e w' => e = .returned (.bool (p x)) ∧ Below w.heap.size w w') :
  Calls Tryz.prog 67 #[.slice A0 l0.length c0, .func (.func gg) #[] lb] w fun e w' => e = .returned (.int .i64 (idxStar_v p l0)) ∧ Below w.heap.size w w' := by
 (have HR := Aside0.mk hr0);(have HM := Kd.C_max hr0);clear hr0;(have HP := Aside0.mk hp);clear hp
 go_enter Tryz.func67, Tryz.ntmps67
 go_wp2
 go_loopg [5, 8] l0.length (fun gk _ s8 wr => ∃ x5 : Int, s8 = .int .i64 x5 ∧ 0 ≤ x5 ∧ x5 ≤ (l0.length : Int) ∧ (l0.length : Int) - x5 ≤ gk ∧ Aside0 (Below w.heap.size w wr) ∧ Aside0 (∀ j, (h : j < l0.length) → (j : Int) < x5 → p l0[j] = false))
 case atStart => exact ⟨0, rfl, by omega, by omega, by omega, ⟨Below.refl _ w⟩, ⟨fun j h hj => by omega⟩⟩
 case round =>
  (obtain ⟨x5, rfl, h0, h1, hg, BW, AA⟩ := hrel);(by_cases hlt : x5 < (l0.length : Int))
  ·have c4b0 : decide (x5 < (l0.length : Int)) = true := decide_eq_true hlt
   obtain ⟨ad, he, hx0, hx1, hx2, hx3⟩ := at_T40 HR.out x5 h0 (show x5 < (l0.length : Int) from hlt)
   cases he
   (replace hx0 := (BW.out.cell (World.block_lt_of_cell? w _ hx0)).trans hx0);(replace hx1 := (BW.out.cell (World.block_lt_of_cell? w _ hx1)).trans hx1);(replace hx2 := (BW.out.cell (World.block_lt_of_cell? w _ hx2)).trans hx2);(replace hx3 := (BW.out.cell (World.block_lt_of_cell? w _ hx3)).trans hx3);(have HY := Aside0.mk (idxStar_rd l0 x5 h0 hlt));(have hcall := HP.out wr (rd_T40 l0 x5) BW.out)
   cases hq : p (rd_T40 l0 x5) with
   | true =>
    (rw [hq] at hcall);(have HQ := Aside0.mk hq);clear hq;(go_wp2_with (go_at_fn gg; refine hcall.mono ?_; rintro e w' ⟨rfl, hb'⟩));(go_ret);(refine ⟨?_, hb'⟩);(have hy := HY.out);(have hqq := HQ.out);(have hall := AA.out)
    have e : idxStar_v p l0 = x5 := by
     (unfold idxStar_v);(rw [if_pos (List.any_eq_true.2 ⟨l0[x5.toNat]'(by omega), List.getElem_mem _, by rw [← hy]; exact hqq⟩)])
     have : l0.findIdx p = x5.toNat := by
      (rw [List.findIdx_eq (by omega)]);(refine ⟨by rw [← hy]; exact hqq, fun j hj => hall j (by omega) (by omega)⟩)
     omega
    (rw [e]);rfl
   | false =>
    (rw [hq] at hcall);(have HQ := Aside0.mk hq);clear hq;(go_wp2_with (go_at_fn gg; refine hcall.mono ?_; rintro e w' ⟨rfl, hb'⟩));(go_roundg (l0.length - (x5.toNat + 1)))
    case measure => omega
    case rel =>
     (refine ⟨x5 + 1, by first | rfl | go_num, by omega, by omega, by omega, ⟨hb'⟩, ⟨fun j h hj => ?_⟩⟩);(by_cases ee : (j : Int) = x5)
     ·have hy := HY.out
      (have hqq := HQ.out);(rw [hy] at hqq);(have : j = x5.toNat := by omega);subst this;(exact hqq)
     ·exact AA.out j h (by omega)
  ·have c4b0 : decide (x5 < (l0.length : Int)) = false := decide_eq_false hlt
   (go_wp2);(go_ret);(refine ⟨?_, BW.out⟩)
   have e : idxStar_v p l0 = -1 := by
    (unfold idxStar_v);(rw [if_neg]);intro h;(obtain ⟨x, hx, hpx⟩ := List.any_eq_true.1 h);(obtain ⟨j, hj, rfl⟩ := List.getElem_of_mem hx);(have := AA.out j hj (by omega));(rw [hpx] at this)
    cases this
   (rw [e]);rfl
theorem idxStar_nonneg (p : S40 → Bool) (l : List S40) : decide (0 ≤ idxStar_v p l) = l.any p := by
 unfold idxStar_v
 cases h : l.any p
 ·simp
 ·simp

theorem conStar_calls (p : S40 → Bool) (gg : Nat) (lb : Array Value) (eg : ∀ args w, (callFunc gg args).run Tryz.prog w = .ok (.enter gg args) w) (A0 : Option Addr) (c0 : Nat) (l0 : List S40) (w : World) (hr0 : Kd.C k40 w A0 l0.length l0)
  (hp : ∀ (W : World) (x : S40), Below w.heap.size w W → Calls Tryz.prog gg (#[.agg #[.string x.f0, .int .i64 x.f1, .int .i64 x.f2.f0, .int .i64 x.f2.f1]] ++ lb) W fun e w' => e = .returned (.bool (p x)) ∧ Below w.heap.size w w') :
  Calls Tryz.prog 45 #[.slice A0 l0.length c0, .func (.func gg) #[] lb] w fun e w' => e = .returned (.bool (l0.any p)) ∧ Below w.heap.size w w' := by
 (have hI := idxStar_calls p gg lb eg A0 c0 l0 w hr0 hp);(have HN := Aside0.mk (idxStar_nonneg p l0));(generalize idxStar_v p l0 = vv at hI HN);(generalize l0.any p = bb at HN ⊢);clear hp hr0
 go_enter Tryz.func45, Tryz.ntmps45
 (go_wp2_with (go_at_call 67; refine hI.mono ?_; rintro e w' ⟨rfl, hb'⟩));(go_ret);(exact ⟨by rw [← HN.out]; rfl, hb'⟩)

theorem pIsName_some (s : ByteArray) : ∃ b, impl_IsName.f s = some b := by
 (unfold impl_IsName.f);(by_cases h0 : (s.size : Int) < 1)
 ·rw [if_pos h0]; exact ⟨_, rfl⟩
 ·rw [if_neg h0]
  by_cases h1 : (s.size : Int) > 12
  ·rw [if_pos h1]; exact ⟨_, rfl⟩
  ·rw [if_neg h1, if_pos (by omega)]
   by_cases h2 : bt s 0 < 97
   ·rw [if_pos h2]; exact ⟨_, rfl⟩
   ·rw [if_neg h2]
    by_cases h3 : bt s 0 > 122
    ·rw [if_pos h3]; exact ⟨_, rfl⟩
    ·rw [if_neg h3]
     (unfold strings_Trim.f);(rw [if_pos ⟨by omega, by decide, by decide +kernel⟩]);(exact ⟨_, rfl⟩)

theorem pStar_some (x : S40) : ∃ b, impl_isStar.f x.f0 x.f1 x.f2.f0 x.f2.f1 = some b := by
 (have hn := pIsName_some x.f0);(obtain ⟨b, hb⟩ := hn);(unfold impl_isStar.f impl_isClass.f impl_within.f impl_ValidSpot.f impl_within.f);(rw [hb])
 repeat' (first | split | simp only [Option.bind_some])
 all_goals exact ⟨_, rfl⟩
def starB (x : S40) : Bool := (impl_isStar.f x.f0 x.f1 x.f2.f0 x.f2.f1).getD false
theorem starB_eq (x : S40) : impl_isStar.f x.f0 x.f1 x.f2.f0 x.f2.f1 = some (starB x) := by
 (obtain ⟨b, hb⟩ := pStar_some x);(unfold starB);(rw [hb]);rfl
def starAt (l : List S40) (j : Nat) : Bool := starB (rd_T40 l j) && !(l.take j).any (fun y => y.f0.toList == (rd_T40 l j).f0.toList)
theorem sameName_calls (s : ByteArray) (box : Addr) (w W : World) (x : S40) (hc : w.cell? box = some (.string s)) (hB : Below w.heap.size w W) :
  Calls Tryz.prog 46 (#[.agg #[.string x.f0, .int .i64 x.f1, .int .i64 x.f2.f0, .int .i64 x.f2.f1]] ++ #[.pointer (some box)]) W fun e w' => e = .returned (.bool (x.f0.toList == s.toList)) ∧ Below w.heap.size w w' := by
 have hc2 : W.cell? box = some (.string s) := (hB.cell (World.block_lt_of_cell? w _ hc)).trans hc
 show Calls Tryz.prog 46 #[.agg #[.string x.f0, .int .i64 x.f1, .int .i64 x.f2.f0, .int .i64 x.f2.f1], .pointer (some box)] W _
 (have HB := Aside0.mk hB);(have HX := Aside0.mk (World.block_lt_of_cell? W _ hc2));clear hB hc;(have ha : ∀ o : Obj, (W.alloc o).cell? box = some (.string s) := fun o => ((below_alloc (Below.refl W.heap.size W) o).cell HX.out).trans hc2)
 cases x with
 | mk f0 f1 f2 =>
 cases f2 with
 | mk g0 g1 =>
 go_enter Tryz.func46, Tryz.ntmps46
 (go_wp2);(go_ret);(exact ⟨by first | rfl | simp, by repeat (first | exact HB.out | apply below_alloc | apply pw_below_drewN | apply below_drew1)⟩)
theorem cat_con (A0 : Option Addr) (c0 : Nat) (l0 : List S40) (x7 : Int) (h0 : 0 ≤ x7) (h1 : x7 ≤ (l0.length : Int)) (box : Addr) (s : ByteArray) (w : World) (hr : Kd.C k40 w A0 l0.length l0) (hc : w.cell? box = some (.string s)) :
  Calls Tryz.prog 45 #[.slice A0 x7.toNat c0, .func (.func 46) #[] #[.pointer (some box)]] w fun e w' => e = .returned (.bool ((l0.take x7.toNat).any (fun y => y.f0.toList == s.toList))) ∧ Below w.heap.size w w' := by
 (have hlen : (l0.take x7.toNat).length = x7.toNat := by rw [List.length_take]; omega);(have h := conStar_calls (fun y => y.f0.toList == s.toList) 46 #[.pointer (some box)] (enters_of Tryz.func46 (by kernel_rfl) rfl) A0 c0 (l0.take x7.toNat) w (Kd.C_take hr (by omega)) (fun W x hB => sameName_calls s box w W x hc hB));(rw [hlen] at h);(exact h)
def impl_ValidCatalogue.f (l0 : List S40) : Option Bool := some ((List.range l0.length).all (starAt l0) && decide ((l0.length : Int) ≤ 30))
theorem impl_ValidCatalogue.calls (A0 : Option Addr) (c0 : Nat) (l0 : List S40) (r : Bool) (w : World) (hr0 : Kd.C k40 w A0 l0.length l0) (hc0 : l0.length ≤ c0) (h : impl_ValidCatalogue.f l0 = some r) :
  Calls Tryz.prog 21 #[.slice A0 l0.length c0] w fun e w' => e = .returned (.bool r) ∧ Below w.heap.size w w' := by
 (have HH := Aside0.mk (Option.some.inj h).symm);clear h;(have HR := Aside0.mk hr0);(have HM := Kd.C_max hr0);(have HC := Aside0.mk hc0);clear hr0 hc0
 go_enter Tryz.func21, Tryz.ntmps21
 go_wp2
 go_loopg [7] l0.length (fun gk s7 wr => ∃ x7 : Int, s7 = .int .i64 x7 ∧ 0 ≤ x7 ∧ x7 ≤ (l0.length : Int) ∧ (l0.length : Int) - x7 ≤ gk ∧ Aside0 (Below w.heap.size w wr) ∧ Aside0 (∀ j : Nat, (j : Int) < x7 → starAt l0 j = true))
 case atStart => exact ⟨0, rfl, by omega, by omega, by omega, ⟨Below.refl _ w⟩, ⟨fun j hj => by omega⟩⟩
 case round =>
  (obtain ⟨x7, rfl, h0, h1, hg, HB, AA⟩ := hrel);(by_cases hlt : x7 < (l0.length : Int))
  ·have c8b0 : decide (x7 < (l0.length : Int)) = true := decide_eq_true hlt
   obtain ⟨ad, he, hx0, hx1, hx2, hx3⟩ := at_T40 HR.out x7 h0 hlt
   cases he
   (replace hx0 := (HB.out.cell (World.block_lt_of_cell? w _ hx0)).trans hx0);(replace hx1 := (HB.out.cell (World.block_lt_of_cell? w _ hx1)).trans hx1);(replace hx2 := (HB.out.cell (World.block_lt_of_cell? w _ hx2)).trans hx2);(replace hx3 := (HB.out.cell (World.block_lt_of_cell? w _ hx3)).trans hx3);(obtain ⟨ii, hii, _⟩ := Option.map_eq_some_iff.1 info40);(have hcut : ∀ W : World, (Instr.slice 24 (.slice (some ad) l0.length c0) none (some (.int .i64 x7)) none).run Tryz.prog W = .ok (.slice (some ad) x7.toNat c0) W := cut_to 24 40 .i64 Tryz.underlying24 hii (some ad) l0.length c0 x7 h0 (by omega) HC.out);clear hii;(have HS := Aside0.mk (starB_eq (rd_T40 l0 x7)));(have HXA := Aside0.mk (show starAt l0 x7.toNat = (starB (rd_T40 l0 x7) && !(l0.take x7.toNat).any (fun y => y.f0.toList == (rd_T40 l0 x7).f0.toList)) by unfold starAt; rw [show ((x7.toNat : Nat) : Int) = x7 by omega]))
   cases hb1 : starB (rd_T40 l0 x7) with
   | false =>
    (rw [hb1] at HS HXA);clear hb1
    have HF : (List.range l0.length).all (starAt l0) = false := by
     (rw [List.all_eq_false]);(exact ⟨x7.toNat, List.mem_range.2 (by omega), by rw [HXA.out]; simp⟩)
    (have HF2 := Aside0.mk HF);clear HF;(go_wp2_with (first | ((with_reducible refine gate_dst (N := 4) rfl ?_); refine box_event ?hg (N := 4) ?hd (cs := #[.string (⟨#[]⟩ : ByteArray), .int .i64 0, .int .i64 0, .int .i64 0]) (t := 40) ?hr ?_; (case hd => rfl); (case hg => rfl); (case hr => first | (go_simp; done) | (go_simp; rfl)); intro gb hg w1 hbox hb; have n0_ := Aside0.mk (below_step zq66 hb); have n1_ := Aside0.mk (hbox); have n2_ := Aside0.mk ((zq90 : w.heap.size ≤ gb)); clear HB; have HB := n0_; have BK := n1_; have GE := n2_; clear n0_ n1_ n2_; clear hb hbox hg; have hcz_0 : w1.cell? ⟨gb, 0, none⟩ = some (.string (⟨#[]⟩ : ByteArray)) := (blk_cell BK.out 0).trans rfl; have hcz_1 : w1.cell? ⟨gb, 1, none⟩ = some (.int .i64 0) := (blk_cell BK.out 1).trans rfl; have hcz_2 : w1.cell? ⟨gb, 2, none⟩ = some (.int .i64 0) := (blk_cell BK.out 2).trans rfl; have hcz_3 : w1.cell? ⟨gb, 3, none⟩ = some (.int .i64 0) := (blk_cell BK.out 3).trans rfl; have hfz_0 := blk_frozen BK.out 0; have hfz_1 := blk_frozen BK.out 1; have hfz_2 := blk_frozen BK.out 2; have hfz_3 := blk_frozen BK.out 3) | (go_at_call 38; refine (impl_isStar.calls (rd_T40 l0 x7).f0 (rd_T40 l0 x7).f1 (rd_T40 l0 x7).f2.f0 (rd_T40 l0 x7).f2.f1 false _ HS.out).mono ?_; rintro e w2 ⟨rfl, hb⟩; have n1_ := Aside0.mk (blk_below (g := gb) (o := .cells #[.string (rd_T40 l0 x7).f0, .int .i64 (rd_T40 l0 x7).f1, .int .i64 (rd_T40 l0 x7).f2.f0, .int .i64 (rd_T40 l0 x7).f2.f1] 40 (0, 0)) zq24 hb); have n2_ := Aside0.mk (below_step zq50 hb); clear BK; clear HB; have BK := n1_; have HB := n2_; clear n1_ n2_; clear hb)));(go_ret);(exact ⟨by rw [HH.out, HF2.out]; rfl, HB.out⟩)
   | true =>
    (rw [hb1] at HS HXA);clear hb1
    cases hq : (l0.take x7.toNat).any (fun y => y.f0.toList == (rd_T40 l0 x7).f0.toList) with
    | true =>
     (have HQ := Aside0.mk hq);clear hq
     have HF : (List.range l0.length).all (starAt l0) = false := by
      (rw [List.all_eq_false]);(exact ⟨x7.toNat, List.mem_range.2 (by omega), by rw [HXA.out, HQ.out]; simp⟩)
     (have HF2 := Aside0.mk HF);clear HF;(go_wp2_with (first | ((with_reducible refine gate_dst (N := 4) rfl ?_); refine box_event ?hg (N := 4) ?hd (cs := #[.string (⟨#[]⟩ : ByteArray), .int .i64 0, .int .i64 0, .int .i64 0]) (t := 40) ?hr ?_; (case hd => rfl); (case hg => rfl); (case hr => first | (go_simp; done) | (go_simp; rfl)); intro gb hg w1 hbox hb; have n0_ := Aside0.mk (below_step zq66 hb); have n1_ := Aside0.mk (hbox); have n2_ := Aside0.mk ((zq90 : w.heap.size ≤ gb)); clear HB; have HB := n0_; have BK := n1_; have GE := n2_; clear n0_ n1_ n2_; clear hb hbox hg; have hcz_0 : w1.cell? ⟨gb, 0, none⟩ = some (.string (⟨#[]⟩ : ByteArray)) := (blk_cell BK.out 0).trans rfl; have hcz_1 : w1.cell? ⟨gb, 1, none⟩ = some (.int .i64 0) := (blk_cell BK.out 1).trans rfl; have hcz_2 : w1.cell? ⟨gb, 2, none⟩ = some (.int .i64 0) := (blk_cell BK.out 2).trans rfl; have hcz_3 : w1.cell? ⟨gb, 3, none⟩ = some (.int .i64 0) := (blk_cell BK.out 3).trans rfl; have hfz_0 := blk_frozen BK.out 0; have hfz_1 := blk_frozen BK.out 1; have hfz_2 := blk_frozen BK.out 2; have hfz_3 := blk_frozen BK.out 3) | (go_at_call 38; refine (impl_isStar.calls (rd_T40 l0 x7).f0 (rd_T40 l0 x7).f1 (rd_T40 l0 x7).f2.f0 (rd_T40 l0 x7).f2.f1 true _ HS.out).mono ?_; rintro e w2 ⟨rfl, hb⟩; have n1_ := Aside0.mk (blk_below (g := gb) (o := .cells #[.string (rd_T40 l0 x7).f0, .int .i64 (rd_T40 l0 x7).f1, .int .i64 (rd_T40 l0 x7).f2.f0, .int .i64 (rd_T40 l0 x7).f2.f1] 40 (0, 0)) zq24 hb); have n2_ := Aside0.mk (below_step zq50 hb); clear BK; clear HB; have BK := n1_; have HB := n2_; clear n1_ n2_; clear hb) | (go_at_call 45; refine (cat_con _ c0 l0 x7 h0 (Int.le_of_lt hlt) ⟨gb, 0, none⟩ (rd_T40 l0 x7).f0 _ (Kd.C_below HR.out HB.out) ((blk_cell BK.out 0).trans rfl)).mono ?_; rw [HQ.out]; rintro e w3 ⟨rfl, hb⟩; have n2_ := Aside0.mk (below_step HB.out hb); clear HB; have HB := n2_; clear n2_ hb)));(go_ret);(exact ⟨by rw [HH.out, HF2.out]; rfl, HB.out⟩)
    | false =>
     (have HQ := Aside0.mk hq);clear hq;(go_wp2_with (first | ((with_reducible refine gate_dst (N := 4) rfl ?_); refine box_event ?hg (N := 4) ?hd (cs := #[.string (⟨#[]⟩ : ByteArray), .int .i64 0, .int .i64 0, .int .i64 0]) (t := 40) ?hr ?_; (case hd => rfl); (case hg => rfl); (case hr => first | (go_simp; done) | (go_simp; rfl)); intro gb hg w1 hbox hb; have n0_ := Aside0.mk (below_step zq66 hb); have n1_ := Aside0.mk (hbox); have n2_ := Aside0.mk ((zq90 : w.heap.size ≤ gb)); clear HB; have HB := n0_; have BK := n1_; have GE := n2_; clear n0_ n1_ n2_; clear hb hbox hg; have hcz_0 : w1.cell? ⟨gb, 0, none⟩ = some (.string (⟨#[]⟩ : ByteArray)) := (blk_cell BK.out 0).trans rfl; have hcz_1 : w1.cell? ⟨gb, 1, none⟩ = some (.int .i64 0) := (blk_cell BK.out 1).trans rfl; have hcz_2 : w1.cell? ⟨gb, 2, none⟩ = some (.int .i64 0) := (blk_cell BK.out 2).trans rfl; have hcz_3 : w1.cell? ⟨gb, 3, none⟩ = some (.int .i64 0) := (blk_cell BK.out 3).trans rfl; have hfz_0 := blk_frozen BK.out 0; have hfz_1 := blk_frozen BK.out 1; have hfz_2 := blk_frozen BK.out 2; have hfz_3 := blk_frozen BK.out 3) | (go_at_call 38; refine (impl_isStar.calls (rd_T40 l0 x7).f0 (rd_T40 l0 x7).f1 (rd_T40 l0 x7).f2.f0 (rd_T40 l0 x7).f2.f1 true _ HS.out).mono ?_; rintro e w2 ⟨rfl, hb⟩; have n1_ := Aside0.mk (blk_below (g := gb) (o := .cells #[.string (rd_T40 l0 x7).f0, .int .i64 (rd_T40 l0 x7).f1, .int .i64 (rd_T40 l0 x7).f2.f0, .int .i64 (rd_T40 l0 x7).f2.f1] 40 (0, 0)) zq24 hb); have n2_ := Aside0.mk (below_step zq50 hb); clear BK; clear HB; have BK := n1_; have HB := n2_; clear n1_ n2_; clear hb) | (go_at_call 45; refine (cat_con _ c0 l0 x7 h0 (Int.le_of_lt hlt) ⟨gb, 0, none⟩ (rd_T40 l0 x7).f0 _ (Kd.C_below HR.out HB.out) ((blk_cell BK.out 0).trans rfl)).mono ?_; rw [HQ.out]; rintro e w3 ⟨rfl, hb⟩; have n2_ := Aside0.mk (below_step HB.out hb); clear HB; have HB := n2_; clear n2_ hb)));(go_roundg (l0.length - (x7.toNat + 1)))
     case measure => omega
     case rel =>
      (refine ⟨x7 + 1, by first | rfl | go_num, by omega, by omega, by omega, ⟨HB.out⟩, ⟨fun j hj => ?_⟩⟩);(by_cases ee : (j : Int) = x7)
      ·have : j = x7.toNat := by omega
       subst this;(rw [HXA.out, HQ.out]);rfl
      ·exact AA.out j (by omega)
  ·have c8b0 : decide (x7 < (l0.length : Int)) = false := decide_eq_false hlt
   have HF : (List.range l0.length).all (starAt l0) = true := by
    (rw [List.all_eq_true]);intro j hj;(exact AA.out j (by have := List.mem_range.1 hj; omega))
   (have HF2 := Aside0.mk HF);clear HF;(go_wp2);(go_ret);(exact ⟨by rw [HH.out, HF2.out]; rfl, HB.out⟩)


/-! ### impl_check: function 30 -/
def impl_check.f (a0 : Bool) (a1 : Bool) : Option (Int) := if a0 = true then (if a1 = true then (some 0) else (some 2)) else (some 1)
theorem impl_check.calls (a0 : Bool) (a1 : Bool) (r : Int) (w : World) (h : impl_check.f a0 a1 = some r) :
  Calls Tryz.prog 30 #[.bool a0, .bool a1] w fun e w' => e = .returned (.int .i64 r) ∧ Drawn0 w w' := by
 (have H : (if a0 = true then (if a1 = true then (some 0) else (some 2)) else (some 1)) = some r := h);clear h;(by_cases c3 : a0 = true)
 ·subst c3
  (have H1 : (if a1 = true then (some 0) else (some 2)) = some r := zq97);clear H;(have H := H1);clear H1;(by_cases c4 : a1 = true)
  ·subst c4
   (have H1 : (some 0) = some r := zq97);clear H;(have H := H1);clear H1;(obtain rfl := Option.some.inj H)
   go_enter Tryz.func30, Tryz.ntmps30
   (go_wp2);(go_ret);(exact ⟨zq34, zq87⟩)
  ·replace c4 := Bool.eq_false_iff.mpr c4
   subst c4;(have H1 : (some 2) = some r := zq96);clear H;(have H := H1);clear H1;(obtain rfl := Option.some.inj H)
   go_enter Tryz.func30, Tryz.ntmps30
   (go_wp2);(go_ret);(exact ⟨zq34, zq87⟩)
 ·replace c3 := Bool.eq_false_iff.mpr c3
  subst c3;(have H1 : (some 1) = some r := zq96);clear H;(have H := H1);clear H1;(obtain rfl := Option.some.inj H)
  go_enter Tryz.func30, Tryz.ntmps30
  (go_wp2);(go_ret);(exact ⟨zq34, zq87⟩)

/-! ### impl_BrighterThan: function 6 -/
def impl_BrighterThan.l0 : Nat → Int → List Int → List (S40) → Int → Int → Option (List Int × Int)
 | 0, _, _, _, _, _ => none
 | k + 1, x1, x7, x19, x20, x21 => if x21 < x20 then (if 0 ≤ x21 then (if x21 < (x19.length : Int) then (if ((rd_T40 x19 x21).f1) ≤ x1 then (if x7.length < 17592186044416 then (impl_BrighterThan.l0 k x1 (x7 ++ [x21]) x19 x20 (wrap64 (x21 + 1))) else (none)) else (impl_BrighterThan.l0 k x1 x7 x19 x20 (wrap64 (x21 + 1)))) else (none)) else (none)) else (some (x7, 0))
def impl_BrighterThan.f (k : Nat) (l0 : List (S40)) (a1 : Int) : Option (List Int × Int) := (impl_ValidCatalogue.f l0).bind fun t271 => ((impl_isClass.f a1).bind fun t272 => ((impl_check.f t271 t272).bind fun t273 => (if t273 = 0 then (impl_BrighterThan.l0 k a1 (([] : List Int)) l0 (l0.length : Int) 0) else (some (([] : List Int), t273)))))
theorem impl_BrighterThan.mono_l : ∀ k, (∀ y0 y1 y2 y3 y4, LeO (impl_BrighterThan.l0 k y0 y1 y2 y3 y4) (impl_BrighterThan.l0 (k + 1) y0 y1 y2 y3 y4))
 | 0 => fun _ _ _ _ _ r h => by simp [impl_BrighterThan.l0] at h
 | k + 1 => by
  have ih0 := impl_BrighterThan.mono_l k
  ·intro y0 y1 y2 y3 y4
   unfold impl_BrighterThan.l0
   repeat' first | with_reducible (first | exact ih0 _ _ _ _ _ | exact LeO.refl _ | exact LeO.none _ | refine LeO.ite ?_ ?_ | refine LeO.bind ?_ (fun _ => ?_)) | exact ih0 _ _ _ _ _ | exact LeO.none _ | refine LeO.ite ?_ ?_ | refine LeO.bind ?_ (fun _ => ?_)
theorem impl_BrighterThan.mono : ∀ a0 a1 k, LeO (impl_BrighterThan.f k a0 a1) (impl_BrighterThan.f (k + 1) a0 a1) := by
 intro a0 a1 k;(have ih0 := impl_BrighterThan.mono_l k);(unfold impl_BrighterThan.f)
 repeat' first | with_reducible (first | exact ih0 _ _ _ _ _ | exact LeO.refl _ | exact LeO.none _ | refine LeO.ite ?_ ?_ | refine LeO.bind ?_ (fun _ => ?_)) | exact ih0 _ _ _ _ _ | exact LeO.none _ | refine LeO.ite ?_ ?_ | refine LeO.bind ?_ (fun _ => ?_)
theorem impl_BrighterThan.calls (k : Nat) (A0 : Option Addr) (c0 : Nat) (l0 : List (S40)) (a1 : Int) (r1 : List Int) (r2 : Int) (w : World) (hr0 : Kd.C k40 w A0 l0.length l0) (hc0 : l0.length ≤ c0) (h : impl_BrighterThan.f k l0 a1 = some (r1, r2)) :
  Calls Tryz.prog 6 #[.slice A0 l0.length c0, .int .i64 a1] w fun e w' => ∃ v0_ : Value, e = .returned (.tuple #[v0_, .int .i64 r2]) ∧ Kd.R (Kd.int .i64) 2 w' w.heap.size (fun _ => True) v0_ r1 ∧ Below w.heap.size w w' := by
 (have hu40 := Tryz.underlying40);(have HR0 := Aside0.mk hr0);(have HC0 := Aside0.mk hc0);clear hr0 hc0;(have HB := Aside0.mk (Below.refl w.heap.size w));(have H : ((impl_ValidCatalogue.f l0).bind fun t271 => ((impl_isClass.f a1).bind fun t272 => ((impl_check.f t271 t272).bind fun t273 => (if t273 = 0 then (impl_BrighterThan.l0 k a1 (([] : List Int)) l0 (l0.length : Int) 0) else (some (([] : List Int), t273)))))) = some (r1, r2) := h);clear h;(replace H := Option.bind_eq_some_iff.mp H);(obtain ⟨t271, A30, H⟩ := H);(replace H : ((impl_isClass.f a1).bind fun t272 => ((impl_check.f t271 t272).bind fun t273 => (if t273 = 0 then (impl_BrighterThan.l0 k a1 (([] : List Int)) l0 (l0.length : Int) 0) else (some (([] : List Int), t273))))) = some (r1, r2) := H);(have A3 := Aside0.mk A30);clear A30;(replace H := Option.bind_eq_some_iff.mp H);(obtain ⟨t272, A40, H⟩ := H);(replace H : ((impl_check.f t271 t272).bind fun t273 => (if t273 = 0 then (impl_BrighterThan.l0 k a1 (([] : List Int)) l0 (l0.length : Int) 0) else (some (([] : List Int), t273)))) = some (r1, r2) := H);(have A4 := Aside0.mk A40);clear A40;(replace H := Option.bind_eq_some_iff.mp H);(obtain ⟨t273, A50, H⟩ := H);(replace H : (if t273 = 0 then (impl_BrighterThan.l0 k a1 (([] : List Int)) l0 (l0.length : Int) 0) else (some (([] : List Int), t273))) = some (r1, r2) := H);(have A5 := Aside0.mk A50);clear A50;(by_cases c6 : t273 = 0)
 ·rw [if_pos c6] at H
  (have c6b0 : (t273 == 0) = true := beq_iff_eq.mpr c6);(have c6b1 : (t273 != 0) = false := bne_eq_false_iff_eq.mpr c6);clear c6;(obtain ⟨y274, hy_⟩ : ∃ y_ : List Int, y_ = (([] : List Int)) := ⟨_, rfl⟩);(replace H : (impl_BrighterThan.l0 k a1 y274 l0 (l0.length : Int) 0) = some (r1, r2) := zq26);(have Ny274 := Aside0.mk hy_);clear hy_;(have H' := Aside0.mk H);clear H
  go_enter Tryz.func6, Tryz.ntmps6
  go_wp2_with (first | ((with_reducible refine gate_callee (f := 21) rfl ?_); refine goesL_ (some 11) rfl rfl Tryz.func21 (by kernel_rfl) rfl #[.slice A0 l0.length c0] rfl zq0 ?_; (with_reducible refine (impl_ValidCatalogue.calls _ _ l0 t271 _ ?side1 ?side2 A3.out).mono ?_); (case side1 => exact zq88); (case side2 => exact HC0.out); rintro e w7 ⟨rfl, hb⟩; refine ⟨_, rfl, ?_⟩; have n0_ := Aside0.mk (below_step zq66 hb); clear HB; have HB := n0_; clear n0_; (try clear hb); (try clear hb2); (try clear hk); (try clear hi)) | ((with_reducible refine gate_callee (f := 31) rfl ?_); refine goesL_ (some 13) rfl rfl Tryz.func31 (by kernel_rfl) rfl #[.int .i64 a1] rfl zq0 ?_; (with_reducible refine (impl_isClass.calls a1 t272 _ A4.out).mono ?_); rintro e w' ⟨rfl, ⟨nd, rfl⟩⟩; refine ⟨_, rfl, ?_⟩) | ((with_reducible refine gate_callee (f := 30) rfl ?_); refine goesL_ (some 14) rfl rfl Tryz.func30 (by kernel_rfl) rfl #[.bool t271, .bool t272] rfl zq0 ?_; (with_reducible refine (impl_check.calls t271 t272 t273 _ A5.out).mono ?_); rintro e w' ⟨rfl, ⟨nd, rfl⟩⟩; refine ⟨_, rfl, ?_⟩) | ((with_reducible refine gate_dst (N := 18) rfl ?_); refine Kd.R_lit (Kd.int .i64) _ 2 ?hg (N := 18) ?hd (xs := ([] : List Int)) (inner := []) (ok := fun _ => True) (okp := fun _ => True) ?hr ?hp (fun _ hk => hk) trivial (Below.refl _ _) (Nat.le_refl _) (by simp) ?_; (case hd => rfl); (case hg => rfl); (case hr => first | (go_simp; done) | (go_simp; rfl)); (case hp => exact (Reps.none _ _)); intro v275 w8 ho9 hb hg_ hnew_; clear hg_ hnew_; (first | rw [← Ny274.out] at ho9 | (simp only [Int.reduceToNat] at ho9; rw [← Ny274.out] at ho9)); have n0_ := Aside0.mk (Kd.R_lower ho9 (below_size zq66)); have n1_ := Aside0.mk (below_step zq66 hb); clear HB; have HO276 := n0_; have HB := n1_; clear n0_ n1_; clear hb ho9))
  go_loopg [7, 21] k (fun kq v7 v21 w' => ∃ (x7_1 : List Int) (x21_1 : Int), v21 = .int .i64 x21_1 ∧ Aside0 (impl_BrighterThan.l0 kq a1 x7_1 l0 (l0.length : Int) x21_1 = some (r1, r2)) ∧ Aside0 (kq ≤ k) ∧ Aside0 (Kd.R (Kd.int .i64) 2 w' w.heap.size (fun _ => True) v7 x7_1) ∧ Aside0 (Below w.heap.size w w'))
  case atStart => exact ⟨(y274), (0), zq34, H', ⟨Nat.le_refl _⟩, ⟨zR HO276.out⟩, ⟨zq66⟩⟩
  case round =>
   clear H';(try clear c2);(try clear p2);(try clear c3);(try clear c6);(try clear c6b0);(try clear c6b1);(obtain ⟨x7_1, x21_1, rfl, HA, HK1, HO_7, HB⟩ := hrel)
   cases gk with
   | zero => exact absurd HA.out (by simp [impl_BrighterThan.l0])
   | succ k1 =>
    (have H := HA.out);clear HA;(simp only [impl_BrighterThan.l0] at H);(by_cases c10 : x21_1 < (l0.length : Int))
    ·rw [if_pos c10] at H
     (have c10b0 : decide (x21_1 < (l0.length : Int)) = true := decide_eq_true c10);clear c10;(by_cases c11 : 0 ≤ x21_1)
     ·rw [if_pos c11] at H
      (have c11b0 : decide (0 ≤ x21_1) = true := decide_eq_true c11);clear c11;(by_cases c12 : x21_1 < (l0.length : Int))
      ·rw [if_pos c12] at H
       (have c12b0 : decide (x21_1 < (l0.length : Int)) = true := decide_eq_true c12);clear c12;(by_cases c13 : ((rd_T40 l0 x21_1).f1) ≤ a1)
       ·rw [if_pos c13] at H
        (have c13b0 : decide (((rd_T40 l0 x21_1).f1) ≤ a1) = true := decide_eq_true c13);clear c13;(by_cases c14 : x7_1.length < 17592186044416)
        ·rw [if_pos c14] at H
         (have LMc14 := Aside0.mk c14);clear c14;(obtain ⟨y279, hy_⟩ : ∃ y_ : List Int, y_ = (x7_1 ++ [x21_1]) := ⟨_, rfl⟩);(replace H : (impl_BrighterThan.l0 k1 a1 y279 l0 (l0.length : Int) (wrap64 (x21_1 + 1))) = some (r1, r2) := zq26);(have Ny279 := Aside0.mk hy_);clear hy_;(have H' := Aside0.mk H);clear H;(have p277 : 0 ≤ (x21_1 : Int) := of_decide_eq_true zq27);(have q277 : x21_1 < (l0.length : Int) := of_decide_eq_true zq27);(obtain ⟨ad277, e277, hx277_0, hx277_1, hx277_2, hx277_3⟩ := at_T40 HR0.out x21_1 p277 q277)
         cases e277
         (replace hx277_0 := (HB.out.cell (World.block_lt_of_cell? w _ hx277_0)).trans hx277_0);(replace hx277_1 := (HB.out.cell (World.block_lt_of_cell? w _ hx277_1)).trans hx277_1);(replace hx277_2 := (HB.out.cell (World.block_lt_of_cell? w _ hx277_2)).trans hx277_2);(replace hx277_3 := (HB.out.cell (World.block_lt_of_cell? w _ hx277_3)).trans hx277_3);(replace p277 := eq_true p277);(replace q277 := eq_true q277);(go_wp2_with (first | ((with_reducible refine gate_dst (N := 9) rfl ?_); refine box_event ?hg (N := 9) ?hd (cs := #[.string (⟨#[]⟩ : ByteArray), .int .i64 0, .int .i64 0, .int .i64 0]) (t := 40) ?hr ?_; (case hd => rfl); (case hg => rfl); (case hr => first | (go_simp; done) | (go_simp; rfl)); intro gb278 hg w15 hbox hb; have n0_ := Aside0.mk (Kd.R_below (zR HO_7.out) hb); have n1_ := Aside0.mk (below_step zq66 hb); have n2_ := Aside0.mk (hbox); have n3_ := Aside0.mk ((zq90 : w.heap.size ≤ gb278)); have n4_ := Aside0.mk ((zq90 : w.heap.size ≤ gb278)); clear HO_7; clear HB; have HO_7 := n0_; have HB := n1_; have BK278 := n2_; have GW278 := n3_; have GE278 := n4_; clear n0_ n1_ n2_ n3_ n4_; clear hb hbox hg; have hcz16_0 : w15.cell? ⟨gb278, 0, none⟩ = some (.string (⟨#[]⟩ : ByteArray)) := (blk_cell BK278.out 0).trans rfl; have hcz16_1 : w15.cell? ⟨gb278, 1, none⟩ = some (.int .i64 0) := (blk_cell BK278.out 1).trans rfl; have hcz16_2 : w15.cell? ⟨gb278, 2, none⟩ = some (.int .i64 0) := (blk_cell BK278.out 2).trans rfl; have hcz16_3 : w15.cell? ⟨gb278, 3, none⟩ = some (.int .i64 0) := (blk_cell BK278.out 3).trans rfl; have hfz16_0 := blk_frozen BK278.out 0; have hfz16_1 := blk_frozen BK278.out 1; have hfz16_2 := blk_frozen BK278.out 2; have hfz16_3 := blk_frozen BK278.out 3) | ((with_reducible refine gate_builtin (b := .append) (xs := #[.tmp 30, .tmp 32]) rfl ?_); at_builtin; refine Kd.R_append (Kd.int .i64) (w0 := w) w.heap.size rfl (.tmp 30) (.tmp 32) 27 2 (.int .i64 0) 8 rfl Tryz.underlying27 info2 rfl (by decide) (by omega) u7 x7_1 x21_1 [.int .i64 x21_1] (fun _ => True) (fun _ => False) rfl (by first | (go_simp; done) | (go_simp; rfl)) ?aP (fun _ hk => hk.elim) ?aF ?aO ?aB ?aS ?aL ?_; (case aP => exact rfl); (case aB => exact zq53); (case aF => exact (fun _ _ => trivial)); (case aO => exact zq2); (case aS => exact (below_size zq53)); (case aL => have := LMc14.out; omega); intro v280 w17 ho hb hg hat; rw [← Ny279.out] at ho; have n0_ := Aside0.mk (blk_grown (g := gb278) (o := .cells #[.string ((rd_T40 l0 x21_1).f0), .int .i64 ((rd_T40 l0 x21_1).f1), .int .i64 ((rd_T40 l0 x21_1).f2.f0), .int .i64 ((rd_T40 l0 x21_1).f2.f1)] 40 (0, 0)) (by (with_reducible repeat (first | refine blk_drewN ?_ _ | refine blk_drew ?_ | refine blk_alloc ?_ _)); refine blk_put (cs := #[.string ((rd_T40 l0 x21_1).f0), .int .i64 ((rd_T40 l0 x21_1).f1), .int .i64 ((rd_T40 l0 x21_1).f2.f0), .int .i64 0]) ?_ 3 _ rfl; (with_reducible repeat (first | refine blk_drewN ?_ _ | refine blk_drew ?_ | refine blk_alloc ?_ _)); refine blk_put (cs := #[.string ((rd_T40 l0 x21_1).f0), .int .i64 ((rd_T40 l0 x21_1).f1), .int .i64 0, .int .i64 0]) ?_ 2 _ rfl; (with_reducible repeat (first | refine blk_drewN ?_ _ | refine blk_drew ?_ | refine blk_alloc ?_ _)); refine blk_put (cs := #[.string ((rd_T40 l0 x21_1).f0), .int .i64 0, .int .i64 0, .int .i64 0]) ?_ 1 _ rfl; (with_reducible repeat (first | refine blk_drewN ?_ _ | refine blk_drew ?_ | refine blk_alloc ?_ _)); refine blk_put (cs := #[.string (⟨#[]⟩ : ByteArray), .int .i64 0, .int .i64 0, .int .i64 0]) ?_ 0 _ rfl; (with_reducible repeat (first | refine blk_drewN ?_ _ | refine blk_drew ?_ | refine blk_alloc ?_ _)); exact BK278.out) hg (Kd.R_ne HO_7.out BK278.out (by decide))); have n1_ := Aside0.mk (hb); have n2_ := Aside0.mk (ho); clear BK278; clear HB; clear HO_7; have BK278 := n0_; have HB := n1_; have HO281 := n2_; clear n0_ n1_ n2_; clear ho hb hg hat)));(go_roundg k1)
         case measure => have := HK1.out; omega
         case rel => exact ⟨(y279), (wrap64 (x21_1 + 1)), zq34, H', ⟨zq40⟩, ⟨zR HO281.out⟩, ⟨zq53⟩⟩
        ·rw [if_neg c14] at H
         exact absurd H (by simp)
       ·rw [if_neg c13] at H
        (have c13b0 : decide (((rd_T40 l0 x21_1).f1) ≤ a1) = false := decide_eq_false c13);clear c13;(have H' := Aside0.mk H);clear H;(have p277 : 0 ≤ (x21_1 : Int) := of_decide_eq_true zq27);(have q277 : x21_1 < (l0.length : Int) := of_decide_eq_true zq27);(obtain ⟨ad277, e277, hx277_0, hx277_1, hx277_2, hx277_3⟩ := at_T40 HR0.out x21_1 p277 q277)
        cases e277
        (replace hx277_0 := (HB.out.cell (World.block_lt_of_cell? w _ hx277_0)).trans hx277_0);(replace hx277_1 := (HB.out.cell (World.block_lt_of_cell? w _ hx277_1)).trans hx277_1);(replace hx277_2 := (HB.out.cell (World.block_lt_of_cell? w _ hx277_2)).trans hx277_2);(replace hx277_3 := (HB.out.cell (World.block_lt_of_cell? w _ hx277_3)).trans hx277_3);(replace p277 := eq_true p277);(replace q277 := eq_true q277);(go_wp2_with (first | ((with_reducible refine gate_dst (N := 9) rfl ?_); refine box_event ?hg (N := 9) ?hd (cs := #[.string (⟨#[]⟩ : ByteArray), .int .i64 0, .int .i64 0, .int .i64 0]) (t := 40) ?hr ?_; (case hd => rfl); (case hg => rfl); (case hr => first | (go_simp; done) | (go_simp; rfl)); intro gb278 hg w18 hbox hb; have n0_ := Aside0.mk (Kd.R_below (zR HO_7.out) hb); have n1_ := Aside0.mk (below_step zq66 hb); have n2_ := Aside0.mk (hbox); have n3_ := Aside0.mk ((zq90 : w.heap.size ≤ gb278)); have n4_ := Aside0.mk ((zq90 : w.heap.size ≤ gb278)); clear HO_7; clear HB; have HO_7 := n0_; have HB := n1_; have BK278 := n2_; have GW278 := n3_; have GE278 := n4_; clear n0_ n1_ n2_ n3_ n4_; clear hb hbox hg; have hcz19_0 : w18.cell? ⟨gb278, 0, none⟩ = some (.string (⟨#[]⟩ : ByteArray)) := (blk_cell BK278.out 0).trans rfl; have hcz19_1 : w18.cell? ⟨gb278, 1, none⟩ = some (.int .i64 0) := (blk_cell BK278.out 1).trans rfl; have hcz19_2 : w18.cell? ⟨gb278, 2, none⟩ = some (.int .i64 0) := (blk_cell BK278.out 2).trans rfl; have hcz19_3 : w18.cell? ⟨gb278, 3, none⟩ = some (.int .i64 0) := (blk_cell BK278.out 3).trans rfl; have hfz19_0 := blk_frozen BK278.out 0; have hfz19_1 := blk_frozen BK278.out 1; have hfz19_2 := blk_frozen BK278.out 2; have hfz19_3 := blk_frozen BK278.out 3)));(go_roundg k1)
        case measure => have := HK1.out; omega
        case rel => exact ⟨(x7_1), (wrap64 (x21_1 + 1)), zq34, H', ⟨zq40⟩, ⟨zq2⟩, ⟨zq53⟩⟩
      ·rw [if_neg c12] at H
       exact absurd H (by simp)
     ·rw [if_neg c11] at H
      exact absurd H (by simp)
    ·rw [if_neg c10] at H
     (have c10b0 : decide (x21_1 < (l0.length : Int)) = false := decide_eq_false c10);clear c10;(simp only [Option.some.injEq, Prod.mk.injEq] at H);(obtain ⟨rfl, rfl⟩ := H);(go_wp2);(go_ret2);(exact ⟨_, zq31, zR HO_7.out, zq66⟩)
 ·rw [if_neg c6] at H
  (have c6b0 : (t273 == 0) = false := beq_eq_false_iff_ne.mpr c6);(have c6b1 : (t273 != 0) = true := bne_iff_ne.mpr c6);(simp only [Option.some.injEq, Prod.mk.injEq] at H);(obtain ⟨rfl, rfl⟩ := H)
  go_enter Tryz.func6, Tryz.ntmps6
  (go_wp2_with (first | ((with_reducible refine gate_callee (f := 21) rfl ?_); refine goesL_ (some 11) rfl rfl Tryz.func21 (by kernel_rfl) rfl #[.slice A0 l0.length c0] rfl zq0 ?_; (with_reducible refine (impl_ValidCatalogue.calls _ _ l0 t271 _ ?side1 ?side2 A3.out).mono ?_); (case side1 => exact zq88); (case side2 => exact HC0.out); rintro e w20 ⟨rfl, hb⟩; refine ⟨_, rfl, ?_⟩; have n0_ := Aside0.mk (below_step zq66 hb); clear HB; have HB := n0_; clear n0_; (try clear hb); (try clear hb2); (try clear hk); (try clear hi)) | ((with_reducible refine gate_callee (f := 31) rfl ?_); refine goesL_ (some 13) rfl rfl Tryz.func31 (by kernel_rfl) rfl #[.int .i64 a1] rfl zq0 ?_; (with_reducible refine (impl_isClass.calls a1 t272 _ A4.out).mono ?_); rintro e w' ⟨rfl, ⟨nd, rfl⟩⟩; refine ⟨_, rfl, ?_⟩) | ((with_reducible refine gate_callee (f := 30) rfl ?_); refine goesL_ (some 14) rfl rfl Tryz.func30 (by kernel_rfl) rfl #[.bool t271, .bool t272] rfl zq0 ?_; (with_reducible refine (impl_check.calls t271 t272 t273 _ A5.out).mono ?_); rintro e w' ⟨rfl, ⟨nd, rfl⟩⟩; refine ⟨_, rfl, ?_⟩)));(go_ret2);(exact ⟨_, zq31, zq28, zq66⟩)

/-! ### spec_l00In: function 33 -/
def spec_l00In.f (a0 : Int) (a1 : Int) (a2 : Int) : Option (Bool) := if a0 ≥ a1 then (some (decide (a0 ≤ a2))) else (some false)
theorem spec_l00In.calls (a0 : Int) (a1 : Int) (a2 : Int) (r : Bool) (w : World) (h : spec_l00In.f a0 a1 a2 = some r) :
  Calls Tryz.prog 33 #[.int .i64 a0, .int .i64 a1, .int .i64 a2] w fun e w' => e = .returned (.bool r) ∧ Drawn0 w w' := by
 (have H : (if a0 ≥ a1 then (some (decide (a0 ≤ a2))) else (some false)) = some r := h);clear h;(by_cases c4 : a0 ≥ a1)
 ·rw [if_pos c4] at H
  (have c4b0 : decide (a1 ≤ a0) = true := decide_eq_true c4);clear c4;(obtain rfl := Option.some.inj H)
  go_enter Tryz.func33, Tryz.ntmps33
  (go_wp2);(go_ret);(exact ⟨zq34, zq87⟩)
 ·rw [if_neg c4] at H
  (have c4b0 : decide (a1 ≤ a0) = false := decide_eq_false c4);clear c4;(obtain rfl := Option.some.inj H)
  go_enter Tryz.func33, Tryz.ntmps33
  (go_wp2);(go_ret);(exact ⟨zq34, zq87⟩)

/-! ### spec_l01Small: function 76 -/
def spec_l01Small.f (a0 : Int) : Option (Bool) := if a0 ≥ 97 then (some (decide (a0 ≤ 122))) else (some false)
theorem spec_l01Small.calls (a0 : Int) (r : Bool) (w : World) (h : spec_l01Small.f a0 = some r) :
  Calls Tryz.prog 76 #[.int .u8 a0] w fun e w' => e = .returned (.bool r) ∧ Drawn0 w w' := by
 (have H : (if a0 ≥ 97 then (some (decide (a0 ≤ 122))) else (some false)) = some r := h);clear h;(by_cases c2 : a0 ≥ 97)
 ·rw [if_pos c2] at H
  (have c2b0 : decide (97 ≤ a0) = true := decide_eq_true c2);clear c2;(obtain rfl := Option.some.inj H)
  go_enter Tryz.func76, Tryz.ntmps76
  (go_wp2);(go_ret);(exact ⟨zq34, zq87⟩)
 ·rw [if_neg c2] at H
  (have c2b0 : decide (97 ≤ a0) = false := decide_eq_false c2);clear c2;(obtain rfl := Option.some.inj H)
  go_enter Tryz.func76, Tryz.ntmps76
  (go_wp2);(go_ret);(exact ⟨zq34, zq87⟩)

/-! ### spec_l01Digit: function 77 -/
def spec_l01Digit.f (a0 : Int) : Option (Bool) := if a0 ≥ 48 then (some (decide (a0 ≤ 57))) else (some false)
theorem spec_l01Digit.calls (a0 : Int) (r : Bool) (w : World) (h : spec_l01Digit.f a0 = some r) :
  Calls Tryz.prog 77 #[.int .u8 a0] w fun e w' => e = .returned (.bool r) ∧ Drawn0 w w' := by
 (have H : (if a0 ≥ 48 then (some (decide (a0 ≤ 57))) else (some false)) = some r := h);clear h;(by_cases c2 : a0 ≥ 48)
 ·rw [if_pos c2] at H
  (have c2b0 : decide (48 ≤ a0) = true := decide_eq_true c2);clear c2;(obtain rfl := Option.some.inj H)
  go_enter Tryz.func77, Tryz.ntmps77
  (go_wp2);(go_ret);(exact ⟨zq34, zq87⟩)
 ·rw [if_neg c2] at H
  (have c2b0 : decide (48 ≤ a0) = false := decide_eq_false c2);clear c2;(obtain rfl := Option.some.inj H)
  go_enter Tryz.func77, Tryz.ntmps77
  (go_wp2);(go_ret);(exact ⟨zq34, zq87⟩)

/-! ### spec_IsName: function 61 -/
mutual
def spec_IsName.j0 : Nat → ByteArray → Bool → Option (Bool)
 | 0, _, _ => none
 | k + 1, x0, x16 => if x16 = true then (some false) else (spec_IsName.l0 k x0 0)
def spec_IsName.l0 : Nat → ByteArray → Int → Option (Bool)
 | 0, _, _ => none
 | k + 1, x0, x3 => if x3 < (x0.size : Int) then (if 0 ≤ x3 then ((spec_l01Small.f (bt x0 x3)).bind fun t283 => (if t283 = true then (spec_IsName.l0 k x0 (wrap64 (x3 + 1))) else ((spec_l01Digit.f (bt x0 x3)).bind fun t284 => (if t284 = true then (spec_IsName.l0 k x0 (wrap64 (x3 + 1))) else (if (bt x0 x3) = 45 then (spec_IsName.l0 k x0 (wrap64 (x3 + 1))) else (some false)))))) else (none)) else (some true)
end
def spec_IsName.f (k : Nat) (a0 : ByteArray) : Option (Bool) := if a0.toList = ([] : List UInt8) then (spec_IsName.j0 k a0 true) else (if (a0.size : Int) > 12 then (spec_IsName.j0 k a0 true) else (if 0 < (a0.size : Int) then ((spec_l01Small.f (bt a0 0)).bind fun t282 => (spec_IsName.j0 k a0 (!t282))) else (none)))
theorem spec_IsName.mono_l : ∀ k, (∀ y0 y1, LeO (spec_IsName.j0 k y0 y1) (spec_IsName.j0 (k + 1) y0 y1)) ∧ (∀ y0 y1, LeO (spec_IsName.l0 k y0 y1) (spec_IsName.l0 (k + 1) y0 y1))
 | 0 => ⟨fun _ _ r h => by simp [spec_IsName.j0] at h, fun _ _ r h => by simp [spec_IsName.l0] at h⟩
 | k + 1 => by
  (obtain ⟨ih0, ih1⟩ := spec_IsName.mono_l k);(refine ⟨?_, ?_⟩)
  ·intro y0 y1
   unfold spec_IsName.j0
   repeat' first | with_reducible (first | exact ih0 _ _ | exact ih1 _ _ | exact LeO.refl _ | exact LeO.none _ | refine LeO.ite ?_ ?_ | refine LeO.bind ?_ (fun _ => ?_)) | exact ih0 _ _ | exact ih1 _ _ | exact LeO.none _ | refine LeO.ite ?_ ?_ | refine LeO.bind ?_ (fun _ => ?_)
  ·intro y0 y1
   unfold spec_IsName.l0
   repeat' first | with_reducible (first | exact ih0 _ _ | exact ih1 _ _ | exact LeO.refl _ | exact LeO.none _ | refine LeO.ite ?_ ?_ | refine LeO.bind ?_ (fun _ => ?_)) | exact ih0 _ _ | exact ih1 _ _ | exact LeO.none _ | refine LeO.ite ?_ ?_ | refine LeO.bind ?_ (fun _ => ?_)
theorem spec_IsName.mono : ∀ a0 k, LeO (spec_IsName.f k a0) (spec_IsName.f (k + 1) a0) := by
 intro a0 k;(obtain ⟨ih0, ih1⟩ := spec_IsName.mono_l k);(unfold spec_IsName.f)
 repeat' first | with_reducible (first | exact ih0 _ _ | exact ih1 _ _ | exact LeO.refl _ | exact LeO.none _ | refine LeO.ite ?_ ?_ | refine LeO.bind ?_ (fun _ => ?_)) | exact ih0 _ _ | exact ih1 _ _ | exact LeO.none _ | refine LeO.ite ?_ ?_ | refine LeO.bind ?_ (fun _ => ?_)
theorem spec_IsName.calls (k : Nat) (a0 : ByteArray) (r : Bool) (w : World) (h : spec_IsName.f k a0 = some r) :
  Calls Tryz.prog 61 #[.string a0] w fun e w' => e = .returned (.bool r) ∧ Drawn0 w w' := by
 (have H : (if a0.toList = ([] : List UInt8) then (spec_IsName.j0 k a0 true) else (if (a0.size : Int) > 12 then (spec_IsName.j0 k a0 true) else (if 0 < (a0.size : Int) then ((spec_l01Small.f (bt a0 0)).bind fun t282 => (spec_IsName.j0 k a0 (!t282))) else (none)))) = some r := h);clear h;(have HC2 := Aside0.mk H);clear H
 go_enter Tryz.func61, Tryz.ntmps61
 go_upto_region 1 with (fail)
 go_cut [16] (fun v16 wc => ∃ (kq : Nat) (x16_1 : Bool), v16 = .bool x16_1 ∧ Aside0 (spec_IsName.j0 kq a0 x16_1 = some r) ∧ Aside0 (kq ≤ k) ∧ Drawn0 w wc)
 case first =>
  (have H := HC2.out);clear HC2;(by_cases c3 : a0.toList = ([] : List UInt8))
  ·rw [if_pos c3] at H
   (have c3b0 : (a0.toList == ([] : List UInt8)) = true := beq_iff_eq.mpr c3);(have c3b1 : (a0.toList != ([] : List UInt8)) = false := bne_eq_false_iff_eq.mpr c3);clear c3;((first | rw [c3b0] | (simp only [i64_w, i32_w]; rw [c3b0]) | skip));(have H' := Aside0.mk H);clear H;(go_wp2)
   go_meet
   case rel => exact ⟨_, (true), zq34, H', ⟨zq30⟩, zq87⟩
  ·rw [if_neg c3] at H
   (have c3b0 : (a0.toList == ([] : List UInt8)) = false := beq_eq_false_iff_ne.mpr c3);(have c3b1 : (a0.toList != ([] : List UInt8)) = true := bne_iff_ne.mpr c3);((first | rw [c3b0] | (simp only [i64_w, i32_w]; rw [c3b0]) | skip));(by_cases c4 : (a0.size : Int) > 12)
   ·rw [if_pos c4] at H
    (have c4b0 : decide (12 < (a0.size : Int)) = true := decide_eq_true c4);(have c4b1 : decide (12 < a0.size) = true := decide_eq_true (by omega));clear c4;(have H' := Aside0.mk H);clear H;(go_wp2)
    go_meet
    case rel => exact ⟨_, (true), zq34, H', ⟨zq30⟩, zq87⟩
   ·rw [if_neg c4] at H
    (have c4b0 : decide (12 < (a0.size : Int)) = false := decide_eq_false c4);(have c4b1 : decide (12 < a0.size) = false := decide_eq_false (by omega));clear c4;(by_cases c5 : 0 < (a0.size : Int))
    ·rw [if_pos c5] at H
     (have c5b0 : decide (0 < (a0.size : Int)) = true := decide_eq_true c5);(have c5b1 : decide (0 < a0.size) = true := decide_eq_true (by omega));clear c5;(replace H := Option.bind_eq_some_iff.mp H);(obtain ⟨t282, A70, H⟩ := H);(replace H : (spec_IsName.j0 k a0 (!t282)) = some r := H);(have A7 := Aside0.mk A70);clear A70;(have H' := Aside0.mk H);clear H;(have p6 : 0 ≤ (0 : Int) := (by omega));(have q6 : 0 < a0.size := (by have : (0 : Int) < (a0.size : Int) := of_decide_eq_true zq27; omega));(have hx6 : ∀ h : 0 < a0.size, ((a0[0]'h).toNat : Int) = bt a0 0 := bt_at a0 0);clear p6;(have qi6 : (0 < (a0.size : Int)) = True := eq_true (of_decide_eq_true zq27));(replace q6 := eq_true q6);(go_wp2_with (first | (go_at_call 76; (with_reducible refine (spec_l01Small.calls (bt a0 0) t282 _ A7.out).mono ?_); rintro e w' ⟨rfl, ⟨nd, rfl⟩⟩)))
     go_meet
     case rel => exact ⟨_, (!t282), zq34, H', ⟨zq30⟩, zq87⟩
    ·rw [if_neg c5] at H
     exact absurd H (by simp)
 case rest =>
  clear HC2;(try clear p2);(try clear c3);(try clear c3b0);(try clear c3b1);(try clear c4);(try clear c4b0);(try clear c4b1);(try clear c5);(try clear c5b0);(try clear c5b1);(try clear c6);(try clear p6);(try clear q6);(try clear hx6);(try clear qi6);(try clear p6);(try clear q6);(obtain ⟨kq, x16_1, rfl, HA, HJ1, ⟨mc1, rfl⟩⟩ := hcut)
  cases kq with
  | zero => exact absurd HA.out (by simp [spec_IsName.j0])
  | succ kj1 =>
   (have H := HA.out);clear HA;(simp only [spec_IsName.j0] at H);(by_cases c8 : x16_1 = true)
   ·subst c8
    (have H1 : (some false) = some r := zq97);clear H;(have H := H1);clear H1;(obtain rfl := Option.some.inj H);(go_wp2);(go_ret);(exact ⟨zq34, zq87⟩)
   ·replace c8 := Bool.eq_false_iff.mpr c8
    subst c8;(have H1 : (spec_IsName.l0 kj1 a0 0) = some r := zq96);clear H;(have H := H1);clear H1;(have H' := Aside0.mk H);clear H;(go_wp2)
    go_loopg [3] kj1 (fun kq v3 w' => ∃ (x3_2 : Int), v3 = .int .i64 x3_2 ∧ Aside0 (spec_IsName.l0 kq a0 x3_2 = some r) ∧ Aside0 (kq ≤ kj1) ∧ Drawn0 w w')
    case atStart => exact ⟨(0), zq34, H', ⟨Nat.le_refl _⟩, zq87⟩
    case round =>
     clear H';(try clear c1);(try clear p2);(try clear c3);(try clear c3b0);(try clear c3b1);(try clear c4);(try clear c4b0);(try clear c4b1);(try clear c5);(try clear c5b0);(try clear c5b1);(try clear c6);(try clear p6);(try clear q6);(try clear hx6);(try clear qi6);(try clear c8);(try clear p2);(try clear p6);(try clear q6);(obtain ⟨x3_2, rfl, HA, HK2, ⟨m2, rfl⟩⟩ := hrel)
     cases gk with
     | zero => exact absurd HA.out (by simp [spec_IsName.l0])
     | succ k2 =>
      (have H := HA.out);clear HA;(simp only [spec_IsName.l0] at H);(by_cases c9 : x3_2 < (a0.size : Int))
      ·rw [if_pos c9] at H
       (have c9b0 : decide (x3_2 < (a0.size : Int)) = true := decide_eq_true c9);clear c9;(by_cases c10 : 0 ≤ x3_2)
       ·rw [if_pos c10] at H
        (have c10b0 : decide (0 ≤ x3_2) = true := decide_eq_true c10);clear c10;(replace H := Option.bind_eq_some_iff.mp H);(obtain ⟨t283, A120, H⟩ := H);(replace H : (if t283 = true then (spec_IsName.l0 k2 a0 (wrap64 (x3_2 + 1))) else ((spec_l01Digit.f (bt a0 x3_2)).bind fun t284 => (if t284 = true then (spec_IsName.l0 k2 a0 (wrap64 (x3_2 + 1))) else (if (bt a0 x3_2) = 45 then (spec_IsName.l0 k2 a0 (wrap64 (x3_2 + 1))) else (some false))))) = some r := H);(have A12 := Aside0.mk A120);clear A120;(by_cases c13 : t283 = true)
        ·subst c13
         (have H1 : (spec_IsName.l0 k2 a0 (wrap64 (x3_2 + 1))) = some r := zq97);clear H;(have H := H1);clear H1;(have H' := Aside0.mk H);clear H;(have p11 : 0 ≤ (x3_2 : Int) := of_decide_eq_true zq27);(have q11 : x3_2 < (a0.size : Int) := of_decide_eq_true zq27);(have hx11 := bt_at a0 x3_2);(replace p11 := eq_true p11);(replace q11 := eq_true q11);(go_wp2_with (first | ((with_reducible refine gate_callee (f := 76) rfl ?_); refine goesL_ (some 26) rfl rfl Tryz.func76 (by kernel_rfl) rfl #[.int .u8 (bt a0 x3_2)] rfl zq0 ?_; (with_reducible refine (spec_l01Small.calls (bt a0 x3_2) true _ A12.out).mono ?_); rintro e w' ⟨rfl, ⟨nd, rfl⟩⟩; refine ⟨_, rfl, ?_⟩)));(go_roundg k2)
         case measure => have := HJ1.out; have := HK2.out; omega
         case rel => exact ⟨(wrap64 (x3_2 + 1)), zq34, H', ⟨zq35⟩, zq87⟩
        ·replace c13 := Bool.eq_false_iff.mpr c13
         subst c13;(have H1 : ((spec_l01Digit.f (bt a0 x3_2)).bind fun t284 => (if t284 = true then (spec_IsName.l0 k2 a0 (wrap64 (x3_2 + 1))) else (if (bt a0 x3_2) = 45 then (spec_IsName.l0 k2 a0 (wrap64 (x3_2 + 1))) else (some false)))) = some r := zq96);clear H;(have H := H1);clear H1;(replace H := Option.bind_eq_some_iff.mp H);(obtain ⟨t284, A150, H⟩ := H);(replace H : (if t284 = true then (spec_IsName.l0 k2 a0 (wrap64 (x3_2 + 1))) else (if (bt a0 x3_2) = 45 then (spec_IsName.l0 k2 a0 (wrap64 (x3_2 + 1))) else (some false))) = some r := H);(have A15 := Aside0.mk A150);clear A150;(by_cases c16 : t284 = true)
         ·subst c16
          (have H1 : (spec_IsName.l0 k2 a0 (wrap64 (x3_2 + 1))) = some r := zq97);clear H;(have H := H1);clear H1;(have H' := Aside0.mk H);clear H;(have p11 : 0 ≤ (x3_2 : Int) := of_decide_eq_true zq27);(have q11 : x3_2 < (a0.size : Int) := of_decide_eq_true zq27);(have hx11 := bt_at a0 x3_2);(replace p11 := eq_true p11);(replace q11 := eq_true q11);(go_wp2_with (first | ((with_reducible refine gate_callee (f := 76) rfl ?_); refine goesL_ (some 26) rfl rfl Tryz.func76 (by kernel_rfl) rfl #[.int .u8 (bt a0 x3_2)] rfl zq0 ?_; (with_reducible refine (spec_l01Small.calls (bt a0 x3_2) false _ A12.out).mono ?_); rintro e w' ⟨rfl, ⟨nd, rfl⟩⟩; refine ⟨_, rfl, ?_⟩; have p14 : 0 ≤ (x3_2 : Int) := of_decide_eq_true zq27; have q14 : x3_2 < (a0.size : Int) := of_decide_eq_true zq27; have hx14 := bt_at a0 x3_2; replace p14 := eq_true p14; replace q14 := eq_true q14) | (go_at_call 77; (with_reducible refine (spec_l01Digit.calls (bt a0 x3_2) true _ A15.out).mono ?_); rintro e w' ⟨rfl, ⟨nd, rfl⟩⟩)));(go_roundg k2)
          case measure => have := HJ1.out; have := HK2.out; omega
          case rel => exact ⟨(wrap64 (x3_2 + 1)), zq34, H', ⟨zq35⟩, zq87⟩
         ·replace c16 := Bool.eq_false_iff.mpr c16
          subst c16;(have H1 : (if (bt a0 x3_2) = 45 then (spec_IsName.l0 k2 a0 (wrap64 (x3_2 + 1))) else (some false)) = some r := zq96);clear H;(have H := H1);clear H1;(by_cases c18 : (bt a0 x3_2) = 45)
          ·rw [if_pos c18] at H
           (have c18b0 : ((bt a0 x3_2) == 45) = true := beq_iff_eq.mpr c18);(have c18b1 : ((bt a0 x3_2) != 45) = false := bne_eq_false_iff_eq.mpr c18);clear c18;(have H' := Aside0.mk H);clear H;(have p11 : 0 ≤ (x3_2 : Int) := of_decide_eq_true zq27);(have q11 : x3_2 < (a0.size : Int) := of_decide_eq_true zq27);(have hx11 := bt_at a0 x3_2);(replace p11 := eq_true p11);(replace q11 := eq_true q11);(go_wp2_with (first | ((with_reducible refine gate_callee (f := 76) rfl ?_); refine goesL_ (some 26) rfl rfl Tryz.func76 (by kernel_rfl) rfl #[.int .u8 (bt a0 x3_2)] rfl zq0 ?_; (with_reducible refine (spec_l01Small.calls (bt a0 x3_2) false _ A12.out).mono ?_); rintro e w' ⟨rfl, ⟨nd, rfl⟩⟩; refine ⟨_, rfl, ?_⟩; have p14 : 0 ≤ (x3_2 : Int) := of_decide_eq_true zq27; have q14 : x3_2 < (a0.size : Int) := of_decide_eq_true zq27; have hx14 := bt_at a0 x3_2; replace p14 := eq_true p14; replace q14 := eq_true q14) | (go_at_call 77; (with_reducible refine (spec_l01Digit.calls (bt a0 x3_2) false _ A15.out).mono ?_); rintro e w' ⟨rfl, ⟨nd, rfl⟩⟩; have p17 : 0 ≤ (x3_2 : Int) := of_decide_eq_true zq27; have q17 : x3_2 < (a0.size : Int) := of_decide_eq_true zq27; have hx17 := bt_at a0 x3_2; replace p17 := eq_true p17; replace q17 := eq_true q17)));(go_roundg k2)
           case measure => have := HJ1.out; have := HK2.out; omega
           case rel => exact ⟨(wrap64 (x3_2 + 1)), zq34, H', ⟨zq35⟩, zq87⟩
          ·rw [if_neg c18] at H
           (have c18b0 : ((bt a0 x3_2) == 45) = false := beq_eq_false_iff_ne.mpr c18);(have c18b1 : ((bt a0 x3_2) != 45) = true := bne_iff_ne.mpr c18);(obtain rfl := Option.some.inj H);(have p11 : 0 ≤ (x3_2 : Int) := of_decide_eq_true zq27);(have q11 : x3_2 < (a0.size : Int) := of_decide_eq_true zq27);(have hx11 := bt_at a0 x3_2);(replace p11 := eq_true p11);(replace q11 := eq_true q11);(go_wp2_with (first | ((with_reducible refine gate_callee (f := 76) rfl ?_); refine goesL_ (some 26) rfl rfl Tryz.func76 (by kernel_rfl) rfl #[.int .u8 (bt a0 x3_2)] rfl zq0 ?_; (with_reducible refine (spec_l01Small.calls (bt a0 x3_2) false _ A12.out).mono ?_); rintro e w' ⟨rfl, ⟨nd, rfl⟩⟩; refine ⟨_, rfl, ?_⟩; have p14 : 0 ≤ (x3_2 : Int) := of_decide_eq_true zq27; have q14 : x3_2 < (a0.size : Int) := of_decide_eq_true zq27; have hx14 := bt_at a0 x3_2; replace p14 := eq_true p14; replace q14 := eq_true q14) | (go_at_call 77; (with_reducible refine (spec_l01Digit.calls (bt a0 x3_2) false _ A15.out).mono ?_); rintro e w' ⟨rfl, ⟨nd, rfl⟩⟩; have p17 : 0 ≤ (x3_2 : Int) := of_decide_eq_true zq27; have q17 : x3_2 < (a0.size : Int) := of_decide_eq_true zq27; have hx17 := bt_at a0 x3_2; replace p17 := eq_true p17; replace q17 := eq_true q17)));(go_ret);(exact ⟨zq34, zq87⟩)
       ·rw [if_neg c10] at H
        exact absurd H (by simp)
      ·rw [if_neg c9] at H
       (have c9b0 : decide (x3_2 < (a0.size : Int)) = false := decide_eq_false c9);clear c9;(obtain rfl := Option.some.inj H);(go_wp2);(go_ret);(exact ⟨zq34, zq87⟩)

/-! ### spec_l02Ok: function 62 -/
def spec_l02Ok.f (a0_0 : Int) (a0_1 : Int) : Option (Bool) := (spec_l00In.f a0_0 (-324000) 324000).bind fun t286 => (if t286 = true then ((spec_l00In.f a0_1 (-648000) 647999).bind fun t287 => (some t287)) else (some false))
theorem spec_l02Ok.calls (a0_0 : Int) (a0_1 : Int) (r : Bool) (w : World) (h : spec_l02Ok.f a0_0 a0_1 = some r) :
  Calls Tryz.prog 62 #[.agg #[.int .i64 a0_0, .int .i64 a0_1]] w fun e w' => e = .returned (.bool r) ∧ Below w.heap.size w w' := by
 (have hu38 := Tryz.underlying38);(have HB := Aside0.mk (Below.refl w.heap.size w));(have H : ((spec_l00In.f a0_0 (-324000) 324000).bind fun t286 => (if t286 = true then ((spec_l00In.f a0_1 (-648000) 647999).bind fun t287 => (some t287)) else (some false))) = some r := h);clear h;(replace H := Option.bind_eq_some_iff.mp H);(obtain ⟨t286, A20, H⟩ := H);(replace H : (if t286 = true then ((spec_l00In.f a0_1 (-648000) 647999).bind fun t287 => (some t287)) else (some false)) = some r := H);(have A2 := Aside0.mk A20);clear A20;(by_cases c3 : t286 = true)
 ·subst c3
  (have H1 : ((spec_l00In.f a0_1 (-648000) 647999).bind fun t287 => (some t287)) = some r := zq97);clear H;(have H := H1);clear H1;(replace H := Option.bind_eq_some_iff.mp H);(obtain ⟨t287, A40, H⟩ := H);(replace H : (some t287) = some r := H);(have A4 := Aside0.mk A40);clear A40;(obtain rfl := Option.some.inj H)
  go_enter Tryz.func62, Tryz.ntmps62
  (go_wp2_with (first | ((with_reducible refine gate_dst (N := 1) rfl ?_); refine box_event ?hg (N := 1) ?hd (cs := #[.int .i64 a0_0, .int .i64 a0_1]) (t := 38) ?hr ?_; (case hd => rfl); (case hg => rfl); (case hr => first | (go_simp; done) | (go_simp; rfl)); intro gb285 hg w5 hbox hb; have n0_ := Aside0.mk (below_step zq66 hb); have n1_ := Aside0.mk (hbox); have n2_ := Aside0.mk ((zq90 : w.heap.size ≤ gb285)); have n3_ := Aside0.mk ((zq90 : w.heap.size ≤ gb285)); clear HB; have HB := n0_; have BK285 := n1_; have GW285 := n2_; have GE285 := n3_; clear n0_ n1_ n2_ n3_; clear hb hbox hg; have hcz6_0 : w5.cell? ⟨gb285, 0, none⟩ = some (.int .i64 a0_0) := (blk_cell BK285.out 0).trans rfl; have hcz6_1 : w5.cell? ⟨gb285, 1, none⟩ = some (.int .i64 a0_1) := (blk_cell BK285.out 1).trans rfl; have hfz6_0 := blk_frozen BK285.out 0; have hfz6_1 := blk_frozen BK285.out 1) | ((with_reducible refine gate_callee (f := 33) rfl ?_); refine goesL_ (some 5) rfl rfl Tryz.func33 (by kernel_rfl) rfl #[.int .i64 a0_0, .int .i64 (-324000), .int .i64 324000] rfl zq0 ?_; (with_reducible refine (spec_l00In.calls a0_0 (-324000) 324000 true _ A2.out).mono ?_); rintro e w' ⟨rfl, ⟨nd, rfl⟩⟩; refine ⟨_, rfl, ?_⟩) | (go_at_call 33; (with_reducible refine (spec_l00In.calls a0_1 (-648000) 647999 t287 _ A4.out).mono ?_); rintro e w' ⟨rfl, ⟨nd, rfl⟩⟩)));(go_ret);(exact ⟨zq31, zq54⟩)
 ·replace c3 := Bool.eq_false_iff.mpr c3
  subst c3;(have H1 : (some false) = some r := zq96);clear H;(have H := H1);clear H1;(obtain rfl := Option.some.inj H)
  go_enter Tryz.func62, Tryz.ntmps62
  (go_wp2_with (first | ((with_reducible refine gate_dst (N := 1) rfl ?_); refine box_event ?hg (N := 1) ?hd (cs := #[.int .i64 a0_0, .int .i64 a0_1]) (t := 38) ?hr ?_; (case hd => rfl); (case hg => rfl); (case hr => first | (go_simp; done) | (go_simp; rfl)); intro gb285 hg w7 hbox hb; have n0_ := Aside0.mk (below_step zq66 hb); have n1_ := Aside0.mk (hbox); have n2_ := Aside0.mk ((zq90 : w.heap.size ≤ gb285)); have n3_ := Aside0.mk ((zq90 : w.heap.size ≤ gb285)); clear HB; have HB := n0_; have BK285 := n1_; have GW285 := n2_; have GE285 := n3_; clear n0_ n1_ n2_ n3_; clear hb hbox hg; have hcz8_0 : w7.cell? ⟨gb285, 0, none⟩ = some (.int .i64 a0_0) := (blk_cell BK285.out 0).trans rfl; have hcz8_1 : w7.cell? ⟨gb285, 1, none⟩ = some (.int .i64 a0_1) := (blk_cell BK285.out 1).trans rfl; have hfz8_0 := blk_frozen BK285.out 0; have hfz8_1 := blk_frozen BK285.out 1) | ((with_reducible refine gate_callee (f := 33) rfl ?_); refine goesL_ (some 5) rfl rfl Tryz.func33 (by kernel_rfl) rfl #[.int .i64 a0_0, .int .i64 (-324000), .int .i64 324000] rfl zq0 ?_; (with_reducible refine (spec_l00In.calls a0_0 (-324000) 324000 false _ A2.out).mono ?_); rintro e w' ⟨rfl, ⟨nd, rfl⟩⟩; refine ⟨_, rfl, ?_⟩)));(go_ret);(exact ⟨zq31, zq54⟩)

end Go.Proofs.YtnjalpniedpgmaaGreatDoor.PFnCatalogues
