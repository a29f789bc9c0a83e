-- Made by a program of this session (gprint.py) out of the kit's print of the translation and texts of my own. SLIM
import Derived.Test.YtlkgajfhgcongaaGreatDoorPFnEditsx0
import Derived.Test.YtlkgajfhgcongaaGreatDoorPFnEditsx2
namespace Go.Proofs.YtlkgajfhgcongaaGreatDoor.PFnEdits
open Go.RowKit Go.Proofs.YtlkgajfhgcongaaGreatDoorW.PrintWords Go.Proofs.YtlkgajfhgcongaaGreatDoorW.PrintLast Go.Proofs.YtlkgajfhgcongaaGreatDoorW.PrintMore
set_option maxHeartbeats 64000000
set_option maxRecDepth 100000
attribute [local go_sem] max2_int min2_int max_two min_two max_three min_three max_four min_four   -- for this text's walks alone
set_option linter.unusedVariables false
set_option linter.unusedSimpArgs false

/-! ### impl_IsName: function 54 -/
def impl_IsName.f (a0 : ByteArray) : Option (Bool) := if (a0.size : Int) < 1 then (some false) else (if (a0.size : Int) > 12 then (some false) else (if 0 < (a0.size : Int) then (if (bt a0 0) < 97 then (some false) else (if (bt a0 0) > 122 then (some false) else ((strings_Trim.f a0 (⟨#[97, 98, 99, 100, 101, 102, 103, 104, 105, 106, 107, 108, 109, 110, 111, 112, 113, 114, 115, 116, 117, 118, 119, 120, 121, 122, 48, 49, 50, 51, 52, 53, 54, 55, 56, 57, 45]⟩ : ByteArray)).bind fun t175 => (some (t175.toList == ([] : List UInt8)))))) else (none)))
theorem impl_IsName.calls (a0 : ByteArray) (r : Bool) (w : World) (h : impl_IsName.f a0 = some r) :
  Calls Tryz.prog 54 #[.string a0] w fun e w' => e = .returned (.bool r) ∧ Below w.heap.size w w' := by
 (have HB := Aside0.mk (Below.refl w.heap.size w));(have H : (if (a0.size : Int) < 1 then (some false) else (if (a0.size : Int) > 12 then (some false) else (if 0 < (a0.size : Int) then (if (bt a0 0) < 97 then (some false) else (if (bt a0 0) > 122 then (some false) else ((strings_Trim.f a0 (⟨#[97, 98, 99, 100, 101, 102, 103, 104, 105, 106, 107, 108, 109, 110, 111, 112, 113, 114, 115, 116, 117, 118, 119, 120, 121, 122, 48, 49, 50, 51, 52, 53, 54, 55, 56, 57, 45]⟩ : ByteArray)).bind fun t175 => (some (t175.toList == ([] : List UInt8)))))) else (none)))) = some r := h);clear h;(by_cases c2 : (a0.size : Int) < 1)
 ·rw [if_pos c2] at H
  (have c2b0 : decide ((a0.size : Int) < 1) = true := decide_eq_true c2);(have c2b1 : decide (a0.size < 1) = true := decide_eq_true (by omega));clear c2;(obtain rfl := Option.some.inj H)
  go_enter Tryz.func54, Tryz.ntmps54
  (go_wp2);(go_ret);(exact ⟨zq40, zq54⟩)
 ·rw [if_neg c2] at H
  (have c2b0 : decide ((a0.size : Int) < 1) = false := decide_eq_false c2);(have c2b1 : decide (a0.size < 1) = false := decide_eq_false (by omega));clear c2;(by_cases c3 : (a0.size : Int) > 12)
  ·rw [if_pos c3] at H
   (have c3b0 : decide (12 < (a0.size : Int)) = true := decide_eq_true c3);(have c3b1 : decide (12 < a0.size) = true := decide_eq_true (by omega));clear c3;(obtain rfl := Option.some.inj H)
   go_enter Tryz.func54, Tryz.ntmps54
   (go_wp2);(go_ret);(exact ⟨zq40, zq54⟩)
  ·rw [if_neg c3] at H
   (have c3b0 : decide (12 < (a0.size : Int)) = false := decide_eq_false c3);(have c3b1 : decide (12 < a0.size) = false := decide_eq_false (by omega));clear c3;(by_cases c4 : 0 < (a0.size : Int))
   ·rw [if_pos c4] at H
    (have c4b0 : decide (0 < (a0.size : Int)) = true := decide_eq_true c4);(have c4b1 : decide (0 < a0.size) = true := decide_eq_true (by omega));clear c4;(by_cases c6 : (bt a0 0) < 97)
    ·rw [if_pos c6] at H
     (have c6b0 : decide ((bt a0 0) < 97) = true := decide_eq_true c6);clear c6;(obtain rfl := Option.some.inj H);(have p5 : 0 ≤ (0 : Int) := (by omega));(have q5 : 0 < a0.size := (by have : (0 : Int) < (a0.size : Int) := of_decide_eq_true zq35; omega));(have hx5 : ∀ h : 0 < a0.size, ((a0[0]'h).toNat : Int) = bt a0 0 := bt_at a0 0);clear p5;(have qi5 : (0 < (a0.size : Int)) = True := eq_true (of_decide_eq_true zq35));(replace q5 := eq_true q5)
     go_enter Tryz.func54, Tryz.ntmps54
     (go_wp2);(go_ret);(exact ⟨zq40, zq54⟩)
    ·rw [if_neg c6] at H
     (have c6b0 : decide ((bt a0 0) < 97) = false := decide_eq_false c6);clear c6;(by_cases c8 : (bt a0 0) > 122)
     ·rw [if_pos c8] at H
      (have c8b0 : decide (122 < (bt a0 0)) = true := decide_eq_true c8);clear c8;(obtain rfl := Option.some.inj H);(have p5 : 0 ≤ (0 : Int) := (by omega));(have q5 : 0 < a0.size := (by have : (0 : Int) < (a0.size : Int) := of_decide_eq_true zq35; omega));(have hx5 : ∀ h : 0 < a0.size, ((a0[0]'h).toNat : Int) = bt a0 0 := bt_at a0 0);clear p5;(have qi5 : (0 < (a0.size : Int)) = True := eq_true (of_decide_eq_true zq35));(replace q5 := eq_true q5);(have p7 : 0 ≤ (0 : Int) := (by omega));(have q7 : 0 < a0.size := (by have : (0 : Int) < (a0.size : Int) := of_decide_eq_true zq35; omega));(have hx7 : ∀ h : 0 < a0.size, ((a0[0]'h).toNat : Int) = bt a0 0 := bt_at a0 0);clear p7;(have qi7 : (0 < (a0.size : Int)) = True := eq_true (of_decide_eq_true zq35));(replace q7 := eq_true q7)
      go_enter Tryz.func54, Tryz.ntmps54
      (go_wp2);(go_ret);(exact ⟨zq40, zq54⟩)
     ·rw [if_neg c8] at H
      (have c8b0 : decide (122 < (bt a0 0)) = false := decide_eq_false c8);clear c8;(replace H := Option.bind_eq_some_iff.mp H);(obtain ⟨t175, A90, H⟩ := H);(replace H : (some (t175.toList == ([] : List UInt8))) = some r := H);(have A9 := Aside0.mk A90);clear A90;(obtain rfl := Option.some.inj H);(have p5 : 0 ≤ (0 : Int) := (by omega));(have q5 : 0 < a0.size := (by have : (0 : Int) < (a0.size : Int) := of_decide_eq_true zq35; omega));(have hx5 : ∀ h : 0 < a0.size, ((a0[0]'h).toNat : Int) = bt a0 0 := bt_at a0 0);clear p5;(have qi5 : (0 < (a0.size : Int)) = True := eq_true (of_decide_eq_true zq35));(replace q5 := eq_true q5);(have p7 : 0 ≤ (0 : Int) := (by omega));(have q7 : 0 < a0.size := (by have : (0 : Int) < (a0.size : Int) := of_decide_eq_true zq35; omega));(have hx7 : ∀ h : 0 < a0.size, ((a0[0]'h).toNat : Int) = bt a0 0 := bt_at a0 0);clear p7;(have qi7 : (0 < (a0.size : Int)) = True := eq_true (of_decide_eq_true zq35));(replace q7 := eq_true q7)
      go_enter Tryz.func54, Tryz.ntmps54
      (go_wp2_with (first | ((with_reducible refine gate_callee (f := 63) rfl ?_); refine goesL_ (some 22) rfl rfl Tryz.func63 (by kernel_rfl) rfl #[.string a0, .string (⟨#[97, 98, 99, 100, 101, 102, 103, 104, 105, 106, 107, 108, 109, 110, 111, 112, 113, 114, 115, 116, 117, 118, 119, 120, 121, 122, 48, 49, 50, 51, 52, 53, 54, 55, 56, 57, 45]⟩ : ByteArray)] rfl zq0 ?_; (with_reducible refine (strings_Trim.calls a0 (⟨#[97, 98, 99, 100, 101, 102, 103, 104, 105, 106, 107, 108, 109, 110, 111, 112, 113, 114, 115, 116, 117, 118, 119, 120, 121, 122, 48, 49, 50, 51, 52, 53, 54, 55, 56, 57, 45]⟩ : ByteArray) t175 _ A9.out).mono ?_); rintro e w10 ⟨rfl, hb⟩; refine ⟨_, rfl, ?_⟩; have n0_ := Aside0.mk (below_step zq54 hb); clear HB; have HB := n0_; clear n0_; (try clear hb); (try clear hb2); (try clear hk); (try clear hi))));(go_ret);(exact ⟨zq40, zq54⟩)
   ·rw [if_neg c4] at H
    exact absurd H (by simp)

/-! ### impl_isEngraved: function 39 -/
def impl_isEngraved.f (a0 : ByteArray) : Option (Bool) := if a0.toList = ([] : List UInt8) then (some true) else ((impl_IsName.f a0).bind fun t176 => (some t176))
theorem impl_isEngraved.calls (a0 : ByteArray) (r : Bool) (w : World) (h : impl_isEngraved.f a0 = some r) :
  Calls Tryz.prog 39 #[.string a0] w fun e w' => e = .returned (.bool r) ∧ Below w.heap.size w w' := by
 (have HB := Aside0.mk (Below.refl w.heap.size w));(have H : (if a0.toList = ([] : List UInt8) then (some true) else ((impl_IsName.f a0).bind fun t176 => (some t176))) = some r := h);clear h;(by_cases c2 : a0.toList = ([] : List UInt8))
 ·rw [if_pos c2] at H
  (have c2b0 : (a0.toList == ([] : List UInt8)) = true := beq_iff_eq.mpr c2);(have c2b1 : (a0.toList != ([] : List UInt8)) = false := bne_eq_false_iff_eq.mpr c2);clear c2;(obtain rfl := Option.some.inj H)
  go_enter Tryz.func39, Tryz.ntmps39
  (go_wp2);(go_ret);(exact ⟨zq40, zq54⟩)
 ·rw [if_neg c2] at H
  (have c2b0 : (a0.toList == ([] : List UInt8)) = false := beq_eq_false_iff_ne.mpr c2);(have c2b1 : (a0.toList != ([] : List UInt8)) = true := bne_iff_ne.mpr c2);(replace H := Option.bind_eq_some_iff.mp H);(obtain ⟨t176, A30, H⟩ := H);(replace H : (some t176) = some r := H);(have A3 := Aside0.mk A30);clear A30;(obtain rfl := Option.some.inj H)
  go_enter Tryz.func39, Tryz.ntmps39
  (go_wp2_with (first | (go_at_call 54; (with_reducible refine (impl_IsName.calls a0 t176 _ A3.out).mono ?_); rintro e w4 ⟨rfl, hb⟩; have n0_ := Aside0.mk (below_step zq54 hb); clear HB; have HB := n0_; clear n0_; (try clear hb); (try clear hb2); (try clear hk); (try clear hi))));(go_ret);(exact ⟨zq40, zq54⟩)

/-! ### impl_ValidPlate: function 19 -/
-- given by hand

theorem idxStr_rd (l0 : List ByteArray) (x5 : Int) (h0 : 0 ≤ x5) (hlt : x5 < (l0.length : Int)) : (rdOf ByteArray.empty l0 x5) = l0[x5.toNat]'(by omega) := by
 (unfold rdOf);(rw [List.getD_eq_getElem?_getD, List.getElem?_eq_getElem (show x5.toNat < l0.length by omega)]);rfl
def idxStr_v (p : ByteArray → Bool) (l : List ByteArray) : Int := if l.any p then (l.findIdx p : Int) else -1
theorem idxStr_calls (p : ByteArray → Bool) (gg : Nat) (lb : Array Value) (eg : ∀ args w, (callFunc gg args).run Tryz.prog w = .ok (.enter gg args) w) (A0 : Option Addr) (c0 : Nat) (l0 : List ByteArray) (w : World) (hr0 : Kd.C Kd.string w A0 l0.length l0)
  (hp : ∀ (W : World) (x : ByteArray), Below w.heap.size w W → Calls Tryz.prog gg (#[.string x] ++ lb) W fun e w' => e = .returned (.bool (p x)) ∧ Below w.heap.size w w') :
  Calls Tryz.prog 53 #[.slice A0 l0.length c0, .func (.func gg) #[] lb] w fun e w' => e = .returned (.int .i64 (idxStr_v p l0)) ∧ Below w.heap.size w w' := by
 (have HR := Aside0.mk hr0);(have HM := Kd.C_max hr0);clear hr0;(have HP := Aside0.mk hp);clear hp
 go_enter Tryz.func53, Tryz.ntmps53
 go_wp2
 go_loopg [5, 8] l0.length (fun gk _ s8 wr => ∃ x5 : Int, s8 = .int .i64 x5 ∧ 0 ≤ x5 ∧ x5 ≤ (l0.length : Int) ∧ (l0.length : Int) - x5 ≤ gk ∧ Aside0 (Below w.heap.size w wr) ∧ Aside0 (∀ j, (h : j < l0.length) → (j : Int) < x5 → p l0[j] = false))
 case atStart => exact ⟨0, rfl, by omega, by omega, by omega, ⟨Below.refl _ w⟩, ⟨fun j h hj => by omega⟩⟩
 case round =>
  (obtain ⟨x5, rfl, h0, h1, hg, BW, AA⟩ := hrel);(by_cases hlt : x5 < (l0.length : Int))
  ·have c4b0 : decide (x5 < (l0.length : Int)) = true := decide_eq_true hlt
   obtain ⟨ad, he, hx0⟩ := (Kd.reads_of_C (enc := Value.string) (d := ByteArray.empty) (h1 := fun _ => rfl) HR.out).at_ x5 h0 (show x5 < (l0.length : Int) from hlt)
   cases he
   (replace hx0 := (BW.out.cell (World.block_lt_of_cell? w _ hx0)).trans hx0);(have HY := Aside0.mk (idxStr_rd l0 x5 h0 hlt));(have hcall := HP.out wr (rdOf ByteArray.empty l0 x5) BW.out)
   cases hq : p (rdOf ByteArray.empty l0 x5) with
   | true =>
    (rw [hq] at hcall);(have HQ := Aside0.mk hq);clear hq;(go_wp2_with (go_at_fn gg; refine hcall.mono ?_; rintro e w' ⟨rfl, hb'⟩));(go_ret);(refine ⟨?_, hb'⟩);(have hy := HY.out);(have hqq := HQ.out);(have hall := AA.out)
    have e : idxStr_v p l0 = x5 := by
     (unfold idxStr_v);(rw [if_pos (List.any_eq_true.2 ⟨l0[x5.toNat]'(by omega), List.getElem_mem _, by rw [← hy]; exact hqq⟩)])
     have : l0.findIdx p = x5.toNat := by
      (rw [List.findIdx_eq (by omega)]);(refine ⟨by rw [← hy]; exact hqq, fun j hj => hall j (by omega) (by omega)⟩)
     omega
    (rw [e]);rfl
   | false =>
    (rw [hq] at hcall);(have HQ := Aside0.mk hq);clear hq;(go_wp2_with (go_at_fn gg; refine hcall.mono ?_; rintro e w' ⟨rfl, hb'⟩));(go_roundg (l0.length - (x5.toNat + 1)))
    case measure => omega
    case rel =>
     (refine ⟨x5 + 1, by first | rfl | go_num, by omega, by omega, by omega, ⟨hb'⟩, ⟨fun j h hj => ?_⟩⟩);(by_cases ee : (j : Int) = x5)
     ·have hy := HY.out
      (have hqq := HQ.out);(rw [hy] at hqq);(have : j = x5.toNat := by omega);subst this;(exact hqq)
     ·exact AA.out j h (by omega)
  ·have c4b0 : decide (x5 < (l0.length : Int)) = false := decide_eq_false hlt
   (go_wp2);(go_ret);(refine ⟨?_, BW.out⟩)
   have e : idxStr_v p l0 = -1 := by
    (unfold idxStr_v);(rw [if_neg]);intro h;(obtain ⟨x, hx, hpx⟩ := List.any_eq_true.1 h);(obtain ⟨j, hj, rfl⟩ := List.getElem_of_mem hx);(have := AA.out j hj (by omega));(rw [hpx] at this)
    cases this
   (rw [e]);rfl
theorem idxStr_nonneg (p : ByteArray → Bool) (l : List ByteArray) : decide (0 ≤ idxStr_v p l) = l.any p := by
 unfold idxStr_v
 cases h : l.any p
 ·simp
 ·simp

theorem conStr_calls (p : ByteArray → Bool) (gg : Nat) (lb : Array Value) (eg : ∀ args w, (callFunc gg args).run Tryz.prog w = .ok (.enter gg args) w) (A0 : Option Addr) (c0 : Nat) (l0 : List ByteArray) (w : World) (hr0 : Kd.C Kd.string w A0 l0.length l0)
  (hp : ∀ (W : World) (x : ByteArray), Below w.heap.size w W → Calls Tryz.prog gg (#[.string x] ++ lb) W fun e w' => e = .returned (.bool (p x)) ∧ Below w.heap.size w w') :
  Calls Tryz.prog 37 #[.slice A0 l0.length c0, .func (.func gg) #[] lb] w fun e w' => e = .returned (.bool (l0.any p)) ∧ Below w.heap.size w w' := by
 (have hI := idxStr_calls p gg lb eg A0 c0 l0 w hr0 hp);(have HN := Aside0.mk (idxStr_nonneg p l0));(generalize idxStr_v p l0 = vv at hI HN);(generalize l0.any p = bb at HN ⊢);clear hp hr0
 go_enter Tryz.func37, Tryz.ntmps37
 (go_wp2_with (go_at_call 53; refine hI.mono ?_; rintro e w' ⟨rfl, hb'⟩));(go_ret);(exact ⟨by rw [← HN.out]; rfl, hb'⟩)

theorem pIsName_some (s : ByteArray) : ∃ b, impl_IsName.f s = some b := by
 (unfold impl_IsName.f);(by_cases h0 : (s.size : Int) < 1)
 ·rw [if_pos h0]; exact ⟨_, rfl⟩
 ·rw [if_neg h0]
  by_cases h1 : (s.size : Int) > 12
  ·rw [if_pos h1]; exact ⟨_, rfl⟩
  ·rw [if_neg h1, if_pos (by omega)]
   by_cases h2 : bt s 0 < 97
   ·rw [if_pos h2]; exact ⟨_, rfl⟩
   ·rw [if_neg h2]
    by_cases h3 : bt s 0 > 122
    ·rw [if_pos h3]; exact ⟨_, rfl⟩
    ·rw [if_neg h3]
     (unfold strings_Trim.f);(rw [if_pos ⟨by omega, by decide, by decide +kernel⟩]);(exact ⟨_, rfl⟩)
theorem pEngraved_some (s : ByteArray) : ∃ b, impl_isEngraved.f s = some b := by
 (obtain ⟨b, hb⟩ := pIsName_some s);(unfold impl_isEngraved.f);(rw [hb])
 split <;> exact ⟨_, rfl⟩

def impl_isEngravedBad (x : ByteArray) : Bool := !((impl_isEngraved.f x).getD false)
theorem impl_isEngravedBad_eq (x : ByteArray) : impl_isEngraved.f x = some (!impl_isEngravedBad x) := by
 (obtain ⟨b, hb⟩ := pEngraved_some x);(unfold impl_isEngravedBad);(rw [hb])
 simp
theorem impl_isEngravedBad_calls (w W : World) (x : ByteArray) (hB : Below w.heap.size w W) : Calls Tryz.prog 38 (#[.string x] ++ #[]) W fun e w' => e = .returned (.bool (impl_isEngravedBad x)) ∧ Below w.heap.size w w' := by
 (have hv := fun W' => impl_isEngraved.calls x (!impl_isEngravedBad x) W' (impl_isEngravedBad_eq x));(generalize impl_isEngravedBad x = bb at hv ⊢)
 show Calls Tryz.prog 38 #[.string x] W _
 (have HB := Aside0.mk hB);clear hB
 go_enter Tryz.func38, Tryz.ntmps38
 (go_wp2_with (go_at_call 39; refine (hv _).mono ?_; rintro e w' ⟨rfl, hb'⟩));(go_ret);(exact ⟨by simp, zq44⟩)

def impl_ValidPlate.f (l0 : List ByteArray) : Option Bool := if (l0.length : Int) ≥ 1 then (if (l0.length : Int) ≤ 12 then (some (!l0.any impl_isEngravedBad)) else (some false)) else (some false)
theorem impl_ValidPlate.calls (A0 : Option Addr) (c0 : Nat) (l0 : List ByteArray) (r : Bool) (w : World) (hr0 : Kd.C Kd.string w A0 l0.length l0) (hc0 : l0.length ≤ c0) (h : impl_ValidPlate.f l0 = some r) :
  Calls Tryz.prog 19 #[.slice A0 l0.length c0] w fun e w' => e = .returned (.bool r) ∧ Below w.heap.size w w' := by
 (have hC := conStr_calls impl_isEngravedBad 38 #[] (enters_of Tryz.func38 (by kernel_rfl) rfl) A0 c0 l0 w hr0 (fun W x hb => impl_isEngravedBad_calls w W x hb));(have HM := Kd.C_max hr0);clear hr0 hc0;(unfold impl_ValidPlate.f at h);(by_cases c1 : (l0.length : Int) ≥ 1)
 ·rw [if_pos c1] at h
  (have c1b : decide (1 ≤ (l0.length : Int)) = true := decide_eq_true c1);(have c1c : decide (1 ≤ l0.length) = true := decide_eq_true (by omega));(by_cases c2 : (l0.length : Int) ≤ 12)
  ·rw [if_pos c2] at h
   (have c2b : decide ((l0.length : Int) ≤ 12) = true := decide_eq_true c2);(have c2c : decide (l0.length ≤ 12) = true := decide_eq_true (by omega));(obtain rfl := Option.some.inj h);(generalize l0.any impl_isEngravedBad = bb at hC ⊢)
   go_enter Tryz.func19, Tryz.ntmps19
   (go_wp2_with (go_at_call 37; refine hC.mono ?_; rintro e w' ⟨rfl, hb'⟩));(go_ret);(exact ⟨by simp, hb'⟩)
  ·rw [if_neg c2] at h
   (have c2b : decide ((l0.length : Int) ≤ 12) = false := decide_eq_false c2);(have c2c : decide (l0.length ≤ 12) = false := decide_eq_false (by omega));(obtain rfl := Option.some.inj h);clear hC
   go_enter Tryz.func19, Tryz.ntmps19
   (go_wp2);(go_ret);(exact ⟨rfl, Below.refl _ _⟩)
 ·rw [if_neg c1] at h
  (have c1b : decide (1 ≤ (l0.length : Int)) = false := decide_eq_false c1);(have c1c : decide (1 ≤ l0.length) = false := decide_eq_false (by omega));(obtain rfl := Option.some.inj h);clear hC
  go_enter Tryz.func19, Tryz.ntmps19
  (go_wp2);(go_ret);(exact ⟨rfl, Below.refl _ _⟩)


/-! ### impl_platesCode: function 18 -/
mutual
def impl_platesCode.l0 : Nat → List (List ByteArray) → List (List ByteArray) → Int → Int → Option (Int)
 | 0, _, _, _, _ => none
 | k + 1, x0, x7, x8, x9 => if x9 < x8 then (if 0 ≤ x9 then (if x9 < (x7.length : Int) then ((impl_ValidPlate.f (rd_L2 x7 x9)).bind fun t178 => (if t178 = true then (impl_platesCode.l0 k x0 x7 x8 (wrap64 (x9 + 1))) else (some 1))) else (none)) else (none)) else (impl_platesCode.l1 k x0 x0 (x0.length : Int) 0)
def impl_platesCode.l1 : Nat → List (List ByteArray) → List (List ByteArray) → Int → Int → Option (Int)
 | 0, _, _, _, _ => none
 | k + 1, x0, x17, x18, x19 => if x19 < x18 then (if 0 ≤ x19 then (if x19 < (x17.length : Int) then (if 0 < (x0.length : Int) then (if ((rd_L2 x17 x19).length : Int) = ((rd_L2 x0 0).length : Int) then (impl_platesCode.l1 k x0 x17 x18 (wrap64 (x19 + 1))) else (some 2)) else (none)) else (none)) else (none)) else (some 0)
end
def impl_platesCode.f (k : Nat) (l0 : List (List ByteArray)) : Option (Int) := impl_platesCode.l0 k l0 l0 (l0.length : Int) 0
theorem impl_platesCode.mono_l : ∀ k, (∀ y0 y1 y2 y3, LeO (impl_platesCode.l0 k y0 y1 y2 y3) (impl_platesCode.l0 (k + 1) y0 y1 y2 y3)) ∧ (∀ y0 y1 y2 y3, LeO (impl_platesCode.l1 k y0 y1 y2 y3) (impl_platesCode.l1 (k + 1) y0 y1 y2 y3))
 | 0 => ⟨fun _ _ _ _ r h => by simp [impl_platesCode.l0] at h, fun _ _ _ _ r h => by simp [impl_platesCode.l1] at h⟩
 | k + 1 => by
  (obtain ⟨ih0, ih1⟩ := impl_platesCode.mono_l k);(refine ⟨?_, ?_⟩)
  ·intro y0 y1 y2 y3
   unfold impl_platesCode.l0
   repeat' first | with_reducible (first | exact ih0 _ _ _ _ | exact ih1 _ _ _ _ | exact LeO.refl _ | exact LeO.none _ | refine LeO.ite ?_ ?_ | refine LeO.bind ?_ (fun _ => ?_)) | exact ih0 _ _ _ _ | exact ih1 _ _ _ _ | exact LeO.none _ | refine LeO.ite ?_ ?_ | refine LeO.bind ?_ (fun _ => ?_)
  ·intro y0 y1 y2 y3
   unfold impl_platesCode.l1
   repeat' first | with_reducible (first | exact ih0 _ _ _ _ | exact ih1 _ _ _ _ | exact LeO.refl _ | exact LeO.none _ | refine LeO.ite ?_ ?_ | refine LeO.bind ?_ (fun _ => ?_)) | exact ih0 _ _ _ _ | exact ih1 _ _ _ _ | exact LeO.none _ | refine LeO.ite ?_ ?_ | refine LeO.bind ?_ (fun _ => ?_)
theorem impl_platesCode.mono : ∀ a0 k, LeO (impl_platesCode.f k a0) (impl_platesCode.f (k + 1) a0) := by
 intro a0 k;(obtain ⟨ih0, ih1⟩ := impl_platesCode.mono_l k);(unfold impl_platesCode.f)
 repeat' first | with_reducible (first | exact ih0 _ _ _ _ | exact ih1 _ _ _ _ | exact LeO.refl _ | exact LeO.none _ | refine LeO.ite ?_ ?_ | refine LeO.bind ?_ (fun _ => ?_)) | exact ih0 _ _ _ _ | exact ih1 _ _ _ _ | exact LeO.none _ | refine LeO.ite ?_ ?_ | refine LeO.bind ?_ (fun _ => ?_)
theorem impl_platesCode.calls (k : Nat) (A0 : Option Addr) (c0 : Nat) (l0 : List (List ByteArray)) (r : Int) (w : World) (hr0 : Kd.C (Kd.slice 9 Kd.string) w A0 l0.length l0) (hc0 : l0.length ≤ c0) (h : impl_platesCode.f k l0 = some r) :
  Calls Tryz.prog 18 #[.slice A0 l0.length c0] w fun e w' => e = .returned (.int .i64 r) ∧ Below w.heap.size w w' := by
 (have HR0 := Aside0.mk hr0);(have HC0 := Aside0.mk hc0);clear hr0 hc0;(have HB := Aside0.mk (Below.refl w.heap.size w));(have H : (impl_platesCode.l0 k l0 l0 (l0.length : Int) 0) = some r := h);clear h;(have H' := Aside0.mk H);clear H
 go_enter Tryz.func18, Tryz.ntmps18
 go_wp2
 go_loopg [9] k (fun kq v9 w' => ∃ (x9_1 : Int), v9 = .int .i64 x9_1 ∧ Aside0 (impl_platesCode.l0 kq l0 l0 (l0.length : Int) x9_1 = some r) ∧ Aside0 (kq ≤ k) ∧ Aside0 (Below w.heap.size w w'))
 case atStart => exact ⟨(0), zq41, H', ⟨Nat.le_refl _⟩, ⟨zq54⟩⟩
 case round =>
  clear H';(try clear c1);(obtain ⟨x9_1, rfl, HA, HK1, HB⟩ := hrel)
  cases gk with
  | zero => exact absurd HA.out (by simp [impl_platesCode.l0])
  | succ k1 =>
   (have H := HA.out);clear HA;(simp only [impl_platesCode.l0] at H);(by_cases c2 : x9_1 < (l0.length : Int))
   ·rw [if_pos c2] at H
    (have c2b0 : decide (x9_1 < (l0.length : Int)) = true := decide_eq_true c2);clear c2;(by_cases c3 : 0 ≤ x9_1)
    ·rw [if_pos c3] at H
     (have c3b0 : decide (0 ≤ x9_1) = true := decide_eq_true c3);clear c3;(by_cases c4 : x9_1 < (l0.length : Int))
     ·rw [if_pos c4] at H
      (have c4b0 : decide (x9_1 < (l0.length : Int)) = true := decide_eq_true c4);clear c4;(replace H := Option.bind_eq_some_iff.mp H);(obtain ⟨t178, A50, H⟩ := H);(replace H : (if t178 = true then (impl_platesCode.l0 k1 l0 l0 (l0.length : Int) (wrap64 (x9_1 + 1))) else (some 1)) = some r := H);(have A5 := Aside0.mk A50);clear A50;(by_cases c6 : t178 = true)
      ·subst c6
       (have H1 : (impl_platesCode.l0 k1 l0 l0 (l0.length : Int) (wrap64 (x9_1 + 1))) = some r := zq92);clear H;(have H := H1);clear H1;(have H' := Aside0.mk H);clear H;(have p177 : 0 ≤ (x9_1 : Int) := of_decide_eq_true zq35);(have q177 : x9_1 < (l0.length : Int) := of_decide_eq_true zq35);(obtain ⟨ad177, A177_0, c177_0, e177, hx177_0, hl177_0, hi177_0⟩ := at_L2 HR0.out x9_1 p177 q177)
       cases e177
       (replace hx177_0 := (HB.out.cell (World.block_lt_of_cell? w _ hx177_0)).trans hx177_0);(have HR177_0 := Aside0.mk hi177_0);(have HC177_0 := Aside0.mk hl177_0);clear hi177_0 hl177_0;(replace p177 := eq_true p177);(replace q177 := eq_true q177);(go_wp2_with (first | ((with_reducible refine gate_callee (f := 19) rfl ?_); refine goesL_ (some 14) rfl rfl Tryz.func19 (by kernel_rfl) rfl #[.slice A177_0 (rd_L2 l0 x9_1).length c177_0] rfl zq0 ?_; (with_reducible refine (impl_ValidPlate.calls _ _ (rd_L2 l0 x9_1) true _ ?side1 ?side2 A5.out).mono ?_); (case side1 => exact zq63); (case side2 => exact HC177_0.out); rintro e w7 ⟨rfl, hb⟩; refine ⟨_, rfl, ?_⟩; have n0_ := Aside0.mk (below_step zq54 hb); clear HB; have HB := n0_; clear n0_; (try clear hb); (try clear hb2); (try clear hk); (try clear hi))));(go_roundg k1)
       case measure => have := HK1.out; omega
       case rel => exact ⟨(wrap64 (x9_1 + 1)), zq41, H', ⟨zq42⟩, ⟨zq54⟩⟩
      ·replace c6 := Bool.eq_false_iff.mpr c6
       subst c6;(have H1 : (some 1) = some r := zq91);clear H;(have H := H1);clear H1;(obtain rfl := Option.some.inj H);(have p177 : 0 ≤ (x9_1 : Int) := of_decide_eq_true zq35);(have q177 : x9_1 < (l0.length : Int) := of_decide_eq_true zq35);(obtain ⟨ad177, A177_0, c177_0, e177, hx177_0, hl177_0, hi177_0⟩ := at_L2 HR0.out x9_1 p177 q177)
       cases e177
       (replace hx177_0 := (HB.out.cell (World.block_lt_of_cell? w _ hx177_0)).trans hx177_0);(have HR177_0 := Aside0.mk hi177_0);(have HC177_0 := Aside0.mk hl177_0);clear hi177_0 hl177_0;(replace p177 := eq_true p177);(replace q177 := eq_true q177);(go_wp2_with (first | ((with_reducible refine gate_callee (f := 19) rfl ?_); refine goesL_ (some 14) rfl rfl Tryz.func19 (by kernel_rfl) rfl #[.slice A177_0 (rd_L2 l0 x9_1).length c177_0] rfl zq0 ?_; (with_reducible refine (impl_ValidPlate.calls _ _ (rd_L2 l0 x9_1) false _ ?side1 ?side2 A5.out).mono ?_); (case side1 => exact zq63); (case side2 => exact HC177_0.out); rintro e w8 ⟨rfl, hb⟩; refine ⟨_, rfl, ?_⟩; have n0_ := Aside0.mk (below_step zq54 hb); clear HB; have HB := n0_; clear n0_; (try clear hb); (try clear hb2); (try clear hk); (try clear hi))));(go_ret);(exact ⟨zq40, zq54⟩)
     ·rw [if_neg c4] at H
      exact absurd H (by simp)
    ·rw [if_neg c3] at H
     exact absurd H (by simp)
   ·rw [if_neg c2] at H
    (have c2b0 : decide (x9_1 < (l0.length : Int)) = false := decide_eq_false c2);clear c2;(have H' := Aside0.mk H);clear H;(go_wp2)
    go_loopg [19] k1 (fun kq v19 w' => ∃ (x19_2 : Int), v19 = .int .i64 x19_2 ∧ Aside0 (impl_platesCode.l1 kq l0 l0 (l0.length : Int) x19_2 = some r) ∧ Aside0 (kq ≤ k1) ∧ Aside0 (Below w.heap.size w w'))
    case atStart => exact ⟨(0), zq41, H', ⟨Nat.le_refl _⟩, ⟨zq54⟩⟩
    case round =>
     clear H';(try clear c1);(try clear p1);(try clear q1);(try clear hx1);(try clear c2);(try clear c2b0);(try clear p2);(try clear c3);(try clear c3b0);(try clear c4);(try clear c4b0);(try clear c6);(try clear p6);(try clear hx177_0);(try clear p177);(try clear q177);(obtain ⟨x19_2, rfl, HA, HK2, HB⟩ := hrel)
     cases gk with
     | zero => exact absurd HA.out (by simp [impl_platesCode.l1])
     | succ k2 =>
      (have H := HA.out);clear HA;(simp only [impl_platesCode.l1] at H);(by_cases c9 : x19_2 < (l0.length : Int))
      ·rw [if_pos c9] at H
       (have c9b0 : decide (x19_2 < (l0.length : Int)) = true := decide_eq_true c9);clear c9;(by_cases c10 : 0 ≤ x19_2)
       ·rw [if_pos c10] at H
        (have c10b0 : decide (0 ≤ x19_2) = true := decide_eq_true c10);clear c10;(by_cases c11 : x19_2 < (l0.length : Int))
        ·rw [if_pos c11] at H
         (have c11b0 : decide (x19_2 < (l0.length : Int)) = true := decide_eq_true c11);clear c11;(by_cases c12 : 0 < (l0.length : Int))
         ·rw [if_pos c12] at H
          (have c12b0 : decide (0 < (l0.length : Int)) = true := decide_eq_true c12);(have c12b1 : decide (0 < l0.length) = true := decide_eq_true (by omega));clear c12;(by_cases c13 : ((rd_L2 l0 x19_2).length : Int) = ((rd_L2 l0 0).length : Int))
          ·rw [if_pos c13] at H
           (have c13b0 : (((rd_L2 l0 x19_2).length : Int) == ((rd_L2 l0 0).length : Int)) = true := beq_iff_eq.mpr c13);(have c13b1 : (((rd_L2 l0 x19_2).length : Int) != ((rd_L2 l0 0).length : Int)) = false := bne_eq_false_iff_eq.mpr c13);(have c13b2 : ((rd_L2 l0 x19_2).length == (rd_L2 l0 0).length) = true := by first | simpa using c13 | (simp at c13 ⊢; omega));clear c13;(have H' := Aside0.mk H);clear H;(have p179 : 0 ≤ (x19_2 : Int) := of_decide_eq_true zq35);(have q179 : x19_2 < (l0.length : Int) := of_decide_eq_true zq35);(obtain ⟨ad179, A179_0, c179_0, e179, hx179_0, hl179_0, hi179_0⟩ := at_L2 HR0.out x19_2 p179 q179)
           cases e179
           (replace hx179_0 := (HB.out.cell (World.block_lt_of_cell? w _ hx179_0)).trans hx179_0);(have HR179_0 := Aside0.mk hi179_0);(have HC179_0 := Aside0.mk hl179_0);clear hi179_0 hl179_0;(replace p179 := eq_true p179);(replace q179 := eq_true q179);(have p180 : 0 ≤ (0 : Int) := (by omega));(have q180 : 0 < (l0.length : Int) := of_decide_eq_true zq35);(obtain ⟨ad180, A180_0, c180_0, e180, hx180_0, hl180_0, hi180_0⟩ := at_L2 HR0.out 0 p180 q180);(obtain rfl : ad179 = ad180 := (by injection e180));(have qi180 : (0 < l0.length) = True := eq_true (by omega));((try rw [show ((0 : Int)).toNat = 0 from rfl] at hx180_0));((try rw [Addr.add_zero'] at hx180_0));(replace hx180_0 := (HB.out.cell (World.block_lt_of_cell? w _ hx180_0)).trans hx180_0);(have HR180_0 := Aside0.mk hi180_0);(have HC180_0 := Aside0.mk hl180_0);clear hi180_0 hl180_0;(replace p180 := eq_true p180);(replace q180 := eq_true q180);(go_wp2);(go_roundg k2)
           case measure => have := HK1.out; have := HK2.out; omega
           case rel => exact ⟨(wrap64 (x19_2 + 1)), zq41, H', ⟨by have := HK1.out; have := HK2.out; omega⟩, ⟨zq54⟩⟩
          ·rw [if_neg c13] at H
           (have c13b0 : (((rd_L2 l0 x19_2).length : Int) == ((rd_L2 l0 0).length : Int)) = false := beq_eq_false_iff_ne.mpr c13);(have c13b1 : (((rd_L2 l0 x19_2).length : Int) != ((rd_L2 l0 0).length : Int)) = true := bne_iff_ne.mpr c13);(have c13b2 : ((rd_L2 l0 x19_2).length == (rd_L2 l0 0).length) = false := by first | simpa using c13 | (simp at c13 ⊢; omega));(obtain rfl := Option.some.inj H);(have p179 : 0 ≤ (x19_2 : Int) := of_decide_eq_true zq35);(have q179 : x19_2 < (l0.length : Int) := of_decide_eq_true zq35);(obtain ⟨ad179, A179_0, c179_0, e179, hx179_0, hl179_0, hi179_0⟩ := at_L2 HR0.out x19_2 p179 q179)
           cases e179
           (replace hx179_0 := (HB.out.cell (World.block_lt_of_cell? w _ hx179_0)).trans hx179_0);(have HR179_0 := Aside0.mk hi179_0);(have HC179_0 := Aside0.mk hl179_0);clear hi179_0 hl179_0;(replace p179 := eq_true p179);(replace q179 := eq_true q179);(have p180 : 0 ≤ (0 : Int) := (by omega));(have q180 : 0 < (l0.length : Int) := of_decide_eq_true zq35);(obtain ⟨ad180, A180_0, c180_0, e180, hx180_0, hl180_0, hi180_0⟩ := at_L2 HR0.out 0 p180 q180);(obtain rfl : ad179 = ad180 := (by injection e180));(have qi180 : (0 < l0.length) = True := eq_true (by omega));((try rw [show ((0 : Int)).toNat = 0 from rfl] at hx180_0));((try rw [Addr.add_zero'] at hx180_0));(replace hx180_0 := (HB.out.cell (World.block_lt_of_cell? w _ hx180_0)).trans hx180_0);(have HR180_0 := Aside0.mk hi180_0);(have HC180_0 := Aside0.mk hl180_0);clear hi180_0 hl180_0;(replace p180 := eq_true p180);(replace q180 := eq_true q180);(go_wp2);(go_ret);(exact ⟨zq40, zq54⟩)
         ·rw [if_neg c12] at H
          exact absurd H (by simp)
        ·rw [if_neg c11] at H
         exact absurd H (by simp)
       ·rw [if_neg c10] at H
        exact absurd H (by simp)
      ·rw [if_neg c9] at H
       (have c9b0 : decide (x19_2 < (l0.length : Int)) = false := decide_eq_false c9);clear c9;(obtain rfl := Option.some.inj H);(go_wp2);(go_ret);(exact ⟨zq40, zq54⟩)

end Go.Proofs.YtlkgajfhgcongaaGreatDoor.PFnEdits
