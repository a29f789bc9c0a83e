-- Made by a program of this session (gprint.py) out of the kit's print of the translation and texts of my own. SLIM
import Derived.Test.YtnjalpniedpgmaaGreatDoorPFnCataloguesx0
import Derived.Test.YtnjalpniedpgmaaGreatDoorPFnCataloguesx3
namespace Go.Proofs.YtnjalpniedpgmaaGreatDoor.PFnCatalogues
open Go.RowKit Go.Proofs.YtnjalpniedpgmaaGreatDoorW.PrintWords Go.Proofs.YtnjalpniedpgmaaGreatDoorW.PrintLast Go.Proofs.YtnjalpniedpgmaaGreatDoorW.PrintMore
set_option maxHeartbeats 64000000
set_option maxRecDepth 1000000
attribute [local go_sem] max2_int min2_int max_two min_two max_three min_three max_four min_four   -- for this text's walks alone
set_option linter.unusedVariables false
set_option linter.unusedSimpArgs false

/-! ### laws_f6ints: function 16 -/
def laws_f6ints.l0 : Nat → List Int → List Int → Int → Option (Bool)
 | 0, _, _, _ => none
 | k + 1, x0, x1, x5 => if x5 < (x0.length : Int) then (if 0 ≤ x5 then (if x5 < (x1.length : Int) then (if (rd x0 x5) = (rd x1 x5) then (laws_f6ints.l0 k x0 x1 (wrap64 (x5 + 1))) else (some false)) else (none)) else (none)) else (some true)
def laws_f6ints.f (k : Nat) (l0 : List Int) (l1 : List Int) : Option (Bool) := if (l0.length : Int) = (l1.length : Int) then (laws_f6ints.l0 k l0 l1 0) else (some false)
theorem laws_f6ints.mono_l : ∀ k, (∀ y0 y1 y2, LeO (laws_f6ints.l0 k y0 y1 y2) (laws_f6ints.l0 (k + 1) y0 y1 y2))
 | 0 => fun _ _ _ r h => by simp [laws_f6ints.l0] at h
 | k + 1 => by
  have ih0 := laws_f6ints.mono_l k
  ·intro y0 y1 y2
   unfold laws_f6ints.l0
   repeat' first | with_reducible (first | exact ih0 _ _ _ | exact LeO.refl _ | exact LeO.none _ | refine LeO.ite ?_ ?_ | refine LeO.bind ?_ (fun _ => ?_)) | exact ih0 _ _ _ | exact LeO.none _ | refine LeO.ite ?_ ?_ | refine LeO.bind ?_ (fun _ => ?_)
theorem laws_f6ints.mono : ∀ a0 a1 k, LeO (laws_f6ints.f k a0 a1) (laws_f6ints.f (k + 1) a0 a1) := by
 intro a0 a1 k;(have ih0 := laws_f6ints.mono_l k);(unfold laws_f6ints.f)
 repeat' first | with_reducible (first | exact ih0 _ _ _ | exact LeO.refl _ | exact LeO.none _ | refine LeO.ite ?_ ?_ | refine LeO.bind ?_ (fun _ => ?_)) | exact ih0 _ _ _ | exact LeO.none _ | refine LeO.ite ?_ ?_ | refine LeO.bind ?_ (fun _ => ?_)
theorem laws_f6ints.calls (k : Nat) (A0 : Option Addr) (c0 : Nat) (l0 : List Int) (A1 : Option Addr) (c1 : Nat) (l1 : List Int) (r : Bool) (w : World) (hr0 : Kd.C (Kd.int .i64) w A0 l0.length l0) (hc0 : l0.length ≤ c0) (hr1 : Kd.C (Kd.int .i64) w A1 l1.length l1) (hc1 : l1.length ≤ c1) (h : laws_f6ints.f k l0 l1 = some r) :
  Calls Tryz.prog 16 #[.slice A0 l0.length c0, .slice A1 l1.length c1] w fun e w' => e = .returned (.bool r) ∧ Drawn0 w w' := by
 (have HR0 := Aside0.mk hr0);(have HC0 := Aside0.mk hc0);clear hr0 hc0;(have HR1 := Aside0.mk hr1);(have HC1 := Aside0.mk hc1);clear hr1 hc1;(have H : (if (l0.length : Int) = (l1.length : Int) then (laws_f6ints.l0 k l0 l1 0) else (some false)) = some r := h);clear h;(by_cases c3 : (l0.length : Int) = (l1.length : Int))
 ·rw [if_pos c3] at H
  (have c3b0 : ((l0.length : Int) == (l1.length : Int)) = true := beq_iff_eq.mpr c3);(have c3b1 : ((l0.length : Int) != (l1.length : Int)) = false := bne_eq_false_iff_eq.mpr c3);(have c3b2 : (l0.length == l1.length) = true := by first | simpa using c3 | (simp at c3 ⊢; omega));clear c3;(have H' := Aside0.mk H);clear H
  go_enter Tryz.func16, Tryz.ntmps16
  (go_wp2);(repeat (go_quiet (fail); try go_wp2))
  go_loopg [5] k (fun kq v5 w' => ∃ (x5_1 : Int), v5 = .int .i64 x5_1 ∧ Aside0 (laws_f6ints.l0 kq l0 l1 x5_1 = some r) ∧ Aside0 (kq ≤ k) ∧ Drawn0 w w')
  case atStart => exact ⟨(0), zq34, H', ⟨Nat.le_refl _⟩, zq87⟩
  case round =>
   clear H';(try clear c1);(try clear p2);(try clear c3);(try clear c3b0);(try clear c3b1);(try clear c3b2);(obtain ⟨x5_1, rfl, HA, HK1, ⟨m1, rfl⟩⟩ := hrel)
   cases gk with
   | zero => exact absurd HA.out (by simp [laws_f6ints.l0])
   | succ k1 =>
    (have H := HA.out);clear HA;(simp only [laws_f6ints.l0] at H);(by_cases c4 : x5_1 < (l0.length : Int))
    ·rw [if_pos c4] at H
     (have c4b0 : decide (x5_1 < (l0.length : Int)) = true := decide_eq_true c4);clear c4;(by_cases c5 : 0 ≤ x5_1)
     ·rw [if_pos c5] at H
      (have c5b0 : decide (0 ≤ x5_1) = true := decide_eq_true c5);clear c5;(by_cases c6 : x5_1 < (l1.length : Int))
      ·rw [if_pos c6] at H
       (have c6b0 : decide (x5_1 < (l1.length : Int)) = true := decide_eq_true c6);clear c6;(by_cases c7 : (rd l0 x5_1) = (rd l1 x5_1))
       ·rw [if_pos c7] at H
        (have c7b0 : ((rd l0 x5_1) == (rd l1 x5_1)) = true := beq_iff_eq.mpr c7);(have c7b1 : ((rd l0 x5_1) != (rd l1 x5_1)) = false := bne_eq_false_iff_eq.mpr c7);clear c7;(have H' := Aside0.mk H);clear H;(have p454 : 0 ≤ (x5_1 : Int) := of_decide_eq_true zq27);(have q454 : x5_1 < (l0.length : Int) := of_decide_eq_true zq27);(obtain ⟨ad454, e454, hx454_0⟩ := Kd.at_int HR0.out x5_1 p454 q454)
        cases e454
        (replace p454 := eq_true p454);(replace q454 := eq_true q454);(have p455 : 0 ≤ (x5_1 : Int) := of_decide_eq_true zq27);(have q455 : x5_1 < (l1.length : Int) := of_decide_eq_true zq27);(obtain ⟨ad455, e455, hx455_0⟩ := Kd.at_int HR1.out x5_1 p455 q455)
        cases e455
        (replace p455 := eq_true p455);(replace q455 := eq_true q455);(go_wp2);(repeat (go_quiet (fail); try go_wp2));(go_roundg k1)
        case measure => have := HK1.out; omega
        case rel => exact ⟨(wrap64 (x5_1 + 1)), zq34, H', ⟨zq40⟩, zq87⟩
       ·rw [if_neg c7] at H
        (have c7b0 : ((rd l0 x5_1) == (rd l1 x5_1)) = false := beq_eq_false_iff_ne.mpr c7);(have c7b1 : ((rd l0 x5_1) != (rd l1 x5_1)) = true := bne_iff_ne.mpr c7);(obtain rfl := Option.some.inj H);(have p454 : 0 ≤ (x5_1 : Int) := of_decide_eq_true zq27);(have q454 : x5_1 < (l0.length : Int) := of_decide_eq_true zq27);(obtain ⟨ad454, e454, hx454_0⟩ := Kd.at_int HR0.out x5_1 p454 q454)
        cases e454
        (replace p454 := eq_true p454);(replace q454 := eq_true q454);(have p455 : 0 ≤ (x5_1 : Int) := of_decide_eq_true zq27);(have q455 : x5_1 < (l1.length : Int) := of_decide_eq_true zq27);(obtain ⟨ad455, e455, hx455_0⟩ := Kd.at_int HR1.out x5_1 p455 q455)
        cases e455
        (replace p455 := eq_true p455);(replace q455 := eq_true q455);(go_wp2);(repeat (go_quiet (fail); try go_wp2));(go_ret);(exact ⟨zq34, zq87⟩)
      ·rw [if_neg c6] at H
       exact absurd H (by simp)
     ·rw [if_neg c5] at H
      exact absurd H (by simp)
    ·rw [if_neg c4] at H
     (have c4b0 : decide (x5_1 < (l0.length : Int)) = false := decide_eq_false c4);clear c4;(obtain rfl := Option.some.inj H);(go_wp2);(repeat (go_quiet (fail); try go_wp2));(go_ret);(exact ⟨zq34, zq87⟩)
 ·rw [if_neg c3] at H
  (have c3b0 : ((l0.length : Int) == (l1.length : Int)) = false := beq_eq_false_iff_ne.mpr c3);(have c3b1 : ((l0.length : Int) != (l1.length : Int)) = true := bne_iff_ne.mpr c3);(have c3b2 : (l0.length == l1.length) = false := by first | simpa using c3 | (simp at c3 ⊢; omega));(obtain rfl := Option.some.inj H)
  go_enter Tryz.func16, Tryz.ntmps16
  (go_wp2);(repeat (go_quiet (fail); try go_wp2));(go_ret);(exact ⟨zq34, zq87⟩)

/-! ### strconv_FormatInt: function 59 -/
-- given by hand
def layFmt_ren : Go.Shelf.Ren := ⟨(fun | 173 => 59 | 246 => 74 | 283 => 91 | 284 => 92 | 285 => 93 | 286 => 94 | 129 => 107 | 317 => 112 | 318 => 113 | 319 => 114 | 320 => 115 | 337 => 125 | 338 => 126 | n => n), (fun | 2 => 2 | 3 => 3 | 9 => 9 | 4 => 4 | 171 => 106 | 0 => 0 | 53 => 68 | 37 => 22 | 5 => 5 | 173 => 109 | 212 => 130 | 51 => 124 | 20 => 20 | 213 => 131 | 46 => 95 | 232 => 150 | 233 => 151 | n => n), (fun | 17 => 0 | 18 => 4 | 19 => 5 | n => n)⟩
theorem layFmt : Go.Proofs.Lays.n173 Tryz.prog layFmt_ren := { mixed := by kernel_rfl, f129 := Tryz.func107.trans (congrArg some (by kernel_rfl)), f173 := Tryz.func59.trans (congrArg some (by kernel_rfl)), f246 := Tryz.func74.trans (congrArg some (by kernel_rfl)), f283 := Tryz.func91.trans (congrArg some (by kernel_rfl)), f284 := Tryz.func92.trans (congrArg some (by kernel_rfl)), f285 := Tryz.func93.trans (congrArg some (by kernel_rfl)), f286 := Tryz.func94.trans (congrArg some (by kernel_rfl)), f317 := Tryz.func112.trans (congrArg some (by kernel_rfl)), f318 := Tryz.func113.trans (congrArg some (by kernel_rfl)), f319 := Tryz.func114.trans (congrArg some (by kernel_rfl)), f320 := Tryz.func115.trans (congrArg some (by kernel_rfl)), f337 := Tryz.func125.trans (congrArg some (by kernel_rfl)), f338 := Tryz.func126.trans (congrArg some (by kernel_rfl)), t0 := Tryz.underlying0, a0 := Tryz.isAgg0, z0 := Tryz.sizeOf0, v0 := Tryz.zeroValue0, t2 := Tryz.underlying2, a2 := Tryz.isAgg2, z2 := Tryz.sizeOf2, v2 := Tryz.zeroValue2, t3 := Tryz.underlying3, a3 := Tryz.isAgg3, z3 := Tryz.sizeOf3, v3 := Tryz.zeroValue3, t4 := Tryz.underlying4, a4 := Tryz.isAgg4, z4 := Tryz.sizeOf4, v4 := Tryz.zeroValue4, t5 := Tryz.underlying5, a5 := Tryz.isAgg5, z5 := Tryz.sizeOf5, v5 := Tryz.zeroValue5, t9 := Tryz.underlying9, a9 := Tryz.isAgg9, z9 := Tryz.sizeOf9, v9 := Tryz.zeroValue9, t20 := Tryz.underlying20, a20 := Tryz.isAgg20, z20 := Tryz.sizeOf20, v20 := Tryz.zeroValue20, t37 := Tryz.underlying22, a37 := Tryz.isAgg22, z37 := Tryz.sizeOf22, v37 := Tryz.zeroValue22, t46 := Tryz.underlying95, a46 := Tryz.isAgg95, z46 := Tryz.sizeOf95, v46 := Tryz.zeroValue95, t51 := Tryz.underlying124, a51 := Tryz.isAgg124, z51 := Tryz.sizeOf124, v51 := Tryz.zeroValue124, t53 := Tryz.underlying68, a53 := Tryz.isAgg68, z53 := Tryz.sizeOf68, v53 := Tryz.zeroValue68, t171 := Tryz.underlying106, a171 := Tryz.isAgg106, z171 := Tryz.sizeOf106, v171 := Tryz.zeroValue106, t173 := Tryz.underlying109, a173 := Tryz.isAgg109, z173 := Tryz.sizeOf109, v173 := Tryz.zeroValue109, t212 := Tryz.underlying130, a212 := Tryz.isAgg130, z212 := Tryz.sizeOf130, v212 := Tryz.zeroValue130, t213 := Tryz.underlying131, a213 := Tryz.isAgg131, z213 := Tryz.sizeOf131, t232 := Tryz.underlying150, a232 := Tryz.isAgg150, z232 := Tryz.sizeOf150, v232 := Tryz.zeroValue150, t233 := Tryz.underlying151, a233 := Tryz.isAgg151, z233 := Tryz.sizeOf151, v233 := Tryz.zeroValue151, g17 := by kernel_rfl, g18 := by kernel_rfl, g19 := by kernel_rfl }
theorem layFmtM : Go.Proofs.LaysM.n173 Tryz.prog layFmt_ren := { layFmt with i0 := by kernel_rfl, i2 := by kernel_rfl, i3 := by kernel_rfl, i4 := by kernel_rfl, i5 := by kernel_rfl, i9 := by kernel_rfl, i20 := by kernel_rfl, i37 := by kernel_rfl, i46 := by kernel_rfl, i51 := by kernel_rfl, i53 := by kernel_rfl, i171 := by kernel_rfl, i173 := by kernel_rfl, i212 := by kernel_rfl, i232 := by kernel_rfl, i233 := by kernel_rfl, m17 := by kernel_rfl, m18 := by kernel_rfl, m19 := by kernel_rfl }

/-- The library's table of the powers of ten lies in this world. -/
def TabW (w : World) : Prop := Go.Lib.TabIs Tryz.prog w "internal/strconv.uint64pow10" .u64 Go.Lib.pow10Tab
theorem TabW.below {w w' : World} (h : TabW w) (hb : Below w.heap.size w w') : TabW w' := by
 unfold TabW Go.Lib.TabIs World.var? at h ⊢
 cases hg : Tryz.prog.globalNamed "internal/strconv.uint64pow10" with
 | none => rw [hg] at h; cases h
 | some g =>
  (rw [hg] at h);(simp only [Option.bind_some] at h ⊢)
  have hlt : g < w.heap.size := by
   rcases Nat.lt_or_ge g w.heap.size with h' | h'
   ·exact h'
   ·rw [Array.getElem?_eq_none h'] at h; cases h
  (rw [hb.block g hlt]);(exact h)
def strconv_FormatInt.f (a0 a1 : Int) : Option ByteArray := if a1 = 10 ∧ 0 ≤ a0 ∧ a0 < 1000000 then some ⟨(Go.Lib.decDigits a0.toNat).toArray⟩ else none
theorem strconv_FormatInt.calls (a0 : Int) (a1 : Int) (r : ByteArray) (w : World) (h : strconv_FormatInt.f a0 a1 = some r) (hT : TabW w) :
  Calls Tryz.prog 59 #[.int .i64 a0, .int .i64 a1] w fun e w' => e = .returned (.string r) ∧ Below w.heap.size w w' := by
 unfold strconv_FormatInt.f at h
 split at h
 ·rename_i hc
  (obtain rfl := Option.some.inj h);(obtain ⟨rfl, h0, h1⟩ := hc);(obtain ⟨m, rfl⟩ := Int.eq_ofNat_of_zero_le h0);(refine (Go.Proofs.Any.strconv_FormatInt_10 layFmtM (m : Int) (by omega) (by omega) w hT).mono ?_);(rintro e w' ⟨rfl, k, os, rfl⟩);(exact ⟨by rw [Go.Lib.itoa_nonneg]; rfl, Go.Lib.below_grow _ w (Nat.le_refl _) k os⟩)
 ·cases h


/-! ### impl_Decimal: function 39 -/
def impl_Decimal.f (a0 : Int) : Option (ByteArray) := (strconv_FormatInt.f a0 10).bind fun t456 => (some t456)
theorem impl_Decimal.calls (a0 : Int) (r : ByteArray) (w : World) (h : impl_Decimal.f a0 = some r) (hTabW : TabW w) :
  Calls Tryz.prog 39 #[.int .i64 a0] w fun e w' => e = .returned (.string r) ∧ Below w.heap.size w w' := by
 (have HTABW := Aside0.mk hTabW);clear hTabW;(have HB := Aside0.mk (Below.refl w.heap.size w));(have H : ((strconv_FormatInt.f a0 10).bind fun t456 => (some t456)) = some r := h);clear h;(replace H := Option.bind_eq_some_iff.mp H);(obtain ⟨t456, A20, H⟩ := H);(replace H : (some t456) = some r := H);(have A2 := Aside0.mk A20);clear A20;(obtain rfl := Option.some.inj H)
 go_enter Tryz.func39, Tryz.ntmps39
 (go_wp2_with (first | ((with_reducible refine gate_callee (f := 59) rfl ?_); refine goesL_ (some 4) rfl rfl Tryz.func59 (by kernel_rfl) rfl #[.int .i64 a0, .int .i64 10] rfl zq0 ?_; (with_reducible refine (strconv_FormatInt.calls a0 10 t456 _ A2.out ?atTabW_).mono ?_); (case atTabW_ => exact HTABW.out.below zq66); rintro e w3 ⟨rfl, hb⟩; refine ⟨_, rfl, ?_⟩; have n0_ := Aside0.mk (below_step zq66 hb); clear HB; have HB := n0_; clear n0_; (try clear hb); (try clear hb2); (try clear hk); (try clear hi))));(go_ret);(exact ⟨zq31, zq66⟩)

/-! ### impl_padded: function 75 -/
def impl_padded.f (a0 : Int) : Option (ByteArray) := if a0 < 10 then ((impl_Decimal.f a0).bind fun t457 => (if 1 + t457.size ≤ 9223372036854775807 then (some ((⟨#[48]⟩ : ByteArray) ++ t457)) else (none))) else ((impl_Decimal.f a0).bind fun t458 => (some t458))
theorem impl_padded.calls (a0 : Int) (r : ByteArray) (w : World) (h : impl_padded.f a0 = some r) (hTabW : TabW w) :
  Calls Tryz.prog 75 #[.int .i64 a0] w fun e w' => e = .returned (.string r) ∧ Below w.heap.size w w' := by
 (have HTABW := Aside0.mk hTabW);clear hTabW;(have HB := Aside0.mk (Below.refl w.heap.size w));(have H : (if a0 < 10 then ((impl_Decimal.f a0).bind fun t457 => (if 1 + t457.size ≤ 9223372036854775807 then (some ((⟨#[48]⟩ : ByteArray) ++ t457)) else (none))) else ((impl_Decimal.f a0).bind fun t458 => (some t458))) = some r := h);clear h;(by_cases c2 : a0 < 10)
 ·rw [if_pos c2] at H
  (have c2b0 : decide (a0 < 10) = true := decide_eq_true c2);clear c2;(replace H := Option.bind_eq_some_iff.mp H);(obtain ⟨t457, A30, H⟩ := H);(replace H : (if 1 + t457.size ≤ 9223372036854775807 then (some ((⟨#[48]⟩ : ByteArray) ++ t457)) else (none)) = some r := H);(have A3 := Aside0.mk A30);clear A30;(by_cases c4 : 1 + t457.size ≤ 9223372036854775807)
  ·rw [if_pos c4] at H
   (have c4b0 := eq_true c4);(have c4b1 : decide (1 + t457.size ≤ 9223372036854775807) = true := decide_eq_true c4);(try have c4b2 : (9223372036854775807 < 1 + t457.size) = False := eq_false (Nat.not_lt.2 c4));(obtain rfl := Option.some.inj H)
   go_enter Tryz.func75, Tryz.ntmps75
   (go_wp2_with (first | ((with_reducible refine gate_callee (f := 39) rfl ?_); refine goesL_ (some 6) rfl rfl Tryz.func39 (by kernel_rfl) rfl #[.int .i64 a0] rfl zq0 ?_; (with_reducible refine (impl_Decimal.calls a0 t457 _ A3.out ?atTabW_).mono ?_); (case atTabW_ => exact HTABW.out.below zq66); rintro e w5 ⟨rfl, hb⟩; refine ⟨_, rfl, ?_⟩; have n0_ := Aside0.mk (below_step zq66 hb); clear HB; have HB := n0_; clear n0_; (try clear hb); (try clear hb2); (try clear hk); (try clear hi))));(go_ret);(exact ⟨zq31, zq66⟩)
  ·rw [if_neg c4] at H
   exact absurd H (by simp)
 ·rw [if_neg c2] at H
  (have c2b0 : decide (a0 < 10) = false := decide_eq_false c2);clear c2;(replace H := Option.bind_eq_some_iff.mp H);(obtain ⟨t458, A60, H⟩ := H);(replace H : (some t458) = some r := H);(have A6 := Aside0.mk A60);clear A60;(obtain rfl := Option.some.inj H)
  go_enter Tryz.func75, Tryz.ntmps75
  (go_wp2_with (first | ((with_reducible refine gate_callee (f := 39) rfl ?_); refine goesL_ (some 9) rfl rfl Tryz.func39 (by kernel_rfl) rfl #[.int .i64 a0] rfl zq0 ?_; (with_reducible refine (impl_Decimal.calls a0 t458 _ A6.out ?atTabW_).mono ?_); (case atTabW_ => exact HTABW.out.below zq66); rintro e w7 ⟨rfl, hb⟩; refine ⟨_, rfl, ?_⟩; have n0_ := Aside0.mk (below_step zq66 hb); clear HB; have HB := n0_; clear n0_; (try clear hb); (try clear hb2); (try clear hk); (try clear hi))));(go_ret);(exact ⟨zq31, zq66⟩)

/-! ### impl_angleText: function 60 -/
def impl_angleText.f (a0 : Int) (a1 : ByteArray) (a2 : ByteArray) : Option (ByteArray) := if a0 < 0 then ((impl_Decimal.f (wrap64 (Int.tdiv (wrap64 (-a0)) 3600))).bind fun t459 => (if t459.size + 1 ≤ 9223372036854775807 then ((impl_padded.f (Int.tmod (wrap64 (Int.tdiv (wrap64 (-a0)) 60)) 60)).bind fun t460 => (if (t459 ++ (⟨#[46]⟩ : ByteArray)).size + t460.size ≤ 9223372036854775807 then (if ((t459 ++ (⟨#[46]⟩ : ByteArray)) ++ t460).size + 1 ≤ 9223372036854775807 then ((impl_padded.f (Int.tmod (wrap64 (-a0)) 60)).bind fun t461 => (if (((t459 ++ (⟨#[46]⟩ : ByteArray)) ++ t460) ++ (⟨#[46]⟩ : ByteArray)).size + t461.size ≤ 9223372036854775807 then (if ((((t459 ++ (⟨#[46]⟩ : ByteArray)) ++ t460) ++ (⟨#[46]⟩ : ByteArray)) ++ t461).size + a2.size ≤ 9223372036854775807 then (some (((((t459 ++ (⟨#[46]⟩ : ByteArray)) ++ t460) ++ (⟨#[46]⟩ : ByteArray)) ++ t461) ++ a2)) else (none)) else (none))) else (none)) else (none))) else (none))) else ((impl_Decimal.f (wrap64 (Int.tdiv a0 3600))).bind fun t462 => (if t462.size + 1 ≤ 9223372036854775807 then ((impl_padded.f (Int.tmod (wrap64 (Int.tdiv a0 60)) 60)).bind fun t463 => (if (t462 ++ (⟨#[46]⟩ : ByteArray)).size + t463.size ≤ 9223372036854775807 then (if ((t462 ++ (⟨#[46]⟩ : ByteArray)) ++ t463).size + 1 ≤ 9223372036854775807 then ((impl_padded.f (Int.tmod a0 60)).bind fun t464 => (if (((t462 ++ (⟨#[46]⟩ : ByteArray)) ++ t463) ++ (⟨#[46]⟩ : ByteArray)).size + t464.size ≤ 9223372036854775807 then (if ((((t462 ++ (⟨#[46]⟩ : ByteArray)) ++ t463) ++ (⟨#[46]⟩ : ByteArray)) ++ t464).size + a1.size ≤ 9223372036854775807 then (some (((((t462 ++ (⟨#[46]⟩ : ByteArray)) ++ t463) ++ (⟨#[46]⟩ : ByteArray)) ++ t464) ++ a1)) else (none)) else (none))) else (none)) else (none))) else (none)))
theorem impl_angleText.calls (a0 : Int) (a1 : ByteArray) (a2 : ByteArray) (r : ByteArray) (w : World) (h : impl_angleText.f a0 a1 a2 = some r) (hTabW : TabW w) :
  Calls Tryz.prog 60 #[.int .i64 a0, .string a1, .string a2] w fun e w' => e = .returned (.string r) ∧ Below w.heap.size w w' := by
 (have HTABW := Aside0.mk hTabW);clear hTabW;(have HB := Aside0.mk (Below.refl w.heap.size w));(have H : (if a0 < 0 then ((impl_Decimal.f (wrap64 (Int.tdiv (wrap64 (-a0)) 3600))).bind fun t459 => (if t459.size + 1 ≤ 9223372036854775807 then ((impl_padded.f (Int.tmod (wrap64 (Int.tdiv (wrap64 (-a0)) 60)) 60)).bind fun t460 => (if (t459 ++ (⟨#[46]⟩ : ByteArray)).size + t460.size ≤ 9223372036854775807 then (if ((t459 ++ (⟨#[46]⟩ : ByteArray)) ++ t460).size + 1 ≤ 9223372036854775807 then ((impl_padded.f (Int.tmod (wrap64 (-a0)) 60)).bind fun t461 => (if (((t459 ++ (⟨#[46]⟩ : ByteArray)) ++ t460) ++ (⟨#[46]⟩ : ByteArray)).size + t461.size ≤ 9223372036854775807 then (if ((((t459 ++ (⟨#[46]⟩ : ByteArray)) ++ t460) ++ (⟨#[46]⟩ : ByteArray)) ++ t461).size + a2.size ≤ 9223372036854775807 then (some (((((t459 ++ (⟨#[46]⟩ : ByteArray)) ++ t460) ++ (⟨#[46]⟩ : ByteArray)) ++ t461) ++ a2)) else (none)) else (none))) else (none)) else (none))) else (none))) else ((impl_Decimal.f (wrap64 (Int.tdiv a0 3600))).bind fun t462 => (if t462.size + 1 ≤ 9223372036854775807 then ((impl_padded.f (Int.tmod (wrap64 (Int.tdiv a0 60)) 60)).bind fun t463 => (if (t462 ++ (⟨#[46]⟩ : ByteArray)).size + t463.size ≤ 9223372036854775807 then (if ((t462 ++ (⟨#[46]⟩ : ByteArray)) ++ t463).size + 1 ≤ 9223372036854775807 then ((impl_padded.f (Int.tmod a0 60)).bind fun t464 => (if (((t462 ++ (⟨#[46]⟩ : ByteArray)) ++ t463) ++ (⟨#[46]⟩ : ByteArray)).size + t464.size ≤ 9223372036854775807 then (if ((((t462 ++ (⟨#[46]⟩ : ByteArray)) ++ t463) ++ (⟨#[46]⟩ : ByteArray)) ++ t464).size + a1.size ≤ 9223372036854775807 then (some (((((t462 ++ (⟨#[46]⟩ : ByteArray)) ++ t463) ++ (⟨#[46]⟩ : ByteArray)) ++ t464) ++ a1)) else (none)) else (none))) else (none)) else (none))) else (none)))) = some r := h);clear h;(by_cases c4 : a0 < 0)
 ·rw [if_pos c4] at H
  (have c4b0 : decide (a0 < 0) = true := decide_eq_true c4);clear c4;(replace H := Option.bind_eq_some_iff.mp H);(obtain ⟨t459, A50, H⟩ := H);(replace H : (if t459.size + 1 ≤ 9223372036854775807 then ((impl_padded.f (Int.tmod (wrap64 (Int.tdiv (wrap64 (-a0)) 60)) 60)).bind fun t460 => (if (t459 ++ (⟨#[46]⟩ : ByteArray)).size + t460.size ≤ 9223372036854775807 then (if ((t459 ++ (⟨#[46]⟩ : ByteArray)) ++ t460).size + 1 ≤ 9223372036854775807 then ((impl_padded.f (Int.tmod (wrap64 (-a0)) 60)).bind fun t461 => (if (((t459 ++ (⟨#[46]⟩ : ByteArray)) ++ t460) ++ (⟨#[46]⟩ : ByteArray)).size + t461.size ≤ 9223372036854775807 then (if ((((t459 ++ (⟨#[46]⟩ : ByteArray)) ++ t460) ++ (⟨#[46]⟩ : ByteArray)) ++ t461).size + a2.size ≤ 9223372036854775807 then (some (((((t459 ++ (⟨#[46]⟩ : ByteArray)) ++ t460) ++ (⟨#[46]⟩ : ByteArray)) ++ t461) ++ a2)) else (none)) else (none))) else (none)) else (none))) else (none)) = some r := H);(have A5 := Aside0.mk A50);clear A50;(by_cases c6 : t459.size + 1 ≤ 9223372036854775807)
  ·rw [if_pos c6] at H
   (have c6b0 := eq_true c6);(have c6b1 : decide (t459.size + 1 ≤ 9223372036854775807) = true := decide_eq_true c6);(try have c6b2 : (9223372036854775807 < t459.size + 1) = False := eq_false (Nat.not_lt.2 c6));(replace H := Option.bind_eq_some_iff.mp H);(obtain ⟨t460, A70, H⟩ := H);(replace H : (if (t459 ++ (⟨#[46]⟩ : ByteArray)).size + t460.size ≤ 9223372036854775807 then (if ((t459 ++ (⟨#[46]⟩ : ByteArray)) ++ t460).size + 1 ≤ 9223372036854775807 then ((impl_padded.f (Int.tmod (wrap64 (-a0)) 60)).bind fun t461 => (if (((t459 ++ (⟨#[46]⟩ : ByteArray)) ++ t460) ++ (⟨#[46]⟩ : ByteArray)).size + t461.size ≤ 9223372036854775807 then (if ((((t459 ++ (⟨#[46]⟩ : ByteArray)) ++ t460) ++ (⟨#[46]⟩ : ByteArray)) ++ t461).size + a2.size ≤ 9223372036854775807 then (some (((((t459 ++ (⟨#[46]⟩ : ByteArray)) ++ t460) ++ (⟨#[46]⟩ : ByteArray)) ++ t461) ++ a2)) else (none)) else (none))) else (none)) else (none)) = some r := H);(have A7 := Aside0.mk A70);clear A70;(by_cases c8 : (t459 ++ (⟨#[46]⟩ : ByteArray)).size + t460.size ≤ 9223372036854775807)
   ·rw [if_pos c8] at H
    (have c8b0 := eq_true c8);(have c8b1 : decide ((t459 ++ (⟨#[46]⟩ : ByteArray)).size + t460.size ≤ 9223372036854775807) = true := decide_eq_true c8);(try have c8b2 : (9223372036854775807 < (t459 ++ (⟨#[46]⟩ : ByteArray)).size + t460.size) = False := eq_false (Nat.not_lt.2 c8));(have c8b4 := c8b2);(simp only [ByteArray.size_append, show (⟨#[46]⟩ : ByteArray).size = 1 from rfl] at c8b4);(by_cases c9 : ((t459 ++ (⟨#[46]⟩ : ByteArray)) ++ t460).size + 1 ≤ 9223372036854775807)
    ·rw [if_pos c9] at H
     (have c9b0 := eq_true c9);(have c9b1 : decide (((t459 ++ (⟨#[46]⟩ : ByteArray)) ++ t460).size + 1 ≤ 9223372036854775807) = true := decide_eq_true c9);(try have c9b2 : (9223372036854775807 < ((t459 ++ (⟨#[46]⟩ : ByteArray)) ++ t460).size + 1) = False := eq_false (Nat.not_lt.2 c9));(have c9b4 := c9b2);(simp only [ByteArray.size_append, show (⟨#[46]⟩ : ByteArray).size = 1 from rfl] at c9b4);(replace H := Option.bind_eq_some_iff.mp H);(obtain ⟨t461, A100, H⟩ := H);(replace H : (if (((t459 ++ (⟨#[46]⟩ : ByteArray)) ++ t460) ++ (⟨#[46]⟩ : ByteArray)).size + t461.size ≤ 9223372036854775807 then (if ((((t459 ++ (⟨#[46]⟩ : ByteArray)) ++ t460) ++ (⟨#[46]⟩ : ByteArray)) ++ t461).size + a2.size ≤ 9223372036854775807 then (some (((((t459 ++ (⟨#[46]⟩ : ByteArray)) ++ t460) ++ (⟨#[46]⟩ : ByteArray)) ++ t461) ++ a2)) else (none)) else (none)) = some r := H);(have A10 := Aside0.mk A100);clear A100;(by_cases c11 : (((t459 ++ (⟨#[46]⟩ : ByteArray)) ++ t460) ++ (⟨#[46]⟩ : ByteArray)).size + t461.size ≤ 9223372036854775807)
     ·rw [if_pos c11] at H
      (have c11b0 := eq_true c11);(have c11b1 : decide ((((t459 ++ (⟨#[46]⟩ : ByteArray)) ++ t460) ++ (⟨#[46]⟩ : ByteArray)).size + t461.size ≤ 9223372036854775807) = true := decide_eq_true c11);(try have c11b2 : (9223372036854775807 < (((t459 ++ (⟨#[46]⟩ : ByteArray)) ++ t460) ++ (⟨#[46]⟩ : ByteArray)).size + t461.size) = False := eq_false (Nat.not_lt.2 c11));(have c11b4 := c11b2);(simp only [ByteArray.size_append, show (⟨#[46]⟩ : ByteArray).size = 1 from rfl] at c11b4);(by_cases c12 : ((((t459 ++ (⟨#[46]⟩ : ByteArray)) ++ t460) ++ (⟨#[46]⟩ : ByteArray)) ++ t461).size + a2.size ≤ 9223372036854775807)
      ·rw [if_pos c12] at H
       (have c12b0 := eq_true c12);(have c12b1 : decide (((((t459 ++ (⟨#[46]⟩ : ByteArray)) ++ t460) ++ (⟨#[46]⟩ : ByteArray)) ++ t461).size + a2.size ≤ 9223372036854775807) = true := decide_eq_true c12);(try have c12b2 : (9223372036854775807 < ((((t459 ++ (⟨#[46]⟩ : ByteArray)) ++ t460) ++ (⟨#[46]⟩ : ByteArray)) ++ t461).size + a2.size) = False := eq_false (Nat.not_lt.2 c12));(have c12b4 := c12b2);(simp only [ByteArray.size_append, show (⟨#[46]⟩ : ByteArray).size = 1 from rfl] at c12b4);(obtain rfl := Option.some.inj H)
       go_enter Tryz.func60, Tryz.ntmps60
       (go_wp2_with (first | ((with_reducible refine gate_callee (f := 39) rfl ?_); refine goesL_ (some 14) rfl rfl Tryz.func39 (by kernel_rfl) rfl #[.int .i64 (wrap64 (Int.tdiv (wrap64 (-a0)) 3600))] rfl zq0 ?_; (with_reducible refine (impl_Decimal.calls (wrap64 (Int.tdiv (wrap64 (-a0)) 3600)) t459 _ A5.out ?atTabW_).mono ?_); (case atTabW_ => exact HTABW.out.below zq66); rintro e w13 ⟨rfl, hb⟩; refine ⟨_, rfl, ?_⟩; have n0_ := Aside0.mk (below_step zq66 hb); clear HB; have HB := n0_; clear n0_; (try clear hb); (try clear hb2); (try clear hk); (try clear hi)) | ((with_reducible refine gate_callee (f := 75) rfl ?_); refine goesL_ (some 19) rfl rfl Tryz.func75 (by kernel_rfl) rfl #[.int .i64 (Int.tmod (wrap64 (Int.tdiv (wrap64 (-a0)) 60)) 60)] rfl zq0 ?_; (with_reducible refine (impl_padded.calls (Int.tmod (wrap64 (Int.tdiv (wrap64 (-a0)) 60)) 60) t460 _ A7.out ?atTabW_).mono ?_); (case atTabW_ => exact HTABW.out.below zq66); rintro e w14 ⟨rfl, hb⟩; refine ⟨_, rfl, ?_⟩; have n0_ := Aside0.mk (below_step zq66 hb); clear HB; have HB := n0_; clear n0_; (try clear hb); (try clear hb2); (try clear hk); (try clear hi)) | ((with_reducible refine gate_callee (f := 75) rfl ?_); refine goesL_ (some 24) rfl rfl Tryz.func75 (by kernel_rfl) rfl #[.int .i64 (Int.tmod (wrap64 (-a0)) 60)] rfl zq0 ?_; (with_reducible refine (impl_padded.calls (Int.tmod (wrap64 (-a0)) 60) t461 _ A10.out ?atTabW_).mono ?_); (case atTabW_ => exact HTABW.out.below zq66); rintro e w15 ⟨rfl, hb⟩; refine ⟨_, rfl, ?_⟩; have n0_ := Aside0.mk (below_step zq66 hb); clear HB; have HB := n0_; clear n0_; (try clear hb); (try clear hb2); (try clear hk); (try clear hi))));(go_ret);(exact ⟨zq31, zq66⟩)
      ·rw [if_neg c12] at H
       exact absurd H (by simp)
     ·rw [if_neg c11] at H
      exact absurd H (by simp)
    ·rw [if_neg c9] at H
     exact absurd H (by simp)
   ·rw [if_neg c8] at H
    exact absurd H (by simp)
  ·rw [if_neg c6] at H
   exact absurd H (by simp)
 ·rw [if_neg c4] at H
  (have c4b0 : decide (a0 < 0) = false := decide_eq_false c4);clear c4;(replace H := Option.bind_eq_some_iff.mp H);(obtain ⟨t462, A160, H⟩ := H);(replace H : (if t462.size + 1 ≤ 9223372036854775807 then ((impl_padded.f (Int.tmod (wrap64 (Int.tdiv a0 60)) 60)).bind fun t463 => (if (t462 ++ (⟨#[46]⟩ : ByteArray)).size + t463.size ≤ 9223372036854775807 then (if ((t462 ++ (⟨#[46]⟩ : ByteArray)) ++ t463).size + 1 ≤ 9223372036854775807 then ((impl_padded.f (Int.tmod a0 60)).bind fun t464 => (if (((t462 ++ (⟨#[46]⟩ : ByteArray)) ++ t463) ++ (⟨#[46]⟩ : ByteArray)).size + t464.size ≤ 9223372036854775807 then (if ((((t462 ++ (⟨#[46]⟩ : ByteArray)) ++ t463) ++ (⟨#[46]⟩ : ByteArray)) ++ t464).size + a1.size ≤ 9223372036854775807 then (some (((((t462 ++ (⟨#[46]⟩ : ByteArray)) ++ t463) ++ (⟨#[46]⟩ : ByteArray)) ++ t464) ++ a1)) else (none)) else (none))) else (none)) else (none))) else (none)) = some r := H);(have A16 := Aside0.mk A160);clear A160;(by_cases c17 : t462.size + 1 ≤ 9223372036854775807)
  ·rw [if_pos c17] at H
   (have c17b0 := eq_true c17);(have c17b1 : decide (t462.size + 1 ≤ 9223372036854775807) = true := decide_eq_true c17);(try have c17b2 : (9223372036854775807 < t462.size + 1) = False := eq_false (Nat.not_lt.2 c17));(replace H := Option.bind_eq_some_iff.mp H);(obtain ⟨t463, A180, H⟩ := H);(replace H : (if (t462 ++ (⟨#[46]⟩ : ByteArray)).size + t463.size ≤ 9223372036854775807 then (if ((t462 ++ (⟨#[46]⟩ : ByteArray)) ++ t463).size + 1 ≤ 9223372036854775807 then ((impl_padded.f (Int.tmod a0 60)).bind fun t464 => (if (((t462 ++ (⟨#[46]⟩ : ByteArray)) ++ t463) ++ (⟨#[46]⟩ : ByteArray)).size + t464.size ≤ 9223372036854775807 then (if ((((t462 ++ (⟨#[46]⟩ : ByteArray)) ++ t463) ++ (⟨#[46]⟩ : ByteArray)) ++ t464).size + a1.size ≤ 9223372036854775807 then (some (((((t462 ++ (⟨#[46]⟩ : ByteArray)) ++ t463) ++ (⟨#[46]⟩ : ByteArray)) ++ t464) ++ a1)) else (none)) else (none))) else (none)) else (none)) = some r := H);(have A18 := Aside0.mk A180);clear A180;(by_cases c19 : (t462 ++ (⟨#[46]⟩ : ByteArray)).size + t463.size ≤ 9223372036854775807)
   ·rw [if_pos c19] at H
    (have c19b0 := eq_true c19);(have c19b1 : decide ((t462 ++ (⟨#[46]⟩ : ByteArray)).size + t463.size ≤ 9223372036854775807) = true := decide_eq_true c19);(try have c19b2 : (9223372036854775807 < (t462 ++ (⟨#[46]⟩ : ByteArray)).size + t463.size) = False := eq_false (Nat.not_lt.2 c19));(have c19b4 := c19b2);(simp only [ByteArray.size_append, show (⟨#[46]⟩ : ByteArray).size = 1 from rfl] at c19b4);(by_cases c20 : ((t462 ++ (⟨#[46]⟩ : ByteArray)) ++ t463).size + 1 ≤ 9223372036854775807)
    ·rw [if_pos c20] at H
     (have c20b0 := eq_true c20);(have c20b1 : decide (((t462 ++ (⟨#[46]⟩ : ByteArray)) ++ t463).size + 1 ≤ 9223372036854775807) = true := decide_eq_true c20);(try have c20b2 : (9223372036854775807 < ((t462 ++ (⟨#[46]⟩ : ByteArray)) ++ t463).size + 1) = False := eq_false (Nat.not_lt.2 c20));(have c20b4 := c20b2);(simp only [ByteArray.size_append, show (⟨#[46]⟩ : ByteArray).size = 1 from rfl] at c20b4);(replace H := Option.bind_eq_some_iff.mp H);(obtain ⟨t464, A210, H⟩ := H);(replace H : (if (((t462 ++ (⟨#[46]⟩ : ByteArray)) ++ t463) ++ (⟨#[46]⟩ : ByteArray)).size + t464.size ≤ 9223372036854775807 then (if ((((t462 ++ (⟨#[46]⟩ : ByteArray)) ++ t463) ++ (⟨#[46]⟩ : ByteArray)) ++ t464).size + a1.size ≤ 9223372036854775807 then (some (((((t462 ++ (⟨#[46]⟩ : ByteArray)) ++ t463) ++ (⟨#[46]⟩ : ByteArray)) ++ t464) ++ a1)) else (none)) else (none)) = some r := H);(have A21 := Aside0.mk A210);clear A210;(by_cases c22 : (((t462 ++ (⟨#[46]⟩ : ByteArray)) ++ t463) ++ (⟨#[46]⟩ : ByteArray)).size + t464.size ≤ 9223372036854775807)
     ·rw [if_pos c22] at H
      (have c22b0 := eq_true c22);(have c22b1 : decide ((((t462 ++ (⟨#[46]⟩ : ByteArray)) ++ t463) ++ (⟨#[46]⟩ : ByteArray)).size + t464.size ≤ 9223372036854775807) = true := decide_eq_true c22);(try have c22b2 : (9223372036854775807 < (((t462 ++ (⟨#[46]⟩ : ByteArray)) ++ t463) ++ (⟨#[46]⟩ : ByteArray)).size + t464.size) = False := eq_false (Nat.not_lt.2 c22));(have c22b4 := c22b2);(simp only [ByteArray.size_append, show (⟨#[46]⟩ : ByteArray).size = 1 from rfl] at c22b4);(by_cases c23 : ((((t462 ++ (⟨#[46]⟩ : ByteArray)) ++ t463) ++ (⟨#[46]⟩ : ByteArray)) ++ t464).size + a1.size ≤ 9223372036854775807)
      ·rw [if_pos c23] at H
       (have c23b0 := eq_true c23);(have c23b1 : decide (((((t462 ++ (⟨#[46]⟩ : ByteArray)) ++ t463) ++ (⟨#[46]⟩ : ByteArray)) ++ t464).size + a1.size ≤ 9223372036854775807) = true := decide_eq_true c23);(try have c23b2 : (9223372036854775807 < ((((t462 ++ (⟨#[46]⟩ : ByteArray)) ++ t463) ++ (⟨#[46]⟩ : ByteArray)) ++ t464).size + a1.size) = False := eq_false (Nat.not_lt.2 c23));(have c23b4 := c23b2);(simp only [ByteArray.size_append, show (⟨#[46]⟩ : ByteArray).size = 1 from rfl] at c23b4);(obtain rfl := Option.some.inj H)
       go_enter Tryz.func60, Tryz.ntmps60
       (go_wp2_with (first | ((with_reducible refine gate_callee (f := 39) rfl ?_); refine goesL_ (some 14) rfl rfl Tryz.func39 (by kernel_rfl) rfl #[.int .i64 (wrap64 (Int.tdiv a0 3600))] rfl zq0 ?_; (with_reducible refine (impl_Decimal.calls (wrap64 (Int.tdiv a0 3600)) t462 _ A16.out ?atTabW_).mono ?_); (case atTabW_ => exact HTABW.out.below zq66); rintro e w24 ⟨rfl, hb⟩; refine ⟨_, rfl, ?_⟩; have n0_ := Aside0.mk (below_step zq66 hb); clear HB; have HB := n0_; clear n0_; (try clear hb); (try clear hb2); (try clear hk); (try clear hi)) | ((with_reducible refine gate_callee (f := 75) rfl ?_); refine goesL_ (some 19) rfl rfl Tryz.func75 (by kernel_rfl) rfl #[.int .i64 (Int.tmod (wrap64 (Int.tdiv a0 60)) 60)] rfl zq0 ?_; (with_reducible refine (impl_padded.calls (Int.tmod (wrap64 (Int.tdiv a0 60)) 60) t463 _ A18.out ?atTabW_).mono ?_); (case atTabW_ => exact HTABW.out.below zq66); rintro e w25 ⟨rfl, hb⟩; refine ⟨_, rfl, ?_⟩; have n0_ := Aside0.mk (below_step zq66 hb); clear HB; have HB := n0_; clear n0_; (try clear hb); (try clear hb2); (try clear hk); (try clear hi)) | ((with_reducible refine gate_callee (f := 75) rfl ?_); refine goesL_ (some 24) rfl rfl Tryz.func75 (by kernel_rfl) rfl #[.int .i64 (Int.tmod a0 60)] rfl zq0 ?_; (with_reducible refine (impl_padded.calls (Int.tmod a0 60) t464 _ A21.out ?atTabW_).mono ?_); (case atTabW_ => exact HTABW.out.below zq66); rintro e w26 ⟨rfl, hb⟩; refine ⟨_, rfl, ?_⟩; have n0_ := Aside0.mk (below_step zq66 hb); clear HB; have HB := n0_; clear n0_; (try clear hb); (try clear hb2); (try clear hk); (try clear hi))));(go_ret);(exact ⟨zq31, zq66⟩)
      ·rw [if_neg c23] at H
       exact absurd H (by simp)
     ·rw [if_neg c22] at H
      exact absurd H (by simp)
    ·rw [if_neg c20] at H
     exact absurd H (by simp)
   ·rw [if_neg c19] at H
    exact absurd H (by simp)
  ·rw [if_neg c17] at H
   exact absurd H (by simp)

/-! ### impl_SpotText: function 40 -/
def impl_SpotText.f (a0_0 : Int) (a0_1 : Int) : Option (ByteArray) := (impl_ValidSpot.f a0_0 a0_1).bind fun t466 => (if t466 = true then ((impl_angleText.f a0_0 (⟨#[110]⟩ : ByteArray) (⟨#[115]⟩ : ByteArray)).bind fun t467 => (if t467.size + 1 ≤ 9223372036854775807 then ((impl_angleText.f a0_1 (⟨#[101]⟩ : ByteArray) (⟨#[119]⟩ : ByteArray)).bind fun t468 => (if (t467 ++ (⟨#[32]⟩ : ByteArray)).size + t468.size ≤ 9223372036854775807 then (some ((t467 ++ (⟨#[32]⟩ : ByteArray)) ++ t468)) else (none))) else (none))) else (some (⟨#[]⟩ : ByteArray)))
def impl_SpotText.T3 : Bool × List (List Nat × List Nat) := (true, [([], []), ([0], [0]), ([1], [1]), ([2], [2]), ([], []), ([4], [4]), ([5, 2], [5]), ([3, 6], [3, 6]), ([7, 6, 0, 1, 2, 3, 4, 5, 6, 7], [7])])
def impl_SpotText.B3 : List Nat := [0, 1, 3, 7, 0, 16, 55, 127, 255]
theorem impl_SpotText.tab3 : rtab .any (opsOf Tryz.f40 3) = impl_SpotText.T3 := by kernel_rfl
theorem impl_SpotText.bits3 : waitsOk impl_SpotText.T3.2 impl_SpotText.B3 = true := by kernel_rfl
theorem impl_SpotText.calls (a0_0 : Int) (a0_1 : Int) (r : ByteArray) (w : World) (h : impl_SpotText.f a0_0 a0_1 = some r) (hTabW : TabW w) :
  Calls Tryz.prog 40 #[.agg #[.int .i64 a0_0, .int .i64 a0_1]] w fun e w' => e = .returned (.string r) ∧ Below w.heap.size w w' := by
 (have HTABW := Aside0.mk hTabW);clear hTabW;(have hu38 := Tryz.underlying38);(have HB := Aside0.mk (Below.refl w.heap.size w));(have H : ((impl_ValidSpot.f a0_0 a0_1).bind fun t466 => (if t466 = true then ((impl_angleText.f a0_0 (⟨#[110]⟩ : ByteArray) (⟨#[115]⟩ : ByteArray)).bind fun t467 => (if t467.size + 1 ≤ 9223372036854775807 then ((impl_angleText.f a0_1 (⟨#[101]⟩ : ByteArray) (⟨#[119]⟩ : ByteArray)).bind fun t468 => (if (t467 ++ (⟨#[32]⟩ : ByteArray)).size + t468.size ≤ 9223372036854775807 then (some ((t467 ++ (⟨#[32]⟩ : ByteArray)) ++ t468)) else (none))) else (none))) else (some (⟨#[]⟩ : ByteArray)))) = some r := h);clear h;(replace H := Option.bind_eq_some_iff.mp H);(obtain ⟨t466, A20, H⟩ := H);(replace H : (if t466 = true then ((impl_angleText.f a0_0 (⟨#[110]⟩ : ByteArray) (⟨#[115]⟩ : ByteArray)).bind fun t467 => (if t467.size + 1 ≤ 9223372036854775807 then ((impl_angleText.f a0_1 (⟨#[101]⟩ : ByteArray) (⟨#[119]⟩ : ByteArray)).bind fun t468 => (if (t467 ++ (⟨#[32]⟩ : ByteArray)).size + t468.size ≤ 9223372036854775807 then (some ((t467 ++ (⟨#[32]⟩ : ByteArray)) ++ t468)) else (none))) else (none))) else (some (⟨#[]⟩ : ByteArray))) = some r := H);(have A2 := Aside0.mk A20);clear A20;(by_cases c3 : t466 = true)
 ·subst c3
  (have H1 : ((impl_angleText.f a0_0 (⟨#[110]⟩ : ByteArray) (⟨#[115]⟩ : ByteArray)).bind fun t467 => (if t467.size + 1 ≤ 9223372036854775807 then ((impl_angleText.f a0_1 (⟨#[101]⟩ : ByteArray) (⟨#[119]⟩ : ByteArray)).bind fun t468 => (if (t467 ++ (⟨#[32]⟩ : ByteArray)).size + t468.size ≤ 9223372036854775807 then (some ((t467 ++ (⟨#[32]⟩ : ByteArray)) ++ t468)) else (none))) else (none))) = some r := zq97);clear H;(have H := H1);clear H1;(replace H := Option.bind_eq_some_iff.mp H);(obtain ⟨t467, A40, H⟩ := H);(replace H : (if t467.size + 1 ≤ 9223372036854775807 then ((impl_angleText.f a0_1 (⟨#[101]⟩ : ByteArray) (⟨#[119]⟩ : ByteArray)).bind fun t468 => (if (t467 ++ (⟨#[32]⟩ : ByteArray)).size + t468.size ≤ 9223372036854775807 then (some ((t467 ++ (⟨#[32]⟩ : ByteArray)) ++ t468)) else (none))) else (none)) = some r := H);(have A4 := Aside0.mk A40);clear A40;(by_cases c5 : t467.size + 1 ≤ 9223372036854775807)
  ·rw [if_pos c5] at H
   (have c5b0 := eq_true c5);(have c5b1 : decide (t467.size + 1 ≤ 9223372036854775807) = true := decide_eq_true c5);(try have c5b2 : (9223372036854775807 < t467.size + 1) = False := eq_false (Nat.not_lt.2 c5));(replace H := Option.bind_eq_some_iff.mp H);(obtain ⟨t468, A60, H⟩ := H);(replace H : (if (t467 ++ (⟨#[32]⟩ : ByteArray)).size + t468.size ≤ 9223372036854775807 then (some ((t467 ++ (⟨#[32]⟩ : ByteArray)) ++ t468)) else (none)) = some r := H);(have A6 := Aside0.mk A60);clear A60;(by_cases c7 : (t467 ++ (⟨#[32]⟩ : ByteArray)).size + t468.size ≤ 9223372036854775807)
   ·rw [if_pos c7] at H
    (have c7b0 := eq_true c7);(have c7b1 : decide ((t467 ++ (⟨#[32]⟩ : ByteArray)).size + t468.size ≤ 9223372036854775807) = true := decide_eq_true c7);(try have c7b2 : (9223372036854775807 < (t467 ++ (⟨#[32]⟩ : ByteArray)).size + t468.size) = False := eq_false (Nat.not_lt.2 c7));(have c7b4 := c7b2);(simp only [ByteArray.size_append, show (⟨#[32]⟩ : ByteArray).size = 1 from rfl] at c7b4);(obtain rfl := Option.some.inj H)
    go_enter Tryz.func40, Tryz.ntmps40
    (try go_wp2_with (first | ((with_reducible refine gate_dst (N := 1) rfl ?_); refine box_event ?hg (N := 1) ?hd (cs := #[.int .i64 a0_0, .int .i64 a0_1]) (t := 38) ?hr ?_; (case hd => rfl); (case hg => rfl); (case hr => first | (go_simp; done) | (go_simp; rfl)); intro gb465 hg w8 hbox hb; have n0_ := Aside0.mk (below_step zq66 hb); have n1_ := Aside0.mk (hbox); have n2_ := Aside0.mk ((zq90 : w.heap.size ≤ gb465)); have n3_ := Aside0.mk ((zq90 : w.heap.size ≤ gb465)); clear HB; have HB := n0_; have BK465 := n1_; have GW465 := n2_; have GE465 := n3_; clear n0_ n1_ n2_ n3_; clear hb hbox hg; have hcz9_0 : w8.cell? ⟨gb465, 0, none⟩ = some (.int .i64 a0_0) := (blk_cell BK465.out 0).trans rfl; have hcz9_1 : w8.cell? ⟨gb465, 1, none⟩ = some (.int .i64 a0_1) := (blk_cell BK465.out 1).trans rfl; have hfz9_0 := blk_frozen BK465.out 0; have hfz9_1 := blk_frozen BK465.out 1) | ((with_reducible refine gate_callee (f := 58) rfl ?_); refine goesL_ (some 4) rfl rfl Tryz.func58 (by kernel_rfl) rfl #[.agg #[.int .i64 a0_0, .int .i64 a0_1]] rfl zq0 ?_; (with_reducible refine (impl_ValidSpot.calls a0_0 a0_1 true _ A2.out).mono ?_); rintro e w10 ⟨rfl, hb⟩; refine ⟨_, rfl, ?_⟩; have n0_ := Aside0.mk (blk_below (g := gb465) (o := .cells #[.int .i64 a0_0, .int .i64 a0_1] 38 (0, 0)) zq13 hb); have n1_ := Aside0.mk (below_step zq60 hb); clear BK465; clear HB; have BK465 := n0_; have HB := n1_; clear n0_ n1_; (try clear hb); (try clear hb2); (try clear hk); (try clear hi))));(have n0_ := Aside0.mk (blk_drew BK465.out));(have n1_ := Aside0.mk (below_drew1 HB.out));clear BK465;clear HB;(have BK465 := n0_);(have HB := n1_);clear n0_ n1_;(refine start_ (n := 9) (S := fun w' => w'.cell? ⟨gb465, 0, none⟩ = some (.int .i64 a0_0) ∧ w'.cell? ⟨gb465, 1, none⟩ = some (.int .i64 a0_1)) (ds := []) #[false,false,false,false,false,false,false,false,false] (by kernel_rfl) rfl rfl ⟨(blk_cell BK465.out 0).trans rfl, (blk_cell BK465.out 1).trans rfl⟩ (fun hHeld => ?_); refine with_tabW impl_SpotText.tab3 impl_SpotText.bits3 (fun HT_ HW_ => ?_));(generalize w10.drew = w11 at BK465 HB hHeld ⊢);(refine pI (i := 0) (N := some 6) (v := ?_) (a' := ?_) (mB 9 1) rfl rfl HT_.out (by kernel_rfl) (fun _ _ _ h => h) rfl ?_ ?_ ?_);rotate_left
    ·intro w'
     go_simp;(with_reducible rfl)
    rotate_left
    ·simp only [Act.put, sA]
     rfl
    (refine pI (i := 4) (N := some 10) (v := ?_) (a' := ?_) (mB 9 17) rfl rfl HT_.out (by kernel_rfl) (fun _ _ _ h => h) rfl ?_ ?_ ?_);rotate_left
    ·intro w'
     go_simp;(with_reducible rfl)
    rotate_left
    ·simp only [Act.put, sA]
     rfl
    (refine tI (i := 1) (N := some 7) (v := ?_) (a' := ?_) (mB 9 19) rfl rfl HT_.out HW_.out (by kernel_rfl) (fun _ _ _ h => h) rfl ?_ hHeld ?_ ?_);rotate_left
    ·rintro w' ⟨s0, s1⟩
     go_simp;(with_reducible rfl)
    rotate_left
    ·simp only [Act.put, sA]
     rfl
    (refine tI (i := 5) (N := some 11) (v := ?_) (a' := ?_) (mB 9 51) rfl rfl HT_.out HW_.out (by kernel_rfl) (fun _ _ _ h => h) rfl ?_ hHeld ?_ ?_);rotate_left
    ·rintro w' ⟨s0, s1⟩
     go_simp;(with_reducible rfl)
    rotate_left
    ·simp only [Act.put, sA]
     rfl
    (refine one_ (i := 2) (N := some 8) (mB 9 55) rfl rfl (one_of HT_.out (by kernel_rfl)) (by decide) (fun K hK => ?_));(refine goes_ Tryz.func60 (by kernel_rfl) rfl #[.int .i64 a0_0, .string (⟨#[110]⟩ : ByteArray), .string (⟨#[115]⟩ : ByteArray)] (by rfl) rfl rfl zq0 ?_);(with_reducible refine (impl_angleText.calls a0_0 (⟨#[110]⟩ : ByteArray) (⟨#[115]⟩ : ByteArray) t467 _ A4.out ?atTabW_).mono ?_)
    case atTabW_ => exact HTABW.out.below zq60
    (rintro e w12 ⟨rfl, hb⟩);(refine ⟨_, rfl, ?_⟩);(have n0_ := Aside0.mk (blk_below (g := gb465) (o := .cells #[.int .i64 a0_0, .int .i64 a0_1] 38 (0, 0)) zq13 hb));(have n1_ := Aside0.mk (below_step zq60 hb));clear BK465;clear HB;(have BK465 := n0_);(have HB := n1_);clear n0_ n1_;(try clear hb);(try clear hb2);(try clear hk);(try clear hi);(refine hK.out _ _ ⟨(blk_cell BK465.out 0).trans rfl, (blk_cell BK465.out 1).trans rfl⟩ (fun hHeld => ?_));clear hK K;(refine norm_ (a' := ?_) ?_ ?_);rotate_left
    ·show Act.put _ (some 8) _ = _
     (simp only [Act.put, sA]);rfl
    (refine pI (i := 3) (N := some 9) (v := ?_) (a' := ?_) (mB 9 63) rfl rfl HT_.out (by kernel_rfl) (fun _ _ _ h => h) rfl ?_ ?_ ?_);rotate_left
    ·intro w'
     go_simp;(with_reducible rfl)
    rotate_left
    ·simp only [Act.put, sA]
     rfl
    (refine one_ (i := 6) (N := some 12) (mB 9 127) rfl rfl (one_of HT_.out (by kernel_rfl)) (by decide) (fun K hK => ?_));(refine goes_ Tryz.func60 (by kernel_rfl) rfl #[.int .i64 a0_1, .string (⟨#[101]⟩ : ByteArray), .string (⟨#[119]⟩ : ByteArray)] (by rfl) rfl rfl zq0 ?_);(with_reducible refine (impl_angleText.calls a0_1 (⟨#[101]⟩ : ByteArray) (⟨#[119]⟩ : ByteArray) t468 _ A6.out ?atTabW_).mono ?_)
    case atTabW_ => exact HTABW.out.below zq60
    (rintro e w13 ⟨rfl, hb⟩);(refine ⟨_, rfl, ?_⟩);(have n0_ := Aside0.mk (blk_below (g := gb465) (o := .cells #[.int .i64 a0_0, .int .i64 a0_1] 38 (0, 0)) zq13 hb));(have n1_ := Aside0.mk (below_step zq60 hb));clear BK465;clear HB;(have BK465 := n0_);(have HB := n1_);clear n0_ n1_;(try clear hb);(try clear hb2);(try clear hk);(try clear hi);(refine hK.out _ _ ⟨(blk_cell BK465.out 0).trans rfl, (blk_cell BK465.out 1).trans rfl⟩ (fun hHeld => ?_));clear hK K;(refine norm_ (a' := ?_) ?_ ?_);rotate_left
    ·show Act.put _ (some 12) _ = _
     (simp only [Act.put, sA]);rfl
    (refine pI (i := 7) (N := some 13) (v := ?_) (a' := ?_) (mB 9 255) rfl rfl HT_.out (by kernel_rfl) (fun _ _ _ h => h) rfl ?_ ?_ ?_);rotate_left
    ·intro w'
     go_simp;(with_reducible rfl)
    rotate_left
    ·simp only [Act.put, sA]
     rfl
    (refine pI (i := 8) (N := some 2) (v := ?_) (a' := ?_) (mB 9 511) rfl rfl HT_.out (by kernel_rfl) (fun _ _ _ h => h) rfl ?_ ?_ ?_);rotate_left
    ·intro w'
     go_simp;(with_reducible rfl)
    rotate_left
    ·simp only [Act.put, sA]
     rfl
    (refine done_ (done_of HT_.out (by kernel_rfl)) ?_);(try go_wp2);(go_ret);(exact ⟨zq31, zq60⟩)
   ·rw [if_neg c7] at H
    exact absurd H (by simp)
  ·rw [if_neg c5] at H
   exact absurd H (by simp)
 ·replace c3 := Bool.eq_false_iff.mpr c3
  subst c3;(have H1 : (some (⟨#[]⟩ : ByteArray)) = some r := zq96);clear H;(have H := H1);clear H1;(obtain rfl := Option.some.inj H)
  go_enter Tryz.func40, Tryz.ntmps40
  (go_wp2_with (first | ((with_reducible refine gate_dst (N := 1) rfl ?_); refine box_event ?hg (N := 1) ?hd (cs := #[.int .i64 a0_0, .int .i64 a0_1]) (t := 38) ?hr ?_; (case hd => rfl); (case hg => rfl); (case hr => first | (go_simp; done) | (go_simp; rfl)); intro gb465 hg w14 hbox hb; have n0_ := Aside0.mk (below_step zq66 hb); have n1_ := Aside0.mk (hbox); have n2_ := Aside0.mk ((zq90 : w.heap.size ≤ gb465)); have n3_ := Aside0.mk ((zq90 : w.heap.size ≤ gb465)); clear HB; have HB := n0_; have BK465 := n1_; have GW465 := n2_; have GE465 := n3_; clear n0_ n1_ n2_ n3_; clear hb hbox hg; have hcz15_0 : w14.cell? ⟨gb465, 0, none⟩ = some (.int .i64 a0_0) := (blk_cell BK465.out 0).trans rfl; have hcz15_1 : w14.cell? ⟨gb465, 1, none⟩ = some (.int .i64 a0_1) := (blk_cell BK465.out 1).trans rfl; have hfz15_0 := blk_frozen BK465.out 0; have hfz15_1 := blk_frozen BK465.out 1) | ((with_reducible refine gate_callee (f := 58) rfl ?_); refine goesL_ (some 4) rfl rfl Tryz.func58 (by kernel_rfl) rfl #[.agg #[.int .i64 a0_0, .int .i64 a0_1]] rfl zq0 ?_; (with_reducible refine (impl_ValidSpot.calls a0_0 a0_1 false _ A2.out).mono ?_); rintro e w16 ⟨rfl, hb⟩; refine ⟨_, rfl, ?_⟩; have n0_ := Aside0.mk (blk_below (g := gb465) (o := .cells #[.int .i64 a0_0, .int .i64 a0_1] 38 (0, 0)) zq13 hb); have n1_ := Aside0.mk (below_step zq60 hb); clear BK465; clear HB; have BK465 := n0_; have HB := n1_; clear n0_ n1_; (try clear hb); (try clear hb2); (try clear hk); (try clear hi))));(go_ret);(exact ⟨zq31, zq60⟩)

/-! ### impl_StarText: function 17 -/
def impl_StarText.f (a0_0 : ByteArray) (a0_1 : Int) (a0_2 : Int) (a0_3 : Int) : Option (ByteArray) := (impl_isStar.f a0_0 a0_1 a0_2 a0_3).bind fun t470 => (if t470 = true then (if a0_0.size + 1 ≤ 9223372036854775807 then ((impl_Decimal.f a0_1).bind fun t471 => (if (a0_0 ++ (⟨#[32]⟩ : ByteArray)).size + t471.size ≤ 9223372036854775807 then (if ((a0_0 ++ (⟨#[32]⟩ : ByteArray)) ++ t471).size + 1 ≤ 9223372036854775807 then ((impl_SpotText.f a0_2 a0_3).bind fun t472 => (if (((a0_0 ++ (⟨#[32]⟩ : ByteArray)) ++ t471) ++ (⟨#[32]⟩ : ByteArray)).size + t472.size ≤ 9223372036854775807 then (some ((((a0_0 ++ (⟨#[32]⟩ : ByteArray)) ++ t471) ++ (⟨#[32]⟩ : ByteArray)) ++ t472)) else (none))) else (none)) else (none))) else (none)) else (some (⟨#[]⟩ : ByteArray)))
def impl_StarText.T3 : Bool × List (List Nat × List Nat) := (true, [([], []), ([0], [0]), ([1], [1]), ([], []), ([3], [3]), ([4], [4]), ([2, 5], [2, 5]), ([6], [6]), ([], []), ([8], [8]), ([9, 5], [9]), ([7, 10], [7, 10]), ([11, 10, 0, 1, 2, 3, 4, 5, 6, 7, 8, 9, 10, 11], [11])])
def impl_StarText.B3 : List Nat := [0, 1, 3, 0, 8, 24, 63, 127, 0, 256, 824, 2047, 4095]
theorem impl_StarText.tab3 : rtab .any (opsOf Tryz.f17 3) = impl_StarText.T3 := by kernel_rfl
theorem impl_StarText.bits3 : waitsOk impl_StarText.T3.2 impl_StarText.B3 = true := by kernel_rfl
theorem impl_StarText.calls (a0_0 : ByteArray) (a0_1 : Int) (a0_2 : Int) (a0_3 : Int) (r : ByteArray) (w : World) (h : impl_StarText.f a0_0 a0_1 a0_2 a0_3 = some r) (hTabW : TabW w) :
  Calls Tryz.prog 17 #[.agg #[.string a0_0, .int .i64 a0_1, .int .i64 a0_2, .int .i64 a0_3]] w fun e w' => e = .returned (.string r) ∧ Below w.heap.size w w' := by
 (have HTABW := Aside0.mk hTabW);clear hTabW;(have hu40 := Tryz.underlying40);(have hu38 := Tryz.underlying38);(have HB := Aside0.mk (Below.refl w.heap.size w));(have H : ((impl_isStar.f a0_0 a0_1 a0_2 a0_3).bind fun t470 => (if t470 = true then (if a0_0.size + 1 ≤ 9223372036854775807 then ((impl_Decimal.f a0_1).bind fun t471 => (if (a0_0 ++ (⟨#[32]⟩ : ByteArray)).size + t471.size ≤ 9223372036854775807 then (if ((a0_0 ++ (⟨#[32]⟩ : ByteArray)) ++ t471).size + 1 ≤ 9223372036854775807 then ((impl_SpotText.f a0_2 a0_3).bind fun t472 => (if (((a0_0 ++ (⟨#[32]⟩ : ByteArray)) ++ t471) ++ (⟨#[32]⟩ : ByteArray)).size + t472.size ≤ 9223372036854775807 then (some ((((a0_0 ++ (⟨#[32]⟩ : ByteArray)) ++ t471) ++ (⟨#[32]⟩ : ByteArray)) ++ t472)) else (none))) else (none)) else (none))) else (none)) else (some (⟨#[]⟩ : ByteArray)))) = some r := h);clear h;(replace H := Option.bind_eq_some_iff.mp H);(obtain ⟨t470, A20, H⟩ := H);(replace H : (if t470 = true then (if a0_0.size + 1 ≤ 9223372036854775807 then ((impl_Decimal.f a0_1).bind fun t471 => (if (a0_0 ++ (⟨#[32]⟩ : ByteArray)).size + t471.size ≤ 9223372036854775807 then (if ((a0_0 ++ (⟨#[32]⟩ : ByteArray)) ++ t471).size + 1 ≤ 9223372036854775807 then ((impl_SpotText.f a0_2 a0_3).bind fun t472 => (if (((a0_0 ++ (⟨#[32]⟩ : ByteArray)) ++ t471) ++ (⟨#[32]⟩ : ByteArray)).size + t472.size ≤ 9223372036854775807 then (some ((((a0_0 ++ (⟨#[32]⟩ : ByteArray)) ++ t471) ++ (⟨#[32]⟩ : ByteArray)) ++ t472)) else (none))) else (none)) else (none))) else (none)) else (some (⟨#[]⟩ : ByteArray))) = some r := H);(have A2 := Aside0.mk A20);clear A20;(by_cases c3 : t470 = true)
 ·subst c3
  (have H1 : (if a0_0.size + 1 ≤ 9223372036854775807 then ((impl_Decimal.f a0_1).bind fun t471 => (if (a0_0 ++ (⟨#[32]⟩ : ByteArray)).size + t471.size ≤ 9223372036854775807 then (if ((a0_0 ++ (⟨#[32]⟩ : ByteArray)) ++ t471).size + 1 ≤ 9223372036854775807 then ((impl_SpotText.f a0_2 a0_3).bind fun t472 => (if (((a0_0 ++ (⟨#[32]⟩ : ByteArray)) ++ t471) ++ (⟨#[32]⟩ : ByteArray)).size + t472.size ≤ 9223372036854775807 then (some ((((a0_0 ++ (⟨#[32]⟩ : ByteArray)) ++ t471) ++ (⟨#[32]⟩ : ByteArray)) ++ t472)) else (none))) else (none)) else (none))) else (none)) = some r := zq97);clear H;(have H := H1);clear H1;(by_cases c4 : a0_0.size + 1 ≤ 9223372036854775807)
  ·rw [if_pos c4] at H
   (have c4b0 := eq_true c4);(have c4b1 : decide (a0_0.size + 1 ≤ 9223372036854775807) = true := decide_eq_true c4);(try have c4b2 : (9223372036854775807 < a0_0.size + 1) = False := eq_false (Nat.not_lt.2 c4));(replace H := Option.bind_eq_some_iff.mp H);(obtain ⟨t471, A50, H⟩ := H);(replace H : (if (a0_0 ++ (⟨#[32]⟩ : ByteArray)).size + t471.size ≤ 9223372036854775807 then (if ((a0_0 ++ (⟨#[32]⟩ : ByteArray)) ++ t471).size + 1 ≤ 9223372036854775807 then ((impl_SpotText.f a0_2 a0_3).bind fun t472 => (if (((a0_0 ++ (⟨#[32]⟩ : ByteArray)) ++ t471) ++ (⟨#[32]⟩ : ByteArray)).size + t472.size ≤ 9223372036854775807 then (some ((((a0_0 ++ (⟨#[32]⟩ : ByteArray)) ++ t471) ++ (⟨#[32]⟩ : ByteArray)) ++ t472)) else (none))) else (none)) else (none)) = some r := H);(have A5 := Aside0.mk A50);clear A50;(by_cases c6 : (a0_0 ++ (⟨#[32]⟩ : ByteArray)).size + t471.size ≤ 9223372036854775807)
   ·rw [if_pos c6] at H
    (have c6b0 := eq_true c6);(have c6b1 : decide ((a0_0 ++ (⟨#[32]⟩ : ByteArray)).size + t471.size ≤ 9223372036854775807) = true := decide_eq_true c6);(try have c6b2 : (9223372036854775807 < (a0_0 ++ (⟨#[32]⟩ : ByteArray)).size + t471.size) = False := eq_false (Nat.not_lt.2 c6));(have c6b4 := c6b2);(simp only [ByteArray.size_append, show (⟨#[32]⟩ : ByteArray).size = 1 from rfl] at c6b4);(by_cases c7 : ((a0_0 ++ (⟨#[32]⟩ : ByteArray)) ++ t471).size + 1 ≤ 9223372036854775807)
    ·rw [if_pos c7] at H
     (have c7b0 := eq_true c7);(have c7b1 : decide (((a0_0 ++ (⟨#[32]⟩ : ByteArray)) ++ t471).size + 1 ≤ 9223372036854775807) = true := decide_eq_true c7);(try have c7b2 : (9223372036854775807 < ((a0_0 ++ (⟨#[32]⟩ : ByteArray)) ++ t471).size + 1) = False := eq_false (Nat.not_lt.2 c7));(have c7b4 := c7b2);(simp only [ByteArray.size_append, show (⟨#[32]⟩ : ByteArray).size = 1 from rfl] at c7b4);(replace H := Option.bind_eq_some_iff.mp H);(obtain ⟨t472, A80, H⟩ := H);(replace H : (if (((a0_0 ++ (⟨#[32]⟩ : ByteArray)) ++ t471) ++ (⟨#[32]⟩ : ByteArray)).size + t472.size ≤ 9223372036854775807 then (some ((((a0_0 ++ (⟨#[32]⟩ : ByteArray)) ++ t471) ++ (⟨#[32]⟩ : ByteArray)) ++ t472)) else (none)) = some r := H);(have A8 := Aside0.mk A80);clear A80;(by_cases c9 : (((a0_0 ++ (⟨#[32]⟩ : ByteArray)) ++ t471) ++ (⟨#[32]⟩ : ByteArray)).size + t472.size ≤ 9223372036854775807)
     ·rw [if_pos c9] at H
      (have c9b0 := eq_true c9);(have c9b1 : decide ((((a0_0 ++ (⟨#[32]⟩ : ByteArray)) ++ t471) ++ (⟨#[32]⟩ : ByteArray)).size + t472.size ≤ 9223372036854775807) = true := decide_eq_true c9);(try have c9b2 : (9223372036854775807 < (((a0_0 ++ (⟨#[32]⟩ : ByteArray)) ++ t471) ++ (⟨#[32]⟩ : ByteArray)).size + t472.size) = False := eq_false (Nat.not_lt.2 c9));(have c9b4 := c9b2);(simp only [ByteArray.size_append, show (⟨#[32]⟩ : ByteArray).size = 1 from rfl] at c9b4);(obtain rfl := Option.some.inj H)
      go_enter Tryz.func17, Tryz.ntmps17
      (try go_wp2_with (first | ((with_reducible refine gate_dst (N := 1) rfl ?_); refine box_event ?hg (N := 1) ?hd (cs := #[.string a0_0, .int .i64 a0_1, .int .i64 a0_2, .int .i64 a0_3]) (t := 40) ?hr ?_; (case hd => rfl); (case hg => rfl); (case hr => first | (go_simp; done) | (go_simp; rfl)); intro gb469 hg w10 hbox hb; have n0_ := Aside0.mk (below_step zq66 hb); have n1_ := Aside0.mk (hbox); have n2_ := Aside0.mk ((zq90 : w.heap.size ≤ gb469)); have n3_ := Aside0.mk ((zq90 : w.heap.size ≤ gb469)); clear HB; have HB := n0_; have BK469 := n1_; have GW469 := n2_; have GE469 := n3_; clear n0_ n1_ n2_ n3_; clear hb hbox hg; have hcz11_0 : w10.cell? ⟨gb469, 0, none⟩ = some (.string a0_0) := (blk_cell BK469.out 0).trans rfl; have hcz11_1 : w10.cell? ⟨gb469, 1, none⟩ = some (.int .i64 a0_1) := (blk_cell BK469.out 1).trans rfl; have hcz11_2 : w10.cell? ⟨gb469, 2, none⟩ = some (.int .i64 a0_2) := (blk_cell BK469.out 2).trans rfl; have hcz11_3 : w10.cell? ⟨gb469, 3, none⟩ = some (.int .i64 a0_3) := (blk_cell BK469.out 3).trans rfl; have hfz11_0 := blk_frozen BK469.out 0; have hfz11_1 := blk_frozen BK469.out 1; have hfz11_2 := blk_frozen BK469.out 2; have hfz11_3 := blk_frozen BK469.out 3) | ((with_reducible refine gate_callee (f := 38) rfl ?_); refine goesL_ (some 4) rfl rfl Tryz.func38 (by kernel_rfl) rfl #[.agg #[.string a0_0, .int .i64 a0_1, .int .i64 a0_2, .int .i64 a0_3]] rfl zq0 ?_; (with_reducible refine (impl_isStar.calls a0_0 a0_1 a0_2 a0_3 true _ A2.out).mono ?_); rintro e w12 ⟨rfl, hb⟩; refine ⟨_, rfl, ?_⟩; have n0_ := Aside0.mk (blk_below (g := gb469) (o := .cells #[.string a0_0, .int .i64 a0_1, .int .i64 a0_2, .int .i64 a0_3] 40 (0, 0)) zq14 hb); have n1_ := Aside0.mk (below_step zq61 hb); clear BK469; clear HB; have BK469 := n0_; have HB := n1_; clear n0_ n1_; (try clear hb); (try clear hb2); (try clear hk); (try clear hi))));(have n0_ := Aside0.mk (blk_drew BK469.out));(have n1_ := Aside0.mk (below_drew1 HB.out));clear BK469;clear HB;(have BK469 := n0_);(have HB := n1_);clear n0_ n1_;(refine start_ (n := 13) (S := fun w' => w'.cell? ⟨gb469, 0, none⟩ = some (.string a0_0) ∧ w'.cell? ⟨gb469, 1, none⟩ = some (.int .i64 a0_1) ∧ w'.cell? ⟨gb469, 2, none⟩ = some (.int .i64 a0_2) ∧ w'.cell? ⟨gb469, 3, none⟩ = some (.int .i64 a0_3)) (ds := []) #[false,false,false,false,false,false,false,false,false,false,false,false,false] (by kernel_rfl) rfl rfl ⟨(blk_cell BK469.out 0).trans rfl, (blk_cell BK469.out 1).trans rfl, (blk_cell BK469.out 2).trans rfl, (blk_cell BK469.out 3).trans rfl⟩ (fun hHeld => ?_); refine with_tabW impl_StarText.tab3 impl_StarText.bits3 (fun HT_ HW_ => ?_));(generalize w12.drew = w13 at BK469 HB hHeld ⊢);(refine pI (i := 0) (N := some 6) (v := ?_) (a' := ?_) (mB 13 1) rfl rfl HT_.out (by kernel_rfl) (fun _ _ _ h => h) rfl ?_ ?_ ?_);rotate_left
      ·intro w'
       go_simp;(with_reducible rfl)
      rotate_left
      ·simp only [Act.put, sA]
       rfl
      (refine pI (i := 3) (N := some 9) (v := ?_) (a' := ?_) (mB 13 9) rfl rfl HT_.out (by kernel_rfl) (fun _ _ _ h => h) rfl ?_ ?_ ?_);rotate_left
      ·intro w'
       go_simp;(with_reducible rfl)
      rotate_left
      ·simp only [Act.put, sA]
       rfl
      (refine pI (i := 8) (N := some 14) (v := ?_) (a' := ?_) (mB 13 265) rfl rfl HT_.out (by kernel_rfl) (fun _ _ _ h => h) rfl ?_ ?_ ?_);rotate_left
      ·intro w'
       go_simp;(with_reducible rfl)
      rotate_left
      ·simp only [Act.put, sA]
       rfl
      (refine tI (i := 1) (N := some 7) (v := ?_) (a' := ?_) (mB 13 267) rfl rfl HT_.out HW_.out (by kernel_rfl) (fun _ _ _ h => h) rfl ?_ hHeld ?_ ?_);rotate_left
      ·rintro w' ⟨s0, s1, s2, s3⟩
       go_simp;(with_reducible rfl)
      rotate_left
      ·simp only [Act.put, sA]
       rfl
      (refine pI (i := 2) (N := some 8) (v := ?_) (a' := ?_) (mB 13 271) rfl rfl HT_.out (by kernel_rfl) (fun _ _ _ h => h) rfl ?_ ?_ ?_);rotate_left
      ·intro w'
       go_simp;(with_reducible rfl)
      rotate_left
      ·simp only [Act.put, sA]
       rfl
      (refine tI (i := 4) (N := some 10) (v := ?_) (a' := ?_) (mB 13 287) rfl rfl HT_.out HW_.out (by kernel_rfl) (fun _ _ _ h => h) rfl ?_ hHeld ?_ ?_);rotate_left
      ·rintro w' ⟨s0, s1, s2, s3⟩
       go_simp;(with_reducible rfl)
      rotate_left
      ·simp only [Act.put, sA]
       rfl
      (refine tI (i := 9) (N := some 15) (v := ?_) (a' := ?_) (mB 13 799) rfl rfl HT_.out HW_.out (by kernel_rfl) (fun _ _ _ h => h) rfl ?_ hHeld ?_ ?_);rotate_left
      ·rintro w' ⟨s0, s1, s2, s3⟩
       go_simp;(with_reducible rfl)
      rotate_left
      ·simp only [Act.put, sA]
       rfl
      (refine one_ (i := 5) (N := some 11) (mB 13 831) rfl rfl (one_of HT_.out (by kernel_rfl)) (by decide) (fun K hK => ?_));(refine goes_ Tryz.func39 (by kernel_rfl) rfl #[.int .i64 a0_1] (by rfl) rfl rfl zq0 ?_);(with_reducible refine (impl_Decimal.calls a0_1 t471 _ A5.out ?atTabW_).mono ?_)
      case atTabW_ => exact HTABW.out.below zq61
      (rintro e w14 ⟨rfl, hb⟩);(refine ⟨_, rfl, ?_⟩);(have n0_ := Aside0.mk (blk_below (g := gb469) (o := .cells #[.string a0_0, .int .i64 a0_1, .int .i64 a0_2, .int .i64 a0_3] 40 (0, 0)) zq14 hb));(have n1_ := Aside0.mk (below_step zq61 hb));clear BK469;clear HB;(have BK469 := n0_);(have HB := n1_);clear n0_ n1_;(try clear hb);(try clear hb2);(try clear hk);(try clear hi);(refine hK.out _ _ ⟨(blk_cell BK469.out 0).trans rfl, (blk_cell BK469.out 1).trans rfl, (blk_cell BK469.out 2).trans rfl, (blk_cell BK469.out 3).trans rfl⟩ (fun hHeld => ?_));clear hK K;(refine norm_ (a' := ?_) ?_ ?_);rotate_left
      ·show Act.put _ (some 11) _ = _
       (simp only [Act.put, sA]);rfl
      (refine pI (i := 6) (N := some 12) (v := ?_) (a' := ?_) (mB 13 895) rfl rfl HT_.out (by kernel_rfl) (fun _ _ _ h => h) rfl ?_ ?_ ?_);rotate_left
      ·intro w'
       go_simp;(with_reducible rfl)
      rotate_left
      ·simp only [Act.put, sA]
       rfl
      (refine pI (i := 7) (N := some 13) (v := ?_) (a' := ?_) (mB 13 1023) rfl rfl HT_.out (by kernel_rfl) (fun _ _ _ h => h) rfl ?_ ?_ ?_);rotate_left
      ·intro w'
       go_simp;(with_reducible rfl)
      rotate_left
      ·simp only [Act.put, sA]
       rfl
      (refine one_ (i := 10) (N := some 16) (mB 13 2047) rfl rfl (one_of HT_.out (by kernel_rfl)) (by decide) (fun K hK => ?_));(refine goes_ Tryz.func40 (by kernel_rfl) rfl #[.agg #[.int .i64 a0_2, .int .i64 a0_3]] (by rfl) rfl rfl zq0 ?_);(with_reducible refine (impl_SpotText.calls a0_2 a0_3 t472 _ A8.out ?atTabW_).mono ?_)
      case atTabW_ => exact HTABW.out.below zq61
      (rintro e w15 ⟨rfl, hb⟩);(refine ⟨_, rfl, ?_⟩);(have n0_ := Aside0.mk (blk_below (g := gb469) (o := .cells #[.string a0_0, .int .i64 a0_1, .int .i64 a0_2, .int .i64 a0_3] 40 (0, 0)) zq14 hb));(have n1_ := Aside0.mk (below_step zq61 hb));clear BK469;clear HB;(have BK469 := n0_);(have HB := n1_);clear n0_ n1_;(try clear hb);(try clear hb2);(try clear hk);(try clear hi);(refine hK.out _ _ ⟨(blk_cell BK469.out 0).trans rfl, (blk_cell BK469.out 1).trans rfl, (blk_cell BK469.out 2).trans rfl, (blk_cell BK469.out 3).trans rfl⟩ (fun hHeld => ?_));clear hK K;(refine norm_ (a' := ?_) ?_ ?_);rotate_left
      ·show Act.put _ (some 16) _ = _
       (simp only [Act.put, sA]);rfl
      (refine pI (i := 11) (N := some 17) (v := ?_) (a' := ?_) (mB 13 4095) rfl rfl HT_.out (by kernel_rfl) (fun _ _ _ h => h) rfl ?_ ?_ ?_);rotate_left
      ·intro w'
       go_simp;(with_reducible rfl)
      rotate_left
      ·simp only [Act.put, sA]
       rfl
      (refine pI (i := 12) (N := some 2) (v := ?_) (a' := ?_) (mB 13 8191) rfl rfl HT_.out (by kernel_rfl) (fun _ _ _ h => h) rfl ?_ ?_ ?_);rotate_left
      ·intro w'
       go_simp;(with_reducible rfl)
      rotate_left
      ·simp only [Act.put, sA]
       rfl
      (refine done_ (done_of HT_.out (by kernel_rfl)) ?_);(try go_wp2);(go_ret);(exact ⟨zq31, zq61⟩)
     ·rw [if_neg c9] at H
      exact absurd H (by simp)
    ·rw [if_neg c7] at H
     exact absurd H (by simp)
   ·rw [if_neg c6] at H
    exact absurd H (by simp)
  ·rw [if_neg c4] at H
   exact absurd H (by simp)
 ·replace c3 := Bool.eq_false_iff.mpr c3
  subst c3;(have H1 : (some (⟨#[]⟩ : ByteArray)) = some r := zq96);clear H;(have H := H1);clear H1;(obtain rfl := Option.some.inj H)
  go_enter Tryz.func17, Tryz.ntmps17
  (go_wp2_with (first | ((with_reducible refine gate_dst (N := 1) rfl ?_); refine box_event ?hg (N := 1) ?hd (cs := #[.string a0_0, .int .i64 a0_1, .int .i64 a0_2, .int .i64 a0_3]) (t := 40) ?hr ?_; (case hd => rfl); (case hg => rfl); (case hr => first | (go_simp; done) | (go_simp; rfl)); intro gb469 hg w16 hbox hb; have n0_ := Aside0.mk (below_step zq66 hb); have n1_ := Aside0.mk (hbox); have n2_ := Aside0.mk ((zq90 : w.heap.size ≤ gb469)); have n3_ := Aside0.mk ((zq90 : w.heap.size ≤ gb469)); clear HB; have HB := n0_; have BK469 := n1_; have GW469 := n2_; have GE469 := n3_; clear n0_ n1_ n2_ n3_; clear hb hbox hg; have hcz17_0 : w16.cell? ⟨gb469, 0, none⟩ = some (.string a0_0) := (blk_cell BK469.out 0).trans rfl; have hcz17_1 : w16.cell? ⟨gb469, 1, none⟩ = some (.int .i64 a0_1) := (blk_cell BK469.out 1).trans rfl; have hcz17_2 : w16.cell? ⟨gb469, 2, none⟩ = some (.int .i64 a0_2) := (blk_cell BK469.out 2).trans rfl; have hcz17_3 : w16.cell? ⟨gb469, 3, none⟩ = some (.int .i64 a0_3) := (blk_cell BK469.out 3).trans rfl; have hfz17_0 := blk_frozen BK469.out 0; have hfz17_1 := blk_frozen BK469.out 1; have hfz17_2 := blk_frozen BK469.out 2; have hfz17_3 := blk_frozen BK469.out 3) | ((with_reducible refine gate_callee (f := 38) rfl ?_); refine goesL_ (some 4) rfl rfl Tryz.func38 (by kernel_rfl) rfl #[.agg #[.string a0_0, .int .i64 a0_1, .int .i64 a0_2, .int .i64 a0_3]] rfl zq0 ?_; (with_reducible refine (impl_isStar.calls a0_0 a0_1 a0_2 a0_3 false _ A2.out).mono ?_); rintro e w18 ⟨rfl, hb⟩; refine ⟨_, rfl, ?_⟩; have n0_ := Aside0.mk (blk_below (g := gb469) (o := .cells #[.string a0_0, .int .i64 a0_1, .int .i64 a0_2, .int .i64 a0_3] 40 (0, 0)) zq14 hb); have n1_ := Aside0.mk (below_step zq61 hb); clear BK469; clear HB; have BK469 := n0_; have HB := n1_; clear n0_ n1_; (try clear hb); (try clear hb2); (try clear hk); (try clear hi))));(go_ret);(exact ⟨zq31, zq61⟩)

end Go.Proofs.YtnjalpniedpgmaaGreatDoor.PFnCatalogues
