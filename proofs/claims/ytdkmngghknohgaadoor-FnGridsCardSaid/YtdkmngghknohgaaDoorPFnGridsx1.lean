-- Made by a program of this session (gprint.py) out of the kit's print of the translation and texts of my own. SLIM
import Derived.Test.YtdkmngghknohgaaDoorPFnGridsx0
namespace Go.Proofs.YtdkmngghknohgaaDoor.PFnGrids
open Go.RowKit Go.Proofs.YtdkmngghknohgaaDoorW.PrintWords Go.Proofs.YtdkmngghknohgaaDoorW.PrintLast Go.Proofs.YtdkmngghknohgaaDoorW.PrintMore
set_option maxHeartbeats 64000000
set_option maxRecDepth 1000000
attribute [local go_sem] max2_int min2_int max_two min_two max_three min_three max_four min_four   -- for this text's walks alone
set_option linter.unusedVariables false
set_option linter.unusedSimpArgs false

/-! ### laws_f6big: function 5 -/
def laws_f6big.f (l0 : List Int) : Option (Bool) := some (decide ((l0.length : Int) > 4096))
theorem laws_f6big.calls (A0 : Option Addr) (c0 : Nat) (l0 : List Int) (r : Bool) (w : World) (hr0 : Kd.C (Kd.int .u8) w A0 l0.length l0) (hc0 : l0.length ≤ c0) (h : laws_f6big.f l0 = some r) :
  Calls Tryd.prog 5 #[.slice A0 l0.length c0] w fun e w' => e = .returned (.bool r) ∧ Drawn0 w w' := by
 (have HR0 := Aside0.mk hr0);(have HC0 := Aside0.mk hc0);clear hr0 hc0;(have H : (some (decide ((l0.length : Int) > 4096))) = some r := h);clear h;(obtain rfl := Option.some.inj H)
 go_enter Tryd.func5, Tryd.ntmps5
 (go_wp2);(go_ret);(exact ⟨zq26, zq54⟩)

/-! ### strings_Trim: function 60 -/
-- given by hand
def layTrim_ren : Go.Shelf.Ren := ⟨(fun | 160 => 60 | 232 => 70 | 231 => 69 | 227 => 71 | 234 => 73 | 233 => 72 | 236 => 75 | 235 => 74 | 228 => 93 | 271 => 95 | 151 => 94 | 197 => 80 | 120 => 109 | 152 => 108 | 260 => 101 | 137 => 117 | 119 => 118 | 224 => 114 | 225 => 113 | 217 => 112 | 266 => 119 | n => n), (fun | 9 => 9 | 4 => 4 | 3 => 3 | 5 => 5 | 117 => 81 | 116 => 80 | 0 => 0 | 124 => 84 | 21 => 21 | 105 => 94 | 46 => 77 | 119 => 124 | 139 => 127 | 138 => 126 | n => n), (fun | 3 => 1 | 4 => 2 | n => n)⟩
theorem layTrim : Go.Proofs.Lays.n160 Tryd.prog layTrim_ren := { mixed := by kernel_rfl, f119 := Tryd.func118.trans (congrArg some (by kernel_rfl)), f120 := Tryd.func109.trans (congrArg some (by kernel_rfl)), f137 := Tryd.func117.trans (congrArg some (by kernel_rfl)), f151 := Tryd.func94.trans (congrArg some (by kernel_rfl)), f152 := Tryd.func108.trans (congrArg some (by kernel_rfl)), f160 := Tryd.func60.trans (congrArg some (by kernel_rfl)), f197 := Tryd.func80.trans (congrArg some (by kernel_rfl)), f217 := Tryd.func112.trans (congrArg some (by kernel_rfl)), f224 := Tryd.func114.trans (congrArg some (by kernel_rfl)), f225 := Tryd.func113.trans (congrArg some (by kernel_rfl)), f227 := Tryd.func71.trans (congrArg some (by kernel_rfl)), f228 := Tryd.func93.trans (congrArg some (by kernel_rfl)), f231 := Tryd.func69.trans (congrArg some (by kernel_rfl)), f232 := Tryd.func70.trans (congrArg some (by kernel_rfl)), f233 := Tryd.func72.trans (congrArg some (by kernel_rfl)), f234 := Tryd.func73.trans (congrArg some (by kernel_rfl)), f235 := Tryd.func74.trans (congrArg some (by kernel_rfl)), f236 := Tryd.func75.trans (congrArg some (by kernel_rfl)), f260 := Tryd.func101.trans (congrArg some (by kernel_rfl)), f266 := Tryd.func119.trans (congrArg some (by kernel_rfl)), f271 := Tryd.func95.trans (congrArg some (by kernel_rfl)), t0 := Tryd.underlying0, a0 := Tryd.isAgg0, z0 := Tryd.sizeOf0, v0 := Tryd.zeroValue0, t3 := Tryd.underlying3, a3 := Tryd.isAgg3, z3 := Tryd.sizeOf3, v3 := Tryd.zeroValue3, t4 := Tryd.underlying4, a4 := Tryd.isAgg4, z4 := Tryd.sizeOf4, v4 := Tryd.zeroValue4, t5 := Tryd.underlying5, a5 := Tryd.isAgg5, z5 := Tryd.sizeOf5, v5 := Tryd.zeroValue5, t9 := Tryd.underlying9, a9 := Tryd.isAgg9, z9 := Tryd.sizeOf9, v9 := Tryd.zeroValue9, t21 := Tryd.underlying21, a21 := Tryd.isAgg21, z21 := Tryd.sizeOf21, v21 := Tryd.zeroValue21, t46 := Tryd.underlying77, a46 := Tryd.isAgg77, z46 := Tryd.sizeOf77, v46 := Tryd.zeroValue77, t105 := Tryd.underlying94, a105 := Tryd.isAgg94, z105 := Tryd.sizeOf94, v105 := Tryd.zeroValue94, t116 := Tryd.underlying80, a116 := Tryd.isAgg80, z116 := Tryd.sizeOf80, t117 := Tryd.underlying81, a117 := Tryd.isAgg81, z117 := Tryd.sizeOf81, v117 := Tryd.zeroValue81, t119 := Tryd.underlying124, a119 := Tryd.isAgg124, z119 := Tryd.sizeOf124, t124 := Tryd.underlying84, a124 := Tryd.isAgg84, z124 := Tryd.sizeOf84, v124 := Tryd.zeroValue84, t138 := Tryd.underlying126, a138 := Tryd.isAgg126, z138 := Tryd.sizeOf126, v138 := Tryd.zeroValue126, t139 := Tryd.underlying127, a139 := Tryd.isAgg127, z139 := Tryd.sizeOf127, v139 := Tryd.zeroValue127, g3 := by kernel_rfl, g4 := by kernel_rfl }

def strings_Trim.f (a0 a1 : ByteArray) : Option ByteArray := if a0.size ≤ 9223372036854775807 ∧ a1.size < 4294967281 ∧ a1.data.toList.all (fun b => decide (b.toNat < 128)) = true then some ⟨(Go.Lib.trimS a0.data.toList a1.data.toList).toArray⟩ else none
theorem strings_Trim.calls (a0 : ByteArray) (a1 : ByteArray) (r : ByteArray) (w : World) (h : strings_Trim.f a0 a1 = some r) :
  Calls Tryd.prog 60 #[.string a0, .string a1] w fun e w' => e = .returned (.string r) ∧ Below w.heap.size w w' := by
 unfold strings_Trim.f at h
 split at h
 ·rename_i hc
  (obtain rfl := Option.some.inj h);(exact Go.Proofs.Any.strings_Trim_laid layTrim (by kernel_rfl) a0 a1 w hc.1 hc.2.1 (Go.Proofs.ascii_of_all hc.2.2))
 ·cases h


/-! ### impl_ValidGrid: function 30 -/
def impl_ValidGrid.l0 : Nat → List ByteArray → List ByteArray → Int → Int → Option (Bool)
 | 0, _, _, _, _ => none
 | k + 1, x0, x5, x6, x7 => if x7 < x6 then (if 0 ≤ x7 then (if x7 < (x5.length : Int) then (if 0 < (x0.length : Int) then (if ((rdOf ByteArray.empty x5 x7).size : Int) = ((rdOf ByteArray.empty x0 0).size : Int) then ((strings_Trim.f (rdOf ByteArray.empty x5 x7) (⟨#[46, 97, 98, 99, 100, 101, 102, 103, 104, 105, 106, 107, 108, 109, 110, 111, 112, 113, 114, 115, 116, 117, 118, 119, 120, 121, 122]⟩ : ByteArray)).bind fun t103 => (if t103.toList = ([] : List UInt8) then (impl_ValidGrid.l0 k x0 x5 x6 (wrap64 (x7 + 1))) else (some false))) else (some false)) else (none)) else (none)) else (none)) else (if (x0.length : Int) ≥ 1 then (if (x0.length : Int) ≤ 16 then (if 0 < (x0.length : Int) then (if ((rdOf ByteArray.empty x0 0).size : Int) ≥ 1 then (some (decide (((rdOf ByteArray.empty x0 0).size : Int) ≤ 32))) else (some false)) else (none)) else (some false)) else (some false))
def impl_ValidGrid.f (k : Nat) (l0 : List ByteArray) : Option (Bool) := impl_ValidGrid.l0 k l0 l0 (l0.length : Int) 0
theorem impl_ValidGrid.mono_l : ∀ k, (∀ y0 y1 y2 y3, LeO (impl_ValidGrid.l0 k y0 y1 y2 y3) (impl_ValidGrid.l0 (k + 1) y0 y1 y2 y3))
 | 0 => fun _ _ _ _ r h => by simp [impl_ValidGrid.l0] at h
 | k + 1 => by
  have ih0 := impl_ValidGrid.mono_l k
  ·intro y0 y1 y2 y3
   unfold impl_ValidGrid.l0
   repeat' first | with_reducible (first | exact ih0 _ _ _ _ | exact LeO.refl _ | exact LeO.none _ | refine LeO.ite ?_ ?_ | refine LeO.bind ?_ (fun _ => ?_)) | exact ih0 _ _ _ _ | exact LeO.none _ | refine LeO.ite ?_ ?_ | refine LeO.bind ?_ (fun _ => ?_)
theorem impl_ValidGrid.mono : ∀ a0 k, LeO (impl_ValidGrid.f k a0) (impl_ValidGrid.f (k + 1) a0) := by
 intro a0 k;(have ih0 := impl_ValidGrid.mono_l k);(unfold impl_ValidGrid.f)
 repeat' first | with_reducible (first | exact ih0 _ _ _ _ | exact LeO.refl _ | exact LeO.none _ | refine LeO.ite ?_ ?_ | refine LeO.bind ?_ (fun _ => ?_)) | exact ih0 _ _ _ _ | exact LeO.none _ | refine LeO.ite ?_ ?_ | refine LeO.bind ?_ (fun _ => ?_)
theorem impl_ValidGrid.calls (k : Nat) (A0 : Option Addr) (c0 : Nat) (l0 : List ByteArray) (r : Bool) (w : World) (hr0 : Kd.C Kd.string w A0 l0.length l0) (hc0 : l0.length ≤ c0) (h : impl_ValidGrid.f k l0 = some r) :
  Calls Tryd.prog 30 #[.slice A0 l0.length c0] w fun e w' => e = .returned (.bool r) ∧ Below w.heap.size w w' := by
 (have HR0 := Aside0.mk hr0);(have HC0 := Aside0.mk hc0);clear hr0 hc0;(have HB := Aside0.mk (Below.refl w.heap.size w));(have H : (impl_ValidGrid.l0 k l0 l0 (l0.length : Int) 0) = some r := h);clear h;(have H' := Aside0.mk H);clear H
 go_enter Tryd.func30, Tryd.ntmps30
 go_wp2
 go_loopg [7] k (fun kq v7 w' => ∃ (x7_1 : Int), v7 = .int .i64 x7_1 ∧ Aside0 (impl_ValidGrid.l0 kq l0 l0 (l0.length : Int) x7_1 = some r) ∧ Aside0 (kq ≤ k) ∧ Aside0 (Below w.heap.size w w'))
 case atStart => exact ⟨(0), zq26, H', ⟨Nat.le_refl _⟩, ⟨zq47⟩⟩
 case round =>
  clear H';(obtain ⟨x7_1, rfl, HA, HK1, HB⟩ := hrel)
  cases gk with
  | zero => exact absurd HA.out (by simp [impl_ValidGrid.l0])
  | succ k1 =>
   (have H := HA.out);clear HA;(simp only [impl_ValidGrid.l0] at H);(by_cases c2 : x7_1 < (l0.length : Int))
   ·rw [if_pos c2] at H
    (have c2b0 : decide (x7_1 < (l0.length : Int)) = true := decide_eq_true c2);clear c2;(by_cases c3 : 0 ≤ x7_1)
    ·rw [if_pos c3] at H
     (have c3b0 : decide (0 ≤ x7_1) = true := decide_eq_true c3);clear c3;(by_cases c4 : x7_1 < (l0.length : Int))
     ·rw [if_pos c4] at H
      (have c4b0 : decide (x7_1 < (l0.length : Int)) = true := decide_eq_true c4);clear c4;(by_cases c5 : 0 < (l0.length : Int))
      ·rw [if_pos c5] at H
       (have c5b0 : decide (0 < (l0.length : Int)) = true := decide_eq_true c5);(have c5b1 : decide (0 < l0.length) = true := decide_eq_true (by omega));clear c5;(by_cases c6 : ((rdOf ByteArray.empty l0 x7_1).size : Int) = ((rdOf ByteArray.empty l0 0).size : Int))
       ·rw [if_pos c6] at H
        (have c6b0 : (((rdOf ByteArray.empty l0 x7_1).size : Int) == ((rdOf ByteArray.empty l0 0).size : Int)) = true := beq_iff_eq.mpr c6);(have c6b1 : (((rdOf ByteArray.empty l0 x7_1).size : Int) != ((rdOf ByteArray.empty l0 0).size : Int)) = false := bne_eq_false_iff_eq.mpr c6);(have c6b2 : ((rdOf ByteArray.empty l0 x7_1).size == (rdOf ByteArray.empty l0 0).size) = true := by first | simpa using c6 | (simp at c6 ⊢; omega));clear c6;(replace H := Option.bind_eq_some_iff.mp H);(obtain ⟨t103, A70, H⟩ := H);(replace H : (if t103.toList = ([] : List UInt8) then (impl_ValidGrid.l0 k1 l0 l0 (l0.length : Int) (wrap64 (x7_1 + 1))) else (some false)) = some r := H);(have A7 := Aside0.mk A70);clear A70;(by_cases c8 : t103.toList = ([] : List UInt8))
        ·rw [if_pos c8] at H
         (have c8b0 : (t103.toList == ([] : List UInt8)) = true := beq_iff_eq.mpr c8);(have c8b1 : (t103.toList != ([] : List UInt8)) = false := bne_eq_false_iff_eq.mpr c8);clear c8;(have H' := Aside0.mk H);clear H;(have p101 : 0 ≤ (x7_1 : Int) := of_decide_eq_true zq21);(have q101 : x7_1 < (l0.length : Int) := of_decide_eq_true zq21);(obtain ⟨ad101, e101, hx101_0⟩ := Kd.at_string HR0.out x7_1 p101 q101)
         cases e101
         (replace hx101_0 := (HB.out.cell (World.block_lt_of_cell? w _ hx101_0)).trans hx101_0);(replace p101 := eq_true p101);(replace q101 := eq_true q101);(have p102 : 0 ≤ (0 : Int) := (by omega));(have q102 : 0 < (l0.length : Int) := of_decide_eq_true zq21);(obtain ⟨ad102, e102, hx102_0⟩ := Kd.at_string HR0.out 0 p102 q102);(obtain rfl : ad101 = ad102 := (by injection e102));(have qi102 : (0 < l0.length) = True := eq_true (by omega));((try rw [show ((0 : Int)).toNat = 0 from rfl] at hx102_0));((try rw [Addr.add_zero'] at hx102_0));(replace hx102_0 := (HB.out.cell (World.block_lt_of_cell? w _ hx102_0)).trans hx102_0);(replace p102 := eq_true p102);(replace q102 := eq_true q102);(go_wp2_with (first | (go_at_call 60; (with_reducible refine (strings_Trim.calls (rdOf ByteArray.empty l0 x7_1) (⟨#[46, 97, 98, 99, 100, 101, 102, 103, 104, 105, 106, 107, 108, 109, 110, 111, 112, 113, 114, 115, 116, 117, 118, 119, 120, 121, 122]⟩ : ByteArray) t103 _ A7.out).mono ?_); rintro e w9 ⟨rfl, hb⟩; have n0_ := Aside0.mk (below_step zq47 hb); clear HB; have HB := n0_; clear n0_; (try clear hb); (try clear hb2); (try clear hk); (try clear hi))));(go_roundg k1)
         case measure => have := HK1.out; omega
         case rel => exact ⟨(wrap64 (x7_1 + 1)), zq26, H', ⟨zq40⟩, ⟨zq47⟩⟩
        ·rw [if_neg c8] at H
         (have c8b0 : (t103.toList == ([] : List UInt8)) = false := beq_eq_false_iff_ne.mpr c8);(have c8b1 : (t103.toList != ([] : List UInt8)) = true := bne_iff_ne.mpr c8);(obtain rfl := Option.some.inj H);(have p101 : 0 ≤ (x7_1 : Int) := of_decide_eq_true zq21);(have q101 : x7_1 < (l0.length : Int) := of_decide_eq_true zq21);(obtain ⟨ad101, e101, hx101_0⟩ := Kd.at_string HR0.out x7_1 p101 q101)
         cases e101
         (replace hx101_0 := (HB.out.cell (World.block_lt_of_cell? w _ hx101_0)).trans hx101_0);(replace p101 := eq_true p101);(replace q101 := eq_true q101);(have p102 : 0 ≤ (0 : Int) := (by omega));(have q102 : 0 < (l0.length : Int) := of_decide_eq_true zq21);(obtain ⟨ad102, e102, hx102_0⟩ := Kd.at_string HR0.out 0 p102 q102);(obtain rfl : ad101 = ad102 := (by injection e102));(have qi102 : (0 < l0.length) = True := eq_true (by omega));((try rw [show ((0 : Int)).toNat = 0 from rfl] at hx102_0));((try rw [Addr.add_zero'] at hx102_0));(replace hx102_0 := (HB.out.cell (World.block_lt_of_cell? w _ hx102_0)).trans hx102_0);(replace p102 := eq_true p102);(replace q102 := eq_true q102);(go_wp2_with (first | (go_at_call 60; (with_reducible refine (strings_Trim.calls (rdOf ByteArray.empty l0 x7_1) (⟨#[46, 97, 98, 99, 100, 101, 102, 103, 104, 105, 106, 107, 108, 109, 110, 111, 112, 113, 114, 115, 116, 117, 118, 119, 120, 121, 122]⟩ : ByteArray) t103 _ A7.out).mono ?_); rintro e w10 ⟨rfl, hb⟩; have n0_ := Aside0.mk (below_step zq47 hb); clear HB; have HB := n0_; clear n0_; (try clear hb); (try clear hb2); (try clear hk); (try clear hi))));(go_ret);(exact ⟨zq25, zq47⟩)
       ·rw [if_neg c6] at H
        (have c6b0 : (((rdOf ByteArray.empty l0 x7_1).size : Int) == ((rdOf ByteArray.empty l0 0).size : Int)) = false := beq_eq_false_iff_ne.mpr c6);(have c6b1 : (((rdOf ByteArray.empty l0 x7_1).size : Int) != ((rdOf ByteArray.empty l0 0).size : Int)) = true := bne_iff_ne.mpr c6);(have c6b2 : ((rdOf ByteArray.empty l0 x7_1).size == (rdOf ByteArray.empty l0 0).size) = false := by first | simpa using c6 | (simp at c6 ⊢; omega));(obtain rfl := Option.some.inj H);(have p101 : 0 ≤ (x7_1 : Int) := of_decide_eq_true zq21);(have q101 : x7_1 < (l0.length : Int) := of_decide_eq_true zq21);(obtain ⟨ad101, e101, hx101_0⟩ := Kd.at_string HR0.out x7_1 p101 q101)
        cases e101
        (replace hx101_0 := (HB.out.cell (World.block_lt_of_cell? w _ hx101_0)).trans hx101_0);(replace p101 := eq_true p101);(replace q101 := eq_true q101);(have p102 : 0 ≤ (0 : Int) := (by omega));(have q102 : 0 < (l0.length : Int) := of_decide_eq_true zq21);(obtain ⟨ad102, e102, hx102_0⟩ := Kd.at_string HR0.out 0 p102 q102);(obtain rfl : ad101 = ad102 := (by injection e102));(have qi102 : (0 < l0.length) = True := eq_true (by omega));((try rw [show ((0 : Int)).toNat = 0 from rfl] at hx102_0));((try rw [Addr.add_zero'] at hx102_0));(replace hx102_0 := (HB.out.cell (World.block_lt_of_cell? w _ hx102_0)).trans hx102_0);(replace p102 := eq_true p102);(replace q102 := eq_true q102);(go_wp2);(go_ret);(exact ⟨zq25, zq47⟩)
      ·rw [if_neg c5] at H
       exact absurd H (by simp)
     ·rw [if_neg c4] at H
      exact absurd H (by simp)
    ·rw [if_neg c3] at H
     exact absurd H (by simp)
   ·rw [if_neg c2] at H
    (have c2b0 : decide (x7_1 < (l0.length : Int)) = false := decide_eq_false c2);clear c2;(by_cases c11 : (l0.length : Int) ≥ 1)
    ·rw [if_pos c11] at H
     (have c11b0 : decide (1 ≤ (l0.length : Int)) = true := decide_eq_true c11);(have c11b1 : decide (1 ≤ l0.length) = true := decide_eq_true (by omega));clear c11;(by_cases c12 : (l0.length : Int) ≤ 16)
     ·rw [if_pos c12] at H
      (have c12b0 : decide ((l0.length : Int) ≤ 16) = true := decide_eq_true c12);(have c12b1 : decide (l0.length ≤ 16) = true := decide_eq_true (by omega));clear c12;(by_cases c13 : 0 < (l0.length : Int))
      ·rw [if_pos c13] at H
       (have c13b0 : decide (0 < (l0.length : Int)) = true := decide_eq_true c13);(have c13b1 : decide (0 < l0.length) = true := decide_eq_true (by omega));clear c13;(by_cases c14 : ((rdOf ByteArray.empty l0 0).size : Int) ≥ 1)
       ·rw [if_pos c14] at H
        (have c14b0 : decide (1 ≤ ((rdOf ByteArray.empty l0 0).size : Int)) = true := decide_eq_true c14);(have c14b1 : decide (1 ≤ (rdOf ByteArray.empty l0 0).size) = true := decide_eq_true (by omega));clear c14;(obtain rfl := Option.some.inj H);(have p104 : 0 ≤ (0 : Int) := (by omega));(have q104 : 0 < (l0.length : Int) := of_decide_eq_true zq21);(obtain ⟨ad104, e104, hx104_0⟩ := Kd.at_string HR0.out 0 p104 q104)
        cases e104
        (have qi104 : (0 < l0.length) = True := eq_true (by omega));((try rw [show ((0 : Int)).toNat = 0 from rfl] at hx104_0));((try rw [Addr.add_zero'] at hx104_0));(replace hx104_0 := (HB.out.cell (World.block_lt_of_cell? w _ hx104_0)).trans hx104_0);(replace p104 := eq_true p104);(replace q104 := eq_true q104);(have p105 : 0 ≤ (0 : Int) := (by omega));(have q105 : 0 < (l0.length : Int) := of_decide_eq_true zq21);(obtain ⟨ad105, e105, hx105_0⟩ := Kd.at_string HR0.out 0 p105 q105);(obtain rfl : ad104 = ad105 := (by injection e105));(have qi105 : (0 < l0.length) = True := eq_true (by omega));((try rw [show ((0 : Int)).toNat = 0 from rfl] at hx105_0));((try rw [Addr.add_zero'] at hx105_0));(replace hx105_0 := (HB.out.cell (World.block_lt_of_cell? w _ hx105_0)).trans hx105_0);(replace p105 := eq_true p105);(replace q105 := eq_true q105);(go_wp2);(go_ret);(exact ⟨zq25, zq47⟩)
       ·rw [if_neg c14] at H
        (have c14b0 : decide (1 ≤ ((rdOf ByteArray.empty l0 0).size : Int)) = false := decide_eq_false c14);(have c14b1 : decide (1 ≤ (rdOf ByteArray.empty l0 0).size) = false := decide_eq_false (by omega));clear c14;(obtain rfl := Option.some.inj H);(have p104 : 0 ≤ (0 : Int) := (by omega));(have q104 : 0 < (l0.length : Int) := of_decide_eq_true zq21);(obtain ⟨ad104, e104, hx104_0⟩ := Kd.at_string HR0.out 0 p104 q104)
        cases e104
        (have qi104 : (0 < l0.length) = True := eq_true (by omega));((try rw [show ((0 : Int)).toNat = 0 from rfl] at hx104_0));((try rw [Addr.add_zero'] at hx104_0));(replace hx104_0 := (HB.out.cell (World.block_lt_of_cell? w _ hx104_0)).trans hx104_0);(replace p104 := eq_true p104);(replace q104 := eq_true q104);(go_wp2);(go_ret);(exact ⟨zq25, zq47⟩)
      ·rw [if_neg c13] at H
       exact absurd H (by simp)
     ·rw [if_neg c12] at H
      (have c12b0 : decide ((l0.length : Int) ≤ 16) = false := decide_eq_false c12);(have c12b1 : decide (l0.length ≤ 16) = false := decide_eq_false (by omega));clear c12;(obtain rfl := Option.some.inj H);(go_wp2);(go_ret);(exact ⟨zq25, zq47⟩)
    ·rw [if_neg c11] at H
     (have c11b0 : decide (1 ≤ (l0.length : Int)) = false := decide_eq_false c11);(have c11b1 : decide (1 ≤ l0.length) = false := decide_eq_false (by omega));clear c11;(obtain rfl := Option.some.inj H);(go_wp2);(go_ret);(exact ⟨zq25, zq47⟩)

/-! ### impl_isLetter: function 63 -/
def impl_isLetter.f (a0 : Int) : Option (Bool) := if a0 ≥ 97 then (some (decide (a0 ≤ 122))) else (some false)
theorem impl_isLetter.calls (a0 : Int) (r : Bool) (w : World) (h : impl_isLetter.f a0 = some r) :
  Calls Tryd.prog 63 #[.int .u8 a0] w fun e w' => e = .returned (.bool r) ∧ Drawn0 w w' := by
 (have H : (if a0 ≥ 97 then (some (decide (a0 ≤ 122))) else (some false)) = some r := h);clear h;(by_cases c2 : a0 ≥ 97)
 ·rw [if_pos c2] at H
  (have c2b0 : decide (97 ≤ a0) = true := decide_eq_true c2);clear c2;(obtain rfl := Option.some.inj H)
  go_enter Tryd.func63, Tryd.ntmps63
  (go_wp2);(go_ret);(exact ⟨zq26, zq54⟩)
 ·rw [if_neg c2] at H
  (have c2b0 : decide (97 ≤ a0) = false := decide_eq_false c2);clear c2;(obtain rfl := Option.some.inj H)
  go_enter Tryd.func63, Tryd.ntmps63
  (go_wp2);(go_ret);(exact ⟨zq26, zq54⟩)

/-! ### impl_isLandText: function 36 -/
def impl_isLandText.f (a0 : ByteArray) : Option (Bool) := if (a0.size : Int) = 1 then (if 0 < (a0.size : Int) then ((impl_isLetter.f (bt a0 0)).bind fun t106 => (some t106)) else (none)) else (some false)
theorem impl_isLandText.calls (a0 : ByteArray) (r : Bool) (w : World) (h : impl_isLandText.f a0 = some r) :
  Calls Tryd.prog 36 #[.string a0] w fun e w' => e = .returned (.bool r) ∧ Drawn0 w w' := by
 (have H : (if (a0.size : Int) = 1 then (if 0 < (a0.size : Int) then ((impl_isLetter.f (bt a0 0)).bind fun t106 => (some t106)) else (none)) else (some false)) = some r := h);clear h;(by_cases c2 : (a0.size : Int) = 1)
 ·rw [if_pos c2] at H
  (have c2b0 : ((a0.size : Int) == 1) = true := beq_iff_eq.mpr c2);(have c2b1 : ((a0.size : Int) != 1) = false := bne_eq_false_iff_eq.mpr c2);clear c2;(by_cases c3 : 0 < (a0.size : Int))
  ·rw [if_pos c3] at H
   (have c3b0 : decide (0 < (a0.size : Int)) = true := decide_eq_true c3);(have c3b1 : decide (0 < a0.size) = true := decide_eq_true (by omega));clear c3;(replace H := Option.bind_eq_some_iff.mp H);(obtain ⟨t106, A50, H⟩ := H);(replace H : (some t106) = some r := H);(have A5 := Aside0.mk A50);clear A50;(obtain rfl := Option.some.inj H);(have p4 : 0 ≤ (0 : Int) := (by omega));(have q4 : 0 < a0.size := (by have : (0 : Int) < (a0.size : Int) := of_decide_eq_true zq21; omega));(have hx4 : ∀ h : 0 < a0.size, ((a0[0]'h).toNat : Int) = bt a0 0 := bt_at a0 0);clear p4;(have qi4 : (0 < (a0.size : Int)) = True := eq_true (of_decide_eq_true zq21));(replace q4 := eq_true q4)
   go_enter Tryd.func36, Tryd.ntmps36
   (go_wp2_with (first | (go_at_call 63; (with_reducible refine (impl_isLetter.calls (bt a0 0) t106 _ A5.out).mono ?_); rintro e w' ⟨rfl, ⟨nd, rfl⟩⟩)));(go_ret);(exact ⟨zq26, zq54⟩)
  ·rw [if_neg c3] at H
   exact absurd H (by simp)
 ·rw [if_neg c2] at H
  (have c2b0 : ((a0.size : Int) == 1) = false := beq_eq_false_iff_ne.mpr c2);(have c2b1 : ((a0.size : Int) != 1) = true := bne_iff_ne.mpr c2);(obtain rfl := Option.some.inj H)
  go_enter Tryd.func36, Tryd.ntmps36
  (go_wp2);(go_ret);(exact ⟨zq26, zq54⟩)

/-! ### impl_cellsWith: function 43 -/
mutual
def impl_cellsWith.l0 : Nat → Int → List (S61) → List ByteArray → Int → Int → Option ((List (S61)))
 | 0, _, _, _, _, _ => none
 | k + 1, x1, x5, x10, x11, x12 => if x12 < x11 then (if 0 ≤ x12 then (if x12 < (x10.length : Int) then (impl_cellsWith.l1 k x1 x5 x12 (rdOf ByteArray.empty x10 x12) x10 x11 x12 ((rdOf ByteArray.empty x10 x12).size : Int) 0) else (none)) else (none)) else (some x5)
def impl_cellsWith.l1 : Nat → Int → List (S61) → Int → ByteArray → List ByteArray → Int → Int → Int → Int → Option ((List (S61)))
 | 0, _, _, _, _, _, _, _, _, _ => none
 | k + 1, x1, x5, x6, x7, x10, x11, x12, x18, x19 => if x19 < x18 then (if 0 ≤ x19 then (if x19 < (x7.size : Int) then (if (bt x7 x19) = x1 then (if x5.length < 8796093022208 then (impl_cellsWith.l1 k x1 (x5 ++ [(⟨x6, x19⟩ : S61)]) x6 x7 x10 x11 x12 x18 (wrap64 (x19 + 1))) else (none)) else (impl_cellsWith.l1 k x1 x5 x6 x7 x10 x11 x12 x18 (wrap64 (x19 + 1)))) else (none)) else (none)) else (impl_cellsWith.l0 k x1 x5 x10 x11 (wrap64 (x12 + 1)))
end
def impl_cellsWith.f (k : Nat) (l0 : List ByteArray) (a1 : Int) : Option ((List (S61))) := impl_cellsWith.l0 k a1 (([] : List (S61))) l0 (l0.length : Int) 0
theorem impl_cellsWith.mono_l : ∀ k, (∀ y0 y1 y2 y3 y4, LeO (impl_cellsWith.l0 k y0 y1 y2 y3 y4) (impl_cellsWith.l0 (k + 1) y0 y1 y2 y3 y4)) ∧ (∀ y0 y1 y2 y3 y4 y5 y6 y7 y8, LeO (impl_cellsWith.l1 k y0 y1 y2 y3 y4 y5 y6 y7 y8) (impl_cellsWith.l1 (k + 1) y0 y1 y2 y3 y4 y5 y6 y7 y8))
 | 0 => ⟨fun _ _ _ _ _ r h => by simp [impl_cellsWith.l0] at h, fun _ _ _ _ _ _ _ _ _ r h => by simp [impl_cellsWith.l1] at h⟩
 | k + 1 => by
  (obtain ⟨ih0, ih1⟩ := impl_cellsWith.mono_l k);(refine ⟨?_, ?_⟩)
  ·intro y0 y1 y2 y3 y4
   unfold impl_cellsWith.l0
   repeat' first | with_reducible (first | exact ih0 _ _ _ _ _ | exact ih1 _ _ _ _ _ _ _ _ _ | exact LeO.refl _ | exact LeO.none _ | refine LeO.ite ?_ ?_ | refine LeO.bind ?_ (fun _ => ?_)) | exact ih0 _ _ _ _ _ | exact ih1 _ _ _ _ _ _ _ _ _ | exact LeO.none _ | refine LeO.ite ?_ ?_ | refine LeO.bind ?_ (fun _ => ?_)
  ·intro y0 y1 y2 y3 y4 y5 y6 y7 y8
   unfold impl_cellsWith.l1
   repeat' first | with_reducible (first | exact ih0 _ _ _ _ _ | exact ih1 _ _ _ _ _ _ _ _ _ | exact LeO.refl _ | exact LeO.none _ | refine LeO.ite ?_ ?_ | refine LeO.bind ?_ (fun _ => ?_)) | exact ih0 _ _ _ _ _ | exact ih1 _ _ _ _ _ _ _ _ _ | exact LeO.none _ | refine LeO.ite ?_ ?_ | refine LeO.bind ?_ (fun _ => ?_)
theorem impl_cellsWith.mono : ∀ a0 a1 k, LeO (impl_cellsWith.f k a0 a1) (impl_cellsWith.f (k + 1) a0 a1) := by
 intro a0 a1 k;(obtain ⟨ih0, ih1⟩ := impl_cellsWith.mono_l k);(unfold impl_cellsWith.f)
 repeat' first | with_reducible (first | exact ih0 _ _ _ _ _ | exact ih1 _ _ _ _ _ _ _ _ _ | exact LeO.refl _ | exact LeO.none _ | refine LeO.ite ?_ ?_ | refine LeO.bind ?_ (fun _ => ?_)) | exact ih0 _ _ _ _ _ | exact ih1 _ _ _ _ _ _ _ _ _ | exact LeO.none _ | refine LeO.ite ?_ ?_ | refine LeO.bind ?_ (fun _ => ?_)
theorem impl_cellsWith.calls (k : Nat) (A0 : Option Addr) (c0 : Nat) (l0 : List ByteArray) (a1 : Int) (r : List (S61)) (w : World) (hr0 : Kd.C Kd.string w A0 l0.length l0) (hc0 : l0.length ≤ c0) (h : impl_cellsWith.f k l0 a1 = some r) :
  Calls Tryd.prog 43 #[.slice A0 l0.length c0, .int .u8 a1] w fun e w' => ∃ v0_ : Value, e = .returned (v0_) ∧ Kd.R k61 61 w' w.heap.size (fun _ => True) v0_ r ∧ Below w.heap.size w w' := by
 (have hu61 := Tryd.underlying61);(have HR0 := Aside0.mk hr0);(have HC0 := Aside0.mk hc0);clear hr0 hc0;(have HB := Aside0.mk (Below.refl w.heap.size w));(have H : (impl_cellsWith.l0 k a1 (([] : List (S61))) l0 (l0.length : Int) 0) = some r := h);clear h;(obtain ⟨y107, hy_⟩ : ∃ y_ : List (S61), y_ = (([] : List (S61))) := ⟨_, rfl⟩);(replace H : (impl_cellsWith.l0 k a1 y107 l0 (l0.length : Int) 0) = some r := zq20);(have Ny107 := Aside0.mk hy_);clear hy_;(have H' := Aside0.mk H);clear H
 go_enter Tryd.func43, Tryd.ntmps43
 go_wp2_with (first | ((with_reducible refine gate_dst (N := 9) rfl ?_); refine Kd.R_lit k61 _ 61 ?hg (N := 9) ?hd (xs := ([] : List (S61))) (inner := []) (ok := fun _ => True) (okp := fun _ => True) ?hr ?hp (fun _ hk => hk) trivial (Below.refl _ _) (Nat.le_refl _) (by simp) ?_; (case hd => rfl); (case hg => rfl); (case hr => first | (go_simp; done) | (go_simp; rfl)); (case hp => exact (Reps.none _ _)); intro v108 w3 ho4 hb hg_ hnew_; clear hg_ hnew_; (first | rw [← Ny107.out] at ho4 | (simp only [Int.reduceToNat] at ho4; rw [← Ny107.out] at ho4)); have n0_ := Aside0.mk (Kd.R_lower ho4 (below_size zq47)); have n1_ := Aside0.mk (below_step zq47 hb); clear HB; have HO109 := n0_; have HB := n1_; clear n0_ n1_; clear hb ho4))
 go_loopg [5, 12] k (fun kq v5 v12 w' => ∃ (x5_1 : List (S61)) (x12_1 : Int), v12 = .int .i64 x12_1 ∧ Aside0 (impl_cellsWith.l0 kq a1 x5_1 l0 (l0.length : Int) x12_1 = some r) ∧ Aside0 (kq ≤ k) ∧ Aside0 (Kd.R k61 61 w' w.heap.size (fun _ => True) v5 x5_1) ∧ Aside0 (Below w.heap.size w w'))
 case atStart => exact ⟨(y107), (0), zq26, H', ⟨Nat.le_refl _⟩, ⟨zR HO109.out⟩, ⟨zq47⟩⟩
 case round =>
  clear H';(try clear p2);(try clear c4);(obtain ⟨x5_1, x12_1, rfl, HA, HK1, HO_5, HB⟩ := hrel)
  cases gk with
  | zero => exact absurd HA.out (by simp [impl_cellsWith.l0])
  | succ k1 =>
   (have H := HA.out);clear HA;(simp only [impl_cellsWith.l0] at H);(by_cases c5 : x12_1 < (l0.length : Int))
   ·rw [if_pos c5] at H
    (have c5b0 : decide (x12_1 < (l0.length : Int)) = true := decide_eq_true c5);clear c5;(by_cases c6 : 0 ≤ x12_1)
    ·rw [if_pos c6] at H
     (have c6b0 : decide (0 ≤ x12_1) = true := decide_eq_true c6);clear c6;(by_cases c7 : x12_1 < (l0.length : Int))
     ·rw [if_pos c7] at H
      (have c7b0 : decide (x12_1 < (l0.length : Int)) = true := decide_eq_true c7);clear c7;(have H' := Aside0.mk H);clear H;(have p110 : 0 ≤ (x12_1 : Int) := of_decide_eq_true zq21);(have q110 : x12_1 < (l0.length : Int) := of_decide_eq_true zq21);(obtain ⟨ad110, e110, hx110_0⟩ := Kd.at_string HR0.out x12_1 p110 q110)
      cases e110
      (replace hx110_0 := (HB.out.cell (World.block_lt_of_cell? w _ hx110_0)).trans hx110_0);(replace p110 := eq_true p110);(replace q110 := eq_true q110);(go_wp2)
      go_loopg [5, 19] k1 (fun kq v5 v19 w' => ∃ (x5_2 : List (S61)) (x19_2 : Int), v19 = .int .i64 x19_2 ∧ Aside0 (impl_cellsWith.l1 kq a1 x5_2 x12_1 (rdOf ByteArray.empty l0 x12_1) l0 (l0.length : Int) x12_1 ((rdOf ByteArray.empty l0 x12_1).size : Int) x19_2 = some r) ∧ Aside0 (kq ≤ k1) ∧ Aside0 (Kd.R k61 61 w' w.heap.size (fun _ => True) v5 x5_2) ∧ Aside0 (Below w.heap.size w w'))
      case atStart => exact ⟨(x5_1), (0), zq26, H', ⟨Nat.le_refl _⟩, ⟨zR HO_5.out⟩, ⟨zq47⟩⟩
      case round =>
       clear H';(try clear p1);(try clear q1);(try clear hx1);(try clear p2);(try clear c4);(try clear c5);(try clear c5b0);(try clear c6);(try clear c6b0);(try clear c7);(try clear c7b0);(try clear hx110_0);(try clear p110);(try clear p2);(try clear q110);(obtain ⟨x5_2, x19_2, rfl, HA, HK2, HO_5, HB⟩ := hrel)
       cases gk with
       | zero => exact absurd HA.out (by simp [impl_cellsWith.l1])
       | succ k2 =>
        (have H := HA.out);clear HA;(simp only [impl_cellsWith.l1] at H);(by_cases c8 : x19_2 < ((rdOf ByteArray.empty l0 x12_1).size : Int))
        ·rw [if_pos c8] at H
         (have c8b0 : decide (x19_2 < ((rdOf ByteArray.empty l0 x12_1).size : Int)) = true := decide_eq_true c8);clear c8;(by_cases c9 : 0 ≤ x19_2)
         ·rw [if_pos c9] at H
          (have c9b0 : decide (0 ≤ x19_2) = true := decide_eq_true c9);clear c9;(by_cases c10 : x19_2 < ((rdOf ByteArray.empty l0 x12_1).size : Int))
          ·rw [if_pos c10] at H
           (have c10b0 : decide (x19_2 < ((rdOf ByteArray.empty l0 x12_1).size : Int)) = true := decide_eq_true c10);clear c10;(by_cases c12 : (bt (rdOf ByteArray.empty l0 x12_1) x19_2) = a1)
           ·rw [if_pos c12] at H
            (have c12b0 : ((bt (rdOf ByteArray.empty l0 x12_1) x19_2) == a1) = true := beq_iff_eq.mpr c12);(have c12b1 : ((bt (rdOf ByteArray.empty l0 x12_1) x19_2) != a1) = false := bne_eq_false_iff_eq.mpr c12);clear c12;(by_cases c13 : x5_2.length < 8796093022208)
            ·rw [if_pos c13] at H
             (have LMc13 := Aside0.mk c13);clear c13;(obtain ⟨y111, hy_⟩ : ∃ y_ : List (S61), y_ = (x5_2 ++ [(⟨x12_1, x19_2⟩ : S61)]) := ⟨_, rfl⟩);(replace H : (impl_cellsWith.l1 k2 a1 y111 x12_1 (rdOf ByteArray.empty l0 x12_1) l0 (l0.length : Int) x12_1 ((rdOf ByteArray.empty l0 x12_1).size : Int) (wrap64 (x19_2 + 1))) = some r := zq20);(have Ny111 := Aside0.mk hy_);clear hy_;(have H' := Aside0.mk H);clear H;(have p11 : 0 ≤ (x19_2 : Int) := of_decide_eq_true zq21);(have q11 : x19_2 < ((rdOf ByteArray.empty l0 x12_1).size : Int) := of_decide_eq_true zq21);(have hx11 := bt_at (rdOf ByteArray.empty l0 x12_1) x19_2);(replace p11 := eq_true p11);(replace q11 := eq_true q11);(go_wp2_with (first | ((with_reducible refine gate_builtin (b := .append) (xs := #[.tmp 27, .tmp 31]) rfl ?_); at_builtin; refine Kd.R_append k61 (w0 := w) w.heap.size rfl (.tmp 27) (.tmp 31) 51 61 (.agg #[(.int .i64 0), (.int .i64 0)]) 16 rfl Tryd.underlying51 info61 rfl (by decide) (by omega) u5 x5_2 (⟨x12_1, x19_2⟩ : S61) [.int .i64 x12_1, .int .i64 x19_2] (fun _ => True) (fun _ => False) rfl rfl ?aP (fun _ hk => hk.elim) ?aF ?aO ?aB ?aS ?aL ?_; (case aP => exact k61_mkM _ _ _ (⟨x12_1, x19_2⟩ : S61)); (case aB => exact zq47); (case aF => exact (fun _ _ => trivial)); (case aO => exact (zR HO_5.out)); (case aS => exact (below_size zq47)); (case aL => have := LMc13.out; omega); intro v112 w14 ho hb hg hat; rw [← Ny111.out] at ho; have n0_ := Aside0.mk (hb); have n1_ := Aside0.mk (ho); clear HB; clear HO_5; have HB := n0_; have HO113 := n1_; clear n0_ n1_; clear ho hb hg hat)));(go_roundg k2)
             case measure => have := HK1.out; have := HK2.out; omega
             case rel => exact ⟨(y111), (wrap64 (x19_2 + 1)), zq26, H', ⟨zq39⟩, ⟨zR HO113.out⟩, ⟨zq47⟩⟩
            ·rw [if_neg c13] at H
             exact absurd H (by simp)
           ·rw [if_neg c12] at H
            (have c12b0 : ((bt (rdOf ByteArray.empty l0 x12_1) x19_2) == a1) = false := beq_eq_false_iff_ne.mpr c12);(have c12b1 : ((bt (rdOf ByteArray.empty l0 x12_1) x19_2) != a1) = true := bne_iff_ne.mpr c12);(have H' := Aside0.mk H);clear H;(have p11 : 0 ≤ (x19_2 : Int) := of_decide_eq_true zq21);(have q11 : x19_2 < ((rdOf ByteArray.empty l0 x12_1).size : Int) := of_decide_eq_true zq21);(have hx11 := bt_at (rdOf ByteArray.empty l0 x12_1) x19_2);(replace p11 := eq_true p11);(replace q11 := eq_true q11);(go_wp2);(go_roundg k2)
            case measure => have := HK1.out; have := HK2.out; omega
            case rel => exact ⟨(x5_2), (wrap64 (x19_2 + 1)), zq26, H', ⟨zq39⟩, ⟨zR HO_5.out⟩, ⟨zq47⟩⟩
          ·rw [if_neg c10] at H
           exact absurd H (by simp)
         ·rw [if_neg c9] at H
          exact absurd H (by simp)
        ·rw [if_neg c8] at H
         (have c8b0 : decide (x19_2 < ((rdOf ByteArray.empty l0 x12_1).size : Int)) = false := decide_eq_false c8);clear c8;(have H' := Aside0.mk H);clear H;(go_wp2);(go_roundg k2)
         case measure => have := HK1.out; have := HK2.out; omega
         case rel => exact ⟨(x5_2), (wrap64 (x12_1 + 1)), zq26, H', ⟨zq39⟩, ⟨zR HO_5.out⟩, ⟨zq47⟩⟩
     ·rw [if_neg c7] at H
      exact absurd H (by simp)
    ·rw [if_neg c6] at H
     exact absurd H (by simp)
   ·rw [if_neg c5] at H
    (have c5b0 : decide (x12_1 < (l0.length : Int)) = false := decide_eq_false c5);clear c5;(obtain rfl := Option.some.inj H);(go_wp2);(go_ret);(exact ⟨_, zq25, zR HO_5.out, zq47⟩)

/-! ### impl_check: function 50 -/
def impl_check.f (a0 : Bool) (a1 : Bool) : Option (Int) := if a0 = true then (if a1 = true then (some 0) else (some 2)) else (some 1)
theorem impl_check.calls (a0 : Bool) (a1 : Bool) (r : Int) (w : World) (h : impl_check.f a0 a1 = some r) :
  Calls Tryd.prog 50 #[.bool a0, .bool a1] w fun e w' => e = .returned (.int .i64 r) ∧ Drawn0 w w' := by
 (have H : (if a0 = true then (if a1 = true then (some 0) else (some 2)) else (some 1)) = some r := h);clear h;(by_cases c3 : a0 = true)
 ·subst c3
  (have H1 : (if a1 = true then (some 0) else (some 2)) = some r := zq62);clear H;(have H := H1);clear H1;(by_cases c4 : a1 = true)
  ·subst c4
   (have H1 : (some 0) = some r := zq62);clear H;(have H := H1);clear H1;(obtain rfl := Option.some.inj H)
   go_enter Tryd.func50, Tryd.ntmps50
   (go_wp2);(go_ret);(exact ⟨zq26, zq54⟩)
  ·replace c4 := Bool.eq_false_iff.mpr c4
   subst c4;(have H1 : (some 2) = some r := zq61);clear H;(have H := H1);clear H1;(obtain rfl := Option.some.inj H)
   go_enter Tryd.func50, Tryd.ntmps50
   (go_wp2);(go_ret);(exact ⟨zq26, zq54⟩)
 ·replace c3 := Bool.eq_false_iff.mpr c3
  subst c3;(have H1 : (some 1) = some r := zq61);clear H;(have H := H1);clear H1;(obtain rfl := Option.some.inj H)
  go_enter Tryd.func50, Tryd.ntmps50
  (go_wp2);(go_ret);(exact ⟨zq26, zq54⟩)

/-! ### impl_landCode: function 35 -/
def impl_landCode.j0 : Nat → List ByteArray → ByteArray → Int → Option (Int)
 | 0, _, _, _ => none
 | k + 1, x0, x1, x7 => if x7 = 0 then (if 0 < (x1.size : Int) then ((impl_cellsWith.f k x0 (bt x1 0)).bind fun t118 => (if (t118.length : Int) = 0 then (some 3) else (some 0))) else (none)) else (some x7)
def impl_landCode.f (k : Nat) (l0 : List ByteArray) (a1 : ByteArray) (a2 : Bool) : Option (Int) := (impl_ValidGrid.f k l0).bind fun t114 => ((impl_isLandText.f a1).bind fun t115 => (if t115 = true then ((impl_check.f t114 a2).bind fun t116 => (impl_landCode.j0 k l0 a1 t116)) else ((impl_check.f t114 false).bind fun t117 => (impl_landCode.j0 k l0 a1 t117))))
theorem impl_landCode.mono_l : ∀ k, (∀ y0 y1 y2, LeO (impl_landCode.j0 k y0 y1 y2) (impl_landCode.j0 (k + 1) y0 y1 y2))
 | 0 => fun _ _ _ r h => by simp [impl_landCode.j0] at h
 | k + 1 => by
  have ih0 := impl_landCode.mono_l k
  ·intro y0 y1 y2
   unfold impl_landCode.j0
   repeat' first | with_reducible (first | exact ih0 _ _ _ | exact impl_ValidGrid.mono _ _ | exact impl_cellsWith.mono _ _ _ | exact LeO.refl _ | exact LeO.none _ | refine LeO.ite ?_ ?_ | refine LeO.bind ?_ (fun _ => ?_)) | exact ih0 _ _ _ | exact impl_ValidGrid.mono _ _ | exact impl_cellsWith.mono _ _ _ | exact LeO.none _ | refine LeO.ite ?_ ?_ | refine LeO.bind ?_ (fun _ => ?_)
theorem impl_landCode.mono : ∀ a0 a1 a2 k, LeO (impl_landCode.f k a0 a1 a2) (impl_landCode.f (k + 1) a0 a1 a2) := by
 intro a0 a1 a2 k;(have ih0 := impl_landCode.mono_l k);(unfold impl_landCode.f)
 repeat' first | with_reducible (first | exact ih0 _ _ _ | exact impl_ValidGrid.mono _ _ | exact impl_cellsWith.mono _ _ _ | exact LeO.refl _ | exact LeO.none _ | refine LeO.ite ?_ ?_ | refine LeO.bind ?_ (fun _ => ?_)) | exact ih0 _ _ _ | exact impl_ValidGrid.mono _ _ | exact impl_cellsWith.mono _ _ _ | exact LeO.none _ | refine LeO.ite ?_ ?_ | refine LeO.bind ?_ (fun _ => ?_)
theorem impl_landCode.calls (k : Nat) (A0 : Option Addr) (c0 : Nat) (l0 : List ByteArray) (a1 : ByteArray) (a2 : Bool) (r : Int) (w : World) (hr0 : Kd.C Kd.string w A0 l0.length l0) (hc0 : l0.length ≤ c0) (h : impl_landCode.f k l0 a1 a2 = some r) :
  Calls Tryd.prog 35 #[.slice A0 l0.length c0, .string a1, .bool a2] w fun e w' => e = .returned (.int .i64 r) ∧ Below w.heap.size w w' := by
 (have HR0 := Aside0.mk hr0);(have HC0 := Aside0.mk hc0);clear hr0 hc0;(have HB := Aside0.mk (Below.refl w.heap.size w));(have H : ((impl_ValidGrid.f k l0).bind fun t114 => ((impl_isLandText.f a1).bind fun t115 => (if t115 = true then ((impl_check.f t114 a2).bind fun t116 => (impl_landCode.j0 k l0 a1 t116)) else ((impl_check.f t114 false).bind fun t117 => (impl_landCode.j0 k l0 a1 t117))))) = some r := h);clear h;(have HC4 := Aside0.mk H);clear H
 go_enter Tryd.func35, Tryd.ntmps35
 go_upto_region 1 with (fail)
 go_cut [7] (fun v7 wc => ∃ (kq : Nat) (x7_3 : Int), v7 = .int .i64 x7_3 ∧ Aside0 (impl_landCode.j0 kq l0 a1 x7_3 = some r) ∧ Aside0 (kq ≤ k) ∧ Aside0 (Below w.heap.size w wc))
 case first =>
  (have H := HC4.out);clear HC4;(replace H := Option.bind_eq_some_iff.mp H);(obtain ⟨t114, A50, H⟩ := H);(replace H : ((impl_isLandText.f a1).bind fun t115 => (if t115 = true then ((impl_check.f t114 a2).bind fun t116 => (impl_landCode.j0 k l0 a1 t116)) else ((impl_check.f t114 false).bind fun t117 => (impl_landCode.j0 k l0 a1 t117)))) = some r := H);(have A5 := Aside0.mk A50);clear A50;(replace H := Option.bind_eq_some_iff.mp H);(obtain ⟨t115, A60, H⟩ := H);(replace H : (if t115 = true then ((impl_check.f t114 a2).bind fun t116 => (impl_landCode.j0 k l0 a1 t116)) else ((impl_check.f t114 false).bind fun t117 => (impl_landCode.j0 k l0 a1 t117))) = some r := H);(have A6 := Aside0.mk A60);clear A60;(by_cases c7 : t115 = true)
  ·subst c7
   (have H1 : ((impl_check.f t114 a2).bind fun t116 => (impl_landCode.j0 k l0 a1 t116)) = some r := zq62);clear H;(have H := H1);clear H1;(replace H := Option.bind_eq_some_iff.mp H);(obtain ⟨t116, A80, H⟩ := H);(replace H : (impl_landCode.j0 k l0 a1 t116) = some r := H);(have A8 := Aside0.mk A80);clear A80;(have H' := Aside0.mk H);clear H;(go_wp2_with (first | ((with_reducible refine gate_callee (f := 30) rfl ?_); refine goesL_ (some 9) rfl rfl Tryd.func30 (by kernel_rfl) rfl #[.slice A0 l0.length c0] rfl zq0 ?_; (with_reducible refine (impl_ValidGrid.calls k _ _ l0 t114 _ ?side1 ?side2 A5.out).mono ?_); (case side1 => exact zq53); (case side2 => exact HC0.out); rintro e w9 ⟨rfl, hb⟩; refine ⟨_, rfl, ?_⟩; have n0_ := Aside0.mk (below_step zq47 hb); clear HB; have HB := n0_; clear n0_; (try clear hb); (try clear hb2); (try clear hk); (try clear hi)) | ((with_reducible refine gate_callee (f := 36) rfl ?_); refine goesL_ (some 11) rfl rfl Tryd.func36 (by kernel_rfl) rfl #[.string a1] rfl zq0 ?_; (with_reducible refine (impl_isLandText.calls a1 true _ A6.out).mono ?_); rintro e w' ⟨rfl, ⟨nd, rfl⟩⟩; refine ⟨_, rfl, ?_⟩) | ((with_reducible refine gate_callee (f := 50) rfl ?_); refine goesL_ (some 15) rfl rfl Tryd.func50 (by kernel_rfl) rfl #[.bool t114, .bool a2] rfl zq0 ?_; (with_reducible refine (impl_check.calls t114 a2 t116 _ A8.out).mono ?_); rintro e w' ⟨rfl, ⟨nd, rfl⟩⟩; refine ⟨_, rfl, ?_⟩)))
   go_meet
   case rel => exact ⟨_, (t116), zq26, H', ⟨zq23⟩, ⟨zq47⟩⟩
  ·replace c7 := Bool.eq_false_iff.mpr c7
   subst c7;(have H1 : ((impl_check.f t114 false).bind fun t117 => (impl_landCode.j0 k l0 a1 t117)) = some r := zq61);clear H;(have H := H1);clear H1;(replace H := Option.bind_eq_some_iff.mp H);(obtain ⟨t117, A100, H⟩ := H);(replace H : (impl_landCode.j0 k l0 a1 t117) = some r := H);(have A10 := Aside0.mk A100);clear A100;(have H' := Aside0.mk H);clear H;(go_wp2_with (first | ((with_reducible refine gate_callee (f := 30) rfl ?_); refine goesL_ (some 9) rfl rfl Tryd.func30 (by kernel_rfl) rfl #[.slice A0 l0.length c0] rfl zq0 ?_; (with_reducible refine (impl_ValidGrid.calls k _ _ l0 t114 _ ?side1 ?side2 A5.out).mono ?_); (case side1 => exact zq53); (case side2 => exact HC0.out); rintro e w11 ⟨rfl, hb⟩; refine ⟨_, rfl, ?_⟩; have n0_ := Aside0.mk (below_step zq47 hb); clear HB; have HB := n0_; clear n0_; (try clear hb); (try clear hb2); (try clear hk); (try clear hi)) | ((with_reducible refine gate_callee (f := 36) rfl ?_); refine goesL_ (some 11) rfl rfl Tryd.func36 (by kernel_rfl) rfl #[.string a1] rfl zq0 ?_; (with_reducible refine (impl_isLandText.calls a1 false _ A6.out).mono ?_); rintro e w' ⟨rfl, ⟨nd, rfl⟩⟩; refine ⟨_, rfl, ?_⟩) | ((with_reducible refine gate_callee (f := 50) rfl ?_); refine goesL_ (some 15) rfl rfl Tryd.func50 (by kernel_rfl) rfl #[.bool t114, .bool false] rfl zq0 ?_; (with_reducible refine (impl_check.calls t114 false t117 _ A10.out).mono ?_); rintro e w' ⟨rfl, ⟨nd, rfl⟩⟩; refine ⟨_, rfl, ?_⟩)))
   go_meet
   case rel => exact ⟨_, (t117), zq26, H', ⟨zq23⟩, ⟨zq47⟩⟩
 case rest =>
  clear HC4;(try clear p2);(try clear c3);(try clear c5);(try clear c7);(obtain ⟨kq, x7_3, rfl, HA, HJ3, HB⟩ := hcut)
  cases kq with
  | zero => exact absurd HA.out (by simp [impl_landCode.j0])
  | succ kj3 =>
   (have H := HA.out);clear HA;(simp only [impl_landCode.j0] at H);(by_cases c12 : x7_3 = 0)
   ·rw [if_pos c12] at H
    (have c12b0 : (x7_3 == 0) = true := beq_iff_eq.mpr c12);(have c12b1 : (x7_3 != 0) = false := bne_eq_false_iff_eq.mpr c12);clear c12;(by_cases c13 : 0 < (a1.size : Int))
    ·rw [if_pos c13] at H
     (have c13b0 : decide (0 < (a1.size : Int)) = true := decide_eq_true c13);(have c13b1 : decide (0 < a1.size) = true := decide_eq_true (by omega));clear c13;(replace H := Option.bind_eq_some_iff.mp H);(obtain ⟨t118, A150, H⟩ := H);(replace H : (if (t118.length : Int) = 0 then (some 3) else (some 0)) = some r := H);(have A15 := Aside0.mk A150);clear A150;(by_cases c16 : (t118.length : Int) = 0)
     ·rw [if_pos c16] at H
      (have c16b0 : ((t118.length : Int) == 0) = true := beq_iff_eq.mpr c16);(have c16b1 : ((t118.length : Int) != 0) = false := bne_eq_false_iff_eq.mpr c16);clear c16;(obtain rfl := Option.some.inj H);(have p14 : 0 ≤ (0 : Int) := (by omega));(have q14 : 0 < a1.size := (by have : (0 : Int) < (a1.size : Int) := of_decide_eq_true zq21; omega));(have hx14 : ∀ h : 0 < a1.size, ((a1[0]'h).toNat : Int) = bt a1 0 := bt_at a1 0);clear p14;(have qi14 : (0 < (a1.size : Int)) = True := eq_true (of_decide_eq_true zq21));(replace q14 := eq_true q14);(go_wp2_with (first | ((with_reducible refine gate_callee (f := 43) rfl ?_); refine goesL_ (some 22) rfl rfl Tryd.func43 (by kernel_rfl) rfl #[.slice A0 l0.length c0, .int .u8 (bt a1 0)] rfl zq0 ?_; (with_reducible refine (impl_cellsWith.calls kj3 _ _ l0 (bt a1 0) t118 _ ?side1 ?side2 A15.out).mono ?_); (case side1 => exact zq53); (case side2 => exact HC0.out); rintro e w17 ⟨v119, rfl, ho0, hb⟩; refine ⟨_, rfl, ?_⟩; have n0_ := Aside0.mk (Kd.R_lower ho0 (below_size zq47)); have n1_ := Aside0.mk (below_step zq47 hb); clear HB; have HO120 := n0_; have HB := n1_; clear n0_ n1_; (try clear hb); (try clear hb2); (try clear hk); (try clear hi); (try clear ho0); obtain ⟨Ao18, co18, eo18⟩ := Kd.R_slice HO120.out; subst eo18)));(go_ret);(exact ⟨zq25, zq47⟩)
     ·rw [if_neg c16] at H
      (have c16b0 : ((t118.length : Int) == 0) = false := beq_eq_false_iff_ne.mpr c16);(have c16b1 : ((t118.length : Int) != 0) = true := bne_iff_ne.mpr c16);(have c16b2 : ¬ (t118 = []) := fun h_ => c16 (by rw [h_]; rfl));(obtain rfl := Option.some.inj H);(have p14 : 0 ≤ (0 : Int) := (by omega));(have q14 : 0 < a1.size := (by have : (0 : Int) < (a1.size : Int) := of_decide_eq_true zq21; omega));(have hx14 : ∀ h : 0 < a1.size, ((a1[0]'h).toNat : Int) = bt a1 0 := bt_at a1 0);clear p14;(have qi14 : (0 < (a1.size : Int)) = True := eq_true (of_decide_eq_true zq21));(replace q14 := eq_true q14);(go_wp2_with (first | ((with_reducible refine gate_callee (f := 43) rfl ?_); refine goesL_ (some 22) rfl rfl Tryd.func43 (by kernel_rfl) rfl #[.slice A0 l0.length c0, .int .u8 (bt a1 0)] rfl zq0 ?_; (with_reducible refine (impl_cellsWith.calls kj3 _ _ l0 (bt a1 0) t118 _ ?side1 ?side2 A15.out).mono ?_); (case side1 => exact zq53); (case side2 => exact HC0.out); rintro e w19 ⟨v119, rfl, ho0, hb⟩; refine ⟨_, rfl, ?_⟩; have n0_ := Aside0.mk (Kd.R_lower ho0 (below_size zq47)); have n1_ := Aside0.mk (below_step zq47 hb); clear HB; have HO120 := n0_; have HB := n1_; clear n0_ n1_; (try clear hb); (try clear hb2); (try clear hk); (try clear hi); (try clear ho0); obtain ⟨Ao20, co20, eo20⟩ := Kd.R_slice HO120.out; subst eo20)));(go_ret);(exact ⟨zq25, zq47⟩)
    ·rw [if_neg c13] at H
     exact absurd H (by simp)
   ·rw [if_neg c12] at H
    (have c12b0 : (x7_3 == 0) = false := beq_eq_false_iff_ne.mpr c12);(have c12b1 : (x7_3 != 0) = true := bne_iff_ne.mpr c12);(obtain rfl := Option.some.inj H);(go_wp2);(go_ret);(exact ⟨zq25, zq47⟩)

end Go.Proofs.YtdkmngghknohgaaDoor.PFnGrids
