-- Made by a program of this session (gprint.py) out of the kit's print of the translation and texts of my own. SLIM
import Derived.Test.YtalmeecdjhelkaaDoorPFnDatesx0
namespace Go.Proofs.YtalmeecdjhelkaaDoor.PFnDates
open Go.RowKit Go.Proofs.YtalmeecdjhelkaaDoorW.PrintWords Go.Proofs.YtalmeecdjhelkaaDoorW.PrintLast Go.Proofs.YtalmeecdjhelkaaDoorW.PrintMore
set_option maxHeartbeats 64000000
set_option maxRecDepth 1000000
attribute [local go_sem] max2_int min2_int max_two min_two max_three min_three max_four min_four   -- for this text's walks alone
set_option linter.unusedVariables false
set_option linter.unusedSimpArgs false

/-! ### strings_Trim: function 130 -/
-- given by hand
def layTrim_ren : Go.Shelf.Ren := ⟨(fun | 160 => 130 | 232 => 137 | 231 => 136 | 227 => 138 | 234 => 140 | 233 => 139 | 236 => 142 | 235 => 141 | 228 => 143 | 271 => 146 | 151 => 145 | 197 => 144 | 120 => 149 | 152 => 148 | 260 => 147 | 137 => 150 | 119 => 151 | 224 => 152 | 225 => 153 | 217 => 154 | 266 => 155 | n => n), (fun | 9 => 9 | 4 => 4 | 3 => 3 | 5 => 5 | 117 => 148 | 116 => 147 | 0 => 0 | 124 => 151 | 21 => 21 | 105 => 152 | 46 => 144 | 119 => 156 | 139 => 159 | 138 => 158 | n => n), (fun | 3 => 0 | 4 => 1 | n => n)⟩
theorem layTrim : Go.Proofs.Lays.n160 Tryd.prog layTrim_ren := { mixed := by kernel_rfl, f119 := Tryd.func151.trans (congrArg some (by kernel_rfl)), f120 := Tryd.func149.trans (congrArg some (by kernel_rfl)), f137 := Tryd.func150.trans (congrArg some (by kernel_rfl)), f151 := Tryd.func145.trans (congrArg some (by kernel_rfl)), f152 := Tryd.func148.trans (congrArg some (by kernel_rfl)), f160 := Tryd.func130.trans (congrArg some (by kernel_rfl)), f197 := Tryd.func144.trans (congrArg some (by kernel_rfl)), f217 := Tryd.func154.trans (congrArg some (by kernel_rfl)), f224 := Tryd.func152.trans (congrArg some (by kernel_rfl)), f225 := Tryd.func153.trans (congrArg some (by kernel_rfl)), f227 := Tryd.func138.trans (congrArg some (by kernel_rfl)), f228 := Tryd.func143.trans (congrArg some (by kernel_rfl)), f231 := Tryd.func136.trans (congrArg some (by kernel_rfl)), f232 := Tryd.func137.trans (congrArg some (by kernel_rfl)), f233 := Tryd.func139.trans (congrArg some (by kernel_rfl)), f234 := Tryd.func140.trans (congrArg some (by kernel_rfl)), f235 := Tryd.func141.trans (congrArg some (by kernel_rfl)), f236 := Tryd.func142.trans (congrArg some (by kernel_rfl)), f260 := Tryd.func147.trans (congrArg some (by kernel_rfl)), f266 := Tryd.func155.trans (congrArg some (by kernel_rfl)), f271 := Tryd.func146.trans (congrArg some (by kernel_rfl)), t0 := Tryd.underlying0, a0 := Tryd.isAgg0, z0 := Tryd.sizeOf0, v0 := Tryd.zeroValue0, t3 := Tryd.underlying3, a3 := Tryd.isAgg3, z3 := Tryd.sizeOf3, v3 := Tryd.zeroValue3, t4 := Tryd.underlying4, a4 := Tryd.isAgg4, z4 := Tryd.sizeOf4, v4 := Tryd.zeroValue4, t5 := Tryd.underlying5, a5 := Tryd.isAgg5, z5 := Tryd.sizeOf5, v5 := Tryd.zeroValue5, t9 := Tryd.underlying9, a9 := Tryd.isAgg9, z9 := Tryd.sizeOf9, v9 := Tryd.zeroValue9, t21 := Tryd.underlying21, a21 := Tryd.isAgg21, z21 := Tryd.sizeOf21, v21 := Tryd.zeroValue21, t46 := Tryd.underlying144, a46 := Tryd.isAgg144, z46 := Tryd.sizeOf144, v46 := Tryd.zeroValue144, t105 := Tryd.underlying152, a105 := Tryd.isAgg152, z105 := Tryd.sizeOf152, v105 := Tryd.zeroValue152, t116 := Tryd.underlying147, a116 := Tryd.isAgg147, z116 := Tryd.sizeOf147, t117 := Tryd.underlying148, a117 := Tryd.isAgg148, z117 := Tryd.sizeOf148, v117 := Tryd.zeroValue148, t119 := Tryd.underlying156, a119 := Tryd.isAgg156, z119 := Tryd.sizeOf156, t124 := Tryd.underlying151, a124 := Tryd.isAgg151, z124 := Tryd.sizeOf151, v124 := Tryd.zeroValue151, t138 := Tryd.underlying158, a138 := Tryd.isAgg158, z138 := Tryd.sizeOf158, v138 := Tryd.zeroValue158, t139 := Tryd.underlying159, a139 := Tryd.isAgg159, z139 := Tryd.sizeOf159, v139 := Tryd.zeroValue159, g3 := by kernel_rfl, g4 := by kernel_rfl }

def strings_Trim.f (a0 a1 : ByteArray) : Option ByteArray := if a0.size ≤ 9223372036854775807 ∧ a1.size < 4294967281 ∧ a1.data.toList.all (fun b => decide (b.toNat < 128)) = true then some ⟨(Go.Lib.trimS a0.data.toList a1.data.toList).toArray⟩ else none
theorem strings_Trim.calls (a0 : ByteArray) (a1 : ByteArray) (r : ByteArray) (w : World) (h : strings_Trim.f a0 a1 = some r) :
  Calls Tryd.prog 130 #[.string a0, .string a1] w fun e w' => e = .returned (.string r) ∧ Below w.heap.size w w' := by
 unfold strings_Trim.f at h
 split at h
 ·rename_i hc
  (obtain rfl := Option.some.inj h);(exact Go.Proofs.Any.strings_Trim_laid layTrim (by kernel_rfl) a0 a1 w hc.1 hc.2.1 (Go.Proofs.ascii_of_all hc.2.2))
 ·cases h


/-! ### impl_IsName: function 103 -/
def impl_IsName.f (a0 : ByteArray) : Option (Bool) := if (a0.size : Int) < 1 then (some false) else (if (a0.size : Int) > 12 then (some false) else (if 0 < (a0.size : Int) then (if (bt a0 0) < 97 then (some false) else (if (bt a0 0) > 122 then (some false) else ((strings_Trim.f a0 (⟨#[97, 98, 99, 100, 101, 102, 103, 104, 105, 106, 107, 108, 109, 110, 111, 112, 113, 114, 115, 116, 117, 118, 119, 120, 121, 122, 48, 49, 50, 51, 52, 53, 54, 55, 56, 57, 45]⟩ : ByteArray)).bind fun t141 => (some (t141.toList == ([] : List UInt8)))))) else (none)))
theorem impl_IsName.calls (a0 : ByteArray) (r : Bool) (w : World) (h : impl_IsName.f a0 = some r) :
  Calls Tryd.prog 103 #[.string a0] w fun e w' => e = .returned (.bool r) ∧ Below w.heap.size w w' := by
 (have HB := Aside0.mk (Below.refl w.heap.size w));(have H : (if (a0.size : Int) < 1 then (some false) else (if (a0.size : Int) > 12 then (some false) else (if 0 < (a0.size : Int) then (if (bt a0 0) < 97 then (some false) else (if (bt a0 0) > 122 then (some false) else ((strings_Trim.f a0 (⟨#[97, 98, 99, 100, 101, 102, 103, 104, 105, 106, 107, 108, 109, 110, 111, 112, 113, 114, 115, 116, 117, 118, 119, 120, 121, 122, 48, 49, 50, 51, 52, 53, 54, 55, 56, 57, 45]⟩ : ByteArray)).bind fun t141 => (some (t141.toList == ([] : List UInt8)))))) else (none)))) = some r := h);clear h;(by_cases c2 : (a0.size : Int) < 1)
 ·rw [if_pos c2] at H
  (have c2b0 : decide ((a0.size : Int) < 1) = true := decide_eq_true c2);(have c2b1 : decide (a0.size < 1) = true := decide_eq_true (by omega));clear c2;(obtain rfl := Option.some.inj H)
  go_enter Tryd.func103, Tryd.ntmps103
  (go_wp2);(go_ret);(exact ⟨zq27, zq45⟩)
 ·rw [if_neg c2] at H
  (have c2b0 : decide ((a0.size : Int) < 1) = false := decide_eq_false c2);(have c2b1 : decide (a0.size < 1) = false := decide_eq_false (by omega));clear c2;(by_cases c3 : (a0.size : Int) > 12)
  ·rw [if_pos c3] at H
   (have c3b0 : decide (12 < (a0.size : Int)) = true := decide_eq_true c3);(have c3b1 : decide (12 < a0.size) = true := decide_eq_true (by omega));clear c3;(obtain rfl := Option.some.inj H)
   go_enter Tryd.func103, Tryd.ntmps103
   (go_wp2);(go_ret);(exact ⟨zq27, zq45⟩)
  ·rw [if_neg c3] at H
   (have c3b0 : decide (12 < (a0.size : Int)) = false := decide_eq_false c3);(have c3b1 : decide (12 < a0.size) = false := decide_eq_false (by omega));clear c3;(by_cases c4 : 0 < (a0.size : Int))
   ·rw [if_pos c4] at H
    (have c4b0 : decide (0 < (a0.size : Int)) = true := decide_eq_true c4);(have c4b1 : decide (0 < a0.size) = true := decide_eq_true (by omega));clear c4;(by_cases c6 : (bt a0 0) < 97)
    ·rw [if_pos c6] at H
     (have c6b0 : decide ((bt a0 0) < 97) = true := decide_eq_true c6);clear c6;(obtain rfl := Option.some.inj H);(have p5 : 0 ≤ (0 : Int) := (by omega));(have q5 : 0 < a0.size := (by have : (0 : Int) < (a0.size : Int) := of_decide_eq_true zq22; omega));(have hx5 : ∀ h : 0 < a0.size, ((a0[0]'h).toNat : Int) = bt a0 0 := bt_at a0 0);clear p5;(have qi5 : (0 < (a0.size : Int)) = True := eq_true (of_decide_eq_true zq22));(replace q5 := eq_true q5)
     go_enter Tryd.func103, Tryd.ntmps103
     (go_wp2);(go_ret);(exact ⟨zq27, zq45⟩)
    ·rw [if_neg c6] at H
     (have c6b0 : decide ((bt a0 0) < 97) = false := decide_eq_false c6);clear c6;(by_cases c8 : (bt a0 0) > 122)
     ·rw [if_pos c8] at H
      (have c8b0 : decide (122 < (bt a0 0)) = true := decide_eq_true c8);clear c8;(obtain rfl := Option.some.inj H);(have p5 : 0 ≤ (0 : Int) := (by omega));(have q5 : 0 < a0.size := (by have : (0 : Int) < (a0.size : Int) := of_decide_eq_true zq22; omega));(have hx5 : ∀ h : 0 < a0.size, ((a0[0]'h).toNat : Int) = bt a0 0 := bt_at a0 0);clear p5;(have qi5 : (0 < (a0.size : Int)) = True := eq_true (of_decide_eq_true zq22));(replace q5 := eq_true q5);(have p7 : 0 ≤ (0 : Int) := (by omega));(have q7 : 0 < a0.size := (by have : (0 : Int) < (a0.size : Int) := of_decide_eq_true zq22; omega));(have hx7 : ∀ h : 0 < a0.size, ((a0[0]'h).toNat : Int) = bt a0 0 := bt_at a0 0);clear p7;(have qi7 : (0 < (a0.size : Int)) = True := eq_true (of_decide_eq_true zq22));(replace q7 := eq_true q7)
      go_enter Tryd.func103, Tryd.ntmps103
      (go_wp2);(go_ret);(exact ⟨zq27, zq45⟩)
     ·rw [if_neg c8] at H
      (have c8b0 : decide (122 < (bt a0 0)) = false := decide_eq_false c8);clear c8;(replace H := Option.bind_eq_some_iff.mp H);(obtain ⟨t141, A90, H⟩ := H);(replace H : (some (t141.toList == ([] : List UInt8))) = some r := H);(have A9 := Aside0.mk A90);clear A90;(obtain rfl := Option.some.inj H);(have p5 : 0 ≤ (0 : Int) := (by omega));(have q5 : 0 < a0.size := (by have : (0 : Int) < (a0.size : Int) := of_decide_eq_true zq22; omega));(have hx5 : ∀ h : 0 < a0.size, ((a0[0]'h).toNat : Int) = bt a0 0 := bt_at a0 0);clear p5;(have qi5 : (0 < (a0.size : Int)) = True := eq_true (of_decide_eq_true zq22));(replace q5 := eq_true q5);(have p7 : 0 ≤ (0 : Int) := (by omega));(have q7 : 0 < a0.size := (by have : (0 : Int) < (a0.size : Int) := of_decide_eq_true zq22; omega));(have hx7 : ∀ h : 0 < a0.size, ((a0[0]'h).toNat : Int) = bt a0 0 := bt_at a0 0);clear p7;(have qi7 : (0 < (a0.size : Int)) = True := eq_true (of_decide_eq_true zq22));(replace q7 := eq_true q7)
      go_enter Tryd.func103, Tryd.ntmps103
      (go_wp2_with (first | ((with_reducible refine gate_callee (f := 130) rfl ?_); refine goesL_ (some 22) rfl rfl Tryd.func130 (by kernel_rfl) rfl #[.string a0, .string (⟨#[97, 98, 99, 100, 101, 102, 103, 104, 105, 106, 107, 108, 109, 110, 111, 112, 113, 114, 115, 116, 117, 118, 119, 120, 121, 122, 48, 49, 50, 51, 52, 53, 54, 55, 56, 57, 45]⟩ : ByteArray)] rfl zq0 ?_; (with_reducible refine (strings_Trim.calls a0 (⟨#[97, 98, 99, 100, 101, 102, 103, 104, 105, 106, 107, 108, 109, 110, 111, 112, 113, 114, 115, 116, 117, 118, 119, 120, 121, 122, 48, 49, 50, 51, 52, 53, 54, 55, 56, 57, 45]⟩ : ByteArray) t141 _ A9.out).mono ?_); rintro e w10 ⟨rfl, hb⟩; refine ⟨_, rfl, ?_⟩; have n0_ := Aside0.mk (below_step zq45 hb); clear HB; have HB := n0_; clear n0_; (try clear hb); (try clear hb2); (try clear hk); (try clear hi))));(go_ret);(exact ⟨zq27, zq45⟩)
   ·rw [if_neg c4] at H
    exact absurd H (by simp)

/-! ### impl_within: function 104 -/
def impl_within.f (a0 : Int) (a1 : Int) (a2 : Int) : Option (Bool) := if a0 ≥ a1 then (some (decide (a0 ≤ a2))) else (some false)
theorem impl_within.calls (a0 : Int) (a1 : Int) (a2 : Int) (r : Bool) (w : World) (h : impl_within.f a0 a1 a2 = some r) :
  Calls Tryd.prog 104 #[.int .i64 a0, .int .i64 a1, .int .i64 a2] w fun e w' => e = .returned (.bool r) ∧ Drawn0 w w' := by
 (have H : (if a0 ≥ a1 then (some (decide (a0 ≤ a2))) else (some false)) = some r := h);clear h;(by_cases c4 : a0 ≥ a1)
 ·rw [if_pos c4] at H
  (have c4b0 : decide (a1 ≤ a0) = true := decide_eq_true c4);clear c4;(obtain rfl := Option.some.inj H)
  go_enter Tryd.func104, Tryd.ntmps104
  (go_wp2);(go_ret);(exact ⟨zq28, zq73⟩)
 ·rw [if_neg c4] at H
  (have c4b0 : decide (a1 ≤ a0) = false := decide_eq_false c4);clear c4;(obtain rfl := Option.some.inj H)
  go_enter Tryd.func104, Tryd.ntmps104
  (go_wp2);(go_ret);(exact ⟨zq28, zq73⟩)

end Go.Proofs.YtalmeecdjhelkaaDoor.PFnDates
