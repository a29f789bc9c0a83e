-- Made by a program of this session (gprint.py) out of the kit's print of the translation and texts of my own. SLIM
import Derived.Test.YtdkmngghknohgaaDoorPFnGridsx0
import Derived.Test.YtdkmngghknohgaaDoorPFnGridsx1
import Derived.Test.YtdkmngghknohgaaDoorPFnGridsx2
import Derived.Test.YtdkmngghknohgaaDoorPFnGridsx5
import Derived.Test.YtdkmngghknohgaaDoorPFnGridsx6
namespace Go.Proofs.YtdkmngghknohgaaDoor.PFnGrids
open Go.RowKit Go.Proofs.YtdkmngghknohgaaDoorW.PrintWords Go.Proofs.YtdkmngghknohgaaDoorW.PrintLast Go.Proofs.YtdkmngghknohgaaDoorW.PrintMore
set_option maxHeartbeats 64000000
set_option maxRecDepth 1000000
attribute [local go_sem] max2_int min2_int max_two min_two max_three min_three max_four min_four   -- for this text's walks alone
set_option linter.unusedVariables false
set_option linter.unusedSimpArgs false

/-! ### spec_l12Lands: function 55 -/
def spec_l12Lands.l0 : Nat → List ByteArray → ByteArray → Int → Option (ByteArray)
 | 0, _, _, _ => none
 | k + 1, x0, x3, x4 => if x4 ≤ 122 then ((spec_l12Count.f k x0 x4).bind fun t297 => (if t297 > 0 then ((some (([x4] : List Int) : List Int)).bind fun y298 => (if x3.size + (strOfNums y298).size ≤ 9223372036854775807 then (spec_l12Lands.l0 k x0 (x3 ++ (strOfNums y298)) ((x4 + 1) % 256)) else (none))) else (spec_l12Lands.l0 k x0 x3 ((x4 + 1) % 256)))) else (some x3)
def spec_l12Lands.f (k : Nat) (l0 : List ByteArray) : Option (ByteArray) := spec_l12Lands.l0 k l0 (⟨#[]⟩ : ByteArray) 97
theorem spec_l12Lands.mono_l : ∀ k, (∀ y0 y1 y2, LeO (spec_l12Lands.l0 k y0 y1 y2) (spec_l12Lands.l0 (k + 1) y0 y1 y2))
 | 0 => fun _ _ _ r h => by simp [spec_l12Lands.l0] at h
 | k + 1 => by
  have ih0 := spec_l12Lands.mono_l k
  ·intro y0 y1 y2
   unfold spec_l12Lands.l0
   repeat' first | with_reducible (first | exact ih0 _ _ _ | exact spec_l12Count.mono _ _ _ | exact LeO.refl _ | exact LeO.none _ | refine LeO.ite ?_ ?_ | refine LeO.bind ?_ (fun _ => ?_)) | exact ih0 _ _ _ | exact spec_l12Count.mono _ _ _ | exact LeO.none _ | refine LeO.ite ?_ ?_ | refine LeO.bind ?_ (fun _ => ?_)
theorem spec_l12Lands.mono : ∀ a0 k, LeO (spec_l12Lands.f k a0) (spec_l12Lands.f (k + 1) a0) := by
 intro a0 k;(have ih0 := spec_l12Lands.mono_l k);(unfold spec_l12Lands.f)
 repeat' first | with_reducible (first | exact ih0 _ _ _ | exact spec_l12Count.mono _ _ _ | exact LeO.refl _ | exact LeO.none _ | refine LeO.ite ?_ ?_ | refine LeO.bind ?_ (fun _ => ?_)) | exact ih0 _ _ _ | exact spec_l12Count.mono _ _ _ | exact LeO.none _ | refine LeO.ite ?_ ?_ | refine LeO.bind ?_ (fun _ => ?_)
theorem spec_l12Lands.calls (k : Nat) (A0 : Option Addr) (c0 : Nat) (l0 : List ByteArray) (r : ByteArray) (w : World) (hr0 : Kd.C Kd.string w A0 l0.length l0) (hc0 : l0.length ≤ c0) (h : spec_l12Lands.f k l0 = some r) :
  Calls Tryd.prog 55 #[.slice A0 l0.length c0] w fun e w' => e = .returned (.string r) ∧ Below w.heap.size w w' := by
 (have HR0 := Aside0.mk hr0);(have HC0 := Aside0.mk hc0);clear hr0 hc0;(have HB := Aside0.mk (Below.refl w.heap.size w));(have H : (spec_l12Lands.l0 k l0 (⟨#[]⟩ : ByteArray) 97) = some r := h);clear h;(have H' := Aside0.mk H);clear H
 go_enter Tryd.func55, Tryd.ntmps55
 go_wp2
 go_loopg [3, 4] k (fun kq v3 v4 w' => ∃ (x3_1 : ByteArray) (x4_1 : Int), v3 = .string x3_1 ∧ v4 = .int .u8 x4_1 ∧ Aside0 (spec_l12Lands.l0 kq l0 x3_1 x4_1 = some r) ∧ Aside0 (kq ≤ k) ∧ Aside0 (Below w.heap.size w w'))
 case atStart => exact ⟨((⟨#[]⟩ : ByteArray)), (97), zq26, zq26, H', ⟨Nat.le_refl _⟩, ⟨zq47⟩⟩
 case round =>
  clear H';(obtain ⟨x3_1, x4_1, rfl, rfl, HA, HK1, HB⟩ := hrel)
  cases gk with
  | zero => exact absurd HA.out (by simp [spec_l12Lands.l0])
  | succ k1 =>
   (have H := HA.out);clear HA;(simp only [spec_l12Lands.l0] at H);(by_cases c2 : x4_1 ≤ 122)
   ·rw [if_pos c2] at H
    (have c2b0 : decide (x4_1 ≤ 122) = true := decide_eq_true c2);clear c2;(replace H := Option.bind_eq_some_iff.mp H);(obtain ⟨t297, A30, H⟩ := H);(replace H : (if t297 > 0 then ((some (([x4_1] : List Int) : List Int)).bind fun y298 => (if x3_1.size + (strOfNums y298).size ≤ 9223372036854775807 then (spec_l12Lands.l0 k1 l0 (x3_1 ++ (strOfNums y298)) ((x4_1 + 1) % 256)) else (none))) else (spec_l12Lands.l0 k1 l0 x3_1 ((x4_1 + 1) % 256))) = some r := H);(have A3 := Aside0.mk A30);clear A30;(by_cases c4 : t297 > 0)
    ·rw [if_pos c4] at H
     (have c4b0 : decide (0 < t297) = true := decide_eq_true c4);clear c4;(obtain ⟨y298, hy_⟩ : ∃ y_ : List Int, y_ = (([x4_1] : List Int)) := ⟨_, rfl⟩);(replace H : (if x3_1.size + (strOfNums y298).size ≤ 9223372036854775807 then (spec_l12Lands.l0 k1 l0 (x3_1 ++ (strOfNums y298)) ((x4_1 + 1) % 256)) else (none)) = some r := zq20);(have Ny298 := Aside0.mk hy_);clear hy_;(by_cases c5 : x3_1.size + (strOfNums y298).size ≤ 9223372036854775807)
     ·rw [if_pos c5] at H
      (have c5b0 := eq_true c5);(have c5b1 : decide (x3_1.size + (strOfNums y298).size ≤ 9223372036854775807) = true := decide_eq_true c5);(try have c5b2 : (9223372036854775807 < x3_1.size + (strOfNums y298).size) = False := eq_false (Nat.not_lt.2 c5));(have H' := Aside0.mk H);clear H;(go_wp2_with (first | ((with_reducible refine gate_callee (f := 44) rfl ?_); refine goesL_ (some 11) rfl rfl Tryd.func44 (by kernel_rfl) rfl #[.slice A0 l0.length c0, .int .u8 x4_1] rfl zq0 ?_; (with_reducible refine (spec_l12Count.calls k1 _ _ l0 x4_1 t297 _ ?side1 ?side2 A3.out).mono ?_); (case side1 => exact zq53); (case side2 => exact HC0.out); rintro e w' ⟨rfl, ⟨nd, rfl⟩⟩; refine ⟨_, rfl, ?_⟩) | ((with_reducible refine gate_dst (N := 15) rfl ?_); refine Kd.R_lit (Kd.int .u8) _ 5 ?hg (N := 15) ?hd (xs := ([x4_1] : List Int)) (inner := [.int .u8 x4_1]) (ok := fun _ => True) (okp := fun _ => True) ?hr ?hp (fun _ hk => hk) trivial (Below.refl _ _) (Nat.le_refl _) (by simp) ?_; (case hd => rfl); (case hg => rfl); (case hr => first | (go_simp; done) | (go_simp; rfl)); (case hp => exact (Reps.one (show Kd.M (Kd.int .u8) _ _ _ x4_1 [.int .u8 x4_1] from rfl) (Reps.none _ _))); intro v299 w6 ho7 hb hg_ hnew_; clear hg_ hnew_; (first | rw [← Ny298.out] at ho7 | (simp only [Int.reduceToNat] at ho7; rw [← Ny298.out] at ho7)); have n0_ := Aside0.mk (Kd.R_lower ho7 (below_size zq47)); have n1_ := Aside0.mk (below_step zq47 hb); clear HB; have HO300 := n0_; have HB := n1_; clear n0_ n1_; clear hb ho7; have hcv8 := own_string (P := Tryd.prog) Tryd.underlying22 Tryd.underlying5 Tryd.underlying9 (Kd.own_of_R HO300.out))));(go_roundg k1)
      case measure => have := HK1.out; omega
      case rel => exact ⟨(x3_1 ++ (strOfNums y298)), ((x4_1 + 1) % 256), zq26, zq26, H', ⟨zq40⟩, ⟨zq47⟩⟩
     ·rw [if_neg c5] at H
      exact absurd H (by simp)
    ·rw [if_neg c4] at H
     (have c4b0 : decide (0 < t297) = false := decide_eq_false c4);clear c4;(have H' := Aside0.mk H);clear H;(go_wp2_with (first | ((with_reducible refine gate_callee (f := 44) rfl ?_); refine goesL_ (some 11) rfl rfl Tryd.func44 (by kernel_rfl) rfl #[.slice A0 l0.length c0, .int .u8 x4_1] rfl zq0 ?_; (with_reducible refine (spec_l12Count.calls k1 _ _ l0 x4_1 t297 _ ?side1 ?side2 A3.out).mono ?_); (case side1 => exact zq53); (case side2 => exact HC0.out); rintro e w' ⟨rfl, ⟨nd, rfl⟩⟩; refine ⟨_, rfl, ?_⟩)));(go_roundg k1)
     case measure => have := HK1.out; omega
     case rel => exact ⟨(x3_1), ((x4_1 + 1) % 256), zq26, zq26, H', ⟨zq40⟩, ⟨zq47⟩⟩
   ·rw [if_neg c2] at H
    (have c2b0 : decide (x4_1 ≤ 122) = false := decide_eq_false c2);clear c2;(obtain rfl := Option.some.inj H);(go_wp2);(go_ret);(exact ⟨zq25, zq47⟩)

/-! ### spec_LandsOf: function 21 -/
def spec_LandsOf.f (k : Nat) (l0 : List ByteArray) : Option (ByteArray × Int) := (spec_l12Ok.f k l0).bind fun t301 => (if t301 = true then ((spec_l12Lands.f k l0).bind fun t302 => (some (t302, 0))) else (some ((⟨#[]⟩ : ByteArray), 1)))
theorem spec_LandsOf.mono : ∀ a0 k, LeO (spec_LandsOf.f k a0) (spec_LandsOf.f (k + 1) a0) := by
 intro a0 k;(unfold spec_LandsOf.f)
 repeat' first | with_reducible (first | exact spec_l12Lands.mono _ _ | exact spec_l12Ok.mono _ _ | exact LeO.refl _ | exact LeO.none _ | refine LeO.ite ?_ ?_ | refine LeO.bind ?_ (fun _ => ?_)) | exact spec_l12Lands.mono _ _ | exact spec_l12Ok.mono _ _ | exact LeO.none _ | refine LeO.ite ?_ ?_ | refine LeO.bind ?_ (fun _ => ?_)
theorem spec_LandsOf.calls (k : Nat) (A0 : Option Addr) (c0 : Nat) (l0 : List ByteArray) (r1 : ByteArray) (r2 : Int) (w : World) (hr0 : Kd.C Kd.string w A0 l0.length l0) (hc0 : l0.length ≤ c0) (h : spec_LandsOf.f k l0 = some (r1, r2)) :
  Calls Tryd.prog 21 #[.slice A0 l0.length c0] w fun e w' => e = .returned (.tuple #[.string r1, .int .i64 r2]) ∧ Below w.heap.size w w' := by
 (have HR0 := Aside0.mk hr0);(have HC0 := Aside0.mk hc0);clear hr0 hc0;(have HB := Aside0.mk (Below.refl w.heap.size w));(have H : ((spec_l12Ok.f k l0).bind fun t301 => (if t301 = true then ((spec_l12Lands.f k l0).bind fun t302 => (some (t302, 0))) else (some ((⟨#[]⟩ : ByteArray), 1)))) = some (r1, r2) := h);clear h;(replace H := Option.bind_eq_some_iff.mp H);(obtain ⟨t301, A20, H⟩ := H);(replace H : (if t301 = true then ((spec_l12Lands.f k l0).bind fun t302 => (some (t302, 0))) else (some ((⟨#[]⟩ : ByteArray), 1))) = some (r1, r2) := H);(have A2 := Aside0.mk A20);clear A20;(by_cases c3 : t301 = true)
 ·subst c3
  (have H1 : ((spec_l12Lands.f k l0).bind fun t302 => (some (t302, 0))) = some (r1, r2) := zq62);clear H;(have H := H1);clear H1;(replace H := Option.bind_eq_some_iff.mp H);(obtain ⟨t302, A40, H⟩ := H);(replace H : (some (t302, 0)) = some (r1, r2) := H);(have A4 := Aside0.mk A40);clear A40;(simp only [Option.some.injEq, Prod.mk.injEq] at H);(obtain ⟨rfl, rfl⟩ := H)
  go_enter Tryd.func21, Tryd.ntmps21
  (go_wp2_with (first | ((with_reducible refine gate_callee (f := 52) rfl ?_); refine goesL_ (some 5) rfl rfl Tryd.func52 (by kernel_rfl) rfl #[.slice A0 l0.length c0] rfl zq0 ?_; (with_reducible refine (spec_l12Ok.calls k _ _ l0 true _ ?side1 ?side2 A2.out).mono ?_); (case side1 => exact zq55); (case side2 => exact HC0.out); rintro e w' ⟨rfl, ⟨nd, rfl⟩⟩; refine ⟨_, rfl, ?_⟩) | ((with_reducible refine gate_callee (f := 55) rfl ?_); refine goesL_ (some 8) rfl rfl Tryd.func55 (by kernel_rfl) rfl #[.slice A0 l0.length c0] rfl zq0 ?_; (with_reducible refine (spec_l12Lands.calls k _ _ l0 t302 _ ?side1 ?side2 A4.out).mono ?_); (case side1 => exact zq55); (case side2 => exact HC0.out); rintro e w5 ⟨rfl, hb⟩; refine ⟨_, rfl, ?_⟩; have n0_ := Aside0.mk (below_step zq47 hb); clear HB; have HB := n0_; clear n0_; (try clear hb); (try clear hb2); (try clear hk); (try clear hi))));(go_ret2);(exact ⟨zq25, zq47⟩)
 ·replace c3 := Bool.eq_false_iff.mpr c3
  subst c3;(have H1 : (some ((⟨#[]⟩ : ByteArray), 1)) = some (r1, r2) := zq61);clear H;(have H := H1);clear H1;(simp only [Option.some.injEq, Prod.mk.injEq] at H);(obtain ⟨rfl, rfl⟩ := H)
  go_enter Tryd.func21, Tryd.ntmps21
  (go_wp2_with (first | ((with_reducible refine gate_callee (f := 52) rfl ?_); refine goesL_ (some 5) rfl rfl Tryd.func52 (by kernel_rfl) rfl #[.slice A0 l0.length c0] rfl zq0 ?_; (with_reducible refine (spec_l12Ok.calls k _ _ l0 false _ ?side1 ?side2 A2.out).mono ?_); (case side1 => exact zq55); (case side2 => exact HC0.out); rintro e w' ⟨rfl, ⟨nd, rfl⟩⟩; refine ⟨_, rfl, ?_⟩)));(go_ret2);(exact ⟨zq25, zq47⟩)

/-! ### impl_GridBorders: function 22 -/
-- given by hand
def laySortS_ren : Go.Shelf.Ren := ⟨(fun | 190 => 57 | 125 => 68 | 258 => 67 | 128 => 91 | 129 => 92 | 302 => 82 | 303 => 83 | 304 => 84 | 305 => 85 | 306 => 86 | 307 => 87 | 308 => 88 | 309 => 89 | 310 => 90 | 333 => 102 | 329 => 103 | 330 => 104 | 334 => 105 | 335 => 106 | 336 => 107 | 344 => 116 | n => n), (fun | 31 => 24 | 9 => 9 | 3 => 3 | 46 => 77 | 0 => 0 | 51 => 107 | 53 => 67 | 4 => 4 | 183 => 99 | 182 => 98 | 131 => 104 | 5 => 5 | 218 => 113 | 222 => 117 | 228 => 128 | 229 => 129 | n => n), (fun n => n)⟩
theorem laySortS : Go.Proofs.Lays.n190 Tryd.prog laySortS_ren := { mixed := by kernel_rfl, f125 := Tryd.func68.trans (congrArg some (by kernel_rfl)), f128 := Tryd.func91.trans (congrArg some (by kernel_rfl)), f129 := Tryd.func92.trans (congrArg some (by kernel_rfl)), f190 := Tryd.func57.trans (congrArg some (by kernel_rfl)), f258 := Tryd.func67.trans (congrArg some (by kernel_rfl)), f302 := Tryd.func82.trans (congrArg some (by kernel_rfl)), f303 := Tryd.func83.trans (congrArg some (by kernel_rfl)), f304 := Tryd.func84.trans (congrArg some (by kernel_rfl)), f305 := Tryd.func85.trans (congrArg some (by kernel_rfl)), f306 := Tryd.func86.trans (congrArg some (by kernel_rfl)), f307 := Tryd.func87.trans (congrArg some (by kernel_rfl)), f308 := Tryd.func88.trans (congrArg some (by kernel_rfl)), f309 := Tryd.func89.trans (congrArg some (by kernel_rfl)), f310 := Tryd.func90.trans (congrArg some (by kernel_rfl)), f329 := Tryd.func103.trans (congrArg some (by kernel_rfl)), f330 := Tryd.func104.trans (congrArg some (by kernel_rfl)), f333 := Tryd.func102.trans (congrArg some (by kernel_rfl)), f334 := Tryd.func105.trans (congrArg some (by kernel_rfl)), f335 := Tryd.func106.trans (congrArg some (by kernel_rfl)), f336 := Tryd.func107.trans (congrArg some (by kernel_rfl)), f344 := Tryd.func116.trans (congrArg some (by kernel_rfl)), t0 := Tryd.underlying0, a0 := Tryd.isAgg0, z0 := Tryd.sizeOf0, v0 := Tryd.zeroValue0, t3 := Tryd.underlying3, a3 := Tryd.isAgg3, z3 := Tryd.sizeOf3, v3 := Tryd.zeroValue3, t4 := Tryd.underlying4, a4 := Tryd.isAgg4, z4 := Tryd.sizeOf4, v4 := Tryd.zeroValue4, t5 := Tryd.underlying5, a5 := Tryd.isAgg5, z5 := Tryd.sizeOf5, v5 := Tryd.zeroValue5, t9 := Tryd.underlying9, a9 := Tryd.isAgg9, z9 := Tryd.sizeOf9, v9 := Tryd.zeroValue9, t31 := Tryd.underlying24, a31 := Tryd.isAgg24, z31 := Tryd.sizeOf24, v31 := Tryd.zeroValue24, t46 := Tryd.underlying77, a46 := Tryd.isAgg77, z46 := Tryd.sizeOf77, v46 := Tryd.zeroValue77, t51 := Tryd.underlying107, a51 := Tryd.isAgg107, z51 := Tryd.sizeOf107, v51 := Tryd.zeroValue107, t53 := Tryd.underlying67, a53 := Tryd.isAgg67, z53 := Tryd.sizeOf67, v53 := Tryd.zeroValue67, t131 := Tryd.underlying104, a131 := Tryd.isAgg104, z131 := Tryd.sizeOf104, v131 := Tryd.zeroValue104, t182 := Tryd.underlying98, a182 := Tryd.isAgg98, z182 := Tryd.sizeOf98, v182 := Tryd.zeroValue98, t183 := Tryd.underlying99, a183 := Tryd.isAgg99, z183 := Tryd.sizeOf99, v183 := Tryd.zeroValue99, t218 := Tryd.underlying113, a218 := Tryd.isAgg113, z218 := Tryd.sizeOf113, v218 := Tryd.zeroValue113, t222 := Tryd.underlying117, a222 := Tryd.isAgg117, z222 := Tryd.sizeOf117, v222 := Tryd.zeroValue117, t228 := Tryd.underlying128, a228 := Tryd.isAgg128, z228 := Tryd.sizeOf128, v228 := Tryd.zeroValue128, t229 := Tryd.underlying129, a229 := Tryd.isAgg129, z229 := Tryd.sizeOf129, v229 := Tryd.zeroValue129 }
def layCompactS_ren : Go.Shelf.Ren := ⟨(fun | 194 => 58 | n => n), (fun | 31 => 24 | 9 => 9 | 3 => 3 | 4 => 4 | 0 => 0 | n => n), (fun n => n)⟩
theorem layCompactS : Go.Proofs.Lays.n194 Tryd.prog layCompactS_ren := { mixed := by kernel_rfl, f194 := Tryd.func58.trans (congrArg some (by kernel_rfl)), t0 := Tryd.underlying0, a0 := Tryd.isAgg0, z0 := Tryd.sizeOf0, v0 := Tryd.zeroValue0, t3 := Tryd.underlying3, a3 := Tryd.isAgg3, z3 := Tryd.sizeOf3, v3 := Tryd.zeroValue3, t4 := Tryd.underlying4, a4 := Tryd.isAgg4, z4 := Tryd.sizeOf4, v4 := Tryd.zeroValue4, t9 := Tryd.underlying9, a9 := Tryd.isAgg9, z9 := Tryd.sizeOf9, v9 := Tryd.zeroValue9, t31 := Tryd.underlying24, a31 := Tryd.isAgg24, z31 := Tryd.sizeOf24, v31 := Tryd.zeroValue24 }
/-! A row of bytes that a conversion has made -/
/-- The numbers of a text. -/
def numsB (s : ByteArray) : List Int := s.data.toList.map fun b => (b.toNat : Int)
theorem numsB_length (s : ByteArray) : (numsB s).length = s.size := by unfold numsB; rw [List.length_map, Array.length_toList]; rfl
/-- A row of bytes at g, with what a conversion marks behind it. -/
def BRow (w : World) (g : Nat) (e : TypeId) (xs : List Int) : Prop := ∃ cur : Array Value, w.heap[g]? = some (.cells cur e (cur.size, cur.size + 1)) ∧ xs.length ≤ cur.size ∧ xs.length ≤ 9223372036854775807 ∧ ∀ j, j < xs.length → cur[j]? = some (.int .u8 (xs.getD j 0))
theorem BRow.new (w : World) (e : TypeId) (s : ByteArray) (h : s.size ≤ 9223372036854775807) : BRow (Go.Lib.bytesWorld w e s) w.heap.size e (numsB s) := by
 refine ⟨_, Go.Lib.bytesWorld_at_new w e s, ?_, ?_, ?_⟩
 ·rw [numsB_length]
  (unfold Go.Lib.bytesCells);(rw [Array.size_append, Array.size_map]);(exact Nat.le_add_right _ _)
 ·rw [numsB_length]; exact h
 ·intro j hj
  (rw [numsB_length] at hj);(have hj' : j < s.data.size := hj);(simp [Go.Lib.bytesCells, Array.getElem?_append, hj', numsB, List.getD]);(rw [if_pos hj, Array.getElem?_eq_getElem hj']);rfl
theorem BRow.at_ {w : World} {g : Nat} {e : TypeId} {xs : List Int} (h : BRow w g e xs) (j : Nat) (hj : j < xs.length) : w.cell? ⟨g, j, none⟩ = some (.int .u8 (xs.getD j 0)) ∧ w.frozen? ⟨g, j, none⟩ = false := by
 (obtain ⟨cur, h1, h2, h4, h3⟩ := h);(refine ⟨?_, ?_⟩)
 ·simp [World.cell?, h1, h3 j hj]
 ·simp only [World.frozen?, h1]
  (have : ¬ cur.size ≤ j := by omega);(simp [this])
theorem BRow.set {w : World} {g : Nat} {e : TypeId} {xs : List Int} (h : BRow w g e xs) (j : Nat) (hj : j < xs.length) (x : Int) : BRow (w.setCell ⟨g, j, none⟩ (.int .u8 x)) g e (xs.set j x) := by
 (obtain ⟨cur, h1, h2, h4, h3⟩ := h);(refine ⟨cur.setIfInBounds j (.int .u8 x), ?_, ?_, ?_, ?_⟩)
 ·simp [World.setCell, Array.getElem?_modify, h1]
 ·simpa using h2
 ·simpa using h4
 ·intro i hi
  (simp only [List.length_set] at hi);(rw [Array.getElem?_setIfInBounds]);(by_cases c : j = i)
  ·subst c
   (have hlt : j < cur.size := by omega);(simp [hlt, hj, List.getD])
  ·simp only [c, if_false]
   (rw [h3 i hi]);(simp [List.getD, List.getElem?_set_ne c])
theorem BRow.C {w : World} {g : Nat} {e : TypeId} {xs : List Int} (h : BRow w g e xs) : (Kd.int .u8).C w (some ⟨g, 0, none⟩) xs.length xs := by
 (refine Kd.C_of_reads (enc := Value.int .u8) (d := (0 : Int)) (h1 := fun _ => rfl) ⟨rfl, h.choose_spec.2.2.1, fun _ => ⟨_, rfl, fun j hj => ?_⟩⟩);(have := (h.at_ j hj).1)
 rcases Nat.eq_zero_or_pos j with rfl | h0
 ·simpa [Addr.add] using this
 ·simpa [Addr.add, show j ≠ 0 by omega] using this


theorem ascS_heap {w : World} {g n : Nat} {cur : Array Value} {e : TypeId} {fr : Nat × Nat} (d : Array (List UInt8)) (hb : w.heap[g]? = some (.cells cur e fr)) :
  (Go.Sort.putRow encStr (Go.Sort.ahead w n) g 0 d).heap[g]? = some (.cells (Go.Sort.putCells encStr 0 d cur) e fr) := by
 simp [Go.Sort.putRow, Go.Sort.mapBlock, Go.Sort.ahead, Array.getElem?_modify, hb, Go.Sort.onCells]
theorem ascS_grown {w : World} {g n : Nat} (d : Array (List UInt8)) : w.grownBy (Go.Sort.putRow encStr (Go.Sort.ahead w n) g 0 d) (some g) := by
 (refine ⟨rfl, rfl, rfl, by simp [Go.Sort.putRow, Go.Sort.mapBlock, Go.Sort.ahead], fun k hk hne => ?_⟩);(have : g ≠ k := fun e => hne (by rw [e]));(simp [Go.Sort.putRow, Go.Sort.mapBlock, Go.Sort.ahead, Array.getElem?_modify, this])
/-- The bytes of texts, and back. -/
def bytesL (l : List ByteArray) : List (List UInt8) := l.map fun s => s.data.toList
def textL (l : List (List UInt8)) : List ByteArray := l.map fun s => ⟨s.toArray⟩
theorem encL (l : List (List UInt8)) : l.map encStr = encs Value.string (textL l) := by simp [encs, textL, encStr]
theorem textL_bytesL (l : List ByteArray) : textL (bytesL l) = l := by
 (unfold textL bytesL);(rw [List.map_map]);(exact List.map_id'' (fun s => rfl) l)
/-- What the row in block g holds behind the sort. -/
def ascSBlk (w : World) (g cap : Nat) (zs : List (List UInt8)) : Prop := ∃ cur : Array Value, w.heap[g]? = some (.cells cur 9 (0, 0)) ∧ zs.length ≤ cap ∧ cap ≤ maxLen ∧ cur.size = cap * 1 ∧ cur.toList.take zs.length = zs.map encStr
theorem ascS_sort (g cap : Nat) (l0 : List ByteArray) (w1 : World) {base : Nat} (hl : l0.length < 8796093022208) (hg : g < w1.heap.size) (hR : Kd.R Kd.string 9 w1 base (fun _ => True) (.slice (some ⟨g, 0, none⟩) l0.length cap) l0) :
  Calls Tryd.prog 57 #[.slice (some ⟨g, 0, none⟩) l0.length cap] w1 fun e w' => e = .returned (.tuple #[]) ∧ Go.Sort.Holds encStr w' g 0 ((bytesL l0).mergeSort fun x y => decide (x ≤ y)).toArray ∧ ascSBlk w' g cap ((bytesL l0).mergeSort fun x y => decide (x ≤ y)) ∧ w1.grownBy w' (some g) := by
 have ho := Kd.own_of_R (enc := Value.string) (h1 := fun _ => rfl) hR
 rcases ho.2 with ⟨h0, _⟩ | ⟨g', cap', cur, hv, hgb, hh, hn, hcap, hsz, ht⟩
 ·cases h0
 cases hv
 (have hbl : (bytesL l0).length = l0.length := by simp [bytesL]);(have ht' : cur.toList.take (bytesL l0).length = (bytesL l0).map encStr := by rw [encL, textL_bytesL, hbl]; simpa using ht);(have hts : ((bytesL l0).mergeSort fun x y => decide (x ≤ y)).length = l0.length := (List.length_mergeSort _).trans hbl);(have hc := Any.slices_Sort_string laySortS g 0 cap (bytesL l0) w1 (Go.holds_of_block hh ht') hg (by omega));(rw [hbl] at hc);(refine hc.mono ?_);(rintro e w' ⟨rfl, n1, os, rfl⟩);(have hb2 := Go.heap_sorted (n := n1) (os := os) ((bytesL l0).mergeSort fun x y => decide (x ≤ y)).toArray hh);(have ht2 := Go.take_putCells cur ((bytesL l0).mergeSort fun x y => decide (x ≤ y)) (by omega));(exact ⟨rfl, Go.holds_of_block hb2 ht2, ⟨_, hb2, by omega, hcap, by simp [Go.Sort.putCells, hsz], ht2⟩, Go.grownBy_sorted _⟩)
theorem ascS_compact (base g cap : Nat) (ts : List (List UInt8)) (w2 : World) (hl : ts.length < 8796093022208) (hgb : base ≤ g) (hH : Go.Sort.Holds encStr w2 g 0 ts.toArray) (hB : ascSBlk w2 g cap ts) :
  Calls Tryd.prog 58 #[.slice (some ⟨g, 0, none⟩) ts.length cap] w2 fun e w' => e = .returned (.slice (some ⟨g, 0, none⟩) (Go.Lib.compact ts).length cap) ∧ Kd.R Kd.string 9 w' base (fun _ => True) (.slice (some ⟨g, 0, none⟩) (Go.Lib.compact ts).length cap) (textL (Go.Lib.compact ts)) ∧ w2.grownBy w' (some g) := by
 (obtain ⟨cur, hh, h1, h2, h3, ht⟩ := hB);(have hcl : (Go.Lib.compact ts).length ≤ ts.length := Go.Lib.compact_length_le ts);(refine (Any.slices_Compact_string layCompactS g 0 cap ts w2 hH (by omega) h1).mono ?_);(rintro e w' ⟨rfl, q, rfl⟩);(have htl : (textL (Go.Lib.compact ts)).length = (Go.Lib.compact ts).length := by simp [textL]);(refine ⟨rfl, Kd.R_of_own (enc := Value.string) (h1 := fun _ => rfl) ⟨by simp [encs, textL], .inr ⟨g, cap, _, by rw [htl], hgb, ascS_heap _ hh, by omega, h2, by simp [Go.Sort.putCells, h3], ?_⟩⟩ (fun _ _ => trivial), ascS_grown _⟩);(have ht2 := Go.take_putCells cur (Go.Lib.compact ts ++ List.replicate (ts.length - (Go.Lib.compact ts).length) []) (by simp; omega));(have ht3 := congrArg (List.take (Go.Lib.compact ts).length) ht2);(rw [List.take_take, Nat.min_eq_left (by simp), List.map_append, List.take_append_of_le_length (by simp), show List.take (Go.Lib.compact ts).length (List.map encStr (Go.Lib.compact ts)) = List.map encStr (Go.Lib.compact ts) from List.take_of_length_le (by simp)] at ht3);(rw [htl, Nat.mul_one, ← encL]);(exact ht3)
/-- The neighbours' letters of one cell: the borders that it has. -/
def gbN (l0 : List ByteArray) (b : Int) : List S61 → List ByteArray → Option (List ByteArray)
 | [], o => some o
 | x :: xs, o => if 0 ≤ x.f0 ∧ x.f0 < (l0.length : Int) ∧ 0 ≤ x.f1 ∧ x.f1 < ((rdOf ByteArray.empty l0 x.f0).size : Int) then (if bt (rdOf ByteArray.empty l0 x.f0) x.f1 > b then (if o.length < 8796093022208 then gbN l0 b xs (o ++ [strOfNums [b, bt (rdOf ByteArray.empty l0 x.f0) x.f1]]) else none) else gbN l0 b xs o) else none
def gbC (l0 : List ByteArray) (b : Int) : List S61 → List ByteArray → Option (List ByteArray)
 | [], o => some o
 | c :: cs, o => (impl_nextTo.f l0 c.f0 c.f1).bind fun ns => (gbN l0 b ns o).bind fun o' => gbC l0 b cs o'
def gbB (k : Nat) (l0 : List ByteArray) : List Int → List ByteArray → Option (List ByteArray)
 | [], o => some o
 | b :: bs, o => (impl_cellsWith.f k l0 b).bind fun cs => (gbC l0 b cs o).bind fun o' => gbB k l0 bs o'
def sortL (o : List ByteArray) : List ByteArray := textL (Go.Lib.compact ((bytesL o).mergeSort fun x y => decide (x ≤ y)))
def impl_GridBorders.f (k : Nat) (l0 : List ByteArray) : Option (List ByteArray × Int) := (impl_ValidGrid.f k l0).bind fun v => if v = true then ((impl_landsOf.f k l0).bind fun ls => (gbB k l0 (numsB ls) []).bind fun o => if ls.size ≤ 9223372036854775807 ∧ o.length < 8796093022208 then some (sortL o, 0) else none) else some ([], 1)
theorem gbB_mono (l0 : List ByteArray) (k : Nat) : ∀ (bs : List Int) (o : List ByteArray), LeO (gbB k l0 bs o) (gbB (k + 1) l0 bs o)
 | [], o => LeO.refl _
 | b :: bs, o => by
  (unfold gbB);(exact LeO.bind (impl_cellsWith.mono _ _ _) (fun cs => LeO.bind (LeO.refl _) (fun o' => gbB_mono l0 k bs o')))
theorem impl_GridBorders.mono : ∀ a0 k, LeO (impl_GridBorders.f k a0) (impl_GridBorders.f (k + 1) a0) := by
 intro a0 k;(unfold impl_GridBorders.f);(refine LeO.bind (impl_ValidGrid.mono _ _) (fun v => LeO.ite ?_ (LeO.refl _)));(exact LeO.bind (impl_landsOf.mono _ _) (fun ls => LeO.bind (gbB_mono _ _ _ _) (fun o => LeO.refl _)))
theorem BRow.below {w w1 : World} {g : Nat} {e : TypeId} {xs : List Int} (h : BRow w g e xs) (hb : Below w.heap.size w w1) : BRow w1 g e xs := by
 (obtain ⟨cur, h1, h2⟩ := h);(exact ⟨cur, (hb.block g (Array.getElem?_eq_some_iff.1 h1).1).trans h1, h2⟩)
theorem BRow.over {α : Type} {d : Kd α} {W w1 : World} {g : Nat} {e e' : TypeId} {xs : List Int} {base : Nat} {ok : Nat → Prop} {v : Value} {ys : List α} (h : BRow W g e xs) (hv : d.R e' W base ok v ys) (ht : e ≠ e') (hg : W.grownBy w1 v.ownBlock) : BRow w1 g e xs := by
 (obtain ⟨cur, h1, h2⟩ := h);(refine ⟨cur, (hg.block g (Array.getElem?_eq_some_iff.1 h1).1 (fun he => ?_)).trans h1, h2⟩);(obtain ⟨cells, hc⟩ := Kd.R_typed hv g he.symm);(rw [h1] at hc)
 injection hc with hc
 injection hc with _ hc
 exact ht hc
theorem wrapS {j n : Nat} (h : j < n) (hn : n ≤ 9223372036854775807) : wrap64 ((j : Int) + 1) = ((j + 1 : Nat) : Int) := by unfold wrap64; omega
theorem BRow.len {w : World} {g : Nat} {e : TypeId} {xs : List Int} (h : BRow w g e xs) : xs.length ≤ 9223372036854775807 := h.choose_spec.2.2.1
theorem impl_GridBorders.calls (k : Nat) (A0 : Option Addr) (c0 : Nat) (l0 : List ByteArray) (r1 : List ByteArray) (r2 : Int) (w : World) (hr0 : Kd.C Kd.string w A0 l0.length l0) (hc0 : l0.length ≤ c0) (h : impl_GridBorders.f k l0 = some (r1, r2)) :
  Calls Tryd.prog 22 #[.slice A0 l0.length c0] w fun e w' => ∃ v0_ : Value, e = .returned (.tuple #[v0_, .int .i64 r2]) ∧ Kd.R Kd.string 9 w' w.heap.size (fun _ => True) v0_ r1 ∧ Below w.heap.size w w' := by
 (unfold impl_GridBorders.f at h);(have h0 := h);clear h;(obtain ⟨v, e1, h⟩ := Option.bind_eq_some_iff.1 h0);clear h0;(have A1 := Aside0.mk e1);clear e1
 cases v with
 | false =>
  (obtain ⟨rfl, rfl⟩ := Prod.mk.inj (Option.some.inj (show some (([] : List ByteArray), (1 : Int)) = some (r1, r2) from h)));clear h
  go_enter Tryd.func22, Tryd.ntmps22
  (go_wp2_with (go_at_call 30; (with_reducible refine (impl_ValidGrid.calls k A0 c0 l0 false _ hr0 hc0 A1.out).mono ?_); rintro e w2 ⟨rfl, hb⟩));(go_ret2);(exact ⟨_, rfl, Kd.R_nil _ _ _ _ _, hb⟩)
 | true =>
  (rw [if_pos rfl] at h);(have h0 := h);clear h;(obtain ⟨ls, e2, h1⟩ := Option.bind_eq_some_iff.1 h0);clear h0;(obtain ⟨o, e3, h⟩ := Option.bind_eq_some_iff.1 h1);clear h1;(by_cases hlim : ls.size ≤ 9223372036854775807 ∧ o.length < 8796093022208)
  ·rw [if_pos hlim] at h
   (obtain ⟨rfl, rfl⟩ := Prod.mk.inj (Option.some.inj h));clear h;(have A2 := Aside0.mk e2);(have A3 := Aside0.mk e3);(have L1 := Aside0.mk hlim);clear e2 e3 hlim;(have HB := Aside0.mk (Below.refl w.heap.size w));(have HR0 := Aside0.mk hr0);(have HC0 := Aside0.mk hc0);clear hr0 hc0
   go_enter Tryd.func22, Tryd.ntmps22
   go_wp2_with (first | (go_at_call 30; (with_reducible refine (impl_ValidGrid.calls k A0 c0 l0 true _ HR0.out HC0.out A1.out).mono ?_); rintro e w2 ⟨rfl, hb⟩; have n1_ := Aside0.mk (below_step HB.out hb); clear HB hb; have HB := n1_; clear n1_) | ((with_reducible refine gate_dst (N := 15) rfl ?_); refine Kd.R_lit Kd.string _ 9 ?hg (N := 15) ?hd (xs := ([] : List ByteArray)) (inner := []) (ok := fun _ => True) (okp := fun _ => True) ?hr ?hp (fun _ hk => hk) trivial (Below.refl _ _) (Nat.le_refl _) (by simp) ?_; (case hd => rfl); (case hg => rfl); (case hr => first | (go_simp; done) | (go_simp; rfl)); (case hp => exact (Reps.none _ _)); intro v1 w3 ho4 hb hg_ hnew_; clear hg_ hnew_; have HO := Aside0.mk (Kd.R_lower ho4 (below_size HB.out)); have n1_ := Aside0.mk (below_step HB.out hb); clear HB; have HB := n1_; clear n1_ hb ho4) | (go_at_call 54; (with_reducible refine (impl_landsOf.calls k A0 c0 l0 ls _ (Kd.C_below HR0.out HB.out) HC0.out A2.out).mono ?_); rintro e w4 ⟨rfl, hb⟩; have HO2 := Aside0.mk (Kd.R_below HO.out hb); have n1_ := Aside0.mk (below_step HB.out hb); clear HB HO hb; have HB := n1_; clear n1_; have hcv := Go.Lib.run_convert_string_bytes (P := Tryd.prog) w4 9 22 5 ls (u := .string) Tryd.underlying9 Tryd.underlying22 Tryd.underlying5; have HN := Aside0.mk (BRow.new w4 5 ls L1.out.1); have hbb := Go.Lib.bytesWorld_below w4 5 ls; obtain ⟨W1, hW1⟩ : ∃ W1, W1 = Go.Lib.bytesWorld w4 5 ls := ⟨_, rfl⟩; rw [← hW1] at hcv HN hbb; clear hW1; have HO3 := Aside0.mk (Kd.R_below HO2.out hbb); have n1_ := Aside0.mk (below_step HB.out hbb); clear HB HO2 hbb; have HB := n1_; clear n1_; obtain ⟨gb, hgb⟩ : ∃ gb, gb = w4.heap.size := ⟨_, rfl⟩; rw [← hgb] at hcv HN; have HG := Aside0.mk hgb; clear hgb))
   go_loopg [4, 20] ls.size (fun g v4 v20 w' => ∃ (i : Nat) (o1 : List ByteArray), v20 = .int .i64 i ∧ i + g = ls.size ∧ Aside0 (gbB k l0 ((numsB ls).drop i) o1 = some o) ∧ Aside0 (Kd.R Kd.string 9 w' w.heap.size (fun _ => True) v4 o1) ∧ Aside0 (BRow w' gb 5 (numsB ls)) ∧ Aside0 (Below w.heap.size w w'))
   case atStart => exact ⟨0, [], rfl, by omega, A3, HO3, HN, HB⟩
   case round =>
    clear HO3 HN HB A3;(obtain ⟨i, o1, rfl, hig, A3, HO, HN, HB⟩ := hrel)
    cases gk with
    | zero =>
     (have hi : i = ls.size := by omega);subst hi;(have c5b0 : decide ((ls.size : Int) < (ls.size : Int)) = false := decide_eq_false (by omega));(have H := A3.out);(rw [List.drop_eq_nil_of_le (by rw [numsB_length]; omega)] at H);(obtain rfl : o1 = o := Option.some.inj H);clear H A3;(have hlo := L1.out.2)
     rcases Nat.eq_zero_or_pos o1.length with hz | hp
     ·obtain rfl := List.length_eq_zero_iff.1 hz
      clear hz;(obtain ⟨AO, cO, hO⟩ := Kd.R_slice HO.out);subst hO;(go_wp2_with (first | (go_at_call 57; refine (Any.slices_Sort_string_none laySortS AO cO _).mono ?_; rintro e w2 ⟨rfl, rfl⟩) | (go_at_call 58; refine (Any.slices_Compact_string_empty layCompactS AO cO _).mono ?_; rintro e w3 ⟨rfl, rfl⟩)));(go_ret2);(exact ⟨_, rfl, by rw [show sortL [] = [] by simp [sortL, textL, bytesL, Go.Lib.compact, Go.Lib.compactUpTo]]; exact HO.out, HB.out⟩)
     ·have hlen : ((bytesL o1).mergeSort fun x y => decide (x ≤ y)).length = o1.length := by rw [List.length_mergeSort]; simp [bytesL]
      (obtain ⟨ts, hts⟩ : ∃ ts, ts = (bytesL o1).mergeSort fun x y => decide (x ≤ y) := ⟨_, rfl⟩);(have e9 : sortL o1 = textL (Go.Lib.compact ts) := by rw [hts]; rfl);(have E9 := Aside0.mk e9);(have HTS := Aside0.mk hts);(rw [← hts] at hlen);clear hts e9;(obtain ⟨gO, cap, hO, hgO, hgl, cells, hcell⟩ := Kd.R_form HO.out hp);subst hO;(go_wp2_with (first | (go_at_call 57; refine (ascS_sort gO cap o1 _ hlo hgl HO.out).mono ?_; rw [← HTS.out]; rintro e w2 ⟨rfl, hH2, hb2, hg2⟩; have HH2 := Aside0.mk hH2; have HE2 := Aside0.mk hb2; have HG2 := Aside0.mk hg2; clear hH2 hb2 hg2) | (go_at_call 58; rw [← hlen]; refine (ascS_compact w.heap.size gO cap ts w2 (by omega) hgO HH2.out HE2.out).mono ?_; rintro e w3 ⟨rfl, hR3, hg3⟩; have HR3 := Aside0.mk hR3; have HG3 := Aside0.mk hg3; clear hR3 hg3)));(go_ret2);(refine ⟨_, rfl, by rw [E9.out]; exact HR3.out, ?_⟩);(have hk : ∀ k, some gO = some k → w.heap.size ≤ k := fun k hk => by cases hk; exact hgO);(exact (HB.out.grown HG2.out HB.out.size hk).grown HG3.out (HB.out.grown HG2.out HB.out.size hk).size hk)
    | succ g =>
     (have hi : i < ls.size := by omega);(have c5b0 : decide ((i : Int) < (ls.size : Int)) = true := decide_eq_true (by omega));(have p6 : (0 ≤ (i : Int)) = True := eq_true (by omega));(have q6 : ((i : Int) < (ls.size : Int)) = True := eq_true (by omega));(have hil : i < (numsB ls).length := by rw [numsB_length]; exact hi);(obtain ⟨hat1, hat2⟩ := HN.out.at_ i hil);(obtain ⟨b, hb0⟩ : ∃ b, b = (numsB ls).getD i 0 := ⟨_, rfl⟩);(rw [← hb0] at hat1);(have hdr : (numsB ls).drop i = b :: (numsB ls).drop (i + 1) := zq73);(have H := A3.out);(rw [hdr] at H);(unfold gbB at H);clear A3 hdr hb0;(have H0 := H);clear H;(obtain ⟨cs, e5, H⟩ := Option.bind_eq_some_iff.1 H0);clear H0;(obtain ⟨o2, e6, A3⟩ := Option.bind_eq_some_iff.1 H);clear H;(have A5 := Aside0.mk e5);(have A6 := Aside0.mk e6);(replace A3 := Aside0.mk A3);clear e5 e6;(go_wp2_with (first | (go_at_call 43; (with_reducible refine (impl_cellsWith.calls k A0 c0 l0 b cs _ (Kd.C_below HR0.out HB.out) HC0.out A5.out).mono ?_); rintro e w5 ⟨v26, rfl, hcs, hb⟩; have HO2 := Aside0.mk (Kd.R_below HO.out hb); have HN2 := Aside0.mk (HN.out.below hb); have hcs2 := Kd.R_lower hcs (below_size HB.out); have n1_ := Aside0.mk (below_step HB.out hb); clear HB HO HN hb; have HB := n1_; have HO := HO2; have HN := HN2; clear n1_ HO2 HN2 hcs; obtain ⟨A26, c26, rfl, hl26, hr26⟩ := Kd.R_reads hcs2; have HCS := Aside0.mk hcs2; clear hcs2 hr26)))
     go_loopg [4, 28] cs.length (fun g v4 v28 w' => ∃ (j : Nat) (o3 : List ByteArray), v28 = .int .i64 j ∧ j + g = cs.length ∧ Aside0 (gbC l0 b (cs.drop j) o3 = some o2) ∧ Aside0 (Kd.R Kd.string 9 w' w.heap.size (fun _ => True) v4 o3) ∧ Aside0 (Kd.R k61 61 w' w.heap.size (fun _ => True) (.slice A26 cs.length c26) cs) ∧ Aside0 (BRow w' gb 5 (numsB ls)) ∧ Aside0 (Below w.heap.size w w'))
     case atStart => exact ⟨0, o1, rfl, by omega, A6, HO, HCS, HN, HB⟩
     case round =>
      clear HO HN HB A6 HCS hat1 hat2 p6 q6;(obtain ⟨j, o3, rfl, hjg, A6, HO, HCS, HN, HB⟩ := hrel);(have hcm := Kd.C_max (Kd.R_reads' HCS.out).2.2)
      cases gk with
      | zero =>
       (have hj : j = cs.length := by omega);subst hj;(have c6b0 : decide ((cs.length : Int) < (cs.length : Int)) = false := decide_eq_false (by omega));(have H := A6.out);(rw [List.drop_length] at H);(obtain rfl : o3 = o2 := Option.some.inj H);clear H A6;(have w20 := wrapS hi L1.out.1);(go_wp2);(go_roundg g)
       case measure => clear w20; omega
       case rel => exact ⟨i + 1, o3, zq24, by clear w20; omega, A3, HO, HN, HB⟩
      | succ g2 =>
       (have hj : j < cs.length := by omega);(have c6b0 : decide ((j : Int) < (cs.length : Int)) = true := decide_eq_true (by omega));(have p9 : (0 ≤ (j : Int)) = True := eq_true (by omega));(have q9 : ((j : Int) < (cs.length : Int)) = True := eq_true (by omega));(obtain ⟨x, hx⟩ : ∃ x, x = rd_T61 cs (j : Int) := ⟨_, rfl⟩);(have hdr : cs.drop j = x :: cs.drop (j + 1) := by rw [hx, List.drop_eq_getElem_cons hj]; simp [rd_T61, List.getD, hj]);(have H0 := A6.out);(rw [hdr] at H0);(unfold gbC at H0);clear A6 hdr;(obtain ⟨ns, e5, H⟩ := Option.bind_eq_some_iff.1 H0);clear H0;(obtain ⟨o4, e6, A6⟩ := Option.bind_eq_some_iff.1 H);clear H;(have A7 := Aside0.mk e5);(have A8 := Aside0.mk e6);(replace A6 := Aside0.mk A6);clear e5 e6;(obtain ⟨ad9, e9, hx9_0, hx9_1⟩ := at_T61 (Kd.R_reads' HCS.out).2.2 (j : Int) (by omega) (by omega));(rw [← hx] at hx9_0 hx9_1);subst e9;clear hx;(simp only [Int.toNat_natCast] at hx9_0 hx9_1);(have HB1 := Aside0.mk (below_alloc HB.out (.cells #[.int .i64 x.f0, .int .i64 x.f1] 61)));(have HO1 := Aside0.mk (Kd.R_alloc HO.out (.cells #[.int .i64 x.f0, .int .i64 x.f1] 61)));(have HCS1 := Aside0.mk (Kd.R_alloc HCS.out (.cells #[.int .i64 x.f0, .int .i64 x.f1] 61)));(have HN1 := Aside0.mk (HN.out.below (below_alloc (Below.refl _ _) (.cells #[.int .i64 x.f0, .int .i64 x.f1] 61))));clear HB HO HCS HN;(go_wp2_with (first | (go_at_call 56; (with_reducible refine (impl_nextTo.calls A0 c0 l0 x.f0 x.f1 ns _ (Kd.C_below HR0.out HB1.out) HC0.out A7.out).mono ?_); rintro e w6 ⟨v34, rfl, hns, hb⟩; have HO := Aside0.mk (Kd.R_below HO1.out hb); have HN := Aside0.mk (HN1.out.below hb); have HCS := Aside0.mk (Kd.R_below HCS1.out hb); have hns2 := Kd.R_lower hns (below_size HB1.out); have HB := Aside0.mk (below_step HB1.out hb); clear HB1 HO1 HN1 HCS1 hb hns; obtain ⟨A34, c34, rfl, hl34, hr34⟩ := Kd.R_reads hns2; have HNS := Aside0.mk hns2; clear hns2 hr34)))
       go_loopg [4, 36] ns.length (fun g v4 v36 w' => ∃ (m : Nat) (o5 : List ByteArray), v36 = .int .i64 m ∧ m + g = ns.length ∧ Aside0 (gbN l0 b (ns.drop m) o5 = some o4) ∧ Aside0 (Kd.R Kd.string 9 w' w.heap.size (fun _ => True) v4 o5) ∧ Aside0 (Kd.R k61 61 w' w.heap.size (fun _ => True) (.slice A34 ns.length c34) ns) ∧ Aside0 (Kd.R k61 61 w' w.heap.size (fun _ => True) (.slice (some ad9) cs.length c26) cs) ∧ Aside0 (BRow w' gb 5 (numsB ls)) ∧ Aside0 (Below w.heap.size w w'))
       case atStart => exact ⟨0, o3, rfl, by omega, A8, HO, HNS, HCS, HN, HB⟩
       case round =>
        clear HO HN HB A8 HCS HNS hx9_0 hx9_1 p9 q9;(obtain ⟨m, o5, rfl, hmg, A8, HO, HNS, HCS, HN, HB⟩ := hrel);(have hnm := Kd.C_max (Kd.R_reads' HNS.out).2.2)
        cases gk with
        | zero =>
         (have hm : m = ns.length := by omega);subst hm;(have c7b0 : decide ((ns.length : Int) < (ns.length : Int)) = false := decide_eq_false (by omega));(have H := A8.out);(rw [List.drop_length] at H);(obtain rfl : o5 = o4 := Option.some.inj H);clear H A8;(have w28 := wrapS hj hcm);clear hcm hnm hl34 hl26 hmg;(go_wp2);(go_roundg g2)
         case measure => clear w28; omega
         case rel => exact ⟨j + 1, o5, zq24, by clear w28; omega, A6, HO, HCS, HN, HB⟩
        | succ g3 =>
         (have hm : m < ns.length := by omega);(have c7b0 : decide ((m : Int) < (ns.length : Int)) = true := decide_eq_true (by omega));(have p12 : (0 ≤ (m : Int)) = True := eq_true (by omega));(have q12 : ((m : Int) < (ns.length : Int)) = True := eq_true (by omega));(obtain ⟨y, hy⟩ : ∃ y, y = rd_T61 ns (m : Int) := ⟨_, rfl⟩);(have hdr : ns.drop m = y :: ns.drop (m + 1) := by rw [hy, List.drop_eq_getElem_cons hm]; simp [rd_T61, List.getD, hm]);(have H := A8.out);(rw [hdr] at H);(unfold gbN at H);clear A8 hdr;(obtain ⟨ad12, e12, hx12_0, hx12_1⟩ := at_T61 (Kd.R_reads' HNS.out).2.2 (m : Int) (by omega) (by omega));(rw [← hy] at hx12_0 hx12_1);subst e12;clear hy;(simp only [Int.toNat_natCast] at hx12_0 hx12_1);(by_cases hin : 0 ≤ y.f0 ∧ y.f0 < (l0.length : Int) ∧ 0 ≤ y.f1 ∧ y.f1 < ((rdOf ByteArray.empty l0 y.f0).size : Int))
         ·rw [if_pos hin] at H
          (obtain ⟨i0, i1, i2, i3⟩ := hin);(obtain ⟨ad13, e13, hx13⟩ := Kd.at_string HR0.out y.f0 i0 i1);subst e13;(replace hx13 := (HB.out.cell (World.block_lt_of_cell? w _ hx13)).trans hx13);(have p13 : (0 ≤ y.f0) = True := eq_true i0);(have q13 : (y.f0 < (l0.length : Int)) = True := eq_true i1);(have p14 : (0 ≤ y.f1) = True := eq_true i2);(have q14 : (y.f1 < ((rdOf ByteArray.empty l0 y.f0).size : Int)) = True := eq_true i3);(have hx14 := bt_at (rdOf ByteArray.empty l0 y.f0) y.f1);(have HB1 := Aside0.mk (below_alloc HB.out (.cells #[.int .i64 y.f0, .int .i64 y.f1] 61)));(have HO1 := Aside0.mk (Kd.R_alloc HO.out (.cells #[.int .i64 y.f0, .int .i64 y.f1] 61)));(have HCS1 := Aside0.mk (Kd.R_alloc HCS.out (.cells #[.int .i64 y.f0, .int .i64 y.f1] 61)));(have HNS1 := Aside0.mk (Kd.R_alloc HNS.out (.cells #[.int .i64 y.f0, .int .i64 y.f1] 61)));(have HN1 := Aside0.mk (HN.out.below (below_alloc (Below.refl _ _) (.cells #[.int .i64 y.f0, .int .i64 y.f1] 61))));(have hx13' := (below_alloc (Below.refl wr.heap.size wr) (.cells #[.int .i64 y.f0, .int .i64 y.f1] 61)).cell (World.block_lt_of_cell? wr _ hx13));(rw [hx13] at hx13');(go_wp2);clear HB HO HCS HNS HN
          go_quiet (fail)
          (have HN := Aside0.mk (HN1.out.below (pw_below_drewN (Below.refl _ _) nq)));(have HO := Aside0.mk (Kd.R_drewN HO1.out nq));(have HCS := Aside0.mk (Kd.R_drewN HCS1.out nq));(have HNS := Aside0.mk (Kd.R_drewN HNS1.out nq));(have HB := Aside0.mk (pw_below_drewN HB1.out nq));clear HN1 HO1 HCS1 HNS1 HB1 hx13' hx13 p13 q13 p14 q14 hx14 i0 i1 i2 i3 hx12_0 hx12_1 p12 q12;(obtain ⟨v, hv⟩ : ∃ v, v = bt (rdOf ByteArray.empty l0 y.f0) y.f1 := ⟨_, rfl⟩);(rw [← hv] at H);(simp only [← hv]);clear hv;(obtain ⟨W7, hW7⟩ : ∃ W7, W7 = (wr.alloc (Obj.cells #[Value.int IntKind.i64 y.f0, Value.int IntKind.i64 y.f1] 61)).drewN nq := ⟨_, rfl⟩);(rw [← hW7] at HN HO HCS HNS HB);(rw [← hW7]);clear hW7;(by_cases hgt : v > b)
          ·rw [if_pos hgt] at H
           by_cases hlen : o5.length < 8796093022208
           ·rw [if_pos hlen] at H
            (have c8b0 : decide (b < v) = true := decide_eq_true hgt);(have LM := Aside0.mk hlen);(have A8 := Aside0.mk H);clear hlen H hgt;(have w36 := wrapS hm hnm);clear hcm hnm hl34 hl26 hig hi hjg hj;(go_wp2_with (first | ((with_reducible refine gate_dst (N := 54) rfl ?_); refine Kd.R_lit (Kd.int .u8) _ 5 ?hg (N := 54) ?hd (xs := ([b, v] : List Int)) (inner := [.int .u8 b, .int .u8 v]) (ok := fun _ => True) (okp := fun _ => True) ?hr ?hp (fun _ hk => hk) trivial (Below.refl _ _) (Nat.le_refl _) (by simp) ?_; (case hd => rfl); (case hg => rfl); (case hr => first | (go_simp; done) | (go_simp; rfl)); (case hp => exact (Reps.one (show Kd.M (Kd.int .u8) _ _ _ b [.int .u8 b] from rfl) (Reps.one (show Kd.M (Kd.int .u8) _ _ _ v [.int .u8 v] from rfl) (Reps.none _ _)))); intro v54 w8 ho7 hb hg_ hnew_; clear hg_ hnew_; have hcv8 := own_string (P := Tryd.prog) Tryd.underlying22 Tryd.underlying5 Tryd.underlying9 (Kd.own_of_R ho7); have HN2 := Aside0.mk (HN.out.below hb); have HO2 := Aside0.mk (Kd.R_below HO.out hb); have HCS2 := Aside0.mk (Kd.R_below HCS.out hb); have HNS2 := Aside0.mk (Kd.R_below HNS.out hb); have HB2 := Aside0.mk (below_step HB.out hb); clear HN HO HCS HNS HB hb ho7) | ((with_reducible refine gate_builtin (b := .append) (xs := #[.tmp 51, .tmp 56]) rfl ?_); at_builtin; refine Kd.R_append Kd.string (w0 := w) w.heap.size rfl (.tmp 51) (.tmp 56) 24 9 (.string ⟨#[]⟩) 16 rfl Tryd.underlying24 info9 rfl (by decide) (by omega) u4 o5 (strOfNums [b, v]) [.string (strOfNums [b, v])] (fun _ => True) (fun _ => False) rfl rfl ?aP (fun _ hk => hk.elim) ?aF ?aO ?aB ?aS ?aL ?_; (case aP => exact rfl); (case aB => exact HB2.out); (case aF => exact (fun _ _ => trivial)); (case aO => exact HO2.out); (case aS => exact (below_size HB2.out)); (case aL => have := LM.out; clear w36; omega); intro v57 w9 ho hb hg hat; have HO3 := Aside0.mk ho; have HB3 := Aside0.mk hb; have HN3 := Aside0.mk (HN2.out.over HO2.out (by decide) hg); have HCS3 := Aside0.mk (Kd.R_over HCS2.out HO2.out (by decide) hg); have HNS3 := Aside0.mk (Kd.R_over HNS2.out HO2.out (by decide) hg); clear HO2 HB2 HN2 HCS2 HNS2 ho hb hg hat)));(go_roundg g3)
            case measure => clear w36; omega
            case rel => exact ⟨m + 1, o5 ++ [strOfNums [b, v]], zq24, by clear w36; omega, A8, HO3, HNS3, HCS3, HN3, HB3⟩
           ·rw [if_neg hlen] at H
            cases H
          ·rw [if_neg hgt] at H
           (have c8b0 : decide (b < v) = false := decide_eq_false hgt);(have A8 := Aside0.mk H);(have w36 := wrapS hm hnm);clear H hgt hcm hnm hl34 hl26 hig hi hjg hj;(go_wp2);(go_roundg g3)
           case measure => clear w36; omega
           case rel => exact ⟨m + 1, o5, zq24, by clear w36; omega, A8, ⟨HO.out⟩, ⟨HNS.out⟩, ⟨HCS.out⟩, ⟨HN.out⟩, ⟨HB.out⟩⟩
         ·rw [if_neg hin] at H
          cases H
  ·rw [if_neg hlim] at h
   cases h


/-! ### spec_l12East: function 65 -/
def spec_l12East.f (l0 : List ByteArray) (a1 : Int) (a2 : Int) : Option (Int) := if 0 ≤ a1 then (if a1 < (l0.length : Int) then (if ((rdOf ByteArray.empty l0 a1).size : Int) = 0 then (none) else (if 0 ≤ (Int.tmod (wrap64 (a2 + 1)) ((rdOf ByteArray.empty l0 a1).size : Int)) then (if (Int.tmod (wrap64 (a2 + 1)) ((rdOf ByteArray.empty l0 a1).size : Int)) < ((rdOf ByteArray.empty l0 a1).size : Int) then (some (bt (rdOf ByteArray.empty l0 a1) (Int.tmod (wrap64 (a2 + 1)) ((rdOf ByteArray.empty l0 a1).size : Int)))) else (none)) else (none))) else (none)) else (none)
theorem spec_l12East.calls (A0 : Option Addr) (c0 : Nat) (l0 : List ByteArray) (a1 : Int) (a2 : Int) (r : Int) (w : World) (hr0 : Kd.C Kd.string w A0 l0.length l0) (hc0 : l0.length ≤ c0) (h : spec_l12East.f l0 a1 a2 = some r) :
  Calls Tryd.prog 65 #[.slice A0 l0.length c0, .int .i64 a1, .int .i64 a2] w fun e w' => e = .returned (.int .u8 r) ∧ Drawn0 w w' := by
 (have HR0 := Aside0.mk hr0);(have HC0 := Aside0.mk hc0);clear hr0 hc0;(have H : (if 0 ≤ a1 then (if a1 < (l0.length : Int) then (if ((rdOf ByteArray.empty l0 a1).size : Int) = 0 then (none) else (if 0 ≤ (Int.tmod (wrap64 (a2 + 1)) ((rdOf ByteArray.empty l0 a1).size : Int)) then (if (Int.tmod (wrap64 (a2 + 1)) ((rdOf ByteArray.empty l0 a1).size : Int)) < ((rdOf ByteArray.empty l0 a1).size : Int) then (some (bt (rdOf ByteArray.empty l0 a1) (Int.tmod (wrap64 (a2 + 1)) ((rdOf ByteArray.empty l0 a1).size : Int)))) else (none)) else (none))) else (none)) else (none)) = some r := h);clear h;(by_cases c4 : 0 ≤ a1)
 ·rw [if_pos c4] at H
  (have c4b0 : decide (0 ≤ a1) = true := decide_eq_true c4);clear c4;(by_cases c5 : a1 < (l0.length : Int))
  ·rw [if_pos c5] at H
   (have c5b0 : decide (a1 < (l0.length : Int)) = true := decide_eq_true c5);clear c5;(by_cases c6 : ((rdOf ByteArray.empty l0 a1).size : Int) = 0)
   ·rw [if_pos c6] at H
    exact absurd H (by simp)
   ·rw [if_neg c6] at H
    (have c6b0 : (((rdOf ByteArray.empty l0 a1).size : Int) == 0) = false := beq_eq_false_iff_ne.mpr c6);(have c6b1 : (((rdOf ByteArray.empty l0 a1).size : Int) != 0) = true := bne_iff_ne.mpr c6);(obtain ⟨ji7, hji7⟩ : ∃ j_ : Int, (Int.tmod (wrap64 (a2 + 1)) ((rdOf ByteArray.empty l0 a1).size : Int)) = j_ := ⟨_, rfl⟩);(replace H : (if 0 ≤ (ji7) then (if (ji7) < ((rdOf ByteArray.empty l0 a1).size : Int) then (some (bt (rdOf ByteArray.empty l0 a1) (ji7))) else (none)) else (none)) = some r := by first | (rw [hji7] at H; exact H) | (simp only [hji7] at H ⊢; exact H));(by_cases c8 : 0 ≤ (ji7))
    ·rw [if_pos c8] at H
     (have c8b0 : decide (0 ≤ (ji7)) = true := decide_eq_true c8);clear c8;(by_cases c9 : (ji7) < ((rdOf ByteArray.empty l0 a1).size : Int))
     ·rw [if_pos c9] at H
      (have c9b0 : decide ((ji7) < ((rdOf ByteArray.empty l0 a1).size : Int)) = true := decide_eq_true c9);clear c9;(obtain rfl := Option.some.inj H);(have p303 : 0 ≤ (a1 : Int) := of_decide_eq_true zq21);(have q303 : a1 < (l0.length : Int) := of_decide_eq_true zq21);(obtain ⟨ad303, e303, hx303_0⟩ := Kd.at_string HR0.out a1 p303 q303)
      cases e303
      (replace p303 := eq_true p303);(replace q303 := eq_true q303);(have p304 : 0 ≤ (a1 : Int) := of_decide_eq_true zq21);(have q304 : a1 < (l0.length : Int) := of_decide_eq_true zq21);(obtain ⟨ad304, e304, hx304_0⟩ := Kd.at_string HR0.out a1 p304 q304);(obtain rfl : ad303 = ad304 := (by injection e304));(replace p304 := eq_true p304);(replace q304 := eq_true q304);(have p10 : 0 ≤ ((ji7) : Int) := of_decide_eq_true zq21);(have q10 : (ji7) < ((rdOf ByteArray.empty l0 a1).size : Int) := of_decide_eq_true zq21);(have hx10 := bt_at (rdOf ByteArray.empty l0 a1) (ji7));(replace p10 := eq_true p10);(replace q10 := eq_true q10)
      go_enter Tryd.func65, Tryd.ntmps65
      (go_wp2);(repeat (go_quiet (fail); try go_wp2));(go_ret);(exact ⟨by first | rfl | (simp; done) | (simp only [← hji7] <;> (first | rfl | simp)) | (simp [*]; done), zq54⟩)
     ·rw [if_neg c9] at H
      exact absurd H (by simp)
    ·rw [if_neg c8] at H
     exact absurd H (by simp)
  ·rw [if_neg c5] at H
   exact absurd H (by simp)
 ·rw [if_neg c4] at H
  exact absurd H (by simp)

end Go.Proofs.YtdkmngghknohgaaDoor.PFnGrids
