-- Made by a program of this session (gprint.py) out of the kit's print of the translation and texts of my own. SLIM
import Derived.Test.YtlkgajfhgcongaaGreatDoorPFnEditsx0
import Derived.Test.YtlkgajfhgcongaaGreatDoorPFnEditsx4
namespace Go.Proofs.YtlkgajfhgcongaaGreatDoor.PFnEdits
open Go.RowKit Go.Proofs.YtlkgajfhgcongaaGreatDoorW.PrintWords Go.Proofs.YtlkgajfhgcongaaGreatDoorW.PrintLast Go.Proofs.YtlkgajfhgcongaaGreatDoorW.PrintMore
set_option maxHeartbeats 64000000
set_option maxRecDepth 1000000
attribute [local go_sem] max2_int min2_int max_two min_two max_three min_three max_four min_four   -- for this text's walks alone
set_option linter.unusedVariables false
set_option linter.unusedSimpArgs false

/-! ### strconv_FormatInt: function 52 -/
-- given by hand
def layFmt_ren : Go.Shelf.Ren := ⟨(fun | 173 => 52 | 246 => 62 | 283 => 74 | 284 => 75 | 285 => 76 | 286 => 77 | 129 => 96 | 317 => 95 | 318 => 97 | 319 => 98 | 320 => 99 | 337 => 106 | 338 => 107 | n => n), (fun | 2 => 2 | 3 => 3 | 9 => 9 | 4 => 4 | 171 => 103 | 0 => 0 | 53 => 64 | 37 => 22 | 5 => 5 | 173 => 106 | 212 => 121 | 51 => 122 | 20 => 20 | 213 => 123 | 46 => 75 | 232 => 140 | 233 => 141 | n => n), (fun | 17 => 3 | 18 => 6 | 19 => 7 | n => n)⟩
theorem layFmt : Go.Proofs.Lays.n173 Tryz.prog layFmt_ren := { mixed := by kernel_rfl, f129 := Tryz.func96.trans (congrArg some (by kernel_rfl)), f173 := Tryz.func52.trans (congrArg some (by kernel_rfl)), f246 := Tryz.func62.trans (congrArg some (by kernel_rfl)), f283 := Tryz.func74.trans (congrArg some (by kernel_rfl)), f284 := Tryz.func75.trans (congrArg some (by kernel_rfl)), f285 := Tryz.func76.trans (congrArg some (by kernel_rfl)), f286 := Tryz.func77.trans (congrArg some (by kernel_rfl)), f317 := Tryz.func95.trans (congrArg some (by kernel_rfl)), f318 := Tryz.func97.trans (congrArg some (by kernel_rfl)), f319 := Tryz.func98.trans (congrArg some (by kernel_rfl)), f320 := Tryz.func99.trans (congrArg some (by kernel_rfl)), f337 := Tryz.func106.trans (congrArg some (by kernel_rfl)), f338 := Tryz.func107.trans (congrArg some (by kernel_rfl)), t0 := Tryz.underlying0, a0 := Tryz.isAgg0, z0 := Tryz.sizeOf0, v0 := Tryz.zeroValue0, t2 := Tryz.underlying2, a2 := Tryz.isAgg2, z2 := Tryz.sizeOf2, v2 := Tryz.zeroValue2, t3 := Tryz.underlying3, a3 := Tryz.isAgg3, z3 := Tryz.sizeOf3, v3 := Tryz.zeroValue3, t4 := Tryz.underlying4, a4 := Tryz.isAgg4, z4 := Tryz.sizeOf4, v4 := Tryz.zeroValue4, t5 := Tryz.underlying5, a5 := Tryz.isAgg5, z5 := Tryz.sizeOf5, v5 := Tryz.zeroValue5, t9 := Tryz.underlying9, a9 := Tryz.isAgg9, z9 := Tryz.sizeOf9, v9 := Tryz.zeroValue9, t20 := Tryz.underlying20, a20 := Tryz.isAgg20, z20 := Tryz.sizeOf20, v20 := Tryz.zeroValue20, t37 := Tryz.underlying22, a37 := Tryz.isAgg22, z37 := Tryz.sizeOf22, v37 := Tryz.zeroValue22, t46 := Tryz.underlying75, a46 := Tryz.isAgg75, z46 := Tryz.sizeOf75, v46 := Tryz.zeroValue75, t51 := Tryz.underlying122, a51 := Tryz.isAgg122, z51 := Tryz.sizeOf122, v51 := Tryz.zeroValue122, t53 := Tryz.underlying64, a53 := Tryz.isAgg64, z53 := Tryz.sizeOf64, v53 := Tryz.zeroValue64, t171 := Tryz.underlying103, a171 := Tryz.isAgg103, z171 := Tryz.sizeOf103, v171 := Tryz.zeroValue103, t173 := Tryz.underlying106, a173 := Tryz.isAgg106, z173 := Tryz.sizeOf106, v173 := Tryz.zeroValue106, t212 := Tryz.underlying121, a212 := Tryz.isAgg121, z212 := Tryz.sizeOf121, v212 := Tryz.zeroValue121, t213 := Tryz.underlying123, a213 := Tryz.isAgg123, z213 := Tryz.sizeOf123, t232 := Tryz.underlying140, a232 := Tryz.isAgg140, z232 := Tryz.sizeOf140, v232 := Tryz.zeroValue140, t233 := Tryz.underlying141, a233 := Tryz.isAgg141, z233 := Tryz.sizeOf141, v233 := Tryz.zeroValue141, g17 := by kernel_rfl, g18 := by kernel_rfl, g19 := by kernel_rfl }
theorem layFmtM : Go.Proofs.LaysM.n173 Tryz.prog layFmt_ren := { layFmt with i0 := by kernel_rfl, i2 := by kernel_rfl, i3 := by kernel_rfl, i4 := by kernel_rfl, i5 := by kernel_rfl, i9 := by kernel_rfl, i20 := by kernel_rfl, i37 := by kernel_rfl, i46 := by kernel_rfl, i51 := by kernel_rfl, i53 := by kernel_rfl, i171 := by kernel_rfl, i173 := by kernel_rfl, i212 := by kernel_rfl, i232 := by kernel_rfl, i233 := by kernel_rfl, m17 := by kernel_rfl, m18 := by kernel_rfl, m19 := by kernel_rfl }

/-- The library's table of the powers of ten lies in this world. -/
def TabW (w : World) : Prop := Go.Lib.TabIs Tryz.prog w "internal/strconv.uint64pow10" .u64 Go.Lib.pow10Tab
theorem TabW.below {w w' : World} (h : TabW w) (hb : Below w.heap.size w w') : TabW w' := by
 unfold TabW Go.Lib.TabIs World.var? at h ⊢
 cases hg : Tryz.prog.globalNamed "internal/strconv.uint64pow10" with
 | none => rw [hg] at h; cases h
 | some g =>
  (rw [hg] at h);(simp only [Option.bind_some] at h ⊢)
  have hlt : g < w.heap.size := by
   rcases Nat.lt_or_ge g w.heap.size with h' | h'
   ·exact h'
   ·rw [Array.getElem?_eq_none h'] at h; cases h
  (rw [hb.block g hlt]);(exact h)
/-- internal/bytealg.MaxLen holds some int. -/
def MaxW (w : World) : Prop := ∃ m, w.cell? ⟨0, 0, none⟩ = some (.int .i64 m)
theorem MaxW.below {w w' : World} (h : MaxW w) (hb : Below w.heap.size w w') : MaxW w' := by
 (obtain ⟨m, hm⟩ := h);(exact ⟨m, (hb.cell (World.block_lt_of_cell? w _ hm)).trans hm⟩)
theorem MaxW.shaped {w : World} (h : w.ShapedOpen Tryz.prog) : MaxW w :=
 Go.Proofs.cell_of_shapedOpen_int (zero := #[.int .i64 0]) (t := 3) h (of_decide_eq_true (by kernel_rfl)) (by kernel_rfl) rfl (by kernel_rfl) (by kernel_rfl) Tryz.underlying3
/-- strconv.ErrSyntax and strconv.ErrRange hold some errors. -/
def ErrAt (w : World) (g : Nat) : Prop := ∃ tp p, w.cell? ⟨g, 0, none⟩ = some (.iface tp p)
theorem ErrAt.below {w w' : World} {g : Nat} (h : ErrAt w g) (hb : Below w.heap.size w w') : ErrAt w' g := by
 (obtain ⟨tp, p, hm⟩ := h);(exact ⟨tp, p, (hb.cell (World.block_lt_of_cell? w _ hm)).trans hm⟩)
def LibW (w : World) : Prop := TabW w ∧ MaxW w ∧ ErrAt w 1 ∧ ErrAt w 2
theorem LibW.below {w w' : World} (h : LibW w) (hb : Below w.heap.size w w') : LibW w' := ⟨h.1.below hb, h.2.1.below hb, h.2.2.1.below hb, h.2.2.2.below hb⟩
def strconv_FormatInt.f (a0 a1 : Int) : Option ByteArray := if a1 = 10 ∧ -9223372036854775808 ≤ a0 ∧ a0 ≤ 9223372036854775807 then some ⟨(Go.Lib.itoa a0).toArray⟩ else none
theorem strconv_FormatInt.calls (a0 : Int) (a1 : Int) (r : ByteArray) (w : World) (h : strconv_FormatInt.f a0 a1 = some r) (hL : LibW w) :
  Calls Tryz.prog 52 #[.int .i64 a0, .int .i64 a1] w fun e w' => e = .returned (.string r) ∧ Below w.heap.size w w' := by
 unfold strconv_FormatInt.f at h
 split at h
 ·rename_i hc
  (obtain rfl := Option.some.inj h);(obtain ⟨rfl, h0, h1⟩ := hc);(refine (Go.Proofs.Any.strconv_FormatInt_10 layFmtM a0 h0 h1 w hL.1).mono ?_);(rintro e w' ⟨rfl, k, os, rfl⟩);(exact ⟨rfl, Go.Lib.below_grow _ w (Nat.le_refl _) k os⟩)
 ·cases h


/-! ### impl_Decimal: function 34 -/
def impl_Decimal.f (a0 : Int) : Option (ByteArray) := (strconv_FormatInt.f a0 10).bind fun t242 => (some t242)
theorem impl_Decimal.calls (a0 : Int) (r : ByteArray) (w : World) (h : impl_Decimal.f a0 = some r) (hLibW : LibW w) :
  Calls Tryz.prog 34 #[.int .i64 a0] w fun e w' => e = .returned (.string r) ∧ Below w.heap.size w w' := by
 (have HLIBW := Aside0.mk hLibW);clear hLibW;(have HB := Aside0.mk (Below.refl w.heap.size w));(have H : ((strconv_FormatInt.f a0 10).bind fun t242 => (some t242)) = some r := h);clear h;(replace H := Option.bind_eq_some_iff.mp H);(obtain ⟨t242, A20, H⟩ := H);(replace H : (some t242) = some r := H);(have A2 := Aside0.mk A20);clear A20;(obtain rfl := Option.some.inj H)
 go_enter Tryz.func34, Tryz.ntmps34
 (go_wp2_with (first | ((with_reducible refine gate_callee (f := 52) rfl ?_); refine goesL_ (some 4) rfl rfl Tryz.func52 (by kernel_rfl) rfl #[.int .i64 a0, .int .i64 10] rfl zq0 ?_; (with_reducible refine (strconv_FormatInt.calls a0 10 t242 _ A2.out ?atLibW_).mono ?_); (case atLibW_ => exact HLIBW.out.below zq54); rintro e w3 ⟨rfl, hb⟩; refine ⟨_, rfl, ?_⟩; have n0_ := Aside0.mk (below_step zq54 hb); clear HB; have HB := n0_; clear n0_; (try clear hb); (try clear hb2); (try clear hk); (try clear hi))));(go_ret);(exact ⟨zq40, zq54⟩)

/-! ### impl_engravedText: function 35 -/
def impl_engravedText.f (a0 : ByteArray) : Option (ByteArray) := if a0.toList = ([] : List UInt8) then (some (⟨#[45]⟩ : ByteArray)) else (some a0)
theorem impl_engravedText.calls (a0 : ByteArray) (r : ByteArray) (w : World) (h : impl_engravedText.f a0 = some r) :
  Calls Tryz.prog 35 #[.string a0] w fun e w' => e = .returned (.string r) ∧ Drawn0 w w' := by
 (have H : (if a0.toList = ([] : List UInt8) then (some (⟨#[45]⟩ : ByteArray)) else (some a0)) = some r := h);clear h;(by_cases c2 : a0.toList = ([] : List UInt8))
 ·rw [if_pos c2] at H
  (have c2b0 : (a0.toList == ([] : List UInt8)) = true := beq_iff_eq.mpr c2);(have c2b1 : (a0.toList != ([] : List UInt8)) = false := bne_eq_false_iff_eq.mpr c2);clear c2;(obtain rfl := Option.some.inj H)
  go_enter Tryz.func35, Tryz.ntmps35
  (go_wp2);(go_ret);(exact ⟨zq41, zq76⟩)
 ·rw [if_neg c2] at H
  (have c2b0 : (a0.toList == ([] : List UInt8)) = false := beq_eq_false_iff_ne.mpr c2);(have c2b1 : (a0.toList != ([] : List UInt8)) = true := bne_iff_ne.mpr c2);(obtain rfl := Option.some.inj H)
  go_enter Tryz.func35, Tryz.ntmps35
  (go_wp2);(go_ret);(exact ⟨zq41, zq76⟩)

/-! ### impl_EditText: function 13 -/
def impl_EditText.f (a0_0 : Int) (a0_1 : ByteArray) (a0_2 : ByteArray) : Option (ByteArray) := (impl_isEdit.f a0_0 a0_1 a0_2).bind fun t244 => (if t244 = true then ((impl_Decimal.f a0_0).bind fun t245 => (if 1 + t245.size ≤ 9223372036854775807 then (if ((⟨#[35]⟩ : ByteArray) ++ t245).size + 1 ≤ 9223372036854775807 then ((impl_engravedText.f a0_1).bind fun t246 => (if (((⟨#[35]⟩ : ByteArray) ++ t245) ++ (⟨#[32]⟩ : ByteArray)).size + t246.size ≤ 9223372036854775807 then (if ((((⟨#[35]⟩ : ByteArray) ++ t245) ++ (⟨#[32]⟩ : ByteArray)) ++ t246).size + 3 ≤ 9223372036854775807 then ((impl_engravedText.f a0_2).bind fun t247 => (if (((((⟨#[35]⟩ : ByteArray) ++ t245) ++ (⟨#[32]⟩ : ByteArray)) ++ t246) ++ (⟨#[32, 62, 32]⟩ : ByteArray)).size + t247.size ≤ 9223372036854775807 then (some ((((((⟨#[35]⟩ : ByteArray) ++ t245) ++ (⟨#[32]⟩ : ByteArray)) ++ t246) ++ (⟨#[32, 62, 32]⟩ : ByteArray)) ++ t247)) else (none))) else (none)) else (none))) else (none)) else (none))) else (some (⟨#[]⟩ : ByteArray)))
def impl_EditText.T3 : Bool × List (List Nat × List Nat) := (true, [([], []), ([0], [0]), ([1], [1]), ([2], [2]), ([3], [3]), ([], []), ([5], [5]), ([6, 2], [6]), ([4, 7], [4, 7]), ([8], [8]), ([], []), ([10], [10]), ([11, 7], [11]), ([9, 12], [9, 12]), ([13, 12, 0, 1, 2, 3, 4, 5, 6, 7, 8, 9, 10, 11, 12, 13], [13])])
def impl_EditText.B3 : List Nat := [0, 1, 3, 7, 15, 0, 32, 103, 255, 511, 0, 1024, 3303, 8191, 16383]
theorem impl_EditText.tab3 : rtab .any (opsOf Tryz.f13 3) = impl_EditText.T3 := by kernel_rfl
theorem impl_EditText.bits3 : waitsOk impl_EditText.T3.2 impl_EditText.B3 = true := by kernel_rfl
theorem impl_EditText.calls (a0_0 : Int) (a0_1 : ByteArray) (a0_2 : ByteArray) (r : ByteArray) (w : World) (h : impl_EditText.f a0_0 a0_1 a0_2 = some r) (hLibW : LibW w) :
  Calls Tryz.prog 13 #[.agg #[.int .i64 a0_0, .string a0_1, .string a0_2]] w fun e w' => e = .returned (.string r) ∧ Below w.heap.size w w' := by
 (have HLIBW := Aside0.mk hLibW);clear hLibW;(have hu36 := Tryz.underlying36);(have HB := Aside0.mk (Below.refl w.heap.size w));(have H : ((impl_isEdit.f a0_0 a0_1 a0_2).bind fun t244 => (if t244 = true then ((impl_Decimal.f a0_0).bind fun t245 => (if 1 + t245.size ≤ 9223372036854775807 then (if ((⟨#[35]⟩ : ByteArray) ++ t245).size + 1 ≤ 9223372036854775807 then ((impl_engravedText.f a0_1).bind fun t246 => (if (((⟨#[35]⟩ : ByteArray) ++ t245) ++ (⟨#[32]⟩ : ByteArray)).size + t246.size ≤ 9223372036854775807 then (if ((((⟨#[35]⟩ : ByteArray) ++ t245) ++ (⟨#[32]⟩ : ByteArray)) ++ t246).size + 3 ≤ 9223372036854775807 then ((impl_engravedText.f a0_2).bind fun t247 => (if (((((⟨#[35]⟩ : ByteArray) ++ t245) ++ (⟨#[32]⟩ : ByteArray)) ++ t246) ++ (⟨#[32, 62, 32]⟩ : ByteArray)).size + t247.size ≤ 9223372036854775807 then (some ((((((⟨#[35]⟩ : ByteArray) ++ t245) ++ (⟨#[32]⟩ : ByteArray)) ++ t246) ++ (⟨#[32, 62, 32]⟩ : ByteArray)) ++ t247)) else (none))) else (none)) else (none))) else (none)) else (none))) else (some (⟨#[]⟩ : ByteArray)))) = some r := h);clear h;(replace H := Option.bind_eq_some_iff.mp H);(obtain ⟨t244, A20, H⟩ := H);(replace H : (if t244 = true then ((impl_Decimal.f a0_0).bind fun t245 => (if 1 + t245.size ≤ 9223372036854775807 then (if ((⟨#[35]⟩ : ByteArray) ++ t245).size + 1 ≤ 9223372036854775807 then ((impl_engravedText.f a0_1).bind fun t246 => (if (((⟨#[35]⟩ : ByteArray) ++ t245) ++ (⟨#[32]⟩ : ByteArray)).size + t246.size ≤ 9223372036854775807 then (if ((((⟨#[35]⟩ : ByteArray) ++ t245) ++ (⟨#[32]⟩ : ByteArray)) ++ t246).size + 3 ≤ 9223372036854775807 then ((impl_engravedText.f a0_2).bind fun t247 => (if (((((⟨#[35]⟩ : ByteArray) ++ t245) ++ (⟨#[32]⟩ : ByteArray)) ++ t246) ++ (⟨#[32, 62, 32]⟩ : ByteArray)).size + t247.size ≤ 9223372036854775807 then (some ((((((⟨#[35]⟩ : ByteArray) ++ t245) ++ (⟨#[32]⟩ : ByteArray)) ++ t246) ++ (⟨#[32, 62, 32]⟩ : ByteArray)) ++ t247)) else (none))) else (none)) else (none))) else (none)) else (none))) else (some (⟨#[]⟩ : ByteArray))) = some r := H);(have A2 := Aside0.mk A20);clear A20;(by_cases c3 : t244 = true)
 ·subst c3
  (have H1 : ((impl_Decimal.f a0_0).bind fun t245 => (if 1 + t245.size ≤ 9223372036854775807 then (if ((⟨#[35]⟩ : ByteArray) ++ t245).size + 1 ≤ 9223372036854775807 then ((impl_engravedText.f a0_1).bind fun t246 => (if (((⟨#[35]⟩ : ByteArray) ++ t245) ++ (⟨#[32]⟩ : ByteArray)).size + t246.size ≤ 9223372036854775807 then (if ((((⟨#[35]⟩ : ByteArray) ++ t245) ++ (⟨#[32]⟩ : ByteArray)) ++ t246).size + 3 ≤ 9223372036854775807 then ((impl_engravedText.f a0_2).bind fun t247 => (if (((((⟨#[35]⟩ : ByteArray) ++ t245) ++ (⟨#[32]⟩ : ByteArray)) ++ t246) ++ (⟨#[32, 62, 32]⟩ : ByteArray)).size + t247.size ≤ 9223372036854775807 then (some ((((((⟨#[35]⟩ : ByteArray) ++ t245) ++ (⟨#[32]⟩ : ByteArray)) ++ t246) ++ (⟨#[32, 62, 32]⟩ : ByteArray)) ++ t247)) else (none))) else (none)) else (none))) else (none)) else (none))) = some r := zq92);clear H;(have H := H1);clear H1;(replace H := Option.bind_eq_some_iff.mp H);(obtain ⟨t245, A40, H⟩ := H);(replace H : (if 1 + t245.size ≤ 9223372036854775807 then (if ((⟨#[35]⟩ : ByteArray) ++ t245).size + 1 ≤ 9223372036854775807 then ((impl_engravedText.f a0_1).bind fun t246 => (if (((⟨#[35]⟩ : ByteArray) ++ t245) ++ (⟨#[32]⟩ : ByteArray)).size + t246.size ≤ 9223372036854775807 then (if ((((⟨#[35]⟩ : ByteArray) ++ t245) ++ (⟨#[32]⟩ : ByteArray)) ++ t246).size + 3 ≤ 9223372036854775807 then ((impl_engravedText.f a0_2).bind fun t247 => (if (((((⟨#[35]⟩ : ByteArray) ++ t245) ++ (⟨#[32]⟩ : ByteArray)) ++ t246) ++ (⟨#[32, 62, 32]⟩ : ByteArray)).size + t247.size ≤ 9223372036854775807 then (some ((((((⟨#[35]⟩ : ByteArray) ++ t245) ++ (⟨#[32]⟩ : ByteArray)) ++ t246) ++ (⟨#[32, 62, 32]⟩ : ByteArray)) ++ t247)) else (none))) else (none)) else (none))) else (none)) else (none)) = some r := H);(have A4 := Aside0.mk A40);clear A40;(by_cases c5 : 1 + t245.size ≤ 9223372036854775807)
  ·rw [if_pos c5] at H
   (have c5b0 := eq_true c5);(have c5b1 : decide (1 + t245.size ≤ 9223372036854775807) = true := decide_eq_true c5);(try have c5b2 : (9223372036854775807 < 1 + t245.size) = False := eq_false (Nat.not_lt.2 c5));(by_cases c6 : ((⟨#[35]⟩ : ByteArray) ++ t245).size + 1 ≤ 9223372036854775807)
   ·rw [if_pos c6] at H
    (have c6b0 := eq_true c6);(have c6b1 : decide (((⟨#[35]⟩ : ByteArray) ++ t245).size + 1 ≤ 9223372036854775807) = true := decide_eq_true c6);(try have c6b2 : (9223372036854775807 < ((⟨#[35]⟩ : ByteArray) ++ t245).size + 1) = False := eq_false (Nat.not_lt.2 c6));(have c6b4 := c6b2);(simp only [ByteArray.size_append, show (⟨#[35]⟩ : ByteArray).size = 1 from rfl] at c6b4);(replace H := Option.bind_eq_some_iff.mp H);(obtain ⟨t246, A70, H⟩ := H);(replace H : (if (((⟨#[35]⟩ : ByteArray) ++ t245) ++ (⟨#[32]⟩ : ByteArray)).size + t246.size ≤ 9223372036854775807 then (if ((((⟨#[35]⟩ : ByteArray) ++ t245) ++ (⟨#[32]⟩ : ByteArray)) ++ t246).size + 3 ≤ 9223372036854775807 then ((impl_engravedText.f a0_2).bind fun t247 => (if (((((⟨#[35]⟩ : ByteArray) ++ t245) ++ (⟨#[32]⟩ : ByteArray)) ++ t246) ++ (⟨#[32, 62, 32]⟩ : ByteArray)).size + t247.size ≤ 9223372036854775807 then (some ((((((⟨#[35]⟩ : ByteArray) ++ t245) ++ (⟨#[32]⟩ : ByteArray)) ++ t246) ++ (⟨#[32, 62, 32]⟩ : ByteArray)) ++ t247)) else (none))) else (none)) else (none)) = some r := H);(have A7 := Aside0.mk A70);clear A70;(by_cases c8 : (((⟨#[35]⟩ : ByteArray) ++ t245) ++ (⟨#[32]⟩ : ByteArray)).size + t246.size ≤ 9223372036854775807)
    ·rw [if_pos c8] at H
     (have c8b0 := eq_true c8);(have c8b1 : decide ((((⟨#[35]⟩ : ByteArray) ++ t245) ++ (⟨#[32]⟩ : ByteArray)).size + t246.size ≤ 9223372036854775807) = true := decide_eq_true c8);(try have c8b2 : (9223372036854775807 < (((⟨#[35]⟩ : ByteArray) ++ t245) ++ (⟨#[32]⟩ : ByteArray)).size + t246.size) = False := eq_false (Nat.not_lt.2 c8));(have c8b4 := c8b2);(simp only [ByteArray.size_append, show (⟨#[35]⟩ : ByteArray).size = 1 from rfl, show (⟨#[32]⟩ : ByteArray).size = 1 from rfl] at c8b4);(by_cases c9 : ((((⟨#[35]⟩ : ByteArray) ++ t245) ++ (⟨#[32]⟩ : ByteArray)) ++ t246).size + 3 ≤ 9223372036854775807)
     ·rw [if_pos c9] at H
      (have c9b0 := eq_true c9);(have c9b1 : decide (((((⟨#[35]⟩ : ByteArray) ++ t245) ++ (⟨#[32]⟩ : ByteArray)) ++ t246).size + 3 ≤ 9223372036854775807) = true := decide_eq_true c9);(try have c9b2 : (9223372036854775807 < ((((⟨#[35]⟩ : ByteArray) ++ t245) ++ (⟨#[32]⟩ : ByteArray)) ++ t246).size + 3) = False := eq_false (Nat.not_lt.2 c9));(have c9b4 := c9b2);(simp only [ByteArray.size_append, show (⟨#[35]⟩ : ByteArray).size = 1 from rfl, show (⟨#[32]⟩ : ByteArray).size = 1 from rfl] at c9b4);(replace H := Option.bind_eq_some_iff.mp H);(obtain ⟨t247, A100, H⟩ := H);(replace H : (if (((((⟨#[35]⟩ : ByteArray) ++ t245) ++ (⟨#[32]⟩ : ByteArray)) ++ t246) ++ (⟨#[32, 62, 32]⟩ : ByteArray)).size + t247.size ≤ 9223372036854775807 then (some ((((((⟨#[35]⟩ : ByteArray) ++ t245) ++ (⟨#[32]⟩ : ByteArray)) ++ t246) ++ (⟨#[32, 62, 32]⟩ : ByteArray)) ++ t247)) else (none)) = some r := H);(have A10 := Aside0.mk A100);clear A100;(by_cases c11 : (((((⟨#[35]⟩ : ByteArray) ++ t245) ++ (⟨#[32]⟩ : ByteArray)) ++ t246) ++ (⟨#[32, 62, 32]⟩ : ByteArray)).size + t247.size ≤ 9223372036854775807)
      ·rw [if_pos c11] at H
       (have c11b0 := eq_true c11);(have c11b1 : decide ((((((⟨#[35]⟩ : ByteArray) ++ t245) ++ (⟨#[32]⟩ : ByteArray)) ++ t246) ++ (⟨#[32, 62, 32]⟩ : ByteArray)).size + t247.size ≤ 9223372036854775807) = true := decide_eq_true c11);(try have c11b2 : (9223372036854775807 < (((((⟨#[35]⟩ : ByteArray) ++ t245) ++ (⟨#[32]⟩ : ByteArray)) ++ t246) ++ (⟨#[32, 62, 32]⟩ : ByteArray)).size + t247.size) = False := eq_false (Nat.not_lt.2 c11));(have c11b4 := c11b2);(simp only [ByteArray.size_append, show (⟨#[35]⟩ : ByteArray).size = 1 from rfl, show (⟨#[32]⟩ : ByteArray).size = 1 from rfl, show (⟨#[32, 62, 32]⟩ : ByteArray).size = 3 from rfl] at c11b4);(obtain rfl := Option.some.inj H)
       go_enter Tryz.func13, Tryz.ntmps13
       (try go_wp2_with (first | ((with_reducible refine gate_dst (N := 1) rfl ?_); refine box_event ?hg (N := 1) ?hd (cs := #[.int .i64 a0_0, .string a0_1, .string a0_2]) (t := 36) ?hr ?_; (case hd => rfl); (case hg => rfl); (case hr => first | (go_simp; done) | (go_simp; rfl)); intro gb243 hg w12 hbox hb; have n0_ := Aside0.mk (below_step zq54 hb); have n1_ := Aside0.mk (hbox); have n2_ := Aside0.mk ((zq83 : w.heap.size ≤ gb243)); have n3_ := Aside0.mk ((zq83 : w.heap.size ≤ gb243)); clear HB; have HB := n0_; have BK243 := n1_; have GW243 := n2_; have GE243 := n3_; clear n0_ n1_ n2_ n3_; clear hb hbox hg; have hcz13_0 : w12.cell? ⟨gb243, 0, none⟩ = some (.int .i64 a0_0) := (blk_cell BK243.out 0).trans rfl; have hcz13_1 : w12.cell? ⟨gb243, 1, none⟩ = some (.string a0_1) := (blk_cell BK243.out 1).trans rfl; have hcz13_2 : w12.cell? ⟨gb243, 2, none⟩ = some (.string a0_2) := (blk_cell BK243.out 2).trans rfl; have hfz13_0 := blk_frozen BK243.out 0; have hfz13_1 := blk_frozen BK243.out 1; have hfz13_2 := blk_frozen BK243.out 2) | ((with_reducible refine gate_callee (f := 33) rfl ?_); refine goesL_ (some 4) rfl rfl Tryz.func33 (by kernel_rfl) rfl #[.agg #[.int .i64 a0_0, .string a0_1, .string a0_2]] rfl zq0 ?_; (with_reducible refine (impl_isEdit.calls a0_0 a0_1 a0_2 true _ A2.out).mono ?_); rintro e w14 ⟨rfl, hb⟩; refine ⟨_, rfl, ?_⟩; have n0_ := Aside0.mk (blk_below (g := gb243) (o := .cells #[.int .i64 a0_0, .string a0_1, .string a0_2] 36 (0, 0)) zq13 hb); have n1_ := Aside0.mk (below_step zq51 hb); clear BK243; clear HB; have BK243 := n0_; have HB := n1_; clear n0_ n1_; (try clear hb); (try clear hb2); (try clear hk); (try clear hi))));(have n0_ := Aside0.mk (blk_drew BK243.out));(have n1_ := Aside0.mk (below_drew1 HB.out));clear BK243;clear HB;(have BK243 := n0_);(have HB := n1_);clear n0_ n1_;(refine start_ (n := 15) (S := fun w' => w'.cell? ⟨gb243, 0, none⟩ = some (.int .i64 a0_0) ∧ w'.cell? ⟨gb243, 1, none⟩ = some (.string a0_1) ∧ w'.cell? ⟨gb243, 2, none⟩ = some (.string a0_2)) (ds := []) #[false,false,false,false,false,false,false,false,false,false,false,false,false,false,false] (by kernel_rfl) rfl rfl ⟨(blk_cell BK243.out 0).trans rfl, (blk_cell BK243.out 1).trans rfl, (blk_cell BK243.out 2).trans rfl⟩ (fun hHeld => ?_); refine with_tabW impl_EditText.tab3 impl_EditText.bits3 (fun HT_ HW_ => ?_));(generalize w14.drew = w15 at BK243 HB hHeld ⊢);(refine pI (i := 0) (N := some 6) (v := ?_) (a' := ?_) (mB 15 1) rfl rfl HT_.out (by kernel_rfl) (fun _ _ _ h => h) rfl ?_ ?_ ?_);rotate_left
       ·intro w'
        go_simp;(with_reducible rfl)
       rotate_left
       ·simp only [Act.put, sA]
        rfl
       (refine pI (i := 5) (N := some 11) (v := ?_) (a' := ?_) (mB 15 33) rfl rfl HT_.out (by kernel_rfl) (fun _ _ _ h => h) rfl ?_ ?_ ?_);rotate_left
       ·intro w'
        go_simp;(with_reducible rfl)
       rotate_left
       ·simp only [Act.put, sA]
        rfl
       (refine pI (i := 10) (N := some 16) (v := ?_) (a' := ?_) (mB 15 1057) rfl rfl HT_.out (by kernel_rfl) (fun _ _ _ h => h) rfl ?_ ?_ ?_);rotate_left
       ·intro w'
        go_simp;(with_reducible rfl)
       rotate_left
       ·simp only [Act.put, sA]
        rfl
       (refine tI (i := 1) (N := some 7) (v := ?_) (a' := ?_) (mB 15 1059) rfl rfl HT_.out HW_.out (by kernel_rfl) (fun _ _ _ h => h) rfl ?_ hHeld ?_ ?_);rotate_left
       ·rintro w' ⟨s0, s1, s2⟩
        go_simp;(with_reducible rfl)
       rotate_left
       ·simp only [Act.put, sA]
        rfl
       (refine tI (i := 6) (N := some 12) (v := ?_) (a' := ?_) (mB 15 1123) rfl rfl HT_.out HW_.out (by kernel_rfl) (fun _ _ _ h => h) rfl ?_ hHeld ?_ ?_);rotate_left
       ·rintro w' ⟨s0, s1, s2⟩
        go_simp;(with_reducible rfl)
       rotate_left
       ·simp only [Act.put, sA]
        rfl
       (refine tI (i := 11) (N := some 17) (v := ?_) (a' := ?_) (mB 15 3171) rfl rfl HT_.out HW_.out (by kernel_rfl) (fun _ _ _ h => h) rfl ?_ hHeld ?_ ?_);rotate_left
       ·rintro w' ⟨s0, s1, s2⟩
        go_simp;(with_reducible rfl)
       rotate_left
       ·simp only [Act.put, sA]
        rfl
       (refine one_ (i := 2) (N := some 8) (mB 15 3175) rfl rfl (one_of HT_.out (by kernel_rfl)) (by decide) (fun K hK => ?_));(refine goes_ Tryz.func34 (by kernel_rfl) rfl #[.int .i64 a0_0] (by rfl) rfl rfl zq0 ?_);(with_reducible refine (impl_Decimal.calls a0_0 t245 _ A4.out ?atLibW_).mono ?_)
       case atLibW_ => exact HLIBW.out.below zq51
       (rintro e w16 ⟨rfl, hb⟩);(refine ⟨_, rfl, ?_⟩);(have n0_ := Aside0.mk (blk_below (g := gb243) (o := .cells #[.int .i64 a0_0, .string a0_1, .string a0_2] 36 (0, 0)) zq13 hb));(have n1_ := Aside0.mk (below_step zq51 hb));clear BK243;clear HB;(have BK243 := n0_);(have HB := n1_);clear n0_ n1_;(try clear hb);(try clear hb2);(try clear hk);(try clear hi);(refine hK.out _ _ ⟨(blk_cell BK243.out 0).trans rfl, (blk_cell BK243.out 1).trans rfl, (blk_cell BK243.out 2).trans rfl⟩ (fun hHeld => ?_));clear hK K;(refine norm_ (a' := ?_) ?_ ?_);rotate_left
       ·show Act.put _ (some 8) _ = _
        (simp only [Act.put, sA]);rfl
       (refine pI (i := 3) (N := some 9) (v := ?_) (a' := ?_) (mB 15 3183) rfl rfl HT_.out (by kernel_rfl) (fun _ _ _ h => h) rfl ?_ ?_ ?_);rotate_left
       ·intro w'
        go_simp;(with_reducible rfl)
       rotate_left
       ·simp only [Act.put, sA]
        rfl
       (refine pI (i := 4) (N := some 10) (v := ?_) (a' := ?_) (mB 15 3199) rfl rfl HT_.out (by kernel_rfl) (fun _ _ _ h => h) rfl ?_ ?_ ?_);rotate_left
       ·intro w'
        go_simp;(with_reducible rfl)
       rotate_left
       ·simp only [Act.put, sA]
        rfl
       (refine one_ (i := 7) (N := some 13) (mB 15 3327) rfl rfl (one_of HT_.out (by kernel_rfl)) (by decide) (fun K hK => ?_));(refine goes_ Tryz.func35 (by kernel_rfl) rfl #[.string a0_1] (by rfl) rfl rfl zq0 ?_);(with_reducible refine (impl_engravedText.calls a0_1 t246 _ A7.out).mono ?_);(rintro e w' ⟨rfl, ⟨nd, rfl⟩⟩);(refine ⟨_, rfl, ?_⟩);(refine hK.out _ _ ⟨(blk_cell BK243.out 0).trans rfl, (blk_cell BK243.out 1).trans rfl, (blk_cell BK243.out 2).trans rfl⟩ (fun hHeld => ?_));clear hK K;(refine norm_ (a' := ?_) ?_ ?_);rotate_left
       ·show Act.put _ (some 13) _ = _
        (simp only [Act.put, sA]);rfl
       (refine pI (i := 8) (N := some 14) (v := ?_) (a' := ?_) (mB 15 3583) rfl rfl HT_.out (by kernel_rfl) (fun _ _ _ h => h) rfl ?_ ?_ ?_);rotate_left
       ·intro w'
        go_simp;(with_reducible rfl)
       rotate_left
       ·simp only [Act.put, sA]
        rfl
       (refine pI (i := 9) (N := some 15) (v := ?_) (a' := ?_) (mB 15 4095) rfl rfl HT_.out (by kernel_rfl) (fun _ _ _ h => h) rfl ?_ ?_ ?_);rotate_left
       ·intro w'
        go_simp;(with_reducible rfl)
       rotate_left
       ·simp only [Act.put, sA]
        rfl
       (refine one_ (i := 12) (N := some 18) (mB 15 8191) rfl rfl (one_of HT_.out (by kernel_rfl)) (by decide) (fun K hK => ?_));(refine goes_ Tryz.func35 (by kernel_rfl) rfl #[.string a0_2] (by rfl) rfl rfl zq0 ?_);(with_reducible refine (impl_engravedText.calls a0_2 t247 _ A10.out).mono ?_);(rintro e w' ⟨rfl, ⟨nd, rfl⟩⟩);(refine ⟨_, rfl, ?_⟩);(refine hK.out _ _ ⟨(blk_cell BK243.out 0).trans rfl, (blk_cell BK243.out 1).trans rfl, (blk_cell BK243.out 2).trans rfl⟩ (fun hHeld => ?_));clear hK K;(refine norm_ (a' := ?_) ?_ ?_);rotate_left
       ·show Act.put _ (some 18) _ = _
        (simp only [Act.put, sA]);rfl
       (refine pI (i := 13) (N := some 19) (v := ?_) (a' := ?_) (mB 15 16383) rfl rfl HT_.out (by kernel_rfl) (fun _ _ _ h => h) rfl ?_ ?_ ?_);rotate_left
       ·intro w'
        go_simp;(with_reducible rfl)
       rotate_left
       ·simp only [Act.put, sA]
        rfl
       (refine pI (i := 14) (N := some 2) (v := ?_) (a' := ?_) (mB 15 32767) rfl rfl HT_.out (by kernel_rfl) (fun _ _ _ h => h) rfl ?_ ?_ ?_);rotate_left
       ·intro w'
        go_simp;(with_reducible rfl)
       rotate_left
       ·simp only [Act.put, sA]
        rfl
       (refine done_ (done_of HT_.out (by kernel_rfl)) ?_);(try go_wp2);(go_ret);(exact ⟨zq40, zq51⟩)
      ·rw [if_neg c11] at H
       exact absurd H (by simp)
     ·rw [if_neg c9] at H
      exact absurd H (by simp)
    ·rw [if_neg c8] at H
     exact absurd H (by simp)
   ·rw [if_neg c6] at H
    exact absurd H (by simp)
  ·rw [if_neg c5] at H
   exact absurd H (by simp)
 ·replace c3 := Bool.eq_false_iff.mpr c3
  subst c3;(have H1 : (some (⟨#[]⟩ : ByteArray)) = some r := zq91);clear H;(have H := H1);clear H1;(obtain rfl := Option.some.inj H)
  go_enter Tryz.func13, Tryz.ntmps13
  (go_wp2_with (first | ((with_reducible refine gate_dst (N := 1) rfl ?_); refine box_event ?hg (N := 1) ?hd (cs := #[.int .i64 a0_0, .string a0_1, .string a0_2]) (t := 36) ?hr ?_; (case hd => rfl); (case hg => rfl); (case hr => first | (go_simp; done) | (go_simp; rfl)); intro gb243 hg w17 hbox hb; have n0_ := Aside0.mk (below_step zq54 hb); have n1_ := Aside0.mk (hbox); have n2_ := Aside0.mk ((zq83 : w.heap.size ≤ gb243)); have n3_ := Aside0.mk ((zq83 : w.heap.size ≤ gb243)); clear HB; have HB := n0_; have BK243 := n1_; have GW243 := n2_; have GE243 := n3_; clear n0_ n1_ n2_ n3_; clear hb hbox hg; have hcz18_0 : w17.cell? ⟨gb243, 0, none⟩ = some (.int .i64 a0_0) := (blk_cell BK243.out 0).trans rfl; have hcz18_1 : w17.cell? ⟨gb243, 1, none⟩ = some (.string a0_1) := (blk_cell BK243.out 1).trans rfl; have hcz18_2 : w17.cell? ⟨gb243, 2, none⟩ = some (.string a0_2) := (blk_cell BK243.out 2).trans rfl; have hfz18_0 := blk_frozen BK243.out 0; have hfz18_1 := blk_frozen BK243.out 1; have hfz18_2 := blk_frozen BK243.out 2) | ((with_reducible refine gate_callee (f := 33) rfl ?_); refine goesL_ (some 4) rfl rfl Tryz.func33 (by kernel_rfl) rfl #[.agg #[.int .i64 a0_0, .string a0_1, .string a0_2]] rfl zq0 ?_; (with_reducible refine (impl_isEdit.calls a0_0 a0_1 a0_2 false _ A2.out).mono ?_); rintro e w19 ⟨rfl, hb⟩; refine ⟨_, rfl, ?_⟩; have n0_ := Aside0.mk (blk_below (g := gb243) (o := .cells #[.int .i64 a0_0, .string a0_1, .string a0_2] 36 (0, 0)) zq13 hb); have n1_ := Aside0.mk (below_step zq51 hb); clear BK243; clear HB; have BK243 := n0_; have HB := n1_; clear n0_ n1_; (try clear hb); (try clear hb2); (try clear hk); (try clear hi))));(go_ret);(exact ⟨zq40, zq51⟩)

/-! ### strings_Split: function 29 -/
-- given by hand
def laySplit_ren : Go.Shelf.Ren := ⟨(fun | 146 => 29 | 221 => 48 | 268 => 56 | 138 => 57 | 143 => 58 | 195 => 65 | 197 => 66 | 218 => 67 | 219 => 68 | 260 => 85 | 217 => 86 | 225 => 87 | 224 => 88 | 267 => 89 | 266 => 103 | 314 => 104 | n => n), (fun | 9 => 9 | 31 => 24 | 3 => 3 | 4 => 4 | 0 => 0 | 105 => 93 | 21 => 21 | 5 => 5 | 46 => 75 | 119 => 128 | 139 => 131 | 138 => 130 | 146 => 132 | 51 => 122 | n => n), (fun | 1 => 0 | 3 => 4 | 4 => 5 | n => n)⟩
theorem laySplit : Go.Proofs.Lays.n146 Tryz.prog laySplit_ren := { mixed := by kernel_rfl, f138 := Tryz.func57.trans (congrArg some (by kernel_rfl)), f143 := Tryz.func58.trans (congrArg some (by kernel_rfl)), f146 := Tryz.func29.trans (congrArg some (by kernel_rfl)), f195 := Tryz.func65.trans (congrArg some (by kernel_rfl)), f197 := Tryz.func66.trans (congrArg some (by kernel_rfl)), f217 := Tryz.func86.trans (congrArg some (by kernel_rfl)), f218 := Tryz.func67.trans (congrArg some (by kernel_rfl)), f219 := Tryz.func68.trans (congrArg some (by kernel_rfl)), f221 := Tryz.func48.trans (congrArg some (by kernel_rfl)), f224 := Tryz.func88.trans (congrArg some (by kernel_rfl)), f225 := Tryz.func87.trans (congrArg some (by kernel_rfl)), f260 := Tryz.func85.trans (congrArg some (by kernel_rfl)), f266 := Tryz.func103.trans (congrArg some (by kernel_rfl)), f267 := Tryz.func89.trans (congrArg some (by kernel_rfl)), f268 := Tryz.func56.trans (congrArg some (by kernel_rfl)), f314 := Tryz.func104.trans (congrArg some (by kernel_rfl)), t0 := Tryz.underlying0, a0 := Tryz.isAgg0, z0 := Tryz.sizeOf0, v0 := Tryz.zeroValue0, t3 := Tryz.underlying3, a3 := Tryz.isAgg3, z3 := Tryz.sizeOf3, v3 := Tryz.zeroValue3, t4 := Tryz.underlying4, a4 := Tryz.isAgg4, z4 := Tryz.sizeOf4, v4 := Tryz.zeroValue4, t5 := Tryz.underlying5, a5 := Tryz.isAgg5, z5 := Tryz.sizeOf5, v5 := Tryz.zeroValue5, t9 := Tryz.underlying9, a9 := Tryz.isAgg9, z9 := Tryz.sizeOf9, v9 := Tryz.zeroValue9, t21 := Tryz.underlying21, a21 := Tryz.isAgg21, z21 := Tryz.sizeOf21, v21 := Tryz.zeroValue21, t31 := Tryz.underlying24, a31 := Tryz.isAgg24, z31 := Tryz.sizeOf24, v31 := Tryz.zeroValue24, t46 := Tryz.underlying75, a46 := Tryz.isAgg75, z46 := Tryz.sizeOf75, v46 := Tryz.zeroValue75, t51 := Tryz.underlying122, a51 := Tryz.isAgg122, z51 := Tryz.sizeOf122, v51 := Tryz.zeroValue122, t105 := Tryz.underlying93, a105 := Tryz.isAgg93, z105 := Tryz.sizeOf93, v105 := Tryz.zeroValue93, t119 := Tryz.underlying128, a119 := Tryz.isAgg128, z119 := Tryz.sizeOf128, t138 := Tryz.underlying130, a138 := Tryz.isAgg130, z138 := Tryz.sizeOf130, v138 := Tryz.zeroValue130, t139 := Tryz.underlying131, a139 := Tryz.isAgg131, z139 := Tryz.sizeOf131, v139 := Tryz.zeroValue131, t146 := Tryz.underlying132, a146 := Tryz.isAgg132, z146 := Tryz.sizeOf132, v146 := Tryz.zeroValue132, g1 := by kernel_rfl, g3 := by kernel_rfl, g4 := by kernel_rfl }

def strings_Split.f (a0 a1 : ByteArray) : Option (List ByteArray) := if a0.size < 4294967281 ∧ 1 ≤ a1.size then some (Go.Lib.splitB a1 0 (Go.Lib.countB a0 a1) a0) else none
theorem strings_Split.calls (a0 a1 : ByteArray) (r : List ByteArray) (w : World) (h : strings_Split.f a0 a1 = some r) (hL : LibW w) :
  Calls Tryz.prog 29 #[.string a0, .string a1] w fun e w' => ∃ v0_ : Value, e = .returned (v0_) ∧ Kd.R Kd.string 9 w' w.heap.size (fun _ => True) v0_ r ∧ Below w.heap.size w w' := by
 unfold strings_Split.f at h
 split at h
 ·rename_i hc
  (obtain rfl := Option.some.inj h);(obtain ⟨h0, h1⟩ := hc);(obtain ⟨m, hm⟩ := hL.2.1);(refine (Go.Proofs.Any.strings_Split laySplit (by kernel_rfl) a0 a1 m w h0 hm h1).mono ?_);(have hlen := Go.Lib.splitB_all a1 h1 0 _ a0 rfl);(have hcb := Go.Lib.countB_le a1 h1 a0.size a0 (Nat.le_refl _));(generalize Go.Lib.splitB a1 0 (Go.Lib.countB a0 a1) a0 = xs at hlen);(rw [← hlen]);(rintro e w' ⟨rfl, rfl⟩);(refine ⟨_, rfl, Kd.R_of_own (enc := Value.string) (h1 := fun _ => rfl) ?_ (fun _ _ => trivial), below_alloc (Below.refl _ _) _⟩);(have h2 := World.ownsRow_lit (base := w.heap.size) (e := 9) (size := 1) w (xs.map Value.string).toArray xs.length (Nat.le_refl _) (by unfold maxLen; omega) (by simp))
  change (w.alloc (.cells (xs.map Value.string).toArray 9)).ownsRow w.heap.size 9 1 _ xs.length (encs Value.string xs)
  simpa [encs] using h2
 ·cases h


/-! ### stringslite_HasPrefix: function 61 -/
def stringslite_HasPrefix.f (a0 : ByteArray) (a1 : ByteArray) : Option (Bool) := if (a0.size : Int) ≥ (a1.size : Int) then (if 0 ≤ (a1.size : Int) then (if (a1.size : Int) ≤ (a0.size : Int) then (some ((a0.extract 0 ((a1.size : Int) : Int).toNat).toList == a1.toList)) else (none)) else (none)) else (some false)
theorem stringslite_HasPrefix.calls (a0 : ByteArray) (a1 : ByteArray) (r : Bool) (w : World) (h : stringslite_HasPrefix.f a0 a1 = some r) :
  Calls Tryz.prog 61 #[.string a0, .string a1] w fun e w' => e = .returned (.bool r) ∧ Drawn0 w w' := by
 (have H : (if (a0.size : Int) ≥ (a1.size : Int) then (if 0 ≤ (a1.size : Int) then (if (a1.size : Int) ≤ (a0.size : Int) then (some ((a0.extract 0 ((a1.size : Int) : Int).toNat).toList == a1.toList)) else (none)) else (none)) else (some false)) = some r := h);clear h;(by_cases c3 : (a0.size : Int) ≥ (a1.size : Int))
 ·rw [if_pos c3] at H
  (have c3b0 : decide ((a1.size : Int) ≤ (a0.size : Int)) = true := decide_eq_true c3);(have c3b1 : decide (a1.size ≤ a0.size) = true := decide_eq_true (Int.ofNat_le.mp c3));clear c3;(by_cases c4 : 0 ≤ (a1.size : Int))
  ·rw [if_pos c4] at H
   (have c4b0 := eq_true c4);(have c4b1 : decide (0 ≤ (a1.size : Int)) = true := decide_eq_true c4);clear c4;(by_cases c5 : (a1.size : Int) ≤ (a0.size : Int))
   ·rw [if_pos c5] at H
    (have c5b0 := eq_true c5);(have c5b1 : decide ((a1.size : Int) ≤ (a0.size : Int)) = true := decide_eq_true c5);clear c5;(obtain rfl := Option.some.inj H)
    go_enter Tryz.func61, Tryz.ntmps61
    (go_wp2);(go_ret);(exact ⟨zq41, zq76⟩)
   ·rw [if_neg c5] at H
    exact absurd H (by simp)
  ·rw [if_neg c4] at H
   exact absurd H (by simp)
 ·rw [if_neg c3] at H
  (have c3b0 : decide ((a1.size : Int) ≤ (a0.size : Int)) = false := decide_eq_false c3);(have c3b1 : decide (a1.size ≤ a0.size) = false := decide_eq_false (fun h => c3 (Int.ofNat_le.mpr h)));clear c3;(obtain rfl := Option.some.inj H)
  go_enter Tryz.func61, Tryz.ntmps61
  (go_wp2);(go_ret);(exact ⟨zq41, zq76⟩)

/-! ### stringslite_TrimPrefix: function 50 -/
def stringslite_TrimPrefix.f (a0 : ByteArray) (a1 : ByteArray) : Option (ByteArray) := (stringslite_HasPrefix.f a0 a1).bind fun t248 => (if t248 = true then (if 0 ≤ (a1.size : Int) then (if (a1.size : Int) ≤ (a0.size : Int) then (some (a0.extract ((a1.size : Int) : Int).toNat a0.size)) else (none)) else (none)) else (some a0))
theorem stringslite_TrimPrefix.calls (a0 : ByteArray) (a1 : ByteArray) (r : ByteArray) (w : World) (h : stringslite_TrimPrefix.f a0 a1 = some r) :
  Calls Tryz.prog 50 #[.string a0, .string a1] w fun e w' => e = .returned (.string r) ∧ Drawn0 w w' := by
 (have H : ((stringslite_HasPrefix.f a0 a1).bind fun t248 => (if t248 = true then (if 0 ≤ (a1.size : Int) then (if (a1.size : Int) ≤ (a0.size : Int) then (some (a0.extract ((a1.size : Int) : Int).toNat a0.size)) else (none)) else (none)) else (some a0))) = some r := h);clear h;(replace H := Option.bind_eq_some_iff.mp H);(obtain ⟨t248, A30, H⟩ := H);(replace H : (if t248 = true then (if 0 ≤ (a1.size : Int) then (if (a1.size : Int) ≤ (a0.size : Int) then (some (a0.extract ((a1.size : Int) : Int).toNat a0.size)) else (none)) else (none)) else (some a0)) = some r := H);(have A3 := Aside0.mk A30);clear A30;(by_cases c4 : t248 = true)
 ·subst c4
  (have H1 : (if 0 ≤ (a1.size : Int) then (if (a1.size : Int) ≤ (a0.size : Int) then (some (a0.extract ((a1.size : Int) : Int).toNat a0.size)) else (none)) else (none)) = some r := zq92);clear H;(have H := H1);clear H1;(by_cases c5 : 0 ≤ (a1.size : Int))
  ·rw [if_pos c5] at H
   (have c5b0 := eq_true c5);(have c5b1 : decide (0 ≤ (a1.size : Int)) = true := decide_eq_true c5);clear c5;(by_cases c6 : (a1.size : Int) ≤ (a0.size : Int))
   ·rw [if_pos c6] at H
    (have c6b0 := eq_true c6);(have c6b1 : decide ((a1.size : Int) ≤ (a0.size : Int)) = true := decide_eq_true c6);clear c6;(obtain rfl := Option.some.inj H)
    go_enter Tryz.func50, Tryz.ntmps50
    (go_wp2_with (first | ((with_reducible refine gate_callee (f := 61) rfl ?_); refine goesL_ (some 7) rfl rfl Tryz.func61 (by kernel_rfl) rfl #[.string a0, .string a1] rfl zq0 ?_; (with_reducible refine (stringslite_HasPrefix.calls a0 a1 true _ A3.out).mono ?_); rintro e w' ⟨rfl, ⟨nd, rfl⟩⟩; refine ⟨_, rfl, ?_⟩)));(go_ret);(exact ⟨zq41, zq76⟩)
   ·rw [if_neg c6] at H
    exact absurd H (by simp)
  ·rw [if_neg c5] at H
   exact absurd H (by simp)
 ·replace c4 := Bool.eq_false_iff.mpr c4
  subst c4;(have H1 : (some a0) = some r := zq91);clear H;(have H := H1);clear H1;(obtain rfl := Option.some.inj H)
  go_enter Tryz.func50, Tryz.ntmps50
  (go_wp2_with (first | ((with_reducible refine gate_callee (f := 61) rfl ?_); refine goesL_ (some 7) rfl rfl Tryz.func61 (by kernel_rfl) rfl #[.string a0, .string a1] rfl zq0 ?_; (with_reducible refine (stringslite_HasPrefix.calls a0 a1 false _ A3.out).mono ?_); rintro e w' ⟨rfl, ⟨nd, rfl⟩⟩; refine ⟨_, rfl, ?_⟩)));(go_ret);(exact ⟨zq41, zq76⟩)

/-! ### strings_TrimPrefix: function 31 -/
def strings_TrimPrefix.f (a0 : ByteArray) (a1 : ByteArray) : Option (ByteArray) := (stringslite_TrimPrefix.f a0 a1).bind fun t249 => (some t249)
theorem strings_TrimPrefix.calls (a0 : ByteArray) (a1 : ByteArray) (r : ByteArray) (w : World) (h : strings_TrimPrefix.f a0 a1 = some r) :
  Calls Tryz.prog 31 #[.string a0, .string a1] w fun e w' => e = .returned (.string r) ∧ Drawn0 w w' := by
 (have H : ((stringslite_TrimPrefix.f a0 a1).bind fun t249 => (some t249)) = some r := h);clear h;(replace H := Option.bind_eq_some_iff.mp H);(obtain ⟨t249, A30, H⟩ := H);(replace H : (some t249) = some r := H);(have A3 := Aside0.mk A30);clear A30;(obtain rfl := Option.some.inj H)
 go_enter Tryz.func31, Tryz.ntmps31
 (go_wp2_with (first | ((with_reducible refine gate_callee (f := 50) rfl ?_); refine goesL_ (some 7) rfl rfl Tryz.func50 (by kernel_rfl) rfl #[.string a0, .string a1] rfl zq0 ?_; (with_reducible refine (stringslite_TrimPrefix.calls a0 a1 t249 _ A3.out).mono ?_); rintro e w' ⟨rfl, ⟨nd, rfl⟩⟩; refine ⟨_, rfl, ?_⟩)));(go_ret);(exact ⟨zq41, zq76⟩)

/-! ### impl_ReadDecimal: function 30 -/
-- given by hand
def layPI_ren : Go.Shelf.Ren := ⟨(fun | 174 => 49 | 247 => 59 | 245 => 60 | 287 => 69 | 279 => 70 | 280 => 71 | 281 => 72 | 282 => 73 | 321 => 90 | 322 => 91 | 316 => 92 | 171 => 94 | 205 => 93 | 243 => 105 | 246 => 62 | 283 => 74 | 284 => 75 | 285 => 76 | 286 => 77 | 129 => 96 | 317 => 95 | 318 => 97 | 319 => 98 | 320 => 99 | 337 => 106 | 338 => 107 | n => n), (fun | 9 => 9 | 3 => 3 | 2 => 2 | 75 => 81 | 85 => 82 | 4 => 4 | 167 => 96 | 5 => 5 | 53 => 64 | 175 => 97 | 46 => 75 | 168 => 99 | 37 => 22 | 0 => 0 | 210 => 118 | 21 => 21 | 127 => 134 | 145 => 137 | 143 => 135 | 171 => 103 | 173 => 106 | 212 => 121 | 51 => 122 | 20 => 20 | 213 => 123 | 232 => 140 | 233 => 141 | 80 => 143 | n => n), (fun | 15 => 1 | 16 => 2 | 17 => 3 | 18 => 6 | 19 => 7 | n => n)⟩
theorem layPI : Go.Proofs.Lays.n174 Tryz.prog layPI_ren := { mixed := by kernel_rfl, f129 := Tryz.func96.trans (congrArg some (by kernel_rfl)), f171 := Tryz.func94.trans (congrArg some (by kernel_rfl)), f174 := Tryz.func49.trans (congrArg some (by kernel_rfl)), f205 := Tryz.func93.trans (congrArg some (by kernel_rfl)), f243 := Tryz.func105.trans (congrArg some (by kernel_rfl)), f245 := Tryz.func60.trans (congrArg some (by kernel_rfl)), f246 := Tryz.func62.trans (congrArg some (by kernel_rfl)), f247 := Tryz.func59.trans (congrArg some (by kernel_rfl)), f279 := Tryz.func70.trans (congrArg some (by kernel_rfl)), f280 := Tryz.func71.trans (congrArg some (by kernel_rfl)), f281 := Tryz.func72.trans (congrArg some (by kernel_rfl)), f282 := Tryz.func73.trans (congrArg some (by kernel_rfl)), f283 := Tryz.func74.trans (congrArg some (by kernel_rfl)), f284 := Tryz.func75.trans (congrArg some (by kernel_rfl)), f285 := Tryz.func76.trans (congrArg some (by kernel_rfl)), f286 := Tryz.func77.trans (congrArg some (by kernel_rfl)), f287 := Tryz.func69.trans (congrArg some (by kernel_rfl)), f316 := Tryz.func92.trans (congrArg some (by kernel_rfl)), f317 := Tryz.func95.trans (congrArg some (by kernel_rfl)), f318 := Tryz.func97.trans (congrArg some (by kernel_rfl)), f319 := Tryz.func98.trans (congrArg some (by kernel_rfl)), f320 := Tryz.func99.trans (congrArg some (by kernel_rfl)), f321 := Tryz.func90.trans (congrArg some (by kernel_rfl)), f322 := Tryz.func91.trans (congrArg some (by kernel_rfl)), f337 := Tryz.func106.trans (congrArg some (by kernel_rfl)), f338 := Tryz.func107.trans (congrArg some (by kernel_rfl)), t0 := Tryz.underlying0, a0 := Tryz.isAgg0, z0 := Tryz.sizeOf0, v0 := Tryz.zeroValue0, t2 := Tryz.underlying2, a2 := Tryz.isAgg2, z2 := Tryz.sizeOf2, v2 := Tryz.zeroValue2, t3 := Tryz.underlying3, a3 := Tryz.isAgg3, z3 := Tryz.sizeOf3, v3 := Tryz.zeroValue3, t4 := Tryz.underlying4, a4 := Tryz.isAgg4, z4 := Tryz.sizeOf4, v4 := Tryz.zeroValue4, t5 := Tryz.underlying5, a5 := Tryz.isAgg5, z5 := Tryz.sizeOf5, v5 := Tryz.zeroValue5, t9 := Tryz.underlying9, a9 := Tryz.isAgg9, z9 := Tryz.sizeOf9, v9 := Tryz.zeroValue9, t20 := Tryz.underlying20, a20 := Tryz.isAgg20, z20 := Tryz.sizeOf20, v20 := Tryz.zeroValue20, t21 := Tryz.underlying21, a21 := Tryz.isAgg21, z21 := Tryz.sizeOf21, v21 := Tryz.zeroValue21, t37 := Tryz.underlying22, a37 := Tryz.isAgg22, z37 := Tryz.sizeOf22, v37 := Tryz.zeroValue22, t46 := Tryz.underlying75, a46 := Tryz.isAgg75, z46 := Tryz.sizeOf75, v46 := Tryz.zeroValue75, t51 := Tryz.underlying122, a51 := Tryz.isAgg122, z51 := Tryz.sizeOf122, v51 := Tryz.zeroValue122, t53 := Tryz.underlying64, a53 := Tryz.isAgg64, z53 := Tryz.sizeOf64, v53 := Tryz.zeroValue64, t75 := Tryz.underlying81, a75 := Tryz.isAgg81, z75 := Tryz.sizeOf81, v75 := Tryz.zeroValue81, t85 := Tryz.underlying82, a85 := Tryz.isAgg82, z85 := Tryz.sizeOf82, v85 := Tryz.zeroValue82, t127 := Tryz.underlying134, a127 := Tryz.isAgg134, z127 := Tryz.sizeOf134, v127 := Tryz.zeroValue134, t143 := Tryz.underlying135, a143 := Tryz.isAgg135, z143 := Tryz.sizeOf135, v143 := Tryz.zeroValue135, t145 := Tryz.underlying137, a145 := Tryz.isAgg137, z145 := Tryz.sizeOf137, v145 := Tryz.zeroValue137, t167 := Tryz.underlying96, a167 := Tryz.isAgg96, z167 := Tryz.sizeOf96, v167 := Tryz.zeroValue96, t168 := Tryz.underlying99, a168 := Tryz.isAgg99, z168 := Tryz.sizeOf99, v168 := Tryz.zeroValue99, t171 := Tryz.underlying103, a171 := Tryz.isAgg103, z171 := Tryz.sizeOf103, v171 := Tryz.zeroValue103, t173 := Tryz.underlying106, a173 := Tryz.isAgg106, z173 := Tryz.sizeOf106, v173 := Tryz.zeroValue106, t175 := Tryz.underlying97, a175 := Tryz.isAgg97, z175 := Tryz.sizeOf97, v175 := Tryz.zeroValue97, t210 := Tryz.underlying118, a210 := Tryz.isAgg118, z210 := Tryz.sizeOf118, v210 := Tryz.zeroValue118, t212 := Tryz.underlying121, a212 := Tryz.isAgg121, z212 := Tryz.sizeOf121, v212 := Tryz.zeroValue121, t213 := Tryz.underlying123, a213 := Tryz.isAgg123, z213 := Tryz.sizeOf123, t232 := Tryz.underlying140, a232 := Tryz.isAgg140, z232 := Tryz.sizeOf140, v232 := Tryz.zeroValue140, t233 := Tryz.underlying141, a233 := Tryz.isAgg141, z233 := Tryz.sizeOf141, v233 := Tryz.zeroValue141, g15 := by kernel_rfl, g16 := by kernel_rfl, g17 := by kernel_rfl, g18 := by kernel_rfl, g19 := by kernel_rfl }
theorem layPIM : Go.Proofs.LaysM.n174 Tryz.prog layPI_ren := { layPI with t80 := by kernel_rfl, a80 := Tryz.isAgg143, z80 := Tryz.sizeOf143, v80 := Tryz.zeroValue143, i0 := by kernel_rfl, i2 := by kernel_rfl, i3 := by kernel_rfl, i4 := by kernel_rfl, i5 := by kernel_rfl, i9 := by kernel_rfl, i20 := by kernel_rfl, i21 := by kernel_rfl, i37 := by kernel_rfl, i46 := by kernel_rfl, i51 := by kernel_rfl, i53 := by kernel_rfl, i75 := by kernel_rfl, i80 := by kernel_rfl, i85 := by kernel_rfl, i127 := by kernel_rfl, i143 := by kernel_rfl, i145 := by kernel_rfl, i167 := by kernel_rfl, i168 := by kernel_rfl, i171 := by kernel_rfl, i173 := by kernel_rfl, i175 := by kernel_rfl, i210 := by kernel_rfl, i212 := by kernel_rfl, i232 := by kernel_rfl, i233 := by kernel_rfl, m15 := by kernel_rfl, m16 := by kernel_rfl, m17 := by kernel_rfl, m18 := by kernel_rfl, m19 := by kernel_rfl }
theorem layPIC : Go.Proofs.LaysC.n174 Tryz.prog layPI_ren := { layPIM with c0 := by kernel_rfl, c2 := by kernel_rfl, c3 := by kernel_rfl, c4 := by kernel_rfl, c5 := by kernel_rfl, c9 := by kernel_rfl, c20 := by kernel_rfl, c21 := by kernel_rfl, c37 := by kernel_rfl, c46 := by kernel_rfl, c51 := by kernel_rfl, c53 := by kernel_rfl, c75 := by kernel_rfl, c80 := by kernel_rfl, c85 := by kernel_rfl, c127 := by kernel_rfl, c143 := by kernel_rfl, c145 := by kernel_rfl, c167 := by kernel_rfl, c168 := by kernel_rfl, c171 := by kernel_rfl, c173 := by kernel_rfl, c175 := by kernel_rfl, c210 := by kernel_rfl, c212 := by kernel_rfl, c213 := by kernel_rfl, c232 := by kernel_rfl, c233 := by kernel_rfl }

def impl_ReadDecimal.f (a0 : ByteArray) : Option (Int × Bool) := if a0.size ≤ 281474976710656 then (match Go.Lib.parseIntB 64 a0.data.toList with | .ok v => (impl_Decimal.f v).bind fun t => (if t.toList = a0.toList then ((strings_TrimPrefix.f a0 (⟨#[45]⟩ : ByteArray)).bind fun u => if 18 < (u.size : Int) then some (0, false) else some (v, true)) else some (0, false)) | _ => some (0, false)) else none
theorem impl_ReadDecimal.calls (a0 : ByteArray) (r1 : Int) (r2 : Bool) (w : World) (h : impl_ReadDecimal.f a0 = some (r1, r2)) (hL : LibW w) :
  Calls Tryz.prog 30 #[.string a0] w fun e w' => e = .returned (.tuple #[.int .i64 r1, .bool r2]) ∧ Below w.heap.size w w' := by
 (unfold impl_ReadDecimal.f at h);(by_cases hsz : a0.size ≤ 281474976710656)
 ·rw [if_pos hsz] at h
  (have HL := Aside0.mk hL);(have HB := Aside0.mk (Below.refl w.heap.size w))
  cases hp : Go.Lib.parseIntB 64 a0.data.toList with
  | «syntax» =>
   (rw [hp] at h);(obtain ⟨rfl, rfl⟩ := Prod.mk.inj (Option.some.inj (show some ((0 : Int), false) = some (r1, r2) from h)));clear h;(obtain ⟨tp, p, hcell⟩ := HL.out.2.2.1);clear hL
   go_enter Tryz.func30, Tryz.ntmps30
   (go_wp2_with (go_at_call 49; refine (Go.Proofs.Any.strconv_ParseInt_10_at64_syntax layPIC a0 hsz hp _ w hcell (Or.inr ⟨tp, p, rfl⟩)).mono ?_; rintro e w2 ⟨N, rfl, hN, hblk, hb⟩; have HB2 := Aside0.mk hb; clear hblk hb hN));(go_ret2);(exact ⟨rfl, HB2.out⟩)
  | range =>
   (rw [hp] at h);(obtain ⟨rfl, rfl⟩ := Prod.mk.inj (Option.some.inj (show some ((0 : Int), false) = some (r1, r2) from h)));clear h;(obtain ⟨tp, p, hcell⟩ := HL.out.2.2.2);clear hL
   go_enter Tryz.func30, Tryz.ntmps30
   (go_wp2_with (go_at_call 49; refine (Go.Proofs.Any.strconv_ParseInt_10_at64_range layPIC a0 hsz hp _ w hcell (Or.inr ⟨tp, p, rfl⟩)).mono ?_; rintro e w2 ⟨N, rfl, hN, hblk, hb⟩; have HB2 := Aside0.mk hb; clear hblk hb hN));(go_ret2);(exact ⟨rfl, HB2.out⟩)
  | ok v =>
   (rw [hp] at h);(replace h : ((impl_Decimal.f v).bind fun t => (if t.toList = a0.toList then ((strings_TrimPrefix.f a0 (⟨#[45]⟩ : ByteArray)).bind fun u => if 18 < (u.size : Int) then some (0, false) else some (v, true)) else some (0, false))) = some (r1, r2) := h);(have h0 := h);clear h;(obtain ⟨t, e1, h⟩ := Option.bind_eq_some_iff.1 h0);clear h0;(have A1 := Aside0.mk e1);(have HP := Aside0.mk hp);(have HS := Aside0.mk hsz);clear e1 hp hsz hL;(by_cases c1 : t.toList = a0.toList)
   ·rw [if_pos c1] at h
    (have c1b0 : (t.toList == a0.toList) = true := beq_iff_eq.2 c1);(have c1b1 : (t.toList != a0.toList) = false := bne_eq_false_iff_eq.2 c1);clear c1;(have h0 := h);clear h;(obtain ⟨u, e2, h⟩ := Option.bind_eq_some_iff.1 h0);clear h0;(have A2 := Aside0.mk e2);clear e2;(by_cases c2 : 18 < (u.size : Int))
    ·rw [if_pos c2] at h
     (obtain ⟨rfl, rfl⟩ := Prod.mk.inj (Option.some.inj h));(have c2b0 : decide (18 < (u.size : Int)) = true := decide_eq_true c2);(have c2b1 : decide (18 < u.size) = true := decide_eq_true (by omega));clear h c2
     go_enter Tryz.func30, Tryz.ntmps30
     (go_wp2_with (first | (go_at_call 49; refine (Go.Proofs.Any.strconv_ParseInt_10_at64_ok layPIC a0 (by have := HS.out; omega) v HP.out w).mono ?_; rintro e w2 ⟨rfl, hw2⟩; have hb : Below w.heap.size w w2 := zq43; clear hw2; have HB2 := Aside0.mk hb; clear hb HB) | (go_at_call 34; refine (impl_Decimal.calls v t _ A1.out (HL.out.below HB2.out)).mono ?_; rintro e w3 ⟨rfl, hb⟩; have HB3 := Aside0.mk (below_step HB2.out hb); clear hb HB2) | (go_at_call 31; refine (strings_TrimPrefix.calls a0 (⟨#[45]⟩ : ByteArray) u _ A2.out).mono ?_; rintro e w4 ⟨rfl, ⟨nd4, rfl⟩⟩)));(go_ret2);(exact ⟨rfl, zq36⟩)
    ·rw [if_neg c2] at h
     (obtain ⟨rfl, rfl⟩ := Prod.mk.inj (Option.some.inj h));(have c2b0 : decide (18 < (u.size : Int)) = false := decide_eq_false c2);(have c2b1 : decide (18 < u.size) = false := decide_eq_false (by omega));clear h c2
     go_enter Tryz.func30, Tryz.ntmps30
     (go_wp2_with (first | (go_at_call 49; refine (Go.Proofs.Any.strconv_ParseInt_10_at64_ok layPIC a0 (by have := HS.out; omega) v HP.out w).mono ?_; rintro e w2 ⟨rfl, hw2⟩; have hb : Below w.heap.size w w2 := zq43; clear hw2; have HB2 := Aside0.mk hb; clear hb HB) | (go_at_call 34; refine (impl_Decimal.calls v t _ A1.out (HL.out.below HB2.out)).mono ?_; rintro e w3 ⟨rfl, hb⟩; have HB3 := Aside0.mk (below_step HB2.out hb); clear hb HB2) | (go_at_call 31; refine (strings_TrimPrefix.calls a0 (⟨#[45]⟩ : ByteArray) u _ A2.out).mono ?_; rintro e w4 ⟨rfl, ⟨nd4, rfl⟩⟩)));(go_ret2);(exact ⟨rfl, zq36⟩)
   ·rw [if_neg c1] at h
    (obtain ⟨rfl, rfl⟩ := Prod.mk.inj (Option.some.inj h));(have c1b0 : (t.toList == a0.toList) = false := beq_eq_false_iff_ne.2 c1);(have c1b1 : (t.toList != a0.toList) = true := bne_iff_ne.2 c1);clear h c1
    go_enter Tryz.func30, Tryz.ntmps30
    (go_wp2_with (first | (go_at_call 49; refine (Go.Proofs.Any.strconv_ParseInt_10_at64_ok layPIC a0 (by have := HS.out; omega) v HP.out w).mono ?_; rintro e w2 ⟨rfl, hw2⟩; have hb : Below w.heap.size w w2 := zq43; clear hw2; have HB2 := Aside0.mk hb; clear hb HB) | (go_at_call 34; refine (impl_Decimal.calls v t _ A1.out (HL.out.below HB2.out)).mono ?_; rintro e w3 ⟨rfl, hb⟩; have HB3 := Aside0.mk (below_step HB2.out hb); clear hb HB2) | (go_at_call 31; refine (strings_TrimPrefix.calls a0 (⟨#[45]⟩ : ByteArray) u _ A2.out).mono ?_; rintro e w4 ⟨rfl, ⟨nd4, rfl⟩⟩)));(go_ret2);(exact ⟨rfl, zq36⟩)
 ·rw [if_neg hsz] at h
  cases h


/-! ### impl_readEngraved: function 32 -/
def impl_readEngraved.f (a0 : ByteArray) : Option (ByteArray) := if a0.toList = ([45] : List UInt8) then (some (⟨#[]⟩ : ByteArray)) else (some a0)
theorem impl_readEngraved.calls (a0 : ByteArray) (r : ByteArray) (w : World) (h : impl_readEngraved.f a0 = some r) :
  Calls Tryz.prog 32 #[.string a0] w fun e w' => e = .returned (.string r) ∧ Drawn0 w w' := by
 (have H : (if a0.toList = ([45] : List UInt8) then (some (⟨#[]⟩ : ByteArray)) else (some a0)) = some r := h);clear h;(by_cases c2 : a0.toList = ([45] : List UInt8))
 ·rw [if_pos c2] at H
  (have c2b0 : (a0.toList == ([45] : List UInt8)) = true := beq_iff_eq.mpr c2);(have c2b1 : (a0.toList != ([45] : List UInt8)) = false := bne_eq_false_iff_eq.mpr c2);clear c2;(obtain rfl := Option.some.inj H)
  go_enter Tryz.func32, Tryz.ntmps32
  (go_wp2);(go_ret);(exact ⟨zq41, zq76⟩)
 ·rw [if_neg c2] at H
  (have c2b0 : (a0.toList == ([45] : List UInt8)) = false := beq_eq_false_iff_ne.mpr c2);(have c2b1 : (a0.toList != ([45] : List UInt8)) = true := bne_iff_ne.mpr c2);(obtain rfl := Option.some.inj H)
  go_enter Tryz.func32, Tryz.ntmps32
  (go_wp2);(go_ret);(exact ⟨zq41, zq76⟩)

end Go.Proofs.YtlkgajfhgcongaaGreatDoor.PFnEdits
