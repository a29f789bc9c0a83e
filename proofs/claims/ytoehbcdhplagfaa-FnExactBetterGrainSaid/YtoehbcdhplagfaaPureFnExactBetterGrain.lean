/- FnExactBetterGrain: the program's BetterGrain and the reference's come to the same, for all sheets and sides: the same code, and the same four dry lengths. -/
import Derived.Test.YtoehbcdhplagfaaStatFnExactBetterGrain
namespace Go.Proofs.Ytoehbcdhplagfaa.Pure
open Go.RowKit Go.Proofs.Ytoehbcdhplagfaa.PFnExactBetterGrain Go.Proofs.YtoehbcdhplagfaaW.PrintWords Go.Proofs.YtoehbcdhplagfaaW.PrintLast Go.Proofs.YtoehbcdhplagfaaW.PrintMore
set_option linter.unusedVariables false
set_option linter.unusedSimpArgs false
theorem wfb {a : Int} (h : (Lit.int .i64 a).wf = true) : -9223372036854775808 ≤ a ∧ a ≤ 9223372036854775807 := by
  simpa [Lit.wf, IntKind.min, IntKind.max, IntKind.signed, IntKind.bits] using h
theorem w64 {x : Int} (h : -9223372036854775808 ≤ x) (h2 : x ≤ 9223372036854775807) : wrap64 x = x := by unfold wrap64; omega
theorem tdiv_nn {a b : Int} (h : 0 ≤ a) : Int.tdiv a b = a / b := Int.tdiv_eq_ediv_of_nonneg h
theorem tmod_nn {a b : Int} (h : 0 ≤ a) : Int.tmod a b = a % b := Int.tmod_eq_emod_of_nonneg h
theorem floor_val (a b : Int) (hb : 0 < b) : (if Int.tmod a b < 0 then Int.tdiv a b - 1 else Int.tdiv a b) = a / b := by
  have h1 := Int.mul_tdiv_add_tmod a b
  have hlt : Int.tmod a b < b := Int.tmod_lt_of_pos a hb
  have hgt : -b < Int.tmod a b := by
    have h2 := Int.tmod_lt_of_pos (-a) hb
    rw [Int.neg_tmod] at h2
    omega
  symm
  split
  · rename_i hneg
    refine ((Int.ediv_emod_unique hb (r := Int.tmod a b + b)).2 ⟨?_, by omega, by omega⟩).1
    rw [Int.mul_sub, Int.mul_one]
    omega
  · rename_i hneg
    exact ((Int.ediv_emod_unique hb (r := Int.tmod a b)).2 ⟨by omega, by omega, by omega⟩).1
theorem ediv_bd {a b : Int} (hb : 0 < b) (B : Int) (h0 : -B ≤ a) (h1 : a ≤ B) (hB : 0 ≤ B) : -B ≤ a / b ∧ a / b ≤ B := by
  constructor
  · rw [Int.le_ediv_iff_mul_le hb]
    have : B * 1 ≤ B * b := Int.mul_le_mul_of_nonneg_left (by omega) hB
    rw [Int.neg_mul]; omega
  · have h2 : a / b ≤ B / b := Int.ediv_le_ediv hb h1
    have h3 : B / b ≤ B := Int.ediv_le_self b hB
    omega
theorem ceil_alt (a b : Int) (hb : 0 < b) : (a + b - 1) / b = -((-a) / b) := by
  have h1 := Int.mul_ediv_add_emod (-a) b
  have h2 := Int.emod_nonneg (-a) (b := b) (by omega)
  have h3 := Int.emod_lt_of_pos (-a) hb
  refine ((Int.ediv_emod_unique hb (r := b - 1 - (-a) % b)).2 ⟨?_, by omega, by omega⟩).1
  rw [Int.mul_neg]
  omega

theorem floorDiv_val {a b : Int} (hb : 0 < b) (h0 : -4611686018427387904 ≤ a) (h1 : a ≤ 4611686018427387904) : impl_floorDiv.f a b = some (a / b) := by
  have hv := floor_val a b hb
  have hbd := ediv_bd hb 4611686018427387904 h0 h1 (by omega)
  unfold impl_floorDiv.f
  rw [if_neg (by omega)]
  split
  · rename_i hn
    rw [if_pos hn] at hv
    rw [w64 (x := Int.tdiv a b) (by omega) (by omega), w64 (by omega) (by omega), hv]
  · rename_i hn
    rw [if_neg hn] at hv
    rw [w64 (by omega) (by omega), hv]

theorem ceilDiv_val {a b : Int} (hb : 0 < b) (h0 : -4611686018427387904 ≤ a) (h1 : a ≤ 4611686018427387904) : impl_ceilDiv.f a b = some (-((-a) / b)) := by
  have hbd := ediv_bd (a := -a) hb 4611686018427387904 (by omega) (by omega) (by omega)
  unfold impl_ceilDiv.f
  rw [w64 (x := -a) (by omega) (by omega), floorDiv_val hb (by omega) (by omega)]
  simp only [Option.bind_some]
  rw [w64 (by omega) (by omega)]

theorem in_val (a b c : Int) : spec_l00In.f a b c = some (decide (b ≤ a ∧ a ≤ c)) := by
  unfold spec_l00In.f
  by_cases h : a ≥ b <;> by_cases h2 : a ≤ c <;> simp [h, h2] <;> omega
theorem within_val (a b c : Int) : impl_within.f a b c = some (decide (b ≤ a ∧ a ≤ c)) := in_val a b c

/-- The least dry length. -/
def dryV (a g : Int) : Int := (1000 * a + 999 + g) / (1000 + g)
theorem dryV_bd {a g : Int} (h1 : a ≥ 1) (h2 : a ≤ 10000) (h3 : g ≥ 0) (h4 : g ≤ 100) : 1 ≤ dryV a g ∧ dryV a g ≤ a := by
  unfold dryV
  constructor
  · rw [Int.le_ediv_iff_mul_le (by omega)]; omega
  · apply Int.le_of_lt_add_one
    rw [Int.ediv_lt_iff_lt_mul (by omega), Int.add_mul, Int.mul_add]
    have : 0 ≤ a * g := Int.mul_nonneg (by omega) (by omega)
    omega
theorem dry_impl {a g : Int} (h1 : a ≥ 1) (h2 : a ≤ 10000) (h3 : g ≥ 0) (h4 : g ≤ 100) : impl_dryFor.f a g = some (dryV a g) := by
  unfold impl_dryFor.f dryV
  rw [w64 (x := 1000 * a) (by omega) (by omega), w64 (x := 1000 + g) (by omega) (by omega), ceilDiv_val (by omega) (by omega) (by omega)]
  simp only [Option.bind_some]
  rw [← ceil_alt _ _ (by omega)]
  congr 2
  omega
theorem dry_spec {a g : Int} (h1 : a ≥ 1) (h2 : a ≤ 10000) (h3 : g ≥ 0) (h4 : g ≤ 100) : spec_l17Dry.f a g = some (dryV a g) := by
  have hb := dryV_bd h1 h2 h3 h4
  unfold spec_l17Dry.f
  rw [w64 (x := 1000 + g) (by omega) (by omega), if_neg (by omega), w64 (x := 1000 * a) (by omega) (by omega), w64 (x := 1000 * a + 999) (by omega) (by omega), w64 (x := 1000 * a + 999 + g) (by omega) (by omega), tdiv_nn (by omega), w64 (x := (1000 * a + 999 + g) / (1000 + g))]
  · rfl
  all_goals (unfold dryV at hb; omega)

def codeV (ok rg : Prop) [Decidable ok] [Decidable rg] : Int := if ok then (if rg then 0 else 2) else 1
theorem check_val (ok rg : Prop) [Decidable ok] [Decidable rg] : impl_check.f (decide ok) (decide rg) = some (codeV ok rg) := by
  unfold impl_check.f codeV
  by_cases h : ok <;> by_cases h2 : rg <;> simp [h, h2]
theorem check_false (ok : Prop) [Decidable ok] : impl_check.f (decide ok) false = some (codeV ok False) := by
  unfold impl_check.f codeV
  by_cases h : ok <;> simp [h]
theorem codeV_zero (ok rg : Prop) [Decidable ok] [Decidable rg] : codeV ok rg = 0 ↔ (ok ∧ rg) := by
  unfold codeV
  by_cases h : ok <;> by_cases h2 : rg <;> simp [h, h2]

/-- What a sheet must hold. -/
def SheetOk (f0 f1 f2 f3 : Int) : Prop := ((1 : Int) ≤ f0 ∧ f0 ≤ 10000) ∧ ((1 : Int) ≤ f1 ∧ f1 ≤ 10000) ∧ ((0 : Int) ≤ f2 ∧ f2 ≤ 100) ∧ ((0 : Int) ≤ f3 ∧ f3 ≤ 100)
instance instSheetOk (f0 f1 f2 f3 : Int) : Decidable (SheetOk f0 f1 f2 f3) := by unfold SheetOk; infer_instance
theorem side_spec (a : Int) : spec_l17Side.f a = some (decide (1 ≤ a ∧ a ≤ 10000)) := by unfold spec_l17Side.f; rw [in_val]; rfl
theorem grow_spec (a : Int) : spec_l17Grows.f a = some (decide (0 ≤ a ∧ a ≤ 100)) := by unfold spec_l17Grows.f; rw [in_val]; rfl
theorem side_impl (a : Int) : impl_isSide.f a = some (decide (1 ≤ a ∧ a ≤ 10000)) := by unfold impl_isSide.f; rw [within_val]; rfl
theorem grow_impl (a : Int) : impl_isStretch.f a = some (decide (0 ≤ a ∧ a ≤ 100)) := by unfold impl_isStretch.f; rw [within_val]; rfl
theorem four_dec (p q r s : Prop) [Decidable p] [Decidable q] [Decidable r] [Decidable s] : (if decide p = true then (if decide q = true then (if decide r = true then some (decide s) else some false) else some false) else some false) = some (decide (p ∧ q ∧ r ∧ s)) := by
  by_cases h1 : p <;> by_cases h2 : q <;> by_cases h3 : r <;> by_cases h4 : s <;> simp [h1, h2, h3, h4]
theorem sheet_spec (f0 f1 f2 f3 : Int) : spec_l17Ok.f f0 f1 f2 f3 = some (decide (SheetOk f0 f1 f2 f3)) := by
  unfold spec_l17Ok.f
  rw [side_spec, side_spec, grow_spec, grow_spec]
  exact four_dec _ _ _ _
theorem sheet_impl (f0 f1 f2 f3 : Int) : impl_ValidSheet.f f0 f1 f2 f3 = some (decide (SheetOk f0 f1 f2 f3)) := by
  unfold impl_ValidSheet.f
  rw [side_impl, side_impl, grow_impl, grow_impl]
  exact four_dec _ _ _ _

/-- Both sides of a piece. -/
def SidesOk (x y : Int) : Prop := ((1 : Int) ≤ x ∧ x ≤ 10000) ∧ ((1 : Int) ≤ y ∧ y ≤ 10000)
instance instSidesOk (x y : Int) : Decidable (SidesOk x y) := by unfold SidesOk; infer_instance
theorem piece_spec (f0 f1 f2 f3 x y : Int) : spec_l17Piece.f f0 f1 f2 f3 x y = some (codeV (SheetOk f0 f1 f2 f3) (SidesOk x y)) := by
  unfold spec_l17Piece.f codeV
  rw [sheet_spec, side_spec, side_spec]
  simp only [Option.bind_some, SidesOk]
  by_cases h1 : SheetOk f0 f1 f2 f3 <;> by_cases h2 : (1 ≤ x ∧ x ≤ 10000) <;> by_cases h3 : (1 ≤ y ∧ y ≤ 10000) <;> simp [h1, h2, h3]

theorem piece_impl (f0 f1 f2 f3 x y : Int) : impl_pieceCode.f f0 f1 f2 f3 x y = some (codeV (SheetOk f0 f1 f2 f3) (SidesOk x y)) := by
  unfold impl_pieceCode.f
  rw [sheet_impl, side_impl, side_impl]
  simp only [Option.bind_some]
  by_cases h2 : (1 ≤ x ∧ x ≤ 10000)
  · rw [if_pos (by simp [h2])]
    rw [check_val]
    simp only [Option.bind_some]
    congr 1
    unfold codeV SidesOk
    by_cases h1 : SheetOk f0 f1 f2 f3 <;> by_cases h3 : (1 ≤ y ∧ y ≤ 10000) <;> simp [h1, h2, h3]
  · rw [if_neg (by simp [h2]), check_false]
    simp only [Option.bind_some]
    congr 1
    unfold codeV SidesOk
    by_cases h1 : SheetOk f0 f1 f2 f3 <;> simp [h1, h2]

theorem FnExactBetterGrain : laws_FnExactBetterGrain.Pure := by
  intro a0 a1 a2 a3 x y _ _ _ _ _ _
  unfold laws_FnExactBetterGrain.f laws_toSheet.f spec_BetterGrain.f impl_BetterGrain.f
  simp only [Option.bind_some, piece_spec, piece_impl]
  by_cases h : SheetOk a0 a1 a2 a3 ∧ SidesOk x y
  · have hz := (codeV_zero (SheetOk a0 a1 a2 a3) (SidesOk x y)).2 h
    rw [hz]
    obtain ⟨⟨a, b, c, d⟩, e, f⟩ := h
    simp only [if_true, if_pos]
    rw [dry_impl (a := y) (g := a2) (by omega) (by omega) (by omega) (by omega), dry_impl (a := x) (g := a3) (by omega) (by omega) (by omega) (by omega), dry_impl (a := y) (g := a3) (by omega) (by omega) (by omega) (by omega), dry_impl (a := x) (g := a2) (by omega) (by omega) (by omega) (by omega),
      dry_spec (a := y) (g := a2) (by omega) (by omega) (by omega) (by omega), dry_spec (a := x) (g := a3) (by omega) (by omega) (by omega) (by omega), dry_spec (a := y) (g := a3) (by omega) (by omega) (by omega) (by omega), dry_spec (a := x) (g := a2) (by omega) (by omega) (by omega) (by omega)]
    simp
  · have hz : ¬ codeV (SheetOk a0 a1 a2 a3) (SidesOk x y) = 0 := fun e => h ((codeV_zero (SheetOk a0 a1 a2 a3) (SidesOk x y)).1 e)
    rw [if_neg hz]
    simp [hz]

end Go.Proofs.Ytoehbcdhplagfaa.Pure
