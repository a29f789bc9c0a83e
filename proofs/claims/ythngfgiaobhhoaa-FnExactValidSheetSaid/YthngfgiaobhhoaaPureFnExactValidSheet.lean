/- FnExactValidSheet: the program's ValidSheet and the reference's come to the same, for all sheets: both ask the same of the four numbers. -/
import Derived.Test.YthngfgiaobhhoaaStatFnExactValidSheet
namespace Go.Proofs.Ythngfgiaobhhoaa.Pure
open Go.RowKit Go.Proofs.Ythngfgiaobhhoaa.PFnExactValidSheet Go.Proofs.YthngfgiaobhhoaaW.PrintWords Go.Proofs.YthngfgiaobhhoaaW.PrintLast Go.Proofs.YthngfgiaobhhoaaW.PrintMore
set_option linter.unusedVariables false
set_option linter.unusedSimpArgs false
theorem wfb {a : Int} (h : (Lit.int .i64 a).wf = true) : -9223372036854775808 ≤ a ∧ a ≤ 9223372036854775807 := by
  simpa [Lit.wf, IntKind.min, IntKind.max, IntKind.signed, IntKind.bits] using h
theorem w64 {x : Int} (h : -9223372036854775808 ≤ x) (h2 : x ≤ 9223372036854775807) : wrap64 x = x := by unfold wrap64; omega
theorem tdiv_nn {a b : Int} (h : 0 ≤ a) : Int.tdiv a b = a / b := Int.tdiv_eq_ediv_of_nonneg h
theorem tmod_nn {a b : Int} (h : 0 ≤ a) : Int.tmod a b = a % b := Int.tmod_eq_emod_of_nonneg h
theorem floor_val (a b : Int) (hb : 0 < b) : (if Int.tmod a b < 0 then Int.tdiv a b - 1 else Int.tdiv a b) = a / b := by
  have h1 := Int.mul_tdiv_add_tmod a b
  have hlt : Int.tmod a b < b := Int.tmod_lt_of_pos a hb
  have hgt : -b < Int.tmod a b := by
    have h2 := Int.tmod_lt_of_pos (-a) hb
    rw [Int.neg_tmod] at h2
    omega
  symm
  split
  · rename_i hneg
    refine ((Int.ediv_emod_unique hb (r := Int.tmod a b + b)).2 ⟨?_, by omega, by omega⟩).1
    rw [Int.mul_sub, Int.mul_one]
    omega
  · rename_i hneg
    exact ((Int.ediv_emod_unique hb (r := Int.tmod a b)).2 ⟨by omega, by omega, by omega⟩).1
theorem ediv_bd {a b : Int} (hb : 0 < b) (B : Int) (h0 : -B ≤ a) (h1 : a ≤ B) (hB : 0 ≤ B) : -B ≤ a / b ∧ a / b ≤ B := by
  constructor
  · rw [Int.le_ediv_iff_mul_le hb]
    have : B * 1 ≤ B * b := Int.mul_le_mul_of_nonneg_left (by omega) hB
    rw [Int.neg_mul]; omega
  · have h2 : a / b ≤ B / b := Int.ediv_le_ediv hb h1
    have h3 : B / b ≤ B := Int.ediv_le_self b hB
    omega
theorem ceil_alt (a b : Int) (hb : 0 < b) : (a + b - 1) / b = -((-a) / b) := by
  have h1 := Int.mul_ediv_add_emod (-a) b
  have h2 := Int.emod_nonneg (-a) (b := b) (by omega)
  have h3 := Int.emod_lt_of_pos (-a) hb
  refine ((Int.ediv_emod_unique hb (r := b - 1 - (-a) % b)).2 ⟨?_, by omega, by omega⟩).1
  rw [Int.mul_neg]
  omega

theorem in_val (a b c : Int) : spec_l00In.f a b c = some (decide (b ≤ a ∧ a ≤ c)) := by
  unfold spec_l00In.f
  by_cases h : a ≥ b <;> by_cases h2 : a ≤ c <;> simp [h, h2] <;> omega
theorem within_val (a b c : Int) : impl_within.f a b c = some (decide (b ≤ a ∧ a ≤ c)) := in_val a b c

/-- What a sheet must hold. -/
def SheetOk (f0 f1 f2 f3 : Int) : Prop := ((1 : Int) ≤ f0 ∧ f0 ≤ 10000) ∧ ((1 : Int) ≤ f1 ∧ f1 ≤ 10000) ∧ ((0 : Int) ≤ f2 ∧ f2 ≤ 100) ∧ ((0 : Int) ≤ f3 ∧ f3 ≤ 100)
instance instSheetOk (f0 f1 f2 f3 : Int) : Decidable (SheetOk f0 f1 f2 f3) := by unfold SheetOk; infer_instance
theorem side_spec (a : Int) : spec_l17Side.f a = some (decide (1 ≤ a ∧ a ≤ 10000)) := by unfold spec_l17Side.f; rw [in_val]; rfl
theorem grow_spec (a : Int) : spec_l17Grows.f a = some (decide (0 ≤ a ∧ a ≤ 100)) := by unfold spec_l17Grows.f; rw [in_val]; rfl
theorem side_impl (a : Int) : impl_isSide.f a = some (decide (1 ≤ a ∧ a ≤ 10000)) := by unfold impl_isSide.f; rw [within_val]; rfl
theorem grow_impl (a : Int) : impl_isStretch.f a = some (decide (0 ≤ a ∧ a ≤ 100)) := by unfold impl_isStretch.f; rw [within_val]; rfl
theorem four_dec (p q r s : Prop) [Decidable p] [Decidable q] [Decidable r] [Decidable s] : (if decide p = true then (if decide q = true then (if decide r = true then some (decide s) else some false) else some false) else some false) = some (decide (p ∧ q ∧ r ∧ s)) := by
  by_cases h1 : p <;> by_cases h2 : q <;> by_cases h3 : r <;> by_cases h4 : s <;> simp [h1, h2, h3, h4]
theorem sheet_spec (f0 f1 f2 f3 : Int) : spec_l17Ok.f f0 f1 f2 f3 = some (decide (SheetOk f0 f1 f2 f3)) := by
  unfold spec_l17Ok.f
  rw [side_spec, side_spec, grow_spec, grow_spec]
  exact four_dec _ _ _ _
theorem sheet_impl (f0 f1 f2 f3 : Int) : impl_ValidSheet.f f0 f1 f2 f3 = some (decide (SheetOk f0 f1 f2 f3)) := by
  unfold impl_ValidSheet.f
  rw [side_impl, side_impl, grow_impl, grow_impl]
  exact four_dec _ _ _ _

theorem FnExactValidSheet : laws_FnExactValidSheet.Pure := by
  intro a0 a1 a2 a3 _ _ _ _
  unfold laws_FnExactValidSheet.f laws_toSheet.f spec_ValidSheet.f
  simp [sheet_spec, sheet_impl]

end Go.Proofs.Ythngfgiaobhhoaa.Pure
