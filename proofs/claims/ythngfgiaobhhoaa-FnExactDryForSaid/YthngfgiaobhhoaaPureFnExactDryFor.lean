/- FnExactDryFor: the program's DryFor and the reference's come to the same, for all numbers: both are the same quotient, rounded up. -/
import Derived.Test.YthngfgiaobhhoaaPFnExactDryForx1
namespace Go.Proofs.Ythngfgiaobhhoaa.Pure
open Go.RowKit Go.Proofs.Ythngfgiaobhhoaa.PFnExactDryFor Go.Proofs.YthngfgiaobhhoaaW.PrintWords Go.Proofs.YthngfgiaobhhoaaW.PrintLast Go.Proofs.YthngfgiaobhhoaaW.PrintMore
set_option linter.unusedVariables false
set_option linter.unusedSimpArgs false
theorem wfb {a : Int} (h : (Lit.int .i64 a).wf = true) : -9223372036854775808 ≤ a ∧ a ≤ 9223372036854775807 := by
  simpa [Lit.wf, IntKind.min, IntKind.max, IntKind.signed, IntKind.bits] using h
theorem w64 {x : Int} (h : -9223372036854775808 ≤ x) (h2 : x ≤ 9223372036854775807) : wrap64 x = x := by unfold wrap64; omega
theorem tdiv_nn {a b : Int} (h : 0 ≤ a) : Int.tdiv a b = a / b := Int.tdiv_eq_ediv_of_nonneg h
theorem tmod_nn {a b : Int} (h : 0 ≤ a) : Int.tmod a b = a % b := Int.tmod_eq_emod_of_nonneg h
theorem floor_val (a b : Int) (hb : 0 < b) : (if Int.tmod a b < 0 then Int.tdiv a b - 1 else Int.tdiv a b) = a / b := by
  have h1 := Int.mul_tdiv_add_tmod a b
  have hlt : Int.tmod a b < b := Int.tmod_lt_of_pos a hb
  have hgt : -b < Int.tmod a b := by
    have h2 := Int.tmod_lt_of_pos (-a) hb
    rw [Int.neg_tmod] at h2
    omega
  symm
  split
  · rename_i hneg
    refine ((Int.ediv_emod_unique hb (r := Int.tmod a b + b)).2 ⟨?_, by omega, by omega⟩).1
    rw [Int.mul_sub, Int.mul_one]
    omega
  · rename_i hneg
    exact ((Int.ediv_emod_unique hb (r := Int.tmod a b)).2 ⟨by omega, by omega, by omega⟩).1
theorem ediv_bd {a b : Int} (hb : 0 < b) (B : Int) (h0 : -B ≤ a) (h1 : a ≤ B) (hB : 0 ≤ B) : -B ≤ a / b ∧ a / b ≤ B := by
  constructor
  · rw [Int.le_ediv_iff_mul_le hb]
    have : B * 1 ≤ B * b := Int.mul_le_mul_of_nonneg_left (by omega) hB
    rw [Int.neg_mul]; omega
  · have h2 : a / b ≤ B / b := Int.ediv_le_ediv hb h1
    have h3 : B / b ≤ B := Int.ediv_le_self b hB
    omega
theorem ceil_alt (a b : Int) (hb : 0 < b) : (a + b - 1) / b = -((-a) / b) := by
  have h1 := Int.mul_ediv_add_emod (-a) b
  have h2 := Int.emod_nonneg (-a) (b := b) (by omega)
  have h3 := Int.emod_lt_of_pos (-a) hb
  refine ((Int.ediv_emod_unique hb (r := b - 1 - (-a) % b)).2 ⟨?_, by omega, by omega⟩).1
  rw [Int.mul_neg]
  omega

theorem floorDiv_val {a b : Int} (hb : 0 < b) (h0 : -4611686018427387904 ≤ a) (h1 : a ≤ 4611686018427387904) : impl_floorDiv.f a b = some (a / b) := by
  have hv := floor_val a b hb
  have hbd := ediv_bd hb 4611686018427387904 h0 h1 (by omega)
  unfold impl_floorDiv.f
  rw [if_neg (by omega)]
  split
  · rename_i hn
    rw [if_pos hn] at hv
    rw [w64 (x := Int.tdiv a b) (by omega) (by omega), w64 (by omega) (by omega), hv]
  · rename_i hn
    rw [if_neg hn] at hv
    rw [w64 (by omega) (by omega), hv]

theorem ceilDiv_val {a b : Int} (hb : 0 < b) (h0 : -4611686018427387904 ≤ a) (h1 : a ≤ 4611686018427387904) : impl_ceilDiv.f a b = some (-((-a) / b)) := by
  have hbd := ediv_bd (a := -a) hb 4611686018427387904 (by omega) (by omega) (by omega)
  unfold impl_ceilDiv.f
  rw [w64 (x := -a) (by omega) (by omega), floorDiv_val hb (by omega) (by omega)]
  simp only [Option.bind_some]
  rw [w64 (by omega) (by omega)]

/-- The least dry length. -/
def dryV (a g : Int) : Int := (1000 * a + 999 + g) / (1000 + g)
theorem dryV_bd {a g : Int} (h1 : a ≥ 1) (h2 : a ≤ 10000) (h3 : g ≥ 0) (h4 : g ≤ 100) : 1 ≤ dryV a g ∧ dryV a g ≤ a := by
  unfold dryV
  constructor
  · rw [Int.le_ediv_iff_mul_le (by omega)]; omega
  · apply Int.le_of_lt_add_one
    rw [Int.ediv_lt_iff_lt_mul (by omega), Int.add_mul, Int.mul_add]
    have : 0 ≤ a * g := Int.mul_nonneg (by omega) (by omega)
    omega
theorem dry_impl {a g : Int} (h1 : a ≥ 1) (h2 : a ≤ 10000) (h3 : g ≥ 0) (h4 : g ≤ 100) : impl_dryFor.f a g = some (dryV a g) := by
  unfold impl_dryFor.f dryV
  rw [w64 (x := 1000 * a) (by omega) (by omega), w64 (x := 1000 + g) (by omega) (by omega), ceilDiv_val (by omega) (by omega) (by omega)]
  simp only [Option.bind_some]
  rw [← ceil_alt _ _ (by omega)]
  congr 2
  omega
theorem dry_spec {a g : Int} (h1 : a ≥ 1) (h2 : a ≤ 10000) (h3 : g ≥ 0) (h4 : g ≤ 100) : spec_l17Dry.f a g = some (dryV a g) := by
  have hb := dryV_bd h1 h2 h3 h4
  unfold spec_l17Dry.f
  rw [w64 (x := 1000 + g) (by omega) (by omega), if_neg (by omega), w64 (x := 1000 * a) (by omega) (by omega), w64 (x := 1000 * a + 999) (by omega) (by omega), w64 (x := 1000 * a + 999 + g) (by omega) (by omega), tdiv_nn (by omega), w64 (x := (1000 * a + 999 + g) / (1000 + g))]
  · rfl
  all_goals (unfold dryV at hb; omega)

theorem FnExactDryFor : laws_FnExactDryFor.Pure := by
  intro a0 a1 _ _
  unfold laws_FnExactDryFor.f spec_DryFor.f impl_DryFor.f spec_l17Side.f impl_isSide.f spec_l17Grows.f impl_isStretch.f impl_within.f spec_l00In.f
  by_cases h1 : a0 ≥ 1
  · by_cases h2 : a0 ≤ 10000
    · by_cases h3 : a1 ≥ 0
      · by_cases h4 : a1 ≤ 100
        · rw [dry_impl h1 h2 h3 h4, dry_spec h1 h2 h3 h4]
          simp [h1, h2, h3, h4]
        · simp [h1, h2, h3, h4]
      · simp [h1, h2, h3]
    · simp [h1, h2]
  · simp [h1]

end Go.Proofs.Ythngfgiaobhhoaa.Pure
