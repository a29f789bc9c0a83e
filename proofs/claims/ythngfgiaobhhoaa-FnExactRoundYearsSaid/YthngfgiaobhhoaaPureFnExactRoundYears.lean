/- FnExactRoundYears: the program's RoundYears and the reference's come to the same, for all numbers: both are Turn divided by the rate, rounded up. -/
import Derived.Test.YthngfgiaobhhoaaPFnExactRoundYearsx1
namespace Go.Proofs.Ythngfgiaobhhoaa.Pure
open Go.RowKit Go.Proofs.Ythngfgiaobhhoaa.PFnExactRoundYears Go.Proofs.YthngfgiaobhhoaaW.PrintWords Go.Proofs.YthngfgiaobhhoaaW.PrintLast Go.Proofs.YthngfgiaobhhoaaW.PrintMore
set_option linter.unusedVariables false
set_option linter.unusedSimpArgs false
theorem wfb {a : Int} (h : (Lit.int .i64 a).wf = true) : -9223372036854775808 ≤ a ∧ a ≤ 9223372036854775807 := by
  simpa [Lit.wf, IntKind.min, IntKind.max, IntKind.signed, IntKind.bits] using h
theorem w64 {x : Int} (h : -9223372036854775808 ≤ x) (h2 : x ≤ 9223372036854775807) : wrap64 x = x := by unfold wrap64; omega
theorem tdiv_nn {a b : Int} (h : 0 ≤ a) : Int.tdiv a b = a / b := Int.tdiv_eq_ediv_of_nonneg h
theorem tmod_nn {a b : Int} (h : 0 ≤ a) : Int.tmod a b = a % b := Int.tmod_eq_emod_of_nonneg h
theorem floor_val (a b : Int) (hb : 0 < b) : (if Int.tmod a b < 0 then Int.tdiv a b - 1 else Int.tdiv a b) = a / b := by
  have h1 := Int.mul_tdiv_add_tmod a b
  have hlt : Int.tmod a b < b := Int.tmod_lt_of_pos a hb
  have hgt : -b < Int.tmod a b := by
    have h2 := Int.tmod_lt_of_pos (-a) hb
    rw [Int.neg_tmod] at h2
    omega
  symm
  split
  · rename_i hneg
    refine ((Int.ediv_emod_unique hb (r := Int.tmod a b + b)).2 ⟨?_, by omega, by omega⟩).1
    rw [Int.mul_sub, Int.mul_one]
    omega
  · rename_i hneg
    exact ((Int.ediv_emod_unique hb (r := Int.tmod a b)).2 ⟨by omega, by omega, by omega⟩).1
theorem ediv_bd {a b : Int} (hb : 0 < b) (B : Int) (h0 : -B ≤ a) (h1 : a ≤ B) (hB : 0 ≤ B) : -B ≤ a / b ∧ a / b ≤ B := by
  constructor
  · rw [Int.le_ediv_iff_mul_le hb]
    have : B * 1 ≤ B * b := Int.mul_le_mul_of_nonneg_left (by omega) hB
    rw [Int.neg_mul]; omega
  · have h2 : a / b ≤ B / b := Int.ediv_le_ediv hb h1
    have h3 : B / b ≤ B := Int.ediv_le_self b hB
    omega
theorem ceil_alt (a b : Int) (hb : 0 < b) : (a + b - 1) / b = -((-a) / b) := by
  have h1 := Int.mul_ediv_add_emod (-a) b
  have h2 := Int.emod_nonneg (-a) (b := b) (by omega)
  have h3 := Int.emod_lt_of_pos (-a) hb
  refine ((Int.ediv_emod_unique hb (r := b - 1 - (-a) % b)).2 ⟨?_, by omega, by omega⟩).1
  rw [Int.mul_neg]
  omega

theorem floorDiv_val {a b : Int} (hb : 0 < b) (h0 : -4611686018427387904 ≤ a) (h1 : a ≤ 4611686018427387904) : impl_floorDiv.f a b = some (a / b) := by
  have hv := floor_val a b hb
  have hbd := ediv_bd hb 4611686018427387904 h0 h1 (by omega)
  unfold impl_floorDiv.f
  rw [if_neg (by omega)]
  split
  · rename_i hn
    rw [if_pos hn] at hv
    rw [w64 (x := Int.tdiv a b) (by omega) (by omega), w64 (by omega) (by omega), hv]
  · rename_i hn
    rw [if_neg hn] at hv
    rw [w64 (by omega) (by omega), hv]

theorem ceilDiv_val {a b : Int} (hb : 0 < b) (h0 : -4611686018427387904 ≤ a) (h1 : a ≤ 4611686018427387904) : impl_ceilDiv.f a b = some (-((-a) / b)) := by
  have hbd := ediv_bd (a := -a) hb 4611686018427387904 (by omega) (by omega) (by omega)
  unfold impl_ceilDiv.f
  rw [w64 (x := -a) (by omega) (by omega), floorDiv_val hb (by omega) (by omega)]
  simp only [Option.bind_some]
  rw [w64 (by omega) (by omega)]

theorem FnExactRoundYears : laws_FnExactRoundYears.Pure := by
  intro a0 _
  unfold laws_FnExactRoundYears.f spec_RoundYears.f impl_RoundYears.f spec_l15Rate.f impl_isRate.f impl_within.f spec_l00In.f
  simp only [show ((0 : Int) ≥ 0) = True from by simp, show ((0 : Int) ≤ 30000) = True from by simp, if_true, decide_true, Option.bind_some]
  by_cases h1 : a0 ≥ 1
  · by_cases h2 : a0 ≤ 100
    · have hb : 0 < a0 := by omega
      have e := ceil_alt 1296000 a0 hb
      have hbd := ediv_bd (a := 1296000 + a0 - 1) hb 2000000 (by omega) (by omega) (by omega)
      rw [ceilDiv_val hb (by omega) (by omega)]
      simp only [if_pos h1, decide_eq_true h2, Option.bind_some, if_true]
      rw [if_neg (by omega), w64 (x := 1296000 + a0) (by omega) (by omega), w64 (x := 1296000 + a0 - 1) (by omega) (by omega), tdiv_nn (by omega), w64 (by omega) (by omega), e]
      simp
    · simp [h1, h2]
  · simp [h1]

end Go.Proofs.Ythngfgiaobhhoaa.Pure
