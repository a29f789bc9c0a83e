/- FnExactFirstYear: the program's FirstYear and the reference's come to the same, for all spots and numbers: both divide the same angle by the rate, rounded up. -/
import Derived.Test.YthngfgiaobhhoaaStatFnExactFirstYear
namespace Go.Proofs.Ythngfgiaobhhoaa.Pure
open Go.RowKit Go.Proofs.Ythngfgiaobhhoaa.PFnExactFirstYear Go.Proofs.YthngfgiaobhhoaaW.PrintWords Go.Proofs.YthngfgiaobhhoaaW.PrintLast Go.Proofs.YthngfgiaobhhoaaW.PrintMore
set_option linter.unusedVariables false
set_option linter.unusedSimpArgs false
theorem wfb {a : Int} (h : (Lit.int .i64 a).wf = true) : -9223372036854775808 ≤ a ∧ a ≤ 9223372036854775807 := by
  simpa [Lit.wf, IntKind.min, IntKind.max, IntKind.signed, IntKind.bits] using h
theorem w64 {x : Int} (h : -9223372036854775808 ≤ x) (h2 : x ≤ 9223372036854775807) : wrap64 x = x := by unfold wrap64; omega
theorem tdiv_nn {a b : Int} (h : 0 ≤ a) : Int.tdiv a b = a / b := Int.tdiv_eq_ediv_of_nonneg h
theorem tmod_nn {a b : Int} (h : 0 ≤ a) : Int.tmod a b = a % b := Int.tmod_eq_emod_of_nonneg h
theorem floor_val (a b : Int) (hb : 0 < b) : (if Int.tmod a b < 0 then Int.tdiv a b - 1 else Int.tdiv a b) = a / b := by
  have h1 := Int.mul_tdiv_add_tmod a b
  have hlt : Int.tmod a b < b := Int.tmod_lt_of_pos a hb
  have hgt : -b < Int.tmod a b := by
    have h2 := Int.tmod_lt_of_pos (-a) hb
    rw [Int.neg_tmod] at h2
    omega
  symm
  split
  · rename_i hneg
    refine ((Int.ediv_emod_unique hb (r := Int.tmod a b + b)).2 ⟨?_, by omega, by omega⟩).1
    rw [Int.mul_sub, Int.mul_one]
    omega
  · rename_i hneg
    exact ((Int.ediv_emod_unique hb (r := Int.tmod a b)).2 ⟨by omega, by omega, by omega⟩).1
theorem ediv_bd {a b : Int} (hb : 0 < b) (B : Int) (h0 : -B ≤ a) (h1 : a ≤ B) (hB : 0 ≤ B) : -B ≤ a / b ∧ a / b ≤ B := by
  constructor
  · rw [Int.le_ediv_iff_mul_le hb]
    have : B * 1 ≤ B * b := Int.mul_le_mul_of_nonneg_left (by omega) hB
    rw [Int.neg_mul]; omega
  · have h2 : a / b ≤ B / b := Int.ediv_le_ediv hb h1
    have h3 : B / b ≤ B := Int.ediv_le_self b hB
    omega
theorem ceil_alt (a b : Int) (hb : 0 < b) : (a + b - 1) / b = -((-a) / b) := by
  have h1 := Int.mul_ediv_add_emod (-a) b
  have h2 := Int.emod_nonneg (-a) (b := b) (by omega)
  have h3 := Int.emod_lt_of_pos (-a) hb
  refine ((Int.ediv_emod_unique hb (r := b - 1 - (-a) % b)).2 ⟨?_, by omega, by omega⟩).1
  rw [Int.mul_neg]
  omega

theorem floorDiv_val {a b : Int} (hb : 0 < b) (h0 : -4611686018427387904 ≤ a) (h1 : a ≤ 4611686018427387904) : impl_floorDiv.f a b = some (a / b) := by
  have hv := floor_val a b hb
  have hbd := ediv_bd hb 4611686018427387904 h0 h1 (by omega)
  unfold impl_floorDiv.f
  rw [if_neg (by omega)]
  split
  · rename_i hn
    rw [if_pos hn] at hv
    rw [w64 (x := Int.tdiv a b) (by omega) (by omega), w64 (by omega) (by omega), hv]
  · rename_i hn
    rw [if_neg hn] at hv
    rw [w64 (by omega) (by omega), hv]

theorem ceilDiv_val {a b : Int} (hb : 0 < b) (h0 : -4611686018427387904 ≤ a) (h1 : a ≤ 4611686018427387904) : impl_ceilDiv.f a b = some (-((-a) / b)) := by
  have hbd := ediv_bd (a := -a) hb 4611686018427387904 (by omega) (by omega) (by omega)
  unfold impl_ceilDiv.f
  rw [w64 (x := -a) (by omega) (by omega), floorDiv_val hb (by omega) (by omega)]
  simp only [Option.bind_some]
  rw [w64 (by omega) (by omega)]

theorem in_val (a b c : Int) : spec_l00In.f a b c = some (decide (b ≤ a ∧ a ≤ c)) := by
  unfold spec_l00In.f
  by_cases h : a ≥ b <;> by_cases h2 : a ≤ c <;> simp [h, h2] <;> omega
theorem within_val (a b c : Int) : impl_within.f a b c = some (decide (b ≤ a ∧ a ≤ c)) := in_val a b c

/-- A valid spot. -/
def SpotP (a b : Int) : Prop := (-324000 ≤ a ∧ a ≤ 324000) ∧ (-648000 ≤ b ∧ b ≤ 647999)
instance (a b : Int) : Decidable (SpotP a b) := by unfold SpotP; infer_instance
theorem l02Ok_val (a b : Int) : spec_l02Ok.f a b = some (decide (SpotP a b)) := by
  unfold spec_l02Ok.f SpotP
  simp only [in_val, Option.bind_some]
  by_cases h : -324000 ≤ a ∧ a ≤ 324000
  · simp only [h, decide_true, if_true, true_and]
  · simp [h]

theorem iValidSpot_val (a b : Int) : impl_ValidSpot.f a b = some (decide (SpotP a b)) := by
  unfold impl_ValidSpot.f SpotP
  simp only [within_val, Option.bind_some]
  by_cases h : -324000 ≤ a ∧ a ≤ 324000
  · simp only [h, decide_true, if_true, true_and]
  · simp [h]

def RateP (y r : Int) : Prop := (0 ≤ y ∧ y ≤ 30000) ∧ (1 ≤ r ∧ r ≤ 100)
instance (a b : Int) : Decidable (RateP a b) := by unfold RateP; infer_instance
theorem l15Rate_val (y r : Int) : spec_l15Rate.f y r = some (decide (RateP y r)) := by
  unfold spec_l15Rate.f RateP
  simp only [in_val, Option.bind_some]
  by_cases h : 0 ≤ y ∧ y ≤ 30000
  · simp only [h, decide_true, if_true, true_and]
  · simp [h]
theorem iRate_val (r : Int) : impl_isRate.f r = some (decide (1 ≤ r ∧ r ≤ 100)) := by
  unfold impl_isRate.f
  simp only [within_val, Option.bind_some]

def codeV (ok rg : Prop) [Decidable ok] [Decidable rg] : Int := if ok then (if rg then 0 else 2) else 1
theorem check_val (ok rg : Prop) [Decidable ok] [Decidable rg] : impl_check.f (decide ok) (decide rg) = some (codeV ok rg) := by
  unfold impl_check.f codeV
  by_cases h : ok <;> by_cases h2 : rg <;> simp [h, h2]
theorem check_false (ok : Prop) [Decidable ok] : impl_check.f (decide ok) false = some (codeV ok False) := by
  unfold impl_check.f codeV
  by_cases h : ok <;> simp [h]
theorem codeV_zero (ok rg : Prop) [Decidable ok] [Decidable rg] : codeV ok rg = 0 ↔ (ok ∧ rg) := by
  unfold codeV
  by_cases h : ok <;> by_cases h2 : rg <;> simp [h, h2]

theorem tmod_bd (a : Int) {b : Int} (hb : 0 < b) : -b < Int.tmod a b ∧ Int.tmod a b < b ∧ b * Int.tdiv a b + Int.tmod a b = a := by
  have h1 := Int.mul_tdiv_add_tmod a b
  have hlt : Int.tmod a b < b := Int.tmod_lt_of_pos a hb
  have h2 := Int.tmod_lt_of_pos (-a) hb
  rw [Int.neg_tmod] at h2
  omega
theorem around_val (a : Int) : impl_around.f a = some (a % 1296000) := by
  unfold impl_around.f
  have h := tmod_bd a (show (0 : Int) < 1296000 by omega)
  rw [w64 (by omega) (by omega), tmod_nn (by omega)]
  congr 1
  omega

theorem first_val {lon b r : Int} (hl : -648000 ≤ lon ∧ lon ≤ 647999) (hb : -648000 ≤ b ∧ b ≤ 647999) (hr : 1 ≤ r ∧ r ≤ 100) :
    wrap64 (Int.tdiv (wrap64 ((wrap64 ((Int.tmod (wrap64 ((wrap64 (lon - b)) + 1296000)) 1296000) + r)) - 1)) r) = -((-((lon - b) % 1296000)) / r) := by
  rw [w64 (x := lon - b) (by omega) (by omega), w64 (x := lon - b + 1296000) (by omega) (by omega), tmod_nn (by omega), show (lon - b + 1296000) % 1296000 = (lon - b) % 1296000 from by omega]
  have h0 : 0 ≤ (lon - b) % 1296000 := by omega
  have h1 : (lon - b) % 1296000 < 1296000 := by omega
  generalize (lon - b) % 1296000 = t at *
  have hbd := ediv_bd (a := t + r - 1) (show 0 < r by omega) 2000000 (by omega) (by omega) (by omega)
  rw [w64 (x := t + r) (by omega) (by omega), w64 (x := t + r - 1) (by omega) (by omega), tdiv_nn (by omega), w64 (by omega) (by omega), ceil_alt t r (by omega)]
theorem FnExactFirstYear : laws_FnExactFirstYear.Pure := by
  intro a b lon r _ _ _ _
  refine ⟨1, ?_⟩
  unfold laws_FnExactFirstYear.f laws_toSpot.f spec_FirstYear.f impl_FirstYear.f
  simp only [Option.bind_some, l02Ok_val, iValidSpot_val, in_val, within_val, l15Rate_val, iRate_val]
  by_cases hs : SpotP a b
  · simp only [hs, decide_true, if_true]
    by_cases hl : -648000 ≤ lon ∧ lon ≤ 647999
    · simp only [if_pos (decide_eq_true hl)]
      by_cases hr : 1 ≤ r ∧ r ≤ 100
      · have hR : RateP 0 r := ⟨⟨by omega, by omega⟩, hr⟩
        have hv := first_val hl hs.2 hr
        have hbd := ediv_bd (a := -((lon - b) % 1296000)) (show 0 < r by omega) 2000000 (by omega) (by omega) (by omega)
        unfold spec_FirstYear.j0 impl_check.f impl_FirstYear.j0
        have hsb := hs.2
        simp only [hR, hr, decide_true, Bool.not_true, Bool.false_eq_true, if_false, if_true, Option.bind_some, and_self, hv, around_val]
        rw [if_neg (by omega), w64 (x := lon - b) (by omega) (by omega), ceilDiv_val (by omega) (by omega) (by omega)]
        simp only [Option.bind_some]
        by_cases hg : -((-((lon - b) % 1296000)) / r) > 30000
        · simp [hg]
        · simp [hg]
      · have hR : ¬ RateP 0 r := fun h => hr h.2
        unfold spec_FirstYear.j0 impl_check.f impl_FirstYear.j0
        simp [hR, hr]
    · unfold spec_FirstYear.j0 impl_check.f impl_FirstYear.j0
      simp [hl]
  · simp only [hs, decide_false, Bool.false_eq_true, if_false]
    unfold impl_check.f impl_FirstYear.j0
    by_cases hl : -648000 ≤ lon ∧ lon ≤ 647999 <;> simp [hl]

end Go.Proofs.Ythngfgiaobhhoaa.Pure
