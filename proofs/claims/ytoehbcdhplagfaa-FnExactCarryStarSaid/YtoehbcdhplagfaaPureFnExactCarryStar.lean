/- FnExactCarryStar: the program's CarryStar and the reference's come to the same, for all spots and numbers: both turn the longitude by the same angle and bring it to the same range. -/
import Derived.Test.YtoehbcdhplagfaaStatFnExactCarryStar
namespace Go.Proofs.Ytoehbcdhplagfaa.Pure
open Go.RowKit Go.Proofs.Ytoehbcdhplagfaa.PFnExactCarryStar Go.Proofs.YtoehbcdhplagfaaW.PrintWords Go.Proofs.YtoehbcdhplagfaaW.PrintLast Go.Proofs.YtoehbcdhplagfaaW.PrintMore
set_option linter.unusedVariables false
set_option linter.unusedSimpArgs false
theorem wfb {a : Int} (h : (Lit.int .i64 a).wf = true) : -9223372036854775808 ≤ a ∧ a ≤ 9223372036854775807 := by
  simpa [Lit.wf, IntKind.min, IntKind.max, IntKind.signed, IntKind.bits] using h
theorem w64 {x : Int} (h : -9223372036854775808 ≤ x) (h2 : x ≤ 9223372036854775807) : wrap64 x = x := by unfold wrap64; omega
theorem tdiv_nn {a b : Int} (h : 0 ≤ a) : Int.tdiv a b = a / b := Int.tdiv_eq_ediv_of_nonneg h
theorem tmod_nn {a b : Int} (h : 0 ≤ a) : Int.tmod a b = a % b := Int.tmod_eq_emod_of_nonneg h
theorem floor_val (a b : Int) (hb : 0 < b) : (if Int.tmod a b < 0 then Int.tdiv a b - 1 else Int.tdiv a b) = a / b := by
  have h1 := Int.mul_tdiv_add_tmod a b
  have hlt : Int.tmod a b < b := Int.tmod_lt_of_pos a hb
  have hgt : -b < Int.tmod a b := by
    have h2 := Int.tmod_lt_of_pos (-a) hb
    rw [Int.neg_tmod] at h2
    omega
  symm
  split
  · rename_i hneg
    refine ((Int.ediv_emod_unique hb (r := Int.tmod a b + b)).2 ⟨?_, by omega, by omega⟩).1
    rw [Int.mul_sub, Int.mul_one]
    omega
  · rename_i hneg
    exact ((Int.ediv_emod_unique hb (r := Int.tmod a b)).2 ⟨by omega, by omega, by omega⟩).1
theorem ediv_bd {a b : Int} (hb : 0 < b) (B : Int) (h0 : -B ≤ a) (h1 : a ≤ B) (hB : 0 ≤ B) : -B ≤ a / b ∧ a / b ≤ B := by
  constructor
  · rw [Int.le_ediv_iff_mul_le hb]
    have : B * 1 ≤ B * b := Int.mul_le_mul_of_nonneg_left (by omega) hB
    rw [Int.neg_mul]; omega
  · have h2 : a / b ≤ B / b := Int.ediv_le_ediv hb h1
    have h3 : B / b ≤ B := Int.ediv_le_self b hB
    omega
theorem ceil_alt (a b : Int) (hb : 0 < b) : (a + b - 1) / b = -((-a) / b) := by
  have h1 := Int.mul_ediv_add_emod (-a) b
  have h2 := Int.emod_nonneg (-a) (b := b) (by omega)
  have h3 := Int.emod_lt_of_pos (-a) hb
  refine ((Int.ediv_emod_unique hb (r := b - 1 - (-a) % b)).2 ⟨?_, by omega, by omega⟩).1
  rw [Int.mul_neg]
  omega

theorem in_val (a b c : Int) : spec_l00In.f a b c = some (decide (b ≤ a ∧ a ≤ c)) := by
  unfold spec_l00In.f
  by_cases h : a ≥ b <;> by_cases h2 : a ≤ c <;> simp [h, h2] <;> omega
theorem within_val (a b c : Int) : impl_within.f a b c = some (decide (b ≤ a ∧ a ≤ c)) := in_val a b c

/-- A valid spot. -/
def SpotP (a b : Int) : Prop := (-324000 ≤ a ∧ a ≤ 324000) ∧ (-648000 ≤ b ∧ b ≤ 647999)
instance (a b : Int) : Decidable (SpotP a b) := by unfold SpotP; infer_instance
theorem l02Ok_val (a b : Int) : spec_l02Ok.f a b = some (decide (SpotP a b)) := by
  unfold spec_l02Ok.f SpotP
  simp only [in_val, Option.bind_some]
  by_cases h : -324000 ≤ a ∧ a ≤ 324000
  · simp only [h, decide_true, if_true, true_and]
  · simp [h]

theorem iValidSpot_val (a b : Int) : impl_ValidSpot.f a b = some (decide (SpotP a b)) := by
  unfold impl_ValidSpot.f SpotP
  simp only [within_val, Option.bind_some]
  by_cases h : -324000 ≤ a ∧ a ≤ 324000
  · simp only [h, decide_true, if_true, true_and]
  · simp [h]

def RateP (y r : Int) : Prop := (0 ≤ y ∧ y ≤ 30000) ∧ (1 ≤ r ∧ r ≤ 100)
instance (a b : Int) : Decidable (RateP a b) := by unfold RateP; infer_instance
theorem l15Rate_val (y r : Int) : spec_l15Rate.f y r = some (decide (RateP y r)) := by
  unfold spec_l15Rate.f RateP
  simp only [in_val, Option.bind_some]
  by_cases h : 0 ≤ y ∧ y ≤ 30000
  · simp only [h, decide_true, if_true, true_and]
  · simp [h]
theorem iRate_val (r : Int) : impl_isRate.f r = some (decide (1 ≤ r ∧ r ≤ 100)) := by
  unfold impl_isRate.f
  simp only [within_val, Option.bind_some]

theorem iYears_val (r : Int) : impl_areYears.f r = some (decide (0 ≤ r ∧ r ≤ 30000)) := by
  unfold impl_areYears.f
  simp only [within_val, Option.bind_some]

def codeV (ok rg : Prop) [Decidable ok] [Decidable rg] : Int := if ok then (if rg then 0 else 2) else 1
theorem check_val (ok rg : Prop) [Decidable ok] [Decidable rg] : impl_check.f (decide ok) (decide rg) = some (codeV ok rg) := by
  unfold impl_check.f codeV
  by_cases h : ok <;> by_cases h2 : rg <;> simp [h, h2]
theorem check_false (ok : Prop) [Decidable ok] : impl_check.f (decide ok) false = some (codeV ok False) := by
  unfold impl_check.f codeV
  by_cases h : ok <;> simp [h]
theorem codeV_zero (ok rg : Prop) [Decidable ok] [Decidable rg] : codeV ok rg = 0 ↔ (ok ∧ rg) := by
  unfold codeV
  by_cases h : ok <;> by_cases h2 : rg <;> simp [h, h2]

theorem l15Code_val (a b y r : Int) : spec_l15Code.f a b y r = some (codeV (SpotP a b) (RateP y r)) := by
  unfold spec_l15Code.f codeV
  simp only [l02Ok_val, l15Rate_val, Option.bind_some]
  by_cases h : SpotP a b <;> by_cases h2 : RateP y r <;> simp [h, h2]
theorem carryCode_val (a b y r : Int) : impl_carryCode.f a b y r = some (codeV (SpotP a b) (RateP y r)) := by
  unfold impl_carryCode.f
  simp only [iValidSpot_val, iYears_val, iRate_val, Option.bind_some]
  by_cases h : 0 ≤ y ∧ y ≤ 30000
  · rw [if_pos (decide_eq_true h), check_val]
    simp only [Option.bind_some]
    congr 1
    unfold codeV RateP
    simp [h]
  · rw [if_neg (by simpa using h), check_false]
    simp only [Option.bind_some]
    congr 1
    unfold codeV RateP
    simp [h]

theorem tmod_bd (a : Int) {b : Int} (hb : 0 < b) : -b < Int.tmod a b ∧ Int.tmod a b < b ∧ b * Int.tdiv a b + Int.tmod a b = a := by
  have h1 := Int.mul_tdiv_add_tmod a b
  have hlt : Int.tmod a b < b := Int.tmod_lt_of_pos a hb
  have h2 := Int.tmod_lt_of_pos (-a) hb
  rw [Int.neg_tmod] at h2
  omega
theorem around_val (a : Int) : impl_around.f a = some (a % 1296000) := by
  unfold impl_around.f
  have h := tmod_bd a (show (0 : Int) < 1296000 by omega)
  rw [w64 (by omega) (by omega), tmod_nn (by omega)]
  congr 1
  omega

/-- The longitude of an angle. -/
def wrapV (a : Int) : Int := (a + 648000) % 1296000 - 648000
theorem wrapV_bd (a : Int) : -648000 ≤ wrapV a ∧ wrapV a ≤ 647999 := by unfold wrapV; omega
theorem iwrap_val {a : Int} (h0 : -4611686018427387904 ≤ a) (h1 : a ≤ 4611686018427387904) : impl_wrap.f a = some (wrapV a) := by
  unfold impl_wrap.f
  rw [w64 (x := a + 648000) (by omega) (by omega), around_val]
  simp only [Option.bind_some]
  rw [w64 (by omega) (by omega)]
  rfl

theorem swrap_val {a : Int} (h0 : -4611686018427387904 ≤ a) (h1 : a ≤ 4611686018427387904) : spec_l02Wrap.f a = some (wrapV a) := by
  unfold spec_l02Wrap.f wrapV
  rw [w64 (x := a + 648000) (by omega) (by omega)]
  have h := tmod_bd (a + 648000) (show (0 : Int) < 1296000 by omega)
  split
  · rw [w64 (x := Int.tmod (a + 648000) 1296000 + 1296000) (by omega) (by omega), w64 (by omega) (by omega)]
    congr 1; omega
  · rw [w64 (by omega) (by omega)]
    congr 1; omega

theorem mul_bd {y r : Int} (h : RateP y r) : 0 ≤ y * r ∧ y * r ≤ 3000000 := by
  obtain ⟨⟨h1, h2⟩, h3, h4⟩ := h
  refine ⟨Int.mul_nonneg h1 (by omega), ?_⟩
  have : y * r ≤ 30000 * 100 := Int.mul_le_mul h2 h4 (by omega) (by omega)
  omega
theorem l15Carry_val {a b c : Int} (hs : SpotP a b) (h0 : -1000000000000 ≤ c) (h1 : c ≤ 1000000000000) : spec_l15Carry.f a b c = some (a, wrapV (b + c)) := by
  unfold SpotP at hs
  unfold spec_l15Carry.f
  rw [w64 (x := b + c) (by omega) (by omega), swrap_val (by omega) (by omega)]
  rfl
theorem turned_val {a b c : Int} (hs : SpotP a b) (h0 : -1000000000000 ≤ c) (h1 : c ≤ 1000000000000) : impl_turned.f a b c = some (a, wrapV (b + c)) := by
  unfold SpotP at hs
  unfold impl_turned.f
  rw [w64 (x := b + c) (by omega) (by omega), iwrap_val (by omega) (by omega)]
  rfl

theorem FnExactCarryStar : laws_FnExactCarryStar.Pure := by
  intro a b y r _ _ _ _
  unfold laws_FnExactCarryStar.f laws_toSpot.f spec_CarryStar.f impl_CarryStar.f laws_eqSpot.f
  simp only [Option.bind_some, l15Code_val, carryCode_val]
  by_cases h : codeV (SpotP a b) (RateP y r) = 0
  · obtain ⟨hs, hr⟩ := (codeV_zero _ _).1 h
    have hm := mul_bd hr
    simp only [if_pos h]
    rw [w64 (x := y * r) (by omega) (by omega), l15Carry_val hs (by omega) (by omega), turned_val hs (by omega) (by omega)]
    simp
  · simp only [if_neg h]
    simp

end Go.Proofs.Ytoehbcdhplagfaa.Pure
