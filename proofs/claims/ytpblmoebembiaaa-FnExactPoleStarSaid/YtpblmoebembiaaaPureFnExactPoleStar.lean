/- FnExactPoleStar: the program's PoleStar and the reference's come to the same, for all lists of spots and numbers: both run through the stars in the same order and keep the first nearest one. -/
import Derived.Test.YtpblmoebembiaaaStatFnExactPoleStar
namespace Go.Proofs.Ytpblmoebembiaaa.Pure
open Go.RowKit Go.Proofs.Ytpblmoebembiaaa.PFnExactPoleStar Go.Proofs.YtpblmoebembiaaaW.PrintWords Go.Proofs.YtpblmoebembiaaaW.PrintLast Go.Proofs.YtpblmoebembiaaaW.PrintMore
set_option linter.unusedVariables false
set_option linter.unusedSimpArgs false
theorem wfb {a : Int} (h : (Lit.int .i64 a).wf = true) : -9223372036854775808 ≤ a ∧ a ≤ 9223372036854775807 := by
  simpa [Lit.wf, IntKind.min, IntKind.max, IntKind.signed, IntKind.bits] using h
theorem w64 {x : Int} (h : -9223372036854775808 ≤ x) (h2 : x ≤ 9223372036854775807) : wrap64 x = x := by unfold wrap64; omega
theorem tdiv_nn {a b : Int} (h : 0 ≤ a) : Int.tdiv a b = a / b := Int.tdiv_eq_ediv_of_nonneg h
theorem tmod_nn {a b : Int} (h : 0 ≤ a) : Int.tmod a b = a % b := Int.tmod_eq_emod_of_nonneg h
theorem floor_val (a b : Int) (hb : 0 < b) : (if Int.tmod a b < 0 then Int.tdiv a b - 1 else Int.tdiv a b) = a / b := by
  have h1 := Int.mul_tdiv_add_tmod a b
  have hlt : Int.tmod a b < b := Int.tmod_lt_of_pos a hb
  have hgt : -b < Int.tmod a b := by
    have h2 := Int.tmod_lt_of_pos (-a) hb
    rw [Int.neg_tmod] at h2
    omega
  symm
  split
  · rename_i hneg
    refine ((Int.ediv_emod_unique hb (r := Int.tmod a b + b)).2 ⟨?_, by omega, by omega⟩).1
    rw [Int.mul_sub, Int.mul_one]
    omega
  · rename_i hneg
    exact ((Int.ediv_emod_unique hb (r := Int.tmod a b)).2 ⟨by omega, by omega, by omega⟩).1
theorem ediv_bd {a b : Int} (hb : 0 < b) (B : Int) (h0 : -B ≤ a) (h1 : a ≤ B) (hB : 0 ≤ B) : -B ≤ a / b ∧ a / b ≤ B := by
  constructor
  · rw [Int.le_ediv_iff_mul_le hb]
    have : B * 1 ≤ B * b := Int.mul_le_mul_of_nonneg_left (by omega) hB
    rw [Int.neg_mul]; omega
  · have h2 : a / b ≤ B / b := Int.ediv_le_ediv hb h1
    have h3 : B / b ≤ B := Int.ediv_le_self b hB
    omega
theorem ceil_alt (a b : Int) (hb : 0 < b) : (a + b - 1) / b = -((-a) / b) := by
  have h1 := Int.mul_ediv_add_emod (-a) b
  have h2 := Int.emod_nonneg (-a) (b := b) (by omega)
  have h3 := Int.emod_lt_of_pos (-a) hb
  refine ((Int.ediv_emod_unique hb (r := b - 1 - (-a) % b)).2 ⟨?_, by omega, by omega⟩).1
  rw [Int.mul_neg]
  omega

theorem ev_succ {α : Type} {g : Nat → Option α} {r : α} (h : Ev (fun k => g (k + 1)) r) : Ev g r := Ev.step (fun _ => rfl) h
theorem ev_const {α : Type} {g : Option α} {r : α} (h : g = some r) : Ev (fun _ => g) r := ⟨0, fun _ _ => h⟩
theorem ev_uniq {α : Type} {g : Nat → Option α} {a b : α} (h : Ev g a) (h' : Ev g b) : a = b := by
  obtain ⟨K, h⟩ := h
  obtain ⟨K', h'⟩ := h'
  have h1 := h (K + K') (by omega)
  rw [h' (K + K') (by omega)] at h1
  exact (Option.some.inj h1).symm

theorem floorDiv_val {a b : Int} (hb : 0 < b) (h0 : -4611686018427387904 ≤ a) (h1 : a ≤ 4611686018427387904) : impl_floorDiv.f a b = some (a / b) := by
  have hv := floor_val a b hb
  have hbd := ediv_bd hb 4611686018427387904 h0 h1 (by omega)
  unfold impl_floorDiv.f
  rw [if_neg (by omega)]
  split
  · rename_i hn
    rw [if_pos hn] at hv
    rw [w64 (x := Int.tdiv a b) (by omega) (by omega), w64 (by omega) (by omega), hv]
  · rename_i hn
    rw [if_neg hn] at hv
    rw [w64 (by omega) (by omega), hv]

theorem in_val (a b c : Int) : spec_l00In.f a b c = some (decide (b ≤ a ∧ a ≤ c)) := by
  unfold spec_l00In.f
  by_cases h : a ≥ b <;> by_cases h2 : a ≤ c <;> simp [h, h2] <;> omega
theorem within_val (a b c : Int) : impl_within.f a b c = some (decide (b ≤ a ∧ a ≤ c)) := in_val a b c

/-- A valid spot. -/
def SpotP (a b : Int) : Prop := (-324000 ≤ a ∧ a ≤ 324000) ∧ (-648000 ≤ b ∧ b ≤ 647999)
instance (a b : Int) : Decidable (SpotP a b) := by unfold SpotP; infer_instance
theorem l02Ok_val (a b : Int) : spec_l02Ok.f a b = some (decide (SpotP a b)) := by
  unfold spec_l02Ok.f SpotP
  simp only [in_val, Option.bind_some]
  by_cases h : -324000 ≤ a ∧ a ≤ 324000
  · simp only [h, decide_true, if_true, true_and]
  · simp [h]

theorem iValidSpot_val (a b : Int) : impl_ValidSpot.f a b = some (decide (SpotP a b)) := by
  unfold impl_ValidSpot.f SpotP
  simp only [within_val, Option.bind_some]
  by_cases h : -324000 ≤ a ∧ a ≤ 324000
  · simp only [h, decide_true, if_true, true_and]
  · simp [h]

def RateP (y r : Int) : Prop := (0 ≤ y ∧ y ≤ 30000) ∧ (1 ≤ r ∧ r ≤ 100)
instance (a b : Int) : Decidable (RateP a b) := by unfold RateP; infer_instance

theorem l15Rate_val (y r : Int) : spec_l15Rate.f y r = some (decide (RateP y r)) := by
  unfold spec_l15Rate.f RateP
  simp only [in_val, Option.bind_some]
  by_cases h : 0 ≤ y ∧ y ≤ 30000
  · simp only [h, decide_true, if_true, true_and]
  · simp [h]

theorem iRate_val (r : Int) : impl_isRate.f r = some (decide (1 ≤ r ∧ r ≤ 100)) := by
  unfold impl_isRate.f
  simp only [within_val, Option.bind_some]

theorem iYears_val (r : Int) : impl_areYears.f r = some (decide (0 ≤ r ∧ r ≤ 30000)) := by
  unfold impl_areYears.f
  simp only [within_val, Option.bind_some]

def codeV (ok rg : Prop) [Decidable ok] [Decidable rg] : Int := if ok then (if rg then 0 else 2) else 1
theorem check_val (ok rg : Prop) [Decidable ok] [Decidable rg] : impl_check.f (decide ok) (decide rg) = some (codeV ok rg) := by
  unfold impl_check.f codeV
  by_cases h : ok <;> by_cases h2 : rg <;> simp [h, h2]
theorem check_false (ok : Prop) [Decidable ok] : impl_check.f (decide ok) false = some (codeV ok False) := by
  unfold impl_check.f codeV
  by_cases h : ok <;> simp [h]
theorem codeV_zero (ok rg : Prop) [Decidable ok] [Decidable rg] : codeV ok rg = 0 ↔ (ok ∧ rg) := by
  unfold codeV
  by_cases h : ok <;> by_cases h2 : rg <;> simp [h, h2]

theorem tmod_bd (a : Int) {b : Int} (hb : 0 < b) : -b < Int.tmod a b ∧ Int.tmod a b < b ∧ b * Int.tdiv a b + Int.tmod a b = a := by
  have h1 := Int.mul_tdiv_add_tmod a b
  have hlt : Int.tmod a b < b := Int.tmod_lt_of_pos a hb
  have h2 := Int.tmod_lt_of_pos (-a) hb
  rw [Int.neg_tmod] at h2
  omega
theorem around_val (a : Int) : impl_around.f a = some (a % 1296000) := by
  unfold impl_around.f
  have h := tmod_bd a (show (0 : Int) < 1296000 by omega)
  rw [w64 (by omega) (by omega), tmod_nn (by omega)]
  congr 1
  omega

/-- The longitude of an angle. -/
def wrapV (a : Int) : Int := (a + 648000) % 1296000 - 648000
theorem wrapV_bd (a : Int) : -648000 ≤ wrapV a ∧ wrapV a ≤ 647999 := by unfold wrapV; omega
theorem iwrap_val {a : Int} (h0 : -4611686018427387904 ≤ a) (h1 : a ≤ 4611686018427387904) : impl_wrap.f a = some (wrapV a) := by
  unfold impl_wrap.f
  rw [w64 (x := a + 648000) (by omega) (by omega), around_val]
  simp only [Option.bind_some]
  rw [w64 (by omega) (by omega)]
  rfl

theorem swrap_val {a : Int} (h0 : -4611686018427387904 ≤ a) (h1 : a ≤ 4611686018427387904) : spec_l02Wrap.f a = some (wrapV a) := by
  unfold spec_l02Wrap.f wrapV
  rw [w64 (x := a + 648000) (by omega) (by omega)]
  have h := tmod_bd (a + 648000) (show (0 : Int) < 1296000 by omega)
  split
  · rw [w64 (x := Int.tmod (a + 648000) 1296000 + 1296000) (by omega) (by omega), w64 (by omega) (by omega)]
    congr 1; omega
  · rw [w64 (by omega) (by omega)]
    congr 1; omega

theorem mul_bd {y r : Int} (h : RateP y r) : 0 ≤ y * r ∧ y * r ≤ 3000000 := by
  obtain ⟨⟨h1, h2⟩, h3, h4⟩ := h
  refine ⟨Int.mul_nonneg h1 (by omega), ?_⟩
  have : y * r ≤ 30000 * 100 := Int.mul_le_mul h2 h4 (by omega) (by omega)
  omega
theorem l15Carry_val {a b c : Int} (hs : SpotP a b) (h0 : -1000000000000 ≤ c) (h1 : c ≤ 1000000000000) : spec_l15Carry.f a b c = some (a, wrapV (b + c)) := by
  unfold SpotP at hs
  unfold spec_l15Carry.f
  rw [w64 (x := b + c) (by omega) (by omega), swrap_val (by omega) (by omega)]
  rfl
theorem turned_val {a b c : Int} (hs : SpotP a b) (h0 : -1000000000000 ≤ c) (h1 : c ≤ 1000000000000) : impl_turned.f a b c = some (a, wrapV (b + c)) := by
  unfold SpotP at hs
  unfold impl_turned.f
  rw [w64 (x := b + c) (by omega) (by omega), iwrap_val (by omega) (by omega)]
  rfl

/-- The sine's quotient on the first half turn. -/
def sinP (x : Int) : Int := x * (648000 - x)
def sinH (x : Int) : Int := (2 * (16000000 * sinP x) + (2099520000000 - 4 * sinP x)) / (2 * (2099520000000 - 4 * sinP x))
def sineV (a : Int) : Int := if a % 1296000 ≥ 648000 then -sinH (a % 1296000 - 648000) else sinH (a % 1296000)
theorem sinP_bd {x : Int} (h0 : 0 ≤ x) (h1 : x ≤ 648000) : 0 ≤ sinP x ∧ sinP x ≤ 104976000000 := by
  unfold sinP
  refine ⟨Int.mul_nonneg h0 (by omega), ?_⟩
  have hsq : 0 ≤ (x - 324000) * (x - 324000) := by
    rcases Int.le_total 0 (x - 324000) with h | h
    · exact Int.mul_nonneg h h
    · exact Int.mul_nonneg_of_nonpos_of_nonpos h h
  have e : x * (648000 - x) = 104976000000 - (x - 324000) * (x - 324000) := by
    rw [Int.mul_sub, Int.sub_mul, Int.mul_sub, Int.mul_sub]
    omega
  omega
theorem sinH_bd {x : Int} (h0 : 0 ≤ x) (h1 : x ≤ 648000) : 0 ≤ sinH x ∧ sinH x ≤ 1000000 := by
  have h := sinP_bd h0 h1
  unfold sinH
  refine ⟨Int.ediv_nonneg (by omega) (by omega), ?_⟩
  apply Int.le_of_lt_add_one
  rw [Int.ediv_lt_iff_lt_mul (by omega)]
  omega
theorem sineV_bd (a : Int) : -1000000 ≤ sineV a ∧ sineV a ≤ 1000000 := by
  unfold sineV
  split
  · have := sinH_bd (x := a % 1296000 - 648000) (by omega) (by omega); omega
  · have := sinH_bd (x := a % 1296000) (by omega) (by omega); omega
theorem sinP_mono {x y : Int} (h0 : 0 ≤ x) (h : x ≤ y) (h1 : y ≤ 324000) : sinP x ≤ sinP y := by
  unfold sinP
  have : 0 ≤ (y - x) * (648000 - x - y) := Int.mul_nonneg (by omega) (by omega)
  have e : y * (648000 - y) - x * (648000 - x) = (y - x) * (648000 - x - y) := by
    simp only [Int.mul_sub, Int.sub_mul]
    rw [Int.mul_comm y x]
    omega
  omega
theorem sinH_mono {x y : Int} (h0 : 0 ≤ x) (h : x ≤ y) (h1 : y ≤ 324000) : sinH x ≤ sinH y := by
  have hx := sinP_bd h0 (show x ≤ 648000 by omega)
  have hy := sinP_bd (show 0 ≤ y by omega) (show y ≤ 648000 by omega)
  have hm := sinP_mono h0 h h1
  have hq := Int.ediv_mul_le (2 * (16000000 * sinP x) + (2099520000000 - 4 * sinP x)) (b := 2 * (2099520000000 - 4 * sinP x)) (by omega)
  have hb := sinH_bd h0 (show x ≤ 648000 by omega)
  show sinH x ≤ (2 * (16000000 * sinP y) + (2099520000000 - 4 * sinP y)) / (2 * (2099520000000 - 4 * sinP y))
  rw [Int.le_ediv_iff_mul_le (by omega)]
  have e : (2 * (16000000 * sinP x) + (2099520000000 - 4 * sinP x)) / (2 * (2099520000000 - 4 * sinP x)) = sinH x := rfl
  rw [e] at hq
  generalize sinH x = q at *
  generalize sinP x = p at *
  generalize sinP y = r at *
  have h5 : 0 ≤ q * (r - p) := Int.mul_nonneg hb.1 (by omega)
  have h6 : q * (2 * (2099520000000 - 4 * r)) = q * (2 * (2099520000000 - 4 * p)) - 8 * (q * (r - p)) := by
    simp only [Int.mul_sub, Int.mul_left_comm q]
    omega
  omega
theorem sineV_small {x : Int} (h0 : 0 ≤ x) (h1 : x < 648000) : sineV x = sinH x := by
  unfold sineV
  rw [Int.emod_eq_of_lt h0 (by omega), if_neg (by omega)]
theorem sinH_end : sinH 0 = 0 ∧ sinH 648000 = 0 := by decide

theorem inearest_val {a b : Int} (hb : 0 < b) (h2 : b ≤ 1000000000000000) (h0 : -2000000000000000000 ≤ a) (h1 : a ≤ 2000000000000000000) : impl_nearest.f a b = some ((2 * a + b) / (2 * b)) := by
  unfold impl_nearest.f
  rw [w64 (x := 2 * a) (by omega) (by omega), w64 (x := 2 * a + b) (by omega) (by omega), w64 (x := 2 * b) (by omega) (by omega), floorDiv_val (by omega) (by omega) (by omega)]
  rfl
theorem isine_small {x : Int} (h0 : 0 ≤ x) (h1 : x < 648000) (k : Nat) : impl_sine.f (k + 1) x = some (sinH x) := by
  have hp := sinP_bd h0 (show x ≤ 648000 by omega)
  simp only [impl_sine.f, around_val, Option.bind_some]
  rw [Int.emod_eq_of_lt h0 (by omega), if_neg (by omega), w64 (x := 648000 - x) (by omega) (by omega)]
  rw [show x * (648000 - x) = sinP x from rfl, w64 (x := sinP x) (by omega) (by omega), w64 (x := 16000000 * sinP x) (by omega) (by omega), w64 (x := 4 * sinP x) (by omega) (by omega), w64 (x := 2099520000000 - 4 * sinP x) (by omega) (by omega)]
  rw [inearest_val (by omega) (by omega) (by omega) (by omega)]
  rfl
theorem isine_val (a : Int) (k : Nat) (hk : 2 ≤ k) : impl_sine.f k a = some (sineV a) := by
  obtain ⟨k, rfl⟩ : ∃ m, k = m + 2 := ⟨k - 2, by omega⟩
  by_cases h : a % 1296000 ≥ 648000
  · have hb := sinH_bd (x := a % 1296000 - 648000) (by omega) (by omega)
    show impl_sine.f (k + 1 + 1) a = _
    rw [impl_sine.f]
    simp only [around_val, Option.bind_some]
    rw [if_pos h, w64 (by omega) (by omega), isine_small (by omega) (by omega)]
    simp only [Option.bind_some]
    rw [w64 (by omega) (by omega)]
    unfold sineV
    rw [if_pos h]
  · have e := isine_small (x := a % 1296000) (by omega) (by omega) (k + 1)
    have e2 : impl_sine.f (k + 1 + 1) a = impl_sine.f (k + 1 + 1) (a % 1296000) := by
      simp only [impl_sine.f, around_val, Option.bind_some, Int.emod_emod]
    show impl_sine.f (k + 1 + 1) a = _
    rw [e2, e]
    unfold sineV
    rw [if_neg h]
theorem icosine_val {a : Int} (h0 : -4611686018427387904 ≤ a) (h1 : a ≤ 4611686018427387904) (k : Nat) (hk : 2 ≤ k) : impl_cosine.f k a = some (sineV (a + 324000)) := by
  unfold impl_cosine.f
  rw [w64 (by omega) (by omega), isine_val _ k hk]
  rfl

theorem sfloor_val {a b : Int} (hb : 0 < b) (h0 : -4611686018427387904 ≤ a) (h1 : a ≤ 4611686018427387904) : spec_l00Floor.f a b = some (a / b) := by
  have hv := floor_val a b hb
  have hbd := ediv_bd hb 4611686018427387904 h0 h1 (by omega)
  unfold spec_l00Floor.f
  rw [if_neg (by omega)]
  split
  · rename_i hn
    rw [if_pos hn] at hv
    rw [w64 (x := Int.tdiv a b) (by omega) (by omega), w64 (by omega) (by omega), hv]
  · rename_i hn
    rw [if_neg hn] at hv
    rw [w64 (by omega) (by omega), hv]
theorem sround_val {a b : Int} (hb : 0 < b) (h2 : b ≤ 1000000000000000) (h0 : -2000000000000000000 ≤ a) (h1 : a ≤ 2000000000000000000) : spec_l00Round.f a b = some ((2 * a + b) / (2 * b)) := by
  unfold spec_l00Round.f
  rw [w64 (x := 2 * a) (by omega) (by omega), w64 (x := 2 * a + b) (by omega) (by omega), w64 (x := 2 * b) (by omega) (by omega), sfloor_val (by omega) (by omega) (by omega)]
  rfl
theorem ssine_j {x : Int} (h0 : 0 ≤ x) (h1 : x ≤ 648000) (k : Nat) : spec_l03Sine.j0 (k + 1) 648000 x = some (sinH x) := by
  have hp := sinP_bd h0 h1
  simp only [spec_l03Sine.j0]
  rw [if_neg (by omega), w64 (x := 648000 - x) (by omega) (by omega)]
  rw [show x * (648000 - x) = sinP x from rfl, w64 (x := sinP x) (by omega) (by omega), w64 (x := 16 * sinP x) (by omega) (by omega), w64 (x := 16 * sinP x * 1000000) (by omega) (by omega), w64 (x := 4 * sinP x) (by omega) (by omega)]
  rw [show wrap64 (wrap64 (5 * 648000) * 648000) = 2099520000000 from by unfold wrap64; omega, w64 (x := 2099520000000 - 4 * sinP x) (by omega) (by omega)]
  rw [sround_val (by omega) (by omega) (by omega) (by omega)]
  simp only [Option.bind_some]
  unfold sinH
  rw [show 16 * sinP x * 1000000 = 16000000 * sinP x from by omega]
theorem ssine_f {a : Int} (k : Nat) : spec_l03Sine.f (k + 1) a = spec_l03Sine.j0 k 648000 (a % 1296000) := by
  have h := tmod_bd a (show (0 : Int) < 1296000 by omega)
  rw [spec_l03Sine.f]
  split
  · rw [w64 (by omega) (by omega)]
    congr 1; omega
  · congr 1; omega
theorem ssine_val (a : Int) (k : Nat) (hk : 4 ≤ k) : spec_l03Sine.f k a = some (sineV a) := by
  obtain ⟨k, rfl⟩ : ∃ m, k = m + 4 := ⟨k - 4, by omega⟩
  rw [show k + 4 = k + 3 + 1 from rfl, ssine_f]
  by_cases h : a % 1296000 > 648000
  · have hb := sinH_bd (x := a % 1296000 - 648000) (by omega) (by omega)
    rw [show k + 3 = k + 2 + 1 from rfl]
    rw [spec_l03Sine.j0]
    rw [if_pos h, w64 (x := a % 1296000 - 648000) (by omega) (by omega), show k + 2 = k + 1 + 1 from rfl, ssine_f, Int.emod_eq_of_lt (a := a % 1296000 - 648000) (by omega) (by omega), ssine_j (by omega) (by omega)]
    simp only [Option.bind_some]
    rw [w64 (by omega) (by omega)]
    unfold sineV
    rw [if_pos (by omega)]
  · rw [show k + 3 = k + 2 + 1 from rfl, ssine_j (by omega) (by omega)]
    unfold sineV
    by_cases h2 : a % 1296000 ≥ 648000
    · rw [if_pos h2]
      have e : a % 1296000 = 648000 := by omega
      rw [e]
      rw [show (648000 : Int) - 648000 = 0 from rfl, sinH_end.1, sinH_end.2]
      rfl
    · rw [if_neg h2]
theorem scosine_val {a : Int} (h0 : -4611686018427387904 ≤ a) (h1 : a ≤ 4611686018427387904) (k : Nat) (hk : 4 ≤ k) : spec_l03Cosine.f k a = some (sineV (a + 324000)) := by
  unfold spec_l03Cosine.f
  rw [w64 (by omega) (by omega), ssine_val _ k hk]
  rfl

/-- What an arc is: the least angle up to a quarter whose sine is at least s; a quarter if none is. -/
def ArcOf (s r : Int) : Prop := 0 ≤ r ∧ r ≤ 324000 ∧ (∀ m, 0 ≤ m → m < r → sineV m < s) ∧ (r = 324000 ∨ s ≤ sineV r)
theorem arc_unique {s r1 r2 : Int} (h1 : ArcOf s r1) (h2 : ArcOf s r2) : r1 = r2 := by
  obtain ⟨a1, b1, c1, d1⟩ := h1
  obtain ⟨a2, b2, c2, d2⟩ := h2
  rcases Int.lt_trichotomy r1 r2 with h | h | h
  · have := c2 r1 a1 h; omega
  · exact h
  · have := c1 r2 a2 h; omega
theorem sineV_mono {x y : Int} (h0 : 0 ≤ x) (h : x ≤ y) (h1 : y ≤ 324000) : sineV x ≤ sineV y := by
  rw [sineV_small h0 (by omega), sineV_small (by omega) (by omega)]
  exact sinH_mono h0 h h1

theorem iarc_l (s : Int) (d : Nat) : ∀ (k : Nat) (lo hi : Int), 0 ≤ lo → lo ≤ hi → hi ≤ 324000 → hi - lo ≤ d → d + 2 < k → (∀ m, 0 ≤ m → m < lo → sineV m < s) → (hi = 324000 ∨ s ≤ sineV hi) →
    ∃ r, impl_arc.l0 k s lo hi = some r ∧ ArcOf s r := by
  induction d with
  | zero =>
    intro k lo hi h0 h1 h2 hd hk hlo hhi
    obtain ⟨k, rfl⟩ : ∃ m, k = m + 1 := ⟨k - 1, by omega⟩
    have e : lo = hi := by omega
    refine ⟨lo, by simp only [impl_arc.l0]; rw [if_neg (by omega)], h0, by omega, hlo, by rw [e]; exact hhi⟩
  | succ d ih =>
    intro k lo hi h0 h1 h2 hd hk hlo hhi
    obtain ⟨k, rfl⟩ : ∃ m, k = m + 1 := ⟨k - 1, by omega⟩
    simp only [impl_arc.l0]
    by_cases hlt : lo < hi
    · rw [if_pos hlt, w64 (x := lo + hi) (by omega) (by omega), tdiv_nn (by omega), w64 (x := (lo + hi) / 2) (by omega) (by omega), isine_val _ k (by omega)]
      simp only [Option.bind_some]
      by_cases hs : sineV ((lo + hi) / 2) ≥ s
      · rw [if_pos hs]
        exact ih k lo _ h0 (by omega) (by omega) (by omega) (by omega) hlo (.inr hs)
      · rw [if_neg hs, w64 (x := (lo + hi) / 2 + 1) (by omega) (by omega)]
        refine ih k _ hi (by omega) (by omega) h2 (by omega) (by omega) (fun m hm hl => ?_) hhi
        have := sineV_mono hm (show m ≤ (lo + hi) / 2 by omega) (by omega)
        omega
    · have e : lo = hi := by omega
      exact ⟨lo, by rw [if_neg hlt], h0, by omega, hlo, by rw [e]; exact hhi⟩
theorem iarc_val (s : Int) (k : Nat) (hk : 400000 ≤ k) : ∃ r, impl_arc.f k s = some r ∧ ArcOf s r :=
  iarc_l s 324000 k 0 324000 (by omega) (by omega) (by omega) (by omega) (by omega) (fun m _ _ => by omega) (.inl rfl)

theorem sarc_l (s : Int) (d : Nat) : ∀ (k : Nat) (lo hi : Int), -1 ≤ lo → lo < hi → hi ≤ 324000 → hi - lo ≤ d + 1 → d + 4 < k → (∀ m, 0 ≤ m → m ≤ lo → sineV m < s) → (hi = 324000 ∨ s ≤ sineV hi) →
    ∃ r, spec_l03Arc.l0 k s lo hi = some r ∧ ArcOf s r := by
  induction d with
  | zero =>
    intro k lo hi h0 h1 h2 hd hk hlo hhi
    obtain ⟨k, rfl⟩ : ∃ m, k = m + 1 := ⟨k - 1, by omega⟩
    refine ⟨hi, by simp only [spec_l03Arc.l0]; rw [w64 (by omega) (by omega), if_neg (by omega)], by omega, h2, fun m hm hl => hlo m hm (by omega), hhi⟩
  | succ d ih =>
    intro k lo hi h0 h1 h2 hd hk hlo hhi
    obtain ⟨k, rfl⟩ : ∃ m, k = m + 1 := ⟨k - 1, by omega⟩
    simp only [spec_l03Arc.l0]
    rw [w64 (x := hi - lo) (by omega) (by omega)]
    by_cases hlt : hi - lo > 1
    · rw [if_pos hlt, w64 (x := lo + hi) (by omega) (by omega), tdiv_nn (by omega), w64 (x := (lo + hi) / 2) (by omega) (by omega), ssine_val _ k (by omega)]
      simp only [Option.bind_some]
      by_cases hs : sineV ((lo + hi) / 2) ≥ s
      · rw [if_pos hs]
        exact ih k lo _ h0 (by omega) (by omega) (by omega) (by omega) hlo (.inr hs)
      · rw [if_neg hs]
        refine ih k _ hi (by omega) (by omega) h2 (by omega) (by omega) (fun m hm hl => ?_) hhi
        have := sineV_mono hm (show m ≤ (lo + hi) / 2 by omega) (by omega)
        omega
    · refine ⟨hi, by rw [if_neg hlt], by omega, h2, fun m hm hl => hlo m hm (by omega), hhi⟩
theorem sarc_val (s : Int) (k : Nat) (hk : 400000 ≤ k) : ∃ r, spec_l03Arc.f k s = some r ∧ ArcOf s r :=
  sarc_l s 324000 k (-1) 324000 (by omega) (by omega) (by omega) (by omega) (by omega) (fun m _ _ => by omega) (.inl rfl)

/-- The cosine of a distance. -/
def cosD (a b c d : Int) : Int := mx (-1000000) (mn 1000000 ((sineV a * sineV c * 1000000 + sineV (a + 324000) * sineV (c + 324000) * sineV (d - b + 324000)) / 1000000000000))
def DistOf (a b c d r : Int) : Prop := (a = c ∧ b = d ∧ r = 0) ∨ (¬ (a = c ∧ b = d) ∧ ((cosD a b c d < 0 ∧ ∃ q, ArcOf (-cosD a b c d) q ∧ r = 324000 + q) ∨ (¬ cosD a b c d < 0 ∧ ∃ q, ArcOf (cosD a b c d) q ∧ r = mx 1 (324000 - q))))
theorem dist_unique {a b c d r1 r2 : Int} (h1 : DistOf a b c d r1) (h2 : DistOf a b c d r2) : r1 = r2 := by
  rcases h1 with ⟨e1, e2, rfl⟩ | ⟨n1, h1⟩
  · rcases h2 with ⟨_, _, rfl⟩ | ⟨n2, _⟩
    · rfl
    · exact absurd ⟨e1, e2⟩ n2
  · rcases h2 with ⟨e1, e2, rfl⟩ | ⟨_, h2⟩
    · exact absurd ⟨e1, e2⟩ n1
    · rcases h1 with ⟨c1, q1, ha1, rfl⟩ | ⟨c1, q1, ha1, rfl⟩
      · rcases h2 with ⟨c2, q2, ha2, rfl⟩ | ⟨c2, q2, ha2, rfl⟩
        · rw [arc_unique ha1 ha2]
        · exact absurd c1 c2
      · rcases h2 with ⟨c2, q2, ha2, rfl⟩ | ⟨c2, q2, ha2, rfl⟩
        · exact absurd c2 c1
        · rw [arc_unique ha1 ha2]
theorem dist_bd {a b c d r : Int} (h : DistOf a b c d r) : 0 ≤ r ∧ r ≤ 648000 := by
  rcases h with ⟨_, _, rfl⟩ | ⟨_, ⟨_, q, ⟨q0, q1, _⟩, rfl⟩ | ⟨_, q, ⟨q0, q1, _⟩, rfl⟩⟩
  · omega
  · omega
  · unfold mx; split <;> omega
theorem cosD_bd (a b c d : Int) : -1000000 ≤ cosD a b c d ∧ cosD a b c d ≤ 1000000 := by
  unfold cosD mx mn
  split <;> split <;> omega
theorem prod2_bd {x y : Int} (h0 : -1000000 ≤ x) (h1 : x ≤ 1000000) (h2 : -1000000 ≤ y) (h3 : y ≤ 1000000) : -1000000000000 ≤ x * y ∧ x * y ≤ 1000000000000 := by
  have h : (x * y).natAbs ≤ 1000000 * 1000000 := by
    rw [Int.natAbs_mul]
    exact Nat.mul_le_mul (by omega) (by omega)
  omega
theorem prod3_bd {x y : Int} (h0 : -1000000000000 ≤ x) (h1 : x ≤ 1000000000000) (h2 : -1000000 ≤ y) (h3 : y ≤ 1000000) : -1000000000000000000 ≤ x * y ∧ x * y ≤ 1000000000000000000 := by
  have h : (x * y).natAbs ≤ 1000000000000 * 1000000 := by
    rw [Int.natAbs_mul]
    exact Nat.mul_le_mul (by omega) (by omega)
  omega

theorem icos_val {a b c d : Int} (ha : SpotP a b) (hc : SpotP c d) (k : Nat) (hk : 2 ≤ k) : impl_cosDistance.f k a b c d = some (cosD a b c d) := by
  unfold SpotP at ha hc
  have s1 := sineV_bd a; have s2 := sineV_bd c; have s3 := sineV_bd (a + 324000); have s4 := sineV_bd (c + 324000); have s5 := sineV_bd (d - b + 324000)
  have p1 := prod2_bd s1.1 s1.2 s2.1 s2.2
  have p2 := prod2_bd s3.1 s3.2 s4.1 s4.2
  have p3 := prod3_bd p2.1 p2.2 s5.1 s5.2
  unfold impl_cosDistance.f
  rw [isine_val a k hk, isine_val c k hk, icosine_val (by omega) (by omega) k hk, icosine_val (by omega) (by omega) k hk, w64 (x := d - b) (by omega) (by omega), icosine_val (by omega) (by omega) k hk]
  simp only [Option.bind_some]
  rw [w64 (x := sineV a * sineV c) (by omega) (by omega), w64 (x := sineV a * sineV c * 1000000) (by omega) (by omega), w64 (x := sineV (a + 324000) * sineV (c + 324000)) (by omega) (by omega), w64 (x := sineV (a + 324000) * sineV (c + 324000) * sineV (d - b + 324000)) (by omega) (by omega), w64 (x := _ + _) (by omega) (by omega)]
  rw [floorDiv_val (by omega) (by omega) (by omega)]
  rfl
theorem idist_val {a b c d : Int} (ha : SpotP a b) (hc : SpotP c d) (k : Nat) (hk : 400000 ≤ k) : ∃ r, impl_distance.f k a b c d = some r ∧ DistOf a b c d r := by
  unfold impl_distance.f
  by_cases e : a = c ∧ b = d
  · refine ⟨0, ?_, .inl ⟨e.1, e.2, rfl⟩⟩
    rw [if_pos (by simp [e])]
  · rw [if_neg (by simpa using e), icos_val ha hc k (by omega)]
    simp only [Option.bind_some]
    have hb := cosD_bd a b c d
    by_cases h : cosD a b c d < 0
    · rw [if_pos h, w64 (x := -cosD a b c d) (by omega) (by omega)]
      obtain ⟨q, hq, hA⟩ := iarc_val (-cosD a b c d) k hk
      have hq1 := hA.1
      have hq2 := hA.2.1
      rw [hq]
      simp only [Option.bind_some]
      rw [w64 (by omega) (by omega)]
      exact ⟨_, rfl, .inr ⟨e, .inl ⟨h, q, hA, rfl⟩⟩⟩
    · rw [if_neg h]
      obtain ⟨q, hq, hA⟩ := iarc_val (cosD a b c d) k hk
      have hq1 := hA.1
      have hq2 := hA.2.1
      rw [hq]
      simp only [Option.bind_some]
      rw [w64 (by omega) (by omega)]
      exact ⟨_, rfl, .inr ⟨e, .inr ⟨h, q, hA, rfl⟩⟩⟩

theorem scos_val {a b c d : Int} (ha : SpotP a b) (hc : SpotP c d) (k : Nat) (hk : 4 ≤ k) : spec_l05Cos.f k a b c d = some (cosD a b c d) := by
  unfold SpotP at ha hc
  have s1 := sineV_bd a; have s2 := sineV_bd c; have s3 := sineV_bd (a + 324000); have s4 := sineV_bd (c + 324000); have s5 := sineV_bd (d - b + 324000)
  have p1 := prod2_bd s1.1 s1.2 s2.1 s2.2
  have p2 := prod2_bd s3.1 s3.2 s4.1 s4.2
  have p3 := prod3_bd p2.1 p2.2 s5.1 s5.2
  unfold spec_l05Cos.f
  rw [ssine_val a k hk, ssine_val c k hk, scosine_val (by omega) (by omega) k hk, scosine_val (by omega) (by omega) k hk, w64 (x := d - b) (by omega) (by omega), scosine_val (by omega) (by omega) k hk]
  simp only [Option.bind_some]
  rw [w64 (x := sineV a * sineV c) (by omega) (by omega), w64 (x := sineV a * sineV c * 1000000) (by omega) (by omega), w64 (x := sineV (a + 324000) * sineV (c + 324000)) (by omega) (by omega), w64 (x := sineV (a + 324000) * sineV (c + 324000) * sineV (d - b + 324000)) (by omega) (by omega), w64 (x := _ + _) (by omega) (by omega)]
  rw [sfloor_val (by omega) (by omega) (by omega)]
  simp only [Option.bind_some]
  unfold spec_l00Min.f spec_l00Max.f cosD mx mn
  generalize (sineV a * sineV c * 1000000 + sineV (a + 324000) * sineV (c + 324000) * sineV (d - b + 324000)) / 1000000000000 = t
  repeat' (first | split | simp only [Option.bind_some, Option.some.injEq])
  all_goals omega
theorem smax1 (x : Int) : spec_l00Max.f 1 x = some (mx 1 x) := by
  unfold spec_l00Max.f mx
  split <;> split <;> first | rfl | (congr 1; omega) | omega
theorem sdist_val {a b c d : Int} (ha : SpotP a b) (hc : SpotP c d) (k : Nat) (hk : 400000 ≤ k) : ∃ r, spec_l05Distance.f k a b c d = some r ∧ DistOf a b c d r := by
  unfold spec_l05Distance.f
  by_cases e : a = c ∧ b = d
  · refine ⟨0, ?_, .inl ⟨e.1, e.2, rfl⟩⟩
    rw [if_pos (by simp [e])]
  · rw [if_neg (by simpa using e), scos_val ha hc k (by omega)]
    simp only [Option.bind_some]
    have hb := cosD_bd a b c d
    by_cases h : cosD a b c d ≥ 0
    · rw [if_pos h]
      obtain ⟨q, hq, hA⟩ := sarc_val (cosD a b c d) k hk
      have hq1 := hA.1
      have hq2 := hA.2.1
      rw [hq]
      simp only [Option.bind_some]
      rw [w64 (by omega) (by omega), smax1]
      exact ⟨_, rfl, .inr ⟨e, .inr ⟨by omega, q, hA, rfl⟩⟩⟩
    · rw [if_neg h, w64 (x := -cosD a b c d) (by omega) (by omega)]
      obtain ⟨q, hq, hA⟩ := sarc_val (-cosD a b c d) k hk
      have hq1 := hA.1
      have hq2 := hA.2.1
      rw [hq]
      simp only [Option.bind_some]
      rw [w64 (by omega) (by omega)]
      exact ⟨_, rfl, .inr ⟨e, .inl ⟨by omega, q, hA, rfl⟩⟩⟩

theorem rd_T35_at (l : List S35) (i : Nat) (h : i < l.length) : rd_T35 l (i : Int) = l[i] := by
  unfold rd_T35
  rw [Int.toNat_natCast, List.getD_eq_getElem?_getD, List.getElem?_eq_getElem h]
  rfl

theorem rd_T33_at (l : List S33) (i : Nat) (h : i < l.length) : rd_T33 l (i : Int) = l[i] := by
  unfold rd_T33
  rw [Int.toNat_natCast, List.getD_eq_getElem?_getD, List.getElem?_eq_getElem h]
  rfl

def cvSpot (x : S35) : S33 := ⟨x.f0, x.f1⟩
theorem take_set_Spot (x : List S33) (i : Nat) (v : S33) (h : i < x.length) : (x.set i v).take (i + 1) = x.take i ++ [v] := by
  rw [List.take_succ_eq_append_getElem (by simpa using h), List.getElem_set_self, List.take_set_of_le (Nat.le_refl _)]
theorem toSpot_l (l : List S35) (hl : l.length ≤ 17592186044416) (d : Nat) : ∀ (x : List S33) (i : Nat), i ≤ l.length → l.length - i = d → x.length = l.length → x.take i = (l.map cvSpot).take i → Ev (fun k => laws_toSpotS.l0 k l x i) (l.map cvSpot) := by
  induction d with
  | zero =>
    intro x i hi hd hx ht
    apply ev_succ
    simp only [laws_toSpotS.l0]
    rw [List.take_of_length_le (by omega), List.take_of_length_le (by simp; omega)] at ht
    simp only [if_neg (show ¬ (i : Int) < (l.length : Int) by omega)]
    rw [ht]
    exact ev_const rfl
  | succ d ih =>
    intro x i hi hd hx ht
    have hlt : i < l.length := by omega
    apply ev_succ
    simp only [laws_toSpotS.l0, laws_toSpot.f, Option.bind_some, if_pos (show (i : Int) < (l.length : Int) by omega), if_pos (show (0 : Int) ≤ (i : Int) by omega), if_pos (show (i : Int) < (x.length : Int) by omega), rd_T35_at _ _ hlt, w64 (x := (i : Int) + 1) (by omega) (by omega), Int.toNat_natCast]
    exact ih (x.set i (cvSpot l[i])) (i + 1) (by omega) (by omega) (by simpa using hx) (by rw [take_set_Spot _ _ _ (by omega), List.take_succ_eq_append_getElem (by simpa using hlt), ht, List.getElem_map])
theorem toSpot_ev (l : List S35) (hl : l.length ≤ 17592186044416) : Ev (fun k => laws_toSpotS.f k l) (l.map cvSpot) := by
  unfold laws_toSpotS.f
  simp only [if_pos (show (0 : Int) ≤ (l.length : Int) by omega), if_pos (show ((l.length : Int)).toNat ≤ 17592186044416 by omega)]
  exact toSpot_l l hl l.length _ 0 (by omega) (by omega) (by simp) (by simp)

theorem eqSpot_l (x : List S33) (hl : x.length ≤ 17592186044416) (d : Nat) : ∀ (i : Nat), i ≤ x.length → x.length - i = d → Ev (fun k => laws_eqSpotS.l0 k x x i) true := by
  induction d with
  | zero =>
    intro i hi hd
    apply ev_succ
    simp only [laws_eqSpotS.l0, if_neg (show ¬ (i : Int) < (x.length : Int) by omega)]
    exact ev_const rfl
  | succ d ih =>
    intro i hi hd
    apply ev_succ
    simp only [laws_eqSpotS.l0, laws_eqSpot.f, if_true, Option.bind_some, if_pos (show (i : Int) < (x.length : Int) by omega), if_pos (show (0 : Int) ≤ (i : Int) by omega), w64 (x := (i : Int) + 1) (by omega) (by omega)]
    exact ih (i + 1) (by omega) (by omega)
theorem eqSpot_ev (x : List S33) (hl : x.length ≤ 17592186044416) : Ev (fun k => laws_eqSpotS.f k x x) true := by
  unfold laws_eqSpotS.f
  simp only [if_true]
  exact eqSpot_l x hl x.length 0 (by omega) (by omega)

theorem szSpot_val (l : List S35) (hl : l.length ≤ maxLen) {a : Int} (h0 : 0 ≤ a) (h1 : a ≤ 1048576) : laws_szSpotS.f l a = some (-1) ∨ (laws_szSpotS.f l a = some (a - l.length) ∧ 0 ≤ a - l.length) := by
  unfold maxLen at hl
  unfold laws_szSpotS.f
  rw [w64 (x := a - (l.length : Int)) (by omega) (by omega)]
  by_cases h : a - (l.length : Int) < 0
  · left; rw [if_pos h]
  · right; rw [if_neg h]; exact ⟨rfl, by omega⟩

def AllSpots (l : List S33) : Prop := ∀ x ∈ l, SpotP x.f0 x.f1
theorem areSpots_val (l : List S33) [Decidable (AllSpots l)] : impl_areSpots.f l = some (decide (AllSpots l)) := by
  unfold impl_areSpots.f
  congr 1
  rw [Bool.eq_iff_iff, decide_eq_true_iff, Bool.not_eq_true', List.any_eq_false]
  unfold AllSpots spotBad SpotP
  constructor
  · intro h x hx
    have := h x hx
    simpa using this
  · intro h x hx
    have := h x hx
    simpa using this

theorem l15Stars_l (l : List S33) (hl : l.length ≤ 17592186044416) (y r : Int) (d : Nat) : ∀ (i : Nat), i ≤ l.length → l.length - i = d →
    (∀ (j : Nat) (h : j < l.length), j < i → SpotP l[j].f0 l[j].f1) → ∃ c, Ev (fun k => spec_l15Stars.l0 k l y r i) c ∧ ((AllSpots l ∧ c = (if RateP y r ∧ l.length ≤ 12 then 0 else 2)) ∨ (¬ AllSpots l ∧ c = 1)) := by
  induction d with
  | zero =>
    intro i hi hd hj
    refine ⟨if RateP y r ∧ l.length ≤ 12 then 0 else 2, ev_succ ?_, .inl ⟨?_, rfl⟩⟩
    · simp only [spec_l15Stars.l0, l15Rate_val, Option.bind_some, if_neg (show ¬ (i : Int) < (l.length : Int) by omega)]
      refine ev_const ?_
      by_cases h1 : RateP y r
      · simp only [h1, decide_true, if_true, true_and]
        by_cases h2 : l.length ≤ 12
        · rw [if_pos h2, if_neg (by omega)]
        · rw [if_neg h2, if_pos (by omega)]
      · simp [h1]
    · intro x hx
      obtain ⟨j, hj2, rfl⟩ := List.getElem_of_mem hx
      exact hj j hj2 (by omega)
  | succ d ih =>
    intro i hi hd hj
    have hlt : i < l.length := by omega
    by_cases h : SpotP l[i].f0 l[i].f1
    · obtain ⟨c, e, hc⟩ := ih (i + 1) (by omega) (by omega) (fun j hj2 hlt2 => by
        by_cases e : j = i
        · subst e; exact h
        · exact hj j hj2 (by omega))
      refine ⟨c, ev_succ ?_, hc⟩
      simp only [spec_l15Stars.l0, l02Ok_val, Option.bind_some, if_pos (show (i : Int) < (l.length : Int) by omega), if_pos (show (0 : Int) ≤ (i : Int) by omega), rd_T33_at _ _ hlt, if_pos (decide_eq_true h), w64 (x := (i : Int) + 1) (by omega) (by omega)]
      exact e
    · refine ⟨1, ev_succ ?_, .inr ⟨fun ha => h (ha _ (List.getElem_mem hlt)), rfl⟩⟩
      simp only [spec_l15Stars.l0, l02Ok_val, Option.bind_some, if_pos (show (i : Int) < (l.length : Int) by omega), if_pos (show (0 : Int) ≤ (i : Int) by omega), rd_T33_at _ _ hlt, if_neg (show ¬ decide (SpotP l[i].f0 l[i].f1) = true by simpa using h)]
      exact ev_const rfl
theorem l15Stars_ev (l : List S33) [Decidable (AllSpots l)] (hl : l.length ≤ 17592186044416) (y r : Int) : Ev (fun k => spec_l15Stars.f k l y r) (codeV (AllSpots l) (RateP y r ∧ l.length ≤ 12)) := by
  obtain ⟨c, e, h⟩ := l15Stars_l l hl y r l.length 0 (by omega) (by omega) (fun j _ hj => by omega)
  unfold spec_l15Stars.f
  have hc : c = codeV (AllSpots l) (RateP y r ∧ l.length ≤ 12) := by
    unfold codeV
    rcases h with ⟨h1, rfl⟩ | ⟨h1, rfl⟩
    · simp [h1]
    · simp [h1]
  rw [← hc]
  exact e

theorem pole_same {x : S33} (hx : SpotP x.f0 x.f1) {y r : Int} (hr : RateP y r) : ∃ d, Ev (fun k => spec_l15Pole.f k x.f0 x.f1 (wrap64 (y * r))) d ∧ impl_turned.f x.f0 x.f1 (wrap64 (y * r)) = some (x.f0, wrapV (x.f1 + y * r)) ∧ Ev (fun k => impl_distance.f k x.f0 (wrapV (x.f1 + y * r)) 237600 324000) d := by
  have hm := mul_bd hr
  have hs1 : SpotP x.f0 (wrapV (x.f1 + y * r)) := ⟨hx.1, wrapV_bd _⟩
  have hs2 : SpotP 237600 324000 := by decide
  obtain ⟨d1, e1, u1⟩ := sdist_val hs1 hs2 400000 (by omega)
  obtain ⟨d2, e2, u2⟩ := idist_val hs1 hs2 400000 (by omega)
  have hd := dist_unique u1 u2
  subst hd
  refine ⟨d1, ?_, ?_, Ev.of (fun k => impl_distance.mono _ _ _ _ k) e2⟩
  · unfold spec_l15Pole.f
    rw [w64 (x := y * r) (by omega) (by omega), l15Carry_val hx (by omega) (by omega)]
    simp only [Option.bind_some]
    exact Ev.bind (Ev.of (fun k => spec_l05Distance.mono _ _ _ _ k) e1) (ev_const rfl)
  · rw [w64 (x := y * r) (by omega) (by omega)]; exact turned_val hx (by omega) (by omega)
theorem pole_l (l : List S33) (hl : l.length ≤ 12) (hs : AllSpots l) {y r : Int} (hr : RateP y r) (n : Nat) : ∀ (j : Nat) (least : Int) (i : Nat), i ≤ l.length → l.length - i = n →
    ∃ res, Ev (fun k => spec_PoleStar.l0 k l y r j least i) res ∧ Ev (fun k => impl_PoleStar.l0 k y r j least l (l.length : Int) i) res := by
  induction n with
  | zero =>
    intro j least i hi hd
    refine ⟨((j : Int), least, 0), ev_succ ?_, ev_succ ?_⟩
    · simp only [spec_PoleStar.l0, if_neg (show ¬ (i : Int) < (l.length : Int) by omega)]
      exact ev_const rfl
    · simp only [impl_PoleStar.l0, if_neg (show ¬ (i : Int) < (l.length : Int) by omega), if_neg (show ¬ (j : Int) < 0 by omega)]
      exact ev_const rfl
  | succ n ih =>
    intro j least i hi hd
    have hlt : i < l.length := by omega
    have hx := hs _ (List.getElem_mem hlt)
    obtain ⟨d, e1, e2, e3⟩ := pole_same hx hr
    by_cases hc : d < least
    · obtain ⟨res, h1, h2⟩ := ih i d (i + 1) (by omega) (by omega)
      refine ⟨res, ev_succ ?_, ev_succ ?_⟩
      · simp only [spec_PoleStar.l0, if_pos (show (i : Int) < (l.length : Int) by omega), if_pos (show (0 : Int) ≤ (i : Int) by omega), rd_T33_at _ _ hlt]
        refine Ev.bind e1 ?_
        simp only [if_pos hc, w64 (x := (i : Int) + 1) (by omega) (by omega)]
        exact h1
      · simp only [impl_PoleStar.l0, if_pos (show (i : Int) < (l.length : Int) by omega), if_pos (show (0 : Int) ≤ (i : Int) by omega), rd_T33_at _ _ hlt, e2, impl_poleSpot.f, Option.bind_some]
        refine Ev.bind e3 ?_
        simp only [if_neg (show ¬ (j : Int) < 0 by omega), if_pos hc, w64 (x := (i : Int) + 1) (by omega) (by omega)]
        exact h2
    · obtain ⟨res, h1, h2⟩ := ih j least (i + 1) (by omega) (by omega)
      refine ⟨res, ev_succ ?_, ev_succ ?_⟩
      · simp only [spec_PoleStar.l0, if_pos (show (i : Int) < (l.length : Int) by omega), if_pos (show (0 : Int) ≤ (i : Int) by omega), rd_T33_at _ _ hlt]
        refine Ev.bind e1 ?_
        simp only [if_neg hc, w64 (x := (i : Int) + 1) (by omega) (by omega)]
        exact h1
      · simp only [impl_PoleStar.l0, if_pos (show (i : Int) < (l.length : Int) by omega), if_pos (show (0 : Int) ≤ (i : Int) by omega), rd_T33_at _ _ hlt, e2, impl_poleSpot.f, Option.bind_some]
        refine Ev.bind e3 ?_
        simp only [if_neg (show ¬ (j : Int) < 0 by omega), if_neg hc, w64 (x := (i : Int) + 1) (by omega) (by omega)]
        exact h2
theorem istar_code (l : List S33) [Decidable (AllSpots l)] (y r : Int) (k : Nat) : impl_PoleStar.f k l y r = impl_PoleStar.j0 k l y r (codeV (AllSpots l) (RateP y r ∧ l.length ≤ 12)) := by
  unfold impl_PoleStar.f
  simp only [areSpots_val, iYears_val, iRate_val, Option.bind_some]
  by_cases hs : AllSpots l <;> by_cases hy : 0 ≤ y ∧ y ≤ 30000 <;> by_cases hr : 1 ≤ r ∧ r ≤ 100 <;> by_cases hn : l.length ≤ 12 <;>
    simp [hs, hy, hr, hn, impl_check.f, codeV, RateP, show ((l.length : Int) ≤ 12) = (l.length ≤ 12) from propext ⟨fun h => by omega, fun h => by omega⟩]
theorem star_same (l : List S33) (hl : l.length ≤ 17592186044416) (y r : Int) : ∃ res, Ev (fun k => spec_PoleStar.f k l y r) res ∧ Ev (fun k => impl_PoleStar.f k l y r) res := by
  classical
  have hst := l15Stars_ev l hl y r
  have hi : ∀ v, Ev (fun k => impl_PoleStar.j0 k l y r (codeV (AllSpots l) (RateP y r ∧ l.length ≤ 12))) v → Ev (fun k => impl_PoleStar.f k l y r) v := fun v hv => Ev.congr (fun k => istar_code l y r k) hv
  by_cases h : AllSpots l ∧ (RateP y r ∧ l.length ≤ 12)
  · have hz := (codeV_zero (AllSpots l) (RateP y r ∧ l.length ≤ 12)).2 h
    rw [hz] at hst hi
    obtain ⟨hs, hr, hn⟩ := h
    by_cases h0 : l.length = 0
    · refine ⟨(0, 0, 3), ?_, hi _ ?_⟩
      · unfold spec_PoleStar.f
        refine Ev.bind hst ?_
        simp only [if_true, show ((l.length : Int) == 0) = true from by simp [h0]]
        refine ev_succ ?_
        simp only [spec_PoleStar.j0, if_true]
        refine ev_succ ?_
        simp only [spec_PoleStar.j1, if_neg (show ¬ (3 : Int) = 0 by omega)]
        exact ev_const rfl
      · refine ev_succ ?_
        simp only [impl_PoleStar.j0, if_true]
        refine ev_succ ?_
        simp only [impl_PoleStar.l0, if_neg (show ¬ (0 : Int) < (l.length : Int) by omega), if_pos (show (-1 : Int) < 0 by omega)]
        exact ev_const rfl
    · have hp : 0 < l.length := by omega
      obtain ⟨d, e1, e2, e3⟩ := pole_same (hs _ (List.getElem_mem hp)) hr
      obtain ⟨res, h1, h2⟩ := pole_l l hn hs hr (l.length - 1) 0 d 1 (by omega) rfl
      have r0 : rd_T33 l 0 = l[0] := rd_T33_at l 0 hp
      refine ⟨res, ?_, hi _ ?_⟩
      · unfold spec_PoleStar.f
        refine Ev.bind hst ?_
        simp only [if_true, show ((l.length : Int) == 0) = false from beq_eq_false_iff_ne.2 (by omega)]
        refine ev_succ ?_
        simp only [spec_PoleStar.j0, Bool.false_eq_true, if_false]
        refine ev_succ ?_
        simp only [spec_PoleStar.j1, if_true, if_pos (show (0 : Int) < (l.length : Int) by omega), r0]
        refine Ev.bind e1 ?_
        exact h1
      · refine ev_succ ?_
        simp only [impl_PoleStar.j0, if_true]
        refine ev_succ ?_
        simp only [impl_PoleStar.l0, if_pos (show (0 : Int) < (l.length : Int) by omega), if_pos (show (0 : Int) ≤ 0 by omega), r0, e2, impl_poleSpot.f, Option.bind_some]
        refine Ev.bind e3 ?_
        simp only [if_pos (show (-1 : Int) < 0 by omega), w64 (x := (0 : Int) + 1) (by omega) (by omega)]
        exact h2
  · have hz : ¬ codeV (AllSpots l) (RateP y r ∧ l.length ≤ 12) = 0 := fun e => h ((codeV_zero _ _).1 e)
    refine ⟨(0, 0, codeV (AllSpots l) (RateP y r ∧ l.length ≤ 12)), ?_, hi _ ?_⟩
    · unfold spec_PoleStar.f
      refine Ev.bind hst ?_
      simp only [if_neg hz]
      refine ev_succ ?_
      simp only [spec_PoleStar.j0, Bool.false_eq_true, if_false]
      refine ev_succ ?_
      simp only [spec_PoleStar.j1, if_neg hz]
      exact ev_const rfl
    · refine ev_succ ?_
      simp only [impl_PoleStar.j0, if_neg hz]
      exact ev_const rfl
theorem FnExactPoleStar : laws_FnExactPoleStar.Pure := by
  intro l y r hl hw _ _
  apply Ev.rounds
  unfold laws_FnExactPoleStar.f
  rcases szSpot_val l hl (a := 1048576) (by omega) (by omega) with e | ⟨e, e1⟩
  · simp only [e, Option.bind_some]; exact ev_const rfl
  · simp only [e, Option.bind_some, if_neg (show ¬ (1048576 - (l.length : Int) < 0) by omega)]
    have hto := toSpot_ev l (by omega)
    have hml : (l.map cvSpot).length ≤ 17592186044416 := by rw [List.length_map]; omega
    obtain ⟨res, h1, h2⟩ := star_same (l.map cvSpot) hml y r
    refine Ev.bind hto (Ev.bind h1 (Ev.bind hto (Ev.bind h2 ?_)))
    simp only [if_true, bne_self_eq_false]
    refine ev_succ ?_
    simp only [laws_FnExactPoleStar.j0, Bool.false_eq_true, if_false]
    refine Ev.bind hto (Ev.bind (eqSpot_ev _ hml) ?_)
    simp only [if_true]
    exact ev_const rfl

end Go.Proofs.Ytpblmoebembiaaa.Pure
