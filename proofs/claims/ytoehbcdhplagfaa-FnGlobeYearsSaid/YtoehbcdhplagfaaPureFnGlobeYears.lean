/- FnGlobeYears: for all bytes: in no drawn year do the stars fit better than in the told one, and the pole star is the nearest one. -/
import Derived.Test.YtoehbcdhplagfaaPFnGlobeYearsx7
namespace Go.Proofs.Ytoehbcdhplagfaa.Pure
open Go.RowKit Go.Proofs.Ytoehbcdhplagfaa.PFnGlobeYears Go.Proofs.YtoehbcdhplagfaaW.PrintWords Go.Proofs.YtoehbcdhplagfaaW.PrintLast Go.Proofs.YtoehbcdhplagfaaW.PrintMore
set_option linter.unusedVariables false
set_option linter.unusedSimpArgs false
theorem wfb {a : Int} (h : (Lit.int .i64 a).wf = true) : -9223372036854775808 ≤ a ∧ a ≤ 9223372036854775807 := by
  simpa [Lit.wf, IntKind.min, IntKind.max, IntKind.signed, IntKind.bits] using h
theorem w64 {x : Int} (h : -9223372036854775808 ≤ x) (h2 : x ≤ 9223372036854775807) : wrap64 x = x := by unfold wrap64; omega
theorem tdiv_nn {a b : Int} (h : 0 ≤ a) : Int.tdiv a b = a / b := Int.tdiv_eq_ediv_of_nonneg h
theorem tmod_nn {a b : Int} (h : 0 ≤ a) : Int.tmod a b = a % b := Int.tmod_eq_emod_of_nonneg h
theorem floor_val (a b : Int) (hb : 0 < b) : (if Int.tmod a b < 0 then Int.tdiv a b - 1 else Int.tdiv a b) = a / b := by
  have h1 := Int.mul_tdiv_add_tmod a b
  have hlt : Int.tmod a b < b := Int.tmod_lt_of_pos a hb
  have hgt : -b < Int.tmod a b := by
    have h2 := Int.tmod_lt_of_pos (-a) hb
    rw [Int.neg_tmod] at h2
    omega
  symm
  split
  · rename_i hneg
    refine ((Int.ediv_emod_unique hb (r := Int.tmod a b + b)).2 ⟨?_, by omega, by omega⟩).1
    rw [Int.mul_sub, Int.mul_one]
    omega
  · rename_i hneg
    exact ((Int.ediv_emod_unique hb (r := Int.tmod a b)).2 ⟨by omega, by omega, by omega⟩).1
theorem ediv_bd {a b : Int} (hb : 0 < b) (B : Int) (h0 : -B ≤ a) (h1 : a ≤ B) (hB : 0 ≤ B) : -B ≤ a / b ∧ a / b ≤ B := by
  constructor
  · rw [Int.le_ediv_iff_mul_le hb]
    have : B * 1 ≤ B * b := Int.mul_le_mul_of_nonneg_left (by omega) hB
    rw [Int.neg_mul]; omega
  · have h2 : a / b ≤ B / b := Int.ediv_le_ediv hb h1
    have h3 : B / b ≤ B := Int.ediv_le_self b hB
    omega
theorem ceil_alt (a b : Int) (hb : 0 < b) : (a + b - 1) / b = -((-a) / b) := by
  have h1 := Int.mul_ediv_add_emod (-a) b
  have h2 := Int.emod_nonneg (-a) (b := b) (by omega)
  have h3 := Int.emod_lt_of_pos (-a) hb
  refine ((Int.ediv_emod_unique hb (r := b - 1 - (-a) % b)).2 ⟨?_, by omega, by omega⟩).1
  rw [Int.mul_neg]
  omega

theorem ev_succ {α : Type} {g : Nat → Option α} {r : α} (h : Ev (fun k => g (k + 1)) r) : Ev g r := Ev.step (fun _ => rfl) h
theorem ev_const {α : Type} {g : Option α} {r : α} (h : g = some r) : Ev (fun _ => g) r := ⟨0, fun _ _ => h⟩
theorem ev_uniq {α : Type} {g : Nat → Option α} {a b : α} (h : Ev g a) (h' : Ev g b) : a = b := by
  obtain ⟨K, h⟩ := h
  obtain ⟨K', h'⟩ := h'
  have h1 := h (K + K') (by omega)
  rw [h' (K + K') (by omega)] at h1
  exact (Option.some.inj h1).symm

theorem floorDiv_val {a b : Int} (hb : 0 < b) (h0 : -4611686018427387904 ≤ a) (h1 : a ≤ 4611686018427387904) : impl_floorDiv.f a b = some (a / b) := by
  have hv := floor_val a b hb
  have hbd := ediv_bd hb 4611686018427387904 h0 h1 (by omega)
  unfold impl_floorDiv.f
  rw [if_neg (by omega)]
  split
  · rename_i hn
    rw [if_pos hn] at hv
    rw [w64 (x := Int.tdiv a b) (by omega) (by omega), w64 (by omega) (by omega), hv]
  · rename_i hn
    rw [if_neg hn] at hv
    rw [w64 (by omega) (by omega), hv]

theorem in_val (a b c : Int) : spec_l00In.f a b c = some (decide (b ≤ a ∧ a ≤ c)) := by
  unfold spec_l00In.f
  by_cases h : a ≥ b <;> by_cases h2 : a ≤ c <;> simp [h, h2] <;> omega
theorem within_val (a b c : Int) : impl_within.f a b c = some (decide (b ≤ a ∧ a ≤ c)) := in_val a b c

/-- A valid spot. -/
def SpotP (a b : Int) : Prop := (-324000 ≤ a ∧ a ≤ 324000) ∧ (-648000 ≤ b ∧ b ≤ 647999)
instance (a b : Int) : Decidable (SpotP a b) := by unfold SpotP; infer_instance
theorem l02Ok_val (a b : Int) : spec_l02Ok.f a b = some (decide (SpotP a b)) := by
  unfold spec_l02Ok.f SpotP
  simp only [in_val, Option.bind_some]
  by_cases h : -324000 ≤ a ∧ a ≤ 324000
  · simp only [h, decide_true, if_true, true_and]
  · simp [h]

theorem iValidSpot_val (a b : Int) : impl_ValidSpot.f a b = some (decide (SpotP a b)) := by
  unfold impl_ValidSpot.f SpotP
  simp only [within_val, Option.bind_some]
  by_cases h : -324000 ≤ a ∧ a ≤ 324000
  · simp only [h, decide_true, if_true, true_and]
  · simp [h]

def RateP (y r : Int) : Prop := (0 ≤ y ∧ y ≤ 30000) ∧ (1 ≤ r ∧ r ≤ 100)
instance (a b : Int) : Decidable (RateP a b) := by unfold RateP; infer_instance

theorem l15Rate_val (y r : Int) : spec_l15Rate.f y r = some (decide (RateP y r)) := by
  unfold spec_l15Rate.f RateP
  simp only [in_val, Option.bind_some]
  by_cases h : 0 ≤ y ∧ y ≤ 30000
  · simp only [h, decide_true, if_true, true_and]
  · simp [h]

theorem iRate_val (r : Int) : impl_isRate.f r = some (decide (1 ≤ r ∧ r ≤ 100)) := by
  unfold impl_isRate.f
  simp only [within_val, Option.bind_some]

theorem iYears_val (r : Int) : impl_areYears.f r = some (decide (0 ≤ r ∧ r ≤ 30000)) := by
  unfold impl_areYears.f
  simp only [within_val, Option.bind_some]

def codeV (ok rg : Prop) [Decidable ok] [Decidable rg] : Int := if ok then (if rg then 0 else 2) else 1
theorem check_val (ok rg : Prop) [Decidable ok] [Decidable rg] : impl_check.f (decide ok) (decide rg) = some (codeV ok rg) := by
  unfold impl_check.f codeV
  by_cases h : ok <;> by_cases h2 : rg <;> simp [h, h2]
theorem check_false (ok : Prop) [Decidable ok] : impl_check.f (decide ok) false = some (codeV ok False) := by
  unfold impl_check.f codeV
  by_cases h : ok <;> simp [h]
theorem codeV_zero (ok rg : Prop) [Decidable ok] [Decidable rg] : codeV ok rg = 0 ↔ (ok ∧ rg) := by
  unfold codeV
  by_cases h : ok <;> by_cases h2 : rg <;> simp [h, h2]

theorem l15Code_val (a b y r : Int) : spec_l15Code.f a b y r = some (codeV (SpotP a b) (RateP y r)) := by
  unfold spec_l15Code.f codeV
  simp only [l02Ok_val, l15Rate_val, Option.bind_some]
  by_cases h : SpotP a b <;> by_cases h2 : RateP y r <;> simp [h, h2]
theorem carryCode_val (a b y r : Int) : impl_carryCode.f a b y r = some (codeV (SpotP a b) (RateP y r)) := by
  unfold impl_carryCode.f
  simp only [iValidSpot_val, iYears_val, iRate_val, Option.bind_some]
  by_cases h : 0 ≤ y ∧ y ≤ 30000
  · rw [if_pos (decide_eq_true h), check_val]
    simp only [Option.bind_some]
    congr 1
    unfold codeV RateP
    simp [h]
  · rw [if_neg (by simpa using h), check_false]
    simp only [Option.bind_some]
    congr 1
    unfold codeV RateP
    simp [h]

theorem tmod_bd (a : Int) {b : Int} (hb : 0 < b) : -b < Int.tmod a b ∧ Int.tmod a b < b ∧ b * Int.tdiv a b + Int.tmod a b = a := by
  have h1 := Int.mul_tdiv_add_tmod a b
  have hlt : Int.tmod a b < b := Int.tmod_lt_of_pos a hb
  have h2 := Int.tmod_lt_of_pos (-a) hb
  rw [Int.neg_tmod] at h2
  omega
theorem around_val (a : Int) : impl_around.f a = some (a % 1296000) := by
  unfold impl_around.f
  have h := tmod_bd a (show (0 : Int) < 1296000 by omega)
  rw [w64 (by omega) (by omega), tmod_nn (by omega)]
  congr 1
  omega

/-- The longitude of an angle. -/
def wrapV (a : Int) : Int := (a + 648000) % 1296000 - 648000
theorem wrapV_bd (a : Int) : -648000 ≤ wrapV a ∧ wrapV a ≤ 647999 := by unfold wrapV; omega
theorem iwrap_val {a : Int} (h0 : -4611686018427387904 ≤ a) (h1 : a ≤ 4611686018427387904) : impl_wrap.f a = some (wrapV a) := by
  unfold impl_wrap.f
  rw [w64 (x := a + 648000) (by omega) (by omega), around_val]
  simp only [Option.bind_some]
  rw [w64 (by omega) (by omega)]
  rfl

theorem swrap_val {a : Int} (h0 : -4611686018427387904 ≤ a) (h1 : a ≤ 4611686018427387904) : spec_l02Wrap.f a = some (wrapV a) := by
  unfold spec_l02Wrap.f wrapV
  rw [w64 (x := a + 648000) (by omega) (by omega)]
  have h := tmod_bd (a + 648000) (show (0 : Int) < 1296000 by omega)
  split
  · rw [w64 (x := Int.tmod (a + 648000) 1296000 + 1296000) (by omega) (by omega), w64 (by omega) (by omega)]
    congr 1; omega
  · rw [w64 (by omega) (by omega)]
    congr 1; omega

theorem mul_bd {y r : Int} (h : RateP y r) : 0 ≤ y * r ∧ y * r ≤ 3000000 := by
  obtain ⟨⟨h1, h2⟩, h3, h4⟩ := h
  refine ⟨Int.mul_nonneg h1 (by omega), ?_⟩
  have : y * r ≤ 30000 * 100 := Int.mul_le_mul h2 h4 (by omega) (by omega)
  omega

theorem l15Carry_val {a b c : Int} (hs : SpotP a b) (h0 : -1000000000000 ≤ c) (h1 : c ≤ 1000000000000) : spec_l15Carry.f a b c = some (a, wrapV (b + c)) := by
  unfold SpotP at hs
  unfold spec_l15Carry.f
  rw [w64 (x := b + c) (by omega) (by omega), swrap_val (by omega) (by omega)]
  rfl
theorem turned_val {a b c : Int} (hs : SpotP a b) (h0 : -1000000000000 ≤ c) (h1 : c ≤ 1000000000000) : impl_turned.f a b c = some (a, wrapV (b + c)) := by
  unfold SpotP at hs
  unfold impl_turned.f
  rw [w64 (x := b + c) (by omega) (by omega), iwrap_val (by omega) (by omega)]
  rfl

/-- The sine's quotient on the first half turn. -/
def sinP (x : Int) : Int := x * (648000 - x)
def sinH (x : Int) : Int := (2 * (16000000 * sinP x) + (2099520000000 - 4 * sinP x)) / (2 * (2099520000000 - 4 * sinP x))
def sineV (a : Int) : Int := if a % 1296000 ≥ 648000 then -sinH (a % 1296000 - 648000) else sinH (a % 1296000)
theorem sinP_bd {x : Int} (h0 : 0 ≤ x) (h1 : x ≤ 648000) : 0 ≤ sinP x ∧ sinP x ≤ 104976000000 := by
  unfold sinP
  refine ⟨Int.mul_nonneg h0 (by omega), ?_⟩
  have hsq : 0 ≤ (x - 324000) * (x - 324000) := by
    rcases Int.le_total 0 (x - 324000) with h | h
    · exact Int.mul_nonneg h h
    · exact Int.mul_nonneg_of_nonpos_of_nonpos h h
  have e : x * (648000 - x) = 104976000000 - (x - 324000) * (x - 324000) := by
    rw [Int.mul_sub, Int.sub_mul, Int.mul_sub, Int.mul_sub]
    omega
  omega
theorem sinH_bd {x : Int} (h0 : 0 ≤ x) (h1 : x ≤ 648000) : 0 ≤ sinH x ∧ sinH x ≤ 1000000 := by
  have h := sinP_bd h0 h1
  unfold sinH
  refine ⟨Int.ediv_nonneg (by omega) (by omega), ?_⟩
  apply Int.le_of_lt_add_one
  rw [Int.ediv_lt_iff_lt_mul (by omega)]
  omega
theorem sineV_bd (a : Int) : -1000000 ≤ sineV a ∧ sineV a ≤ 1000000 := by
  unfold sineV
  split
  · have := sinH_bd (x := a % 1296000 - 648000) (by omega) (by omega); omega
  · have := sinH_bd (x := a % 1296000) (by omega) (by omega); omega
theorem sinP_mono {x y : Int} (h0 : 0 ≤ x) (h : x ≤ y) (h1 : y ≤ 324000) : sinP x ≤ sinP y := by
  unfold sinP
  have : 0 ≤ (y - x) * (648000 - x - y) := Int.mul_nonneg (by omega) (by omega)
  have e : y * (648000 - y) - x * (648000 - x) = (y - x) * (648000 - x - y) := by
    simp only [Int.mul_sub, Int.sub_mul]
    rw [Int.mul_comm y x]
    omega
  omega
theorem sinH_mono {x y : Int} (h0 : 0 ≤ x) (h : x ≤ y) (h1 : y ≤ 324000) : sinH x ≤ sinH y := by
  have hx := sinP_bd h0 (show x ≤ 648000 by omega)
  have hy := sinP_bd (show 0 ≤ y by omega) (show y ≤ 648000 by omega)
  have hm := sinP_mono h0 h h1
  have hq := Int.ediv_mul_le (2 * (16000000 * sinP x) + (2099520000000 - 4 * sinP x)) (b := 2 * (2099520000000 - 4 * sinP x)) (by omega)
  have hb := sinH_bd h0 (show x ≤ 648000 by omega)
  show sinH x ≤ (2 * (16000000 * sinP y) + (2099520000000 - 4 * sinP y)) / (2 * (2099520000000 - 4 * sinP y))
  rw [Int.le_ediv_iff_mul_le (by omega)]
  have e : (2 * (16000000 * sinP x) + (2099520000000 - 4 * sinP x)) / (2 * (2099520000000 - 4 * sinP x)) = sinH x := rfl
  rw [e] at hq
  generalize sinH x = q at *
  generalize sinP x = p at *
  generalize sinP y = r at *
  have h5 : 0 ≤ q * (r - p) := Int.mul_nonneg hb.1 (by omega)
  have h6 : q * (2 * (2099520000000 - 4 * r)) = q * (2 * (2099520000000 - 4 * p)) - 8 * (q * (r - p)) := by
    simp only [Int.mul_sub, Int.mul_left_comm q]
    omega
  omega
theorem sineV_small {x : Int} (h0 : 0 ≤ x) (h1 : x < 648000) : sineV x = sinH x := by
  unfold sineV
  rw [Int.emod_eq_of_lt h0 (by omega), if_neg (by omega)]
theorem sinH_end : sinH 0 = 0 ∧ sinH 648000 = 0 := by decide

theorem inearest_val {a b : Int} (hb : 0 < b) (h2 : b ≤ 1000000000000000) (h0 : -2000000000000000000 ≤ a) (h1 : a ≤ 2000000000000000000) : impl_nearest.f a b = some ((2 * a + b) / (2 * b)) := by
  unfold impl_nearest.f
  rw [w64 (x := 2 * a) (by omega) (by omega), w64 (x := 2 * a + b) (by omega) (by omega), w64 (x := 2 * b) (by omega) (by omega), floorDiv_val (by omega) (by omega) (by omega)]
  rfl
theorem isine_small {x : Int} (h0 : 0 ≤ x) (h1 : x < 648000) (k : Nat) : impl_sine.f (k + 1) x = some (sinH x) := by
  have hp := sinP_bd h0 (show x ≤ 648000 by omega)
  simp only [impl_sine.f, around_val, Option.bind_some]
  rw [Int.emod_eq_of_lt h0 (by omega), if_neg (by omega), w64 (x := 648000 - x) (by omega) (by omega)]
  rw [show x * (648000 - x) = sinP x from rfl, w64 (x := sinP x) (by omega) (by omega), w64 (x := 16000000 * sinP x) (by omega) (by omega), w64 (x := 4 * sinP x) (by omega) (by omega), w64 (x := 2099520000000 - 4 * sinP x) (by omega) (by omega)]
  rw [inearest_val (by omega) (by omega) (by omega) (by omega)]
  rfl
theorem isine_val (a : Int) (k : Nat) (hk : 2 ≤ k) : impl_sine.f k a = some (sineV a) := by
  obtain ⟨k, rfl⟩ : ∃ m, k = m + 2 := ⟨k - 2, by omega⟩
  by_cases h : a % 1296000 ≥ 648000
  · have hb := sinH_bd (x := a % 1296000 - 648000) (by omega) (by omega)
    show impl_sine.f (k + 1 + 1) a = _
    rw [impl_sine.f]
    simp only [around_val, Option.bind_some]
    rw [if_pos h, w64 (by omega) (by omega), isine_small (by omega) (by omega)]
    simp only [Option.bind_some]
    rw [w64 (by omega) (by omega)]
    unfold sineV
    rw [if_pos h]
  · have e := isine_small (x := a % 1296000) (by omega) (by omega) (k + 1)
    have e2 : impl_sine.f (k + 1 + 1) a = impl_sine.f (k + 1 + 1) (a % 1296000) := by
      simp only [impl_sine.f, around_val, Option.bind_some, Int.emod_emod]
    show impl_sine.f (k + 1 + 1) a = _
    rw [e2, e]
    unfold sineV
    rw [if_neg h]
theorem icosine_val {a : Int} (h0 : -4611686018427387904 ≤ a) (h1 : a ≤ 4611686018427387904) (k : Nat) (hk : 2 ≤ k) : impl_cosine.f k a = some (sineV (a + 324000)) := by
  unfold impl_cosine.f
  rw [w64 (by omega) (by omega), isine_val _ k hk]
  rfl

/-- What an arc is: the least angle up to a quarter whose sine is at least s; a quarter if none is. -/
def ArcOf (s r : Int) : Prop := 0 ≤ r ∧ r ≤ 324000 ∧ (∀ m, 0 ≤ m → m < r → sineV m < s) ∧ (r = 324000 ∨ s ≤ sineV r)
theorem arc_unique {s r1 r2 : Int} (h1 : ArcOf s r1) (h2 : ArcOf s r2) : r1 = r2 := by
  obtain ⟨a1, b1, c1, d1⟩ := h1
  obtain ⟨a2, b2, c2, d2⟩ := h2
  rcases Int.lt_trichotomy r1 r2 with h | h | h
  · have := c2 r1 a1 h; omega
  · exact h
  · have := c1 r2 a2 h; omega
theorem sineV_mono {x y : Int} (h0 : 0 ≤ x) (h : x ≤ y) (h1 : y ≤ 324000) : sineV x ≤ sineV y := by
  rw [sineV_small h0 (by omega), sineV_small (by omega) (by omega)]
  exact sinH_mono h0 h h1

theorem iarc_l (s : Int) (d : Nat) : ∀ (k : Nat) (lo hi : Int), 0 ≤ lo → lo ≤ hi → hi ≤ 324000 → hi - lo ≤ d → d + 2 < k → (∀ m, 0 ≤ m → m < lo → sineV m < s) → (hi = 324000 ∨ s ≤ sineV hi) →
    ∃ r, impl_arc.l0 k s lo hi = some r ∧ ArcOf s r := by
  induction d with
  | zero =>
    intro k lo hi h0 h1 h2 hd hk hlo hhi
    obtain ⟨k, rfl⟩ : ∃ m, k = m + 1 := ⟨k - 1, by omega⟩
    have e : lo = hi := by omega
    refine ⟨lo, by simp only [impl_arc.l0]; rw [if_neg (by omega)], h0, by omega, hlo, by rw [e]; exact hhi⟩
  | succ d ih =>
    intro k lo hi h0 h1 h2 hd hk hlo hhi
    obtain ⟨k, rfl⟩ : ∃ m, k = m + 1 := ⟨k - 1, by omega⟩
    simp only [impl_arc.l0]
    by_cases hlt : lo < hi
    · rw [if_pos hlt, w64 (x := lo + hi) (by omega) (by omega), tdiv_nn (by omega), w64 (x := (lo + hi) / 2) (by omega) (by omega), isine_val _ k (by omega)]
      simp only [Option.bind_some]
      by_cases hs : sineV ((lo + hi) / 2) ≥ s
      · rw [if_pos hs]
        exact ih k lo _ h0 (by omega) (by omega) (by omega) (by omega) hlo (.inr hs)
      · rw [if_neg hs, w64 (x := (lo + hi) / 2 + 1) (by omega) (by omega)]
        refine ih k _ hi (by omega) (by omega) h2 (by omega) (by omega) (fun m hm hl => ?_) hhi
        have := sineV_mono hm (show m ≤ (lo + hi) / 2 by omega) (by omega)
        omega
    · have e : lo = hi := by omega
      exact ⟨lo, by rw [if_neg hlt], h0, by omega, hlo, by rw [e]; exact hhi⟩
theorem iarc_val (s : Int) (k : Nat) (hk : 400000 ≤ k) : ∃ r, impl_arc.f k s = some r ∧ ArcOf s r :=
  iarc_l s 324000 k 0 324000 (by omega) (by omega) (by omega) (by omega) (by omega) (fun m _ _ => by omega) (.inl rfl)

/-- The cosine of a distance. -/
def cosD (a b c d : Int) : Int := mx (-1000000) (mn 1000000 ((sineV a * sineV c * 1000000 + sineV (a + 324000) * sineV (c + 324000) * sineV (d - b + 324000)) / 1000000000000))
def DistOf (a b c d r : Int) : Prop := (a = c ∧ b = d ∧ r = 0) ∨ (¬ (a = c ∧ b = d) ∧ ((cosD a b c d < 0 ∧ ∃ q, ArcOf (-cosD a b c d) q ∧ r = 324000 + q) ∨ (¬ cosD a b c d < 0 ∧ ∃ q, ArcOf (cosD a b c d) q ∧ r = mx 1 (324000 - q))))
theorem dist_unique {a b c d r1 r2 : Int} (h1 : DistOf a b c d r1) (h2 : DistOf a b c d r2) : r1 = r2 := by
  rcases h1 with ⟨e1, e2, rfl⟩ | ⟨n1, h1⟩
  · rcases h2 with ⟨_, _, rfl⟩ | ⟨n2, _⟩
    · rfl
    · exact absurd ⟨e1, e2⟩ n2
  · rcases h2 with ⟨e1, e2, rfl⟩ | ⟨_, h2⟩
    · exact absurd ⟨e1, e2⟩ n1
    · rcases h1 with ⟨c1, q1, ha1, rfl⟩ | ⟨c1, q1, ha1, rfl⟩
      · rcases h2 with ⟨c2, q2, ha2, rfl⟩ | ⟨c2, q2, ha2, rfl⟩
        · rw [arc_unique ha1 ha2]
        · exact absurd c1 c2
      · rcases h2 with ⟨c2, q2, ha2, rfl⟩ | ⟨c2, q2, ha2, rfl⟩
        · exact absurd c2 c1
        · rw [arc_unique ha1 ha2]
theorem dist_bd {a b c d r : Int} (h : DistOf a b c d r) : 0 ≤ r ∧ r ≤ 648000 := by
  rcases h with ⟨_, _, rfl⟩ | ⟨_, ⟨_, q, ⟨q0, q1, _⟩, rfl⟩ | ⟨_, q, ⟨q0, q1, _⟩, rfl⟩⟩
  · omega
  · omega
  · unfold mx; split <;> omega
theorem cosD_bd (a b c d : Int) : -1000000 ≤ cosD a b c d ∧ cosD a b c d ≤ 1000000 := by
  unfold cosD mx mn
  split <;> split <;> omega
theorem prod2_bd {x y : Int} (h0 : -1000000 ≤ x) (h1 : x ≤ 1000000) (h2 : -1000000 ≤ y) (h3 : y ≤ 1000000) : -1000000000000 ≤ x * y ∧ x * y ≤ 1000000000000 := by
  have h : (x * y).natAbs ≤ 1000000 * 1000000 := by
    rw [Int.natAbs_mul]
    exact Nat.mul_le_mul (by omega) (by omega)
  omega
theorem prod3_bd {x y : Int} (h0 : -1000000000000 ≤ x) (h1 : x ≤ 1000000000000) (h2 : -1000000 ≤ y) (h3 : y ≤ 1000000) : -1000000000000000000 ≤ x * y ∧ x * y ≤ 1000000000000000000 := by
  have h : (x * y).natAbs ≤ 1000000000000 * 1000000 := by
    rw [Int.natAbs_mul]
    exact Nat.mul_le_mul (by omega) (by omega)
  omega

theorem icos_val {a b c d : Int} (ha : SpotP a b) (hc : SpotP c d) (k : Nat) (hk : 2 ≤ k) : impl_cosDistance.f k a b c d = some (cosD a b c d) := by
  unfold SpotP at ha hc
  have s1 := sineV_bd a; have s2 := sineV_bd c; have s3 := sineV_bd (a + 324000); have s4 := sineV_bd (c + 324000); have s5 := sineV_bd (d - b + 324000)
  have p1 := prod2_bd s1.1 s1.2 s2.1 s2.2
  have p2 := prod2_bd s3.1 s3.2 s4.1 s4.2
  have p3 := prod3_bd p2.1 p2.2 s5.1 s5.2
  unfold impl_cosDistance.f
  rw [isine_val a k hk, isine_val c k hk, icosine_val (by omega) (by omega) k hk, icosine_val (by omega) (by omega) k hk, w64 (x := d - b) (by omega) (by omega), icosine_val (by omega) (by omega) k hk]
  simp only [Option.bind_some]
  rw [w64 (x := sineV a * sineV c) (by omega) (by omega), w64 (x := sineV a * sineV c * 1000000) (by omega) (by omega), w64 (x := sineV (a + 324000) * sineV (c + 324000)) (by omega) (by omega), w64 (x := sineV (a + 324000) * sineV (c + 324000) * sineV (d - b + 324000)) (by omega) (by omega), w64 (x := _ + _) (by omega) (by omega)]
  rw [floorDiv_val (by omega) (by omega) (by omega)]
  rfl
theorem idist_val {a b c d : Int} (ha : SpotP a b) (hc : SpotP c d) (k : Nat) (hk : 400000 ≤ k) : ∃ r, impl_distance.f k a b c d = some r ∧ DistOf a b c d r := by
  unfold impl_distance.f
  by_cases e : a = c ∧ b = d
  · refine ⟨0, ?_, .inl ⟨e.1, e.2, rfl⟩⟩
    rw [if_pos (by simp [e])]
  · rw [if_neg (by simpa using e), icos_val ha hc k (by omega)]
    simp only [Option.bind_some]
    have hb := cosD_bd a b c d
    by_cases h : cosD a b c d < 0
    · rw [if_pos h, w64 (x := -cosD a b c d) (by omega) (by omega)]
      obtain ⟨q, hq, hA⟩ := iarc_val (-cosD a b c d) k hk
      have hq1 := hA.1
      have hq2 := hA.2.1
      rw [hq]
      simp only [Option.bind_some]
      rw [w64 (by omega) (by omega)]
      exact ⟨_, rfl, .inr ⟨e, .inl ⟨h, q, hA, rfl⟩⟩⟩
    · rw [if_neg h]
      obtain ⟨q, hq, hA⟩ := iarc_val (cosD a b c d) k hk
      have hq1 := hA.1
      have hq2 := hA.2.1
      rw [hq]
      simp only [Option.bind_some]
      rw [w64 (by omega) (by omega)]
      exact ⟨_, rfl, .inr ⟨e, .inr ⟨h, q, hA, rfl⟩⟩⟩

theorem rd_T37_at (l : List S37) (i : Nat) (h : i < l.length) : rd_T37 l (i : Int) = l[i] := by
  unfold rd_T37
  rw [Int.toNat_natCast, List.getD_eq_getElem?_getD, List.getElem?_eq_getElem h]
  rfl

def AllSpots (l : List S37) : Prop := ∀ x ∈ l, SpotP x.f0 x.f1
theorem areSpots_val (l : List S37) [Decidable (AllSpots l)] : impl_areSpots.f l = some (decide (AllSpots l)) := by
  unfold impl_areSpots.f
  congr 1
  rw [Bool.eq_iff_iff, decide_eq_true_iff, Bool.not_eq_true', List.any_eq_false]
  unfold AllSpots spotBad SpotP
  constructor
  · intro h x hx
    have := h x hx
    simpa using this
  · intro h x hx
    have := h x hx
    simpa using this

def absV (a : Int) : Int := if a < 0 then -a else a
theorem iabs_val {a : Int} (h0 : -4611686018427387904 ≤ a) (h1 : a ≤ 4611686018427387904) : impl_absolute.f a = some (absV a) := by
  unfold impl_absolute.f absV mx
  rw [w64 (by omega) (by omega)]
  congr 1
  split <;> split <;> omega

/-- The sum of the differences of longitudes. -/
def offL (c : Int) : List S37 → List S37 → Int
  | x :: l, y :: m => absV (wrapV (y.f1 - x.f1 - c)) + offL c l m
  | _, _ => 0
theorem absV_bd {a : Int} (h0 : -648000 ≤ a) (h1 : a ≤ 648000) : 0 ≤ absV a ∧ absV a ≤ 648000 := by unfold absV; split <;> omega
theorem offL_bd (c : Int) : ∀ (l m : List S37), 0 ≤ offL c l m ∧ offL c l m ≤ 648000 * (l.length : Int)
  | [], _ => by simp [offL]
  | _ :: _, [] => by simp [offL]; omega
  | x :: l, y :: m => by
    have h := offL_bd c l m
    have hb := wrapV_bd (y.f1 - x.f1 - c)
    have ha := absV_bd (a := wrapV (y.f1 - x.f1 - c)) (by omega) (by omega)
    simp only [offL, List.length_cons]
    omega
theorem offL_drop (c : Int) (l m : List S37) (i : Nat) (h : i < l.length) (h2 : i < m.length) : offL c (l.drop i) (m.drop i) = absV (wrapV (m[i].f1 - l[i].f1 - c)) + offL c (l.drop (i + 1)) (m.drop (i + 1)) := by
  rw [List.drop_eq_getElem_cons h, List.drop_eq_getElem_cons h2, offL]

theorem iyog_in (l m : List S37) (hl : l.length ≤ 12) (hm : m.length = l.length) (hs : AllSpots l) (hs2 : AllSpots m) {r : Int} (hr : 1 ≤ r ∧ r ≤ 100) (best least yr : Int) (hy : 0 ≤ yr ∧ yr ≤ 30000) (q : Int × Int × Int) (T : Int)
    (hnext : Ev (fun k => (if least < 0 then impl_YearOfGlobe.l0 k l m r yr T (wrap64 (yr + 10)) else (if T < least then impl_YearOfGlobe.l0 k l m r yr T (wrap64 (yr + 10)) else impl_YearOfGlobe.l0 k l m r best least (wrap64 (yr + 10))))) q) (d : Nat) :
    ∀ (s : Int) (i : Nat), i ≤ l.length → l.length - i = d → 0 ≤ s → s ≤ 648000 * (i : Int) → s + offL (yr * r) (l.drop i) (m.drop i) = T → Ev (fun k => impl_YearOfGlobe.l1 k l m r best least yr s l (l.length : Int) i) q := by
  induction d with
  | zero =>
    intro s i hi hd h0 h1 hT
    refine ev_succ ?_
    rw [List.drop_eq_nil_of_le (by omega), List.drop_eq_nil_of_le (by omega)] at hT
    simp only [offL, Int.add_zero] at hT
    subst hT
    simp only [impl_YearOfGlobe.l1, if_neg (show ¬ (i : Int) < (l.length : Int) by omega)]
    exact hnext
  | succ d ih =>
    intro s i hi hd h0 h1 hT
    have hlt : i < l.length := by omega
    have hlt2 : i < m.length := by omega
    have h2 := (hs _ (List.getElem_mem hlt)).2
    have h3 := (hs2 _ (List.getElem_mem hlt2)).2
    have hyr := mul_bd (y := yr) (r := r) ⟨hy, hr⟩
    have hb := wrapV_bd (m[i].f1 - l[i].f1 - yr * r)
    have ha := absV_bd (a := wrapV (m[i].f1 - l[i].f1 - yr * r)) (by omega) (by omega)
    have e1 : impl_wrap.f (wrap64 ((wrap64 (m[i].f1 - l[i].f1)) - (wrap64 (yr * r)))) = some (wrapV (m[i].f1 - l[i].f1 - yr * r)) := by
      rw [w64 (x := yr * r) (by omega) (by omega), w64 (x := m[i].f1 - l[i].f1) (by omega) (by omega), w64 (x := m[i].f1 - l[i].f1 - yr * r) (by omega) (by omega), iwrap_val (by omega) (by omega)]
    have e2 : impl_absolute.f (wrapV (m[i].f1 - l[i].f1 - yr * r)) = some (absV (wrapV (m[i].f1 - l[i].f1 - yr * r))) := iabs_val (by omega) (by omega)
    rw [offL_drop _ l m i hlt hlt2] at hT
    refine ev_succ ?_
    simp only [impl_YearOfGlobe.l1, if_pos (show (i : Int) < (l.length : Int) by omega), if_pos (show (0 : Int) ≤ (i : Int) by omega), if_pos (show (i : Int) < (m.length : Int) by omega), rd_T37_at _ _ hlt, rd_T37_at _ _ hlt2, e1, e2, Option.bind_some, w64 (x := (i : Int) + 1) (by omega) (by omega), w64 (x := s + absV (wrapV (m[i].f1 - l[i].f1 - yr * r))) (by omega) (by omega)]
    exact ih _ (i + 1) (by omega) (by omega) (by omega) (by omega) (by omega)
/-- The best year so far. -/
def Best (l m : List S37) (r yr best least : Int) : Prop := (yr = 0 ∧ least < 0) ∨ (0 ≤ least ∧ 0 ≤ best ∧ best < yr ∧ best ≤ 30000 ∧ best % 10 = 0 ∧ least = offL (best * r) l m ∧ ∀ y, 0 ≤ y → y < yr → y % 10 = 0 → least ≤ offL (y * r) l m)
theorem iyog_out (l m : List S37) (hl : l.length ≤ 12) (hm : m.length = l.length) (hs : AllSpots l) (hs2 : AllSpots m) {r : Int} (hr : 1 ≤ r ∧ r ≤ 100) (d : Nat) :
    ∀ (best least yr : Int), 0 ≤ yr → yr % 10 = 0 → 30001 - yr ≤ d → yr ≤ 30010 → Best l m r yr best least → ∃ b s, Ev (fun k => impl_YearOfGlobe.l0 k l m r best least yr) (b, s, 0) ∧ 0 ≤ b ∧ b ≤ 30000 ∧ b % 10 = 0 ∧ s = offL (b * r) l m ∧ ∀ y, 0 ≤ y → y ≤ 30000 → y % 10 = 0 → s ≤ offL (y * r) l m := by
  have hend : ∀ (best least yr : Int), 0 ≤ yr → yr % 10 = 0 → ¬ yr ≤ 30000 → Best l m r yr best least → ∃ b s, Ev (fun k => impl_YearOfGlobe.l0 k l m r best least yr) (b, s, 0) ∧ 0 ≤ b ∧ b ≤ 30000 ∧ b % 10 = 0 ∧ s = offL (b * r) l m ∧ ∀ y, 0 ≤ y → y ≤ 30000 → y % 10 = 0 → s ≤ offL (y * r) l m := by
    intro best least yr h0 h10 hle hB
    rcases hB with ⟨h1, _⟩ | ⟨h1, h2, h3, h4, h5, h6, h7⟩
    · omega
    · refine ⟨best, least, ev_succ ?_, h2, h4, h5, h6, fun y y0 y1 y2 => h7 y y0 (by omega) y2⟩
      simp only [impl_YearOfGlobe.l0, if_neg hle]; exact ev_const rfl
  induction d with
  | zero =>
    intro best least yr h0 h10 hd hb hB
    exact hend best least yr h0 h10 (by omega) hB
  | succ d ih =>
    intro best least yr h0 h10 hd hb hB
    by_cases hle : yr ≤ 30000
    · have hob := offL_bd (yr * r) l m
      have hstep : ∀ b2 l2, Best l m r (yr + 10) b2 l2 → ∃ b s, Ev (fun k => impl_YearOfGlobe.l0 k l m r b2 l2 (wrap64 (yr + 10))) (b, s, 0) ∧ 0 ≤ b ∧ b ≤ 30000 ∧ b % 10 = 0 ∧ s = offL (b * r) l m ∧ ∀ y, 0 ≤ y → y ≤ 30000 → y % 10 = 0 → s ≤ offL (y * r) l m := by
        intro b2 l2 hB2
        rw [w64 (x := yr + 10) (by omega) (by omega)]
        exact ih b2 l2 (yr + 10) (by omega) (by omega) (by omega) (by omega) hB2
      have hgo : ∀ b2 l2, Best l m r (yr + 10) b2 l2 → (∀ k, (if least < 0 then impl_YearOfGlobe.l0 k l m r yr (offL (yr * r) l m) (wrap64 (yr + 10)) else (if offL (yr * r) l m < least then impl_YearOfGlobe.l0 k l m r yr (offL (yr * r) l m) (wrap64 (yr + 10)) else impl_YearOfGlobe.l0 k l m r best least (wrap64 (yr + 10)))) = impl_YearOfGlobe.l0 k l m r b2 l2 (wrap64 (yr + 10))) →
          ∃ b s, Ev (fun k => impl_YearOfGlobe.l0 k l m r best least yr) (b, s, 0) ∧ 0 ≤ b ∧ b ≤ 30000 ∧ b % 10 = 0 ∧ s = offL (b * r) l m ∧ ∀ y, 0 ≤ y → y ≤ 30000 → y % 10 = 0 → s ≤ offL (y * r) l m := by
        intro b2 l2 hB2 heq
        obtain ⟨b, s, e, hrest⟩ := hstep b2 l2 hB2
        refine ⟨b, s, ev_succ ?_, hrest⟩
        simp only [impl_YearOfGlobe.l0, if_pos hle]
        exact iyog_in l m hl hm hs hs2 hr best least yr ⟨h0, hle⟩ (b, s, 0) (offL (yr * r) l m) (by simp only [heq]; exact e) l.length 0 0 (by omega) (by omega) (by omega) (by omega) (by simp)
      have hnew : (∀ y, 0 ≤ y → y < yr → y % 10 = 0 → offL (yr * r) l m ≤ offL (y * r) l m) → Best l m r (yr + 10) yr (offL (yr * r) l m) := by
        intro h
        refine .inr ⟨hob.1, h0, by omega, hle, h10, rfl, fun y y0 y1 y2 => ?_⟩
        by_cases e : y = yr
        · subst e; omega
        · exact h y y0 (by omega) y2
      rcases hB with ⟨h1, h2⟩ | ⟨h1, h2, h3, h4, h5, h6, h7⟩
      · exact hgo yr _ (hnew (fun y y0 y1 _ => by omega)) (fun k => by rw [if_pos h2])
      · by_cases hlt : offL (yr * r) l m < least
        · exact hgo yr _ (hnew (fun y y0 y1 y2 => by have := h7 y y0 y1 y2; omega)) (fun k => by rw [if_neg (by omega), if_pos hlt])
        · refine hgo best least (.inr ⟨h1, h2, by omega, h4, h5, h6, fun y y0 y1 y2 => ?_⟩) (fun k => by rw [if_neg (by omega), if_neg hlt])
          by_cases e : y = yr
          · subst e; omega
          · exact h7 y y0 (by omega) y2
    · exact hend best least yr h0 h10 hle hB
theorem iyog_ev (l m : List S37) (hl : l.length ≤ 12) (hm : m.length = l.length) (hs : AllSpots l) (hs2 : AllSpots m) {r : Int} (hr : 1 ≤ r ∧ r ≤ 100) (hz : l.length ≠ 0) : ∃ b s, Ev (fun k => impl_YearOfGlobe.f k l m r) (b, s, 0) ∧ 0 ≤ b ∧ b ≤ 30000 ∧ b % 10 = 0 ∧ s = offL (b * r) l m ∧ ∀ y, 0 ≤ y → y ≤ 30000 → y % 10 = 0 → s ≤ offL (y * r) l m := by
  classical
  obtain ⟨b, s, e, hrest⟩ := iyog_out l m hl hm hs hs2 hr 30001 0 (-1) 0 (by omega) (by omega) (by omega) (by omega) (.inl ⟨rfl, by omega⟩)
  refine ⟨b, s, ?_, hrest⟩
  simp only [impl_YearOfGlobe.f, areSpots_val, iRate_val, Option.bind_some, hs, hs2, hr, decide_true, if_true, and_self, show (l.length : Int) ≤ 12 from by omega, show ((l.length : Int) == (m.length : Int)) = true from by rw [beq_iff_eq]; omega, impl_check.f]
  refine ev_succ ?_
  simp only [impl_YearOfGlobe.j0, if_true, if_neg (show ¬ (l.length : Int) = 0 by omega)]
  exact e
theorem iyog_none {r : Int} (hr : 1 ≤ r ∧ r ≤ 100) : Ev (fun k => impl_YearOfGlobe.f k [] [] r) (0, 0, 3) := by
  classical
  have hs : AllSpots [] := fun x hx => by simp at hx
  simp only [impl_YearOfGlobe.f, areSpots_val, iRate_val, Option.bind_some, hs, hr, decide_true, if_true, and_self, List.length_nil, show (((0 : Nat) : Int) ≤ 12) = True from by simp, beq_self_eq_true, impl_check.f]
  refine ev_succ ?_
  simp only [impl_YearOfGlobe.j0, if_true, List.length_nil, show (((0 : Nat) : Int) = 0) = True from by simp]
  exact ev_const rfl

/-- The star's distance from the pole after so many seconds. -/
def PoleD (x : S37) (c d : Int) : Prop := DistOf x.f0 (wrapV (x.f1 + c)) 237600 324000 d
/-- The best star so far. -/
def Near (l : List S37) (c : Int) (i : Nat) (best least : Int) : Prop := (i = 0 ∧ best = -1 ∧ least = 0) ∨ (∃ j : Nat, best = (j : Int) ∧ j < i ∧ (∃ h : j < l.length, PoleD l[j] c least) ∧ ∀ (t : Nat) (h : t < l.length) (d : Int), t < i → PoleD l[t] c d → least ≤ d ∧ (t < j → least < d))
theorem poledist_ev {x : S37} (hx : SpotP x.f0 x.f1) {c : Int} : ∃ d, Ev (fun k => impl_distance.f k x.f0 (wrapV (x.f1 + c)) 237600 324000) d ∧ PoleD x c d := by
  have hs1 : SpotP x.f0 (wrapV (x.f1 + c)) := ⟨hx.1, wrapV_bd _⟩
  have hs2 : SpotP 237600 324000 := by decide
  obtain ⟨d, e, u⟩ := idist_val hs1 hs2 400000 (by omega)
  exact ⟨d, Ev.of (fun k => impl_distance.mono _ _ _ _ k) e, u⟩
theorem ipole_l (l : List S37) (hl : l.length ≤ 12) (hs : AllSpots l) {y r : Int} (hr : RateP y r) (n : Nat) : ∀ (best least : Int) (i : Nat), i ≤ l.length → l.length - i = n → Near l (y * r) i best least →
    ∃ b s, Near l (y * r) l.length b s ∧ Ev (fun k => impl_PoleStar.l0 k y r best least l (l.length : Int) i) (if l.length = 0 then (0, 0, 3) else (b, s, 0)) := by
  have hm := mul_bd hr
  induction n with
  | zero =>
    intro best least i hi hd hN
    have e : i = l.length := by omega
    subst e
    refine ⟨best, least, hN, ev_succ ?_⟩
    simp only [impl_PoleStar.l0, if_neg (show ¬ (l.length : Int) < (l.length : Int) by omega)]
    rcases hN with ⟨h1, h2, h3⟩ | ⟨j, h1, h2, h3⟩
    · subst h2
      rw [if_pos h1]
      exact ev_const rfl
    · simp only [if_neg (show ¬ best < 0 by omega), if_neg (show ¬ l.length = 0 by omega)]
      exact ev_const rfl
  | succ n ih =>
    intro best least i hi hd hN
    have hlt : i < l.length := by omega
    have hx := hs _ (List.getElem_mem hlt)
    obtain ⟨d, ed, hD⟩ := poledist_ev hx (c := y * r)
    have e1 : impl_turned.f l[i].f0 l[i].f1 (wrap64 (y * r)) = some (l[i].f0, wrapV (l[i].f1 + y * r)) := by
      rw [w64 (by omega) (by omega)]; exact turned_val hx (by omega) (by omega)
    have hnew : (∀ (t : Nat) (h : t < l.length) (q : Int), t < i → PoleD l[t] (y * r) q → d < q) → Near l (y * r) (i + 1) i d := by
      intro h
      refine .inr ⟨i, rfl, by omega, ⟨hlt, hD⟩, fun t ht q hti hq => ?_⟩
      by_cases e : t = i
      · subst e
        have := dist_unique hD hq
        omega
      · have := h t ht q (by omega) hq
        omega
    have hgo : ∀ b2 l2, Near l (y * r) (i + 1) b2 l2 → (∀ k, (if best < 0 then impl_PoleStar.l0 k y r i d l (l.length : Int) (wrap64 ((i : Int) + 1)) else (if d < least then impl_PoleStar.l0 k y r i d l (l.length : Int) (wrap64 ((i : Int) + 1)) else impl_PoleStar.l0 k y r best least l (l.length : Int) (wrap64 ((i : Int) + 1)))) = impl_PoleStar.l0 k y r b2 l2 l (l.length : Int) (wrap64 ((i : Int) + 1))) →
        ∃ b s, Near l (y * r) l.length b s ∧ Ev (fun k => impl_PoleStar.l0 k y r best least l (l.length : Int) i) (if l.length = 0 then (0, 0, 3) else (b, s, 0)) := by
      intro b2 l2 hN2 heq
      obtain ⟨b, s, hb, e⟩ := ih b2 l2 (i + 1) (by omega) (by omega) hN2
      refine ⟨b, s, hb, ev_succ ?_⟩
      simp only [impl_PoleStar.l0, if_pos (show (i : Int) < (l.length : Int) by omega), if_pos (show (0 : Int) ≤ (i : Int) by omega), rd_T37_at _ _ hlt, e1, impl_poleSpot.f, Option.bind_some]
      refine Ev.bind ed ?_
      refine Ev.congr heq ?_
      simp only [w64 (x := (i : Int) + 1) (by omega) (by omega)]
      exact e
    rcases hN with ⟨h1, h2, h3⟩ | ⟨j, h1, h2, ⟨h3, h4⟩, h5⟩
    · exact hgo i d (hnew (fun t _ _ ht => by omega)) (fun k => by rw [if_pos (by omega)])
    · by_cases hlt2 : d < least
      · exact hgo i d (hnew (fun t ht q hti hq => by have := (h5 t ht q hti hq).1; omega)) (fun k => by rw [if_neg (by omega), if_pos hlt2])
      · refine hgo best least (.inr ⟨j, h1, by omega, ⟨h3, h4⟩, fun t ht q hti hq => ?_⟩) (fun k => by rw [if_neg (by omega), if_neg hlt2])
        by_cases e : t = i
        · subst e
          have := dist_unique hD hq
          omega
        · exact h5 t ht q (by omega) hq
theorem ipole_ev (l : List S37) (hl : l.length ≤ 12) (hs : AllSpots l) {y r : Int} (hr : RateP y r) : ∃ b s, Near l (y * r) l.length b s ∧ Ev (fun k => impl_PoleStar.f k l y r) (if l.length = 0 then (0, 0, 3) else (b, s, 0)) := by
  classical
  obtain ⟨b, s, hN, e⟩ := ipole_l l hl hs hr l.length (-1) 0 0 (by omega) (by omega) (.inl ⟨rfl, rfl, rfl⟩)
  refine ⟨b, s, hN, ?_⟩
  simp only [impl_PoleStar.f, areSpots_val, iYears_val, iRate_val, Option.bind_some, hs, hr.1, hr.2, and_self, decide_true, if_true, show (l.length : Int) ≤ 12 from by omega, impl_check.f]
  refine ev_succ ?_
  simp only [impl_PoleStar.j0, if_true]
  exact e

/-- Bytes. -/
def Bytes (l : List Int) : Prop := ∀ x ∈ l, 0 ≤ x ∧ x ≤ 255
theorem bytes_of {l : List Int} (h : ∀ x ∈ l, (Lit.int .u8 x).wf = true) : Bytes l := by
  intro x hx
  have := h x hx
  simpa [Lit.wf, IntKind.min, IntKind.max, IntKind.signed, IntKind.bits] using this
theorem rd_nat (l : List Int) (i : Nat) (h : i < l.length) : rd l (i : Int) = l[i] := by
  unfold rd
  rw [Int.toNat_natCast, List.getD_eq_getElem?_getD, List.getElem?_eq_getElem h]
  rfl
theorem rd_bytes {l : List Int} (h : Bytes l) {i : Int} (h0 : 0 ≤ i) (hi : i < (l.length : Int)) : 0 ≤ rd l i ∧ rd l i ≤ 255 := by
  obtain ⟨j, rfl⟩ := Int.eq_ofNat_of_zero_le h0
  rw [rd_nat l j (by omega)]
  exact h _ (List.getElem_mem _)
theorem wrap_u64 (n : Int) : IntKind.u64.wrap n = n % 18446744073709551616 := by simp [IntKind.wrap, IntKind.bits, IntKind.signed]
theorem low_byte {x : Int} (h0 : 0 ≤ x) (h1 : x < 18446744073709551616) : Go.bits .and .u64 x 255 = x % 256 :=
  bits_mask .u64 64 (by decide) (fun n h0 h1 => by rw [wrap_u64]; omega) 8 (by decide) x h0 (by simpa using h1)

theorem next_val {l : List Int} (hB : Bytes l) (hl : l.length ≤ 140737488351232) {a s : Int} (h0 : 0 ≤ a) (h1 : a ≤ 1000000000) : ∃ b s', spec_l00Src_next.f l a s = some (b, a + 1, s') ∧ 0 ≤ b ∧ b ≤ 255 := by
  unfold spec_l00Src_next.f
  rw [w64 (x := a + 1) (by omega) (by omega)]
  have hlow : ∀ z : Int, 0 ≤ wrap64 (Go.bits .and .u64 (IntKind.u64.wrap z / 1099511627776) 255) ∧ wrap64 (Go.bits .and .u64 (IntKind.u64.wrap z / 1099511627776) 255) ≤ 255 := by
    intro z
    rw [wrap_u64, low_byte (by omega) (by omega), w64 (by omega) (by omega)]
    omega
  by_cases h : a < (l.length : Int)
  · have hr := rd_bytes hB h0 h
    rw [if_pos h, if_pos h0, if_pos (by omega), w64 (x := rd l a) (by omega) (by omega)]
    exact ⟨_, _, rfl, hr.1, hr.2⟩
  · rw [if_neg h, if_neg (by omega)]
    exact ⟨_, _, rfl, (hlow _).1, (hlow _).2⟩
theorem pick_val {l : List Int} (hB : Bytes l) (hl : l.length ≤ 140737488351232) {a s : Int} (h0 : 0 ≤ a) (h1 : a ≤ 100000000) (n : Int) : ∃ v a' s', spec_l00Src_pick.f l a s n = some (v, a', s') ∧ a ≤ a' ∧ a' ≤ a + 2 ∧ 0 ≤ v ∧ (1 < n → v < n) ∧ (n ≤ 1 → v = 0) := by
  unfold spec_l00Src_pick.f
  by_cases h : n ≤ 1
  · rw [if_pos h]
    exact ⟨0, a, s, rfl, by omega, by omega, by omega, fun h => by omega, fun _ => rfl⟩
  · rw [if_neg h]
    obtain ⟨b, s1, e1, b0, b1⟩ := next_val hB hl (s := s) h0 (by omega)
    rw [e1]
    simp only [Option.bind_some]
    by_cases hn : n > 200
    · obtain ⟨c, s2, e2, c0, c1⟩ := next_val hB hl (a := a + 1) (s := s1) (by omega) (by omega)
      rw [if_pos hn, e2]
      simp only [Option.bind_some]
      rw [if_neg (by omega), w64 (x := b * 256) (by omega) (by omega), w64 (x := b * 256 + c) (by omega) (by omega), tmod_nn (by omega)]
      exact ⟨_, _, _, rfl, by omega, by omega, Int.emod_nonneg _ (by omega), fun _ => Int.emod_lt_of_pos _ (by omega), fun h2 => absurd h2 h⟩
    · rw [if_neg hn, if_neg (by omega), tmod_nn (by omega)]
      exact ⟨_, _, _, rfl, by omega, by omega, Int.emod_nonneg _ (by omega), fun _ => Int.emod_lt_of_pos _ (by omega), fun h2 => absurd h2 h⟩

theorem one_val {l : List Int} (hB : Bytes l) (hl : l.length ≤ 140737488351232) {a s : Int} (h0 : 0 ≤ a) (h1 : a ≤ 100000000) (n : Int) : ∃ v a' s', spec_l00Src_one.f l a s n = some (v, a', s') ∧ a ≤ a' ∧ a' ≤ a + 2 := by
  obtain ⟨v, a', s', e, h2, h3, _⟩ := pick_val hB hl (s := s) h0 h1 n
  unfold spec_l00Src_one.f
  rw [e]
  exact ⟨_, _, _, rfl, h2, h3⟩

theorem among_val {l : List Int} (hB : Bytes l) (hl : l.length ≤ 140737488351232) {a s : Int} (h0 : 0 ≤ a) (h1 : a ≤ 100000000) (m : List Int) (hm : 0 < m.length) : ∃ v a' s', spec_l00Src_among.f l a s m = some (v, a', s') ∧ a ≤ a' ∧ a' ≤ a + 2 ∧ v ∈ m := by
  obtain ⟨v, a', s', e, h2, h3, h4, h5, h6⟩ := pick_val hB hl (s := s) h0 h1 (m.length : Int)
  have hv : v < (m.length : Int) := by
    by_cases h : 1 < (m.length : Int)
    · exact h5 h
    · have := h6 (by omega); omega
  unfold spec_l00Src_among.f
  rw [e]
  simp only [Option.bind_some]
  rw [if_pos h4, if_pos hv]
  obtain ⟨j, rfl⟩ := Int.eq_ofNat_of_zero_le h4
  rw [rd_nat m j (by omega)]
  exact ⟨_, _, _, rfl, h2, h3, List.getElem_mem _⟩

theorem drawspot_j {l : List Int} (hB : Bytes l) (hl : l.length ≤ 140737488351232) {a s x y : Int} (h0 : 0 ≤ a) (h1 : a ≤ 10000000) (hs : SpotP x y) : ∃ p q a' s', Ev (fun k => spec_l02Draw.j0 k x y l a s) (p, q, a', s') ∧ SpotP p q ∧ a ≤ a' ∧ a' ≤ a + 4 := by
  obtain ⟨v, a1, s1, e1, h2, h3, _⟩ := pick_val hB hl (s := s) h0 (by omega) 12
  by_cases hv : v = 0
  · obtain ⟨u, a2, s2, e2, h4, h5, h6⟩ := among_val hB hl (a := a1) (s := s1) (by omega) (by omega) [(-324000), 0, 324000] (by simp)
    refine ⟨u, y, a2, s2, ev_succ ?_, ⟨?_, hs.2⟩, by omega, by omega⟩
    · simp only [spec_l02Draw.j0, e1, Option.bind_some, if_pos hv, e2]
      exact ev_const rfl
    · simp only [List.mem_cons, List.not_mem_nil, or_false] at h6
      omega
  · by_cases hv1 : v = 1
    · obtain ⟨u, a2, s2, e2, h4, h5, h6⟩ := among_val hB hl (a := a1) (s := s1) (by omega) (by omega) [(-648000), (-324000), 0, 324000, 647999] (by simp)
      refine ⟨x, u, a2, s2, ev_succ ?_, ⟨hs.1, ?_⟩, by omega, by omega⟩
      · simp only [spec_l02Draw.j0, e1, Option.bind_some, if_neg hv, if_pos hv1, e2]
        exact ev_const rfl
      · simp only [List.mem_cons, List.not_mem_nil, or_false] at h6
        omega
    · refine ⟨x, y, a1, s1, ev_succ ?_, hs, by omega, by omega⟩
      simp only [spec_l02Draw.j0, e1, Option.bind_some, if_neg hv, if_neg hv1]
      exact ev_const rfl
theorem drawspot_ev {l : List Int} (hB : Bytes l) (hl : l.length ≤ 140737488351232) {a s : Int} (h0 : 0 ≤ a) (h1 : a ≤ 1000000) : ∃ p q a' s', Ev (fun k => spec_l02Draw.f k l a s) (p, q, a', s') ∧ SpotP p q ∧ a ≤ a' ∧ a' ≤ a + 20 := by
  obtain ⟨v1, a1, s1, e1, g1, g2, g3, g4, _⟩ := pick_val hB hl (s := s) h0 (by omega) 181
  obtain ⟨v2, a2, s2, e2, i1, i2, i3, i4, _⟩ := pick_val hB hl (a := a1) (s := s1) (by omega) (by omega) 180
  obtain ⟨v3, a3, s3, e3, j1, j2⟩ := one_val hB hl (a := a2) (s := s2) (by omega) (by omega) 3
  have g4 := g4 (by omega)
  have i4 := i4 (by omega)
  by_cases h3 : v3 = true
  · obtain ⟨v4, a4, s4, e4, k1, k2, k3, k4, _⟩ := pick_val hB hl (a := a3) (s := s3) (by omega) (by omega) 120
    obtain ⟨v5, a5, s5, e5, m1, m2, m3, m4, _⟩ := pick_val hB hl (a := a4) (s := s4) (by omega) (by omega) 200
    have k4 := k4 (by omega)
    have m4 := m4 (by omega)
    obtain ⟨p, q, a', s', e, hs, n1, n2⟩ := drawspot_j hB hl (a := a5) (s := s5) (x := 1800 * (v1 - 90) + (v4 - 60)) (y := 3600 * (v2 - 90) + 60 * v5) (by omega) (by omega) ⟨by omega, by omega⟩
    refine ⟨p, q, a', s', ?_, hs, by omega, by omega⟩
    simp only [spec_l02Draw.f, e1, e2, e3, Option.bind_some, if_pos h3, e4, e5, w64 (x := v1 - 90) (by omega) (by omega), w64 (x := 1800 * (v1 - 90)) (by omega) (by omega), w64 (x := v2 - 90) (by omega) (by omega), w64 (x := 3600 * (v2 - 90)) (by omega) (by omega), w64 (x := v4 - 60) (by omega) (by omega), w64 (x := 1800 * (v1 - 90) + (v4 - 60)) (by omega) (by omega), w64 (x := 60 * v5) (by omega) (by omega), w64 (x := 3600 * (v2 - 90) + 60 * v5) (by omega) (by omega)]
    exact e
  · obtain ⟨p, q, a', s', e, hs, n1, n2⟩ := drawspot_j hB hl (a := a3) (s := s3) (x := 1800 * (v1 - 90)) (y := 3600 * (v2 - 90)) (by omega) (by omega) ⟨by omega, by omega⟩
    refine ⟨p, q, a', s', ?_, hs, by omega, by omega⟩
    simp only [spec_l02Draw.f, e1, e2, e3, Option.bind_some, if_neg h3, w64 (x := v1 - 90) (by omega) (by omega), w64 (x := 1800 * (v1 - 90)) (by omega) (by omega), w64 (x := v2 - 90) (by omega) (by omega), w64 (x := 3600 * (v2 - 90)) (by omega) (by omega)]
    exact e

theorem a2At_val {l : List Int} (hB : Bytes l) {i n : Int} (hi : 0 ≤ i) (hn : 1 ≤ n) : ∃ v, laws_a2At.f l i n = some v ∧ 0 ≤ v ∧ v < n := by
  unfold laws_a2At.f
  by_cases h : i ≥ (l.length : Int)
  · rw [if_pos h]; exact ⟨0, rfl, by omega, by omega⟩
  · have hr := rd_bytes hB hi (show i < (l.length : Int) by omega)
    rw [if_neg h, if_neg (by omega), if_pos hi, if_pos (by omega), if_neg (by omega), w64 (x := rd l i) (by omega) (by omega), tmod_nn (by omega)]
    exact ⟨_, rfl, Int.emod_nonneg _ (by omega), Int.emod_lt_of_pos _ (by omega)⟩
theorem a2Long_val (l m : List Int) : laws_a2Long.f l m = some (decide ((l.length : Int) > 3000 ∨ (m.length : Int) > 3000)) := by
  unfold laws_a2Long.f
  by_cases h : (l.length : Int) > 3000
  · simp [h]
  · simp [h]

theorem drawspots_l {l : List Int} (hB : Bytes l) (hl : l.length ≤ 140737488351232) (n : Nat) : ∀ (out : List S37) (a s c : Int), 0 ≤ a → a + 20 * c ≤ 100000 → c = n → out.length ≤ 1000 - n → n ≤ 1000 → AllSpots out → ∃ o a' s', Ev (fun k => spec_l05Draw.l0 k out c l a s) (o, a', s') ∧ AllSpots o ∧ o.length ≤ out.length + n := by
  induction n with
  | zero =>
    intro out a s c h0 h1 hc ho hn hA
    refine ⟨out, a, s, ev_succ ?_, hA, by omega⟩
    simp only [spec_l05Draw.l0, if_neg (show ¬ c > 0 by omega)]; exact ev_const rfl
  | succ n ih =>
    intro out a s c h0 h1 hc ho hn hA
    obtain ⟨p, q, a1, s1, e, hs, h2, h3⟩ := drawspot_ev hB hl (a := a) (s := s) h0 (by omega)
    obtain ⟨o, a', s', e2, hA2, hlen⟩ := ih (out ++ [⟨p, q⟩]) a1 s1 (c - 1) (by omega) (by omega) (by omega) (by simp; omega) (by omega) (fun x hx => by
      rcases List.mem_append.1 hx with h | h
      · exact hA x h
      · simp only [List.mem_singleton] at h
        subst h; exact hs)
    refine ⟨o, a', s', ev_succ ?_, hA2, by simp at hlen; omega⟩
    simp only [spec_l05Draw.l0, if_pos (show c > 0 by omega)]
    refine Ev.bind e ?_
    simp only [if_pos (show out.length < 8796093022208 by omega), w64 (x := c - 1) (by omega) (by omega)]
    exact e2
theorem a2spots_ev {l : List Int} (hB : Bytes l) (hl : l.length ≤ 140737488351232) : ∃ o, Ev (fun k => spec_A2Spots.f k l) o ∧ AllSpots o ∧ o.length ≤ 5 := by
  obtain ⟨v, a1, s1, e, h1, h2, h3, h4, _⟩ := pick_val hB hl (a := 0) (s := 0) (by omega) (by omega) 6
  have h4 := h4 (by omega)
  obtain ⟨o, a', s', e2, hA, hlen⟩ := drawspots_l hB hl v.toNat [] a1 s1 v (by omega) (by omega) (by omega) (Nat.zero_le _) (by omega) (fun x hx => by simp at hx)
  refine ⟨o, ?_, hA, by simp at hlen; omega⟩
  simp only [spec_A2Spots.f, spec_l00From.f, spec_l05Draw.f, Option.bind_some, show wrap64 (5 + 1) = 6 from w64 (by omega) (by omega), e]
  exact Ev.bind e2 (ev_const rfl)

theorem LonD_val {a b : Int} (h0 : -1000000000 ≤ a) (h1 : a ≤ 1000000000) (h2 : -1000000000 ≤ b) (h3 : b ≤ 1000000000) : spec_LonDifference.f a b = some (wrapV (b - a), 0) := by
  unfold spec_LonDifference.f spec_l02Angle.f
  simp only [in_val, Option.bind_some, h0, h1, h2, h3, and_self, decide_true, if_true]
  rw [w64 (x := b - a) (by omega) (by omega), swrap_val (by omega) (by omega)]
  rfl
theorem off_l (l m : List S37) (hl : l.length ≤ 12) (hm : m.length = l.length) (hs : AllSpots l) (hs2 : AllSpots m) {r yr : Int} (hr : RateP yr r) (d : Nat) :
    ∀ (s : Int) (i : Nat), i ≤ l.length → l.length - i = d → 0 ≤ s → s ≤ 648000 * (i : Int) → Ev (fun k => laws_a2Off.l0 k l m yr r s i) (s + offL (yr * r) (l.drop i) (m.drop i)) := by
  have hyr := mul_bd hr
  induction d with
  | zero =>
    intro s i hi hd h0 h1
    refine ev_succ ?_
    rw [List.drop_eq_nil_of_le (by omega), List.drop_eq_nil_of_le (by omega)]
    simp only [offL, Int.add_zero, laws_a2Off.l0, if_neg (show ¬ (i : Int) < (l.length : Int) by omega)]
    exact ev_const rfl
  | succ d ih =>
    intro s i hi hd h0 h1
    have hlt : i < l.length := by omega
    have hlt2 : i < m.length := by omega
    have h2 := (hs _ (List.getElem_mem hlt)).2
    have h3 := (hs2 _ (List.getElem_mem hlt2)).2
    have hb := wrapV_bd (m[i].f1 - l[i].f1 - yr * r)
    have ha := absV_bd (a := wrapV (m[i].f1 - l[i].f1 - yr * r)) (by omega) (by omega)
    have e1 : spec_LonDifference.f (wrap64 (l[i].f1 + wrap64 (yr * r))) m[i].f1 = some (wrapV (m[i].f1 - l[i].f1 - yr * r), 0) := by
      rw [w64 (x := yr * r) (by omega) (by omega), w64 (x := l[i].f1 + yr * r) (by omega) (by omega), LonD_val (by omega) (by omega) (by omega) (by omega), show m[i].f1 - (l[i].f1 + yr * r) = m[i].f1 - l[i].f1 - yr * r from by omega]
    have e2 : mx (wrapV (m[i].f1 - l[i].f1 - yr * r)) (wrap64 (-(wrapV (m[i].f1 - l[i].f1 - yr * r)))) = absV (wrapV (m[i].f1 - l[i].f1 - yr * r)) := by
      rw [w64 (by omega) (by omega)]
      unfold mx absV
      split <;> split <;> omega
    rw [offL_drop _ l m i hlt hlt2, ← Int.add_assoc]
    refine ev_succ ?_
    simp only [laws_a2Off.l0, if_pos (show (i : Int) < (l.length : Int) by omega), if_pos (show (0 : Int) ≤ (i : Int) by omega), if_pos (show (i : Int) < (m.length : Int) by omega), rd_T37_at _ _ hlt, rd_T37_at _ _ hlt2, e1, Option.bind_some, e2, w64 (x := (i : Int) + 1) (by omega) (by omega), w64 (x := s + absV (wrapV (m[i].f1 - l[i].f1 - yr * r))) (by omega) (by omega)]
    exact ih _ (i + 1) (by omega) (by omega) (by omega) (by omega)
theorem off_ev (l m : List S37) (hl : l.length ≤ 12) (hm : m.length = l.length) (hs : AllSpots l) (hs2 : AllSpots m) {r yr : Int} (hr : RateP yr r) : Ev (fun k => laws_a2Off.f k l m yr r) (offL (yr * r) l m) := by
  have h := off_l l m hl hm hs hs2 hr l.length 0 0 (by omega) (by omega) (by omega) (by omega)
  simp only [List.drop_zero, Int.zero_add] at h
  exact h
theorem height_ev {x : S37} (hx : SpotP x.f0 x.f1) {y r : Int} (hr : RateP y r) : ∃ d, Ev (fun k => impl_HeightFromPole.f k x.f0 x.f1 y r) (d, 0) ∧ PoleD x (y * r) d := by
  have hm := mul_bd hr
  obtain ⟨d, e, hD⟩ := poledist_ev hx (c := y * r)
  refine ⟨d, ?_, hD⟩
  unfold impl_HeightFromPole.f
  simp only [carryCode_val, Option.bind_some, if_pos ((codeV_zero _ _).2 ⟨hx, hr⟩), w64 (x := y * r) (by omega) (by omega), turned_val hx (c := y * r) (by omega) (by omega), impl_poleSpot.f]
  exact Ev.bind e (ev_const rfl)
theorem last_l (l : List S37) (hl : l.length ≤ 12) (hs : AllSpots l) {y r : Int} (hr : RateP y r) {b s : Int} (hN : Near l (y * r) l.length b s) (hz : l.length ≠ 0) (n : Nat) : ∀ (i : Nat), i ≤ l.length → l.length - i = n → Ev (fun k => laws_FnGlobeYears.l1 k l r y b s i) true := by
  induction n with
  | zero =>
    intro i hi hd
    refine ev_succ ?_
    simp only [laws_FnGlobeYears.l1, if_neg (show ¬ (i : Int) < (l.length : Int) by omega)]
    exact ev_const rfl
  | succ n ih =>
    intro i hi hd
    have hlt : i < l.length := by omega
    obtain ⟨d, e, hD⟩ := height_ev (hs _ (List.getElem_mem hlt)) hr
    rcases hN with ⟨h1, _, _⟩ | ⟨j, h1, h2, ⟨h3, h4⟩, h5⟩
    · exact absurd h1 hz
    · have hd5 := h5 i hlt d hlt hD
      refine ev_succ ?_
      simp only [laws_FnGlobeYears.l1, if_pos (show (i : Int) < (l.length : Int) by omega), if_pos (show (0 : Int) ≤ (i : Int) by omega), rd_T37_at _ _ hlt]
      refine Ev.bind e ?_
      simp only [if_true, if_neg (show ¬ d < s by omega), w64 (x := (i : Int) + 1) (by omega) (by omega)]
      by_cases hij : i = j
      · subst hij
        have hsd := dist_unique h4 hD
        simp only [if_pos (show (i : Int) = b by omega), if_pos (show d = s by omega), if_neg (show ¬ (i : Int) < b by omega)]
        exact ih (i + 1) (by omega) (by omega)
      · simp only [if_neg (show ¬ (i : Int) = b by omega)]
        by_cases hlt2 : (i : Int) < b
        · have := hd5.2 (by omega)
          simp only [if_pos hlt2, if_neg (show ¬ d = s by omega)]
          exact ih (i + 1) (by omega) (by omega)
        · simp only [if_neg hlt2]
          exact ih (i + 1) (by omega) (by omega)
theorem fin_ev (l seen : List S37) (hl : l.length ≤ 12) (hm : seen.length = l.length) (hs : AllSpots l) (hs2 : AllSpots seen) {y r : Int} (hr : RateP y r) (hy : y % 10 = 0) : Ev (fun k => ((impl_YearOfGlobe.f k l seen r).bind fun bt295 => ((impl_PoleStar.f k l y r).bind fun bt298 => (if (l.length : Int) = 0 then (if bt295.2.2 = 3 then (some (bt298.2.2 == 3)) else (some false)) else (if bt295.2.2 = 0 then (if bt295.1 < 0 then (laws_FnGlobeYears.j1 k l r y bt298.1 bt298.2.1 true) else (if bt295.1 > 30000 then (laws_FnGlobeYears.j1 k l r y bt298.1 bt298.2.1 true) else (if (Int.tmod bt295.1 10) = 0 then ((laws_a2Off.f k l seen bt295.1 r).bind fun t301 => (if bt295.2.1 = t301 then ((laws_a2Off.f k l seen y r).bind fun t302 => (if bt295.2.1 > t302 then (laws_FnGlobeYears.j1 k l r y bt298.1 bt298.2.1 true) else (if bt298.2.2 = 0 then (if bt298.1 < 0 then (laws_FnGlobeYears.j1 k l r y bt298.1 bt298.2.1 true) else (laws_FnGlobeYears.j1 k l r y bt298.1 bt298.2.1 (decide (bt298.1 ≥ (l.length : Int))))) else (laws_FnGlobeYears.j1 k l r y bt298.1 bt298.2.1 true)))) else (laws_FnGlobeYears.j1 k l r y bt298.1 bt298.2.1 true))) else (laws_FnGlobeYears.j1 k l r y bt298.1 bt298.2.1 true)))) else (laws_FnGlobeYears.j1 k l r y bt298.1 bt298.2.1 true)))))) true := by
  obtain ⟨b, s, hN, ep⟩ := ipole_ev l hl hs hr
  by_cases hz : l.length = 0
  · have e1 : l = [] := List.eq_nil_of_length_eq_zero hz
    have e2 : seen = [] := List.eq_nil_of_length_eq_zero (by omega)
    subst e1 e2
    simp only [List.length_nil, if_true] at ep
    refine Ev.bind (iyog_none hr.2) (Ev.bind ep ?_)
    simp only [List.length_nil, show (((0 : Nat) : Int) = 0) = True from by simp, if_true]
    exact ev_const rfl
  · rw [if_neg hz] at ep
    obtain ⟨q, t, ey, q0, q1, q2, q3, q4⟩ := iyog_ev l seen hl hm hs hs2 hr.2 hz
    have ho := q4 y hr.1.1 hr.1.2 hy
    refine Ev.bind ey (Ev.bind ep ?_)
    simp only [if_neg (show ¬ (l.length : Int) = 0 by omega), if_true, if_neg (show ¬ q < 0 by omega), if_neg (show ¬ q > 30000 by omega), tmod_nn q0, if_pos q2]
    refine Ev.bind (off_ev l seen hl hm hs hs2 (yr := q) ⟨⟨q0, q1⟩, hr.2⟩) ?_
    simp only [if_pos q3]
    refine Ev.bind (off_ev l seen hl hm hs hs2 hr) ?_
    have hlast := last_l l hl hs hr hN hz l.length 0 (by omega) (by omega)
    rcases hN with ⟨h1, _, _⟩ | ⟨j, h1, h2, _⟩
    · exact absurd h1 hz
    · simp only [if_neg (show ¬ t > offL (y * r) l seen by omega), if_neg (show ¬ b < 0 by omega), decide_eq_false (show ¬ b ≥ (l.length : Int) by omega)]
      refine ev_succ ?_
      simp only [laws_FnGlobeYears.j1, Bool.false_eq_true, if_false]
      exact hlast
theorem seen_l (l : List S37) (mo : List Int) (hM : Bytes mo) (hl : l.length ≤ 12) (hs : AllSpots l) {y r : Int} (hr : RateP y r) (hy : y % 10 = 0) (n : Nat) : ∀ (seen : List S37) (i : Nat), i ≤ l.length → l.length - i = n → seen.length = i → AllSpots seen → Ev (fun k => laws_FnGlobeYears.l0 k mo l r y seen i) true := by
  have hm := mul_bd hr
  induction n with
  | zero =>
    intro seen i hi hd hsl hss
    refine ev_succ ?_
    simp only [laws_FnGlobeYears.l0, if_neg (show ¬ (i : Int) < (l.length : Int) by omega)]
    exact fin_ev l seen hl (by omega) hs hss hr hy
  | succ n ih =>
    intro seen i hi hd hsl hss
    have hlt : i < l.length := by omega
    have hx := hs _ (List.getElem_mem hlt)
    obtain ⟨v, ev, v0, v1⟩ := a2At_val hM (i := (i : Int) + 2) (n := 200) (by omega) (by omega)
    have hw := wrapV_bd (l[i].f1 + y * r)
    have hs2 : SpotP l[i].f0 (wrapV (l[i].f1 + y * r)) := ⟨hx.1, hw⟩
    have hw2 := wrapV_bd (wrapV (l[i].f1 + y * r) + (v - 100))
    have e1 : spec_CarryStar.f l[i].f0 l[i].f1 y r = some (l[i].f0, wrapV (l[i].f1 + y * r), 0) := by
      unfold spec_CarryStar.f
      rw [l15Code_val]
      simp only [Option.bind_some]
      rw [if_pos ((codeV_zero _ _).2 ⟨hx, hr⟩), w64 (x := y * r) (by omega) (by omega), l15Carry_val hx (by omega) (by omega)]
      rfl
    have e2 : spec_TurnSpot.f l[i].f0 (wrapV (l[i].f1 + y * r)) (wrap64 (v - 100)) = some (l[i].f0, wrapV (wrapV (l[i].f1 + y * r) + (v - 100)), 0) := by
      unfold spec_TurnSpot.f spec_l02Angle.f
      rw [w64 (x := v - 100) (by omega) (by omega)]
      simp only [l02Ok_val, in_val, Option.bind_some, hs2, decide_true, if_true, show (-1000000000 ≤ v - 100 ∧ v - 100 ≤ 1000000000) = True from by simp; omega]
      rw [w64 (by omega) (by omega), swrap_val (by omega) (by omega)]
      rfl
    refine ev_succ ?_
    simp only [laws_FnGlobeYears.l0, if_pos (show (i : Int) < (l.length : Int) by omega), if_pos (show (0 : Int) ≤ (i : Int) by omega), rd_T37_at _ _ hlt, e1, Option.bind_some, w64 (x := (i : Int) + 2) (by omega) (by omega), ev, e2, if_true, if_pos (show seen.length < 8796093022208 by omega), w64 (x := (i : Int) + 1) (by omega) (by omega)]
    refine ih _ (i + 1) (by omega) (by omega) (by simp; omega) (fun x hx2 => ?_)
    rcases List.mem_append.1 hx2 with h | h
    · exact hss x h
    · simp only [List.mem_singleton] at h
      subst h
      exact ⟨hx.1, hw2⟩
theorem FnGlobeYears : laws_FnGlobeYears.Pure := by
  intro l m hl1 hl hlb hm1 hm hmb
  have hB := bytes_of hlb
  have hM := bytes_of hmb
  obtain ⟨now, en, hs, hn⟩ := a2spots_ev hB (by omega)
  obtain ⟨j, ej, j0, j1⟩ := a2At_val hM (i := 0) (n := 3) (by omega) (by omega)
  obtain ⟨y, ey, y0, y1⟩ := a2At_val hM (i := 1) (n := 250) (by omega) (by omega)
  have hrate : ∃ r, rd ([50, 36, 100] : List Int) j = r ∧ 1 ≤ r ∧ r ≤ 100 := by
    rcases (show j = 0 ∨ j = 1 ∨ j = 2 by omega) with h | h | h <;> subst h <;> exact ⟨_, rfl, by decide, by decide⟩
  obtain ⟨r, er, hr⟩ := hrate
  have hR : RateP (10 * y) r := ⟨by omega, hr⟩
  apply Ev.rounds
  unfold laws_FnGlobeYears.f
  simp only [a2Long_val, Option.bind_some]
  by_cases hlong : (l.length : Int) > 3000 ∨ (m.length : Int) > 3000
  · simp only [hlong, decide_true, if_true]; exact ev_const rfl
  · simp only [hlong, decide_false, Bool.false_eq_true, if_false]
    refine Ev.bind en ?_
    simp only [ej, Option.bind_some, if_pos j0, if_pos (show j < (([50, 36, 100] : List Int).length : Int) from j1), ey, er, w64 (x := 10 * y) (by omega) (by omega)]
    exact seen_l now m hM (by omega) hs hR (by omega) now.length [] 0 (by omega) (by omega) rfl (fun x hx => by simp at hx)

end Go.Proofs.Ytoehbcdhplagfaa.Pure
