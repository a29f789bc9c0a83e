/- FnExactWetError: the program's WetError and the reference's come to the same, for all numbers: both bring the same fraction to lowest terms. -/
import Derived.Test.YthngfgiaobhhoaaPFnExactWetErrorx2
namespace Go.Proofs.Ythngfgiaobhhoaa.Pure
open Go.RowKit Go.Proofs.Ythngfgiaobhhoaa.PFnExactWetError Go.Proofs.YthngfgiaobhhoaaW.PrintWords Go.Proofs.YthngfgiaobhhoaaW.PrintLast Go.Proofs.YthngfgiaobhhoaaW.PrintMore
set_option linter.unusedVariables false
set_option linter.unusedSimpArgs false
theorem wfb {a : Int} (h : (Lit.int .i64 a).wf = true) : -9223372036854775808 ≤ a ∧ a ≤ 9223372036854775807 := by
  simpa [Lit.wf, IntKind.min, IntKind.max, IntKind.signed, IntKind.bits] using h
theorem w64 {x : Int} (h : -9223372036854775808 ≤ x) (h2 : x ≤ 9223372036854775807) : wrap64 x = x := by unfold wrap64; omega
theorem tdiv_nn {a b : Int} (h : 0 ≤ a) : Int.tdiv a b = a / b := Int.tdiv_eq_ediv_of_nonneg h
theorem tmod_nn {a b : Int} (h : 0 ≤ a) : Int.tmod a b = a % b := Int.tmod_eq_emod_of_nonneg h
theorem floor_val (a b : Int) (hb : 0 < b) : (if Int.tmod a b < 0 then Int.tdiv a b - 1 else Int.tdiv a b) = a / b := by
  have h1 := Int.mul_tdiv_add_tmod a b
  have hlt : Int.tmod a b < b := Int.tmod_lt_of_pos a hb
  have hgt : -b < Int.tmod a b := by
    have h2 := Int.tmod_lt_of_pos (-a) hb
    rw [Int.neg_tmod] at h2
    omega
  symm
  split
  · rename_i hneg
    refine ((Int.ediv_emod_unique hb (r := Int.tmod a b + b)).2 ⟨?_, by omega, by omega⟩).1
    rw [Int.mul_sub, Int.mul_one]
    omega
  · rename_i hneg
    exact ((Int.ediv_emod_unique hb (r := Int.tmod a b)).2 ⟨by omega, by omega, by omega⟩).1
theorem ediv_bd {a b : Int} (hb : 0 < b) (B : Int) (h0 : -B ≤ a) (h1 : a ≤ B) (hB : 0 ≤ B) : -B ≤ a / b ∧ a / b ≤ B := by
  constructor
  · rw [Int.le_ediv_iff_mul_le hb]
    have : B * 1 ≤ B * b := Int.mul_le_mul_of_nonneg_left (by omega) hB
    rw [Int.neg_mul]; omega
  · have h2 : a / b ≤ B / b := Int.ediv_le_ediv hb h1
    have h3 : B / b ≤ B := Int.ediv_le_self b hB
    omega
theorem ceil_alt (a b : Int) (hb : 0 < b) : (a + b - 1) / b = -((-a) / b) := by
  have h1 := Int.mul_ediv_add_emod (-a) b
  have h2 := Int.emod_nonneg (-a) (b := b) (by omega)
  have h3 := Int.emod_lt_of_pos (-a) hb
  refine ((Int.ediv_emod_unique hb (r := b - 1 - (-a) % b)).2 ⟨?_, by omega, by omega⟩).1
  rw [Int.mul_neg]
  omega

theorem gcd_l (d : Nat) : ∀ (k : Nat) (x y : Int), 0 ≤ x → 0 ≤ y → y ≤ d → d < k → spec_l00Gcd.l0 k x y = some (Int.gcd x y : Int) := by
  induction d with
  | zero =>
    intro k x y hx hy hd hk
    obtain ⟨k, rfl⟩ : ∃ m, k = m + 1 := ⟨k - 1, by omega⟩
    have e : y = 0 := by omega
    simp only [spec_l00Gcd.l0]
    rw [if_pos e]
    subst e
    rw [Int.gcd_zero_right]
    congr 1; omega
  | succ d ih =>
    intro k x y hx hy hd hk
    obtain ⟨k, rfl⟩ : ∃ m, k = m + 1 := ⟨k - 1, by omega⟩
    simp only [spec_l00Gcd.l0]
    by_cases e : y = 0
    · rw [if_pos e]
      subst e
      rw [Int.gcd_zero_right]
      congr 1; omega
    · rw [if_neg e, tmod_nn hx]
      have h1 := Int.emod_nonneg x (b := y) e
      have h2 := Int.emod_lt_of_pos x (show 0 < y by omega)
      rw [ih k y (x % y) hy h1 (by omega) (by omega)]
      congr 2
      obtain ⟨m, rfl⟩ := Int.eq_ofNat_of_zero_le hx
      obtain ⟨n, rfl⟩ := Int.eq_ofNat_of_zero_le hy
      have : ((m : Int) % (n : Int)) = ((m % n : Nat) : Int) := by simp
      rw [this]
      simp only [Int.gcd_natCast_natCast]
      rw [Nat.gcd_comm n, ← Nat.gcd_rec, Nat.gcd_comm]

theorem frac_l (n0 d0 : Int) (d : Nat) : ∀ (k : Nat) (x y : Int), 0 ≤ x → 0 ≤ y → (0 < x ∨ 0 < y) → y ≤ d → d < k → impl_fraction.l0 k n0 d0 x y = some (wrap64 (Int.tdiv n0 (Int.gcd x y : Int)), wrap64 (Int.tdiv d0 (Int.gcd x y : Int))) := by
  induction d with
  | zero =>
    intro k x y hx hy hxy hd hk
    obtain ⟨k, rfl⟩ : ∃ m, k = m + 1 := ⟨k - 1, by omega⟩
    have e : y = 0 := by omega
    simp only [impl_fraction.l0]
    rw [if_pos e, if_neg (by omega)]
    subst e
    rw [Int.gcd_zero_right]
    have : (x.natAbs : Int) = x := by omega
    rw [this]
  | succ d ih =>
    intro k x y hx hy hxy hd hk
    obtain ⟨k, rfl⟩ : ∃ m, k = m + 1 := ⟨k - 1, by omega⟩
    simp only [impl_fraction.l0]
    by_cases e : y = 0
    · rw [if_pos e, if_neg (by omega)]
      subst e
      rw [Int.gcd_zero_right]
      have : (x.natAbs : Int) = x := by omega
      rw [this]
    · rw [if_neg e, tmod_nn hx]
      have h1 := Int.emod_nonneg x (b := y) e
      have h2 := Int.emod_lt_of_pos x (show 0 < y by omega)
      rw [ih k y (x % y) hy h1 (.inl (by omega)) (by omega) (by omega)]
      have hg : Int.gcd y (x % y) = Int.gcd x y := by
        obtain ⟨m, rfl⟩ := Int.eq_ofNat_of_zero_le hx
        obtain ⟨n, rfl⟩ := Int.eq_ofNat_of_zero_le hy
        have : ((m : Int) % (n : Int)) = ((m % n : Nat) : Int) := by simp
        rw [this]
        simp only [Int.gcd_natCast_natCast]
        rw [Nat.gcd_comm n, ← Nat.gcd_rec, Nat.gcd_comm]
      rw [hg]
theorem gcd_pos1000 (x : Int) : 0 < (Int.gcd x 1000 : Int) := by
  have : 0 < Int.gcd x 1000 := Int.gcd_pos_of_ne_zero_right x (by omega)
  omega
/-- Both fractions over 1000 are the same. -/
theorem frac_eq {n0 : Int} (h0 : -1000000000 ≤ n0) (h1 : n0 ≤ 1000000000) {k : Nat} (hk : 1001 ≤ k) : ∃ r, impl_fraction.f k n0 1000 = some r ∧ spec_l02Make.f k n0 1000 = some r := by
  have hmx : mx n0 (wrap64 (-n0)) = (n0.natAbs : Int) := by
    rw [w64 (by omega) (by omega)]; unfold mx; split <;> omega
  have hsz : spec_l00Size.f n0 = some (n0.natAbs : Int) := by
    unfold spec_l00Size.f
    split
    · rw [w64 (by omega) (by omega)]; congr 1; omega
    · congr 1; omega
  refine ⟨(wrap64 (Int.tdiv n0 (Int.gcd (n0.natAbs : Int) 1000 : Int)), wrap64 (Int.tdiv 1000 (Int.gcd (n0.natAbs : Int) 1000 : Int))), ?_, ?_⟩
  · unfold impl_fraction.f impl_absolute.f
    simp only [Option.bind_some, hmx]
    exact frac_l n0 1000 1000 k _ _ (by omega) (by omega) (.inr (by omega)) (by omega) (by omega)
  · unfold spec_l02Make.f spec_l00Gcd.f
    rw [hsz]
    simp only [Option.bind_some]
    rw [gcd_l 1000 k _ _ (by omega) (by omega) (by omega) (by omega)]
    simp only [Option.bind_some]
    rw [if_neg (by have := gcd_pos1000 (n0.natAbs : Int); omega)]

theorem FnExactWetError : laws_FnExactWetError.Pure := by
  intro a0 a1 a2 _ _ _
  refine ⟨1001, ?_⟩
  unfold laws_FnExactWetError.f spec_WetError.f impl_WetError.f spec_l17Side.f impl_isSide.f spec_l17Grows.f impl_isStretch.f impl_within.f spec_l00In.f
  by_cases h1 : a0 ≥ 1
  · by_cases h2 : a0 ≤ 10000
    · by_cases h3 : a1 ≥ 1
      · by_cases h4 : a1 ≤ 10000
        · by_cases h5 : a2 ≥ 0
          · by_cases h6 : a2 ≤ 100
            · have hm0 : 0 ≤ a0 * (1000 + a2) := Int.mul_nonneg (by omega) (by omega)
              have hm1 : a0 * (1000 + a2) ≤ 10000 * 1100 := Int.mul_le_mul h2 (by omega) (by omega) (by omega)
              rw [w64 (x := 1000 + a2) (by omega) (by omega), w64 (x := a0 * (1000 + a2)) (by omega) (by omega), w64 (x := 1000 * a1) (by omega) (by omega), w64 (x := a0 * (1000 + a2) - 1000 * a1) (by omega) (by omega)]
              obtain ⟨r, e1, e2⟩ := frac_eq (n0 := a0 * (1000 + a2) - 1000 * a1) (by omega) (by omega) (Nat.le_refl 1001)
              rw [e1, e2]
              simp [h1, h2, h3, h4, h5, h6, laws_eqFraction.f]
            · simp [h1, h2, h3, h4, h5, h6, laws_eqFraction.f]
          · simp [h1, h2, h3, h4, h5, laws_eqFraction.f]
        · simp [h1, h2, h3, h4, laws_eqFraction.f]
      · simp [h1, h2, h3, laws_eqFraction.f]
    · simp [h1, h2, laws_eqFraction.f]
  · simp [h1, laws_eqFraction.f]

end Go.Proofs.Ythngfgiaobhhoaa.Pure
