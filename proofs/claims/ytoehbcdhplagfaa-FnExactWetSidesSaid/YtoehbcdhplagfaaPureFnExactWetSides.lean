/- FnExactWetSides: the program's WetSides and the reference's come to the same, for all sheets: both bring the same two fractions to lowest terms. -/
import Derived.Test.YtoehbcdhplagfaaStatFnExactWetSides
namespace Go.Proofs.Ytoehbcdhplagfaa.Pure
open Go.RowKit Go.Proofs.Ytoehbcdhplagfaa.PFnExactWetSides Go.Proofs.YtoehbcdhplagfaaW.PrintWords Go.Proofs.YtoehbcdhplagfaaW.PrintLast Go.Proofs.YtoehbcdhplagfaaW.PrintMore
set_option linter.unusedVariables false
set_option linter.unusedSimpArgs false
theorem wfb {a : Int} (h : (Lit.int .i64 a).wf = true) : -9223372036854775808 ≤ a ∧ a ≤ 9223372036854775807 := by
  simpa [Lit.wf, IntKind.min, IntKind.max, IntKind.signed, IntKind.bits] using h
theorem w64 {x : Int} (h : -9223372036854775808 ≤ x) (h2 : x ≤ 9223372036854775807) : wrap64 x = x := by unfold wrap64; omega
theorem tdiv_nn {a b : Int} (h : 0 ≤ a) : Int.tdiv a b = a / b := Int.tdiv_eq_ediv_of_nonneg h
theorem tmod_nn {a b : Int} (h : 0 ≤ a) : Int.tmod a b = a % b := Int.tmod_eq_emod_of_nonneg h
theorem floor_val (a b : Int) (hb : 0 < b) : (if Int.tmod a b < 0 then Int.tdiv a b - 1 else Int.tdiv a b) = a / b := by
  have h1 := Int.mul_tdiv_add_tmod a b
  have hlt : Int.tmod a b < b := Int.tmod_lt_of_pos a hb
  have hgt : -b < Int.tmod a b := by
    have h2 := Int.tmod_lt_of_pos (-a) hb
    rw [Int.neg_tmod] at h2
    omega
  symm
  split
  · rename_i hneg
    refine ((Int.ediv_emod_unique hb (r := Int.tmod a b + b)).2 ⟨?_, by omega, by omega⟩).1
    rw [Int.mul_sub, Int.mul_one]
    omega
  · rename_i hneg
    exact ((Int.ediv_emod_unique hb (r := Int.tmod a b)).2 ⟨by omega, by omega, by omega⟩).1
theorem ediv_bd {a b : Int} (hb : 0 < b) (B : Int) (h0 : -B ≤ a) (h1 : a ≤ B) (hB : 0 ≤ B) : -B ≤ a / b ∧ a / b ≤ B := by
  constructor
  · rw [Int.le_ediv_iff_mul_le hb]
    have : B * 1 ≤ B * b := Int.mul_le_mul_of_nonneg_left (by omega) hB
    rw [Int.neg_mul]; omega
  · have h2 : a / b ≤ B / b := Int.ediv_le_ediv hb h1
    have h3 : B / b ≤ B := Int.ediv_le_self b hB
    omega
theorem ceil_alt (a b : Int) (hb : 0 < b) : (a + b - 1) / b = -((-a) / b) := by
  have h1 := Int.mul_ediv_add_emod (-a) b
  have h2 := Int.emod_nonneg (-a) (b := b) (by omega)
  have h3 := Int.emod_lt_of_pos (-a) hb
  refine ((Int.ediv_emod_unique hb (r := b - 1 - (-a) % b)).2 ⟨?_, by omega, by omega⟩).1
  rw [Int.mul_neg]
  omega

theorem gcd_l (d : Nat) : ∀ (k : Nat) (x y : Int), 0 ≤ x → 0 ≤ y → y ≤ d → d < k → spec_l00Gcd.l0 k x y = some (Int.gcd x y : Int) := by
  induction d with
  | zero =>
    intro k x y hx hy hd hk
    obtain ⟨k, rfl⟩ : ∃ m, k = m + 1 := ⟨k - 1, by omega⟩
    have e : y = 0 := by omega
    simp only [spec_l00Gcd.l0]
    rw [if_pos e]
    subst e
    rw [Int.gcd_zero_right]
    congr 1; omega
  | succ d ih =>
    intro k x y hx hy hd hk
    obtain ⟨k, rfl⟩ : ∃ m, k = m + 1 := ⟨k - 1, by omega⟩
    simp only [spec_l00Gcd.l0]
    by_cases e : y = 0
    · rw [if_pos e]
      subst e
      rw [Int.gcd_zero_right]
      congr 1; omega
    · rw [if_neg e, tmod_nn hx]
      have h1 := Int.emod_nonneg x (b := y) e
      have h2 := Int.emod_lt_of_pos x (show 0 < y by omega)
      rw [ih k y (x % y) hy h1 (by omega) (by omega)]
      congr 2
      obtain ⟨m, rfl⟩ := Int.eq_ofNat_of_zero_le hx
      obtain ⟨n, rfl⟩ := Int.eq_ofNat_of_zero_le hy
      have : ((m : Int) % (n : Int)) = ((m % n : Nat) : Int) := by simp
      rw [this]
      simp only [Int.gcd_natCast_natCast]
      rw [Nat.gcd_comm n, ← Nat.gcd_rec, Nat.gcd_comm]

theorem frac_l (n0 d0 : Int) (d : Nat) : ∀ (k : Nat) (x y : Int), 0 ≤ x → 0 ≤ y → (0 < x ∨ 0 < y) → y ≤ d → d < k → impl_fraction.l0 k n0 d0 x y = some (wrap64 (Int.tdiv n0 (Int.gcd x y : Int)), wrap64 (Int.tdiv d0 (Int.gcd x y : Int))) := by
  induction d with
  | zero =>
    intro k x y hx hy hxy hd hk
    obtain ⟨k, rfl⟩ : ∃ m, k = m + 1 := ⟨k - 1, by omega⟩
    have e : y = 0 := by omega
    simp only [impl_fraction.l0]
    rw [if_pos e, if_neg (by omega)]
    subst e
    rw [Int.gcd_zero_right]
    have : (x.natAbs : Int) = x := by omega
    rw [this]
  | succ d ih =>
    intro k x y hx hy hxy hd hk
    obtain ⟨k, rfl⟩ : ∃ m, k = m + 1 := ⟨k - 1, by omega⟩
    simp only [impl_fraction.l0]
    by_cases e : y = 0
    · rw [if_pos e, if_neg (by omega)]
      subst e
      rw [Int.gcd_zero_right]
      have : (x.natAbs : Int) = x := by omega
      rw [this]
    · rw [if_neg e, tmod_nn hx]
      have h1 := Int.emod_nonneg x (b := y) e
      have h2 := Int.emod_lt_of_pos x (show 0 < y by omega)
      rw [ih k y (x % y) hy h1 (.inl (by omega)) (by omega) (by omega)]
      have hg : Int.gcd y (x % y) = Int.gcd x y := by
        obtain ⟨m, rfl⟩ := Int.eq_ofNat_of_zero_le hx
        obtain ⟨n, rfl⟩ := Int.eq_ofNat_of_zero_le hy
        have : ((m : Int) % (n : Int)) = ((m % n : Nat) : Int) := by simp
        rw [this]
        simp only [Int.gcd_natCast_natCast]
        rw [Nat.gcd_comm n, ← Nat.gcd_rec, Nat.gcd_comm]
      rw [hg]
theorem gcd_pos1000 (x : Int) : 0 < (Int.gcd x 1000 : Int) := by
  have : 0 < Int.gcd x 1000 := Int.gcd_pos_of_ne_zero_right x (by omega)
  omega
/-- Both fractions over 1000 are the same. -/
theorem frac_eq {n0 : Int} (h0 : -1000000000 ≤ n0) (h1 : n0 ≤ 1000000000) {k : Nat} (hk : 1001 ≤ k) : ∃ r, impl_fraction.f k n0 1000 = some r ∧ spec_l02Make.f k n0 1000 = some r := by
  have hmx : mx n0 (wrap64 (-n0)) = (n0.natAbs : Int) := by
    rw [w64 (by omega) (by omega)]; unfold mx; split <;> omega
  have hsz : spec_l00Size.f n0 = some (n0.natAbs : Int) := by
    unfold spec_l00Size.f
    split
    · rw [w64 (by omega) (by omega)]; congr 1; omega
    · congr 1; omega
  refine ⟨(wrap64 (Int.tdiv n0 (Int.gcd (n0.natAbs : Int) 1000 : Int)), wrap64 (Int.tdiv 1000 (Int.gcd (n0.natAbs : Int) 1000 : Int))), ?_, ?_⟩
  · unfold impl_fraction.f impl_absolute.f
    simp only [Option.bind_some, hmx]
    exact frac_l n0 1000 1000 k _ _ (by omega) (by omega) (.inr (by omega)) (by omega) (by omega)
  · unfold spec_l02Make.f spec_l00Gcd.f
    rw [hsz]
    simp only [Option.bind_some]
    rw [gcd_l 1000 k _ _ (by omega) (by omega) (by omega) (by omega)]
    simp only [Option.bind_some]
    rw [if_neg (by have := gcd_pos1000 (n0.natAbs : Int); omega)]

theorem in_val (a b c : Int) : spec_l00In.f a b c = some (decide (b ≤ a ∧ a ≤ c)) := by
  unfold spec_l00In.f
  by_cases h : a ≥ b <;> by_cases h2 : a ≤ c <;> simp [h, h2] <;> omega
theorem within_val (a b c : Int) : impl_within.f a b c = some (decide (b ≤ a ∧ a ≤ c)) := in_val a b c

/-- What a sheet must hold. -/
def SheetOk (f0 f1 f2 f3 : Int) : Prop := ((1 : Int) ≤ f0 ∧ f0 ≤ 10000) ∧ ((1 : Int) ≤ f1 ∧ f1 ≤ 10000) ∧ ((0 : Int) ≤ f2 ∧ f2 ≤ 100) ∧ ((0 : Int) ≤ f3 ∧ f3 ≤ 100)
instance instSheetOk (f0 f1 f2 f3 : Int) : Decidable (SheetOk f0 f1 f2 f3) := by unfold SheetOk; infer_instance
theorem side_spec (a : Int) : spec_l17Side.f a = some (decide (1 ≤ a ∧ a ≤ 10000)) := by unfold spec_l17Side.f; rw [in_val]; rfl
theorem grow_spec (a : Int) : spec_l17Grows.f a = some (decide (0 ≤ a ∧ a ≤ 100)) := by unfold spec_l17Grows.f; rw [in_val]; rfl
theorem side_impl (a : Int) : impl_isSide.f a = some (decide (1 ≤ a ∧ a ≤ 10000)) := by unfold impl_isSide.f; rw [within_val]; rfl
theorem grow_impl (a : Int) : impl_isStretch.f a = some (decide (0 ≤ a ∧ a ≤ 100)) := by unfold impl_isStretch.f; rw [within_val]; rfl
theorem four_dec (p q r s : Prop) [Decidable p] [Decidable q] [Decidable r] [Decidable s] : (if decide p = true then (if decide q = true then (if decide r = true then some (decide s) else some false) else some false) else some false) = some (decide (p ∧ q ∧ r ∧ s)) := by
  by_cases h1 : p <;> by_cases h2 : q <;> by_cases h3 : r <;> by_cases h4 : s <;> simp [h1, h2, h3, h4]
theorem sheet_spec (f0 f1 f2 f3 : Int) : spec_l17Ok.f f0 f1 f2 f3 = some (decide (SheetOk f0 f1 f2 f3)) := by
  unfold spec_l17Ok.f
  rw [side_spec, side_spec, grow_spec, grow_spec]
  exact four_dec _ _ _ _
theorem sheet_impl (f0 f1 f2 f3 : Int) : impl_ValidSheet.f f0 f1 f2 f3 = some (decide (SheetOk f0 f1 f2 f3)) := by
  unfold impl_ValidSheet.f
  rw [side_impl, side_impl, grow_impl, grow_impl]
  exact four_dec _ _ _ _

theorem FnExactWetSides : laws_FnExactWetSides.Pure := by
  intro a0 a1 a2 a3 _ _ _ _
  refine ⟨1001, ?_⟩
  unfold laws_FnExactWetSides.f laws_toSheet.f spec_WetSides.f impl_WetSides.f
  simp only [Option.bind_some, sheet_spec, sheet_impl]
  by_cases h : SheetOk a0 a1 a2 a3
  · obtain ⟨a, b, c, d⟩ := id h
    have hm0 : 0 ≤ a0 * (1000 + a2) := Int.mul_nonneg (by omega) (by omega)
    have hm1 : a0 * (1000 + a2) ≤ 10000 * 1100 := Int.mul_le_mul (by omega) (by omega) (by omega) (by omega)
    have hn0 : 0 ≤ a1 * (1000 + a3) := Int.mul_nonneg (by omega) (by omega)
    have hn1 : a1 * (1000 + a3) ≤ 10000 * 1100 := Int.mul_le_mul (by omega) (by omega) (by omega) (by omega)
    rw [w64 (x := 1000 + a2) (by omega) (by omega), w64 (x := 1000 + a3) (by omega) (by omega), w64 (x := a0 * (1000 + a2)) (by omega) (by omega), w64 (x := a1 * (1000 + a3)) (by omega) (by omega)]
    obtain ⟨r, e1, e2⟩ := frac_eq (n0 := a0 * (1000 + a2)) (by omega) (by omega) (Nat.le_refl 1001)
    obtain ⟨s, e3, e4⟩ := frac_eq (n0 := a1 * (1000 + a3)) (by omega) (by omega) (Nat.le_refl 1001)
    rw [e1, e2, e3, e4]
    simp [h, laws_eqFraction.f]
  · simp [h, laws_eqFraction.f]

end Go.Proofs.Ytoehbcdhplagfaa.Pure
