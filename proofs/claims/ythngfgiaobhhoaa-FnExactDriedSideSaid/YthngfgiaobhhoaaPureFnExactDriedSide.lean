/- FnExactDriedSide: the program's DriedSide and the reference's come to the same, for all numbers: both run the same rounds, and there are at most 20. -/
import Derived.Test.YthngfgiaobhhoaaPFnExactDriedSidex1
namespace Go.Proofs.Ythngfgiaobhhoaa.Pure
open Go.RowKit Go.Proofs.Ythngfgiaobhhoaa.PFnExactDriedSide Go.Proofs.YthngfgiaobhhoaaW.PrintWords Go.Proofs.YthngfgiaobhhoaaW.PrintLast Go.Proofs.YthngfgiaobhhoaaW.PrintMore
set_option linter.unusedVariables false
set_option linter.unusedSimpArgs false
theorem wfb {a : Int} (h : (Lit.int .i64 a).wf = true) : -9223372036854775808 ≤ a ∧ a ≤ 9223372036854775807 := by
  simpa [Lit.wf, IntKind.min, IntKind.max, IntKind.signed, IntKind.bits] using h
theorem w64 {x : Int} (h : -9223372036854775808 ≤ x) (h2 : x ≤ 9223372036854775807) : wrap64 x = x := by unfold wrap64; omega
theorem tdiv_nn {a b : Int} (h : 0 ≤ a) : Int.tdiv a b = a / b := Int.tdiv_eq_ediv_of_nonneg h
theorem tmod_nn {a b : Int} (h : 0 ≤ a) : Int.tmod a b = a % b := Int.tmod_eq_emod_of_nonneg h
theorem floor_val (a b : Int) (hb : 0 < b) : (if Int.tmod a b < 0 then Int.tdiv a b - 1 else Int.tdiv a b) = a / b := by
  have h1 := Int.mul_tdiv_add_tmod a b
  have hlt : Int.tmod a b < b := Int.tmod_lt_of_pos a hb
  have hgt : -b < Int.tmod a b := by
    have h2 := Int.tmod_lt_of_pos (-a) hb
    rw [Int.neg_tmod] at h2
    omega
  symm
  split
  · rename_i hneg
    refine ((Int.ediv_emod_unique hb (r := Int.tmod a b + b)).2 ⟨?_, by omega, by omega⟩).1
    rw [Int.mul_sub, Int.mul_one]
    omega
  · rename_i hneg
    exact ((Int.ediv_emod_unique hb (r := Int.tmod a b)).2 ⟨by omega, by omega, by omega⟩).1
theorem ediv_bd {a b : Int} (hb : 0 < b) (B : Int) (h0 : -B ≤ a) (h1 : a ≤ B) (hB : 0 ≤ B) : -B ≤ a / b ∧ a / b ≤ B := by
  constructor
  · rw [Int.le_ediv_iff_mul_le hb]
    have : B * 1 ≤ B * b := Int.mul_le_mul_of_nonneg_left (by omega) hB
    rw [Int.neg_mul]; omega
  · have h2 : a / b ≤ B / b := Int.ediv_le_ediv hb h1
    have h3 : B / b ≤ B := Int.ediv_le_self b hB
    omega
theorem ceil_alt (a b : Int) (hb : 0 < b) : (a + b - 1) / b = -((-a) / b) := by
  have h1 := Int.mul_ediv_add_emod (-a) b
  have h2 := Int.emod_nonneg (-a) (b := b) (by omega)
  have h3 := Int.emod_lt_of_pos (-a) hb
  refine ((Int.ediv_emod_unique hb (r := b - 1 - (-a) % b)).2 ⟨?_, by omega, by omega⟩).1
  rw [Int.mul_neg]
  omega

theorem in_eq (a b c : Int) : impl_within.f a b c = spec_l00In.f a b c := rfl
theorem dried_l (k : Nat) : ∀ x0 x1 x2 x8, impl_DriedSide.l0 k x0 x1 x2 x8 = spec_DriedSide.l0 k x0 x1 x2 x8 := by
  induction k with
  | zero => intros; rfl
  | succ k ih => intro x0 x1 x2 x8; simp only [impl_DriedSide.l0, spec_DriedSide.l0]; rw [ih]
theorem dried_j (k : Nat) (x0 x1 x2 : Int) (b : Bool) : impl_DriedSide.j0 k x0 x1 x2 b = spec_DriedSide.j0 k x0 x1 x2 b := by
  cases k with
  | zero => rfl
  | succ k => simp only [impl_DriedSide.j0, spec_DriedSide.j0, dried_l]
theorem dried_f (k : Nat) (x0 x1 x2 : Int) : impl_DriedSide.f k x0 x1 x2 = spec_DriedSide.f k x0 x1 x2 := by
  unfold impl_DriedSide.f spec_DriedSide.f impl_isSide.f impl_isStretch.f spec_l17Side.f spec_l17Grows.f
  simp only [in_eq, dried_j]
theorem dried_ends (x1 x2 : Int) (h2 : x2 ≤ 20) (d : Nat) : ∀ (k : Nat) (x0 x8 : Int), 0 ≤ x8 → x2 - x8 ≤ d → d < k → ∃ r, spec_DriedSide.l0 k x0 x1 x2 x8 = some r := by
  induction d with
  | zero =>
    intro k x0 x8 h0 hd hk
    obtain ⟨k, rfl⟩ : ∃ m, k = m + 1 := ⟨k - 1, by omega⟩
    exact ⟨_, by simp only [spec_DriedSide.l0]; rw [if_neg (by omega)]⟩
  | succ d ih =>
    intro k x0 x8 h0 hd hk
    obtain ⟨k, rfl⟩ : ∃ m, k = m + 1 := ⟨k - 1, by omega⟩
    simp only [spec_DriedSide.l0]
    by_cases hlt : x8 < x2
    · rw [if_pos hlt, w64 (x := x8 + 1) (by omega) (by omega)]
      exact ih k _ _ (by omega) (by omega) (by omega)
    · exact ⟨_, by rw [if_neg hlt]⟩
theorem dried_some (x0 x1 x2 : Int) : ∃ r, spec_DriedSide.f 30 x0 x1 x2 = some r := by
  unfold spec_DriedSide.f spec_l17Side.f spec_l17Grows.f spec_l00In.f
  have hj : ∀ b, (b = true ∨ x2 ≤ 20) → ∃ r, spec_DriedSide.j0 30 x0 x1 x2 b = some r := by
    intro b hb
    simp only [spec_DriedSide.j0]
    by_cases e : b = true
    · exact ⟨_, by rw [if_pos e]⟩
    · rw [if_neg e]
      have h20 : x2 ≤ 20 := by rcases hb with hb | hb; exact absurd hb e; exact hb
      exact dried_ends x1 x2 h20 20 29 x0 0 (by omega) (by omega) (by omega)
  repeat' (first | split | simp only [Option.bind_some])
  all_goals first | exact hj _ (.inl rfl) | (refine hj _ ?_; simp; omega)
theorem FnExactDriedSide : laws_FnExactDriedSide.Pure := by
  intro a0 a1 a2 _ _ _
  obtain ⟨r, hr⟩ := dried_some a0 a1 a2
  refine ⟨30, ?_⟩
  unfold laws_FnExactDriedSide.f
  rw [dried_f, hr]
  simp

end Go.Proofs.Ythngfgiaobhhoaa.Pure
