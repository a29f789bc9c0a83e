/- FnExactPapersFor: the program's PapersFor and the reference's come to the same, for all sheets, sides and numbers of globes: the same code, the same counts, the same quotient rounded up. -/
import Derived.Test.YtoehbcdhplagfaaStatFnExactPapersFor
namespace Go.Proofs.Ytoehbcdhplagfaa.Pure
open Go.RowKit Go.Proofs.Ytoehbcdhplagfaa.PFnExactPapersFor Go.Proofs.YtoehbcdhplagfaaW.PrintWords Go.Proofs.YtoehbcdhplagfaaW.PrintLast Go.Proofs.YtoehbcdhplagfaaW.PrintMore
set_option linter.unusedVariables false
set_option linter.unusedSimpArgs false
theorem wfb {a : Int} (h : (Lit.int .i64 a).wf = true) : -9223372036854775808 ≤ a ∧ a ≤ 9223372036854775807 := by
  simpa [Lit.wf, IntKind.min, IntKind.max, IntKind.signed, IntKind.bits] using h
theorem w64 {x : Int} (h : -9223372036854775808 ≤ x) (h2 : x ≤ 9223372036854775807) : wrap64 x = x := by unfold wrap64; omega
theorem tdiv_nn {a b : Int} (h : 0 ≤ a) : Int.tdiv a b = a / b := Int.tdiv_eq_ediv_of_nonneg h
theorem tmod_nn {a b : Int} (h : 0 ≤ a) : Int.tmod a b = a % b := Int.tmod_eq_emod_of_nonneg h
theorem floor_val (a b : Int) (hb : 0 < b) : (if Int.tmod a b < 0 then Int.tdiv a b - 1 else Int.tdiv a b) = a / b := by
  have h1 := Int.mul_tdiv_add_tmod a b
  have hlt : Int.tmod a b < b := Int.tmod_lt_of_pos a hb
  have hgt : -b < Int.tmod a b := by
    have h2 := Int.tmod_lt_of_pos (-a) hb
    rw [Int.neg_tmod] at h2
    omega
  symm
  split
  · rename_i hneg
    refine ((Int.ediv_emod_unique hb (r := Int.tmod a b + b)).2 ⟨?_, by omega, by omega⟩).1
    rw [Int.mul_sub, Int.mul_one]
    omega
  · rename_i hneg
    exact ((Int.ediv_emod_unique hb (r := Int.tmod a b)).2 ⟨by omega, by omega, by omega⟩).1
theorem ediv_bd {a b : Int} (hb : 0 < b) (B : Int) (h0 : -B ≤ a) (h1 : a ≤ B) (hB : 0 ≤ B) : -B ≤ a / b ∧ a / b ≤ B := by
  constructor
  · rw [Int.le_ediv_iff_mul_le hb]
    have : B * 1 ≤ B * b := Int.mul_le_mul_of_nonneg_left (by omega) hB
    rw [Int.neg_mul]; omega
  · have h2 : a / b ≤ B / b := Int.ediv_le_ediv hb h1
    have h3 : B / b ≤ B := Int.ediv_le_self b hB
    omega
theorem ceil_alt (a b : Int) (hb : 0 < b) : (a + b - 1) / b = -((-a) / b) := by
  have h1 := Int.mul_ediv_add_emod (-a) b
  have h2 := Int.emod_nonneg (-a) (b := b) (by omega)
  have h3 := Int.emod_lt_of_pos (-a) hb
  refine ((Int.ediv_emod_unique hb (r := b - 1 - (-a) % b)).2 ⟨?_, by omega, by omega⟩).1
  rw [Int.mul_neg]
  omega

theorem floorDiv_val {a b : Int} (hb : 0 < b) (h0 : -4611686018427387904 ≤ a) (h1 : a ≤ 4611686018427387904) : impl_floorDiv.f a b = some (a / b) := by
  have hv := floor_val a b hb
  have hbd := ediv_bd hb 4611686018427387904 h0 h1 (by omega)
  unfold impl_floorDiv.f
  rw [if_neg (by omega)]
  split
  · rename_i hn
    rw [if_pos hn] at hv
    rw [w64 (x := Int.tdiv a b) (by omega) (by omega), w64 (by omega) (by omega), hv]
  · rename_i hn
    rw [if_neg hn] at hv
    rw [w64 (by omega) (by omega), hv]

theorem ceilDiv_val {a b : Int} (hb : 0 < b) (h0 : -4611686018427387904 ≤ a) (h1 : a ≤ 4611686018427387904) : impl_ceilDiv.f a b = some (-((-a) / b)) := by
  have hbd := ediv_bd (a := -a) hb 4611686018427387904 (by omega) (by omega) (by omega)
  unfold impl_ceilDiv.f
  rw [w64 (x := -a) (by omega) (by omega), floorDiv_val hb (by omega) (by omega)]
  simp only [Option.bind_some]
  rw [w64 (by omega) (by omega)]

theorem in_val (a b c : Int) : spec_l00In.f a b c = some (decide (b ≤ a ∧ a ≤ c)) := by
  unfold spec_l00In.f
  by_cases h : a ≥ b <;> by_cases h2 : a ≤ c <;> simp [h, h2] <;> omega
theorem within_val (a b c : Int) : impl_within.f a b c = some (decide (b ≤ a ∧ a ≤ c)) := in_val a b c

/-- The least dry length. -/
def dryV (a g : Int) : Int := (1000 * a + 999 + g) / (1000 + g)
theorem dryV_bd {a g : Int} (h1 : a ≥ 1) (h2 : a ≤ 10000) (h3 : g ≥ 0) (h4 : g ≤ 100) : 1 ≤ dryV a g ∧ dryV a g ≤ a := by
  unfold dryV
  constructor
  · rw [Int.le_ediv_iff_mul_le (by omega)]; omega
  · apply Int.le_of_lt_add_one
    rw [Int.ediv_lt_iff_lt_mul (by omega), Int.add_mul, Int.mul_add]
    have : 0 ≤ a * g := Int.mul_nonneg (by omega) (by omega)
    omega
theorem dry_impl {a g : Int} (h1 : a ≥ 1) (h2 : a ≤ 10000) (h3 : g ≥ 0) (h4 : g ≤ 100) : impl_dryFor.f a g = some (dryV a g) := by
  unfold impl_dryFor.f dryV
  rw [w64 (x := 1000 * a) (by omega) (by omega), w64 (x := 1000 + g) (by omega) (by omega), ceilDiv_val (by omega) (by omega) (by omega)]
  simp only [Option.bind_some]
  rw [← ceil_alt _ _ (by omega)]
  congr 2
  omega
theorem dry_spec {a g : Int} (h1 : a ≥ 1) (h2 : a ≤ 10000) (h3 : g ≥ 0) (h4 : g ≤ 100) : spec_l17Dry.f a g = some (dryV a g) := by
  have hb := dryV_bd h1 h2 h3 h4
  unfold spec_l17Dry.f
  rw [w64 (x := 1000 + g) (by omega) (by omega), if_neg (by omega), w64 (x := 1000 * a) (by omega) (by omega), w64 (x := 1000 * a + 999) (by omega) (by omega), w64 (x := 1000 * a + 999 + g) (by omega) (by omega), tdiv_nn (by omega), w64 (x := (1000 * a + 999 + g) / (1000 + g))]
  · rfl
  all_goals (unfold dryV at hb; omega)

def codeV (ok rg : Prop) [Decidable ok] [Decidable rg] : Int := if ok then (if rg then 0 else 2) else 1
theorem check_val (ok rg : Prop) [Decidable ok] [Decidable rg] : impl_check.f (decide ok) (decide rg) = some (codeV ok rg) := by
  unfold impl_check.f codeV
  by_cases h : ok <;> by_cases h2 : rg <;> simp [h, h2]
theorem check_false (ok : Prop) [Decidable ok] : impl_check.f (decide ok) false = some (codeV ok False) := by
  unfold impl_check.f codeV
  by_cases h : ok <;> simp [h]
theorem codeV_zero (ok rg : Prop) [Decidable ok] [Decidable rg] : codeV ok rg = 0 ↔ (ok ∧ rg) := by
  unfold codeV
  by_cases h : ok <;> by_cases h2 : rg <;> simp [h, h2]

/-- What a sheet must hold. -/
def SheetOk (f0 f1 f2 f3 : Int) : Prop := ((1 : Int) ≤ f0 ∧ f0 ≤ 10000) ∧ ((1 : Int) ≤ f1 ∧ f1 ≤ 10000) ∧ ((0 : Int) ≤ f2 ∧ f2 ≤ 100) ∧ ((0 : Int) ≤ f3 ∧ f3 ≤ 100)
instance instSheetOk (f0 f1 f2 f3 : Int) : Decidable (SheetOk f0 f1 f2 f3) := by unfold SheetOk; infer_instance
theorem side_spec (a : Int) : spec_l17Side.f a = some (decide (1 ≤ a ∧ a ≤ 10000)) := by unfold spec_l17Side.f; rw [in_val]; rfl
theorem grow_spec (a : Int) : spec_l17Grows.f a = some (decide (0 ≤ a ∧ a ≤ 100)) := by unfold spec_l17Grows.f; rw [in_val]; rfl
theorem side_impl (a : Int) : impl_isSide.f a = some (decide (1 ≤ a ∧ a ≤ 10000)) := by unfold impl_isSide.f; rw [within_val]; rfl
theorem grow_impl (a : Int) : impl_isStretch.f a = some (decide (0 ≤ a ∧ a ≤ 100)) := by unfold impl_isStretch.f; rw [within_val]; rfl
theorem four_dec (p q r s : Prop) [Decidable p] [Decidable q] [Decidable r] [Decidable s] : (if decide p = true then (if decide q = true then (if decide r = true then some (decide s) else some false) else some false) else some false) = some (decide (p ∧ q ∧ r ∧ s)) := by
  by_cases h1 : p <;> by_cases h2 : q <;> by_cases h3 : r <;> by_cases h4 : s <;> simp [h1, h2, h3, h4]
theorem sheet_spec (f0 f1 f2 f3 : Int) : spec_l17Ok.f f0 f1 f2 f3 = some (decide (SheetOk f0 f1 f2 f3)) := by
  unfold spec_l17Ok.f
  rw [side_spec, side_spec, grow_spec, grow_spec]
  exact four_dec _ _ _ _
theorem sheet_impl (f0 f1 f2 f3 : Int) : impl_ValidSheet.f f0 f1 f2 f3 = some (decide (SheetOk f0 f1 f2 f3)) := by
  unfold impl_ValidSheet.f
  rw [side_impl, side_impl, grow_impl, grow_impl]
  exact four_dec _ _ _ _

/-- Both sides of a piece. -/
def SidesOk (x y : Int) : Prop := ((1 : Int) ≤ x ∧ x ≤ 10000) ∧ ((1 : Int) ≤ y ∧ y ≤ 10000)
instance instSidesOk (x y : Int) : Decidable (SidesOk x y) := by unfold SidesOk; infer_instance
theorem piece_spec (f0 f1 f2 f3 x y : Int) : spec_l17Piece.f f0 f1 f2 f3 x y = some (codeV (SheetOk f0 f1 f2 f3) (SidesOk x y)) := by
  unfold spec_l17Piece.f codeV
  rw [sheet_spec, side_spec, side_spec]
  simp only [Option.bind_some, SidesOk]
  by_cases h1 : SheetOk f0 f1 f2 f3 <;> by_cases h2 : (1 ≤ x ∧ x ≤ 10000) <;> by_cases h3 : (1 ≤ y ∧ y ≤ 10000) <;> simp [h1, h2, h3]

/-- How many pieces one way. -/
def cutsV (f0 f1 f2 f3 x y : Int) : Int := (f0 / dryV x f2) * (f1 / dryV y f3)
theorem div_bd {a b : Int} (h0 : 0 ≤ a) (h1 : a ≤ 10000) (hb : 1 ≤ b) : 0 ≤ a / b ∧ a / b ≤ 10000 := by
  constructor
  · exact Int.ediv_nonneg h0 (by omega)
  · have := Int.ediv_le_self b h0
    omega
theorem cutsV_bd {f0 f1 f2 f3 x y : Int} (h : SheetOk f0 f1 f2 f3) (hx : SidesOk x y) : 0 ≤ cutsV f0 f1 f2 f3 x y ∧ cutsV f0 f1 f2 f3 x y ≤ 100000000 := by
  obtain ⟨a, b, c, d⟩ := h
  obtain ⟨e, f⟩ := hx
  have p := div_bd (a := f0) (by omega) (by omega) (dryV_bd (a := x) (g := f2) (by omega) (by omega) (by omega) (by omega)).1
  have q := div_bd (a := f1) (by omega) (by omega) (dryV_bd (a := y) (g := f3) (by omega) (by omega) (by omega) (by omega)).1
  unfold cutsV
  refine ⟨Int.mul_nonneg p.1 q.1, ?_⟩
  have := Int.mul_le_mul p.2 q.2 q.1 (by omega)
  omega
theorem cuts_spec {f0 f1 f2 f3 x y : Int} (h : SheetOk f0 f1 f2 f3) (hx : SidesOk x y) : spec_l17Cuts.f f0 f1 f2 f3 x y = some (cutsV f0 f1 f2 f3 x y) := by
  have hb := cutsV_bd h hx
  obtain ⟨a, b, c, d⟩ := h
  obtain ⟨e, f⟩ := hx
  have d1 := (dryV_bd (a := x) (g := f2) (by omega) (by omega) (by omega) (by omega)).1
  have d2 := (dryV_bd (a := y) (g := f3) (by omega) (by omega) (by omega) (by omega)).1
  have p := div_bd (a := f0) (by omega) (by omega) d1
  have q := div_bd (a := f1) (by omega) (by omega) d2
  unfold cutsV at hb
  unfold spec_l17Cuts.f cutsV
  rw [dry_spec (by omega) (by omega) (by omega) (by omega), dry_spec (by omega) (by omega) (by omega) (by omega)]
  simp only [Option.bind_some]
  rw [if_neg (by omega), if_neg (by omega), tdiv_nn (by omega), tdiv_nn (by omega), w64 (x := f0 / dryV x f2) (by omega) (by omega), w64 (x := f1 / dryV y f3) (by omega) (by omega), w64 (by omega) (by omega)]
theorem cuts_impl {f0 f1 f2 f3 x y : Int} (h : SheetOk f0 f1 f2 f3) (hx : SidesOk x y) : impl_cuts.f f0 f1 f2 f3 x y = some (cutsV f0 f1 f2 f3 x y) := by
  have hb := cutsV_bd h hx
  obtain ⟨a, b, c, d⟩ := h
  obtain ⟨e, f⟩ := hx
  have d1 := (dryV_bd (a := x) (g := f2) (by omega) (by omega) (by omega) (by omega)).1
  have d2 := (dryV_bd (a := y) (g := f3) (by omega) (by omega) (by omega) (by omega)).1
  have p := div_bd (a := f0) (by omega) (by omega) d1
  have q := div_bd (a := f1) (by omega) (by omega) d2
  unfold cutsV at hb
  unfold impl_cuts.f cutsV
  rw [dry_impl (by omega) (by omega) (by omega) (by omega), dry_impl (by omega) (by omega) (by omega) (by omega)]
  simp only [Option.bind_some]
  rw [if_neg (by omega), if_neg (by omega), tdiv_nn (by omega), tdiv_nn (by omega), w64 (x := f0 / dryV x f2) (by omega) (by omega), w64 (x := f1 / dryV y f3) (by omega) (by omega), w64 (by omega) (by omega)]

theorem max_val (a b : Int) : spec_l00Max.f a b = some (mx a b) := by
  unfold spec_l00Max.f mx
  split <;> split <;> (congr 1; try omega)
theorem papers_j {f0 f1 f2 f3 x y n : Int} (h : SheetOk f0 f1 f2 f3) (hx : SidesOk x y) (h1 : 1 ≤ n) (h2 : n ≤ 1000) : spec_PapersFor.j1 1 x y n 0 f0 f1 f2 f3 = impl_PapersFor.j0 1 x y n 0 f0 f1 f2 f3 ∧ ∃ r, spec_PapersFor.j1 1 x y n 0 f0 f1 f2 f3 = some r := by
  have hs : SidesOk y x := ⟨hx.2, hx.1⟩
  have b1 := cutsV_bd h hx
  have b2 := cutsV_bd h hs
  simp only [spec_PapersFor.j1, impl_PapersFor.j0, if_true, if_pos]
  rw [cuts_spec h hx, cuts_spec h hs, cuts_impl h hx, cuts_impl h hs]
  simp only [Option.bind_some, max_val]
  have b3 : 0 ≤ mx (cutsV f0 f1 f2 f3 y x) (cutsV f0 f1 f2 f3 x y) ∧ mx (cutsV f0 f1 f2 f3 y x) (cutsV f0 f1 f2 f3 x y) ≤ 100000000 := by unfold mx; split <;> omega
  generalize mx (cutsV f0 f1 f2 f3 y x) (cutsV f0 f1 f2 f3 x y) = m at b3
  by_cases e : m = 0
  · rw [if_pos e, if_pos e]
    exact ⟨rfl, _, rfl⟩
  · rw [if_neg e, if_neg e, ceilDiv_val (by omega) (by omega) (by omega)]
    have hd := div_bd (a := n + m - 1) (b := m)
    rw [w64 (x := n + m) (by omega) (by omega), w64 (x := n + m - 1) (by omega) (by omega), tdiv_nn (by omega), ← ceil_alt _ _ (by omega)]
    have hq0 : 0 ≤ (n + m - 1) / m := Int.ediv_nonneg (by omega) (by omega)
    have hq1 : (n + m - 1) / m ≤ n + m - 1 := Int.ediv_le_self m (by omega)
    rw [w64 (x := (n + m - 1) / m) (by omega) (by omega)]
    exact ⟨rfl, _, rfl⟩
theorem FnExactPapersFor : laws_FnExactPapersFor.Pure := by
  intro a0 a1 a2 a3 x y n _ _ _ _ _ _ _
  refine ⟨2, ?_⟩
  have hi : impl_PapersFor.f 2 a0 a1 a2 a3 x y n = impl_PapersFor.j0 2 x y n (codeV (SheetOk a0 a1 a2 a3) (SidesOk x y ∧ (1 ≤ n ∧ n ≤ 1000))) a0 a1 a2 a3 := by
    unfold impl_PapersFor.f
    rw [sheet_impl, side_impl, side_impl, within_val]
    simp only [Option.bind_some, check_val, check_false]
    by_cases h1 : (1 ≤ x ∧ x ≤ 10000) <;> by_cases h2 : (1 ≤ y ∧ y ≤ 10000) <;> by_cases h3 : (1 ≤ n ∧ n ≤ 1000) <;> simp [h1, h2, h3, SidesOk, codeV]
  have hsp : spec_PapersFor.f 2 a0 a1 a2 a3 x y n = spec_PapersFor.j1 1 x y n (codeV (SheetOk a0 a1 a2 a3) (SidesOk x y ∧ (1 ≤ n ∧ n ≤ 1000))) a0 a1 a2 a3 := by
    unfold spec_PapersFor.f
    rw [piece_spec, in_val]
    simp only [Option.bind_some, spec_PapersFor.j0]
    by_cases h1 : SheetOk a0 a1 a2 a3 <;> by_cases h2 : SidesOk x y <;> by_cases h3 : (1 ≤ n ∧ n ≤ 1000) <;> simp [h1, h2, h3, codeV]
  have key : ∃ r, spec_PapersFor.j1 1 x y n (codeV (SheetOk a0 a1 a2 a3) (SidesOk x y ∧ (1 ≤ n ∧ n ≤ 1000))) a0 a1 a2 a3 = some r ∧ impl_PapersFor.j0 2 x y n (codeV (SheetOk a0 a1 a2 a3) (SidesOk x y ∧ (1 ≤ n ∧ n ≤ 1000))) a0 a1 a2 a3 = some r := by
    by_cases h : SheetOk a0 a1 a2 a3 ∧ (SidesOk x y ∧ (1 ≤ n ∧ n ≤ 1000))
    · rw [(codeV_zero (SheetOk a0 a1 a2 a3) (SidesOk x y ∧ (1 ≤ n ∧ n ≤ 1000))).2 h]
      obtain ⟨e, r, hr⟩ := papers_j h.1 h.2.1 h.2.2.1 h.2.2.2
      exact ⟨r, hr, by rw [← hr, e]; rfl⟩
    · have hz := fun e => h ((codeV_zero (SheetOk a0 a1 a2 a3) (SidesOk x y ∧ (1 ≤ n ∧ n ≤ 1000))).1 e)
      simp only [spec_PapersFor.j1, impl_PapersFor.j0]
      rw [if_neg hz, if_neg hz]
      exact ⟨_, rfl, rfl⟩
  obtain ⟨r, e1, e2⟩ := key
  unfold laws_FnExactPapersFor.f laws_toSheet.f
  simp only [Option.bind_some]
  rw [hi, hsp, e1, e2]
  simp

end Go.Proofs.Ytoehbcdhplagfaa.Pure
