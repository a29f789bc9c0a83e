/- FnPapers: over a drawn sheet and drawn sides, the dry length is long enough when it is wet and a shorter one is not, the told cuts are the greater number, and the papers are enough, one less being too few. -/
import Derived.Test.YtdhpkmpekbikpaaPFnPapersx4
namespace Go.Proofs.Ytdhpkmpekbikpaa.Pure
open Go.RowKit Go.Proofs.Ytdhpkmpekbikpaa.PFnPapers Go.Proofs.YtdhpkmpekbikpaaW.PrintWords Go.Proofs.YtdhpkmpekbikpaaW.PrintLast Go.Proofs.YtdhpkmpekbikpaaW.PrintMore
set_option linter.unusedVariables false
set_option linter.unusedSimpArgs false
theorem wfb {a : Int} (h : (Lit.int .i64 a).wf = true) : -9223372036854775808 ≤ a ∧ a ≤ 9223372036854775807 := by
  simpa [Lit.wf, IntKind.min, IntKind.max, IntKind.signed, IntKind.bits] using h
theorem w64 {x : Int} (h : -9223372036854775808 ≤ x) (h2 : x ≤ 9223372036854775807) : wrap64 x = x := by unfold wrap64; omega
theorem tdiv_nn {a b : Int} (h : 0 ≤ a) : Int.tdiv a b = a / b := Int.tdiv_eq_ediv_of_nonneg h
theorem tmod_nn {a b : Int} (h : 0 ≤ a) : Int.tmod a b = a % b := Int.tmod_eq_emod_of_nonneg h
theorem floor_val (a b : Int) (hb : 0 < b) : (if Int.tmod a b < 0 then Int.tdiv a b - 1 else Int.tdiv a b) = a / b := by
  have h1 := Int.mul_tdiv_add_tmod a b
  have hlt : Int.tmod a b < b := Int.tmod_lt_of_pos a hb
  have hgt : -b < Int.tmod a b := by
    have h2 := Int.tmod_lt_of_pos (-a) hb
    rw [Int.neg_tmod] at h2
    omega
  symm
  split
  · rename_i hneg
    refine ((Int.ediv_emod_unique hb (r := Int.tmod a b + b)).2 ⟨?_, by omega, by omega⟩).1
    rw [Int.mul_sub, Int.mul_one]
    omega
  · rename_i hneg
    exact ((Int.ediv_emod_unique hb (r := Int.tmod a b)).2 ⟨by omega, by omega, by omega⟩).1
theorem ediv_bd {a b : Int} (hb : 0 < b) (B : Int) (h0 : -B ≤ a) (h1 : a ≤ B) (hB : 0 ≤ B) : -B ≤ a / b ∧ a / b ≤ B := by
  constructor
  · rw [Int.le_ediv_iff_mul_le hb]
    have : B * 1 ≤ B * b := Int.mul_le_mul_of_nonneg_left (by omega) hB
    rw [Int.neg_mul]; omega
  · have h2 : a / b ≤ B / b := Int.ediv_le_ediv hb h1
    have h3 : B / b ≤ B := Int.ediv_le_self b hB
    omega
theorem ceil_alt (a b : Int) (hb : 0 < b) : (a + b - 1) / b = -((-a) / b) := by
  have h1 := Int.mul_ediv_add_emod (-a) b
  have h2 := Int.emod_nonneg (-a) (b := b) (by omega)
  have h3 := Int.emod_lt_of_pos (-a) hb
  refine ((Int.ediv_emod_unique hb (r := b - 1 - (-a) % b)).2 ⟨?_, by omega, by omega⟩).1
  rw [Int.mul_neg]
  omega

theorem ev_succ {α : Type} {g : Nat → Option α} {r : α} (h : Ev (fun k => g (k + 1)) r) : Ev g r := Ev.step (fun _ => rfl) h
theorem ev_const {α : Type} {g : Option α} {r : α} (h : g = some r) : Ev (fun _ => g) r := ⟨0, fun _ _ => h⟩
theorem ev_uniq {α : Type} {g : Nat → Option α} {a b : α} (h : Ev g a) (h' : Ev g b) : a = b := by
  obtain ⟨K, h⟩ := h
  obtain ⟨K', h'⟩ := h'
  have h1 := h (K + K') (by omega)
  rw [h' (K + K') (by omega)] at h1
  exact (Option.some.inj h1).symm


theorem frac_l (n0 d0 : Int) (d : Nat) : ∀ (k : Nat) (x y : Int), 0 ≤ x → 0 ≤ y → (0 < x ∨ 0 < y) → y ≤ d → d < k → impl_fraction.l0 k n0 d0 x y = some (wrap64 (Int.tdiv n0 (Int.gcd x y : Int)), wrap64 (Int.tdiv d0 (Int.gcd x y : Int))) := by
  induction d with
  | zero =>
    intro k x y hx hy hxy hd hk
    obtain ⟨k, rfl⟩ : ∃ m, k = m + 1 := ⟨k - 1, by omega⟩
    have e : y = 0 := by omega
    simp only [impl_fraction.l0]
    rw [if_pos e, if_neg (by omega)]
    subst e
    rw [Int.gcd_zero_right]
    have : (x.natAbs : Int) = x := by omega
    rw [this]
  | succ d ih =>
    intro k x y hx hy hxy hd hk
    obtain ⟨k, rfl⟩ : ∃ m, k = m + 1 := ⟨k - 1, by omega⟩
    simp only [impl_fraction.l0]
    by_cases e : y = 0
    · rw [if_pos e, if_neg (by omega)]
      subst e
      rw [Int.gcd_zero_right]
      have : (x.natAbs : Int) = x := by omega
      rw [this]
    · rw [if_neg e, tmod_nn hx]
      have h1 := Int.emod_nonneg x (b := y) e
      have h2 := Int.emod_lt_of_pos x (show 0 < y by omega)
      rw [ih k y (x % y) hy h1 (.inl (by omega)) (by omega) (by omega)]
      have hg : Int.gcd y (x % y) = Int.gcd x y := by
        obtain ⟨m, rfl⟩ := Int.eq_ofNat_of_zero_le hx
        obtain ⟨n, rfl⟩ := Int.eq_ofNat_of_zero_le hy
        have : ((m : Int) % (n : Int)) = ((m % n : Nat) : Int) := by simp
        rw [this]
        simp only [Int.gcd_natCast_natCast]
        rw [Nat.gcd_comm n, ← Nat.gcd_rec, Nat.gcd_comm]
      rw [hg]
theorem gcd_pos1000 (x : Int) : 0 < (Int.gcd x 1000 : Int) := by
  have : 0 < Int.gcd x 1000 := Int.gcd_pos_of_ne_zero_right x (by omega)
  omega

/-- A fraction over 1000: its parts have the quotient of what it came from. -/
theorem frac_num {n0 : Int} (h0 : -1000000000 ≤ n0) (h1 : n0 ≤ 1000000000) : ∃ N D, Ev (fun k => impl_fraction.f k n0 1000) (N, D) ∧ 1 ≤ D ∧ N * 1000 = n0 * D ∧ (0 ≤ n0 → 0 ≤ N) ∧ (n0 < 0 → N < 0) := by
  have hmx : mx n0 (wrap64 (-n0)) = (n0.natAbs : Int) := by
    rw [w64 (by omega) (by omega)]; unfold mx; split <;> omega
  have hg := gcd_pos1000 (n0.natAbs : Int)
  have hf := fun (k : Nat) (hk : 1001 ≤ k) => frac_l n0 1000 1000 k (n0.natAbs : Int) 1000 (by omega) (by omega) (.inr (by omega)) (by omega) (by omega)
  have hd1 : ((Int.gcd (n0.natAbs : Int) 1000 : Nat) : Int) ∣ n0 := Int.dvd_natAbs.1 (Int.gcd_dvd_left (n0.natAbs : Int) 1000)
  have hd2 : ((Int.gcd (n0.natAbs : Int) 1000 : Nat) : Int) ∣ 1000 := Int.gcd_dvd_right (n0.natAbs : Int) 1000
  generalize ((Int.gcd (n0.natAbs : Int) 1000 : Nat) : Int) = g at hg hf hd1 hd2
  obtain ⟨a, ha⟩ := hd1
  obtain ⟨b, hb⟩ := hd2
  have ea : Int.tdiv n0 g = a := by rw [ha]; exact Int.mul_tdiv_cancel_left a (by omega)
  have eb : Int.tdiv 1000 g = b := by
    have := Int.mul_tdiv_cancel_left b (show g ≠ 0 by omega)
    rw [← hb] at this
    exact this
  have qa : n0 / g = a := by rw [ha]; exact Int.mul_ediv_cancel_left a (by omega)
  have qb : (1000 : Int) / g = b := by
    have := Int.mul_ediv_cancel_left b (show g ≠ 0 by omega)
    rw [← hb] at this
    exact this
  have ba := ediv_bd (a := n0) (b := g) (by omega) 1000000000 h0 h1 (by omega)
  have bb := ediv_bd (a := 1000) (b := g) (by omega) 1000 (by omega) (by omega) (by omega)
  have hb1 : 1 ≤ b := by
    by_cases h : 1 ≤ b
    · exact h
    · have := Int.mul_le_mul_of_nonneg_left (show b ≤ 0 by omega) (show 0 ≤ g by omega)
      rw [Int.mul_zero] at this
      omega
  refine ⟨a, b, ⟨1001, fun k hk => ?_⟩, hb1, ?_, fun h => ?_, fun h => ?_⟩
  · show impl_fraction.f k n0 1000 = some (a, b)
    unfold impl_fraction.f impl_absolute.f
    simp only [Option.bind_some, hmx]
    rw [hf k hk, ea, eb, w64 (x := a) (by omega) (by omega), w64 (x := b) (by omega) (by omega)]
  · have e : a * 1000 = a * (g * b) := by rw [← hb]
    rw [e, ha, Int.mul_comm g a, Int.mul_assoc]
  · by_cases c : 0 ≤ a
    · exact c
    · have := Int.mul_neg_of_pos_of_neg hg (show a < 0 by omega)
      omega
  · by_cases c : a < 0
    · exact c
    · have := Int.mul_nonneg (show 0 ≤ g by omega) (show 0 ≤ a by omega)
      omega

theorem floorDiv_val {a b : Int} (hb : 0 < b) (h0 : -4611686018427387904 ≤ a) (h1 : a ≤ 4611686018427387904) : impl_floorDiv.f a b = some (a / b) := by
  have hv := floor_val a b hb
  have hbd := ediv_bd hb 4611686018427387904 h0 h1 (by omega)
  unfold impl_floorDiv.f
  rw [if_neg (by omega)]
  split
  · rename_i hn
    rw [if_pos hn] at hv
    rw [w64 (x := Int.tdiv a b) (by omega) (by omega), w64 (by omega) (by omega), hv]
  · rename_i hn
    rw [if_neg hn] at hv
    rw [w64 (by omega) (by omega), hv]

theorem ceilDiv_val {a b : Int} (hb : 0 < b) (h0 : -4611686018427387904 ≤ a) (h1 : a ≤ 4611686018427387904) : impl_ceilDiv.f a b = some (-((-a) / b)) := by
  have hbd := ediv_bd (a := -a) hb 4611686018427387904 (by omega) (by omega) (by omega)
  unfold impl_ceilDiv.f
  rw [w64 (x := -a) (by omega) (by omega), floorDiv_val hb (by omega) (by omega)]
  simp only [Option.bind_some]
  rw [w64 (by omega) (by omega)]

theorem in_val (a b c : Int) : spec_l00In.f a b c = some (decide (b ≤ a ∧ a ≤ c)) := by
  unfold spec_l00In.f
  by_cases h : a ≥ b <;> by_cases h2 : a ≤ c <;> simp [h, h2] <;> omega
theorem within_val (a b c : Int) : impl_within.f a b c = some (decide (b ≤ a ∧ a ≤ c)) := in_val a b c

/-- The least dry length. -/
def dryV (a g : Int) : Int := (1000 * a + 999 + g) / (1000 + g)
theorem dryV_bd {a g : Int} (h1 : a ≥ 1) (h2 : a ≤ 10000) (h3 : g ≥ 0) (h4 : g ≤ 100) : 1 ≤ dryV a g ∧ dryV a g ≤ a := by
  unfold dryV
  constructor
  · rw [Int.le_ediv_iff_mul_le (by omega)]; omega
  · apply Int.le_of_lt_add_one
    rw [Int.ediv_lt_iff_lt_mul (by omega), Int.add_mul, Int.mul_add]
    have : 0 ≤ a * g := Int.mul_nonneg (by omega) (by omega)
    omega
theorem dry_impl {a g : Int} (h1 : a ≥ 1) (h2 : a ≤ 10000) (h3 : g ≥ 0) (h4 : g ≤ 100) : impl_dryFor.f a g = some (dryV a g) := by
  unfold impl_dryFor.f dryV
  rw [w64 (x := 1000 * a) (by omega) (by omega), w64 (x := 1000 + g) (by omega) (by omega), ceilDiv_val (by omega) (by omega) (by omega)]
  simp only [Option.bind_some]
  rw [← ceil_alt _ _ (by omega)]
  congr 2
  omega
theorem dry_spec {a g : Int} (h1 : a ≥ 1) (h2 : a ≤ 10000) (h3 : g ≥ 0) (h4 : g ≤ 100) : spec_l17Dry.f a g = some (dryV a g) := by
  have hb := dryV_bd h1 h2 h3 h4
  unfold spec_l17Dry.f
  rw [w64 (x := 1000 + g) (by omega) (by omega), if_neg (by omega), w64 (x := 1000 * a) (by omega) (by omega), w64 (x := 1000 * a + 999) (by omega) (by omega), w64 (x := 1000 * a + 999 + g) (by omega) (by omega), tdiv_nn (by omega), w64 (x := (1000 * a + 999 + g) / (1000 + g))]
  · rfl
  all_goals (unfold dryV at hb; omega)

def codeV (ok rg : Prop) [Decidable ok] [Decidable rg] : Int := if ok then (if rg then 0 else 2) else 1
theorem check_val (ok rg : Prop) [Decidable ok] [Decidable rg] : impl_check.f (decide ok) (decide rg) = some (codeV ok rg) := by
  unfold impl_check.f codeV
  by_cases h : ok <;> by_cases h2 : rg <;> simp [h, h2]
theorem check_false (ok : Prop) [Decidable ok] : impl_check.f (decide ok) false = some (codeV ok False) := by
  unfold impl_check.f codeV
  by_cases h : ok <;> simp [h]
theorem codeV_zero (ok rg : Prop) [Decidable ok] [Decidable rg] : codeV ok rg = 0 ↔ (ok ∧ rg) := by
  unfold codeV
  by_cases h : ok <;> by_cases h2 : rg <;> simp [h, h2]

/-- What a sheet must hold. -/
def SheetOk (f0 f1 f2 f3 : Int) : Prop := ((1 : Int) ≤ f0 ∧ f0 ≤ 10000) ∧ ((1 : Int) ≤ f1 ∧ f1 ≤ 10000) ∧ ((0 : Int) ≤ f2 ∧ f2 ≤ 100) ∧ ((0 : Int) ≤ f3 ∧ f3 ≤ 100)
instance instSheetOk (f0 f1 f2 f3 : Int) : Decidable (SheetOk f0 f1 f2 f3) := by unfold SheetOk; infer_instance
theorem side_spec (a : Int) : spec_l17Side.f a = some (decide (1 ≤ a ∧ a ≤ 10000)) := by unfold spec_l17Side.f; rw [in_val]; rfl
theorem grow_spec (a : Int) : spec_l17Grows.f a = some (decide (0 ≤ a ∧ a ≤ 100)) := by unfold spec_l17Grows.f; rw [in_val]; rfl
theorem side_impl (a : Int) : impl_isSide.f a = some (decide (1 ≤ a ∧ a ≤ 10000)) := by unfold impl_isSide.f; rw [within_val]; rfl
theorem grow_impl (a : Int) : impl_isStretch.f a = some (decide (0 ≤ a ∧ a ≤ 100)) := by unfold impl_isStretch.f; rw [within_val]; rfl
theorem four_dec (p q r s : Prop) [Decidable p] [Decidable q] [Decidable r] [Decidable s] : (if decide p = true then (if decide q = true then (if decide r = true then some (decide s) else some false) else some false) else some false) = some (decide (p ∧ q ∧ r ∧ s)) := by
  by_cases h1 : p <;> by_cases h2 : q <;> by_cases h3 : r <;> by_cases h4 : s <;> simp [h1, h2, h3, h4]
theorem sheet_impl (f0 f1 f2 f3 : Int) : impl_ValidSheet.f f0 f1 f2 f3 = some (decide (SheetOk f0 f1 f2 f3)) := by
  unfold impl_ValidSheet.f
  rw [side_impl, side_impl, grow_impl, grow_impl]
  exact four_dec _ _ _ _

/-- Both sides of a piece. -/
def SidesOk (x y : Int) : Prop := ((1 : Int) ≤ x ∧ x ≤ 10000) ∧ ((1 : Int) ≤ y ∧ y ≤ 10000)
instance instSidesOk (x y : Int) : Decidable (SidesOk x y) := by unfold SidesOk; infer_instance

theorem piece_impl (f0 f1 f2 f3 x y : Int) : impl_pieceCode.f f0 f1 f2 f3 x y = some (codeV (SheetOk f0 f1 f2 f3) (SidesOk x y)) := by
  unfold impl_pieceCode.f
  rw [sheet_impl, side_impl, side_impl]
  simp only [Option.bind_some]
  by_cases h2 : (1 ≤ x ∧ x ≤ 10000)
  · rw [if_pos (by simp [h2])]
    rw [check_val]
    simp only [Option.bind_some]
    congr 1
    unfold codeV SidesOk
    by_cases h1 : SheetOk f0 f1 f2 f3 <;> by_cases h3 : (1 ≤ y ∧ y ≤ 10000) <;> simp [h1, h2, h3]
  · rw [if_neg (by simp [h2]), check_false]
    simp only [Option.bind_some]
    congr 1
    unfold codeV SidesOk
    by_cases h1 : SheetOk f0 f1 f2 f3 <;> simp [h1, h2]

/-- How many pieces one way. -/
def cutsV (f0 f1 f2 f3 x y : Int) : Int := (f0 / dryV x f2) * (f1 / dryV y f3)
theorem div_bd {a b : Int} (h0 : 0 ≤ a) (h1 : a ≤ 10000) (hb : 1 ≤ b) : 0 ≤ a / b ∧ a / b ≤ 10000 := by
  constructor
  · exact Int.ediv_nonneg h0 (by omega)
  · have := Int.ediv_le_self b h0
    omega
theorem cutsV_bd {f0 f1 f2 f3 x y : Int} (h : SheetOk f0 f1 f2 f3) (hx : SidesOk x y) : 0 ≤ cutsV f0 f1 f2 f3 x y ∧ cutsV f0 f1 f2 f3 x y ≤ 100000000 := by
  obtain ⟨a, b, c, d⟩ := h
  obtain ⟨e, f⟩ := hx
  have p := div_bd (a := f0) (by omega) (by omega) (dryV_bd (a := x) (g := f2) (by omega) (by omega) (by omega) (by omega)).1
  have q := div_bd (a := f1) (by omega) (by omega) (dryV_bd (a := y) (g := f3) (by omega) (by omega) (by omega) (by omega)).1
  unfold cutsV
  refine ⟨Int.mul_nonneg p.1 q.1, ?_⟩
  have := Int.mul_le_mul p.2 q.2 q.1 (by omega)
  omega
theorem cuts_impl {f0 f1 f2 f3 x y : Int} (h : SheetOk f0 f1 f2 f3) (hx : SidesOk x y) : impl_cuts.f f0 f1 f2 f3 x y = some (cutsV f0 f1 f2 f3 x y) := by
  have hb := cutsV_bd h hx
  obtain ⟨a, b, c, d⟩ := h
  obtain ⟨e, f⟩ := hx
  have d1 := (dryV_bd (a := x) (g := f2) (by omega) (by omega) (by omega) (by omega)).1
  have d2 := (dryV_bd (a := y) (g := f3) (by omega) (by omega) (by omega) (by omega)).1
  have p := div_bd (a := f0) (by omega) (by omega) d1
  have q := div_bd (a := f1) (by omega) (by omega) d2
  unfold cutsV at hb
  unfold impl_cuts.f cutsV
  rw [dry_impl (by omega) (by omega) (by omega) (by omega), dry_impl (by omega) (by omega) (by omega) (by omega)]
  simp only [Option.bind_some]
  rw [if_neg (by omega), if_neg (by omega), tdiv_nn (by omega), tdiv_nn (by omega), w64 (x := f0 / dryV x f2) (by omega) (by omega), w64 (x := f1 / dryV y f3) (by omega) (by omega), w64 (by omega) (by omega)]

/-- Bytes. -/
def Bytes (l : List Int) : Prop := ∀ x ∈ l, 0 ≤ x ∧ x ≤ 255
theorem bytes_of {l : List Int} (h : ∀ x ∈ l, (Lit.int .u8 x).wf = true) : Bytes l := by
  intro x hx
  have := h x hx
  simpa [Lit.wf, IntKind.min, IntKind.max, IntKind.signed, IntKind.bits] using this
theorem rd_nat (l : List Int) (i : Nat) (h : i < l.length) : rd l (i : Int) = l[i] := by
  unfold rd
  rw [Int.toNat_natCast, List.getD_eq_getElem?_getD, List.getElem?_eq_getElem h]
  rfl
theorem rd_bytes {l : List Int} (h : Bytes l) {i : Int} (h0 : 0 ≤ i) (hi : i < (l.length : Int)) : 0 ≤ rd l i ∧ rd l i ≤ 255 := by
  obtain ⟨j, rfl⟩ := Int.eq_ofNat_of_zero_le h0
  rw [rd_nat l j (by omega)]
  exact h _ (List.getElem_mem _)
theorem wrap_u64 (n : Int) : IntKind.u64.wrap n = n % 18446744073709551616 := by simp [IntKind.wrap, IntKind.bits, IntKind.signed]
theorem low_byte {x : Int} (h0 : 0 ≤ x) (h1 : x < 18446744073709551616) : Go.bits .and .u64 x 255 = x % 256 :=
  bits_mask .u64 64 (by decide) (fun n h0 h1 => by rw [wrap_u64]; omega) 8 (by decide) x h0 (by simpa using h1)

theorem next_val {l : List Int} (hB : Bytes l) (hl : l.length ≤ 140737488351232) {a s : Int} (h0 : 0 ≤ a) (h1 : a ≤ 1000000000) : ∃ b s', spec_l00Src_next.f l a s = some (b, a + 1, s') ∧ 0 ≤ b ∧ b ≤ 255 := by
  unfold spec_l00Src_next.f
  rw [w64 (x := a + 1) (by omega) (by omega)]
  have hlow : ∀ z : Int, 0 ≤ wrap64 (Go.bits .and .u64 (IntKind.u64.wrap z / 1099511627776) 255) ∧ wrap64 (Go.bits .and .u64 (IntKind.u64.wrap z / 1099511627776) 255) ≤ 255 := by
    intro z
    rw [wrap_u64, low_byte (by omega) (by omega), w64 (by omega) (by omega)]
    omega
  by_cases h : a < (l.length : Int)
  · have hr := rd_bytes hB h0 h
    rw [if_pos h, if_pos h0, if_pos (by omega), w64 (x := rd l a) (by omega) (by omega)]
    exact ⟨_, _, rfl, hr.1, hr.2⟩
  · rw [if_neg h, if_neg (by omega)]
    exact ⟨_, _, rfl, (hlow _).1, (hlow _).2⟩
theorem pick_val {l : List Int} (hB : Bytes l) (hl : l.length ≤ 140737488351232) {a s : Int} (h0 : 0 ≤ a) (h1 : a ≤ 100000000) (n : Int) : ∃ v a' s', spec_l00Src_pick.f l a s n = some (v, a', s') ∧ a ≤ a' ∧ a' ≤ a + 2 ∧ 0 ≤ v ∧ (1 < n → v < n) ∧ (n ≤ 1 → v = 0) := by
  unfold spec_l00Src_pick.f
  by_cases h : n ≤ 1
  · rw [if_pos h]
    exact ⟨0, a, s, rfl, by omega, by omega, by omega, fun h => by omega, fun _ => rfl⟩
  · rw [if_neg h]
    obtain ⟨b, s1, e1, b0, b1⟩ := next_val hB hl (s := s) h0 (by omega)
    rw [e1]
    simp only [Option.bind_some]
    by_cases hn : n > 200
    · obtain ⟨c, s2, e2, c0, c1⟩ := next_val hB hl (a := a + 1) (s := s1) (by omega) (by omega)
      rw [if_pos hn, e2]
      simp only [Option.bind_some]
      rw [if_neg (by omega), w64 (x := b * 256) (by omega) (by omega), w64 (x := b * 256 + c) (by omega) (by omega), tmod_nn (by omega)]
      exact ⟨_, _, _, rfl, by omega, by omega, Int.emod_nonneg _ (by omega), fun _ => Int.emod_lt_of_pos _ (by omega), fun h2 => absurd h2 h⟩
    · rw [if_neg hn, if_neg (by omega), tmod_nn (by omega)]
      exact ⟨_, _, _, rfl, by omega, by omega, Int.emod_nonneg _ (by omega), fun _ => Int.emod_lt_of_pos _ (by omega), fun h2 => absurd h2 h⟩

theorem a2Long_val (l m : List Int) : laws_a2Long.f l m = some (decide ((l.length : Int) > 3000 ∨ (m.length : Int) > 3000)) := by
  unfold laws_a2Long.f
  by_cases h : (l.length : Int) > 3000
  · simp [h]
  · simp [h]
theorem a2At_val {m : List Int} (hB : Bytes m) {i n : Int} (hi : 0 ≤ i) (h1 : 1 < n) : ∃ t, laws_a2At.f m i n = some t ∧ 0 ≤ t ∧ t < n := by
  unfold laws_a2At.f
  by_cases c : i ≥ (m.length : Int)
  · rw [if_pos c]
    exact ⟨0, rfl, by omega, by omega⟩
  · have hb := rd_bytes hB hi (show i < (m.length : Int) by omega)
    rw [if_neg c, if_neg (by omega), if_pos hi, if_pos (by omega), if_neg (by omega), w64 (x := rd m i) (by omega) (by omega), tmod_nn (by omega)]
    exact ⟨_, rfl, Int.emod_nonneg _ (by omega), Int.emod_lt_of_pos _ (by omega)⟩
theorem sheet_drawn {l : List Int} (hB : Bytes l) (hl : l.length ≤ 140737488351232) : ∃ f0 f1 f2 f3, spec_A2Sheet.f l = some (f0, f1, f2, f3) ∧ SheetOk f0 f1 f2 f3 := by
  obtain ⟨v0, a1, s1, e0, h0, h0', g0, p0, _⟩ := pick_val hB hl (a := 0) (s := 0) (by omega) (by omega) 30
  obtain ⟨v1, a2, s2, e1, h1, h1', g1, p1, _⟩ := pick_val hB hl (a := a1) (s := s1) (by omega) (by omega) 30
  obtain ⟨v2, a3, s3, e2, h2, h2', g2, p2, _⟩ := pick_val hB hl (a := a2) (s := s2) (by omega) (by omega) 20
  obtain ⟨v3, a4, s4, e3, h3, h3', g3, p3, _⟩ := pick_val hB hl (a := a3) (s := s3) (by omega) (by omega) 40
  have q0 := p0 (by omega)
  have q1 := p1 (by omega)
  have q2 := p2 (by omega)
  have q3 := p3 (by omega)
  refine ⟨200 * (1 + v0), 200 * (1 + v1), v2, v3, ?_, ⟨⟨by omega, by omega⟩, ⟨by omega, by omega⟩, ⟨by omega, by omega⟩, ⟨by omega, by omega⟩⟩⟩
  unfold spec_A2Sheet.f spec_l00From.f spec_l17Draw.f
  simp only [Option.bind_some, e0, e1, e2, e3, w64 (x := 1 + v0) (by omega) (by omega), w64 (x := 200 * (1 + v0)) (by omega) (by omega), w64 (x := 1 + v1) (by omega) (by omega), w64 (x := 200 * (1 + v1)) (by omega) (by omega)]
theorem dryfor_impl {a g : Int} (h1 : 1 ≤ a) (h2 : a ≤ 10000) (h3 : 0 ≤ g) (h4 : g ≤ 100) : impl_DryFor.f a g = some (dryV a g, 0) := by
  unfold impl_DryFor.f
  simp only [side_impl, grow_impl, Option.bind_some, decide_eq_true (show 1 ≤ a ∧ a ≤ 10000 from ⟨h1, h2⟩), decide_eq_true (show 0 ≤ g ∧ g ≤ 100 from ⟨h3, h4⟩), if_true, dry_impl h1 h2 h3 h4]
theorem dryfor_spec {a g : Int} (h1 : 1 ≤ a) (h2 : a ≤ 10000) (h3 : 0 ≤ g) (h4 : g ≤ 100) : spec_DryFor.f a g = some (dryV a g, 0) := by
  unfold spec_DryFor.f
  simp only [side_spec, grow_spec, Option.bind_some, decide_eq_true (show 1 ≤ a ∧ a ≤ 10000 from ⟨h1, h2⟩), decide_eq_true (show 0 ≤ g ∧ g ≤ 100 from ⟨h3, h4⟩), if_true, dry_spec h1 h2 h3 h4]
/-- A dry length is long enough, and one less is not. -/
theorem dry_enough {a g : Int} (h3 : 0 ≤ g) : 1000 * a ≤ dryV a g * (1000 + g) ∧ (dryV a g - 1) * (1000 + g) < 1000 * a := by
  have h1 := Int.mul_ediv_add_emod (1000 * a + 999 + g) (1000 + g)
  have h2 := Int.emod_nonneg (1000 * a + 999 + g) (b := 1000 + g) (by omega)
  have h4 := Int.emod_lt_of_pos (1000 * a + 999 + g) (show 0 < 1000 + g by omega)
  rw [Int.sub_mul, Int.mul_comm (dryV a g)]
  unfold dryV
  generalize (1000 + g) * ((1000 * a + 999 + g) / (1000 + g)) = x at *
  omega
theorem weterr_ev {a b g : Int} (ha : 1 ≤ a ∧ a ≤ 10000) (hb : 1 ≤ b ∧ b ≤ 10000) (hg : 0 ≤ g ∧ g ≤ 100) : ∃ N D, Ev (fun k => impl_WetError.f k a b g) (N, D, 0) ∧ 1 ≤ D ∧ (1000 * b ≤ a * (1000 + g) → 0 ≤ N) ∧ (a * (1000 + g) < 1000 * b → N < 0) := by
  have hm0 : 0 ≤ a * (1000 + g) := Int.mul_nonneg (by omega) (by omega)
  have hm1 : a * (1000 + g) ≤ 10000 * 1100 := Int.mul_le_mul ha.2 (by omega) (by omega) (by omega)
  obtain ⟨N, D, e, h1, _, h2, h3⟩ := frac_num (n0 := a * (1000 + g) - 1000 * b) (by omega) (by omega)
  refine ⟨N, D, ?_, h1, fun h => h2 (by omega), fun h => h3 (by omega)⟩
  unfold impl_WetError.f
  simp only [side_impl, grow_impl, Option.bind_some, decide_eq_true ha, decide_eq_true hb, decide_eq_true hg, if_true, w64 (x := 1000 + g) (by omega) (by omega), w64 (x := a * (1000 + g)) (by omega) (by omega), w64 (x := 1000 * b) (by omega) (by omega), w64 (x := a * (1000 + g) - 1000 * b) (by omega) (by omega)]
  exact Ev.bind e (ev_const rfl)
theorem wetsides_ev {f0 f1 f2 f3 : Int} (h : SheetOk f0 f1 f2 f3) : ∃ N D M E, Ev (fun k => impl_WetSides.f k f0 f1 f2 f3) (N, D, M, E, 0) ∧ 1 ≤ D ∧ 1 ≤ E ∧ N * 1000 = (f0 * (1000 + f2)) * D ∧ M * 1000 = (f1 * (1000 + f3)) * E := by
  obtain ⟨a, b, c, d⟩ := id h
  have hm0 : 0 ≤ f0 * (1000 + f2) := Int.mul_nonneg (by omega) (by omega)
  have hm1 : f0 * (1000 + f2) ≤ 10000 * 1100 := Int.mul_le_mul (by omega) (by omega) (by omega) (by omega)
  have hn0 : 0 ≤ f1 * (1000 + f3) := Int.mul_nonneg (by omega) (by omega)
  have hn1 : f1 * (1000 + f3) ≤ 10000 * 1100 := Int.mul_le_mul (by omega) (by omega) (by omega) (by omega)
  obtain ⟨N, D, e1, p1, p2, _, _⟩ := frac_num (n0 := f0 * (1000 + f2)) (by omega) (by omega)
  obtain ⟨M, E, e2, q1, q2, _, _⟩ := frac_num (n0 := f1 * (1000 + f3)) (by omega) (by omega)
  refine ⟨N, D, M, E, ?_, p1, q1, p2, q2⟩
  unfold impl_WetSides.f
  simp only [sheet_impl, Option.bind_some, decide_eq_true h, if_true, w64 (x := 1000 + f2) (by omega) (by omega), w64 (x := 1000 + f3) (by omega) (by omega), w64 (x := f0 * (1000 + f2)) (by omega) (by omega), w64 (x := f1 * (1000 + f3)) (by omega) (by omega)]
  exact Ev.bind e1 (Ev.bind e2 (ev_const rfl))
theorem better_val {f0 f1 f2 f3 x y : Int} (h : SheetOk f0 f1 f2 f3) (hx : SidesOk x y) : impl_BetterGrain.f f0 f1 f2 f3 x y = some (decide (wrap64 (dryV y f2 + dryV x f3) ≤ wrap64 (dryV y f3 + dryV x f2)), 0) := by
  have hz := (codeV_zero (SheetOk f0 f1 f2 f3) (SidesOk x y)).2 ⟨h, hx⟩
  obtain ⟨a, b, c, d⟩ := h
  obtain ⟨e, f⟩ := hx
  unfold impl_BetterGrain.f
  simp only [piece_impl, Option.bind_some, hz, if_true, dry_impl (a := y) (g := f2) (by omega) (by omega) (by omega) (by omega), dry_impl (a := x) (g := f3) (by omega) (by omega) (by omega) (by omega), dry_impl (a := y) (g := f3) (by omega) (by omega) (by omega) (by omega), dry_impl (a := x) (g := f2) (by omega) (by omega) (by omega) (by omega)]
theorem up_val {f0 f1 f2 f3 x y : Int} (h : SheetOk f0 f1 f2 f3) (hx : SidesOk x y) : wrap64 ((wrap64 (Int.tdiv f0 (dryV x f2))) * (wrap64 (Int.tdiv f1 (dryV y f3)))) = cutsV f0 f1 f2 f3 x y := by
  have hb := cutsV_bd h hx
  obtain ⟨a, b, c, d⟩ := h
  obtain ⟨e, f⟩ := hx
  have p := div_bd (a := f0) (by omega) (by omega) (dryV_bd (a := x) (g := f2) (by omega) (by omega) (by omega) (by omega)).1
  have q := div_bd (a := f1) (by omega) (by omega) (dryV_bd (a := y) (g := f3) (by omega) (by omega) (by omega) (by omega)).1
  rw [tdiv_nn (by omega), tdiv_nn (by omega), w64 (x := f0 / dryV x f2) (by omega) (by omega), w64 (x := f1 / dryV y f3) (by omega) (by omega)]
  unfold cutsV at hb ⊢
  rw [w64 (by omega) (by omega)]
theorem cutsfrom_val {f0 f1 f2 f3 x y : Int} (h : SheetOk f0 f1 f2 f3) (hx : SidesOk x y) : impl_CutsFrom.f f0 f1 f2 f3 x y = some (mx (cutsV f0 f1 f2 f3 y x) (cutsV f0 f1 f2 f3 x y), decide (cutsV f0 f1 f2 f3 y x ≥ cutsV f0 f1 f2 f3 x y), 0) := by
  have hz := (codeV_zero (SheetOk f0 f1 f2 f3) (SidesOk x y)).2 ⟨h, hx⟩
  have hs : SidesOk y x := ⟨hx.2, hx.1⟩
  unfold impl_CutsFrom.f
  simp only [piece_impl, Option.bind_some, hz, if_true, cuts_impl h hx, cuts_impl h hs]
theorem papersfor_ev {f0 f1 f2 f3 x y n : Int} (h : SheetOk f0 f1 f2 f3) (hx : SidesOk x y) (h1 : 1 ≤ n) (h2 : n ≤ 1000) : Ev (fun k => impl_PapersFor.f k f0 f1 f2 f3 x y n) (if mx (cutsV f0 f1 f2 f3 y x) (cutsV f0 f1 f2 f3 x y) = 0 then (0, 3) else ((n + mx (cutsV f0 f1 f2 f3 y x) (cutsV f0 f1 f2 f3 x y) - 1) / mx (cutsV f0 f1 f2 f3 y x) (cutsV f0 f1 f2 f3 x y), 0)) := by
  have hs : SidesOk y x := ⟨hx.2, hx.1⟩
  have b1 := cutsV_bd h hx
  have b2 := cutsV_bd h hs
  have b3 : 0 ≤ mx (cutsV f0 f1 f2 f3 y x) (cutsV f0 f1 f2 f3 x y) ∧ mx (cutsV f0 f1 f2 f3 y x) (cutsV f0 f1 f2 f3 x y) ≤ 100000000 := by unfold mx; split <;> omega
  have hc : impl_check.f true true = some 0 := rfl
  unfold impl_PapersFor.f
  simp only [sheet_impl, side_impl, within_val, Option.bind_some, decide_eq_true h, decide_eq_true hx.1, decide_eq_true hx.2, decide_eq_true (show 1 ≤ n ∧ n ≤ 1000 from ⟨h1, h2⟩), if_true, hc]
  apply ev_succ
  simp only [impl_PapersFor.j0, if_true, cuts_impl h hx, cuts_impl h hs, Option.bind_some]
  generalize mx (cutsV f0 f1 f2 f3 y x) (cutsV f0 f1 f2 f3 x y) = m at b3
  by_cases e : m = 0
  · rw [if_pos e]
    simp only [if_pos e]
    exact ev_const rfl
  · rw [if_neg e]
    simp only [if_neg e, ceilDiv_val (a := n) (b := m) (by omega) (by omega) (by omega), ← ceil_alt n m (by omega), Option.bind_some]
    exact ev_const rfl
/-- So many papers are enough, and one less is too few. -/
theorem papers_enough {n m : Int} (hn : 1 ≤ n) (hm : 1 ≤ m) : 1 ≤ (n + m - 1) / m ∧ (n + m - 1) / m ≤ n ∧ n ≤ (n + m - 1) / m * m ∧ (n + m - 1) / m * m ≤ n + m - 1 := by
  have h1 := Int.mul_ediv_add_emod (n + m - 1) m
  have h2 := Int.emod_nonneg (n + m - 1) (b := m) (by omega)
  have h3 := Int.emod_lt_of_pos (n + m - 1) (show 0 < m by omega)
  have h4 : n * 1 ≤ n * m := Int.mul_le_mul_of_nonneg_left hm (by omega)
  have h5 : (n + m - 1) / m ≤ n := by
    apply Int.le_of_lt_add_one
    rw [Int.ediv_lt_iff_lt_mul (by omega), Int.add_mul]
    omega
  have h6 : 1 ≤ (n + m - 1) / m := by rw [Int.le_ediv_iff_mul_le (by omega)]; omega
  rw [Int.mul_comm ((n + m - 1) / m) m]
  refine ⟨h6, h5, ?_, ?_⟩ <;> omega
theorem FnPapers : laws_FnPapers.Pure := by
  intro l m hl hl2 hw hm hm2 hwm
  apply Ev.rounds
  unfold laws_FnPapers.f
  simp only [a2Long_val, Option.bind_some]
  by_cases hbig : (l.length : Int) > 3000 ∨ (m.length : Int) > 3000
  · simp only [decide_eq_true hbig, if_true]
    exact ev_const rfl
  simp only [decide_eq_false hbig, Bool.false_eq_true, if_false]
  obtain ⟨f0, f1, f2, f3, es, ok⟩ := sheet_drawn (bytes_of hw) (show l.length ≤ 140737488351232 by omega)
  have hB := bytes_of hwm
  obtain ⟨t0, e0, p0, q0⟩ := a2At_val hB (i := 0) (n := 120) (by omega) (by omega)
  obtain ⟨t1, e1, p1, q1⟩ := a2At_val hB (i := 1) (n := 120) (by omega) (by omega)
  obtain ⟨t2, e2, p2, q2⟩ := a2At_val hB (i := 2) (n := 60) (by omega) (by omega)
  simp only [es, e0, e1, Option.bind_some, w64 (x := 10 * t0) (by omega) (by omega), w64 (x := 50 + 10 * t0) (by omega) (by omega), w64 (x := 10 * t1) (by omega) (by omega), w64 (x := 50 + 10 * t1) (by omega) (by omega)]
  obtain ⟨x, hx⟩ : ∃ x, x = 50 + 10 * t0 := ⟨_, rfl⟩
  obtain ⟨y, hy⟩ : ∃ y, y = 50 + 10 * t1 := ⟨_, rfl⟩
  rw [← hx, ← hy]
  have bx : 1 ≤ x ∧ x ≤ 10000 := by omega
  have bY : 1 ≤ y ∧ y ≤ 10000 := by omega
  have hxy : SidesOk x y := ⟨bx, bY⟩
  have hyx : SidesOk y x := ⟨bY, bx⟩
  obtain ⟨o0, o1, o2, o3⟩ := id ok
  have d1 := dryV_bd (a := x) (g := f3) (by omega) (by omega) (by omega) (by omega)
  have d2 := dryV_bd (a := y) (g := f2) (by omega) (by omega) (by omega) (by omega)
  have d3 := dryV_bd (a := x) (g := f2) (by omega) (by omega) (by omega) (by omega)
  have d4 := dryV_bd (a := y) (g := f3) (by omega) (by omega) (by omega) (by omega)
  have en := dry_enough (a := x) (g := f3) (by omega)
  -- the end: cuts and papers
  have hj3 : Ev (fun k => laws_FnPapers.j3 k m x y (mx (cutsV f0 f1 f2 f3 y x) (cutsV f0 f1 f2 f3 x y)) false f0 f1 f2 f3) true := by
    have b1 := cutsV_bd ok hxy
    have b2 := cutsV_bd ok hyx
    have b3 : 0 ≤ mx (cutsV f0 f1 f2 f3 y x) (cutsV f0 f1 f2 f3 x y) ∧ mx (cutsV f0 f1 f2 f3 y x) (cutsV f0 f1 f2 f3 x y) ≤ 100000000 := by unfold mx; split <;> omega
    have hp := papersfor_ev (n := 1 + t2) ok hxy (by omega) (by omega)
    obtain ⟨N, D, M, E, hws, wd, we, wn, wm⟩ := wetsides_ev ok
    have hm0 : 0 ≤ f0 * (1000 + f2) := Int.mul_nonneg (by omega) (by omega)
    have hm1 : f0 * (1000 + f2) ≤ 10000 * 1100 := Int.mul_le_mul (by omega) (by omega) (by omega) (by omega)
    have hn0 : 0 ≤ f1 * (1000 + f3) := Int.mul_nonneg (by omega) (by omega)
    have hn1 : f1 * (1000 + f3) ≤ 10000 * 1100 := Int.mul_le_mul (by omega) (by omega) (by omega) (by omega)
    apply ev_succ
    simp only [laws_FnPapers.j3, Bool.false_eq_true, if_false, e2, Option.bind_some, w64 (x := 1 + t2) (by omega) (by omega)]
    generalize mx (cutsV f0 f1 f2 f3 y x) (cutsV f0 f1 f2 f3 x y) = c at b3 hp ⊢
    by_cases hc : c = 0
    · rw [if_pos hc] at hp
      refine Ev.bind hp ?_
      simp only [if_pos hc]
      exact ev_const rfl
    · rw [if_neg hc] at hp
      have pe := papers_enough (n := 1 + t2) (m := c) (by omega) (by omega)
      refine Ev.bind hp ?_
      simp only [if_neg hc]
      refine Ev.bind hws ?_
      generalize (1 + t2 + c - 1) / c = P at pe ⊢
      have hPm : (P - 1) * c = P * c - c := by rw [Int.sub_mul, Int.one_mul]
      have e5 : wrap64 (N * 1000) = wrap64 (f0 * (1000 + f2) * D) := congrArg wrap64 wn
      have e6 : wrap64 (M * 1000) = wrap64 (f1 * (1000 + f3) * E) := congrArg wrap64 wm
      simp only [if_true, w64 (x := P * c) (by omega) (by omega), w64 (x := P - 1) (by omega) (by omega), hPm, w64 (x := P * c - c) (by omega) (by omega), if_pos (show P ≥ 1 by omega), if_pos (show P ≤ 1 + t2 by omega), if_pos (show P * c ≥ 1 + t2 by omega), if_pos (show P * c - c < 1 + t2 by omega), w64 (x := 1000 + f2) (by omega) (by omega), w64 (x := 1000 + f3) (by omega) (by omega), w64 (x := f0 * (1000 + f2)) (by omega) (by omega), w64 (x := f1 * (1000 + f3)) (by omega) (by omega), if_pos e5, if_pos e6, if_pos (show D ≥ 1 by omega), decide_eq_true (show E ≥ 1 by omega)]
      exact ev_const rfl
  have hj2 : Ev (fun k => laws_FnPapers.j2 k m x y (dryV x f3) (dryV y f2) (dryV x f2) (dryV y f3) false f0 f1 f2 f3) true := by
    apply ev_succ
    simp only [laws_FnPapers.j2, Bool.false_eq_true, if_false, if_neg (show ¬ dryV y f2 = 0 by omega), if_neg (show ¬ dryV x f3 = 0 by omega), if_neg (show ¬ dryV x f2 = 0 by omega), if_neg (show ¬ dryV y f3 = 0 by omega), cutsfrom_val ok hxy, Option.bind_some, if_true, up_val ok hyx, up_val ok hxy, bne_self_eq_false]
    exact hj3
  have hj1 : Ev (fun k => laws_FnPapers.j1 k m x y (dryV x f3) f0 f1 f2 f3) true := by
    apply ev_succ
    simp only [laws_FnPapers.j1, dryfor_spec (a := y) (g := f2) (by omega) (by omega) (by omega) (by omega), dryfor_spec (a := x) (g := f2) (by omega) (by omega) (by omega) (by omega), dryfor_spec (a := y) (g := f3) (by omega) (by omega) (by omega) (by omega), better_val ok hxy, Option.bind_some, if_true, bne_self_eq_false]
    exact hj2
  obtain ⟨N, D, w1, w2, w3, _⟩ := weterr_ev (a := dryV x f3) (b := x) (g := f3) (by omega) bx (by omega)
  have w4 := w3 en.1
  simp only [dryfor_impl (a := x) (g := f3) (by omega) (by omega) (by omega) (by omega), Option.bind_some]
  refine Ev.bind w1 ?_
  simp only [if_true, if_neg (show ¬ dryV x f3 < 1 by omega), if_neg (show ¬ dryV x f3 > x by omega), if_neg (show ¬ D < 1 by omega), decide_eq_false (show ¬ N < 0 by omega)]
  apply ev_succ
  simp only [laws_FnPapers.j0, Bool.false_eq_true, if_false]
  by_cases c : dryV x f3 > 1
  · obtain ⟨N', D', v1, v2, _, v3⟩ := weterr_ev (a := dryV x f3 - 1) (b := x) (g := f3) (by omega) bx (by omega)
    have v4 := v3 en.2
    simp only [if_pos c, w64 (x := dryV x f3 - 1) (by omega) (by omega)]
    refine Ev.bind v1 ?_
    simp only [if_true, if_neg (show ¬ N' ≥ 0 by omega)]
    exact hj1
  · simp only [if_neg c]
    exact hj1

end Go.Proofs.Ytdhpkmpekbikpaa.Pure
