/- FnExactMovedStars: the program's MovedStars and the reference's come to the same list, for all lists of spots and numbers; the lists share no memory. -/
import Derived.Test.YtoehbcdhplagfaaStatFnExactMovedStars
namespace Go.Proofs.Ytoehbcdhplagfaa.Pure
open Go.RowKit Go.Proofs.Ytoehbcdhplagfaa.PFnExactMovedStars Go.Proofs.YtoehbcdhplagfaaW.PrintWords Go.Proofs.YtoehbcdhplagfaaW.PrintLast Go.Proofs.YtoehbcdhplagfaaW.PrintMore
set_option linter.unusedVariables false
set_option linter.unusedSimpArgs false
theorem wfb {a : Int} (h : (Lit.int .i64 a).wf = true) : -9223372036854775808 ≤ a ∧ a ≤ 9223372036854775807 := by
  simpa [Lit.wf, IntKind.min, IntKind.max, IntKind.signed, IntKind.bits] using h
theorem w64 {x : Int} (h : -9223372036854775808 ≤ x) (h2 : x ≤ 9223372036854775807) : wrap64 x = x := by unfold wrap64; omega
theorem tdiv_nn {a b : Int} (h : 0 ≤ a) : Int.tdiv a b = a / b := Int.tdiv_eq_ediv_of_nonneg h
theorem tmod_nn {a b : Int} (h : 0 ≤ a) : Int.tmod a b = a % b := Int.tmod_eq_emod_of_nonneg h
theorem floor_val (a b : Int) (hb : 0 < b) : (if Int.tmod a b < 0 then Int.tdiv a b - 1 else Int.tdiv a b) = a / b := by
  have h1 := Int.mul_tdiv_add_tmod a b
  have hlt : Int.tmod a b < b := Int.tmod_lt_of_pos a hb
  have hgt : -b < Int.tmod a b := by
    have h2 := Int.tmod_lt_of_pos (-a) hb
    rw [Int.neg_tmod] at h2
    omega
  symm
  split
  · rename_i hneg
    refine ((Int.ediv_emod_unique hb (r := Int.tmod a b + b)).2 ⟨?_, by omega, by omega⟩).1
    rw [Int.mul_sub, Int.mul_one]
    omega
  · rename_i hneg
    exact ((Int.ediv_emod_unique hb (r := Int.tmod a b)).2 ⟨by omega, by omega, by omega⟩).1
theorem ediv_bd {a b : Int} (hb : 0 < b) (B : Int) (h0 : -B ≤ a) (h1 : a ≤ B) (hB : 0 ≤ B) : -B ≤ a / b ∧ a / b ≤ B := by
  constructor
  · rw [Int.le_ediv_iff_mul_le hb]
    have : B * 1 ≤ B * b := Int.mul_le_mul_of_nonneg_left (by omega) hB
    rw [Int.neg_mul]; omega
  · have h2 : a / b ≤ B / b := Int.ediv_le_ediv hb h1
    have h3 : B / b ≤ B := Int.ediv_le_self b hB
    omega
theorem ceil_alt (a b : Int) (hb : 0 < b) : (a + b - 1) / b = -((-a) / b) := by
  have h1 := Int.mul_ediv_add_emod (-a) b
  have h2 := Int.emod_nonneg (-a) (b := b) (by omega)
  have h3 := Int.emod_lt_of_pos (-a) hb
  refine ((Int.ediv_emod_unique hb (r := b - 1 - (-a) % b)).2 ⟨?_, by omega, by omega⟩).1
  rw [Int.mul_neg]
  omega

theorem ev_succ {α : Type} {g : Nat → Option α} {r : α} (h : Ev (fun k => g (k + 1)) r) : Ev g r := Ev.step (fun _ => rfl) h
theorem ev_const {α : Type} {g : Option α} {r : α} (h : g = some r) : Ev (fun _ => g) r := ⟨0, fun _ _ => h⟩
theorem ev_uniq {α : Type} {g : Nat → Option α} {a b : α} (h : Ev g a) (h' : Ev g b) : a = b := by
  obtain ⟨K, h⟩ := h
  obtain ⟨K', h'⟩ := h'
  have h1 := h (K + K') (by omega)
  rw [h' (K + K') (by omega)] at h1
  exact (Option.some.inj h1).symm

theorem in_val (a b c : Int) : spec_l00In.f a b c = some (decide (b ≤ a ∧ a ≤ c)) := by
  unfold spec_l00In.f
  by_cases h : a ≥ b <;> by_cases h2 : a ≤ c <;> simp [h, h2] <;> omega
theorem within_val (a b c : Int) : impl_within.f a b c = some (decide (b ≤ a ∧ a ≤ c)) := in_val a b c

/-- A valid spot. -/
def SpotP (a b : Int) : Prop := (-324000 ≤ a ∧ a ≤ 324000) ∧ (-648000 ≤ b ∧ b ≤ 647999)
instance (a b : Int) : Decidable (SpotP a b) := by unfold SpotP; infer_instance
theorem l02Ok_val (a b : Int) : spec_l02Ok.f a b = some (decide (SpotP a b)) := by
  unfold spec_l02Ok.f SpotP
  simp only [in_val, Option.bind_some]
  by_cases h : -324000 ≤ a ∧ a ≤ 324000
  · simp only [h, decide_true, if_true, true_and]
  · simp [h]

def RateP (y r : Int) : Prop := (0 ≤ y ∧ y ≤ 30000) ∧ (1 ≤ r ∧ r ≤ 100)
instance (a b : Int) : Decidable (RateP a b) := by unfold RateP; infer_instance
theorem l15Rate_val (y r : Int) : spec_l15Rate.f y r = some (decide (RateP y r)) := by
  unfold spec_l15Rate.f RateP
  simp only [in_val, Option.bind_some]
  by_cases h : 0 ≤ y ∧ y ≤ 30000
  · simp only [h, decide_true, if_true, true_and]
  · simp [h]
theorem iRate_val (r : Int) : impl_isRate.f r = some (decide (1 ≤ r ∧ r ≤ 100)) := by
  unfold impl_isRate.f
  simp only [within_val, Option.bind_some]

theorem iYears_val (r : Int) : impl_areYears.f r = some (decide (0 ≤ r ∧ r ≤ 30000)) := by
  unfold impl_areYears.f
  simp only [within_val, Option.bind_some]

def codeV (ok rg : Prop) [Decidable ok] [Decidable rg] : Int := if ok then (if rg then 0 else 2) else 1
theorem check_val (ok rg : Prop) [Decidable ok] [Decidable rg] : impl_check.f (decide ok) (decide rg) = some (codeV ok rg) := by
  unfold impl_check.f codeV
  by_cases h : ok <;> by_cases h2 : rg <;> simp [h, h2]
theorem check_false (ok : Prop) [Decidable ok] : impl_check.f (decide ok) false = some (codeV ok False) := by
  unfold impl_check.f codeV
  by_cases h : ok <;> simp [h]
theorem codeV_zero (ok rg : Prop) [Decidable ok] [Decidable rg] : codeV ok rg = 0 ↔ (ok ∧ rg) := by
  unfold codeV
  by_cases h : ok <;> by_cases h2 : rg <;> simp [h, h2]

theorem tmod_bd (a : Int) {b : Int} (hb : 0 < b) : -b < Int.tmod a b ∧ Int.tmod a b < b ∧ b * Int.tdiv a b + Int.tmod a b = a := by
  have h1 := Int.mul_tdiv_add_tmod a b
  have hlt : Int.tmod a b < b := Int.tmod_lt_of_pos a hb
  have h2 := Int.tmod_lt_of_pos (-a) hb
  rw [Int.neg_tmod] at h2
  omega
theorem around_val (a : Int) : impl_around.f a = some (a % 1296000) := by
  unfold impl_around.f
  have h := tmod_bd a (show (0 : Int) < 1296000 by omega)
  rw [w64 (by omega) (by omega), tmod_nn (by omega)]
  congr 1
  omega

/-- The longitude of an angle. -/
def wrapV (a : Int) : Int := (a + 648000) % 1296000 - 648000
theorem wrapV_bd (a : Int) : -648000 ≤ wrapV a ∧ wrapV a ≤ 647999 := by unfold wrapV; omega
theorem iwrap_val {a : Int} (h0 : -4611686018427387904 ≤ a) (h1 : a ≤ 4611686018427387904) : impl_wrap.f a = some (wrapV a) := by
  unfold impl_wrap.f
  rw [w64 (x := a + 648000) (by omega) (by omega), around_val]
  simp only [Option.bind_some]
  rw [w64 (by omega) (by omega)]
  rfl

theorem swrap_val {a : Int} (h0 : -4611686018427387904 ≤ a) (h1 : a ≤ 4611686018427387904) : spec_l02Wrap.f a = some (wrapV a) := by
  unfold spec_l02Wrap.f wrapV
  rw [w64 (x := a + 648000) (by omega) (by omega)]
  have h := tmod_bd (a + 648000) (show (0 : Int) < 1296000 by omega)
  split
  · rw [w64 (x := Int.tmod (a + 648000) 1296000 + 1296000) (by omega) (by omega), w64 (by omega) (by omega)]
    congr 1; omega
  · rw [w64 (by omega) (by omega)]
    congr 1; omega

theorem mul_bd {y r : Int} (h : RateP y r) : 0 ≤ y * r ∧ y * r ≤ 3000000 := by
  obtain ⟨⟨h1, h2⟩, h3, h4⟩ := h
  refine ⟨Int.mul_nonneg h1 (by omega), ?_⟩
  have : y * r ≤ 30000 * 100 := Int.mul_le_mul h2 h4 (by omega) (by omega)
  omega

theorem rd_at (l : List Int) (i : Nat) (h : i < l.length) : rd l (i : Int) = l[i] := by
  unfold rd
  rw [Int.toNat_natCast, List.getD_eq_getElem?_getD, List.getElem?_eq_getElem h]
  rfl

theorem eqInt64_l (x : List Int) (hl : x.length ≤ 17592186044416) (d : Nat) : ∀ (i : Nat), i ≤ x.length → x.length - i = d → Ev (fun k => laws_eqInt64S.l0 k x x i) true := by
  induction d with
  | zero =>
    intro i hi hd
    apply ev_succ
    simp only [laws_eqInt64S.l0, if_neg (show ¬ (i : Int) < (x.length : Int) by omega)]
    exact ev_const rfl
  | succ d ih =>
    intro i hi hd
    apply ev_succ
    simp only [laws_eqInt64S.l0, if_true, Option.bind_some, if_pos (show (i : Int) < (x.length : Int) by omega), if_pos (show (0 : Int) ≤ (i : Int) by omega), w64 (x := (i : Int) + 1) (by omega) (by omega)]
    exact ih (i + 1) (by omega) (by omega)
theorem eqInt64_ev (x : List Int) (hl : x.length ≤ 17592186044416) : Ev (fun k => laws_eqInt64S.f k x x) true := by
  unfold laws_eqInt64S.f
  simp only [if_true]
  exact eqInt64_l x hl x.length 0 (by omega) (by omega)

def mkInt64 (x : Int) (a : Int) : Int := a
theorem markInt64_l (n : Nat) (hn : n ≤ 17592186044416) (d : Nat) : ∀ (x : List Int) (a : Int) (i : Nat), x.length = n → i ≤ n → n - i = d → 0 ≤ a → a ≤ 1000000 + 1 * (i : Int) →
    ∃ b y, Ev (fun k => laws_markInt64S.l0 k x a i) (b, y) ∧ Ev (fun k => laws_heldInt64S.l0 k y a i) b ∧ y.length = n ∧ y.take i = x.take i ∧ 0 ≤ b := by
  induction d with
  | zero =>
    intro x a i hx hi hd h0 h1
    refine ⟨a, x, ev_succ ?_, ev_succ ?_, hx, rfl, h0⟩
    · simp only [laws_markInt64S.l0, if_neg (show ¬ (i : Int) < (x.length : Int) by omega)]
      exact ev_const rfl
    · simp only [laws_heldInt64S.l0, if_neg (show ¬ (i : Int) < (x.length : Int) by omega)]
      exact ev_const rfl
  | succ d ih =>
    intro x a i hx hi hd h0 h1
    have hlt : i < x.length := by omega
    obtain ⟨b, y, e1, e2, hy, ht, hb⟩ := ih (x.set i (mkInt64 x[i] a)) (a + 1) (i + 1) (by simpa using hx) (by omega) (by omega) (by omega) (by omega)
    have hyi : y[i]'(by omega) = mkInt64 x[i] a := by
      have h2 : y[i]'(by omega) = (y.take (i + 1))[i]'(by rw [List.length_take]; omega) := by rw [List.getElem_take]
      rw [h2]
      simp only [ht, List.getElem_take, List.getElem_set_self]
    refine ⟨b, y, ev_succ ?_, ev_succ ?_, hy, ?_, hb⟩
    · simp only [laws_markInt64S.l0, Option.bind_some, Int.toNat_natCast, if_pos (show (i : Int) < (x.length : Int) by omega), if_pos (show (0 : Int) ≤ (i : Int) by omega)]
      simp only [w64 (x := a + 1) (by omega) (by omega), w64 (x := (i : Int) + 1) (by omega) (by omega)]
      exact e1
    · simp only [laws_heldInt64S.l0, if_pos (show (i : Int) < (y.length : Int) by omega), if_pos (show (0 : Int) ≤ (i : Int) by omega)]
      simp only [rd_at _ _ (show i < y.length by omega), hyi, mkInt64, if_true, w64 (x := a + 1) (by omega) (by omega), w64 (x := (i : Int) + 1) (by omega) (by omega)]
      exact e2
    · have h3 : y.take i = (y.take (i + 1)).take i := by rw [List.take_take]; congr 1; omega
      rw [h3, ht, List.take_take, Nat.min_eq_left (by omega), List.take_set_of_le (Nat.le_refl _)]
theorem markInt64_ev (x : List Int) (hn : x.length ≤ 17592186044416) {a : Int} (h0 : 0 ≤ a) (h1 : a ≤ 1000000) : ∃ b y, Ev (fun k => laws_markInt64S.f k x a) (b, y) ∧ Ev (fun k => laws_heldInt64S.f k y a) b ∧ y.length = x.length ∧ 0 ≤ b := by
  obtain ⟨b, y, e1, e2, hy, _, hb⟩ := markInt64_l x.length hn x.length x a 0 rfl (by omega) (by omega) h0 (by omega)
  exact ⟨b, y, e1, e2, hy, hb⟩

theorem rd_T36_at (l : List S36) (i : Nat) (h : i < l.length) : rd_T36 l (i : Int) = l[i] := by
  unfold rd_T36
  rw [Int.toNat_natCast, List.getD_eq_getElem?_getD, List.getElem?_eq_getElem h]
  rfl

theorem rd_T37_at (l : List S37) (i : Nat) (h : i < l.length) : rd_T37 l (i : Int) = l[i] := by
  unfold rd_T37
  rw [Int.toNat_natCast, List.getD_eq_getElem?_getD, List.getElem?_eq_getElem h]
  rfl

def cvSpot (x : S36) : S37 := ⟨x.f0, x.f1⟩
theorem take_set_Spot (x : List S37) (i : Nat) (v : S37) (h : i < x.length) : (x.set i v).take (i + 1) = x.take i ++ [v] := by
  rw [List.take_succ_eq_append_getElem (by simpa using h), List.getElem_set_self, List.take_set_of_le (Nat.le_refl _)]
theorem toSpot_l (l : List S36) (hl : l.length ≤ 17592186044416) (d : Nat) : ∀ (x : List S37) (i : Nat), i ≤ l.length → l.length - i = d → x.length = l.length → x.take i = (l.map cvSpot).take i → Ev (fun k => laws_toSpotS.l0 k l x i) (l.map cvSpot) := by
  induction d with
  | zero =>
    intro x i hi hd hx ht
    apply ev_succ
    simp only [laws_toSpotS.l0]
    rw [List.take_of_length_le (by omega), List.take_of_length_le (by simp; omega)] at ht
    simp only [if_neg (show ¬ (i : Int) < (l.length : Int) by omega)]
    rw [ht]
    exact ev_const rfl
  | succ d ih =>
    intro x i hi hd hx ht
    have hlt : i < l.length := by omega
    apply ev_succ
    simp only [laws_toSpotS.l0, laws_toSpot.f, Option.bind_some, if_pos (show (i : Int) < (l.length : Int) by omega), if_pos (show (0 : Int) ≤ (i : Int) by omega), if_pos (show (i : Int) < (x.length : Int) by omega), rd_T36_at _ _ hlt, w64 (x := (i : Int) + 1) (by omega) (by omega), Int.toNat_natCast]
    exact ih (x.set i (cvSpot l[i])) (i + 1) (by omega) (by omega) (by simpa using hx) (by rw [take_set_Spot _ _ _ (by omega), List.take_succ_eq_append_getElem (by simpa using hlt), ht, List.getElem_map])
theorem toSpot_ev (l : List S36) (hl : l.length ≤ 17592186044416) : Ev (fun k => laws_toSpotS.f k l) (l.map cvSpot) := by
  unfold laws_toSpotS.f
  simp only [if_pos (show (0 : Int) ≤ (l.length : Int) by omega), if_pos (show ((l.length : Int)).toNat ≤ 17592186044416 by omega)]
  exact toSpot_l l hl l.length _ 0 (by omega) (by omega) (by simp) (by simp)

theorem eqSpot_l (x : List S37) (hl : x.length ≤ 17592186044416) (d : Nat) : ∀ (i : Nat), i ≤ x.length → x.length - i = d → Ev (fun k => laws_eqSpotS.l0 k x x i) true := by
  induction d with
  | zero =>
    intro i hi hd
    apply ev_succ
    simp only [laws_eqSpotS.l0, if_neg (show ¬ (i : Int) < (x.length : Int) by omega)]
    exact ev_const rfl
  | succ d ih =>
    intro i hi hd
    apply ev_succ
    simp only [laws_eqSpotS.l0, laws_eqSpot.f, if_true, Option.bind_some, if_pos (show (i : Int) < (x.length : Int) by omega), if_pos (show (0 : Int) ≤ (i : Int) by omega), w64 (x := (i : Int) + 1) (by omega) (by omega)]
    exact ih (i + 1) (by omega) (by omega)
theorem eqSpot_ev (x : List S37) (hl : x.length ≤ 17592186044416) : Ev (fun k => laws_eqSpotS.f k x x) true := by
  unfold laws_eqSpotS.f
  simp only [if_true]
  exact eqSpot_l x hl x.length 0 (by omega) (by omega)

theorem szSpot_val (l : List S36) (hl : l.length ≤ maxLen) {a : Int} (h0 : 0 ≤ a) (h1 : a ≤ 1048576) : laws_szSpotS.f l a = some (-1) ∨ (laws_szSpotS.f l a = some (a - l.length) ∧ 0 ≤ a - l.length) := by
  unfold maxLen at hl
  unfold laws_szSpotS.f
  rw [w64 (x := a - (l.length : Int)) (by omega) (by omega)]
  by_cases h : a - (l.length : Int) < 0
  · left; rw [if_pos h]
  · right; rw [if_neg h]; exact ⟨rfl, by omega⟩

theorem markSpot_l (n : Nat) (hn : n ≤ 17592186044416) (d : Nat) : ∀ (x : List S37) (a : Int) (i : Nat), x.length = n → i ≤ n → n - i = d → 0 ≤ a → a ≤ 1000000 + 2 * (i : Int) → ∃ b y, Ev (fun k => laws_markSpotS.l0 k x a i) (b, y) ∧ 0 ≤ b := by
  induction d with
  | zero =>
    intro x a i hx hi hd h0 h1
    refine ⟨a, x, ev_succ ?_, h0⟩
    simp only [laws_markSpotS.l0, if_neg (show ¬ (i : Int) < (x.length : Int) by omega)]
    exact ev_const rfl
  | succ d ih =>
    intro x a i hx hi hd h0 h1
    obtain ⟨b, y, e, hb⟩ := ih _ (a + 1 + 1) (i + 1) (show ((x.set i ⟨a, (rd_T37 x i).f1⟩).set i ⟨(rd_T37 (x.set i ⟨a, (rd_T37 x i).f1⟩) i).f0, a + 1⟩).length = n by simpa using hx) (by omega) (by omega) (by omega) (by omega)
    refine ⟨b, y, ev_succ ?_, hb⟩
    simp only [laws_markSpotS.l0, Option.bind_some, Int.toNat_natCast, if_pos (show (i : Int) < (x.length : Int) by omega), if_pos (show (0 : Int) ≤ (i : Int) by omega), w64 (x := a + 1) (by omega) (by omega), w64 (x := a + 1 + 1) (by omega) (by omega), w64 (x := (i : Int) + 1) (by omega) (by omega)]
    exact e
theorem markSpot_ev (x : List S37) (hn : x.length ≤ 17592186044416) {a : Int} (h0 : 0 ≤ a) (h1 : a ≤ 1000000) : ∃ b y, Ev (fun k => laws_markSpotS.f k x a) (b, y) ∧ 0 ≤ b :=
  markSpot_l x.length hn x.length x a 0 rfl (by omega) (by omega) h0 (by omega)

def AllSpots (l : List S37) : Prop := ∀ x ∈ l, SpotP x.f0 x.f1
theorem areSpots_val (l : List S37) [Decidable (AllSpots l)] : impl_areSpots.f l = some (decide (AllSpots l)) := by
  unfold impl_areSpots.f
  congr 1
  rw [Bool.eq_iff_iff, decide_eq_true_iff, Bool.not_eq_true', List.any_eq_false]
  unfold AllSpots spotBad SpotP
  constructor
  · intro h x hx
    have := h x hx
    simpa using this
  · intro h x hx
    have := h x hx
    simpa using this

theorem l15Stars_l (l : List S37) (hl : l.length ≤ 17592186044416) (y r : Int) (d : Nat) : ∀ (i : Nat), i ≤ l.length → l.length - i = d →
    (∀ (j : Nat) (h : j < l.length), j < i → SpotP l[j].f0 l[j].f1) → ∃ c, Ev (fun k => spec_l15Stars.l0 k l y r i) c ∧ ((AllSpots l ∧ c = (if RateP y r ∧ l.length ≤ 12 then 0 else 2)) ∨ (¬ AllSpots l ∧ c = 1)) := by
  induction d with
  | zero =>
    intro i hi hd hj
    refine ⟨if RateP y r ∧ l.length ≤ 12 then 0 else 2, ev_succ ?_, .inl ⟨?_, rfl⟩⟩
    · simp only [spec_l15Stars.l0, l15Rate_val, Option.bind_some, if_neg (show ¬ (i : Int) < (l.length : Int) by omega)]
      refine ev_const ?_
      by_cases h1 : RateP y r
      · simp only [h1, decide_true, if_true, true_and]
        by_cases h2 : l.length ≤ 12
        · rw [if_pos h2, if_neg (by omega)]
        · rw [if_neg h2, if_pos (by omega)]
      · simp [h1]
    · intro x hx
      obtain ⟨j, hj2, rfl⟩ := List.getElem_of_mem hx
      exact hj j hj2 (by omega)
  | succ d ih =>
    intro i hi hd hj
    have hlt : i < l.length := by omega
    by_cases h : SpotP l[i].f0 l[i].f1
    · obtain ⟨c, e, hc⟩ := ih (i + 1) (by omega) (by omega) (fun j hj2 hlt2 => by
        by_cases e : j = i
        · subst e; exact h
        · exact hj j hj2 (by omega))
      refine ⟨c, ev_succ ?_, hc⟩
      simp only [spec_l15Stars.l0, l02Ok_val, Option.bind_some, if_pos (show (i : Int) < (l.length : Int) by omega), if_pos (show (0 : Int) ≤ (i : Int) by omega), rd_T37_at _ _ hlt, if_pos (decide_eq_true h), w64 (x := (i : Int) + 1) (by omega) (by omega)]
      exact e
    · refine ⟨1, ev_succ ?_, .inr ⟨fun ha => h (ha _ (List.getElem_mem hlt)), rfl⟩⟩
      simp only [spec_l15Stars.l0, l02Ok_val, Option.bind_some, if_pos (show (i : Int) < (l.length : Int) by omega), if_pos (show (0 : Int) ≤ (i : Int) by omega), rd_T37_at _ _ hlt, if_neg (show ¬ decide (SpotP l[i].f0 l[i].f1) = true by simpa using h)]
      exact ev_const rfl
theorem l15Stars_ev (l : List S37) [Decidable (AllSpots l)] (hl : l.length ≤ 17592186044416) (y r : Int) : Ev (fun k => spec_l15Stars.f k l y r) (codeV (AllSpots l) (RateP y r ∧ l.length ≤ 12)) := by
  obtain ⟨c, e, h⟩ := l15Stars_l l hl y r l.length 0 (by omega) (by omega) (fun j _ hj => by omega)
  unfold spec_l15Stars.f
  have hc : c = codeV (AllSpots l) (RateP y r ∧ l.length ≤ 12) := by
    unfold codeV
    rcases h with ⟨h1, rfl⟩ | ⟨h1, rfl⟩
    · simp [h1]
    · simp [h1]
  rw [← hc]
  exact e

def absV (a : Int) : Int := if a < 0 then -a else a
theorem ssize_val {a : Int} (h0 : -4611686018427387904 ≤ a) (h1 : a ≤ 4611686018427387904) : spec_l00Size.f a = some (absV a) := by
  unfold spec_l00Size.f absV
  split
  · rw [w64 (by omega) (by omega)]
  · rfl
theorem apart_val {a b : Int} (h0 : -1000000000000 ≤ b - a) (h1 : b - a ≤ 1000000000000) : spec_l15Apart.f a b = some (absV (wrapV (b - a))) := by
  have hb := wrapV_bd (b - a)
  unfold spec_l15Apart.f
  rw [w64 (x := b - a) (by omega) (by omega), swrap_val (by omega) (by omega)]
  simp only [Option.bind_some]
  rw [ssize_val (by omega) (by omega)]
  rfl
theorem iabs_val {a : Int} (h0 : -4611686018427387904 ≤ a) (h1 : a ≤ 4611686018427387904) : impl_absolute.f a = some (absV a) := by
  unfold impl_absolute.f absV mx
  rw [w64 (by omega) (by omega)]
  congr 1
  split <;> split <;> omega

/-- The same rounds on both sides. -/
theorem moved_l (l : List S37) (hs : AllSpots l) (hl : l.length ≤ 12) {y r : Int} (hr : RateP y r) (d : Int) (m : Nat) : ∀ (out : List Int) (i : Nat), i ≤ l.length → l.length - i = m → out.length ≤ i →
    ∃ res, Ev (fun k => impl_MovedStars.l0 k y r d out (l.length : Int) i) (res, 0) ∧ Ev (fun k => spec_MovedStars.l0 k l y r d out i) (res, 0) ∧ res.length ≤ l.length := by
  have hm := mul_bd hr
  induction m with
  | zero =>
    intro out i hi hd ho
    refine ⟨out, ev_succ ?_, ev_succ ?_, by omega⟩
    · simp only [impl_MovedStars.l0, if_neg (show ¬ (i : Int) < (l.length : Int) by omega)]; exact ev_const rfl
    · simp only [spec_MovedStars.l0, if_neg (show ¬ (i : Int) < (l.length : Int) by omega)]; exact ev_const rfl
  | succ m ih =>
    intro out i hi hd ho
    have hlt : i < l.length := by omega
    have hsp := hs _ (List.getElem_mem hlt)
    have hlon := hsp.2
    have hb := wrapV_bd (y * r)
    have e1 : impl_wrap.f (wrap64 (y * r)) = some (wrapV (y * r)) := by rw [w64 (x := y * r) (by omega) (by omega), iwrap_val (by omega) (by omega)]
    have e2 : impl_absolute.f (wrapV (y * r)) = some (absV (wrapV (y * r))) := iabs_val (by omega) (by omega)
    have e3 : spec_l15Apart.f l[i].f1 (wrap64 (l[i].f1 + wrap64 (y * r))) = some (absV (wrapV (y * r))) := by
      rw [w64 (x := y * r) (by omega) (by omega), w64 (x := l[i].f1 + y * r) (by omega) (by omega), apart_val (by omega) (by omega), show l[i].f1 + y * r - l[i].f1 = y * r from by omega]
    by_cases hc : absV (wrapV (y * r)) > d
    · obtain ⟨res, h1, h2, h3⟩ := ih (out ++ [(i : Int)]) (i + 1) (by omega) (by omega) (by simp; omega)
      refine ⟨res, ev_succ ?_, ev_succ ?_, h3⟩
      · simp only [impl_MovedStars.l0, if_pos (show (i : Int) < (l.length : Int) by omega), e1, e2, Option.bind_some, if_pos hc, if_pos (show out.length < 17592186044416 by omega), w64 (x := (i : Int) + 1) (by omega) (by omega)]
        exact h1
      · simp only [spec_MovedStars.l0, if_pos (show (i : Int) < (l.length : Int) by omega), if_pos (show (0 : Int) ≤ (i : Int) by omega), rd_T37_at _ _ hlt, e3, Option.bind_some, if_pos hc, if_pos (show out.length < 17592186044416 by omega), w64 (x := (i : Int) + 1) (by omega) (by omega)]
        exact h2
    · obtain ⟨res, h1, h2, h3⟩ := ih out (i + 1) (by omega) (by omega) (by omega)
      refine ⟨res, ev_succ ?_, ev_succ ?_, h3⟩
      · simp only [impl_MovedStars.l0, if_pos (show (i : Int) < (l.length : Int) by omega), e1, e2, Option.bind_some, if_neg hc, w64 (x := (i : Int) + 1) (by omega) (by omega)]
        exact h1
      · simp only [spec_MovedStars.l0, if_pos (show (i : Int) < (l.length : Int) by omega), if_pos (show (0 : Int) ≤ (i : Int) by omega), rd_T37_at _ _ hlt, e3, Option.bind_some, if_neg hc, w64 (x := (i : Int) + 1) (by omega) (by omega)]
        exact h2
theorem moved_code (l : List S37) (y r d : Int) (c : Int) (h : c ≠ 0) : Ev (fun k => impl_MovedStars.j0 k l y r d c) ([], c) ∧ Ev (fun k => spec_MovedStars.j0 k l y r d c false) ([], c) ∧ Ev (fun k => spec_MovedStars.j0 k l y r d 0 true) ([], 2) := by
  refine ⟨ev_succ ?_, ev_succ ?_, ev_succ ?_⟩
  · simp only [impl_MovedStars.j0, if_neg h]; exact ev_const rfl
  · simp only [spec_MovedStars.j0, Bool.false_eq_true, if_false]
    refine ev_succ ?_
    simp only [spec_MovedStars.j1, if_neg h]; exact ev_const rfl
  · simp only [spec_MovedStars.j0, if_true]
    refine ev_succ ?_
    simp only [spec_MovedStars.j1]; exact ev_const rfl
theorem moved_same (l : List S37) (hl : l.length ≤ 17592186044416) (y r d : Int) : ∃ res c, Ev (fun k => impl_MovedStars.f k l y r d) (res, c) ∧ Ev (fun k => spec_MovedStars.f k l y r d) (res, c) ∧ res.length ≤ l.length := by
  classical
  have hst := l15Stars_ev l hl y r
  unfold impl_MovedStars.f spec_MovedStars.f
  simp only [areSpots_val, iYears_val, iRate_val, within_val, in_val, Option.bind_some]
  by_cases hs : AllSpots l
  · by_cases hy : 0 ≤ y ∧ y ≤ 30000
    · by_cases hr : 1 ≤ r ∧ r ≤ 100
      · by_cases hd : 0 ≤ d ∧ d ≤ 324000
        · by_cases hn : l.length ≤ 12
          · have hR : RateP y r := ⟨hy, hr⟩
            obtain ⟨res, e1, e2, hb⟩ := moved_l l hs hn hR d l.length [] 0 (by omega) (by omega) (by simp)
            refine ⟨res, 0, ?_, Ev.bind hst ?_, hb⟩
            · simp only [hs, hy, hr, hd, decide_true, if_true, impl_check.f, show (l.length : Int) ≤ 12 from by omega, Option.bind_some, and_self]
              refine ev_succ ?_
              simp only [impl_MovedStars.j0, if_true]
              exact e1
            · simp only [codeV, hs, hR, hn, and_self, if_true, hd, decide_true, Bool.not_true]
              refine ev_succ ?_
              simp only [spec_MovedStars.j0, Bool.false_eq_true, if_false]
              refine ev_succ ?_
              simp only [spec_MovedStars.j1, if_true]
              exact e2
          · refine ⟨[], 2, ?_, Ev.bind hst ?_, by simp⟩
            · simp only [hs, hy, hr, hd, decide_true, if_true, impl_check.f, show ¬ (l.length : Int) ≤ 12 from by omega, decide_false, Bool.false_eq_true, if_false, Option.bind_some, and_self]
              exact (moved_code l y r d 2 (by omega)).1
            · simp only [codeV, hs, hn, and_false, if_true, if_false, show ¬ ((2 : Int) = 0) from by omega]
              exact (moved_code l y r d 2 (by omega)).2.1
        · refine ⟨[], 2, ?_, Ev.bind hst ?_, by simp⟩
          · simp only [hs, hy, hr, hd, decide_true, if_true, impl_check.f, decide_false, Bool.false_eq_true, if_false, Option.bind_some, and_self]
            exact (moved_code l y r d 2 (by omega)).1
          · by_cases hc : RateP y r ∧ l.length ≤ 12
            · simp only [codeV, hs, hc, hd, and_self, if_true, decide_false, Bool.not_false]
              exact (moved_code l y r d 2 (by omega)).2.2
            · simp only [codeV, hs, hc, if_true, if_false, show ¬ ((2 : Int) = 0) from by omega]
              exact (moved_code l y r d 2 (by omega)).2.1
      · have hR : ¬ RateP y r := fun h => hr h.2
        refine ⟨[], 2, ?_, Ev.bind hst ?_, by simp⟩
        · simp only [hs, hy, hr, decide_true, if_true, impl_check.f, decide_false, Bool.false_eq_true, if_false, Option.bind_some, and_self]
          exact (moved_code l y r d 2 (by omega)).1
        · simp only [codeV, hs, hR, false_and, if_true, if_false, show ¬ ((2 : Int) = 0) from by omega]
          exact (moved_code l y r d 2 (by omega)).2.1
    · have hR : ¬ RateP y r := fun h => hy h.1
      refine ⟨[], 2, ?_, Ev.bind hst ?_, by simp⟩
      · simp only [hs, hy, decide_true, if_true, impl_check.f, decide_false, Bool.false_eq_true, if_false, Option.bind_some, and_self]
        exact (moved_code l y r d 2 (by omega)).1
      · simp only [codeV, hs, hR, false_and, if_true, if_false, show ¬ ((2 : Int) = 0) from by omega]
        exact (moved_code l y r d 2 (by omega)).2.1
  · refine ⟨[], 1, ?_, Ev.bind hst ?_, by simp⟩
    · simp only [hs, decide_false, impl_check.f, Bool.false_eq_true, if_false, Option.bind_some]
      have h1 := (moved_code l y r d 1 (by omega)).1
      repeat' split
      all_goals exact h1
    · simp only [codeV, hs, if_false, show ¬ ((1 : Int) = 0) from by omega]
      exact (moved_code l y r d 1 (by omega)).2.1
theorem FnExactMovedStars : laws_FnExactMovedStars.Pure := by
  intro l y r d hl hw _ _ _
  apply Ev.rounds
  unfold laws_FnExactMovedStars.f
  rcases szSpot_val l hl (a := 1048576) (by omega) (by omega) with e | ⟨e, e1⟩
  · simp only [e, Option.bind_some]; exact ev_const rfl
  · simp only [e, Option.bind_some, if_neg (show ¬ (1048576 - (l.length : Int) < 0) by omega)]
    have hto := toSpot_ev l (by omega)
    have hml : (l.map cvSpot).length ≤ 17592186044416 := by rw [List.length_map]; omega
    have hml2 : (l.map cvSpot).length = l.length := by simp
    obtain ⟨res, c, hi, hs, hb⟩ := moved_same (l.map cvSpot) hml y r d
    have hq := eqInt64_ev res (by omega)
    obtain ⟨b1, y1, m1, h1⟩ := markSpot_ev (l.map cvSpot) hml (a := 1) (by omega) (by omega)
    obtain ⟨b2, y2, m2, h2, h3, h4⟩ := markInt64_ev res (by omega) (a := 1) (by omega) (by omega)
    refine Ev.bind hto (Ev.bind hs (Ev.bind hto (Ev.bind hi (Ev.bind hq ?_))))
    simp only [if_true, bne_self_eq_false]
    refine ev_succ ?_
    simp only [laws_FnExactMovedStars.j0, Bool.false_eq_true, if_false]
    refine Ev.bind hto (Ev.bind (eqSpot_ev _ hml) ?_)
    simp only [if_true]
    refine Ev.bind m1 ?_
    simp only [if_neg (show ¬ b1 < 0 by omega)]
    refine Ev.bind hq ?_
    simp only [if_true, bne_self_eq_false]
    refine ev_succ ?_
    simp only [laws_FnExactMovedStars.j1, Bool.false_eq_true, if_false]
    refine Ev.bind m2 (Ev.bind h2 ?_)
    simp only [if_neg (show ¬ b2 < 0 by omega), if_true]
    refine Ev.bind hto (Ev.bind hi (Ev.bind hq ?_))
    simp only [if_true, bne_self_eq_false]
    refine ev_succ ?_
    simp only [laws_FnExactMovedStars.j2, Bool.false_eq_true, if_false]
    refine Ev.bind h2 ?_
    simp only [if_neg (show ¬ b2 < 0 by omega), if_true]
    exact ev_const rfl

end Go.Proofs.Ytoehbcdhplagfaa.Pure
