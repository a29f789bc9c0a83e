/- FnExactYearOfGlobe: the program's YearOfGlobe and the reference's come to the same, for all lists of spots and numbers: both run through the same years with the same sums. -/
import Derived.Test.YtoehbcdhplagfaaStatFnExactYearOfGlobe
namespace Go.Proofs.Ytoehbcdhplagfaa.Pure
open Go.RowKit Go.Proofs.Ytoehbcdhplagfaa.PFnExactYearOfGlobe Go.Proofs.YtoehbcdhplagfaaW.PrintWords Go.Proofs.YtoehbcdhplagfaaW.PrintLast Go.Proofs.YtoehbcdhplagfaaW.PrintMore
set_option linter.unusedVariables false
set_option linter.unusedSimpArgs false
theorem wfb {a : Int} (h : (Lit.int .i64 a).wf = true) : -9223372036854775808 ≤ a ∧ a ≤ 9223372036854775807 := by
  simpa [Lit.wf, IntKind.min, IntKind.max, IntKind.signed, IntKind.bits] using h
theorem w64 {x : Int} (h : -9223372036854775808 ≤ x) (h2 : x ≤ 9223372036854775807) : wrap64 x = x := by unfold wrap64; omega
theorem tdiv_nn {a b : Int} (h : 0 ≤ a) : Int.tdiv a b = a / b := Int.tdiv_eq_ediv_of_nonneg h
theorem tmod_nn {a b : Int} (h : 0 ≤ a) : Int.tmod a b = a % b := Int.tmod_eq_emod_of_nonneg h
theorem floor_val (a b : Int) (hb : 0 < b) : (if Int.tmod a b < 0 then Int.tdiv a b - 1 else Int.tdiv a b) = a / b := by
  have h1 := Int.mul_tdiv_add_tmod a b
  have hlt : Int.tmod a b < b := Int.tmod_lt_of_pos a hb
  have hgt : -b < Int.tmod a b := by
    have h2 := Int.tmod_lt_of_pos (-a) hb
    rw [Int.neg_tmod] at h2
    omega
  symm
  split
  · rename_i hneg
    refine ((Int.ediv_emod_unique hb (r := Int.tmod a b + b)).2 ⟨?_, by omega, by omega⟩).1
    rw [Int.mul_sub, Int.mul_one]
    omega
  · rename_i hneg
    exact ((Int.ediv_emod_unique hb (r := Int.tmod a b)).2 ⟨by omega, by omega, by omega⟩).1
theorem ediv_bd {a b : Int} (hb : 0 < b) (B : Int) (h0 : -B ≤ a) (h1 : a ≤ B) (hB : 0 ≤ B) : -B ≤ a / b ∧ a / b ≤ B := by
  constructor
  · rw [Int.le_ediv_iff_mul_le hb]
    have : B * 1 ≤ B * b := Int.mul_le_mul_of_nonneg_left (by omega) hB
    rw [Int.neg_mul]; omega
  · have h2 : a / b ≤ B / b := Int.ediv_le_ediv hb h1
    have h3 : B / b ≤ B := Int.ediv_le_self b hB
    omega
theorem ceil_alt (a b : Int) (hb : 0 < b) : (a + b - 1) / b = -((-a) / b) := by
  have h1 := Int.mul_ediv_add_emod (-a) b
  have h2 := Int.emod_nonneg (-a) (b := b) (by omega)
  have h3 := Int.emod_lt_of_pos (-a) hb
  refine ((Int.ediv_emod_unique hb (r := b - 1 - (-a) % b)).2 ⟨?_, by omega, by omega⟩).1
  rw [Int.mul_neg]
  omega

theorem ev_succ {α : Type} {g : Nat → Option α} {r : α} (h : Ev (fun k => g (k + 1)) r) : Ev g r := Ev.step (fun _ => rfl) h
theorem ev_const {α : Type} {g : Option α} {r : α} (h : g = some r) : Ev (fun _ => g) r := ⟨0, fun _ _ => h⟩
theorem ev_uniq {α : Type} {g : Nat → Option α} {a b : α} (h : Ev g a) (h' : Ev g b) : a = b := by
  obtain ⟨K, h⟩ := h
  obtain ⟨K', h'⟩ := h'
  have h1 := h (K + K') (by omega)
  rw [h' (K + K') (by omega)] at h1
  exact (Option.some.inj h1).symm

theorem in_val (a b c : Int) : spec_l00In.f a b c = some (decide (b ≤ a ∧ a ≤ c)) := by
  unfold spec_l00In.f
  by_cases h : a ≥ b <;> by_cases h2 : a ≤ c <;> simp [h, h2] <;> omega
theorem within_val (a b c : Int) : impl_within.f a b c = some (decide (b ≤ a ∧ a ≤ c)) := in_val a b c

/-- A valid spot. -/
def SpotP (a b : Int) : Prop := (-324000 ≤ a ∧ a ≤ 324000) ∧ (-648000 ≤ b ∧ b ≤ 647999)
instance (a b : Int) : Decidable (SpotP a b) := by unfold SpotP; infer_instance
theorem l02Ok_val (a b : Int) : spec_l02Ok.f a b = some (decide (SpotP a b)) := by
  unfold spec_l02Ok.f SpotP
  simp only [in_val, Option.bind_some]
  by_cases h : -324000 ≤ a ∧ a ≤ 324000
  · simp only [h, decide_true, if_true, true_and]
  · simp [h]

def RateP (y r : Int) : Prop := (0 ≤ y ∧ y ≤ 30000) ∧ (1 ≤ r ∧ r ≤ 100)
instance (a b : Int) : Decidable (RateP a b) := by unfold RateP; infer_instance
theorem l15Rate_val (y r : Int) : spec_l15Rate.f y r = some (decide (RateP y r)) := by
  unfold spec_l15Rate.f RateP
  simp only [in_val, Option.bind_some]
  by_cases h : 0 ≤ y ∧ y ≤ 30000
  · simp only [h, decide_true, if_true, true_and]
  · simp [h]
theorem iRate_val (r : Int) : impl_isRate.f r = some (decide (1 ≤ r ∧ r ≤ 100)) := by
  unfold impl_isRate.f
  simp only [within_val, Option.bind_some]

def codeV (ok rg : Prop) [Decidable ok] [Decidable rg] : Int := if ok then (if rg then 0 else 2) else 1
theorem check_val (ok rg : Prop) [Decidable ok] [Decidable rg] : impl_check.f (decide ok) (decide rg) = some (codeV ok rg) := by
  unfold impl_check.f codeV
  by_cases h : ok <;> by_cases h2 : rg <;> simp [h, h2]
theorem check_false (ok : Prop) [Decidable ok] : impl_check.f (decide ok) false = some (codeV ok False) := by
  unfold impl_check.f codeV
  by_cases h : ok <;> simp [h]
theorem codeV_zero (ok rg : Prop) [Decidable ok] [Decidable rg] : codeV ok rg = 0 ↔ (ok ∧ rg) := by
  unfold codeV
  by_cases h : ok <;> by_cases h2 : rg <;> simp [h, h2]

theorem tmod_bd (a : Int) {b : Int} (hb : 0 < b) : -b < Int.tmod a b ∧ Int.tmod a b < b ∧ b * Int.tdiv a b + Int.tmod a b = a := by
  have h1 := Int.mul_tdiv_add_tmod a b
  have hlt : Int.tmod a b < b := Int.tmod_lt_of_pos a hb
  have h2 := Int.tmod_lt_of_pos (-a) hb
  rw [Int.neg_tmod] at h2
  omega
theorem around_val (a : Int) : impl_around.f a = some (a % 1296000) := by
  unfold impl_around.f
  have h := tmod_bd a (show (0 : Int) < 1296000 by omega)
  rw [w64 (by omega) (by omega), tmod_nn (by omega)]
  congr 1
  omega

/-- The longitude of an angle. -/
def wrapV (a : Int) : Int := (a + 648000) % 1296000 - 648000
theorem wrapV_bd (a : Int) : -648000 ≤ wrapV a ∧ wrapV a ≤ 647999 := by unfold wrapV; omega
theorem iwrap_val {a : Int} (h0 : -4611686018427387904 ≤ a) (h1 : a ≤ 4611686018427387904) : impl_wrap.f a = some (wrapV a) := by
  unfold impl_wrap.f
  rw [w64 (x := a + 648000) (by omega) (by omega), around_val]
  simp only [Option.bind_some]
  rw [w64 (by omega) (by omega)]
  rfl

theorem swrap_val {a : Int} (h0 : -4611686018427387904 ≤ a) (h1 : a ≤ 4611686018427387904) : spec_l02Wrap.f a = some (wrapV a) := by
  unfold spec_l02Wrap.f wrapV
  rw [w64 (x := a + 648000) (by omega) (by omega)]
  have h := tmod_bd (a + 648000) (show (0 : Int) < 1296000 by omega)
  split
  · rw [w64 (x := Int.tmod (a + 648000) 1296000 + 1296000) (by omega) (by omega), w64 (by omega) (by omega)]
    congr 1; omega
  · rw [w64 (by omega) (by omega)]
    congr 1; omega

theorem mul_bd {y r : Int} (h : RateP y r) : 0 ≤ y * r ∧ y * r ≤ 3000000 := by
  obtain ⟨⟨h1, h2⟩, h3, h4⟩ := h
  refine ⟨Int.mul_nonneg h1 (by omega), ?_⟩
  have : y * r ≤ 30000 * 100 := Int.mul_le_mul h2 h4 (by omega) (by omega)
  omega

theorem rd_T36_at (l : List S36) (i : Nat) (h : i < l.length) : rd_T36 l (i : Int) = l[i] := by
  unfold rd_T36
  rw [Int.toNat_natCast, List.getD_eq_getElem?_getD, List.getElem?_eq_getElem h]
  rfl

theorem rd_T37_at (l : List S37) (i : Nat) (h : i < l.length) : rd_T37 l (i : Int) = l[i] := by
  unfold rd_T37
  rw [Int.toNat_natCast, List.getD_eq_getElem?_getD, List.getElem?_eq_getElem h]
  rfl

def cvSpot (x : S36) : S37 := ⟨x.f0, x.f1⟩
theorem take_set_Spot (x : List S37) (i : Nat) (v : S37) (h : i < x.length) : (x.set i v).take (i + 1) = x.take i ++ [v] := by
  rw [List.take_succ_eq_append_getElem (by simpa using h), List.getElem_set_self, List.take_set_of_le (Nat.le_refl _)]
theorem toSpot_l (l : List S36) (hl : l.length ≤ 17592186044416) (d : Nat) : ∀ (x : List S37) (i : Nat), i ≤ l.length → l.length - i = d → x.length = l.length → x.take i = (l.map cvSpot).take i → Ev (fun k => laws_toSpotS.l0 k l x i) (l.map cvSpot) := by
  induction d with
  | zero =>
    intro x i hi hd hx ht
    apply ev_succ
    simp only [laws_toSpotS.l0]
    rw [List.take_of_length_le (by omega), List.take_of_length_le (by simp; omega)] at ht
    simp only [if_neg (show ¬ (i : Int) < (l.length : Int) by omega)]
    rw [ht]
    exact ev_const rfl
  | succ d ih =>
    intro x i hi hd hx ht
    have hlt : i < l.length := by omega
    apply ev_succ
    simp only [laws_toSpotS.l0, laws_toSpot.f, Option.bind_some, if_pos (show (i : Int) < (l.length : Int) by omega), if_pos (show (0 : Int) ≤ (i : Int) by omega), if_pos (show (i : Int) < (x.length : Int) by omega), rd_T36_at _ _ hlt, w64 (x := (i : Int) + 1) (by omega) (by omega), Int.toNat_natCast]
    exact ih (x.set i (cvSpot l[i])) (i + 1) (by omega) (by omega) (by simpa using hx) (by rw [take_set_Spot _ _ _ (by omega), List.take_succ_eq_append_getElem (by simpa using hlt), ht, List.getElem_map])
theorem toSpot_ev (l : List S36) (hl : l.length ≤ 17592186044416) : Ev (fun k => laws_toSpotS.f k l) (l.map cvSpot) := by
  unfold laws_toSpotS.f
  simp only [if_pos (show (0 : Int) ≤ (l.length : Int) by omega), if_pos (show ((l.length : Int)).toNat ≤ 17592186044416 by omega)]
  exact toSpot_l l hl l.length _ 0 (by omega) (by omega) (by simp) (by simp)

theorem eqSpot_l (x : List S37) (hl : x.length ≤ 17592186044416) (d : Nat) : ∀ (i : Nat), i ≤ x.length → x.length - i = d → Ev (fun k => laws_eqSpotS.l0 k x x i) true := by
  induction d with
  | zero =>
    intro i hi hd
    apply ev_succ
    simp only [laws_eqSpotS.l0, if_neg (show ¬ (i : Int) < (x.length : Int) by omega)]
    exact ev_const rfl
  | succ d ih =>
    intro i hi hd
    apply ev_succ
    simp only [laws_eqSpotS.l0, laws_eqSpot.f, if_true, Option.bind_some, if_pos (show (i : Int) < (x.length : Int) by omega), if_pos (show (0 : Int) ≤ (i : Int) by omega), w64 (x := (i : Int) + 1) (by omega) (by omega)]
    exact ih (i + 1) (by omega) (by omega)
theorem eqSpot_ev (x : List S37) (hl : x.length ≤ 17592186044416) : Ev (fun k => laws_eqSpotS.f k x x) true := by
  unfold laws_eqSpotS.f
  simp only [if_true]
  exact eqSpot_l x hl x.length 0 (by omega) (by omega)

theorem szSpot_val (l : List S36) (hl : l.length ≤ maxLen) {a : Int} (h0 : 0 ≤ a) (h1 : a ≤ 1048576) : laws_szSpotS.f l a = some (-1) ∨ (laws_szSpotS.f l a = some (a - l.length) ∧ 0 ≤ a - l.length) := by
  unfold maxLen at hl
  unfold laws_szSpotS.f
  rw [w64 (x := a - (l.length : Int)) (by omega) (by omega)]
  by_cases h : a - (l.length : Int) < 0
  · left; rw [if_pos h]
  · right; rw [if_neg h]; exact ⟨rfl, by omega⟩

def AllSpots (l : List S37) : Prop := ∀ x ∈ l, SpotP x.f0 x.f1
theorem areSpots_val (l : List S37) [Decidable (AllSpots l)] : impl_areSpots.f l = some (decide (AllSpots l)) := by
  unfold impl_areSpots.f
  congr 1
  rw [Bool.eq_iff_iff, decide_eq_true_iff, Bool.not_eq_true', List.any_eq_false]
  unfold AllSpots spotBad SpotP
  constructor
  · intro h x hx
    have := h x hx
    simpa using this
  · intro h x hx
    have := h x hx
    simpa using this

theorem l15Stars_l (l : List S37) (hl : l.length ≤ 17592186044416) (y r : Int) (d : Nat) : ∀ (i : Nat), i ≤ l.length → l.length - i = d →
    (∀ (j : Nat) (h : j < l.length), j < i → SpotP l[j].f0 l[j].f1) → ∃ c, Ev (fun k => spec_l15Stars.l0 k l y r i) c ∧ ((AllSpots l ∧ c = (if RateP y r ∧ l.length ≤ 12 then 0 else 2)) ∨ (¬ AllSpots l ∧ c = 1)) := by
  induction d with
  | zero =>
    intro i hi hd hj
    refine ⟨if RateP y r ∧ l.length ≤ 12 then 0 else 2, ev_succ ?_, .inl ⟨?_, rfl⟩⟩
    · simp only [spec_l15Stars.l0, l15Rate_val, Option.bind_some, if_neg (show ¬ (i : Int) < (l.length : Int) by omega)]
      refine ev_const ?_
      by_cases h1 : RateP y r
      · simp only [h1, decide_true, if_true, true_and]
        by_cases h2 : l.length ≤ 12
        · rw [if_pos h2, if_neg (by omega)]
        · rw [if_neg h2, if_pos (by omega)]
      · simp [h1]
    · intro x hx
      obtain ⟨j, hj2, rfl⟩ := List.getElem_of_mem hx
      exact hj j hj2 (by omega)
  | succ d ih =>
    intro i hi hd hj
    have hlt : i < l.length := by omega
    by_cases h : SpotP l[i].f0 l[i].f1
    · obtain ⟨c, e, hc⟩ := ih (i + 1) (by omega) (by omega) (fun j hj2 hlt2 => by
        by_cases e : j = i
        · subst e; exact h
        · exact hj j hj2 (by omega))
      refine ⟨c, ev_succ ?_, hc⟩
      simp only [spec_l15Stars.l0, l02Ok_val, Option.bind_some, if_pos (show (i : Int) < (l.length : Int) by omega), if_pos (show (0 : Int) ≤ (i : Int) by omega), rd_T37_at _ _ hlt, if_pos (decide_eq_true h), w64 (x := (i : Int) + 1) (by omega) (by omega)]
      exact e
    · refine ⟨1, ev_succ ?_, .inr ⟨fun ha => h (ha _ (List.getElem_mem hlt)), rfl⟩⟩
      simp only [spec_l15Stars.l0, l02Ok_val, Option.bind_some, if_pos (show (i : Int) < (l.length : Int) by omega), if_pos (show (0 : Int) ≤ (i : Int) by omega), rd_T37_at _ _ hlt, if_neg (show ¬ decide (SpotP l[i].f0 l[i].f1) = true by simpa using h)]
      exact ev_const rfl
theorem l15Stars_ev (l : List S37) [Decidable (AllSpots l)] (hl : l.length ≤ 17592186044416) (y r : Int) : Ev (fun k => spec_l15Stars.f k l y r) (codeV (AllSpots l) (RateP y r ∧ l.length ≤ 12)) := by
  obtain ⟨c, e, h⟩ := l15Stars_l l hl y r l.length 0 (by omega) (by omega) (fun j _ hj => by omega)
  unfold spec_l15Stars.f
  have hc : c = codeV (AllSpots l) (RateP y r ∧ l.length ≤ 12) := by
    unfold codeV
    rcases h with ⟨h1, rfl⟩ | ⟨h1, rfl⟩
    · simp [h1]
    · simp [h1]
  rw [← hc]
  exact e

def absV (a : Int) : Int := if a < 0 then -a else a
theorem ssize_val {a : Int} (h0 : -4611686018427387904 ≤ a) (h1 : a ≤ 4611686018427387904) : spec_l00Size.f a = some (absV a) := by
  unfold spec_l00Size.f absV
  split
  · rw [w64 (by omega) (by omega)]
  · rfl
theorem apart_val {a b : Int} (h0 : -1000000000000 ≤ b - a) (h1 : b - a ≤ 1000000000000) : spec_l15Apart.f a b = some (absV (wrapV (b - a))) := by
  have hb := wrapV_bd (b - a)
  unfold spec_l15Apart.f
  rw [w64 (x := b - a) (by omega) (by omega), swrap_val (by omega) (by omega)]
  simp only [Option.bind_some]
  rw [ssize_val (by omega) (by omega)]
  rfl
theorem iabs_val {a : Int} (h0 : -4611686018427387904 ≤ a) (h1 : a ≤ 4611686018427387904) : impl_absolute.f a = some (absV a) := by
  unfold impl_absolute.f absV mx
  rw [w64 (by omega) (by omega)]
  congr 1
  split <;> split <;> omega

/-- The same rounds on both sides: one year's sum. -/
theorem yog_in (l m : List S37) (hl : l.length ≤ 12) (hm : m.length = l.length) (hs : AllSpots l) (hs2 : AllSpots m) {r : Int} (hr : 1 ≤ r ∧ r ≤ 100) (best least yr : Int) (hy : 0 ≤ yr ∧ yr ≤ 30000)
    (hnext : ∀ s : Int, ∃ q, Ev (fun k => (if least < 0 then impl_YearOfGlobe.l0 k l m r yr s (wrap64 (yr + 10)) else (if s < least then impl_YearOfGlobe.l0 k l m r yr s (wrap64 (yr + 10)) else impl_YearOfGlobe.l0 k l m r best least (wrap64 (yr + 10))))) q ∧
      Ev (fun k => (if least < 0 then spec_YearOfGlobe.l0 k l m r yr s (wrap64 (yr + 10)) else (if s < least then spec_YearOfGlobe.l0 k l m r yr s (wrap64 (yr + 10)) else spec_YearOfGlobe.l0 k l m r best least (wrap64 (yr + 10))))) q) (d : Nat) :
    ∀ (s : Int) (i : Nat), i ≤ l.length → l.length - i = d → ∃ q, Ev (fun k => impl_YearOfGlobe.l1 k l m r best least yr s l (l.length : Int) i) q ∧ Ev (fun k => spec_YearOfGlobe.l1 k l m r best least yr s i) q := by
  induction d with
  | zero =>
    intro s i hi hd
    obtain ⟨q, h1, h2⟩ := hnext s
    refine ⟨q, ev_succ ?_, ev_succ ?_⟩
    · simp only [impl_YearOfGlobe.l1, if_neg (show ¬ (i : Int) < (l.length : Int) by omega)]; exact h1
    · simp only [spec_YearOfGlobe.l1, if_neg (show ¬ (i : Int) < (l.length : Int) by omega)]; exact h2
  | succ d ih =>
    intro s i hi hd
    have hlt : i < l.length := by omega
    have hlt2 : i < m.length := by omega
    have h1 := (hs _ (List.getElem_mem hlt)).2
    have h2 := (hs2 _ (List.getElem_mem hlt2)).2
    have hyr := mul_bd (y := yr) (r := r) ⟨hy, hr⟩
    have hb := wrapV_bd (m[i].f1 - l[i].f1 - yr * r)
    have e1 : impl_wrap.f (wrap64 ((wrap64 (m[i].f1 - l[i].f1)) - (wrap64 (yr * r)))) = some (wrapV (m[i].f1 - l[i].f1 - yr * r)) := by
      rw [w64 (x := yr * r) (by omega) (by omega), w64 (x := m[i].f1 - l[i].f1) (by omega) (by omega), w64 (x := m[i].f1 - l[i].f1 - yr * r) (by omega) (by omega), iwrap_val (by omega) (by omega)]
    have e2 : impl_absolute.f (wrapV (m[i].f1 - l[i].f1 - yr * r)) = some (absV (wrapV (m[i].f1 - l[i].f1 - yr * r))) := iabs_val (by omega) (by omega)
    have e3 : spec_l15Apart.f (wrap64 (l[i].f1 + wrap64 (yr * r))) m[i].f1 = some (absV (wrapV (m[i].f1 - l[i].f1 - yr * r))) := by
      rw [w64 (x := yr * r) (by omega) (by omega), w64 (x := l[i].f1 + yr * r) (by omega) (by omega), apart_val (by omega) (by omega), show m[i].f1 - (l[i].f1 + yr * r) = m[i].f1 - l[i].f1 - yr * r from by omega]
    obtain ⟨q, h3, h4⟩ := ih (wrap64 (s + absV (wrapV (m[i].f1 - l[i].f1 - yr * r)))) (i + 1) (by omega) (by omega)
    refine ⟨q, ev_succ ?_, ev_succ ?_⟩
    · simp only [impl_YearOfGlobe.l1, if_pos (show (i : Int) < (l.length : Int) by omega), if_pos (show (0 : Int) ≤ (i : Int) by omega), if_pos (show (i : Int) < (m.length : Int) by omega), rd_T37_at _ _ hlt, rd_T37_at _ _ hlt2, e1, e2, Option.bind_some, w64 (x := (i : Int) + 1) (by omega) (by omega)]
      exact h3
    · simp only [spec_YearOfGlobe.l1, if_pos (show (i : Int) < (l.length : Int) by omega), if_pos (show (0 : Int) ≤ (i : Int) by omega), if_pos (show (i : Int) < (m.length : Int) by omega), rd_T37_at _ _ hlt, rd_T37_at _ _ hlt2, e3, Option.bind_some, w64 (x := (i : Int) + 1) (by omega) (by omega)]
      exact h4
theorem yog_out (l m : List S37) (hl : l.length ≤ 12) (hm : m.length = l.length) (hs : AllSpots l) (hs2 : AllSpots m) {r : Int} (hr : 1 ≤ r ∧ r ≤ 100) (d : Nat) :
    ∀ (best least yr : Int), 0 ≤ yr → 30001 - yr ≤ d → yr ≤ 30010 → ∃ q, Ev (fun k => impl_YearOfGlobe.l0 k l m r best least yr) q ∧ Ev (fun k => spec_YearOfGlobe.l0 k l m r best least yr) q := by
  induction d with
  | zero =>
    intro best least yr h0 hd hb
    refine ⟨(best, least, 0), ev_succ ?_, ev_succ ?_⟩
    · simp only [impl_YearOfGlobe.l0, if_neg (show ¬ yr ≤ 30000 by omega)]; exact ev_const rfl
    · simp only [spec_YearOfGlobe.l0, if_neg (show ¬ yr ≤ 30000 by omega)]; exact ev_const rfl
  | succ d ih =>
    intro best least yr h0 hd hb
    by_cases hle : yr ≤ 30000
    · have hnext : ∀ s : Int, ∃ q, Ev (fun k => (if least < 0 then impl_YearOfGlobe.l0 k l m r yr s (wrap64 (yr + 10)) else (if s < least then impl_YearOfGlobe.l0 k l m r yr s (wrap64 (yr + 10)) else impl_YearOfGlobe.l0 k l m r best least (wrap64 (yr + 10))))) q ∧
          Ev (fun k => (if least < 0 then spec_YearOfGlobe.l0 k l m r yr s (wrap64 (yr + 10)) else (if s < least then spec_YearOfGlobe.l0 k l m r yr s (wrap64 (yr + 10)) else spec_YearOfGlobe.l0 k l m r best least (wrap64 (yr + 10))))) q := by
        intro s
        rw [w64 (x := yr + 10) (by omega) (by omega)]
        by_cases hn : least < 0
        · simp only [if_pos hn]; exact ih _ _ _ (by omega) (by omega) (by omega)
        · simp only [if_neg hn]
          by_cases hs3 : s < least
          · simp only [if_pos hs3]; exact ih _ _ _ (by omega) (by omega) (by omega)
          · simp only [if_neg hs3]; exact ih _ _ _ (by omega) (by omega) (by omega)
      obtain ⟨q, h1, h2⟩ := yog_in l m hl hm hs hs2 hr best least yr ⟨h0, hle⟩ hnext l.length 0 0 (by omega) (by omega)
      refine ⟨q, ev_succ ?_, ev_succ ?_⟩
      · simp only [impl_YearOfGlobe.l0, if_pos hle]; exact h1
      · simp only [spec_YearOfGlobe.l0, if_pos hle]; exact h2
    · refine ⟨(best, least, 0), ev_succ ?_, ev_succ ?_⟩
      · simp only [impl_YearOfGlobe.l0, if_neg hle]; exact ev_const rfl
      · simp only [spec_YearOfGlobe.l0, if_neg hle]; exact ev_const rfl
theorem rate01 : RateP 0 1 := by decide
theorem yog_code (l m : List S37) (r c : Int) (h : c ≠ 0) : Ev (fun k => impl_YearOfGlobe.j0 k l m r c) (0, 0, c) := by
  refine ev_succ ?_
  simp only [impl_YearOfGlobe.j0, if_neg h]; exact ev_const rfl
theorem yog_two (l m : List S37) (r : Int) : Ev (fun k => spec_YearOfGlobe.j1 k l m r true) (0, 0, 2) := by
  refine ev_succ ?_
  simp only [spec_YearOfGlobe.j1, if_true]; exact ev_const rfl
theorem l15Stars_code (l : List S37) (hl : l.length ≤ 17592186044416) : (AllSpots l ∧ l.length ≤ 12 ∧ Ev (fun k => spec_l15Stars.f k l 0 1) 0) ∨ (AllSpots l ∧ ¬ l.length ≤ 12 ∧ Ev (fun k => spec_l15Stars.f k l 0 1) 2) ∨ (¬ AllSpots l ∧ Ev (fun k => spec_l15Stars.f k l 0 1) 1) := by
  classical
  have h := l15Stars_ev l hl 0 1
  by_cases hs : AllSpots l
  · by_cases hn : l.length ≤ 12
    · left
      simp only [codeV, hs, rate01, hn, if_true, and_self] at h
      exact ⟨hs, hn, h⟩
    · right; left
      simp only [codeV, hs, rate01, hn, if_true, and_false, if_false] at h
      exact ⟨hs, hn, h⟩
  · right; right
    simp only [codeV, hs, if_false] at h
    exact ⟨hs, h⟩
theorem yog_same (l m : List S37) (hl : l.length ≤ 17592186044416) (hm : m.length ≤ 17592186044416) (r : Int) : ∃ q, Ev (fun k => impl_YearOfGlobe.f k l m r) q ∧ Ev (fun k => spec_YearOfGlobe.f k l m r) q := by
  classical
  unfold impl_YearOfGlobe.f spec_YearOfGlobe.f
  simp only [areSpots_val, iRate_val, Option.bind_some]
  rcases l15Stars_code l hl with ⟨hs, hn, e⟩ | ⟨hs, hn, e⟩ | ⟨hs, e⟩
  · rcases l15Stars_code m hm with ⟨hs2, hn2, e2⟩ | ⟨hs2, hn2, e2⟩ | ⟨hs2, e2⟩
    · by_cases hr : 1 ≤ r ∧ r ≤ 100
      · by_cases hlen : l.length = m.length
        · have hspec : ∀ q, Ev (fun k => spec_YearOfGlobe.j1 k l m r false) q → Ev (fun k => (spec_l15Stars.f k l 0 1).bind fun t => (spec_l15Stars.f k m 0 1).bind fun u => if t = 1 then spec_YearOfGlobe.j0 k l m r t u true else spec_YearOfGlobe.j0 k l m r t u (u == 1)) q := by
            intro q hq
            refine Ev.bind e (Ev.bind e2 ?_)
            simp only [show ¬ ((0 : Int) = 1) from by omega, if_false, show ((0 : Int) == 1) = false from rfl]
            refine ev_succ ?_
            simp only [spec_YearOfGlobe.j0, Bool.false_eq_true, if_false, if_true, l15Rate_val, show RateP 0 r from ⟨⟨by omega, by omega⟩, hr⟩, decide_true, Option.bind_some, show ((l.length : Int) != (m.length : Int)) = false from by rw [bne_eq_false_iff_eq]; omega]
            exact hq
          have himpl : ∀ q, Ev (fun k => impl_YearOfGlobe.j0 k l m r 0) q → Ev (fun k => if decide (AllSpots l) = true then (if decide (1 ≤ r ∧ r ≤ 100) = true then (if (l.length : Int) ≤ 12 then ((impl_check.f (decide (AllSpots m)) ((l.length : Int) == (m.length : Int))).bind fun t => impl_YearOfGlobe.j0 k l m r t) else ((impl_check.f (decide (AllSpots m)) false).bind fun t => impl_YearOfGlobe.j0 k l m r t)) else ((impl_check.f (decide (AllSpots m)) false).bind fun t => impl_YearOfGlobe.j0 k l m r t)) else (if decide (1 ≤ r ∧ r ≤ 100) = true then (if (l.length : Int) ≤ 12 then ((impl_check.f false ((l.length : Int) == (m.length : Int))).bind fun t => impl_YearOfGlobe.j0 k l m r t) else ((impl_check.f false false).bind fun t => impl_YearOfGlobe.j0 k l m r t)) else ((impl_check.f false false).bind fun t => impl_YearOfGlobe.j0 k l m r t))) q := by
            intro q hq
            simp only [hs, hs2, hr, decide_true, if_true, and_self, show (l.length : Int) ≤ 12 from by omega, show ((l.length : Int) == (m.length : Int)) = true from by rw [beq_iff_eq]; omega, impl_check.f, Option.bind_some]
            exact hq
          by_cases hz : l.length = 0
          · refine ⟨(0, 0, 3), himpl _ (ev_succ ?_), hspec _ (ev_succ ?_)⟩
            · simp only [impl_YearOfGlobe.j0, if_true, if_pos (show (l.length : Int) = 0 by omega)]; exact ev_const rfl
            · simp only [spec_YearOfGlobe.j1, Bool.false_eq_true, if_false, if_pos (show (l.length : Int) = 0 by omega)]; exact ev_const rfl
          · obtain ⟨q, h1, h2⟩ := yog_out l m hn hlen.symm hs hs2 hr 30001 0 (-1) 0 (by omega) (by omega) (by omega)
            refine ⟨q, himpl _ (ev_succ ?_), hspec _ (ev_succ ?_)⟩
            · simp only [impl_YearOfGlobe.j0, if_true, if_neg (show ¬ (l.length : Int) = 0 by omega)]; exact h1
            · simp only [spec_YearOfGlobe.j1, Bool.false_eq_true, if_false, if_neg (show ¬ (l.length : Int) = 0 by omega)]; exact h2
        · refine ⟨(0, 0, 2), ?_, Ev.bind e (Ev.bind e2 ?_)⟩
          · simp only [hs, hs2, hr, decide_true, if_true, and_self, show (l.length : Int) ≤ 12 from by omega, show ((l.length : Int) == (m.length : Int)) = false from by rw [beq_eq_false_iff_ne]; omega, impl_check.f, Option.bind_some, Bool.false_eq_true, if_false]
            exact yog_code l m r 2 (by omega)
          · simp only [show ¬ ((0 : Int) = 1) from by omega, if_false, show ((0 : Int) == 1) = false from rfl]
            refine ev_succ ?_
            simp only [spec_YearOfGlobe.j0, Bool.false_eq_true, if_false, if_true, l15Rate_val, show RateP 0 r from ⟨⟨by omega, by omega⟩, hr⟩, decide_true, Option.bind_some, show ((l.length : Int) != (m.length : Int)) = true from by rw [bne_iff_ne]; omega]
            exact yog_two l m r
      · refine ⟨(0, 0, 2), ?_, Ev.bind e (Ev.bind e2 ?_)⟩
        · simp only [hs, hs2, hr, decide_true, decide_false, if_true, impl_check.f, Option.bind_some, Bool.false_eq_true, if_false]
          exact yog_code l m r 2 (by omega)
        · simp only [show ¬ ((0 : Int) = 1) from by omega, if_false, show ((0 : Int) == 1) = false from rfl]
          refine ev_succ ?_
          simp only [spec_YearOfGlobe.j0, Bool.false_eq_true, if_false, if_true, l15Rate_val, show ¬ RateP 0 r from fun h => hr h.2, decide_false, Option.bind_some]
          exact yog_two l m r
    · refine ⟨(0, 0, 2), ?_, Ev.bind e (Ev.bind e2 ?_)⟩
      · by_cases hr : 1 ≤ r ∧ r ≤ 100
        · simp only [hs, hs2, hr, decide_true, if_true, and_self, show (l.length : Int) ≤ 12 from by omega, show ((l.length : Int) == (m.length : Int)) = false from by rw [beq_eq_false_iff_ne]; omega, impl_check.f, Option.bind_some, Bool.false_eq_true, if_false]
          exact yog_code l m r 2 (by omega)
        · simp only [hs, hs2, hr, decide_true, decide_false, if_true, impl_check.f, Option.bind_some, Bool.false_eq_true, if_false]
          exact yog_code l m r 2 (by omega)
      · simp only [show ¬ ((0 : Int) = 1) from by omega, if_false, show ((2 : Int) == 1) = false from rfl]
        refine ev_succ ?_
        simp only [spec_YearOfGlobe.j0, Bool.false_eq_true, if_false, if_true, show ¬ ((2 : Int) = 0) from by omega]
        exact yog_two l m r
    · refine ⟨(0, 0, 1), ?_, Ev.bind e (Ev.bind e2 ?_)⟩
      · simp only [hs, hs2, decide_true, decide_false, if_true, impl_check.f, Option.bind_some, Bool.false_eq_true, if_false]
        have h1 := yog_code l m r 1 (by omega)
        repeat' split
        all_goals exact h1
      · simp only [show ¬ ((0 : Int) = 1) from by omega, if_false, show ((1 : Int) == 1) = true from rfl]
        refine ev_succ ?_
        simp only [spec_YearOfGlobe.j0, if_true]; exact ev_const rfl
  · rcases l15Stars_code m hm with ⟨hs2, hn2, e2⟩ | ⟨hs2, hn2, e2⟩ | ⟨hs2, e2⟩
    all_goals try
      · refine ⟨(0, 0, 2), ?_, Ev.bind e (Ev.bind e2 ?_)⟩
        · simp only [hs, hs2, decide_true, if_true, show ¬ (l.length : Int) ≤ 12 from by omega, impl_check.f, Option.bind_some, Bool.false_eq_true, if_false]
          have h1 := yog_code l m r 2 (by omega)
          repeat' split
          all_goals exact h1
        · simp only [show ¬ ((2 : Int) = 1) from by omega, if_false, show ((0 : Int) == 1) = false from rfl, show ((2 : Int) == 1) = false from rfl]
          refine ev_succ ?_
          simp only [spec_YearOfGlobe.j0, Bool.false_eq_true, if_false, show ¬ ((2 : Int) = 0) from by omega]
          exact yog_two l m r
    refine ⟨(0, 0, 1), ?_, Ev.bind e (Ev.bind e2 ?_)⟩
    · simp only [hs, hs2, decide_true, decide_false, if_true, impl_check.f, Option.bind_some, Bool.false_eq_true, if_false]
      have h1 := yog_code l m r 1 (by omega)
      repeat' split
      all_goals exact h1
    · simp only [show ¬ ((2 : Int) = 1) from by omega, if_false, show ((1 : Int) == 1) = true from rfl]
      refine ev_succ ?_
      simp only [spec_YearOfGlobe.j0, if_true]; exact ev_const rfl
  · have hspec : ∀ u, Ev (fun k => spec_l15Stars.f k m 0 1) u → Ev (fun k => (spec_l15Stars.f k l 0 1).bind fun t => (spec_l15Stars.f k m 0 1).bind fun u => if t = 1 then spec_YearOfGlobe.j0 k l m r t u true else spec_YearOfGlobe.j0 k l m r t u (u == 1)) (0, 0, 1) := by
      intro u hu
      refine Ev.bind e (Ev.bind hu ?_)
      simp only [if_true]
      refine ev_succ ?_
      simp only [spec_YearOfGlobe.j0, if_true]; exact ev_const rfl
    refine ⟨(0, 0, 1), ?_, ?_⟩
    · simp only [hs, decide_false, impl_check.f, Option.bind_some, Bool.false_eq_true, if_false]
      have h1 := yog_code l m r 1 (by omega)
      repeat' split
      all_goals exact h1
    · rcases l15Stars_code m hm with ⟨_, _, e2⟩ | ⟨_, _, e2⟩ | ⟨_, e2⟩
      · exact hspec _ e2
      · exact hspec _ e2
      · exact hspec _ e2

theorem FnExactYearOfGlobe : laws_FnExactYearOfGlobe.Pure := by
  intro l m r hl hw hm hw2 _
  apply Ev.rounds
  unfold laws_FnExactYearOfGlobe.f
  rcases szSpot_val l hl (a := 1048576) (by omega) (by omega) with e | ⟨e, e1⟩
  · simp only [e, Option.bind_some]; exact ev_const rfl
  · simp only [e, Option.bind_some, if_neg (show ¬ (1048576 - (l.length : Int) < 0) by omega)]
    rcases szSpot_val m hm (a := 1048576 - l.length) (by omega) (by omega) with e2 | ⟨e2, e3⟩
    · simp only [e2, Option.bind_some]; exact ev_const rfl
    · simp only [e2, Option.bind_some, if_neg (show ¬ (1048576 - (l.length : Int) - (m.length : Int) < 0) by omega)]
      have hto := toSpot_ev l (by omega)
      have hto2 := toSpot_ev m (by omega)
      have hml : (l.map cvSpot).length ≤ 17592186044416 := by rw [List.length_map]; omega
      have hmm : (m.map cvSpot).length ≤ 17592186044416 := by rw [List.length_map]; omega
      obtain ⟨q, hi, hs⟩ := yog_same (l.map cvSpot) (m.map cvSpot) hml hmm r
      refine Ev.bind hto (Ev.bind hto2 (Ev.bind hs (Ev.bind hto (Ev.bind hto2 (Ev.bind hi ?_)))))
      simp only [if_true, bne_self_eq_false]
      refine ev_succ ?_
      simp only [laws_FnExactYearOfGlobe.j0, Bool.false_eq_true, if_false]
      refine Ev.bind hto (Ev.bind (eqSpot_ev _ hml) ?_)
      simp only [if_true]
      refine Ev.bind hto2 (Ev.bind (eqSpot_ev _ hmm) ?_)
      simp only [if_true]
      exact ev_const rfl

end Go.Proofs.Ytoehbcdhplagfaa.Pure
