/- FnCarried: for all bytes: a star that is carried and carried back is where it was, RoundYears is the least number of years for a turn, FirstYear the least number of years to a longitude, and a star has moved unless the angle is a whole number of turns. -/
import Derived.Test.YtoehbcdhplagfaaPFnCarriedx5
namespace Go.Proofs.Ytoehbcdhplagfaa.Pure
open Go.RowKit Go.Proofs.Ytoehbcdhplagfaa.PFnCarried Go.Proofs.YtoehbcdhplagfaaW.PrintWords Go.Proofs.YtoehbcdhplagfaaW.PrintLast Go.Proofs.YtoehbcdhplagfaaW.PrintMore
set_option linter.unusedVariables false
set_option linter.unusedSimpArgs false
theorem wfb {a : Int} (h : (Lit.int .i64 a).wf = true) : -9223372036854775808 ≤ a ∧ a ≤ 9223372036854775807 := by
  simpa [Lit.wf, IntKind.min, IntKind.max, IntKind.signed, IntKind.bits] using h
theorem w64 {x : Int} (h : -9223372036854775808 ≤ x) (h2 : x ≤ 9223372036854775807) : wrap64 x = x := by unfold wrap64; omega
theorem tdiv_nn {a b : Int} (h : 0 ≤ a) : Int.tdiv a b = a / b := Int.tdiv_eq_ediv_of_nonneg h
theorem tmod_nn {a b : Int} (h : 0 ≤ a) : Int.tmod a b = a % b := Int.tmod_eq_emod_of_nonneg h
theorem floor_val (a b : Int) (hb : 0 < b) : (if Int.tmod a b < 0 then Int.tdiv a b - 1 else Int.tdiv a b) = a / b := by
  have h1 := Int.mul_tdiv_add_tmod a b
  have hlt : Int.tmod a b < b := Int.tmod_lt_of_pos a hb
  have hgt : -b < Int.tmod a b := by
    have h2 := Int.tmod_lt_of_pos (-a) hb
    rw [Int.neg_tmod] at h2
    omega
  symm
  split
  · rename_i hneg
    refine ((Int.ediv_emod_unique hb (r := Int.tmod a b + b)).2 ⟨?_, by omega, by omega⟩).1
    rw [Int.mul_sub, Int.mul_one]
    omega
  · rename_i hneg
    exact ((Int.ediv_emod_unique hb (r := Int.tmod a b)).2 ⟨by omega, by omega, by omega⟩).1
theorem ediv_bd {a b : Int} (hb : 0 < b) (B : Int) (h0 : -B ≤ a) (h1 : a ≤ B) (hB : 0 ≤ B) : -B ≤ a / b ∧ a / b ≤ B := by
  constructor
  · rw [Int.le_ediv_iff_mul_le hb]
    have : B * 1 ≤ B * b := Int.mul_le_mul_of_nonneg_left (by omega) hB
    rw [Int.neg_mul]; omega
  · have h2 : a / b ≤ B / b := Int.ediv_le_ediv hb h1
    have h3 : B / b ≤ B := Int.ediv_le_self b hB
    omega
theorem ceil_alt (a b : Int) (hb : 0 < b) : (a + b - 1) / b = -((-a) / b) := by
  have h1 := Int.mul_ediv_add_emod (-a) b
  have h2 := Int.emod_nonneg (-a) (b := b) (by omega)
  have h3 := Int.emod_lt_of_pos (-a) hb
  refine ((Int.ediv_emod_unique hb (r := b - 1 - (-a) % b)).2 ⟨?_, by omega, by omega⟩).1
  rw [Int.mul_neg]
  omega

theorem ev_succ {α : Type} {g : Nat → Option α} {r : α} (h : Ev (fun k => g (k + 1)) r) : Ev g r := Ev.step (fun _ => rfl) h
theorem ev_const {α : Type} {g : Option α} {r : α} (h : g = some r) : Ev (fun _ => g) r := ⟨0, fun _ _ => h⟩
theorem ev_uniq {α : Type} {g : Nat → Option α} {a b : α} (h : Ev g a) (h' : Ev g b) : a = b := by
  obtain ⟨K, h⟩ := h
  obtain ⟨K', h'⟩ := h'
  have h1 := h (K + K') (by omega)
  rw [h' (K + K') (by omega)] at h1
  exact (Option.some.inj h1).symm

theorem floorDiv_val {a b : Int} (hb : 0 < b) (h0 : -4611686018427387904 ≤ a) (h1 : a ≤ 4611686018427387904) : impl_floorDiv.f a b = some (a / b) := by
  have hv := floor_val a b hb
  have hbd := ediv_bd hb 4611686018427387904 h0 h1 (by omega)
  unfold impl_floorDiv.f
  rw [if_neg (by omega)]
  split
  · rename_i hn
    rw [if_pos hn] at hv
    rw [w64 (x := Int.tdiv a b) (by omega) (by omega), w64 (by omega) (by omega), hv]
  · rename_i hn
    rw [if_neg hn] at hv
    rw [w64 (by omega) (by omega), hv]

theorem ceilDiv_val {a b : Int} (hb : 0 < b) (h0 : -4611686018427387904 ≤ a) (h1 : a ≤ 4611686018427387904) : impl_ceilDiv.f a b = some (-((-a) / b)) := by
  have hbd := ediv_bd (a := -a) hb 4611686018427387904 (by omega) (by omega) (by omega)
  unfold impl_ceilDiv.f
  rw [w64 (x := -a) (by omega) (by omega), floorDiv_val hb (by omega) (by omega)]
  simp only [Option.bind_some]
  rw [w64 (by omega) (by omega)]

theorem in_val (a b c : Int) : spec_l00In.f a b c = some (decide (b ≤ a ∧ a ≤ c)) := by
  unfold spec_l00In.f
  by_cases h : a ≥ b <;> by_cases h2 : a ≤ c <;> simp [h, h2] <;> omega
theorem within_val (a b c : Int) : impl_within.f a b c = some (decide (b ≤ a ∧ a ≤ c)) := in_val a b c

/-- A valid spot. -/
def SpotP (a b : Int) : Prop := (-324000 ≤ a ∧ a ≤ 324000) ∧ (-648000 ≤ b ∧ b ≤ 647999)
instance (a b : Int) : Decidable (SpotP a b) := by unfold SpotP; infer_instance
theorem l02Ok_val (a b : Int) : spec_l02Ok.f a b = some (decide (SpotP a b)) := by
  unfold spec_l02Ok.f SpotP
  simp only [in_val, Option.bind_some]
  by_cases h : -324000 ≤ a ∧ a ≤ 324000
  · simp only [h, decide_true, if_true, true_and]
  · simp [h]

theorem iValidSpot_val (a b : Int) : impl_ValidSpot.f a b = some (decide (SpotP a b)) := by
  unfold impl_ValidSpot.f SpotP
  simp only [within_val, Option.bind_some]
  by_cases h : -324000 ≤ a ∧ a ≤ 324000
  · simp only [h, decide_true, if_true, true_and]
  · simp [h]

def RateP (y r : Int) : Prop := (0 ≤ y ∧ y ≤ 30000) ∧ (1 ≤ r ∧ r ≤ 100)
instance (a b : Int) : Decidable (RateP a b) := by unfold RateP; infer_instance

theorem iRate_val (r : Int) : impl_isRate.f r = some (decide (1 ≤ r ∧ r ≤ 100)) := by
  unfold impl_isRate.f
  simp only [within_val, Option.bind_some]

theorem iYears_val (r : Int) : impl_areYears.f r = some (decide (0 ≤ r ∧ r ≤ 30000)) := by
  unfold impl_areYears.f
  simp only [within_val, Option.bind_some]

def codeV (ok rg : Prop) [Decidable ok] [Decidable rg] : Int := if ok then (if rg then 0 else 2) else 1
theorem check_val (ok rg : Prop) [Decidable ok] [Decidable rg] : impl_check.f (decide ok) (decide rg) = some (codeV ok rg) := by
  unfold impl_check.f codeV
  by_cases h : ok <;> by_cases h2 : rg <;> simp [h, h2]
theorem check_false (ok : Prop) [Decidable ok] : impl_check.f (decide ok) false = some (codeV ok False) := by
  unfold impl_check.f codeV
  by_cases h : ok <;> simp [h]
theorem codeV_zero (ok rg : Prop) [Decidable ok] [Decidable rg] : codeV ok rg = 0 ↔ (ok ∧ rg) := by
  unfold codeV
  by_cases h : ok <;> by_cases h2 : rg <;> simp [h, h2]

theorem carryCode_val (a b y r : Int) : impl_carryCode.f a b y r = some (codeV (SpotP a b) (RateP y r)) := by
  unfold impl_carryCode.f
  simp only [iValidSpot_val, iYears_val, iRate_val, Option.bind_some]
  by_cases h : 0 ≤ y ∧ y ≤ 30000
  · rw [if_pos (decide_eq_true h), check_val]
    simp only [Option.bind_some]
    congr 1
    unfold codeV RateP
    simp [h]
  · rw [if_neg (by simpa using h), check_false]
    simp only [Option.bind_some]
    congr 1
    unfold codeV RateP
    simp [h]

theorem tmod_bd (a : Int) {b : Int} (hb : 0 < b) : -b < Int.tmod a b ∧ Int.tmod a b < b ∧ b * Int.tdiv a b + Int.tmod a b = a := by
  have h1 := Int.mul_tdiv_add_tmod a b
  have hlt : Int.tmod a b < b := Int.tmod_lt_of_pos a hb
  have h2 := Int.tmod_lt_of_pos (-a) hb
  rw [Int.neg_tmod] at h2
  omega
theorem around_val (a : Int) : impl_around.f a = some (a % 1296000) := by
  unfold impl_around.f
  have h := tmod_bd a (show (0 : Int) < 1296000 by omega)
  rw [w64 (by omega) (by omega), tmod_nn (by omega)]
  congr 1
  omega

/-- The longitude of an angle. -/
def wrapV (a : Int) : Int := (a + 648000) % 1296000 - 648000
theorem wrapV_bd (a : Int) : -648000 ≤ wrapV a ∧ wrapV a ≤ 647999 := by unfold wrapV; omega
theorem iwrap_val {a : Int} (h0 : -4611686018427387904 ≤ a) (h1 : a ≤ 4611686018427387904) : impl_wrap.f a = some (wrapV a) := by
  unfold impl_wrap.f
  rw [w64 (x := a + 648000) (by omega) (by omega), around_val]
  simp only [Option.bind_some]
  rw [w64 (by omega) (by omega)]
  rfl

theorem mul_bd {y r : Int} (h : RateP y r) : 0 ≤ y * r ∧ y * r ≤ 3000000 := by
  obtain ⟨⟨h1, h2⟩, h3, h4⟩ := h
  refine ⟨Int.mul_nonneg h1 (by omega), ?_⟩
  have : y * r ≤ 30000 * 100 := Int.mul_le_mul h2 h4 (by omega) (by omega)
  omega

theorem turned_val {a b c : Int} (hs : SpotP a b) (h0 : -1000000000000 ≤ c) (h1 : c ≤ 1000000000000) : impl_turned.f a b c = some (a, wrapV (b + c)) := by
  unfold SpotP at hs
  unfold impl_turned.f
  rw [w64 (x := b + c) (by omega) (by omega), iwrap_val (by omega) (by omega)]
  rfl

def AllSpots (l : List S37) : Prop := ∀ x ∈ l, SpotP x.f0 x.f1
theorem areSpots_val (l : List S37) [Decidable (AllSpots l)] : impl_areSpots.f l = some (decide (AllSpots l)) := by
  unfold impl_areSpots.f
  congr 1
  rw [Bool.eq_iff_iff, decide_eq_true_iff, Bool.not_eq_true', List.any_eq_false]
  unfold AllSpots spotBad SpotP
  constructor
  · intro h x hx
    have := h x hx
    simpa using this
  · intro h x hx
    have := h x hx
    simpa using this

def absV (a : Int) : Int := if a < 0 then -a else a
theorem iabs_val {a : Int} (h0 : -4611686018427387904 ≤ a) (h1 : a ≤ 4611686018427387904) : impl_absolute.f a = some (absV a) := by
  unfold impl_absolute.f absV mx
  rw [w64 (by omega) (by omega)]
  congr 1
  split <;> split <;> omega

/-- Bytes. -/
def Bytes (l : List Int) : Prop := ∀ x ∈ l, 0 ≤ x ∧ x ≤ 255
theorem bytes_of {l : List Int} (h : ∀ x ∈ l, (Lit.int .u8 x).wf = true) : Bytes l := by
  intro x hx
  have := h x hx
  simpa [Lit.wf, IntKind.min, IntKind.max, IntKind.signed, IntKind.bits] using this
theorem rd_nat (l : List Int) (i : Nat) (h : i < l.length) : rd l (i : Int) = l[i] := by
  unfold rd
  rw [Int.toNat_natCast, List.getD_eq_getElem?_getD, List.getElem?_eq_getElem h]
  rfl
theorem rd_bytes {l : List Int} (h : Bytes l) {i : Int} (h0 : 0 ≤ i) (hi : i < (l.length : Int)) : 0 ≤ rd l i ∧ rd l i ≤ 255 := by
  obtain ⟨j, rfl⟩ := Int.eq_ofNat_of_zero_le h0
  rw [rd_nat l j (by omega)]
  exact h _ (List.getElem_mem _)
theorem wrap_u64 (n : Int) : IntKind.u64.wrap n = n % 18446744073709551616 := by simp [IntKind.wrap, IntKind.bits, IntKind.signed]
theorem low_byte {x : Int} (h0 : 0 ≤ x) (h1 : x < 18446744073709551616) : Go.bits .and .u64 x 255 = x % 256 :=
  bits_mask .u64 64 (by decide) (fun n h0 h1 => by rw [wrap_u64]; omega) 8 (by decide) x h0 (by simpa using h1)

theorem next_val {l : List Int} (hB : Bytes l) (hl : l.length ≤ 140737488351232) {a s : Int} (h0 : 0 ≤ a) (h1 : a ≤ 1000000000) : ∃ b s', spec_l00Src_next.f l a s = some (b, a + 1, s') ∧ 0 ≤ b ∧ b ≤ 255 := by
  unfold spec_l00Src_next.f
  rw [w64 (x := a + 1) (by omega) (by omega)]
  have hlow : ∀ z : Int, 0 ≤ wrap64 (Go.bits .and .u64 (IntKind.u64.wrap z / 1099511627776) 255) ∧ wrap64 (Go.bits .and .u64 (IntKind.u64.wrap z / 1099511627776) 255) ≤ 255 := by
    intro z
    rw [wrap_u64, low_byte (by omega) (by omega), w64 (by omega) (by omega)]
    omega
  by_cases h : a < (l.length : Int)
  · have hr := rd_bytes hB h0 h
    rw [if_pos h, if_pos h0, if_pos (by omega), w64 (x := rd l a) (by omega) (by omega)]
    exact ⟨_, _, rfl, hr.1, hr.2⟩
  · rw [if_neg h, if_neg (by omega)]
    exact ⟨_, _, rfl, (hlow _).1, (hlow _).2⟩
theorem pick_val {l : List Int} (hB : Bytes l) (hl : l.length ≤ 140737488351232) {a s : Int} (h0 : 0 ≤ a) (h1 : a ≤ 100000000) (n : Int) : ∃ v a' s', spec_l00Src_pick.f l a s n = some (v, a', s') ∧ a ≤ a' ∧ a' ≤ a + 2 ∧ 0 ≤ v ∧ (1 < n → v < n) ∧ (n ≤ 1 → v = 0) := by
  unfold spec_l00Src_pick.f
  by_cases h : n ≤ 1
  · rw [if_pos h]
    exact ⟨0, a, s, rfl, by omega, by omega, by omega, fun h => by omega, fun _ => rfl⟩
  · rw [if_neg h]
    obtain ⟨b, s1, e1, b0, b1⟩ := next_val hB hl (s := s) h0 (by omega)
    rw [e1]
    simp only [Option.bind_some]
    by_cases hn : n > 200
    · obtain ⟨c, s2, e2, c0, c1⟩ := next_val hB hl (a := a + 1) (s := s1) (by omega) (by omega)
      rw [if_pos hn, e2]
      simp only [Option.bind_some]
      rw [if_neg (by omega), w64 (x := b * 256) (by omega) (by omega), w64 (x := b * 256 + c) (by omega) (by omega), tmod_nn (by omega)]
      exact ⟨_, _, _, rfl, by omega, by omega, Int.emod_nonneg _ (by omega), fun _ => Int.emod_lt_of_pos _ (by omega), fun h2 => absurd h2 h⟩
    · rw [if_neg hn, if_neg (by omega), tmod_nn (by omega)]
      exact ⟨_, _, _, rfl, by omega, by omega, Int.emod_nonneg _ (by omega), fun _ => Int.emod_lt_of_pos _ (by omega), fun h2 => absurd h2 h⟩

theorem one_val {l : List Int} (hB : Bytes l) (hl : l.length ≤ 140737488351232) {a s : Int} (h0 : 0 ≤ a) (h1 : a ≤ 100000000) (n : Int) : ∃ v a' s', spec_l00Src_one.f l a s n = some (v, a', s') ∧ a ≤ a' ∧ a' ≤ a + 2 := by
  obtain ⟨v, a', s', e, h2, h3, _⟩ := pick_val hB hl (s := s) h0 h1 n
  unfold spec_l00Src_one.f
  rw [e]
  exact ⟨_, _, _, rfl, h2, h3⟩

theorem among_val {l : List Int} (hB : Bytes l) (hl : l.length ≤ 140737488351232) {a s : Int} (h0 : 0 ≤ a) (h1 : a ≤ 100000000) (m : List Int) (hm : 0 < m.length) : ∃ v a' s', spec_l00Src_among.f l a s m = some (v, a', s') ∧ a ≤ a' ∧ a' ≤ a + 2 ∧ v ∈ m := by
  obtain ⟨v, a', s', e, h2, h3, h4, h5, h6⟩ := pick_val hB hl (s := s) h0 h1 (m.length : Int)
  have hv : v < (m.length : Int) := by
    by_cases h : 1 < (m.length : Int)
    · exact h5 h
    · have := h6 (by omega); omega
  unfold spec_l00Src_among.f
  rw [e]
  simp only [Option.bind_some]
  rw [if_pos h4, if_pos hv]
  obtain ⟨j, rfl⟩ := Int.eq_ofNat_of_zero_le h4
  rw [rd_nat m j (by omega)]
  exact ⟨_, _, _, rfl, h2, h3, List.getElem_mem _⟩

theorem drawspot_j {l : List Int} (hB : Bytes l) (hl : l.length ≤ 140737488351232) {a s x y : Int} (h0 : 0 ≤ a) (h1 : a ≤ 10000000) (hs : SpotP x y) : ∃ p q a' s', Ev (fun k => spec_l02Draw.j0 k x y l a s) (p, q, a', s') ∧ SpotP p q ∧ a ≤ a' ∧ a' ≤ a + 4 := by
  obtain ⟨v, a1, s1, e1, h2, h3, _⟩ := pick_val hB hl (s := s) h0 (by omega) 12
  by_cases hv : v = 0
  · obtain ⟨u, a2, s2, e2, h4, h5, h6⟩ := among_val hB hl (a := a1) (s := s1) (by omega) (by omega) [(-324000), 0, 324000] (by simp)
    refine ⟨u, y, a2, s2, ev_succ ?_, ⟨?_, hs.2⟩, by omega, by omega⟩
    · simp only [spec_l02Draw.j0, e1, Option.bind_some, if_pos hv, e2]
      exact ev_const rfl
    · simp only [List.mem_cons, List.not_mem_nil, or_false] at h6
      omega
  · by_cases hv1 : v = 1
    · obtain ⟨u, a2, s2, e2, h4, h5, h6⟩ := among_val hB hl (a := a1) (s := s1) (by omega) (by omega) [(-648000), (-324000), 0, 324000, 647999] (by simp)
      refine ⟨x, u, a2, s2, ev_succ ?_, ⟨hs.1, ?_⟩, by omega, by omega⟩
      · simp only [spec_l02Draw.j0, e1, Option.bind_some, if_neg hv, if_pos hv1, e2]
        exact ev_const rfl
      · simp only [List.mem_cons, List.not_mem_nil, or_false] at h6
        omega
    · refine ⟨x, y, a1, s1, ev_succ ?_, hs, by omega, by omega⟩
      simp only [spec_l02Draw.j0, e1, Option.bind_some, if_neg hv, if_neg hv1]
      exact ev_const rfl
theorem drawspot_ev {l : List Int} (hB : Bytes l) (hl : l.length ≤ 140737488351232) {a s : Int} (h0 : 0 ≤ a) (h1 : a ≤ 1000000) : ∃ p q a' s', Ev (fun k => spec_l02Draw.f k l a s) (p, q, a', s') ∧ SpotP p q ∧ a ≤ a' ∧ a' ≤ a + 20 := by
  obtain ⟨v1, a1, s1, e1, g1, g2, g3, g4, _⟩ := pick_val hB hl (s := s) h0 (by omega) 181
  obtain ⟨v2, a2, s2, e2, i1, i2, i3, i4, _⟩ := pick_val hB hl (a := a1) (s := s1) (by omega) (by omega) 180
  obtain ⟨v3, a3, s3, e3, j1, j2⟩ := one_val hB hl (a := a2) (s := s2) (by omega) (by omega) 3
  have g4 := g4 (by omega)
  have i4 := i4 (by omega)
  by_cases h3 : v3 = true
  · obtain ⟨v4, a4, s4, e4, k1, k2, k3, k4, _⟩ := pick_val hB hl (a := a3) (s := s3) (by omega) (by omega) 120
    obtain ⟨v5, a5, s5, e5, m1, m2, m3, m4, _⟩ := pick_val hB hl (a := a4) (s := s4) (by omega) (by omega) 200
    have k4 := k4 (by omega)
    have m4 := m4 (by omega)
    obtain ⟨p, q, a', s', e, hs, n1, n2⟩ := drawspot_j hB hl (a := a5) (s := s5) (x := 1800 * (v1 - 90) + (v4 - 60)) (y := 3600 * (v2 - 90) + 60 * v5) (by omega) (by omega) ⟨by omega, by omega⟩
    refine ⟨p, q, a', s', ?_, hs, by omega, by omega⟩
    simp only [spec_l02Draw.f, e1, e2, e3, Option.bind_some, if_pos h3, e4, e5, w64 (x := v1 - 90) (by omega) (by omega), w64 (x := 1800 * (v1 - 90)) (by omega) (by omega), w64 (x := v2 - 90) (by omega) (by omega), w64 (x := 3600 * (v2 - 90)) (by omega) (by omega), w64 (x := v4 - 60) (by omega) (by omega), w64 (x := 1800 * (v1 - 90) + (v4 - 60)) (by omega) (by omega), w64 (x := 60 * v5) (by omega) (by omega), w64 (x := 3600 * (v2 - 90) + 60 * v5) (by omega) (by omega)]
    exact e
  · obtain ⟨p, q, a', s', e, hs, n1, n2⟩ := drawspot_j hB hl (a := a3) (s := s3) (x := 1800 * (v1 - 90)) (y := 3600 * (v2 - 90)) (by omega) (by omega) ⟨by omega, by omega⟩
    refine ⟨p, q, a', s', ?_, hs, by omega, by omega⟩
    simp only [spec_l02Draw.f, e1, e2, e3, Option.bind_some, if_neg h3, w64 (x := v1 - 90) (by omega) (by omega), w64 (x := 1800 * (v1 - 90)) (by omega) (by omega), w64 (x := v2 - 90) (by omega) (by omega), w64 (x := 3600 * (v2 - 90)) (by omega) (by omega)]
    exact e

theorem a2At_val {l : List Int} (hB : Bytes l) {i n : Int} (hi : 0 ≤ i) (hn : 1 ≤ n) : ∃ v, laws_a2At.f l i n = some v ∧ 0 ≤ v ∧ v < n := by
  unfold laws_a2At.f
  by_cases h : i ≥ (l.length : Int)
  · rw [if_pos h]; exact ⟨0, rfl, by omega, by omega⟩
  · have hr := rd_bytes hB hi (show i < (l.length : Int) by omega)
    rw [if_neg h, if_neg (by omega), if_pos hi, if_pos (by omega), if_neg (by omega), w64 (x := rd l i) (by omega) (by omega), tmod_nn (by omega)]
    exact ⟨_, rfl, Int.emod_nonneg _ (by omega), Int.emod_lt_of_pos _ (by omega)⟩
theorem a2Long_val (l m : List Int) : laws_a2Long.f l m = some (decide ((l.length : Int) > 3000 ∨ (m.length : Int) > 3000)) := by
  unfold laws_a2Long.f
  by_cases h : (l.length : Int) > 3000
  · simp [h]
  · simp [h]

theorem ceil_least {a b : Int} (hb : 0 < b) : a ≤ (-((-a) / b)) * b ∧ (-((-a) / b) - 1) * b < a := by
  have h1 := Int.mul_ediv_add_emod (-a) b
  have h2 := Int.emod_nonneg (-a) (b := b) (by omega)
  have h3 := Int.emod_lt_of_pos (-a) hb
  rw [Int.mul_comm] at h1
  constructor
  · rw [Int.neg_mul]; omega
  · rw [Int.sub_mul, Int.neg_mul, Int.one_mul]; omega
theorem iround_val {r : Int} (hr : 1 ≤ r ∧ r ≤ 100) : ∃ n, impl_RoundYears.f r = some (n, 0) ∧ 1 ≤ n ∧ n ≤ 1296000 ∧ 1296000 ≤ n * r ∧ (n - 1) * r < 1296000 := by
  have hl := ceil_least (a := 1296000) (b := r) (by omega)
  have hbd := ediv_bd (a := -1296000) (b := r) (by omega) 1296000 (by omega) (by omega) (by omega)
  refine ⟨-((-1296000) / r), ?_, ?_, by omega, hl.1, hl.2⟩
  · unfold impl_RoundYears.f
    rw [iRate_val]
    simp only [hr, decide_true, Option.bind_some, if_true, and_self]
    rw [ceilDiv_val (by omega) (by omega) (by omega)]
    rfl
  · have h1 := hl.1
    rcases Int.lt_or_le 0 (-((-1296000) / r)) with h | h
    · omega
    · exfalso
      have : (-((-1296000) / r)) * r ≤ 0 := Int.mul_nonpos_of_nonpos_of_nonneg h (by omega)
      omega

theorem ifirst_ev {p q lon r : Int} (hs : SpotP p q) (hl : -648000 ≤ lon ∧ lon ≤ 647999) (hr : 1 ≤ r ∧ r ≤ 100) : ∃ f c, Ev (fun k => impl_FirstYear.f k p q lon r) (f, c) ∧
    ((c = 0 ∧ 0 ≤ f ∧ f ≤ 30000 ∧ (lon - q) % 1296000 ≤ f * r ∧ (f > 0 → (f - 1) * r < (lon - q) % 1296000)) ∨ (c = 3 ∧ (lon - q) % 1296000 > 30000 * r)) := by
  have hq := hs.2
  have h0 : 0 ≤ (lon - q) % 1296000 := by omega
  have h1 : (lon - q) % 1296000 < 1296000 := by omega
  have hcl := ceil_least (a := (lon - q) % 1296000) (b := r) (by omega)
  have hbd := ediv_bd (a := -((lon - q) % 1296000)) (b := r) (by omega) 1296000 (by omega) (by omega) (by omega)
  have hnn : 0 ≤ -((-((lon - q) % 1296000)) / r) := by
    have : (-((lon - q) % 1296000)) / r ≤ 0 := by
      have h := Int.ediv_le_ediv (show (0 : Int) < r by omega) (show -((lon - q) % 1296000) ≤ 0 by omega)
      rw [Int.zero_ediv] at h
      exact h
    omega
  unfold impl_FirstYear.f
  simp only [iValidSpot_val, within_val, iRate_val, hs, hl, hr, decide_true, Option.bind_some, if_true, and_self, impl_check.f]
  have hc : ∀ k, impl_FirstYear.j0 (k + 1) lon r 0 p q = if -((-((lon - q) % 1296000)) / r) > 30000 then some (0, 3) else some (-((-((lon - q) % 1296000)) / r), 0) := by
    intro k
    simp only [impl_FirstYear.j0, if_true]
    rw [w64 (x := lon - q) (by omega) (by omega), around_val]
    simp only [Option.bind_some]
    rw [ceilDiv_val (by omega) (by omega) (by omega)]
    rfl
  by_cases hbig : -((-((lon - q) % 1296000)) / r) > 30000
  · refine ⟨0, 3, ev_succ ?_, .inr ⟨rfl, ?_⟩⟩
    · simp only [hc, if_pos hbig]; exact ev_const rfl
    · have h2 : 30000 * r ≤ (-((-((lon - q) % 1296000)) / r) - 1) * r := Int.mul_le_mul_of_nonneg_right (by omega) (by omega)
      omega
  · refine ⟨-((-((lon - q) % 1296000)) / r), 0, ev_succ ?_, .inl ⟨rfl, hnn, by omega, hcl.1, fun _ => hcl.2⟩⟩
    simp only [hc, if_neg hbig]; exact ev_const rfl

theorem imoved1_ev (p q : Int) (hs : SpotP p q) {y r : Int} (hR : RateP y r) : ∃ out, Ev (fun k => impl_MovedStars.f k [(⟨p, q⟩ : S37)] y r 0) (out, 0) ∧ ((out.length : Int) = 0 ↔ y * r % 1296000 = 0) := by
  classical
  have hm := mul_bd hR
  have hb := wrapV_bd (y * r)
  have hall : AllSpots [(⟨p, q⟩ : S37)] := by
    intro x hx
    simp only [List.mem_singleton] at hx
    subst hx
    exact hs
  have e1 : impl_wrap.f (wrap64 (y * r)) = some (wrapV (y * r)) := by rw [w64 (x := y * r) (by omega) (by omega), iwrap_val (by omega) (by omega)]
  have e2 : impl_absolute.f (wrapV (y * r)) = some (absV (wrapV (y * r))) := iabs_val (by omega) (by omega)
  unfold impl_MovedStars.f
  simp only [areSpots_val, iYears_val, iRate_val, within_val, Option.bind_some, hall, hR.1, hR.2, and_self, decide_true, if_true, impl_check.f, List.length_singleton, show ((0 : Int) ≤ 0 ∧ (0 : Int) ≤ 324000) = True from by simp, show (((1 : Nat) : Int) ≤ 12) = True from by simp]
  have hval : absV (wrapV (y * r)) > 0 ↔ ¬ y * r % 1296000 = 0 := by unfold absV wrapV; split <;> omega
  by_cases hc : absV (wrapV (y * r)) > 0
  · refine ⟨[0], ev_succ ?_, ?_⟩
    · simp only [impl_MovedStars.j0, if_true]
      refine ev_succ ?_
      simp only [impl_MovedStars.l0, show ((0 : Int) < ((1 : Nat) : Int)) = True from by simp, if_true, e1, e2, Option.bind_some, if_pos hc, List.length_nil, show (0 < 17592186044416) = True from by simp, w64 (x := (0 : Int) + 1) (by omega) (by omega)]
      refine ev_succ ?_
      simp only [impl_MovedStars.l0, show ((0 : Int) + 1 < ((1 : Nat) : Int)) = False from by simp, if_false]
      exact ev_const rfl
    · simp; exact hval.1 hc
  · refine ⟨[], ev_succ ?_, ?_⟩
    · simp only [impl_MovedStars.j0, if_true]
      refine ev_succ ?_
      simp only [impl_MovedStars.l0, show ((0 : Int) < ((1 : Nat) : Int)) = True from by simp, if_true, e1, e2, Option.bind_some, if_neg hc, w64 (x := (0 : Int) + 1) (by omega) (by omega)]
      refine ev_succ ?_
      simp only [impl_MovedStars.l0, show ((0 : Int) + 1 < ((1 : Nat) : Int)) = False from by simp, if_false]
      exact ev_const rfl
    · simp
      rcases Decidable.em (y * r % 1296000 = 0) with h | h
      · exact h
      · exact absurd (hval.2 h) hc

theorem a2spot_ev {l : List Int} (hB : Bytes l) (hl : l.length ≤ 140737488351232) : ∃ p q, Ev (fun k => spec_A2Spot.f k l) (p, q) ∧ SpotP p q := by
  obtain ⟨p, q, a', s', e, hs, _, _⟩ := drawspot_ev hB hl (a := 0) (s := 0) (by omega) (by omega)
  refine ⟨p, q, ?_, hs⟩
  simp only [spec_A2Spot.f, spec_l00From.f, Option.bind_some]
  exact Ev.bind e (ev_const rfl)
theorem FnCarried : laws_FnCarried.Pure := by
  intro l m hl1 hl hlb hm1 hm hmb
  have hB := bytes_of hlb
  have hM := bytes_of hmb
  obtain ⟨p, q, ed, hs⟩ := a2spot_ev hB (by omega)
  obtain ⟨j, ej, j0, j1⟩ := a2At_val hM (i := 0) (n := 5) (by omega) (by omega)
  obtain ⟨y, ey, y0, y1⟩ := a2At_val hM (i := 1) (n := 250) (by omega) (by omega)
  obtain ⟨t, et, t0, t1⟩ := a2At_val hM (i := 2) (n := 250) (by omega) (by omega)
  have hrate : ∃ r, rd ([50, 36, 51, 100, 1] : List Int) j = r ∧ 1 ≤ r ∧ r ≤ 100 := by
    rcases (show j = 0 ∨ j = 1 ∨ j = 2 ∨ j = 3 ∨ j = 4 by omega) with h | h | h | h | h <;> subst h <;> exact ⟨_, rfl, by decide, by decide⟩
  obtain ⟨r, er, hr⟩ := hrate
  have hR : RateP (40 * y) r := ⟨by omega, hr⟩
  apply Ev.rounds
  unfold laws_FnCarried.f
  simp only [a2Long_val, Option.bind_some]
  by_cases hlong : (l.length : Int) > 3000 ∨ (m.length : Int) > 3000
  · simp only [hlong, decide_true, if_true]; exact ev_const rfl
  · simp only [hlong, decide_false, Bool.false_eq_true, if_false]
    refine Ev.bind ed ?_
    have hq := hs.2
    have hmul := mul_bd hR
    have hcode : codeV (SpotP p q) (RateP (40 * y) r) = 0 := (codeV_zero _ _).2 ⟨hs, hR⟩
    have hw := wrapV_bd (q + 40 * y * r)
    have hs2 : SpotP p (wrapV (q + 40 * y * r)) := ⟨hs.1, hw⟩
    have hcode2 : codeV (SpotP p (wrapV (q + 40 * y * r))) (RateP (40 * y) r) = 0 := (codeV_zero _ _).2 ⟨hs2, hR⟩
    have e1 : impl_CarryStar.f p q (40 * y) r = some (p, wrapV (q + 40 * y * r), 0) := by
      unfold impl_CarryStar.f
      rw [carryCode_val]
      simp only [Option.bind_some]
      rw [if_pos hcode, w64 (x := 40 * y * r) (by omega) (by omega), turned_val hs (by omega) (by omega)]
      rfl
    have hback : wrapV (wrapV (q + 40 * y * r) + -(40 * y * r)) = q := by unfold wrapV; omega
    have e2 : impl_CarryBack.f p (wrapV (q + 40 * y * r)) (40 * y) r = some (p, q, 0) := by
      unfold impl_CarryBack.f
      rw [carryCode_val]
      simp only [Option.bind_some]
      rw [if_pos hcode2, w64 (x := -(40 * y)) (by omega) (by omega), Int.neg_mul, w64 (x := -(40 * y * r)) (by omega) (by omega), turned_val hs2 (by omega) (by omega)]
      simp only [Option.bind_some]
      rw [hback]
    obtain ⟨n, en, hn0, hn1, hn2, hn3⟩ := iround_val hr
    have h3 : (decide ((wrap64 ((wrap64 (n - 1)) * r)) ≥ 1296000)) = false := by
      have hnn : 0 ≤ (n - 1) * r := Int.mul_nonneg (by omega) (by omega)
      rw [w64 (x := n - 1) (by omega) (by omega), w64 (x := (n - 1) * r) (by omega) (by omega), decide_eq_false_iff_not]
      omega
    have hnr : n * r ≤ 1296000 * 100 := Int.mul_le_mul hn1 hr.2 (by omega) (by omega)
    have hvs : spec_ValidSpot.f p (wrapV (q + 40 * y * r)) = some true := by
      unfold spec_ValidSpot.f
      rw [l02Ok_val]
      simp [hs2]
    simp only [ej, Option.bind_some, if_pos j0, if_pos (show j < (([50, 36, 51, 100, 1] : List Int).length : Int) from j1), ey, er, w64 (x := 40 * y) (by omega) (by omega), e1, e2, en, if_true, hvs, beq_self_eq_true, Bool.not_true, Bool.or_self, Bool.false_eq_true, if_false, if_neg (show ¬ n < 1 by omega), if_neg (show ¬ n > 1296000 by omega), w64 (x := n * r) (by omega) (by omega), if_neg (show ¬ n * r < 1296000 by omega), h3]
    refine ev_succ ?_
    simp only [laws_FnCarried.j0, Bool.false_eq_true, if_false, et, Option.bind_some, w64 (x := t - 125) (by omega) (by omega), w64 (x := 3600 * (t - 125)) (by omega) (by omega), w64 (x := 3600 * (t - 125) - q) (by omega) (by omega), w64 (x := 3600 * (t - 125) - q + 1296000) (by omega) (by omega), tmod_nn (show 0 ≤ 3600 * (t - 125) - q + 1296000 by omega)]
    rw [show (3600 * (t - 125) - q + 1296000) % 1296000 = (3600 * (t - 125) - q) % 1296000 from by omega]
    have hang0 : 0 ≤ (3600 * (t - 125) - q) % 1296000 := by omega
    have hang1 : (3600 * (t - 125) - q) % 1296000 < 1296000 := by omega
    obtain ⟨f, c, ef, hf⟩ := ifirst_ev hs (show -648000 ≤ 3600 * (t - 125) ∧ 3600 * (t - 125) ≤ 647999 by omega) hr
    refine Ev.bind ef ?_
    generalize (3600 * (t - 125) - q) % 1296000 = ang at *
    rcases hf with ⟨rfl, hf0, hf1, hf2, hf3⟩ | ⟨rfl, hbig⟩
    · have hfr : f * r ≤ 30000 * 100 := Int.mul_le_mul hf1 hr.2 (by omega) (by omega)
      have hfr0 : 0 ≤ f * r := Int.mul_nonneg hf0 (by omega)
      simp only [if_true, if_neg (show ¬ f < 0 by omega), if_neg (show ¬ f > 30000 by omega), w64 (x := f * r) (by omega) (by omega), if_neg (show ¬ f * r < ang by omega), w64 (x := 40 * y * r) (by omega) (by omega), tmod_nn (show 0 ≤ 40 * y * r by omega)]
      obtain ⟨out, eo, ho⟩ := imoved1_ev p q hs hR
      have hfin : Ev (fun k => (impl_MovedStars.f k [(⟨p, q⟩ : S37)] (40 * y) r 0).bind fun b => if b.2 = 0 then some (((b.1.length : Int) == 0) == (40 * y * r % 1296000 == 0)) else some false) true := by
        refine Ev.bind eo ?_
        simp only [if_true]
        refine ev_const ?_
        congr 1
        rw [beq_iff_eq, Bool.eq_iff_iff, beq_iff_eq, beq_iff_eq]
        omega
      by_cases hpos : f > 0
      · have hf4 := hf3 hpos
        have hfp : 0 ≤ (f - 1) * r := Int.mul_nonneg (by omega) (by omega)
        simp only [if_pos hpos, w64 (x := f - 1) (by omega) (by omega), w64 (x := (f - 1) * r) (by omega) (by omega), if_neg (show ¬ (f - 1) * r ≥ ang by omega)]
        exact hfin
      · simp only [if_neg hpos]
        exact hfin
    · simp only [show ¬ ((3 : Int) = 0) from by omega, if_false, if_true, w64 (x := 30000 * r) (by omega) (by omega)]
      refine ev_const ?_
      simp
      omega

end Go.Proofs.Ytoehbcdhplagfaa.Pure
