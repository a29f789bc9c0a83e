/- FnExactMatchSheets: the program's MatchSheets and the reference's come to the same, for all lists of sheets: both run through the pairs in the same order and keep the first nearest pair. -/
import Derived.Test.YtoehbcdhplagfaaStatFnExactMatchSheets
namespace Go.Proofs.Ytoehbcdhplagfaa.Pure
open Go.RowKit Go.Proofs.Ytoehbcdhplagfaa.PFnExactMatchSheets Go.Proofs.YtoehbcdhplagfaaW.PrintWords Go.Proofs.YtoehbcdhplagfaaW.PrintLast Go.Proofs.YtoehbcdhplagfaaW.PrintMore
set_option linter.unusedVariables false
set_option linter.unusedSimpArgs false
theorem wfb {a : Int} (h : (Lit.int .i64 a).wf = true) : -9223372036854775808 ≤ a ∧ a ≤ 9223372036854775807 := by
  simpa [Lit.wf, IntKind.min, IntKind.max, IntKind.signed, IntKind.bits] using h
theorem w64 {x : Int} (h : -9223372036854775808 ≤ x) (h2 : x ≤ 9223372036854775807) : wrap64 x = x := by unfold wrap64; omega
theorem tdiv_nn {a b : Int} (h : 0 ≤ a) : Int.tdiv a b = a / b := Int.tdiv_eq_ediv_of_nonneg h
theorem tmod_nn {a b : Int} (h : 0 ≤ a) : Int.tmod a b = a % b := Int.tmod_eq_emod_of_nonneg h
theorem floor_val (a b : Int) (hb : 0 < b) : (if Int.tmod a b < 0 then Int.tdiv a b - 1 else Int.tdiv a b) = a / b := by
  have h1 := Int.mul_tdiv_add_tmod a b
  have hlt : Int.tmod a b < b := Int.tmod_lt_of_pos a hb
  have hgt : -b < Int.tmod a b := by
    have h2 := Int.tmod_lt_of_pos (-a) hb
    rw [Int.neg_tmod] at h2
    omega
  symm
  split
  · rename_i hneg
    refine ((Int.ediv_emod_unique hb (r := Int.tmod a b + b)).2 ⟨?_, by omega, by omega⟩).1
    rw [Int.mul_sub, Int.mul_one]
    omega
  · rename_i hneg
    exact ((Int.ediv_emod_unique hb (r := Int.tmod a b)).2 ⟨by omega, by omega, by omega⟩).1
theorem ediv_bd {a b : Int} (hb : 0 < b) (B : Int) (h0 : -B ≤ a) (h1 : a ≤ B) (hB : 0 ≤ B) : -B ≤ a / b ∧ a / b ≤ B := by
  constructor
  · rw [Int.le_ediv_iff_mul_le hb]
    have : B * 1 ≤ B * b := Int.mul_le_mul_of_nonneg_left (by omega) hB
    rw [Int.neg_mul]; omega
  · have h2 : a / b ≤ B / b := Int.ediv_le_ediv hb h1
    have h3 : B / b ≤ B := Int.ediv_le_self b hB
    omega
theorem ceil_alt (a b : Int) (hb : 0 < b) : (a + b - 1) / b = -((-a) / b) := by
  have h1 := Int.mul_ediv_add_emod (-a) b
  have h2 := Int.emod_nonneg (-a) (b := b) (by omega)
  have h3 := Int.emod_lt_of_pos (-a) hb
  refine ((Int.ediv_emod_unique hb (r := b - 1 - (-a) % b)).2 ⟨?_, by omega, by omega⟩).1
  rw [Int.mul_neg]
  omega

theorem ev_succ {α : Type} {g : Nat → Option α} {r : α} (h : Ev (fun k => g (k + 1)) r) : Ev g r := Ev.step (fun _ => rfl) h
theorem ev_const {α : Type} {g : Option α} {r : α} (h : g = some r) : Ev (fun _ => g) r := ⟨0, fun _ _ => h⟩
theorem ev_uniq {α : Type} {g : Nat → Option α} {a b : α} (h : Ev g a) (h' : Ev g b) : a = b := by
  obtain ⟨K, h⟩ := h
  obtain ⟨K', h'⟩ := h'
  have h1 := h (K + K') (by omega)
  rw [h' (K + K') (by omega)] at h1
  exact (Option.some.inj h1).symm

theorem in_val (a b c : Int) : spec_l00In.f a b c = some (decide (b ≤ a ∧ a ≤ c)) := by
  unfold spec_l00In.f
  by_cases h : a ≥ b <;> by_cases h2 : a ≤ c <;> simp [h, h2] <;> omega
theorem within_val (a b c : Int) : impl_within.f a b c = some (decide (b ≤ a ∧ a ≤ c)) := in_val a b c

/-- What a sheet must hold. -/
def SheetOk (f0 f1 f2 f3 : Int) : Prop := ((1 : Int) ≤ f0 ∧ f0 ≤ 10000) ∧ ((1 : Int) ≤ f1 ∧ f1 ≤ 10000) ∧ ((0 : Int) ≤ f2 ∧ f2 ≤ 100) ∧ ((0 : Int) ≤ f3 ∧ f3 ≤ 100)
instance instSheetOk (f0 f1 f2 f3 : Int) : Decidable (SheetOk f0 f1 f2 f3) := by unfold SheetOk; infer_instance
theorem side_spec (a : Int) : spec_l17Side.f a = some (decide (1 ≤ a ∧ a ≤ 10000)) := by unfold spec_l17Side.f; rw [in_val]; rfl
theorem grow_spec (a : Int) : spec_l17Grows.f a = some (decide (0 ≤ a ∧ a ≤ 100)) := by unfold spec_l17Grows.f; rw [in_val]; rfl
theorem side_impl (a : Int) : impl_isSide.f a = some (decide (1 ≤ a ∧ a ≤ 10000)) := by unfold impl_isSide.f; rw [within_val]; rfl
theorem grow_impl (a : Int) : impl_isStretch.f a = some (decide (0 ≤ a ∧ a ≤ 100)) := by unfold impl_isStretch.f; rw [within_val]; rfl
theorem four_dec (p q r s : Prop) [Decidable p] [Decidable q] [Decidable r] [Decidable s] : (if decide p = true then (if decide q = true then (if decide r = true then some (decide s) else some false) else some false) else some false) = some (decide (p ∧ q ∧ r ∧ s)) := by
  by_cases h1 : p <;> by_cases h2 : q <;> by_cases h3 : r <;> by_cases h4 : s <;> simp [h1, h2, h3, h4]
theorem sheet_spec (f0 f1 f2 f3 : Int) : spec_l17Ok.f f0 f1 f2 f3 = some (decide (SheetOk f0 f1 f2 f3)) := by
  unfold spec_l17Ok.f
  rw [side_spec, side_spec, grow_spec, grow_spec]
  exact four_dec _ _ _ _
theorem sheet_impl (f0 f1 f2 f3 : Int) : impl_ValidSheet.f f0 f1 f2 f3 = some (decide (SheetOk f0 f1 f2 f3)) := by
  unfold impl_ValidSheet.f
  rw [side_impl, side_impl, grow_impl, grow_impl]
  exact four_dec _ _ _ _

theorem rd_T23_at (l : List S23) (i : Nat) (h : i < l.length) : rd_T23 l (i : Int) = l[i] := by
  unfold rd_T23
  rw [Int.toNat_natCast, List.getD_eq_getElem?_getD, List.getElem?_eq_getElem h]
  rfl

theorem rd_T28_at (l : List S28) (i : Nat) (h : i < l.length) : rd_T28 l (i : Int) = l[i] := by
  unfold rd_T28
  rw [Int.toNat_natCast, List.getD_eq_getElem?_getD, List.getElem?_eq_getElem h]
  rfl

def cvSheet (x : S23) : S28 := ⟨x.f0, x.f1, x.f2, x.f3⟩
theorem take_set_Sheet (x : List S28) (i : Nat) (v : S28) (h : i < x.length) : (x.set i v).take (i + 1) = x.take i ++ [v] := by
  rw [List.take_succ_eq_append_getElem (by simpa using h), List.getElem_set_self, List.take_set_of_le (Nat.le_refl _)]
theorem toSheet_l (l : List S23) (hl : l.length ≤ 1048576) (d : Nat) : ∀ (x : List S28) (i : Nat), i ≤ l.length → l.length - i = d → x.length = l.length → x.take i = (l.map cvSheet).take i → Ev (fun k => laws_toSheetS.l0 k l x i) (l.map cvSheet) := by
  induction d with
  | zero =>
    intro x i hi hd hx ht
    apply ev_succ
    simp only [laws_toSheetS.l0]
    rw [List.take_of_length_le (by omega), List.take_of_length_le (by simp; omega)] at ht
    simp only [if_neg (show ¬ (i : Int) < (l.length : Int) by omega)]
    rw [ht]
    exact ev_const rfl
  | succ d ih =>
    intro x i hi hd hx ht
    have hlt : i < l.length := by omega
    apply ev_succ
    simp only [laws_toSheetS.l0, laws_toSheet.f, Option.bind_some, if_pos (show (i : Int) < (l.length : Int) by omega), if_pos (show (0 : Int) ≤ (i : Int) by omega), if_pos (show (i : Int) < (x.length : Int) by omega), rd_T23_at _ _ hlt, w64 (x := (i : Int) + 1) (by omega) (by omega), Int.toNat_natCast]
    exact ih (x.set i (cvSheet l[i])) (i + 1) (by omega) (by omega) (by simpa using hx) (by rw [take_set_Sheet _ _ _ (by omega), List.take_succ_eq_append_getElem (by simpa using hlt), ht, List.getElem_map])
theorem toSheet_ev (l : List S23) (hl : l.length ≤ 1048576) : Ev (fun k => laws_toSheetS.f k l) (l.map cvSheet) := by
  refine Ev.congr (fun k => by unfold laws_toSheetS.f; rw [if_pos (by omega), if_pos (by omega)]) ?_
  exact toSheet_l l hl l.length _ 0 (by omega) (by omega) (by simp) (by simp)

theorem eqSheet_l (x : List S28) (hl : x.length ≤ 1048576) (d : Nat) : ∀ (i : Nat), i ≤ x.length → x.length - i = d → Ev (fun k => laws_eqSheetS.l0 k x x i) true := by
  induction d with
  | zero =>
    intro i hi hd
    apply ev_succ
    simp only [laws_eqSheetS.l0, if_neg (show ¬ (i : Int) < (x.length : Int) by omega)]
    exact ev_const rfl
  | succ d ih =>
    intro i hi hd
    apply ev_succ
    simp only [laws_eqSheetS.l0, laws_eqSheet.f, if_true, Option.bind_some, if_pos (show (i : Int) < (x.length : Int) by omega), if_pos (show (0 : Int) ≤ (i : Int) by omega), w64 (x := (i : Int) + 1) (by omega) (by omega)]
    exact ih (i + 1) (by omega) (by omega)
theorem eqSheet_ev (x : List S28) (hl : x.length ≤ 1048576) : Ev (fun k => laws_eqSheetS.f k x x) true := by
  unfold laws_eqSheetS.f
  simp only [if_true]
  exact eqSheet_l x hl x.length 0 (by omega) (by omega)

theorem szSheet_val (l : List S23) (hl : l.length ≤ maxLen) {a : Int} (h0 : 0 ≤ a) (h1 : a ≤ 1048576) : laws_szSheetS.f l a = some (-1) ∨ (laws_szSheetS.f l a = some (a - l.length) ∧ 0 ≤ a - l.length) := by
  unfold maxLen at hl
  unfold laws_szSheetS.f
  rw [w64 (x := a - (l.length : Int)) (by omega) (by omega)]
  by_cases h : a - (l.length : Int) < 0
  · left; rw [if_pos h]
  · right; rw [if_neg h]; exact ⟨rfl, by omega⟩

/-- The size of a number. -/
def av (z : Int) : Int := if z < 0 then -z else z
/-- How much two sheets grow differently. -/
def apV (x y : S28) : Int := av (x.f2 - y.f2) + av (x.f3 - y.f3)
def Grow (x : S28) : Prop := ((0 : Int) ≤ x.f2 ∧ x.f2 ≤ 100) ∧ ((0 : Int) ≤ x.f3 ∧ x.f3 ≤ 100)
theorem size_val {z : Int} (h0 : -1000 ≤ z) (h1 : z ≤ 1000) : spec_l00Size.f (wrap64 z) = some (av z) := by
  rw [w64 (by omega) (by omega)]
  unfold spec_l00Size.f av
  split
  · rw [w64 (by omega) (by omega)]
  · rfl
theorem abs_val {z : Int} (h0 : -1000 ≤ z) (h1 : z ≤ 1000) : impl_absolute.f (wrap64 z) = some (av z) := by
  rw [w64 (by omega) (by omega)]
  unfold impl_absolute.f av mx
  rw [w64 (by omega) (by omega)]
  congr 1
  split <;> split <;> omega
theorem av_bd {z : Int} (h0 : -1000 ≤ z) (h1 : z ≤ 1000) : 0 ≤ av z ∧ av z ≤ 1000 := by unfold av; split <;> omega
theorem apart_spec {x y : S28} (hx : Grow x) (hy : Grow y) : spec_l17Apart.f x.f0 x.f1 x.f2 x.f3 y.f0 y.f1 y.f2 y.f3 = some (apV x y) := by
  obtain ⟨a, b⟩ := hx
  obtain ⟨c, d⟩ := hy
  unfold spec_l17Apart.f
  rw [size_val (by omega) (by omega), size_val (by omega) (by omega)]
  simp only [Option.bind_some]
  have h1 := av_bd (z := x.f2 - y.f2) (by omega) (by omega)
  have h2 := av_bd (z := x.f3 - y.f3) (by omega) (by omega)
  rw [w64 (by omega) (by omega)]
  rfl
theorem apV_bd {x y : S28} (hx : Grow x) (hy : Grow y) : 0 ≤ apV x y ∧ apV x y ≤ 2000 := by
  obtain ⟨a, b⟩ := hx
  obtain ⟨c, d⟩ := hy
  have h1 := av_bd (z := x.f2 - y.f2) (by omega) (by omega)
  have h2 := av_bd (z := x.f3 - y.f3) (by omega) (by omega)
  unfold apV; omega
theorem inner (l : List S28) (hl : l.length ≤ 8) (hg : ∀ (j : Nat) (h : j < l.length), Grow l[j]) (i : Nat) (hi : i < l.length)
    (hout : ∀ (a b : Nat) (ha : a < l.length) (hb : b < l.length), ∃ r, Ev (fun k => spec_MatchSheets.l1 k l a b ((i + 1 : Nat) : Int)) r ∧ Ev (fun k => impl_MatchSheets.l1 k l a b (apV l[a] l[b]) l l.length ((i + 1 : Nat) : Int)) r) (d : Nat) :
    ∀ (c : Nat), c ≤ l.length → l.length - c = d → ∀ (a b : Nat) (ha : a < l.length) (hb : b < l.length),
      ∃ r, Ev (fun k => spec_MatchSheets.l2 k l a b i c) r ∧ Ev (fun k => impl_MatchSheets.l2 k l a b (apV l[a] l[b]) i c l l.length i l[i].f0 l[i].f1 l[i].f2 l[i].f3) r := by
  induction d with
  | zero =>
    intro c hc hd a b ha hb
    obtain ⟨r, h1, h2⟩ := hout a b ha hb
    refine ⟨r, ev_succ ?_, ev_succ ?_⟩
    · simp only [spec_MatchSheets.l2, if_neg (show ¬ (c : Int) < (l.length : Int) by omega), w64 (x := (i : Int) + 1) (by omega) (by omega)]
      exact h1
    · simp only [impl_MatchSheets.l2, if_neg (show ¬ (c : Int) < (l.length : Int) by omega), w64 (x := (i : Int) + 1) (by omega) (by omega)]
      exact h2
  | succ d ih =>
    intro c hc hd a b ha hb
    have hlt : c < l.length := by omega
    have g1 := hg i hi
    have g2 := hg c hlt
    have bd := apV_bd (hg a ha) (hg b hb)
    have bd2 := apV_bd g1 g2
    have e1 : impl_absolute.f (wrap64 (l[i].f2 - l[c].f2)) = some (av (l[i].f2 - l[c].f2)) := by have := g1.1; have := g2.1; exact abs_val (by omega) (by omega)
    have e2 : impl_absolute.f (wrap64 (l[i].f3 - l[c].f3)) = some (av (l[i].f3 - l[c].f3)) := by have := g1.2; have := g2.2; exact abs_val (by omega) (by omega)
    have e3 : wrap64 (av (l[i].f2 - l[c].f2) + av (l[i].f3 - l[c].f3)) = apV l[i] l[c] := by
      have := bd2
      unfold apV at this ⊢
      exact w64 (by omega) (by omega)
    by_cases hc2 : apV l[i] l[c] < apV l[a] l[b]
    · obtain ⟨r, h1, h2⟩ := ih (c + 1) (by omega) (by omega) i c hi hlt
      refine ⟨r, ev_succ ?_, ev_succ ?_⟩
      · simp only [spec_MatchSheets.l2, if_pos (show (c : Int) < (l.length : Int) by omega), if_pos (show (0 : Int) ≤ (i : Int) by omega), if_pos (show (i : Int) < (l.length : Int) by omega), if_pos (show (0 : Int) ≤ (c : Int) by omega), if_pos (show (0 : Int) ≤ (a : Int) by omega), if_pos (show (a : Int) < (l.length : Int) by omega), if_pos (show (0 : Int) ≤ (b : Int) by omega), if_pos (show (b : Int) < (l.length : Int) by omega), rd_T28_at _ _ hi, rd_T28_at _ _ hlt, rd_T28_at _ _ ha, rd_T28_at _ _ hb, apart_spec g1 g2, apart_spec (hg a ha) (hg b hb), Option.bind_some, if_pos hc2, w64 (x := (c : Int) + 1) (by omega) (by omega)]
        exact h1
      · simp only [impl_MatchSheets.l2, if_pos (show (c : Int) < (l.length : Int) by omega), if_pos (show (0 : Int) ≤ (c : Int) by omega), rd_T28_at _ _ hlt, e1, e2, Option.bind_some, e3, if_neg (show ¬ apV l[a] l[b] < 0 by omega), if_pos hc2, w64 (x := (c : Int) + 1) (by omega) (by omega)]
        exact h2
    · obtain ⟨r, h1, h2⟩ := ih (c + 1) (by omega) (by omega) a b ha hb
      refine ⟨r, ev_succ ?_, ev_succ ?_⟩
      · simp only [spec_MatchSheets.l2, if_pos (show (c : Int) < (l.length : Int) by omega), if_pos (show (0 : Int) ≤ (i : Int) by omega), if_pos (show (i : Int) < (l.length : Int) by omega), if_pos (show (0 : Int) ≤ (c : Int) by omega), if_pos (show (0 : Int) ≤ (a : Int) by omega), if_pos (show (a : Int) < (l.length : Int) by omega), if_pos (show (0 : Int) ≤ (b : Int) by omega), if_pos (show (b : Int) < (l.length : Int) by omega), rd_T28_at _ _ hi, rd_T28_at _ _ hlt, rd_T28_at _ _ ha, rd_T28_at _ _ hb, apart_spec g1 g2, apart_spec (hg a ha) (hg b hb), Option.bind_some, if_neg hc2, w64 (x := (c : Int) + 1) (by omega) (by omega)]
        exact h1
      · simp only [impl_MatchSheets.l2, if_pos (show (c : Int) < (l.length : Int) by omega), if_pos (show (0 : Int) ≤ (c : Int) by omega), rd_T28_at _ _ hlt, e1, e2, Option.bind_some, e3, if_neg (show ¬ apV l[a] l[b] < 0 by omega), if_neg hc2, w64 (x := (c : Int) + 1) (by omega) (by omega)]
        exact h2
theorem outer (l : List S28) (hl : l.length ≤ 8) (hg : ∀ (j : Nat) (h : j < l.length), Grow l[j]) (d : Nat) : ∀ (i : Nat), i ≤ l.length → l.length - i = d → ∀ (a b : Nat) (ha : a < l.length) (hb : b < l.length),
      ∃ r, Ev (fun k => spec_MatchSheets.l1 k l a b i) r ∧ Ev (fun k => impl_MatchSheets.l1 k l a b (apV l[a] l[b]) l l.length i) r := by
  induction d with
  | zero =>
    intro i hi hd a b ha hb
    refine ⟨((a : Int), (b : Int), 0), ev_succ ?_, ev_succ ?_⟩
    · simp only [spec_MatchSheets.l1, if_neg (show ¬ (i : Int) < (l.length : Int) by omega)]
      exact ev_const rfl
    · simp only [impl_MatchSheets.l1, if_neg (show ¬ (i : Int) < (l.length : Int) by omega)]
      exact ev_const rfl
  | succ d ih =>
    intro i hi hd a b ha hb
    have hlt : i < l.length := by omega
    obtain ⟨r, h1, h2⟩ := inner l hl hg i hlt (fun a b ha hb => ih (i + 1) (by omega) (by omega) a b ha hb) (l.length - (i + 1)) (i + 1) (by omega) rfl a b ha hb
    refine ⟨r, ev_succ ?_, ev_succ ?_⟩
    · simp only [spec_MatchSheets.l1, if_pos (show (i : Int) < (l.length : Int) by omega), w64 (x := (i : Int) + 1) (by omega) (by omega)]
      exact h1
    · simp only [impl_MatchSheets.l1, if_pos (show (i : Int) < (l.length : Int) by omega), if_pos (show (0 : Int) ≤ (i : Int) by omega), rd_T28_at _ _ hlt, w64 (x := (i : Int) + 1) (by omega) (by omega)]
      exact h2
theorem start (l : List S28) (hl : l.length ≤ 8) (h2 : 2 ≤ l.length) (hg : ∀ (j : Nat) (h : j < l.length), Grow l[j]) : ∃ r, Ev (fun k => spec_MatchSheets.l1 k l 0 1 0) r ∧ Ev (fun k => impl_MatchSheets.l1 k l 0 0 (-1) l l.length 0) r := by
  have g0 := hg 0 (by omega)
  have g1 := hg 1 (by omega)
  have p0 : 0 < l.length := by omega
  have p1 : 1 < l.length := by omega
  have bd := apV_bd g0 g1
  obtain ⟨r, h1, h2⟩ := inner l hl hg 0 p0 (fun a b ha hb => outer l hl hg (l.length - 1) 1 (by omega) rfl a b ha hb) (l.length - 2) 2 (by omega) rfl 0 1 p0 p1
  have e1 : impl_absolute.f (wrap64 (l[0].f2 - l[1].f2)) = some (av (l[0].f2 - l[1].f2)) := by have := g0.1; have := g1.1; exact abs_val (by omega) (by omega)
  have e2 : impl_absolute.f (wrap64 (l[0].f3 - l[1].f3)) = some (av (l[0].f3 - l[1].f3)) := by have := g0.2; have := g1.2; exact abs_val (by omega) (by omega)
  have e3 : wrap64 (av (l[0].f2 - l[1].f2) + av (l[0].f3 - l[1].f3)) = apV l[0] l[1] := by
    have := bd
    unfold apV at this ⊢
    exact w64 (by omega) (by omega)
  have r0 : rd_T28 l 0 = l[0] := rd_T28_at l 0 p0
  have r1 : rd_T28 l 1 = l[1] := rd_T28_at l 1 p1
  have w1 : wrap64 ((0 : Int) + 1) = 1 := w64 (by omega) (by omega)
  have w2 : wrap64 ((1 : Int) + 1) = 2 := w64 (by omega) (by omega)
  refine ⟨r, ev_succ ?_, ev_succ ?_⟩
  · simp only [spec_MatchSheets.l1, if_pos (show (0 : Int) < (l.length : Int) by omega), w1]
    refine ev_succ ?_
    simp only [spec_MatchSheets.l2, if_pos (show (1 : Int) < (l.length : Int) by omega), if_pos (show (0 : Int) ≤ 0 by omega), if_pos (show (0 : Int) < (l.length : Int) by omega), if_pos (show (0 : Int) ≤ 1 by omega), r0, r1, apart_spec g0 g1, Option.bind_some, if_neg (show ¬ apV l[0] l[1] < apV l[0] l[1] by omega), w2]
    exact h1
  · simp only [impl_MatchSheets.l1, if_pos (show (0 : Int) < (l.length : Int) by omega), if_pos (show (0 : Int) ≤ 0 by omega), r0, w1]
    refine ev_succ ?_
    simp only [impl_MatchSheets.l2, if_pos (show (1 : Int) < (l.length : Int) by omega), if_pos (show (0 : Int) ≤ 1 by omega), r1, e1, e2, e3, Option.bind_some, if_pos (show (-1 : Int) < 0 by omega), w2]
    exact h2
theorem match_l (l : List S28) (hl : l.length ≤ 1048576) (d : Nat) : ∀ (i : Nat), i ≤ l.length → l.length - i = d → (∀ (j : Nat) (h : j < l.length), j < i → Grow l[j]) →
    ∃ r, Ev (fun k => spec_MatchSheets.l0 k l i) r ∧ Ev (fun k => impl_MatchSheets.l0 k l l l.length i) r := by
  induction d with
  | zero =>
    intro i hi hd hg
    have key : ∃ r, Ev (fun k => if (l.length : Int) > 8 then (some (0, 0, 2)) else (if (l.length : Int) < 2 then (some (0, 0, 3)) else (spec_MatchSheets.l1 k l 0 1 0))) r ∧ Ev (fun k => if (l.length : Int) > 8 then (some (0, 0, 2)) else (if (l.length : Int) < 2 then (some (0, 0, 3)) else (impl_MatchSheets.l1 k l 0 0 (-1) l l.length 0))) r := by
      by_cases h8 : (l.length : Int) > 8
      · simp only [if_pos h8]; exact ⟨_, ev_const rfl, ev_const rfl⟩
      · simp only [if_neg h8]
        by_cases h2 : (l.length : Int) < 2
        · simp only [if_pos h2]; exact ⟨_, ev_const rfl, ev_const rfl⟩
        · simp only [if_neg h2]
          exact start l (by omega) (by omega) (fun j h => hg j h (by omega))
    obtain ⟨r, h1, h2⟩ := key
    refine ⟨r, ev_succ ?_, ev_succ ?_⟩
    · simp only [spec_MatchSheets.l0, if_neg (show ¬ (i : Int) < (l.length : Int) by omega)]
      exact h1
    · simp only [impl_MatchSheets.l0, if_neg (show ¬ (i : Int) < (l.length : Int) by omega)]
      exact h2
  | succ d ih =>
    intro i hi hd hg
    have hlt : i < l.length := by omega
    by_cases ok : SheetOk l[i].f0 l[i].f1 l[i].f2 l[i].f3
    · obtain ⟨r, h1, h2⟩ := ih (i + 1) (by omega) (by omega) (fun j h hj => by
        by_cases e : j = i
        · subst e; exact ⟨ok.2.2.1, ok.2.2.2⟩
        · exact hg j h (by omega))
      refine ⟨r, ev_succ ?_, ev_succ ?_⟩
      · simp only [spec_MatchSheets.l0, if_pos (show (i : Int) < (l.length : Int) by omega), if_pos (show (0 : Int) ≤ (i : Int) by omega), rd_T28_at _ _ hlt, sheet_spec, Option.bind_some, decide_eq_true ok, if_true, w64 (x := (i : Int) + 1) (by omega) (by omega)]
        exact h1
      · simp only [impl_MatchSheets.l0, if_pos (show (i : Int) < (l.length : Int) by omega), if_pos (show (0 : Int) ≤ (i : Int) by omega), rd_T28_at _ _ hlt, sheet_impl, Option.bind_some, decide_eq_true ok, if_true, w64 (x := (i : Int) + 1) (by omega) (by omega)]
        exact h2
    · refine ⟨(0, 0, 1), ev_succ ?_, ev_succ ?_⟩
      · simp only [spec_MatchSheets.l0, if_pos (show (i : Int) < (l.length : Int) by omega), if_pos (show (0 : Int) ≤ (i : Int) by omega), rd_T28_at _ _ hlt, sheet_spec, Option.bind_some, decide_eq_false ok, Bool.false_eq_true, if_false]
        exact ev_const rfl
      · simp only [impl_MatchSheets.l0, if_pos (show (i : Int) < (l.length : Int) by omega), if_pos (show (0 : Int) ≤ (i : Int) by omega), rd_T28_at _ _ hlt, sheet_impl, Option.bind_some, decide_eq_false ok, Bool.false_eq_true, if_false]
        exact ev_const rfl
theorem FnExactMatchSheets : laws_FnExactMatchSheets.Pure := by
  intro l hl hw
  apply Ev.rounds
  unfold laws_FnExactMatchSheets.f
  rcases szSheet_val l hl (a := 1048576) (by omega) (by omega) with e | ⟨e, e1⟩
  · simp only [e, Option.bind_some]; exact ev_const rfl
  · simp only [e, Option.bind_some, if_neg (show ¬ (1048576 - (l.length : Int) < 0) by omega)]
    have hto := toSheet_ev l (by omega)
    have hml : (l.map cvSheet).length ≤ 1048576 := by rw [List.length_map]; omega
    obtain ⟨r, h1, h2⟩ := match_l (l.map cvSheet) hml (l.map cvSheet).length 0 (by omega) (by omega) (fun j h hj => absurd hj (by omega))
    refine Ev.bind hto (Ev.bind (show Ev (fun k => spec_MatchSheets.f k (l.map cvSheet)) r from h1) (Ev.bind hto (Ev.bind (show Ev (fun k => impl_MatchSheets.f k (l.map cvSheet)) r from h2) ?_)))
    simp only [if_true, bne_self_eq_false]
    refine ev_succ ?_
    simp only [laws_FnExactMatchSheets.j0, Bool.false_eq_true, if_false]
    refine Ev.bind hto (Ev.bind (eqSheet_ev _ hml) ?_)
    simp only [if_true]
    exact ev_const rfl

end Go.Proofs.Ytoehbcdhplagfaa.Pure
