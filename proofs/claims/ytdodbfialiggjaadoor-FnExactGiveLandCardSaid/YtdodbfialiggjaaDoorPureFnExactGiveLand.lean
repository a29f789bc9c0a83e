/- FnExactGiveLand: the program's GiveLand and the reference's come to the same rows and code, for all grids and lands. -/
import Derived.Test.YtdodbfialiggjaaDoorStatFnExactGiveLand
namespace Go.Proofs.YtdodbfialiggjaaDoor.Pure
open Go.RowKit Go.Proofs.YtdodbfialiggjaaDoor.PFnExactGiveLand Go.Proofs.YtdodbfialiggjaaDoorW.PrintWords Go.Proofs.YtdodbfialiggjaaDoorW.PrintLast Go.Proofs.YtdodbfialiggjaaDoorW.PrintMore
set_option linter.unusedVariables false
set_option linter.unusedSimpArgs false
theorem wfb {a : Int} (h : (Lit.int .i64 a).wf = true) : -9223372036854775808 ≤ a ∧ a ≤ 9223372036854775807 := by
  simpa [Lit.wf, IntKind.min, IntKind.max, IntKind.signed, IntKind.bits] using h
theorem w64 {x : Int} (h : -9223372036854775808 ≤ x) (h2 : x ≤ 9223372036854775807) : wrap64 x = x := by unfold wrap64; omega
theorem tdiv_nn {a b : Int} (h : 0 ≤ a) : Int.tdiv a b = a / b := Int.tdiv_eq_ediv_of_nonneg h
theorem tmod_nn {a b : Int} (h : 0 ≤ a) : Int.tmod a b = a % b := Int.tmod_eq_emod_of_nonneg h
theorem floor_val (a b : Int) (hb : 0 < b) : (if Int.tmod a b < 0 then Int.tdiv a b - 1 else Int.tdiv a b) = a / b := by
  have h1 := Int.mul_tdiv_add_tmod a b
  have hlt : Int.tmod a b < b := Int.tmod_lt_of_pos a hb
  have hgt : -b < Int.tmod a b := by
    have h2 := Int.tmod_lt_of_pos (-a) hb
    rw [Int.neg_tmod] at h2
    omega
  symm
  split
  · rename_i hneg
    refine ((Int.ediv_emod_unique hb (r := Int.tmod a b + b)).2 ⟨?_, by omega, by omega⟩).1
    rw [Int.mul_sub, Int.mul_one]
    omega
  · rename_i hneg
    exact ((Int.ediv_emod_unique hb (r := Int.tmod a b)).2 ⟨by omega, by omega, by omega⟩).1
theorem ediv_bd {a b : Int} (hb : 0 < b) (B : Int) (h0 : -B ≤ a) (h1 : a ≤ B) (hB : 0 ≤ B) : -B ≤ a / b ∧ a / b ≤ B := by
  constructor
  · rw [Int.le_ediv_iff_mul_le hb]
    have : B * 1 ≤ B * b := Int.mul_le_mul_of_nonneg_left (by omega) hB
    rw [Int.neg_mul]; omega
  · have h2 : a / b ≤ B / b := Int.ediv_le_ediv hb h1
    have h3 : B / b ≤ B := Int.ediv_le_self b hB
    omega
theorem ceil_alt (a b : Int) (hb : 0 < b) : (a + b - 1) / b = -((-a) / b) := by
  have h1 := Int.mul_ediv_add_emod (-a) b
  have h2 := Int.emod_nonneg (-a) (b := b) (by omega)
  have h3 := Int.emod_lt_of_pos (-a) hb
  refine ((Int.ediv_emod_unique hb (r := b - 1 - (-a) % b)).2 ⟨?_, by omega, by omega⟩).1
  rw [Int.mul_neg]
  omega

theorem ev_succ {α : Type} {g : Nat → Option α} {r : α} (h : Ev (fun k => g (k + 1)) r) : Ev g r := Ev.step (fun _ => rfl) h
theorem ev_const {α : Type} {g : Option α} {r : α} (h : g = some r) : Ev (fun _ => g) r := ⟨0, fun _ _ => h⟩
theorem ev_uniq {α : Type} {g : Nat → Option α} {a b : α} (h : Ev g a) (h' : Ev g b) : a = b := by
  obtain ⟨K, h⟩ := h
  obtain ⟨K', h'⟩ := h'
  have h1 := h (K + K') (by omega)
  rw [h' (K + K') (by omega)] at h1
  exact (Option.some.inj h1).symm

theorem toList_inj {a b : ByteArray} : a.toList = b.toList ↔ a = b := by
  constructor
  · intro h
    rw [ByteArray.toList_eq, ByteArray.toList_eq] at h
    obtain ⟨⟨x⟩⟩ := a
    obtain ⟨⟨y⟩⟩ := b
    simp at h
    rw [h]
  · intro h; rw [h]
def sizes (l : List ByteArray) : Int := (l.map (fun s => (s.size : Int))).sum
theorem sizes_cons (s : ByteArray) (l : List ByteArray) : sizes (s :: l) = s.size + sizes l := by simp [sizes]
theorem sizes_nn (l : List ByteArray) : 0 ≤ sizes l := by
  induction l with
  | nil => simp [sizes]
  | cons s l ih => rw [sizes_cons]; omega
theorem sizes_drop (l : List ByteArray) (i : Nat) (h : i < l.length) : sizes (l.drop i) = (l[i]).size + sizes (l.drop (i + 1)) := by
  rw [List.drop_eq_getElem_cons h, sizes_cons]
theorem rdOf_at (d : ByteArray) (l : List ByteArray) (i : Nat) (h : i < l.length) : rdOf d l (i : Int) = l[i] := by
  unfold rdOf
  rw [Int.toNat_natCast, List.getD_eq_getElem?_getD, List.getElem?_eq_getElem h]
  rfl

theorem sz_l (l : List ByteArray) (hl : l.length ≤ maxLen) (hs : ∀ y ∈ l, y.size ≤ maxLen) (d : Nat) : ∀ (k : Nat) (a : Int) (i : Nat), i ≤ l.length → l.length - i = d → d < k → 0 ≤ a → a ≤ 1048576 →
    (a - sizes (l.drop i) < 0 ∧ laws_szStringS.l0 k l a i = some (-1)) ∨ (0 ≤ a - sizes (l.drop i) ∧ laws_szStringS.l0 k l a i = some (a - sizes (l.drop i))) := by
  unfold maxLen at hl hs
  induction d with
  | zero =>
    intro k a i hi hd hk h0 h1
    obtain ⟨k, rfl⟩ : ∃ m, k = m + 1 := ⟨k - 1, by omega⟩
    obtain rfl : i = l.length := by omega
    rw [List.drop_length]
    right
    simp only [laws_szStringS.l0, sizes, List.map_nil, List.sum_nil]
    rw [if_neg (by omega)]
    exact ⟨by omega, by congr 1; omega⟩
  | succ d ih =>
    intro k a i hi hd hk h0 h1
    obtain ⟨k, rfl⟩ : ∃ m, k = m + 1 := ⟨k - 1, by omega⟩
    have hlt : i < l.length := by omega
    have hsz := hs l[i] (List.getElem_mem hlt)
    have hnn := sizes_nn (l.drop (i + 1))
    rw [sizes_drop l i hlt]
    simp only [laws_szStringS.l0]
    rw [if_pos (by omega), if_pos (by omega), rdOf_at _ _ _ hlt, w64 (x := a - (l[i].size : Int)) (by omega) (by omega)]
    by_cases hn : a - (l[i].size : Int) < 0
    · left
      rw [if_pos hn]
      exact ⟨by omega, rfl⟩
    · rw [if_neg hn, w64 (x := (i : Int) + 1) (by omega) (by omega)]
      have := ih k (a - l[i].size) (i + 1) (by omega) (by omega) (by omega) (by omega) (by omega)
      rw [show ((i : Int) + 1) = ((i + 1 : Nat) : Int) from by omega]
      rw [show a - ((l[i].size : Int) + sizes (l.drop (i + 1))) = a - (l[i].size : Int) - sizes (l.drop (i + 1)) from by omega]
      exact this
/-- The count of a list of strings: none is left (the law then says nothing), or the list is short. -/
theorem sz_val (l : List ByteArray) (hl : l.length ≤ maxLen) (hs : ∀ y ∈ l, y.size ≤ maxLen) {a : Int} (h0 : 0 ≤ a) (h1 : a ≤ 1048576) {k : Nat} (hk : l.length < k) :
    laws_szStringS.f k l a = some (-1) ∨ (laws_szStringS.f k l a = some (a - l.length - sizes l) ∧ 0 ≤ a - l.length - sizes l) := by
  have h2 := hl
  unfold maxLen at h2
  unfold laws_szStringS.f
  rw [w64 (x := a - (l.length : Int)) (by omega) (by omega)]
  by_cases h : a - (l.length : Int) < 0
  · left; rw [if_pos h]
  · rw [if_neg h]
    rcases sz_l l hl hs l.length k (a - l.length) 0 (by omega) (by omega) hk (by omega) (by omega) with ⟨_, e⟩ | ⟨e1, e⟩
    · left; exact e
    · right
      rw [List.drop_zero] at e1 e
      exact ⟨e, e1⟩

theorem take_set_succ {α : Type} (x : List α) (i : Nat) (v : α) (h : i < x.length) : (x.set i v).take (i + 1) = x.take i ++ [v] := by
  rw [List.take_succ_eq_append_getElem (by simpa using h), List.getElem_set_self, List.take_set_of_le (Nat.le_refl _)]
theorem take_succ_get {α : Type} (x : List α) (i : Nat) (h : i < x.length) : x.take (i + 1) = x.take i ++ [x[i]] := List.take_succ_eq_append_getElem h
theorem tos_l (l : List ByteArray) (hl : l.length ≤ 17592186044416) (d : Nat) : ∀ (k : Nat) (x : List ByteArray) (i : Nat), i ≤ l.length → l.length - i = d → d < k → x.length = l.length → x.take i = l.take i → laws_toStringS.l0 k l x i = some l := by
  induction d with
  | zero =>
    intro k x i hi hd hk hx ht
    obtain ⟨k, rfl⟩ : ∃ m, k = m + 1 := ⟨k - 1, by omega⟩
    simp only [laws_toStringS.l0]
    rw [if_neg (by omega)]
    rw [List.take_of_length_le (by omega), List.take_of_length_le (by omega)] at ht
    rw [ht]
  | succ d ih =>
    intro k x i hi hd hk hx ht
    obtain ⟨k, rfl⟩ : ∃ m, k = m + 1 := ⟨k - 1, by omega⟩
    have hlt : i < l.length := by omega
    simp only [laws_toStringS.l0]
    rw [if_pos (by omega), if_pos (by omega), if_pos (by omega), rdOf_at _ _ _ hlt, w64 (x := (i : Int) + 1) (by omega) (by omega), Int.toNat_natCast]
    have := ih k (x.set i l[i]) (i + 1) (by omega) (by omega) (by omega) (by simpa using hx) (by rw [take_set_succ _ _ _ (by omega), take_succ_get l i hlt, ht])
    exact this
theorem tos_val (l : List ByteArray) (hl : l.length ≤ 17592186044416) {k : Nat} (hk : l.length < k) : laws_toStringS.f k l = some l := by
  unfold laws_toStringS.f
  rw [if_pos (by omega), if_pos (by simpa using hl)]
  exact tos_l l hl l.length k _ 0 (by omega) (by omega) hk (by simp) (by simp)

theorem getElem_ext {α : Type} {x y : List α} (h : x.length = y.length) (d : Nat) (i : Nat) (hi : i < x.length) : (x.drop i = y.drop i) ↔ (x[i] = y[i] ∧ x.drop (i + 1) = y.drop (i + 1)) := by
  rw [List.drop_eq_getElem_cons hi, List.drop_eq_getElem_cons (show i < y.length by omega), List.cons.injEq]
theorem eqs_l (x y : List ByteArray) (h : x.length = y.length) (hl : x.length ≤ maxLen) (d : Nat) : ∀ (k : Nat) (i : Nat), i ≤ x.length → x.length - i = d → d < k → laws_eqStringS.l0 k x y i = some (decide (x.drop i = y.drop i)) := by
  unfold maxLen at hl
  induction d with
  | zero =>
    intro k i hi hd hk
    obtain ⟨k, rfl⟩ : ∃ m, k = m + 1 := ⟨k - 1, by omega⟩
    simp only [laws_eqStringS.l0]
    rw [if_neg (by omega), List.drop_eq_nil_of_le (by omega), List.drop_eq_nil_of_le (by omega)]
    simp
  | succ d ih =>
    intro k i hi hd hk
    obtain ⟨k, rfl⟩ : ∃ m, k = m + 1 := ⟨k - 1, by omega⟩
    have hlt : i < x.length := by omega
    simp only [laws_eqStringS.l0]
    rw [if_pos (by omega), if_pos (by omega), if_pos (by omega), rdOf_at _ _ _ hlt, rdOf_at _ _ _ (by omega), w64 (x := (i : Int) + 1) (by omega) (by omega)]
    simp only [toList_inj]
    have e := getElem_ext h d i hlt
    by_cases hq : x[i] = y[i]
    · rw [if_pos hq]
      have := ih k (i + 1) (by omega) (by omega) (by omega)
      rw [show ((i : Int) + 1) = ((i + 1 : Nat) : Int) from by omega, this]
      congr 1
      rw [decide_eq_decide, e]
      simp [hq]
    · rw [if_neg hq]
      congr 1
      symm
      rw [decide_eq_false_iff_not, e]
      exact fun h => hq h.1
theorem eqs_val (x y : List ByteArray) (hl : x.length ≤ maxLen) {k : Nat} (hk : x.length < k) : laws_eqStringS.f k x y = some (decide (x = y)) := by
  unfold laws_eqStringS.f
  by_cases h : x.length = y.length
  · rw [if_pos (by omega)]
    have := eqs_l x y h hl x.length k 0 (by omega) (by omega) hk
    simpa using this
  · rw [if_neg (by omega)]
    congr 1; symm
    rw [decide_eq_false_iff_not]
    exact fun e => h (by rw [e])

theorem szs_ev (l : List ByteArray) (hl : l.length ≤ maxLen) (hs : ∀ y ∈ l, y.size ≤ maxLen) {a : Int} (h0 : 0 ≤ a) (h1 : a ≤ 1048576) :
    Ev (fun k => laws_szStringS.f k l a) (-1) ∨ ∃ b, Ev (fun k => laws_szStringS.f k l a) b ∧ 0 ≤ b ∧ b ≤ a - l.length := by
  have hn := sizes_nn l
  rcases sz_val l hl hs h0 h1 (k := l.length + 1) (by omega) with e | ⟨e, e1⟩
  · exact .inl (Ev.of (fun k => laws_szStringS.mono l a k) e)
  · exact .inr ⟨_, Ev.of (fun k => laws_szStringS.mono l a k) e, e1, by omega⟩
theorem tos_ev (l : List ByteArray) (hl : l.length ≤ 1048576) : Ev (fun k => laws_toStringS.f k l) l := ⟨l.length + 1, fun _ hk => tos_val l (by omega) (by omega)⟩
theorem eqs_ev (x : List ByteArray) (hl : x.length ≤ 1048576) : Ev (fun k => laws_eqStringS.f k x x) true := by
  have hm : x.length ≤ maxLen := by unfold maxLen; omega
  exact ⟨x.length + 1, fun k hk => by show laws_eqStringS.f k x x = some true; rw [eqs_val x x hm (by omega)]; simp⟩

theorem markText_l (d : Nat) : ∀ (a : Int) (s : ByteArray), 0 ≤ a → a ≤ d → (s.size : Int) + a ≤ 8000000 → ∃ t, Ev (fun k => laws_markText.l0 k a s) t := by
  induction d with
  | zero =>
    intro a s h0 h1 h2
    refine ⟨(⟨#[109]⟩ : ByteArray) ++ s, ev_succ ?_⟩
    simp only [laws_markText.l0, if_neg (show ¬ a > 0 by omega), if_pos (show 1 + s.size ≤ 9223372036854775807 by omega)]
    exact ev_const rfl
  | succ d ih =>
    intro a s h0 h1 h2
    by_cases ha : a > 0
    · have hq : a / 10 < a := Int.ediv_lt_of_lt_mul (by omega) (by omega)
      have hq0 : 0 ≤ a / 10 := Int.ediv_nonneg h0 (by omega)
      obtain ⟨t, ht⟩ := ih (a / 10) (strOfNums [(wrap64 (48 + (Int.tmod a 10))) % 256] ++ s) hq0 (by omega) (by rw [ByteArray.size_append, strOfNums_size, List.length_singleton]; omega)
      refine ⟨t, ev_succ ?_⟩
      simp only [laws_markText.l0, if_pos ha, Option.bind_some, if_pos (show (strOfNums [(wrap64 (48 + (Int.tmod a 10))) % 256]).size + s.size ≤ 9223372036854775807 by rw [strOfNums_size, List.length_singleton]; omega), tdiv_nn h0, w64 (x := a / 10) (by omega) (by omega)]
      exact ht
    · refine ⟨(⟨#[109]⟩ : ByteArray) ++ s, ev_succ ?_⟩
      simp only [laws_markText.l0, if_neg ha, if_pos (show 1 + s.size ≤ 9223372036854775807 by omega)]
      exact ev_const rfl
theorem markText_ev {a : Int} (h0 : 0 ≤ a) (h1 : a ≤ 7000000) : ∃ t, Ev (fun k => laws_markText.f k a) t := by
  unfold laws_markText.f
  by_cases h : a ≤ 0
  · simp only [if_pos h]; exact ⟨_, ev_const rfl⟩
  · simp only [if_neg h]
    exact markText_l a.toNat a _ h0 (by omega) (by simp only [ByteArray.size, List.size_toArray, List.length_nil]; omega)

theorem markS_l (n : Nat) (hn : n ≤ 1048576) (d : Nat) : ∀ (x : List ByteArray) (a : Int) (i : Nat), x.length = n → i ≤ n → n - i = d → 0 ≤ a → a ≤ 4000000 + (i : Int) →
    ∃ b y, Ev (fun k => laws_markStringS.l0 k x a i) (b, y) ∧ a ≤ b ∧ b ≤ a + ((n : Int) - i) := by
  induction d with
  | zero =>
    intro x a i hx hi hd h0 h1
    refine ⟨a, x, ev_succ ?_, Int.le_refl _, by omega⟩
    simp only [laws_markStringS.l0, if_neg (show ¬ (i : Int) < (x.length : Int) by omega)]
    exact ev_const rfl
  | succ d ih =>
    intro x a i hx hi hd h0 h1
    obtain ⟨t, ht⟩ := markText_ev h0 (show a ≤ 7000000 by omega)
    obtain ⟨b, y, e, hb, hb2⟩ := ih (x.set i t) (a + 1) (i + 1) (by simpa using hx) (by omega) (by omega) (by omega) (by omega)
    refine ⟨b, y, ev_succ ?_, by omega, by omega⟩
    simp only [laws_markStringS.l0, if_pos (show (i : Int) < (x.length : Int) by omega), if_pos (show (0 : Int) ≤ (i : Int) by omega), Int.toNat_natCast, w64 (x := a + 1) (by omega) (by omega), w64 (x := (i : Int) + 1) (by omega) (by omega)]
    exact Ev.bind ht e
theorem markS_ev (x : List ByteArray) (hn : x.length ≤ 1048576) {a : Int} (h0 : 0 ≤ a) (h1 : a ≤ 4000000) : ∃ b y, Ev (fun k => laws_markStringS.f k x a) (b, y) ∧ a ≤ b ∧ b ≤ a + x.length := by
  obtain ⟨b, y, e, hb, hb2⟩ := markS_l x.length hn x.length x a 0 rfl (by omega) (by omega) h0 (by omega)
  exact ⟨b, y, e, hb, by omega⟩

theorem markH_l (n : Nat) (hn : n ≤ 1048576) (d : Nat) : ∀ (x : List ByteArray) (a : Int) (i : Nat), x.length = n → i ≤ n → n - i = d → 0 ≤ a → a ≤ 4000000 + (i : Int) →
    ∃ b y, Ev (fun k => laws_markStringS.l0 k x a i) (b, y) ∧ Ev (fun k => laws_heldStringS.l0 k y a i) b ∧ y.length = n ∧ y.take i = x.take i ∧ 0 ≤ b := by
  induction d with
  | zero =>
    intro x a i hx hi hd h0 h1
    refine ⟨a, x, ev_succ ?_, ev_succ ?_, hx, rfl, h0⟩
    · simp only [laws_markStringS.l0, if_neg (show ¬ (i : Int) < (x.length : Int) by omega)]
      exact ev_const rfl
    · simp only [laws_heldStringS.l0, if_neg (show ¬ (i : Int) < (x.length : Int) by omega)]
      exact ev_const rfl
  | succ d ih =>
    intro x a i hx hi hd h0 h1
    have hlt : i < x.length := by omega
    obtain ⟨t, ht⟩ := markText_ev h0 (show a ≤ 7000000 by omega)
    obtain ⟨b, y, e1, e2, hy, hk, hb⟩ := ih (x.set i t) (a + 1) (i + 1) (by simpa using hx) (by omega) (by omega) (by omega) (by omega)
    have hyl : i < y.length := by omega
    have hyi : y[i] = t := by
      have h2 : y[i] = (y.take (i + 1))[i]'(by rw [List.length_take]; omega) := by rw [List.getElem_take]
      rw [h2]
      simp only [hk, List.getElem_take, List.getElem_set_self]
    refine ⟨b, y, ev_succ ?_, ev_succ ?_, hy, ?_, hb⟩
    · simp only [laws_markStringS.l0, if_pos (show (i : Int) < (x.length : Int) by omega), if_pos (show (0 : Int) ≤ (i : Int) by omega), Int.toNat_natCast, w64 (x := a + 1) (by omega) (by omega), w64 (x := (i : Int) + 1) (by omega) (by omega)]
      exact Ev.bind ht e1
    · simp only [laws_heldStringS.l0, if_pos (show (i : Int) < (y.length : Int) by omega), if_pos (show (0 : Int) ≤ (i : Int) by omega), rdOf_at _ _ _ hyl, hyi, w64 (x := a + 1) (by omega) (by omega), w64 (x := (i : Int) + 1) (by omega) (by omega)]
      refine Ev.bind ht ?_
      simp only [if_true]
      exact e2
    · have h3 : y.take i = (y.take (i + 1)).take i := by rw [List.take_take]; congr 1; omega
      rw [h3, hk, List.take_take, Nat.min_eq_left (by omega), List.take_set_of_le (Nat.le_refl _)]
theorem markH_ev (x : List ByteArray) (hn : x.length ≤ 1048576) {a : Int} (h0 : 0 ≤ a) (h1 : a ≤ 4000000) : ∃ b y, Ev (fun k => laws_markStringS.f k x a) (b, y) ∧ Ev (fun k => laws_heldStringS.f k y a) b ∧ y.length = x.length ∧ 0 ≤ b := by
  obtain ⟨b, y, e1, e2, hy, _, hb⟩ := markH_l x.length hn x.length x a 0 rfl (by omega) (by omega) h0 (by omega)
  exact ⟨b, y, e1, e2, hy, hb⟩

/-- A byte that a name may have. -/
def nameC (c : Int) : Prop := ((97 : Int) ≤ c ∧ c ≤ 122) ∨ ((48 : Int) ≤ c ∧ c ≤ 57) ∨ c = 45
instance instNameC (c : Int) : Decidable (nameC c) := by unfold nameC; infer_instance
/-- A name. -/
def IsNm (s : ByteArray) : Prop := 1 ≤ s.size ∧ s.size ≤ 12 ∧ ((97 : Int) ≤ bt s 0 ∧ bt s 0 ≤ 122) ∧ ∀ i, i < s.size → nameC (bt s (i : Int))
instance instIsNm (s : ByteArray) : Decidable (IsNm s) := by unfold IsNm; infer_instance
theorem toList_nil (s : ByteArray) : s.toList = ([] : List UInt8) ↔ s.size = 0 := by
  rw [ByteArray.toList_eq]
  obtain ⟨⟨x⟩⟩ := s
  show x = [] ↔ x.length = 0
  rw [List.length_eq_zero_iff]
theorem bt_at (s : ByteArray) (i : Nat) (h : i < s.size) : bt s (i : Int) = ((s.data.toList[i]'(by simpa using h)).toNat : Int) := by
  unfold bt
  rw [dif_pos (by simpa using h)]
  rfl
open Classical in

theorem dw_nil (p : UInt8 → Bool) (l : List UInt8) : l.dropWhile p = [] ↔ ∀ b ∈ l, p b = true := by
  induction l with
  | nil => simp
  | cons a l ih =>
    by_cases h : p a = true
    · simp [List.dropWhile, h, ih]
    · simp [List.dropWhile, h]
theorem dw_head (p : UInt8 → Bool) (l : List UInt8) (x : UInt8) (xs : List UInt8) (h : l.dropWhile p = x :: xs) : p x = false := by
  induction l with
  | nil => simp at h
  | cons a l ih =>
    by_cases h2 : p a = true
    · simp only [List.dropWhile, h2] at h
      exact ih h
    · have h3 : p a = false := by simpa using h2
      simp only [List.dropWhile, h3, List.cons.injEq] at h
      rw [← h.1]; exact h3
theorem trimS_nil (l cs : List UInt8) : Go.Lib.trimS l cs = [] ↔ ∀ b ∈ l, cs.contains b = true := by
  unfold Go.Lib.trimS Go.Lib.trimLeftS Go.Lib.trimRightS
  rw [dw_nil]
  constructor
  · intro h b hb
    cases e : l.reverse.dropWhile (cs.contains ·) with
    | nil =>
      rw [dw_nil] at e
      exact e b (by simpa using hb)
    | cons x xs =>
      exfalso
      have h1 := dw_head _ _ _ _ e
      have h2 := h x (by rw [e]; simp)
      rw [h2] at h1
      cases h1
  · intro h b hb
    exact h b (by simpa using (List.dropWhile_sublist _).subset (List.mem_reverse.1 hb))

theorem gin_val (a b c : Int) : spec_l00In.f a b c = some (decide (b ≤ a ∧ a ≤ c)) := by
  unfold spec_l00In.f
  by_cases h : a ≥ b
  · rw [if_pos h]
    congr 1
    rw [decide_eq_decide]
    omega
  · rw [if_neg h]
    congr 1
    symm
    rw [decide_eq_false_iff_not]
    omega
theorem small_val (b : Int) : spec_l01Small.f b = some (decide (97 ≤ b ∧ b ≤ 122)) := by
  unfold spec_l01Small.f
  by_cases h : b ≥ 97
  · rw [if_pos h]
    congr 1
    rw [decide_eq_decide]
    omega
  · rw [if_neg h]
    congr 1
    symm
    rw [decide_eq_false_iff_not]
    omega
/-- A byte of a grid. -/
def cellB (b : UInt8) : Bool := decide ((b.toNat : Int) = 46 ∨ (97 ≤ (b.toNat : Int) ∧ (b.toNat : Int) ≤ 122))
/-- A row of a grid that is n wide. -/
def rowB (n : Nat) (r : ByteArray) : Bool := decide (r.size = n ∧ 1 ≤ r.size ∧ r.size ≤ 32) && r.data.toList.all cellB
def wideL (l : List ByteArray) : Nat := (rdOf ByteArray.empty l 0).size
/-- A grid. -/
def gridB (l : List ByteArray) : Bool := decide (1 ≤ l.length ∧ l.length ≤ 16) && l.all (rowB (wideL l))
theorem dsize (r : ByteArray) : r.data.toList.length = r.size := by rw [Array.length_toList]; rfl
theorem ok_l (l : List ByteArray) (hl : l.length ≤ 16) (d : Nat) : ∀ i : Nat, i ≤ l.length → l.length - i = d → Ev (fun k => spec_l12Ok.l0 k l i) ((l.drop i).all (rowB (wideL l))) := by
  induction d with
  | zero =>
    intro i hi hd
    apply ev_succ
    simp only [spec_l12Ok.l0, if_neg (show ¬ (i : Int) < (l.length : Int) by omega)]
    rw [List.drop_eq_nil_of_le (by omega)]
    exact ev_const rfl
  | succ d ih =>
    intro i hi hd
    have hlt : i < l.length := by omega
    have hih := ih (i + 1) (by omega) (by omega)
    rw [List.drop_eq_getElem_cons hlt, List.all_cons]
    apply ev_succ
    simp only [spec_l12Ok.l0, if_pos (show (i : Int) < (l.length : Int) by omega), if_pos (show (0 : Int) ≤ (i : Int) by omega), if_pos (show (0 : Int) < (l.length : Int) by omega), rdOf_at _ _ _ hlt, gin_val, Option.bind_some]
    by_cases h1 : (l[i].size : Int) = ((rdOf ByteArray.empty l 0).size : Int)
    · simp only [if_pos h1]
      by_cases h2 : 1 ≤ (l[i].size : Int) ∧ (l[i].size : Int) ≤ 32
      · rw [decide_eq_true h2]
        apply ev_succ
        simp only [spec_l12Ok.j1, Bool.not_true, Bool.false_eq_true, if_false]
        have row : ∀ (e : Nat) (m : Nat), m ≤ l[i].size → l[i].size - m = e → Ev (fun k => spec_l12Ok.l1 k l i m) ((l[i].data.toList.drop m).all cellB && (l.drop (i + 1)).all (rowB (wideL l))) := by
          intro e
          induction e with
          | zero =>
            intro m hm he
            apply ev_succ
            simp only [spec_l12Ok.l1, if_pos (show (0 : Int) ≤ (i : Int) by omega), if_pos (show (i : Int) < (l.length : Int) by omega), rdOf_at _ _ _ hlt, if_neg (show ¬ (m : Int) < (l[i].size : Int) by omega), w64 (x := (i : Int) + 1) (by omega) (by omega)]
            rw [List.drop_eq_nil_of_le (by rw [dsize]; omega)]
            exact hih
          | succ e ih2 =>
            intro m hm he
            have hm2 : m < l[i].size := by omega
            have hm3 : m < l[i].data.toList.length := by rw [dsize]; exact hm2
            have h3 := ih2 (m + 1) (by omega) (by omega)
            rw [List.drop_eq_getElem_cons hm3, List.all_cons]
            apply ev_succ
            simp only [spec_l12Ok.l1, if_pos (show (0 : Int) ≤ (i : Int) by omega), if_pos (show (i : Int) < (l.length : Int) by omega), rdOf_at _ _ _ hlt, if_pos (show (m : Int) < (l[i].size : Int) by omega), if_pos (show (0 : Int) ≤ (m : Int) by omega), bt_at _ _ hm2, small_val, Option.bind_some, w64 (x := (m : Int) + 1) (by omega) (by omega)]
            by_cases h4 : ((l[i].data.toList[m]).toNat : Int) = 46
            · simp only [if_pos h4]
              rw [show cellB (l[i].data.toList[m]) = true from decide_eq_true (Or.inl h4), Bool.true_and]
              exact h3
            · simp only [if_neg h4]
              by_cases h5 : 97 ≤ ((l[i].data.toList[m]).toNat : Int) ∧ ((l[i].data.toList[m]).toNat : Int) ≤ 122
              · rw [decide_eq_true h5, show cellB (l[i].data.toList[m]) = true from decide_eq_true (Or.inr h5), Bool.true_and]
                simp only [if_true]
                exact h3
              · rw [decide_eq_false h5, show cellB (l[i].data.toList[m]) = false from decide_eq_false (fun h => h.elim h4 h5), Bool.false_and, Bool.false_and]
                simp only [Bool.false_eq_true, if_false]
                exact ev_const rfl
        have := row l[i].size 0 (by omega) (by omega)
        rw [List.drop_zero] at this
        rw [show rowB (wideL l) l[i] = l[i].data.toList.all cellB by unfold rowB wideL; rw [decide_eq_true ⟨by omega, by omega, by omega⟩, Bool.true_and]]
        exact this
      · rw [decide_eq_false h2]
        apply ev_succ
        simp only [spec_l12Ok.j1, Bool.not_false, if_true]
        rw [show rowB (wideL l) l[i] = false by unfold rowB; rw [decide_eq_false (fun h => h2 ⟨by omega, by omega⟩), Bool.false_and], Bool.false_and]
        exact ev_const rfl
    · simp only [if_neg h1]
      apply ev_succ
      simp only [spec_l12Ok.j1, if_true]
      rw [show rowB (wideL l) l[i] = false by unfold rowB; rw [decide_eq_false (fun h => h1 (by have := h.1; unfold wideL at this; omega)), Bool.false_and], Bool.false_and]
      exact ev_const rfl
theorem ok_ev (l : List ByteArray) : Ev (fun k => spec_l12Ok.f k l) (gridB l) := by
  unfold spec_l12Ok.f gridB
  simp only [gin_val, Option.bind_some]
  by_cases h : (1 : Int) ≤ (l.length : Int) ∧ (l.length : Int) ≤ 16
  · rw [decide_eq_true h, decide_eq_true ⟨by omega, by omega⟩, Bool.true_and]
    simp only [if_true]
    have := ok_l l (by omega) l.length 0 (by omega) (by omega)
    simpa using this
  · rw [decide_eq_false h, decide_eq_false (fun h2 => h ⟨by omega, by omega⟩), Bool.false_and]
    simp only [Bool.false_eq_true, if_false]
    exact ev_const rfl
theorem cut_cell (b : UInt8) : ([46, 97, 98, 99, 100, 101, 102, 103, 104, 105, 106, 107, 108, 109, 110, 111, 112, 113, 114, 115, 116, 117, 118, 119, 120, 121, 122] : List UInt8).contains b = cellB b := by
  have key : ((List.range 256).all fun n => (([46, 97, 98, 99, 100, 101, 102, 103, 104, 105, 106, 107, 108, 109, 110, 111, 112, 113, 114, 115, 116, 117, 118, 119, 120, 121, 122] : List UInt8).contains (UInt8.ofNat n) == cellB (UInt8.ofNat n))) = true := by decide +kernel
  have h := List.all_eq_true.1 key b.toNat (List.mem_range.2 b.toNat_lt)
  rw [UInt8.ofNat_toNat] at h
  exact beq_iff_eq.1 h
theorem trim_cells (r : ByteArray) : ((⟨(Go.Lib.trimS r.data.toList [46, 97, 98, 99, 100, 101, 102, 103, 104, 105, 106, 107, 108, 109, 110, 111, 112, 113, 114, 115, 116, 117, 118, 119, 120, 121, 122]).toArray⟩ : ByteArray).toList = ([] : List UInt8)) ↔ r.data.toList.all cellB = true := by
  rw [ByteArray.toList_eq]
  show Go.Lib.trimS r.data.toList _ = [] ↔ _
  rw [trimS_nil, List.all_eq_true]
  constructor
  · intro h b hb
    rw [← cut_cell]
    exact h b hb
  · intro h b hb
    show ([46, 97, 98, 99, 100, 101, 102, 103, 104, 105, 106, 107, 108, 109, 110, 111, 112, 113, 114, 115, 116, 117, 118, 119, 120, 121, 122] : List UInt8).contains b = true
    rw [cut_cell]
    exact h b hb
/-- What the program asks of a row. -/
def rowI (n : Nat) (r : ByteArray) : Bool := decide (r.size = n) && r.data.toList.all cellB
theorem vg_l (l : List ByteArray) (hl : l.length ≤ 1048576) (hs : ∀ y ∈ l, y.size ≤ 1048576) (d : Nat) : ∀ i : Nat, i ≤ l.length → l.length - i = d → Ev (fun k => impl_ValidGrid.l0 k l l (l.length : Int) i) ((l.drop i).all (rowI (wideL l)) && (decide (1 ≤ l.length ∧ l.length ≤ 16) && decide (1 ≤ wideL l ∧ wideL l ≤ 32))) := by
  induction d with
  | zero =>
    intro i hi hd
    apply ev_succ
    simp only [impl_ValidGrid.l0, if_neg (show ¬ (i : Int) < (l.length : Int) by omega)]
    rw [List.drop_eq_nil_of_le (by omega), List.all_nil, Bool.true_and]
    by_cases h1 : 1 ≤ l.length
    · rw [if_pos (by omega)]
      by_cases h2 : l.length ≤ 16
      · rw [if_pos (by omega), if_pos (by omega), decide_eq_true (p := 1 ≤ l.length ∧ l.length ≤ 16) ⟨h1, h2⟩, Bool.true_and]
        unfold wideL
        by_cases h3 : ((rdOf ByteArray.empty l 0).size : Int) ≥ 1
        · rw [if_pos h3]
          refine ev_const ?_
          congr 1
          rw [decide_eq_decide]
          omega
        · rw [if_neg h3, decide_eq_false (fun h => h3 (by omega))]
          exact ev_const rfl
      · rw [if_neg (by omega), decide_eq_false (fun h => h2 h.2), Bool.false_and]
        exact ev_const rfl
    · rw [if_neg (by omega), decide_eq_false (fun h => h1 h.1), Bool.false_and]
      exact ev_const rfl
  | succ d ih =>
    intro i hi hd
    have hlt : i < l.length := by omega
    have hih := ih (i + 1) (by omega) (by omega)
    have hsz := hs _ (List.getElem_mem hlt)
    rw [List.drop_eq_getElem_cons hlt, List.all_cons]
    apply ev_succ
    simp only [impl_ValidGrid.l0, if_pos (show (i : Int) < (l.length : Int) by omega), if_pos (show (0 : Int) ≤ (i : Int) by omega), if_pos (show (0 : Int) < (l.length : Int) by omega), rdOf_at _ _ _ hlt, w64 (x := (i : Int) + 1) (by omega) (by omega)]
    by_cases h1 : (l[i].size : Int) = ((rdOf ByteArray.empty l 0).size : Int)
    · simp only [if_pos h1]
      unfold strings_Trim.f
      simp only [if_pos (show l[i].size ≤ 9223372036854775807 ∧ (⟨#[46, 97, 98, 99, 100, 101, 102, 103, 104, 105, 106, 107, 108, 109, 110, 111, 112, 113, 114, 115, 116, 117, 118, 119, 120, 121, 122]⟩ : ByteArray).size < 4294967281 ∧ (⟨#[46, 97, 98, 99, 100, 101, 102, 103, 104, 105, 106, 107, 108, 109, 110, 111, 112, 113, 114, 115, 116, 117, 118, 119, 120, 121, 122]⟩ : ByteArray).data.toList.all (fun b => decide (b.toNat < 128)) = true from ⟨by omega, by decide, by decide +kernel⟩), Option.bind_some]
      by_cases h2 : l[i].data.toList.all cellB = true
      · simp only [trim_cells, if_pos h2]
        rw [show rowI (wideL l) l[i] = true by unfold rowI wideL; rw [h2, decide_eq_true (by omega)]; rfl, Bool.true_and]
        exact hih
      · simp only [trim_cells, if_neg h2]
        rw [show rowI (wideL l) l[i] = false by unfold rowI; rw [Bool.eq_false_iff.2 h2, Bool.and_false], Bool.false_and, Bool.false_and]
        exact ev_const rfl
    · simp only [if_neg h1]
      rw [show rowI (wideL l) l[i] = false by unfold rowI; rw [decide_eq_false (fun h => h1 (by unfold wideL at h; omega)), Bool.false_and], Bool.false_and, Bool.false_and]
      exact ev_const rfl
theorem grid_two (l : List ByteArray) : (l.all (rowI (wideL l)) && (decide (1 ≤ l.length ∧ l.length ≤ 16) && decide (1 ≤ wideL l ∧ wideL l ≤ 32))) = gridB l := by
  rw [Bool.eq_iff_iff]
  unfold gridB
  simp only [Bool.and_eq_true, decide_eq_true_eq, List.all_eq_true, rowI, rowB]
  constructor
  · rintro ⟨h1, h2, h3⟩
    exact ⟨h2, fun r hr => ⟨⟨(h1 r hr).1, by rw [(h1 r hr).1]; exact h3.1, by rw [(h1 r hr).1]; exact h3.2⟩, (h1 r hr).2⟩⟩
  · rintro ⟨h1, h2⟩
    refine ⟨fun r hr => ⟨(h2 r hr).1.1, (h2 r hr).2⟩, h1, ?_⟩
    have h0 : 0 < l.length := by omega
    have h3 := h2 _ (List.getElem_mem h0)
    have e : wideL l = (l[0]).size := by
      show (rdOf ByteArray.empty l ((0 : Nat) : Int)).size = _
      rw [rdOf_at _ _ _ h0]
    rw [e]
    exact h3.1.2
theorem vg_ev (l : List ByteArray) (hl : l.length ≤ 1048576) (hs : ∀ y ∈ l, y.size ≤ 1048576) : Ev (fun k => impl_ValidGrid.f k l) (gridB l) := by
  unfold impl_ValidGrid.f
  have := vg_l l hl hs l.length 0 (by omega) (by omega)
  rw [List.drop_zero, grid_two] at this
  exact this
theorem grid_facts {l : List ByteArray} (h : gridB l = true) : 1 ≤ l.length ∧ l.length ≤ 16 ∧ ∀ r ∈ l, r.size = wideL l ∧ 1 ≤ r.size ∧ r.size ≤ 32 ∧ r.data.toList.all cellB = true := by
  unfold gridB at h
  simp only [Bool.and_eq_true, decide_eq_true_eq, List.all_eq_true, rowB] at h
  exact ⟨h.1.1, h.1.2, fun r hr => ⟨(h.2 r hr).1.1, (h.2 r hr).1.2.1, (h.2 r hr).1.2.2, List.all_eq_true.2 (h.2 r hr).2⟩⟩
/-- How often a byte is in a row, and in a grid. -/
def cntR (c : Int) (bs : List UInt8) : Nat := bs.countP (fun b => decide ((b.toNat : Int) = c))
def cntG (c : Int) : List ByteArray → Nat
  | [] => 0
  | r :: l => cntR c r.data.toList + cntG c l
theorem cntR_le (c : Int) (bs : List UInt8) : cntR c bs ≤ bs.length := List.countP_le_length
theorem cnt_l (l : List ByteArray) (hl : l.length ≤ 1000) (hs : ∀ y ∈ l, y.size ≤ 1000) (c : Int) (d : Nat) : ∀ (i : Nat) (a : Int), i ≤ l.length → l.length - i = d → 0 ≤ a → a ≤ 1000 * (i : Int) → Ev (fun k => spec_l12Count.l0 k l c a i) (a + (cntG c (l.drop i) : Int)) := by
  induction d with
  | zero =>
    intro i a hi hd h0 h1
    apply ev_succ
    simp only [spec_l12Count.l0, if_neg (show ¬ (i : Int) < (l.length : Int) by omega)]
    rw [List.drop_eq_nil_of_le (by omega)]
    exact ev_const (by simp [cntG])
  | succ d ih =>
    intro i a hi hd h0 h1
    have hlt : i < l.length := by omega
    have hih := fun b => ih (i + 1) b (by omega) (by omega)
    have hsz := hs _ (List.getElem_mem hlt)
    rw [List.drop_eq_getElem_cons hlt]
    apply ev_succ
    simp only [spec_l12Count.l0, if_pos (show (i : Int) < (l.length : Int) by omega)]
    have row : ∀ (e : Nat) (m : Nat) (b : Int), m ≤ l[i].size → l[i].size - m = e → 0 ≤ b → b ≤ 1000 * (i : Int) + (m : Int) → Ev (fun k => spec_l12Count.l1 k l c b i m) (b + ((cntR c (l[i].data.toList.drop m) : Int) + (cntG c (l.drop (i + 1)) : Int))) := by
      intro e
      induction e with
      | zero =>
        intro m b hm he h2 h3
        apply ev_succ
        simp only [spec_l12Count.l1, if_pos (show (0 : Int) ≤ (i : Int) by omega), if_pos (show (i : Int) < (l.length : Int) by omega), rdOf_at _ _ _ hlt, if_neg (show ¬ (m : Int) < (l[i].size : Int) by omega), w64 (x := (i : Int) + 1) (by omega) (by omega)]
        rw [List.drop_eq_nil_of_le (by rw [dsize]; omega)]
        have := hih b h2 (by omega)
        rw [show b + ((cntR c [] : Int) + (cntG c (l.drop (i + 1)) : Int)) = b + (cntG c (l.drop (i + 1)) : Int) by simp [cntR]]
        exact this
      | succ e ih2 =>
        intro m b hm he h2 h3
        have hm2 : m < l[i].size := by omega
        have hm3 : m < l[i].data.toList.length := by rw [dsize]; exact hm2
        have h4 := fun b => ih2 (m + 1) b (by omega) (by omega)
        rw [List.drop_eq_getElem_cons hm3]
        apply ev_succ
        simp only [spec_l12Count.l1, if_pos (show (0 : Int) ≤ (i : Int) by omega), if_pos (show (i : Int) < (l.length : Int) by omega), rdOf_at _ _ _ hlt, if_pos (show (m : Int) < (l[i].size : Int) by omega), if_pos (show (0 : Int) ≤ (m : Int) by omega), bt_at _ _ hm2, w64 (x := (m : Int) + 1) (by omega) (by omega), w64 (x := b + 1) (by omega) (by omega)]
        by_cases h5 : ((l[i].data.toList[m]).toNat : Int) = c
        · simp only [if_pos h5]
          have := h4 (b + 1) (by omega) (by omega)
          rw [show b + ((cntR c (l[i].data.toList[m] :: l[i].data.toList.drop (m + 1)) : Int) + (cntG c (l.drop (i + 1)) : Int)) = b + 1 + ((cntR c (l[i].data.toList.drop (m + 1)) : Int) + (cntG c (l.drop (i + 1)) : Int)) by
            unfold cntR
            rw [List.countP_cons_of_pos (by simpa using h5)]
            omega]
          exact this
        · simp only [if_neg h5]
          have := h4 b (by omega) (by omega)
          rw [show cntR c (l[i].data.toList[m] :: l[i].data.toList.drop (m + 1)) = cntR c (l[i].data.toList.drop (m + 1)) by
            unfold cntR
            rw [List.countP_cons_of_neg (by simpa using h5)]]
          exact this
    have := row l[i].size 0 a (by omega) (by omega) h0 (by omega)
    rw [List.drop_zero] at this
    show Ev _ (a + ((cntR c l[i].data.toList + cntG c (l.drop (i + 1)) : Nat) : Int))
    rw [show (((cntR c l[i].data.toList + cntG c (l.drop (i + 1)) : Nat)) : Int) = (cntR c l[i].data.toList : Int) + (cntG c (l.drop (i + 1)) : Int) by omega]
    exact this
theorem cnt_ev (l : List ByteArray) (hl : l.length ≤ 1000) (hs : ∀ y ∈ l, y.size ≤ 1000) (c : Int) : Ev (fun k => spec_l12Count.f k l c) (cntG c l : Int) := by
  unfold spec_l12Count.f
  have := cnt_l l hl hs c l.length 0 0 (by omega) (by omega) (by omega) (by omega)
  rw [List.drop_zero, Int.zero_add] at this
  exact this

/-- The cells of a row, and of a grid, that have a byte. -/
def cellsR (i c : Int) : Int → List UInt8 → List S84
  | _, [] => []
  | m, b :: bs => if (b.toNat : Int) = c then ⟨i, m⟩ :: cellsR i c (m + 1) bs else cellsR i c (m + 1) bs
def cellsG (c : Int) : Int → List ByteArray → List S84
  | _, [] => []
  | i, r :: l => cellsR i c 0 r.data.toList ++ cellsG c (i + 1) l
theorem cellsR_length (i c : Int) : ∀ (bs : List UInt8) (m : Int), (cellsR i c m bs).length = cntR c bs
  | [], _ => rfl
  | b :: bs, m => by
    unfold cellsR cntR
    by_cases h : (b.toNat : Int) = c
    · rw [if_pos h, List.countP_cons_of_pos (by simpa using h), List.length_cons, cellsR_length i c bs]
      rfl
    · rw [if_neg h, List.countP_cons_of_neg (by simpa using h), cellsR_length i c bs]
      rfl
theorem cellsG_length (c : Int) : ∀ (l : List ByteArray) (i : Int), (cellsG c i l).length = cntG c l
  | [], _ => rfl
  | r :: l, i => by
    unfold cellsG cntG
    rw [List.length_append, cellsR_length, cellsG_length c l]
theorem cells_l (l : List ByteArray) (hl : l.length ≤ 1000) (hs : ∀ y ∈ l, y.size ≤ 1000) (c : Int) (d : Nat) : ∀ (i : Nat) (o : List S84), i ≤ l.length → l.length - i = d → o.length ≤ 1000 * i → Ev (fun k => impl_cellsWith.l0 k c o l (l.length : Int) i) (o ++ cellsG c i (l.drop i)) := by
  induction d with
  | zero =>
    intro i o hi hd ho
    apply ev_succ
    simp only [impl_cellsWith.l0, if_neg (show ¬ (i : Int) < (l.length : Int) by omega)]
    rw [List.drop_eq_nil_of_le (by omega)]
    exact ev_const (by simp [cellsG])
  | succ d ih =>
    intro i o hi hd ho
    have hlt : i < l.length := by omega
    have hih := fun b => ih (i + 1) b (by omega) (by omega)
    have hsz := hs _ (List.getElem_mem hlt)
    rw [List.drop_eq_getElem_cons hlt]
    apply ev_succ
    simp only [impl_cellsWith.l0, if_pos (show (i : Int) < (l.length : Int) by omega), if_pos (show (0 : Int) ≤ (i : Int) by omega), rdOf_at _ _ _ hlt]
    have row : ∀ (e : Nat) (m : Nat) (o : List S84), m ≤ l[i].size → l[i].size - m = e → o.length ≤ 1000 * i + m → Ev (fun k => impl_cellsWith.l1 k c o i l[i] l (l.length : Int) i (l[i].size : Int) m) (o ++ (cellsR i c m (l[i].data.toList.drop m) ++ cellsG c ((i : Int) + 1) (l.drop (i + 1)))) := by
      intro e
      induction e with
      | zero =>
        intro m o hm he ho
        apply ev_succ
        simp only [impl_cellsWith.l1, if_neg (show ¬ (m : Int) < (l[i].size : Int) by omega), w64 (x := (i : Int) + 1) (by omega) (by omega)]
        rw [List.drop_eq_nil_of_le (by rw [dsize]; omega)]
        have := hih o (by omega)
        rw [show ((i + 1 : Nat) : Int) = (i : Int) + 1 by omega] at this
        rw [show cellsR i c m [] = [] from rfl, List.nil_append]
        exact this
      | succ e ih2 =>
        intro m o hm he ho
        have hm2 : m < l[i].size := by omega
        have hm3 : m < l[i].data.toList.length := by rw [dsize]; exact hm2
        have h4 := fun b => ih2 (m + 1) b (by omega) (by omega)
        rw [List.drop_eq_getElem_cons hm3]
        apply ev_succ
        simp only [impl_cellsWith.l1, if_pos (show (m : Int) < (l[i].size : Int) by omega), if_pos (show (0 : Int) ≤ (m : Int) by omega), bt_at _ _ hm2, w64 (x := (m : Int) + 1) (by omega) (by omega), if_pos (show o.length < 8796093022208 by omega)]
        by_cases h5 : ((l[i].data.toList[m]).toNat : Int) = c
        · simp only [if_pos h5]
          have := h4 (o ++ [⟨(i : Int), (m : Int)⟩]) (by rw [List.length_append, List.length_singleton]; omega)
          rw [show cellsR i c m (l[i].data.toList[m] :: l[i].data.toList.drop (m + 1)) = ⟨(i : Int), (m : Int)⟩ :: cellsR i c ((m : Int) + 1) (l[i].data.toList.drop (m + 1)) by
            show (if _ then _ else _) = _
            simp only [if_pos h5]
            rw []]
          rw [List.append_assoc] at this
          exact this
        · simp only [if_neg h5]
          have := h4 o (by omega)
          rw [show cellsR i c m (l[i].data.toList[m] :: l[i].data.toList.drop (m + 1)) = cellsR i c ((m : Int) + 1) (l[i].data.toList.drop (m + 1)) by
            show (if _ then _ else _) = _
            simp only [if_neg h5]
            rw []]
          exact this
    have := row l[i].size 0 o (by omega) (by omega) (by omega)
    rw [List.drop_zero] at this
    exact this
theorem cells_ev (l : List ByteArray) (hl : l.length ≤ 1000) (hs : ∀ y ∈ l, y.size ≤ 1000) (c : Int) : Ev (fun k => impl_cellsWith.f k l c) (cellsG c 0 l) := by
  unfold impl_cellsWith.f
  have := cells_l l hl hs c l.length 0 [] (by omega) (by omega) (by simp)
  rw [List.drop_zero, List.nil_append] at this
  exact this

theorem land_all (b : Int) : impl_isLetter.f b = some (decide (97 ≤ b ∧ b ≤ 122)) := small_val b
/-- A small letter. -/
def landB (a : ByteArray) : Bool := decide (a.size = 1 ∧ 97 ≤ bt a 0 ∧ bt a 0 ≤ 122)
theorem land_val (a : ByteArray) : impl_isLandText.f a = some (landB a) := by
  unfold impl_isLandText.f landB
  by_cases h : (a.size : Int) = 1
  · rw [if_pos h, if_pos (by omega), land_all]
    simp only [Option.bind_some]
    congr 1
    rw [decide_eq_decide]
    omega
  · rw [if_neg h, decide_eq_false (fun h2 => h (by omega))]
/-- The code of a grid, a land and what is asked of the other text. -/
def codeG (l : List ByteArray) (a : ByteArray) (ok : Bool) : Int := if gridB l = true then (if landB a = true ∧ ok = true then (if cntG (bt a 0) l = 0 then 3 else 0) else 2) else 1
theorem landB_size {a : ByteArray} (h : landB a = true) : a.size = 1 := (of_decide_eq_true h).1
theorem scode_ev (l : List ByteArray) (a : ByteArray) : Ev (fun k => spec_l12Code.f k l a) (codeG l a true) := by
  unfold spec_l12Code.f codeG
  refine Ev.bind (ok_ev l) ?_
  by_cases h : gridB l = true
  · obtain ⟨h1, h2, h3⟩ := grid_facts h
    simp only [if_pos h]
    simp only [h, if_true, small_val, Option.bind_some, and_true]
    by_cases h4 : (a.size : Int) = 1
    · simp only [if_pos h4, if_pos (show (0 : Int) < (a.size : Int) by omega)]
      apply ev_succ
      by_cases h5 : 97 ≤ bt a 0 ∧ bt a 0 ≤ 122
      · have hb : landB a = true := decide_eq_true ⟨by omega, h5⟩
        simp only [if_pos hb]
        simp only [spec_l12Code.j0, decide_eq_true h5, Bool.not_true, Bool.false_eq_true, if_false, if_pos (show (0 : Int) < (a.size : Int) by omega)]
        refine Ev.bind (cnt_ev l (by omega) (fun y hy => by have := h3 y hy; omega) (bt a 0)) ?_
        by_cases h6 : cntG (bt a 0) l = 0
        · rw [if_pos h6, if_pos (by omega)]
          exact ev_const rfl
        · rw [if_neg h6, if_neg (by omega)]
          exact ev_const rfl
      · have hb : ¬ landB a = true := fun h => h5 (of_decide_eq_true h).2
        simp only [if_neg hb]
        simp only [spec_l12Code.j0, decide_eq_false h5, Bool.not_false, if_true]
        exact ev_const rfl
    · have hb : ¬ landB a = true := fun h => h4 (by have := landB_size h; omega)
      simp only [if_neg h4]
      simp only [if_neg hb]
      apply ev_succ
      simp only [spec_l12Code.j0, if_true]
      exact ev_const rfl
  · simp only [if_neg h]
    try simp only [Bool.eq_false_iff.2 h, Bool.false_eq_true, if_false]
    exact ev_const rfl
theorem icode_ev (l : List ByteArray) (hl : l.length ≤ 1048576) (hs : ∀ y ∈ l, y.size ≤ 1048576) (a : ByteArray) (ok : Bool) : Ev (fun k => impl_landCode.f k l a ok) (codeG l a ok) := by
  unfold impl_landCode.f codeG
  refine Ev.bind (vg_ev l hl hs) ?_
  simp only [land_val, Option.bind_some, impl_check.f]
  by_cases h : gridB l = true
  · obtain ⟨h1, h2, h3⟩ := grid_facts h
    simp only [if_pos h]
    try simp only [h, if_true]
    by_cases hb : landB a = true
    · simp only [hb, if_true, true_and]
      cases ok with
      | true =>
        simp only [if_true, Option.bind_some]
        apply ev_succ
        have h5 := landB_size hb
        simp only [impl_landCode.j0, if_true, if_pos (show (0 : Int) < (a.size : Int) by omega)]
        refine Ev.bind (cells_ev l (by omega) (fun y hy => by have := h3 y hy; omega) (bt a 0)) ?_
        rw [cellsG_length]
        by_cases h6 : cntG (bt a 0) l = 0
        · rw [if_pos h6, if_pos (by omega)]
          exact ev_const rfl
        · rw [if_neg h6, if_neg (by omega)]
          exact ev_const rfl
      | false =>
        simp only [Bool.false_eq_true, if_false, Option.bind_some]
        apply ev_succ
        simp only [impl_landCode.j0, if_neg (show ¬ (2 : Int) = 0 by omega)]
        exact ev_const rfl
    · rw [if_neg (fun h : landB a = true ∧ ok = true => hb h.1)]
      simp only [Bool.eq_false_iff.2 hb, Bool.false_eq_true, if_false, Option.bind_some]
      apply ev_succ
      simp only [impl_landCode.j0, if_neg (show ¬ (2 : Int) = 0 by omega)]
      exact ev_const rfl
  · simp only [if_neg h]
    try simp only [Bool.eq_false_iff.2 h, Bool.false_eq_true, if_false, Option.bind_some]
    by_cases hb : landB a = true
    · simp only [hb, if_true]
      apply ev_succ
      simp only [impl_landCode.j0, if_neg (show ¬ (1 : Int) = 0 by omega)]
      exact ev_const rfl
    · simp only [Bool.eq_false_iff.2 hb, Bool.false_eq_true, if_false]
      apply ev_succ
      simp only [impl_landCode.j0, if_neg (show ¬ (1 : Int) = 0 by omega)]
      exact ev_const rfl
/-- One byte is replaced. -/
def swapL (x y : UInt8) (s : List UInt8) : List UInt8 := s.map fun b => if b = x then y else b
theorem pre_one (x b : UInt8) (s : List UInt8) : ([x] : List UInt8).isPrefixOf (b :: s) = (x == b) := by simp [List.isPrefixOf]
theorem index_ne (x b : UInt8) (s : List UInt8) (h : b ≠ x) : Go.Lib.index (b :: s) [x] = if Go.Lib.index s [x] == -1 then -1 else Go.Lib.index s [x] + 1 := by
  rw [Go.Lib.index, pre_one, if_neg (by simpa using fun e => h e.symm)]
theorem index_eq (x : UInt8) (s : List UInt8) : Go.Lib.index (x :: s) [x] = 0 := by
  rw [Go.Lib.index, pre_one, if_pos (by simp)]
theorem rep_ne (x b : UInt8) (new : List UInt8) (s : List UInt8) (h : b ≠ x) : ∀ k, Go.Lib.replaceK [x] new k (b :: s) = b :: Go.Lib.replaceK [x] new k s
  | 0 => rfl
  | k + 1 => by
    by_cases hm : Go.Lib.index s [x] = -1
    · rw [Go.Lib.replaceK, index_ne x b s h, hm, Go.Lib.replaceK, hm]
      rfl
    · have hg := Go.Lib.index_ge s [x]
      obtain ⟨j, hj⟩ := Int.eq_ofNat_of_zero_le (show 0 ≤ Go.Lib.index s [x] by omega)
      rw [Go.Lib.replaceK_hit [x] new k s j hj]
      have h2 : Go.Lib.index (b :: s) [x] = ((j + 1 : Nat) : Int) := by
        rw [index_ne x b s h, if_neg (by simpa using hm), hj]
        omega
      rw [Go.Lib.replaceK_hit [x] new k (b :: s) (j + 1) h2]
      rw [show j + 1 + ([x] : List UInt8).length = (j + ([x] : List UInt8).length) + 1 by omega]
      rfl
theorem rep_all (x y : UInt8) : ∀ s : List UInt8, Go.Lib.replaceK [x] [y] (Go.Lib.count s [x]) s = swapL x y s
  | [] => by
    have h : Go.Lib.count ([] : List UInt8) [x] = 0 := by rw [Go.Lib.count_one]; rfl
    rw [h]
    rfl
  | b :: s => by
    by_cases h : b = x
    · subst h
      rw [Go.Lib.count_cons_eq, Nat.add_comm, Go.Lib.replaceK_hit [b] [y] _ (b :: s) 0 (index_eq b s)]
      show y :: Go.Lib.replaceK [b] [y] (Go.Lib.count s [b]) s = _
      rw [rep_all b y s]
      unfold swapL
      rw [List.map_cons, if_pos rfl]
    · rw [Go.Lib.count_cons_ne b x s h, rep_ne x b [y] s h, rep_all x y s]
      unfold swapL
      rw [List.map_cons, if_neg h]
theorem rep_bytes (x y : UInt8) (s : List UInt8) : Go.Lib.replaceAll s [x] [y] = swapL x y s := by
  unfold Go.Lib.replaceAll Go.Lib.replace
  by_cases h : x = y
  · subst h
    rw [if_pos (by simp)]
    unfold swapL
    have e : (fun b : UInt8 => if b = x then x else b) = id := by
      funext b
      by_cases hb : b = x
      · rw [if_pos hb, hb]; rfl
      · rw [if_neg hb]; rfl
    rw [e, List.map_id]
  · rw [if_neg (by simpa using h)]
    unfold Go.Lib.replaceNum
    rw [if_pos (Or.inl (by omega))]
    exact rep_all x y s
theorem one_byte (a : ByteArray) (h : a.size = 1) : ∃ x : UInt8, a.data.toList = [x] ∧ bt a 0 = (x.toNat : Int) := by
  have h1 : a.data.toList.length = 1 := by rw [dsize]; exact h
  obtain ⟨x, hx⟩ := List.length_eq_one_iff.1 h1
  refine ⟨x, hx, ?_⟩
  have := bt_at a 0 (by omega)
  rw [show ((0 : Nat) : Int) = 0 from rfl] at this
  rw [this]
  simp [hx]
theorem give_row (a b r : ByteArray) (ha : a.size = 1) (hb : b.size = 1) : giveB (bt a 0) (bt b 0) r = (⟨(Go.Lib.replaceAll r.data.toList a.data.toList b.data.toList).toArray⟩ : ByteArray) := by
  obtain ⟨x, hx, ex⟩ := one_byte a ha
  obtain ⟨y, hy, ey⟩ := one_byte b hb
  rw [hx, hy, rep_bytes, ex, ey]
  unfold giveB strOfNums numsB swapL
  congr 2
  rw [List.map_map, List.map_map]
  apply List.map_congr_left
  intro c _
  show UInt8.ofNat (gvB (x.toNat : Int) (y.toNat : Int) (c.toNat : Int)).toNat = _
  unfold gvB
  by_cases h : c = x
  · subst h
    rw [if_pos rfl, if_pos rfl, Int.toNat_natCast, UInt8.ofNat_toNat]
  · rw [if_neg (fun e => h (UInt8.toNat_inj.1 (by omega))), if_neg h, Int.toNat_natCast, UInt8.ofNat_toNat]
theorem ig_l (l : List ByteArray) (hl : l.length ≤ 16) (hs : ∀ y ∈ l, y.size ≤ 32) (a b : ByteArray) (ha : a.size = 1) (hb : b.size = 1) (d : Nat) : ∀ (i : Nat) (o : List ByteArray), i ≤ l.length → l.length - i = d → o.length ≤ i → Ev (fun k => impl_GiveLand.l0 k a b o l (l.length : Int) i) (o ++ (l.drop i).map (giveB (bt a 0) (bt b 0)), 0) := by
  induction d with
  | zero =>
    intro i o hi hd ho
    apply ev_succ
    simp only [impl_GiveLand.l0, if_neg (show ¬ (i : Int) < (l.length : Int) by omega)]
    rw [List.drop_eq_nil_of_le (by omega)]
    exact ev_const (by simp)
  | succ d ih =>
    intro i o hi hd ho
    have hlt : i < l.length := by omega
    have hih := fun b => ih (i + 1) b (by omega) (by omega)
    have hsz := hs _ (List.getElem_mem hlt)
    rw [List.drop_eq_getElem_cons hlt]
    apply ev_succ
    simp only [impl_GiveLand.l0, strings_ReplaceAll.f, if_pos (show (i : Int) < (l.length : Int) by omega), if_pos (show (0 : Int) ≤ (i : Int) by omega), rdOf_at _ _ _ hlt, if_pos (show l[i].size < 100 ∧ a.size = 1 ∧ b.size ≤ 1 from ⟨by omega, ha, by omega⟩), Option.bind_some, if_pos (show o.length < 8796093022208 by omega), w64 (x := (i : Int) + 1) (by omega) (by omega)]
    rw [← give_row a b l[i] ha hb]
    have := hih (o ++ [giveB (bt a 0) (bt b 0) l[i]]) (by rw [List.length_append, List.length_singleton]; omega)
    rw [List.append_assoc] at this
    exact this
theorem ok_two (b : ByteArray) : (b.toList == ([46] : List UInt8)) = decide (b.size = 1 ∧ bt b 0 = 46) := by
  rw [Bool.eq_iff_iff, beq_iff_eq, decide_eq_true_iff, ByteArray.toList_eq]
  constructor
  · intro h
    have h1 : b.size = 1 := by rw [← dsize, h]; rfl
    obtain ⟨x, hx, ex⟩ := one_byte b h1
    refine ⟨h1, ?_⟩
    rw [ex]
    rw [hx] at h
    injection h with h
    rw [h]
    rfl
  · rintro ⟨h1, h2⟩
    obtain ⟨x, hx, ex⟩ := one_byte b h1
    rw [hx]
    congr 1
    apply UInt8.toNat_inj.1
    show x.toNat = 46
    omega
/-- What is asked of the text that is put in place. -/
def toB (b : ByteArray) : Bool := landB b || decide (b.size = 1 ∧ bt b 0 = 46)
theorem toB_size {b : ByteArray} (h : toB b = true) : b.size = 1 := by
  unfold toB at h
  rcases Bool.or_eq_true_iff.1 h with h | h
  · exact landB_size h
  · exact (of_decide_eq_true h).1
def resG (l : List ByteArray) (a b : ByteArray) : List ByteArray × Int := if codeG l a (toB b) = 0 then (l.map (giveB (bt a 0) (bt b 0)), 0) else ([], codeG l a (toB b))
theorem code_zero {l : List ByteArray} {a : ByteArray} {ok : Bool} (h : codeG l a ok = 0) : gridB l = true ∧ landB a = true ∧ ok = true := by
  unfold codeG at h
  split at h
  · rename_i h1
    split at h
    · rename_i h2
      exact ⟨h1, h2⟩
    · cases h
  · cases h
theorem impl_res (l : List ByteArray) (hl : l.length ≤ 1048576) (hs : ∀ y ∈ l, y.size ≤ 1048576) (a b : ByteArray) : Ev (fun k => impl_GiveLand.f k l a b) (resG l a b) := by
  have tail : Ev (fun k => impl_GiveLand.j0 k l a b (codeG l a (toB b))) (resG l a b) := by
    apply ev_succ
    unfold resG
    by_cases h : codeG l a (toB b) = 0
    · obtain ⟨h1, h2, h3⟩ := code_zero h
      obtain ⟨g1, g2, g3⟩ := grid_facts h1
      simp only [if_pos h]
      rw [h]
      simp only [impl_GiveLand.j0, if_true]
      have := ig_l l g2 (fun y hy => (g3 y hy).2.2.1) a b (landB_size h2) (toB_size h3) l.length 0 [] (by omega) (by omega) (by simp)
      rw [List.drop_zero, List.nil_append] at this
      exact this
    · simp only [if_neg h]
      simp only [impl_GiveLand.j0, if_neg h]
      exact ev_const rfl
  unfold impl_GiveLand.f
  simp only [land_val, Option.bind_some]
  by_cases h : landB b = true
  · have e : toB b = true := by unfold toB; rw [h]; rfl
    simp only [h, if_true]
    have h2 := icode_ev l hl hs a true
    rw [← e] at h2
    refine Ev.bind (by rw [e] at h2 ⊢; exact h2) tail
  · have e : toB b = (b.toList == ([46] : List UInt8)) := by unfold toB; rw [ok_two, Bool.eq_false_iff.2 h, Bool.false_or]
    simp only [Bool.eq_false_iff.2 h, Bool.false_eq_true, if_false]
    have h2 := icode_ev l hl hs a (b.toList == ([46] : List UInt8))
    rw [← e] at h2 ⊢
    exact Ev.bind h2 tail
theorem bad_val (b : ByteArray) : spec_GiveLand.bad b = some (!toB b) := by
  unfold spec_GiveLand.bad toB landB
  by_cases h : (b.size : Int) = 1
  · rw [if_pos h]
    by_cases h2 : bt b 0 = 46
    · rw [if_pos h2, decide_eq_true (p := b.size = 1 ∧ bt b 0 = 46) ⟨by omega, h2⟩, Bool.or_true]
      rfl
    · rw [if_neg h2, decide_eq_false (p := b.size = 1 ∧ bt b 0 = 46) (fun e => h2 e.2), Bool.or_false, small_val]
      show some (!decide (97 ≤ bt b 0 ∧ bt b 0 ≤ 122)) = _
      congr 2
      rw [decide_eq_decide]
      omega
  · rw [if_neg h, decide_eq_false (fun e => h (by omega)), decide_eq_false (fun e => h (by omega))]
    rfl
theorem spec_res (l : List ByteArray) (a b : ByteArray) : Ev (fun k => spec_GiveLand.f k l a b) (resG l a b) := by
  unfold spec_GiveLand.f
  refine Ev.bind (scode_ev l a) ?_
  simp only [bad_val, Option.bind_some]
  unfold resG
  by_cases h : gridB l = true
  · obtain ⟨g1, g2, g3⟩ := grid_facts h
    have n1 : ∀ ok, codeG l a ok ≠ 1 := by
      intro ok
      unfold codeG
      simp only [if_pos h]
      split
      · split <;> omega
      · omega
    simp only [if_neg (n1 true)]
    cases ht : toB b with
    | true =>
      simp only [Bool.not_true, Bool.false_eq_true, if_false]
      by_cases hz : codeG l a true = 0
      · obtain ⟨z1, z2, _⟩ := code_zero hz
        have := landB_size z2
        simp only [if_pos hz, if_pos hz]
        rw [if_pos ⟨by omega, by omega, fun r hr => by have := (g3 r hr).2.2.1; omega⟩]
        exact ev_const rfl
      · simp only [if_neg hz, if_neg hz]
        exact ev_const rfl
    | false =>
      have e : codeG l a false = 2 := by unfold codeG; rw [if_pos h, if_neg (fun h => by cases h.2)]
      simp only [Bool.not_false, if_true, e, if_neg (show ¬ (2 : Int) = 0 by omega)]
      exact ev_const rfl
  · have e : ∀ ok, codeG l a ok = 1 := by intro ok; unfold codeG; rw [if_neg h]
    simp only [e, if_true, if_neg (show ¬ (1 : Int) = 0 by omega)]
    exact ev_const rfl
theorem resG_length (l : List ByteArray) (a b : ByteArray) (hl : l.length ≤ 1048576) : (resG l a b).1.length ≤ 1048576 := by
  unfold resG
  split
  · simpa using hl
  · simp
theorem sizes_mem (l : List ByteArray) : ∀ y ∈ l, (y.size : Int) ≤ sizes l := by
  induction l with
  | nil => intro y hy; cases hy
  | cons s l ih =>
    intro y hy
    rw [sizes_cons]
    have h0 := sizes_nn l
    rcases List.mem_cons.1 hy with rfl | hy
    · omega
    · have := ih y hy
      omega
theorem FnExactGiveLand : laws_FnExactGiveLand.Pure := by
  intro n a b hn hwn ha hb
  apply Ev.rounds
  unfold laws_FnExactGiveLand.f
  by_cases c1 : (a.size : Int) > 1048576
  · simp only [if_pos c1]
    exact ev_const rfl
  · simp only [if_neg c1]
    by_cases c2 : (b.size : Int) > 1048576
    · simp only [if_pos c2]
      exact ev_const rfl
    · simp only [if_neg c2]
      rcases sz_val n hn hwn (a := 1048576) (by omega) (by omega) (k := n.length + 1) (by omega) with e | ⟨e, e1⟩
      · refine Ev.bind (Ev.of (fun k => laws_szStringS.mono n 1048576 k) e) ?_
        simp only [if_pos (show (-1 : Int) < 0 by omega)]
        exact ev_const rfl
      · refine Ev.bind (Ev.of (fun k => laws_szStringS.mono n 1048576 k) e) ?_
        have e2 := sizes_nn n
        simp only [if_neg (show ¬ (1048576 - (n.length : Int) - sizes n) < 0 by omega)]
        have hs : ∀ y ∈ n, y.size ≤ 1048576 := by have := sizes_mem n; intro y hy; have := this y hy; omega
        have t0 := tos_ev n (by omega)
        have s1 := spec_res n a b
        have s2 := impl_res n (by omega) hs a b
        have s3 := resG_length n a b (by omega)
        generalize resG n a b = res at s1 s2 s3
        obtain ⟨res, cd⟩ := res
        have q := eqs_ev res s3
        obtain ⟨p0, y0, m0, n0, n00⟩ := markS_ev n (by omega) (a := 1) (by omega) (by omega)
        obtain ⟨p2, y2, m2, m3, n2, n3⟩ := markH_ev res s3 (a := 1) (by omega) (by omega)
        refine Ev.bind t0 (Ev.bind s1 (Ev.bind t0 (Ev.bind s2 (Ev.bind q ?_))))
        simp only [if_true, bne_self_eq_false]
        refine ev_succ ?_
        simp only [laws_FnExactGiveLand.j0, Bool.false_eq_true, if_false]
        refine Ev.bind t0 (Ev.bind (eqs_ev n (by omega)) ?_)
        simp only [if_true]
        refine Ev.bind m0 ?_
        simp only [if_neg (show ¬ p0 < 0 by omega)]
        refine Ev.bind q ?_
        simp only [if_true, bne_self_eq_false]
        refine ev_succ ?_
        simp only [laws_FnExactGiveLand.j1, Bool.false_eq_true, if_false]
        refine Ev.bind m2 (Ev.bind m3 ?_)
        simp only [if_neg (show ¬ p2 < 0 by omega), if_true]
        refine Ev.bind t0 (Ev.bind s2 (Ev.bind q ?_))
        simp only [if_true, bne_self_eq_false]
        refine ev_succ ?_
        simp only [laws_FnExactGiveLand.j2, Bool.false_eq_true, if_false]
        refine Ev.bind m3 ?_
        simp only [if_neg (show ¬ p2 < 0 by omega), if_true]
        exact ev_const rfl

end Go.Proofs.YtdodbfialiggjaaDoor.Pure
