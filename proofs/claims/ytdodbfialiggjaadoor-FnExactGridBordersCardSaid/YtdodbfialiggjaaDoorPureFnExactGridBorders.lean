/- FnExactGridBorders: the program's GridBorders and the reference's come to the same list and code, for all grids. -/
import Derived.Test.YtdodbfialiggjaaDoorStatFnExactGridBorders
namespace Go.Proofs.YtdodbfialiggjaaDoor.Pure
open Go.RowKit Go.Proofs.YtdodbfialiggjaaDoor.PFnExactGridBorders Go.Proofs.YtdodbfialiggjaaDoorW.PrintWords Go.Proofs.YtdodbfialiggjaaDoorW.PrintLast Go.Proofs.YtdodbfialiggjaaDoorW.PrintMore
set_option linter.unusedVariables false
set_option linter.unusedSimpArgs false
theorem wfb {a : Int} (h : (Lit.int .i64 a).wf = true) : -9223372036854775808 ≤ a ∧ a ≤ 9223372036854775807 := by
  simpa [Lit.wf, IntKind.min, IntKind.max, IntKind.signed, IntKind.bits] using h
theorem w64 {x : Int} (h : -9223372036854775808 ≤ x) (h2 : x ≤ 9223372036854775807) : wrap64 x = x := by unfold wrap64; omega
theorem tdiv_nn {a b : Int} (h : 0 ≤ a) : Int.tdiv a b = a / b := Int.tdiv_eq_ediv_of_nonneg h
theorem tmod_nn {a b : Int} (h : 0 ≤ a) : Int.tmod a b = a % b := Int.tmod_eq_emod_of_nonneg h
theorem floor_val (a b : Int) (hb : 0 < b) : (if Int.tmod a b < 0 then Int.tdiv a b - 1 else Int.tdiv a b) = a / b := by
  have h1 := Int.mul_tdiv_add_tmod a b
  have hlt : Int.tmod a b < b := Int.tmod_lt_of_pos a hb
  have hgt : -b < Int.tmod a b := by
    have h2 := Int.tmod_lt_of_pos (-a) hb
    rw [Int.neg_tmod] at h2
    omega
  symm
  split
  · rename_i hneg
    refine ((Int.ediv_emod_unique hb (r := Int.tmod a b + b)).2 ⟨?_, by omega, by omega⟩).1
    rw [Int.mul_sub, Int.mul_one]
    omega
  · rename_i hneg
    exact ((Int.ediv_emod_unique hb (r := Int.tmod a b)).2 ⟨by omega, by omega, by omega⟩).1
theorem ediv_bd {a b : Int} (hb : 0 < b) (B : Int) (h0 : -B ≤ a) (h1 : a ≤ B) (hB : 0 ≤ B) : -B ≤ a / b ∧ a / b ≤ B := by
  constructor
  · rw [Int.le_ediv_iff_mul_le hb]
    have : B * 1 ≤ B * b := Int.mul_le_mul_of_nonneg_left (by omega) hB
    rw [Int.neg_mul]; omega
  · have h2 : a / b ≤ B / b := Int.ediv_le_ediv hb h1
    have h3 : B / b ≤ B := Int.ediv_le_self b hB
    omega
theorem ceil_alt (a b : Int) (hb : 0 < b) : (a + b - 1) / b = -((-a) / b) := by
  have h1 := Int.mul_ediv_add_emod (-a) b
  have h2 := Int.emod_nonneg (-a) (b := b) (by omega)
  have h3 := Int.emod_lt_of_pos (-a) hb
  refine ((Int.ediv_emod_unique hb (r := b - 1 - (-a) % b)).2 ⟨?_, by omega, by omega⟩).1
  rw [Int.mul_neg]
  omega

theorem ev_succ {α : Type} {g : Nat → Option α} {r : α} (h : Ev (fun k => g (k + 1)) r) : Ev g r := Ev.step (fun _ => rfl) h
theorem ev_const {α : Type} {g : Option α} {r : α} (h : g = some r) : Ev (fun _ => g) r := ⟨0, fun _ _ => h⟩
theorem ev_uniq {α : Type} {g : Nat → Option α} {a b : α} (h : Ev g a) (h' : Ev g b) : a = b := by
  obtain ⟨K, h⟩ := h
  obtain ⟨K', h'⟩ := h'
  have h1 := h (K + K') (by omega)
  rw [h' (K + K') (by omega)] at h1
  exact (Option.some.inj h1).symm

theorem toList_inj {a b : ByteArray} : a.toList = b.toList ↔ a = b := by
  constructor
  · intro h
    rw [ByteArray.toList_eq, ByteArray.toList_eq] at h
    obtain ⟨⟨x⟩⟩ := a
    obtain ⟨⟨y⟩⟩ := b
    simp at h
    rw [h]
  · intro h; rw [h]
def sizes (l : List ByteArray) : Int := (l.map (fun s => (s.size : Int))).sum
theorem sizes_cons (s : ByteArray) (l : List ByteArray) : sizes (s :: l) = s.size + sizes l := by simp [sizes]
theorem sizes_nn (l : List ByteArray) : 0 ≤ sizes l := by
  induction l with
  | nil => simp [sizes]
  | cons s l ih => rw [sizes_cons]; omega
theorem sizes_drop (l : List ByteArray) (i : Nat) (h : i < l.length) : sizes (l.drop i) = (l[i]).size + sizes (l.drop (i + 1)) := by
  rw [List.drop_eq_getElem_cons h, sizes_cons]
theorem rdOf_at (d : ByteArray) (l : List ByteArray) (i : Nat) (h : i < l.length) : rdOf d l (i : Int) = l[i] := by
  unfold rdOf
  rw [Int.toNat_natCast, List.getD_eq_getElem?_getD, List.getElem?_eq_getElem h]
  rfl

theorem sz_l (l : List ByteArray) (hl : l.length ≤ maxLen) (hs : ∀ y ∈ l, y.size ≤ maxLen) (d : Nat) : ∀ (k : Nat) (a : Int) (i : Nat), i ≤ l.length → l.length - i = d → d < k → 0 ≤ a → a ≤ 1048576 →
    (a - sizes (l.drop i) < 0 ∧ laws_szStringS.l0 k l a i = some (-1)) ∨ (0 ≤ a - sizes (l.drop i) ∧ laws_szStringS.l0 k l a i = some (a - sizes (l.drop i))) := by
  unfold maxLen at hl hs
  induction d with
  | zero =>
    intro k a i hi hd hk h0 h1
    obtain ⟨k, rfl⟩ : ∃ m, k = m + 1 := ⟨k - 1, by omega⟩
    obtain rfl : i = l.length := by omega
    rw [List.drop_length]
    right
    simp only [laws_szStringS.l0, sizes, List.map_nil, List.sum_nil]
    rw [if_neg (by omega)]
    exact ⟨by omega, by congr 1; omega⟩
  | succ d ih =>
    intro k a i hi hd hk h0 h1
    obtain ⟨k, rfl⟩ : ∃ m, k = m + 1 := ⟨k - 1, by omega⟩
    have hlt : i < l.length := by omega
    have hsz := hs l[i] (List.getElem_mem hlt)
    have hnn := sizes_nn (l.drop (i + 1))
    rw [sizes_drop l i hlt]
    simp only [laws_szStringS.l0]
    rw [if_pos (by omega), if_pos (by omega), rdOf_at _ _ _ hlt, w64 (x := a - (l[i].size : Int)) (by omega) (by omega)]
    by_cases hn : a - (l[i].size : Int) < 0
    · left
      rw [if_pos hn]
      exact ⟨by omega, rfl⟩
    · rw [if_neg hn, w64 (x := (i : Int) + 1) (by omega) (by omega)]
      have := ih k (a - l[i].size) (i + 1) (by omega) (by omega) (by omega) (by omega) (by omega)
      rw [show ((i : Int) + 1) = ((i + 1 : Nat) : Int) from by omega]
      rw [show a - ((l[i].size : Int) + sizes (l.drop (i + 1))) = a - (l[i].size : Int) - sizes (l.drop (i + 1)) from by omega]
      exact this
/-- The count of a list of strings: none is left (the law then says nothing), or the list is short. -/
theorem sz_val (l : List ByteArray) (hl : l.length ≤ maxLen) (hs : ∀ y ∈ l, y.size ≤ maxLen) {a : Int} (h0 : 0 ≤ a) (h1 : a ≤ 1048576) {k : Nat} (hk : l.length < k) :
    laws_szStringS.f k l a = some (-1) ∨ (laws_szStringS.f k l a = some (a - l.length - sizes l) ∧ 0 ≤ a - l.length - sizes l) := by
  have h2 := hl
  unfold maxLen at h2
  unfold laws_szStringS.f
  rw [w64 (x := a - (l.length : Int)) (by omega) (by omega)]
  by_cases h : a - (l.length : Int) < 0
  · left; rw [if_pos h]
  · rw [if_neg h]
    rcases sz_l l hl hs l.length k (a - l.length) 0 (by omega) (by omega) hk (by omega) (by omega) with ⟨_, e⟩ | ⟨e1, e⟩
    · left; exact e
    · right
      rw [List.drop_zero] at e1 e
      exact ⟨e, e1⟩

theorem take_set_succ {α : Type} (x : List α) (i : Nat) (v : α) (h : i < x.length) : (x.set i v).take (i + 1) = x.take i ++ [v] := by
  rw [List.take_succ_eq_append_getElem (by simpa using h), List.getElem_set_self, List.take_set_of_le (Nat.le_refl _)]
theorem take_succ_get {α : Type} (x : List α) (i : Nat) (h : i < x.length) : x.take (i + 1) = x.take i ++ [x[i]] := List.take_succ_eq_append_getElem h
theorem tos_l (l : List ByteArray) (hl : l.length ≤ 17592186044416) (d : Nat) : ∀ (k : Nat) (x : List ByteArray) (i : Nat), i ≤ l.length → l.length - i = d → d < k → x.length = l.length → x.take i = l.take i → laws_toStringS.l0 k l x i = some l := by
  induction d with
  | zero =>
    intro k x i hi hd hk hx ht
    obtain ⟨k, rfl⟩ : ∃ m, k = m + 1 := ⟨k - 1, by omega⟩
    simp only [laws_toStringS.l0]
    rw [if_neg (by omega)]
    rw [List.take_of_length_le (by omega), List.take_of_length_le (by omega)] at ht
    rw [ht]
  | succ d ih =>
    intro k x i hi hd hk hx ht
    obtain ⟨k, rfl⟩ : ∃ m, k = m + 1 := ⟨k - 1, by omega⟩
    have hlt : i < l.length := by omega
    simp only [laws_toStringS.l0]
    rw [if_pos (by omega), if_pos (by omega), if_pos (by omega), rdOf_at _ _ _ hlt, w64 (x := (i : Int) + 1) (by omega) (by omega), Int.toNat_natCast]
    have := ih k (x.set i l[i]) (i + 1) (by omega) (by omega) (by omega) (by simpa using hx) (by rw [take_set_succ _ _ _ (by omega), take_succ_get l i hlt, ht])
    exact this
theorem tos_val (l : List ByteArray) (hl : l.length ≤ 17592186044416) {k : Nat} (hk : l.length < k) : laws_toStringS.f k l = some l := by
  unfold laws_toStringS.f
  rw [if_pos (by omega), if_pos (by simpa using hl)]
  exact tos_l l hl l.length k _ 0 (by omega) (by omega) hk (by simp) (by simp)

theorem getElem_ext {α : Type} {x y : List α} (h : x.length = y.length) (d : Nat) (i : Nat) (hi : i < x.length) : (x.drop i = y.drop i) ↔ (x[i] = y[i] ∧ x.drop (i + 1) = y.drop (i + 1)) := by
  rw [List.drop_eq_getElem_cons hi, List.drop_eq_getElem_cons (show i < y.length by omega), List.cons.injEq]
theorem eqs_l (x y : List ByteArray) (h : x.length = y.length) (hl : x.length ≤ maxLen) (d : Nat) : ∀ (k : Nat) (i : Nat), i ≤ x.length → x.length - i = d → d < k → laws_eqStringS.l0 k x y i = some (decide (x.drop i = y.drop i)) := by
  unfold maxLen at hl
  induction d with
  | zero =>
    intro k i hi hd hk
    obtain ⟨k, rfl⟩ : ∃ m, k = m + 1 := ⟨k - 1, by omega⟩
    simp only [laws_eqStringS.l0]
    rw [if_neg (by omega), List.drop_eq_nil_of_le (by omega), List.drop_eq_nil_of_le (by omega)]
    simp
  | succ d ih =>
    intro k i hi hd hk
    obtain ⟨k, rfl⟩ : ∃ m, k = m + 1 := ⟨k - 1, by omega⟩
    have hlt : i < x.length := by omega
    simp only [laws_eqStringS.l0]
    rw [if_pos (by omega), if_pos (by omega), if_pos (by omega), rdOf_at _ _ _ hlt, rdOf_at _ _ _ (by omega), w64 (x := (i : Int) + 1) (by omega) (by omega)]
    simp only [toList_inj]
    have e := getElem_ext h d i hlt
    by_cases hq : x[i] = y[i]
    · rw [if_pos hq]
      have := ih k (i + 1) (by omega) (by omega) (by omega)
      rw [show ((i : Int) + 1) = ((i + 1 : Nat) : Int) from by omega, this]
      congr 1
      rw [decide_eq_decide, e]
      simp [hq]
    · rw [if_neg hq]
      congr 1
      symm
      rw [decide_eq_false_iff_not, e]
      exact fun h => hq h.1
theorem eqs_val (x y : List ByteArray) (hl : x.length ≤ maxLen) {k : Nat} (hk : x.length < k) : laws_eqStringS.f k x y = some (decide (x = y)) := by
  unfold laws_eqStringS.f
  by_cases h : x.length = y.length
  · rw [if_pos (by omega)]
    have := eqs_l x y h hl x.length k 0 (by omega) (by omega) hk
    simpa using this
  · rw [if_neg (by omega)]
    congr 1; symm
    rw [decide_eq_false_iff_not]
    exact fun e => h (by rw [e])

theorem szs_ev (l : List ByteArray) (hl : l.length ≤ maxLen) (hs : ∀ y ∈ l, y.size ≤ maxLen) {a : Int} (h0 : 0 ≤ a) (h1 : a ≤ 1048576) :
    Ev (fun k => laws_szStringS.f k l a) (-1) ∨ ∃ b, Ev (fun k => laws_szStringS.f k l a) b ∧ 0 ≤ b ∧ b ≤ a - l.length := by
  have hn := sizes_nn l
  rcases sz_val l hl hs h0 h1 (k := l.length + 1) (by omega) with e | ⟨e, e1⟩
  · exact .inl (Ev.of (fun k => laws_szStringS.mono l a k) e)
  · exact .inr ⟨_, Ev.of (fun k => laws_szStringS.mono l a k) e, e1, by omega⟩
theorem tos_ev (l : List ByteArray) (hl : l.length ≤ 1048576) : Ev (fun k => laws_toStringS.f k l) l := ⟨l.length + 1, fun _ hk => tos_val l (by omega) (by omega)⟩
theorem eqs_ev (x : List ByteArray) (hl : x.length ≤ 1048576) : Ev (fun k => laws_eqStringS.f k x x) true := by
  have hm : x.length ≤ maxLen := by unfold maxLen; omega
  exact ⟨x.length + 1, fun k hk => by show laws_eqStringS.f k x x = some true; rw [eqs_val x x hm (by omega)]; simp⟩

theorem markText_l (d : Nat) : ∀ (a : Int) (s : ByteArray), 0 ≤ a → a ≤ d → (s.size : Int) + a ≤ 8000000 → ∃ t, Ev (fun k => laws_markText.l0 k a s) t := by
  induction d with
  | zero =>
    intro a s h0 h1 h2
    refine ⟨(⟨#[109]⟩ : ByteArray) ++ s, ev_succ ?_⟩
    simp only [laws_markText.l0, if_neg (show ¬ a > 0 by omega), if_pos (show 1 + s.size ≤ 9223372036854775807 by omega)]
    exact ev_const rfl
  | succ d ih =>
    intro a s h0 h1 h2
    by_cases ha : a > 0
    · have hq : a / 10 < a := Int.ediv_lt_of_lt_mul (by omega) (by omega)
      have hq0 : 0 ≤ a / 10 := Int.ediv_nonneg h0 (by omega)
      obtain ⟨t, ht⟩ := ih (a / 10) (strOfNums [(wrap64 (48 + (Int.tmod a 10))) % 256] ++ s) hq0 (by omega) (by rw [ByteArray.size_append, strOfNums_size, List.length_singleton]; omega)
      refine ⟨t, ev_succ ?_⟩
      simp only [laws_markText.l0, if_pos ha, Option.bind_some, if_pos (show (strOfNums [(wrap64 (48 + (Int.tmod a 10))) % 256]).size + s.size ≤ 9223372036854775807 by rw [strOfNums_size, List.length_singleton]; omega), tdiv_nn h0, w64 (x := a / 10) (by omega) (by omega)]
      exact ht
    · refine ⟨(⟨#[109]⟩ : ByteArray) ++ s, ev_succ ?_⟩
      simp only [laws_markText.l0, if_neg ha, if_pos (show 1 + s.size ≤ 9223372036854775807 by omega)]
      exact ev_const rfl
theorem markText_ev {a : Int} (h0 : 0 ≤ a) (h1 : a ≤ 7000000) : ∃ t, Ev (fun k => laws_markText.f k a) t := by
  unfold laws_markText.f
  by_cases h : a ≤ 0
  · simp only [if_pos h]; exact ⟨_, ev_const rfl⟩
  · simp only [if_neg h]
    exact markText_l a.toNat a _ h0 (by omega) (by simp only [ByteArray.size, List.size_toArray, List.length_nil]; omega)

theorem markS_l (n : Nat) (hn : n ≤ 1048576) (d : Nat) : ∀ (x : List ByteArray) (a : Int) (i : Nat), x.length = n → i ≤ n → n - i = d → 0 ≤ a → a ≤ 4000000 + (i : Int) →
    ∃ b y, Ev (fun k => laws_markStringS.l0 k x a i) (b, y) ∧ a ≤ b ∧ b ≤ a + ((n : Int) - i) := by
  induction d with
  | zero =>
    intro x a i hx hi hd h0 h1
    refine ⟨a, x, ev_succ ?_, Int.le_refl _, by omega⟩
    simp only [laws_markStringS.l0, if_neg (show ¬ (i : Int) < (x.length : Int) by omega)]
    exact ev_const rfl
  | succ d ih =>
    intro x a i hx hi hd h0 h1
    obtain ⟨t, ht⟩ := markText_ev h0 (show a ≤ 7000000 by omega)
    obtain ⟨b, y, e, hb, hb2⟩ := ih (x.set i t) (a + 1) (i + 1) (by simpa using hx) (by omega) (by omega) (by omega) (by omega)
    refine ⟨b, y, ev_succ ?_, by omega, by omega⟩
    simp only [laws_markStringS.l0, if_pos (show (i : Int) < (x.length : Int) by omega), if_pos (show (0 : Int) ≤ (i : Int) by omega), Int.toNat_natCast, w64 (x := a + 1) (by omega) (by omega), w64 (x := (i : Int) + 1) (by omega) (by omega)]
    exact Ev.bind ht e
theorem markS_ev (x : List ByteArray) (hn : x.length ≤ 1048576) {a : Int} (h0 : 0 ≤ a) (h1 : a ≤ 4000000) : ∃ b y, Ev (fun k => laws_markStringS.f k x a) (b, y) ∧ a ≤ b ∧ b ≤ a + x.length := by
  obtain ⟨b, y, e, hb, hb2⟩ := markS_l x.length hn x.length x a 0 rfl (by omega) (by omega) h0 (by omega)
  exact ⟨b, y, e, hb, by omega⟩

theorem markH_l (n : Nat) (hn : n ≤ 1048576) (d : Nat) : ∀ (x : List ByteArray) (a : Int) (i : Nat), x.length = n → i ≤ n → n - i = d → 0 ≤ a → a ≤ 4000000 + (i : Int) →
    ∃ b y, Ev (fun k => laws_markStringS.l0 k x a i) (b, y) ∧ Ev (fun k => laws_heldStringS.l0 k y a i) b ∧ y.length = n ∧ y.take i = x.take i ∧ 0 ≤ b := by
  induction d with
  | zero =>
    intro x a i hx hi hd h0 h1
    refine ⟨a, x, ev_succ ?_, ev_succ ?_, hx, rfl, h0⟩
    · simp only [laws_markStringS.l0, if_neg (show ¬ (i : Int) < (x.length : Int) by omega)]
      exact ev_const rfl
    · simp only [laws_heldStringS.l0, if_neg (show ¬ (i : Int) < (x.length : Int) by omega)]
      exact ev_const rfl
  | succ d ih =>
    intro x a i hx hi hd h0 h1
    have hlt : i < x.length := by omega
    obtain ⟨t, ht⟩ := markText_ev h0 (show a ≤ 7000000 by omega)
    obtain ⟨b, y, e1, e2, hy, hk, hb⟩ := ih (x.set i t) (a + 1) (i + 1) (by simpa using hx) (by omega) (by omega) (by omega) (by omega)
    have hyl : i < y.length := by omega
    have hyi : y[i] = t := by
      have h2 : y[i] = (y.take (i + 1))[i]'(by rw [List.length_take]; omega) := by rw [List.getElem_take]
      rw [h2]
      simp only [hk, List.getElem_take, List.getElem_set_self]
    refine ⟨b, y, ev_succ ?_, ev_succ ?_, hy, ?_, hb⟩
    · simp only [laws_markStringS.l0, if_pos (show (i : Int) < (x.length : Int) by omega), if_pos (show (0 : Int) ≤ (i : Int) by omega), Int.toNat_natCast, w64 (x := a + 1) (by omega) (by omega), w64 (x := (i : Int) + 1) (by omega) (by omega)]
      exact Ev.bind ht e1
    · simp only [laws_heldStringS.l0, if_pos (show (i : Int) < (y.length : Int) by omega), if_pos (show (0 : Int) ≤ (i : Int) by omega), rdOf_at _ _ _ hyl, hyi, w64 (x := a + 1) (by omega) (by omega), w64 (x := (i : Int) + 1) (by omega) (by omega)]
      refine Ev.bind ht ?_
      simp only [if_true]
      exact e2
    · have h3 : y.take i = (y.take (i + 1)).take i := by rw [List.take_take]; congr 1; omega
      rw [h3, hk, List.take_take, Nat.min_eq_left (by omega), List.take_set_of_le (Nat.le_refl _)]
theorem markH_ev (x : List ByteArray) (hn : x.length ≤ 1048576) {a : Int} (h0 : 0 ≤ a) (h1 : a ≤ 4000000) : ∃ b y, Ev (fun k => laws_markStringS.f k x a) (b, y) ∧ Ev (fun k => laws_heldStringS.f k y a) b ∧ y.length = x.length ∧ 0 ≤ b := by
  obtain ⟨b, y, e1, e2, hy, _, hb⟩ := markH_l x.length hn x.length x a 0 rfl (by omega) (by omega) h0 (by omega)
  exact ⟨b, y, e1, e2, hy, hb⟩

/-- A byte that a name may have. -/
def nameC (c : Int) : Prop := ((97 : Int) ≤ c ∧ c ≤ 122) ∨ ((48 : Int) ≤ c ∧ c ≤ 57) ∨ c = 45
instance instNameC (c : Int) : Decidable (nameC c) := by unfold nameC; infer_instance
/-- A name. -/
def IsNm (s : ByteArray) : Prop := 1 ≤ s.size ∧ s.size ≤ 12 ∧ ((97 : Int) ≤ bt s 0 ∧ bt s 0 ≤ 122) ∧ ∀ i, i < s.size → nameC (bt s (i : Int))
instance instIsNm (s : ByteArray) : Decidable (IsNm s) := by unfold IsNm; infer_instance
theorem toList_nil (s : ByteArray) : s.toList = ([] : List UInt8) ↔ s.size = 0 := by
  rw [ByteArray.toList_eq]
  obtain ⟨⟨x⟩⟩ := s
  show x = [] ↔ x.length = 0
  rw [List.length_eq_zero_iff]
theorem bt_at (s : ByteArray) (i : Nat) (h : i < s.size) : bt s (i : Int) = ((s.data.toList[i]'(by simpa using h)).toNat : Int) := by
  unfold bt
  rw [dif_pos (by simpa using h)]
  rfl
open Classical in

theorem dw_nil (p : UInt8 → Bool) (l : List UInt8) : l.dropWhile p = [] ↔ ∀ b ∈ l, p b = true := by
  induction l with
  | nil => simp
  | cons a l ih =>
    by_cases h : p a = true
    · simp [List.dropWhile, h, ih]
    · simp [List.dropWhile, h]
theorem dw_head (p : UInt8 → Bool) (l : List UInt8) (x : UInt8) (xs : List UInt8) (h : l.dropWhile p = x :: xs) : p x = false := by
  induction l with
  | nil => simp at h
  | cons a l ih =>
    by_cases h2 : p a = true
    · simp only [List.dropWhile, h2] at h
      exact ih h
    · have h3 : p a = false := by simpa using h2
      simp only [List.dropWhile, h3, List.cons.injEq] at h
      rw [← h.1]; exact h3
theorem trimS_nil (l cs : List UInt8) : Go.Lib.trimS l cs = [] ↔ ∀ b ∈ l, cs.contains b = true := by
  unfold Go.Lib.trimS Go.Lib.trimLeftS Go.Lib.trimRightS
  rw [dw_nil]
  constructor
  · intro h b hb
    cases e : l.reverse.dropWhile (cs.contains ·) with
    | nil =>
      rw [dw_nil] at e
      exact e b (by simpa using hb)
    | cons x xs =>
      exfalso
      have h1 := dw_head _ _ _ _ e
      have h2 := h x (by rw [e]; simp)
      rw [h2] at h1
      cases h1
  · intro h b hb
    exact h b (by simpa using (List.dropWhile_sublist _).subset (List.mem_reverse.1 hb))

theorem gin_val (a b c : Int) : spec_l00In.f a b c = some (decide (b ≤ a ∧ a ≤ c)) := by
  unfold spec_l00In.f
  by_cases h : a ≥ b
  · rw [if_pos h]
    congr 1
    rw [decide_eq_decide]
    omega
  · rw [if_neg h]
    congr 1
    symm
    rw [decide_eq_false_iff_not]
    omega
theorem small_val (b : Int) : spec_l01Small.f b = some (decide (97 ≤ b ∧ b ≤ 122)) := by
  unfold spec_l01Small.f
  by_cases h : b ≥ 97
  · rw [if_pos h]
    congr 1
    rw [decide_eq_decide]
    omega
  · rw [if_neg h]
    congr 1
    symm
    rw [decide_eq_false_iff_not]
    omega
/-- A byte of a grid. -/
def cellB (b : UInt8) : Bool := decide ((b.toNat : Int) = 46 ∨ (97 ≤ (b.toNat : Int) ∧ (b.toNat : Int) ≤ 122))
/-- A row of a grid that is n wide. -/
def rowB (n : Nat) (r : ByteArray) : Bool := decide (r.size = n ∧ 1 ≤ r.size ∧ r.size ≤ 32) && r.data.toList.all cellB
def wideL (l : List ByteArray) : Nat := (rdOf ByteArray.empty l 0).size
/-- A grid. -/
def gridB (l : List ByteArray) : Bool := decide (1 ≤ l.length ∧ l.length ≤ 16) && l.all (rowB (wideL l))
theorem dsize (r : ByteArray) : r.data.toList.length = r.size := by rw [Array.length_toList]; rfl
theorem ok_l (l : List ByteArray) (hl : l.length ≤ 16) (d : Nat) : ∀ i : Nat, i ≤ l.length → l.length - i = d → Ev (fun k => spec_l12Ok.l0 k l i) ((l.drop i).all (rowB (wideL l))) := by
  induction d with
  | zero =>
    intro i hi hd
    apply ev_succ
    simp only [spec_l12Ok.l0, if_neg (show ¬ (i : Int) < (l.length : Int) by omega)]
    rw [List.drop_eq_nil_of_le (by omega)]
    exact ev_const rfl
  | succ d ih =>
    intro i hi hd
    have hlt : i < l.length := by omega
    have hih := ih (i + 1) (by omega) (by omega)
    rw [List.drop_eq_getElem_cons hlt, List.all_cons]
    apply ev_succ
    simp only [spec_l12Ok.l0, if_pos (show (i : Int) < (l.length : Int) by omega), if_pos (show (0 : Int) ≤ (i : Int) by omega), if_pos (show (0 : Int) < (l.length : Int) by omega), rdOf_at _ _ _ hlt, gin_val, Option.bind_some]
    by_cases h1 : (l[i].size : Int) = ((rdOf ByteArray.empty l 0).size : Int)
    · simp only [if_pos h1]
      by_cases h2 : 1 ≤ (l[i].size : Int) ∧ (l[i].size : Int) ≤ 32
      · rw [decide_eq_true h2]
        apply ev_succ
        simp only [spec_l12Ok.j1, Bool.not_true, Bool.false_eq_true, if_false]
        have row : ∀ (e : Nat) (m : Nat), m ≤ l[i].size → l[i].size - m = e → Ev (fun k => spec_l12Ok.l1 k l i m) ((l[i].data.toList.drop m).all cellB && (l.drop (i + 1)).all (rowB (wideL l))) := by
          intro e
          induction e with
          | zero =>
            intro m hm he
            apply ev_succ
            simp only [spec_l12Ok.l1, if_pos (show (0 : Int) ≤ (i : Int) by omega), if_pos (show (i : Int) < (l.length : Int) by omega), rdOf_at _ _ _ hlt, if_neg (show ¬ (m : Int) < (l[i].size : Int) by omega), w64 (x := (i : Int) + 1) (by omega) (by omega)]
            rw [List.drop_eq_nil_of_le (by rw [dsize]; omega)]
            exact hih
          | succ e ih2 =>
            intro m hm he
            have hm2 : m < l[i].size := by omega
            have hm3 : m < l[i].data.toList.length := by rw [dsize]; exact hm2
            have h3 := ih2 (m + 1) (by omega) (by omega)
            rw [List.drop_eq_getElem_cons hm3, List.all_cons]
            apply ev_succ
            simp only [spec_l12Ok.l1, if_pos (show (0 : Int) ≤ (i : Int) by omega), if_pos (show (i : Int) < (l.length : Int) by omega), rdOf_at _ _ _ hlt, if_pos (show (m : Int) < (l[i].size : Int) by omega), if_pos (show (0 : Int) ≤ (m : Int) by omega), bt_at _ _ hm2, small_val, Option.bind_some, w64 (x := (m : Int) + 1) (by omega) (by omega)]
            by_cases h4 : ((l[i].data.toList[m]).toNat : Int) = 46
            · simp only [if_pos h4]
              rw [show cellB (l[i].data.toList[m]) = true from decide_eq_true (Or.inl h4), Bool.true_and]
              exact h3
            · simp only [if_neg h4]
              by_cases h5 : 97 ≤ ((l[i].data.toList[m]).toNat : Int) ∧ ((l[i].data.toList[m]).toNat : Int) ≤ 122
              · rw [decide_eq_true h5, show cellB (l[i].data.toList[m]) = true from decide_eq_true (Or.inr h5), Bool.true_and]
                simp only [if_true]
                exact h3
              · rw [decide_eq_false h5, show cellB (l[i].data.toList[m]) = false from decide_eq_false (fun h => h.elim h4 h5), Bool.false_and, Bool.false_and]
                simp only [Bool.false_eq_true, if_false]
                exact ev_const rfl
        have := row l[i].size 0 (by omega) (by omega)
        rw [List.drop_zero] at this
        rw [show rowB (wideL l) l[i] = l[i].data.toList.all cellB by unfold rowB wideL; rw [decide_eq_true ⟨by omega, by omega, by omega⟩, Bool.true_and]]
        exact this
      · rw [decide_eq_false h2]
        apply ev_succ
        simp only [spec_l12Ok.j1, Bool.not_false, if_true]
        rw [show rowB (wideL l) l[i] = false by unfold rowB; rw [decide_eq_false (fun h => h2 ⟨by omega, by omega⟩), Bool.false_and], Bool.false_and]
        exact ev_const rfl
    · simp only [if_neg h1]
      apply ev_succ
      simp only [spec_l12Ok.j1, if_true]
      rw [show rowB (wideL l) l[i] = false by unfold rowB; rw [decide_eq_false (fun h => h1 (by have := h.1; unfold wideL at this; omega)), Bool.false_and], Bool.false_and]
      exact ev_const rfl
theorem ok_ev (l : List ByteArray) : Ev (fun k => spec_l12Ok.f k l) (gridB l) := by
  unfold spec_l12Ok.f gridB
  simp only [gin_val, Option.bind_some]
  by_cases h : (1 : Int) ≤ (l.length : Int) ∧ (l.length : Int) ≤ 16
  · rw [decide_eq_true h, decide_eq_true ⟨by omega, by omega⟩, Bool.true_and]
    simp only [if_true]
    have := ok_l l (by omega) l.length 0 (by omega) (by omega)
    simpa using this
  · rw [decide_eq_false h, decide_eq_false (fun h2 => h ⟨by omega, by omega⟩), Bool.false_and]
    simp only [Bool.false_eq_true, if_false]
    exact ev_const rfl
theorem cut_cell (b : UInt8) : ([46, 97, 98, 99, 100, 101, 102, 103, 104, 105, 106, 107, 108, 109, 110, 111, 112, 113, 114, 115, 116, 117, 118, 119, 120, 121, 122] : List UInt8).contains b = cellB b := by
  have key : ((List.range 256).all fun n => (([46, 97, 98, 99, 100, 101, 102, 103, 104, 105, 106, 107, 108, 109, 110, 111, 112, 113, 114, 115, 116, 117, 118, 119, 120, 121, 122] : List UInt8).contains (UInt8.ofNat n) == cellB (UInt8.ofNat n))) = true := by decide +kernel
  have h := List.all_eq_true.1 key b.toNat (List.mem_range.2 b.toNat_lt)
  rw [UInt8.ofNat_toNat] at h
  exact beq_iff_eq.1 h
theorem trim_cells (r : ByteArray) : ((⟨(Go.Lib.trimS r.data.toList [46, 97, 98, 99, 100, 101, 102, 103, 104, 105, 106, 107, 108, 109, 110, 111, 112, 113, 114, 115, 116, 117, 118, 119, 120, 121, 122]).toArray⟩ : ByteArray).toList = ([] : List UInt8)) ↔ r.data.toList.all cellB = true := by
  rw [ByteArray.toList_eq]
  show Go.Lib.trimS r.data.toList _ = [] ↔ _
  rw [trimS_nil, List.all_eq_true]
  constructor
  · intro h b hb
    rw [← cut_cell]
    exact h b hb
  · intro h b hb
    show ([46, 97, 98, 99, 100, 101, 102, 103, 104, 105, 106, 107, 108, 109, 110, 111, 112, 113, 114, 115, 116, 117, 118, 119, 120, 121, 122] : List UInt8).contains b = true
    rw [cut_cell]
    exact h b hb
/-- What the program asks of a row. -/
def rowI (n : Nat) (r : ByteArray) : Bool := decide (r.size = n) && r.data.toList.all cellB
theorem vg_l (l : List ByteArray) (hl : l.length ≤ 1048576) (hs : ∀ y ∈ l, y.size ≤ 1048576) (d : Nat) : ∀ i : Nat, i ≤ l.length → l.length - i = d → Ev (fun k => impl_ValidGrid.l0 k l l (l.length : Int) i) ((l.drop i).all (rowI (wideL l)) && (decide (1 ≤ l.length ∧ l.length ≤ 16) && decide (1 ≤ wideL l ∧ wideL l ≤ 32))) := by
  induction d with
  | zero =>
    intro i hi hd
    apply ev_succ
    simp only [impl_ValidGrid.l0, if_neg (show ¬ (i : Int) < (l.length : Int) by omega)]
    rw [List.drop_eq_nil_of_le (by omega), List.all_nil, Bool.true_and]
    by_cases h1 : 1 ≤ l.length
    · rw [if_pos (by omega)]
      by_cases h2 : l.length ≤ 16
      · rw [if_pos (by omega), if_pos (by omega), decide_eq_true (p := 1 ≤ l.length ∧ l.length ≤ 16) ⟨h1, h2⟩, Bool.true_and]
        unfold wideL
        by_cases h3 : ((rdOf ByteArray.empty l 0).size : Int) ≥ 1
        · rw [if_pos h3]
          refine ev_const ?_
          congr 1
          rw [decide_eq_decide]
          omega
        · rw [if_neg h3, decide_eq_false (fun h => h3 (by omega))]
          exact ev_const rfl
      · rw [if_neg (by omega), decide_eq_false (fun h => h2 h.2), Bool.false_and]
        exact ev_const rfl
    · rw [if_neg (by omega), decide_eq_false (fun h => h1 h.1), Bool.false_and]
      exact ev_const rfl
  | succ d ih =>
    intro i hi hd
    have hlt : i < l.length := by omega
    have hih := ih (i + 1) (by omega) (by omega)
    have hsz := hs _ (List.getElem_mem hlt)
    rw [List.drop_eq_getElem_cons hlt, List.all_cons]
    apply ev_succ
    simp only [impl_ValidGrid.l0, if_pos (show (i : Int) < (l.length : Int) by omega), if_pos (show (0 : Int) ≤ (i : Int) by omega), if_pos (show (0 : Int) < (l.length : Int) by omega), rdOf_at _ _ _ hlt, w64 (x := (i : Int) + 1) (by omega) (by omega)]
    by_cases h1 : (l[i].size : Int) = ((rdOf ByteArray.empty l 0).size : Int)
    · simp only [if_pos h1]
      unfold strings_Trim.f
      simp only [if_pos (show l[i].size ≤ 9223372036854775807 ∧ (⟨#[46, 97, 98, 99, 100, 101, 102, 103, 104, 105, 106, 107, 108, 109, 110, 111, 112, 113, 114, 115, 116, 117, 118, 119, 120, 121, 122]⟩ : ByteArray).size < 4294967281 ∧ (⟨#[46, 97, 98, 99, 100, 101, 102, 103, 104, 105, 106, 107, 108, 109, 110, 111, 112, 113, 114, 115, 116, 117, 118, 119, 120, 121, 122]⟩ : ByteArray).data.toList.all (fun b => decide (b.toNat < 128)) = true from ⟨by omega, by decide, by decide +kernel⟩), Option.bind_some]
      by_cases h2 : l[i].data.toList.all cellB = true
      · simp only [trim_cells, if_pos h2]
        rw [show rowI (wideL l) l[i] = true by unfold rowI wideL; rw [h2, decide_eq_true (by omega)]; rfl, Bool.true_and]
        exact hih
      · simp only [trim_cells, if_neg h2]
        rw [show rowI (wideL l) l[i] = false by unfold rowI; rw [Bool.eq_false_iff.2 h2, Bool.and_false], Bool.false_and, Bool.false_and]
        exact ev_const rfl
    · simp only [if_neg h1]
      rw [show rowI (wideL l) l[i] = false by unfold rowI; rw [decide_eq_false (fun h => h1 (by unfold wideL at h; omega)), Bool.false_and], Bool.false_and, Bool.false_and]
      exact ev_const rfl
theorem grid_two (l : List ByteArray) : (l.all (rowI (wideL l)) && (decide (1 ≤ l.length ∧ l.length ≤ 16) && decide (1 ≤ wideL l ∧ wideL l ≤ 32))) = gridB l := by
  rw [Bool.eq_iff_iff]
  unfold gridB
  simp only [Bool.and_eq_true, decide_eq_true_eq, List.all_eq_true, rowI, rowB]
  constructor
  · rintro ⟨h1, h2, h3⟩
    exact ⟨h2, fun r hr => ⟨⟨(h1 r hr).1, by rw [(h1 r hr).1]; exact h3.1, by rw [(h1 r hr).1]; exact h3.2⟩, (h1 r hr).2⟩⟩
  · rintro ⟨h1, h2⟩
    refine ⟨fun r hr => ⟨(h2 r hr).1.1, (h2 r hr).2⟩, h1, ?_⟩
    have h0 : 0 < l.length := by omega
    have h3 := h2 _ (List.getElem_mem h0)
    have e : wideL l = (l[0]).size := by
      show (rdOf ByteArray.empty l ((0 : Nat) : Int)).size = _
      rw [rdOf_at _ _ _ h0]
    rw [e]
    exact h3.1.2
theorem vg_ev (l : List ByteArray) (hl : l.length ≤ 1048576) (hs : ∀ y ∈ l, y.size ≤ 1048576) : Ev (fun k => impl_ValidGrid.f k l) (gridB l) := by
  unfold impl_ValidGrid.f
  have := vg_l l hl hs l.length 0 (by omega) (by omega)
  rw [List.drop_zero, grid_two] at this
  exact this
theorem grid_facts {l : List ByteArray} (h : gridB l = true) : 1 ≤ l.length ∧ l.length ≤ 16 ∧ ∀ r ∈ l, r.size = wideL l ∧ 1 ≤ r.size ∧ r.size ≤ 32 ∧ r.data.toList.all cellB = true := by
  unfold gridB at h
  simp only [Bool.and_eq_true, decide_eq_true_eq, List.all_eq_true, rowB] at h
  exact ⟨h.1.1, h.1.2, fun r hr => ⟨(h.2 r hr).1.1, (h.2 r hr).1.2.1, (h.2 r hr).1.2.2, List.all_eq_true.2 (h.2 r hr).2⟩⟩
/-- How often a byte is in a row, and in a grid. -/
def cntR (c : Int) (bs : List UInt8) : Nat := bs.countP (fun b => decide ((b.toNat : Int) = c))
def cntG (c : Int) : List ByteArray → Nat
  | [] => 0
  | r :: l => cntR c r.data.toList + cntG c l
theorem cntR_le (c : Int) (bs : List UInt8) : cntR c bs ≤ bs.length := List.countP_le_length
theorem cnt_l (l : List ByteArray) (hl : l.length ≤ 1000) (hs : ∀ y ∈ l, y.size ≤ 1000) (c : Int) (d : Nat) : ∀ (i : Nat) (a : Int), i ≤ l.length → l.length - i = d → 0 ≤ a → a ≤ 1000 * (i : Int) → Ev (fun k => spec_l12Count.l0 k l c a i) (a + (cntG c (l.drop i) : Int)) := by
  induction d with
  | zero =>
    intro i a hi hd h0 h1
    apply ev_succ
    simp only [spec_l12Count.l0, if_neg (show ¬ (i : Int) < (l.length : Int) by omega)]
    rw [List.drop_eq_nil_of_le (by omega)]
    exact ev_const (by simp [cntG])
  | succ d ih =>
    intro i a hi hd h0 h1
    have hlt : i < l.length := by omega
    have hih := fun b => ih (i + 1) b (by omega) (by omega)
    have hsz := hs _ (List.getElem_mem hlt)
    rw [List.drop_eq_getElem_cons hlt]
    apply ev_succ
    simp only [spec_l12Count.l0, if_pos (show (i : Int) < (l.length : Int) by omega)]
    have row : ∀ (e : Nat) (m : Nat) (b : Int), m ≤ l[i].size → l[i].size - m = e → 0 ≤ b → b ≤ 1000 * (i : Int) + (m : Int) → Ev (fun k => spec_l12Count.l1 k l c b i m) (b + ((cntR c (l[i].data.toList.drop m) : Int) + (cntG c (l.drop (i + 1)) : Int))) := by
      intro e
      induction e with
      | zero =>
        intro m b hm he h2 h3
        apply ev_succ
        simp only [spec_l12Count.l1, if_pos (show (0 : Int) ≤ (i : Int) by omega), if_pos (show (i : Int) < (l.length : Int) by omega), rdOf_at _ _ _ hlt, if_neg (show ¬ (m : Int) < (l[i].size : Int) by omega), w64 (x := (i : Int) + 1) (by omega) (by omega)]
        rw [List.drop_eq_nil_of_le (by rw [dsize]; omega)]
        have := hih b h2 (by omega)
        rw [show b + ((cntR c [] : Int) + (cntG c (l.drop (i + 1)) : Int)) = b + (cntG c (l.drop (i + 1)) : Int) by simp [cntR]]
        exact this
      | succ e ih2 =>
        intro m b hm he h2 h3
        have hm2 : m < l[i].size := by omega
        have hm3 : m < l[i].data.toList.length := by rw [dsize]; exact hm2
        have h4 := fun b => ih2 (m + 1) b (by omega) (by omega)
        rw [List.drop_eq_getElem_cons hm3]
        apply ev_succ
        simp only [spec_l12Count.l1, if_pos (show (0 : Int) ≤ (i : Int) by omega), if_pos (show (i : Int) < (l.length : Int) by omega), rdOf_at _ _ _ hlt, if_pos (show (m : Int) < (l[i].size : Int) by omega), if_pos (show (0 : Int) ≤ (m : Int) by omega), bt_at _ _ hm2, w64 (x := (m : Int) + 1) (by omega) (by omega), w64 (x := b + 1) (by omega) (by omega)]
        by_cases h5 : ((l[i].data.toList[m]).toNat : Int) = c
        · simp only [if_pos h5]
          have := h4 (b + 1) (by omega) (by omega)
          rw [show b + ((cntR c (l[i].data.toList[m] :: l[i].data.toList.drop (m + 1)) : Int) + (cntG c (l.drop (i + 1)) : Int)) = b + 1 + ((cntR c (l[i].data.toList.drop (m + 1)) : Int) + (cntG c (l.drop (i + 1)) : Int)) by
            unfold cntR
            rw [List.countP_cons_of_pos (by simpa using h5)]
            omega]
          exact this
        · simp only [if_neg h5]
          have := h4 b (by omega) (by omega)
          rw [show cntR c (l[i].data.toList[m] :: l[i].data.toList.drop (m + 1)) = cntR c (l[i].data.toList.drop (m + 1)) by
            unfold cntR
            rw [List.countP_cons_of_neg (by simpa using h5)]]
          exact this
    have := row l[i].size 0 a (by omega) (by omega) h0 (by omega)
    rw [List.drop_zero] at this
    show Ev _ (a + ((cntR c l[i].data.toList + cntG c (l.drop (i + 1)) : Nat) : Int))
    rw [show (((cntR c l[i].data.toList + cntG c (l.drop (i + 1)) : Nat)) : Int) = (cntR c l[i].data.toList : Int) + (cntG c (l.drop (i + 1)) : Int) by omega]
    exact this
theorem cnt_ev (l : List ByteArray) (hl : l.length ≤ 1000) (hs : ∀ y ∈ l, y.size ≤ 1000) (c : Int) : Ev (fun k => spec_l12Count.f k l c) (cntG c l : Int) := by
  unfold spec_l12Count.f
  have := cnt_l l hl hs c l.length 0 0 (by omega) (by omega) (by omega) (by omega)
  rw [List.drop_zero, Int.zero_add] at this
  exact this

/-- The cells of a row, and of a grid, that have a byte. -/
def cellsR (i c : Int) : Int → List UInt8 → List S84
  | _, [] => []
  | m, b :: bs => if (b.toNat : Int) = c then ⟨i, m⟩ :: cellsR i c (m + 1) bs else cellsR i c (m + 1) bs
def cellsG (c : Int) : Int → List ByteArray → List S84
  | _, [] => []
  | i, r :: l => cellsR i c 0 r.data.toList ++ cellsG c (i + 1) l
theorem cellsR_length (i c : Int) : ∀ (bs : List UInt8) (m : Int), (cellsR i c m bs).length = cntR c bs
  | [], _ => rfl
  | b :: bs, m => by
    unfold cellsR cntR
    by_cases h : (b.toNat : Int) = c
    · rw [if_pos h, List.countP_cons_of_pos (by simpa using h), List.length_cons, cellsR_length i c bs]
      rfl
    · rw [if_neg h, List.countP_cons_of_neg (by simpa using h), cellsR_length i c bs]
      rfl
theorem cellsG_length (c : Int) : ∀ (l : List ByteArray) (i : Int), (cellsG c i l).length = cntG c l
  | [], _ => rfl
  | r :: l, i => by
    unfold cellsG cntG
    rw [List.length_append, cellsR_length, cellsG_length c l]
theorem cells_l (l : List ByteArray) (hl : l.length ≤ 1000) (hs : ∀ y ∈ l, y.size ≤ 1000) (c : Int) (d : Nat) : ∀ (i : Nat) (o : List S84), i ≤ l.length → l.length - i = d → o.length ≤ 1000 * i → Ev (fun k => impl_cellsWith.l0 k c o l (l.length : Int) i) (o ++ cellsG c i (l.drop i)) := by
  induction d with
  | zero =>
    intro i o hi hd ho
    apply ev_succ
    simp only [impl_cellsWith.l0, if_neg (show ¬ (i : Int) < (l.length : Int) by omega)]
    rw [List.drop_eq_nil_of_le (by omega)]
    exact ev_const (by simp [cellsG])
  | succ d ih =>
    intro i o hi hd ho
    have hlt : i < l.length := by omega
    have hih := fun b => ih (i + 1) b (by omega) (by omega)
    have hsz := hs _ (List.getElem_mem hlt)
    rw [List.drop_eq_getElem_cons hlt]
    apply ev_succ
    simp only [impl_cellsWith.l0, if_pos (show (i : Int) < (l.length : Int) by omega), if_pos (show (0 : Int) ≤ (i : Int) by omega), rdOf_at _ _ _ hlt]
    have row : ∀ (e : Nat) (m : Nat) (o : List S84), m ≤ l[i].size → l[i].size - m = e → o.length ≤ 1000 * i + m → Ev (fun k => impl_cellsWith.l1 k c o i l[i] l (l.length : Int) i (l[i].size : Int) m) (o ++ (cellsR i c m (l[i].data.toList.drop m) ++ cellsG c ((i : Int) + 1) (l.drop (i + 1)))) := by
      intro e
      induction e with
      | zero =>
        intro m o hm he ho
        apply ev_succ
        simp only [impl_cellsWith.l1, if_neg (show ¬ (m : Int) < (l[i].size : Int) by omega), w64 (x := (i : Int) + 1) (by omega) (by omega)]
        rw [List.drop_eq_nil_of_le (by rw [dsize]; omega)]
        have := hih o (by omega)
        rw [show ((i + 1 : Nat) : Int) = (i : Int) + 1 by omega] at this
        rw [show cellsR i c m [] = [] from rfl, List.nil_append]
        exact this
      | succ e ih2 =>
        intro m o hm he ho
        have hm2 : m < l[i].size := by omega
        have hm3 : m < l[i].data.toList.length := by rw [dsize]; exact hm2
        have h4 := fun b => ih2 (m + 1) b (by omega) (by omega)
        rw [List.drop_eq_getElem_cons hm3]
        apply ev_succ
        simp only [impl_cellsWith.l1, if_pos (show (m : Int) < (l[i].size : Int) by omega), if_pos (show (0 : Int) ≤ (m : Int) by omega), bt_at _ _ hm2, w64 (x := (m : Int) + 1) (by omega) (by omega), if_pos (show o.length < 8796093022208 by omega)]
        by_cases h5 : ((l[i].data.toList[m]).toNat : Int) = c
        · simp only [if_pos h5]
          have := h4 (o ++ [⟨(i : Int), (m : Int)⟩]) (by rw [List.length_append, List.length_singleton]; omega)
          rw [show cellsR i c m (l[i].data.toList[m] :: l[i].data.toList.drop (m + 1)) = ⟨(i : Int), (m : Int)⟩ :: cellsR i c ((m : Int) + 1) (l[i].data.toList.drop (m + 1)) by
            show (if _ then _ else _) = _
            simp only [if_pos h5]
            rw []]
          rw [List.append_assoc] at this
          exact this
        · simp only [if_neg h5]
          have := h4 o (by omega)
          rw [show cellsR i c m (l[i].data.toList[m] :: l[i].data.toList.drop (m + 1)) = cellsR i c ((m : Int) + 1) (l[i].data.toList.drop (m + 1)) by
            show (if _ then _ else _) = _
            simp only [if_neg h5]
            rw []]
          exact this
    have := row l[i].size 0 o (by omega) (by omega) (by omega)
    rw [List.drop_zero] at this
    exact this
theorem cells_ev (l : List ByteArray) (hl : l.length ≤ 1000) (hs : ∀ y ∈ l, y.size ≤ 1000) (c : Int) : Ev (fun k => impl_cellsWith.f k l c) (cellsG c 0 l) := by
  unfold impl_cellsWith.f
  have := cells_l l hl hs c l.length 0 [] (by omega) (by omega) (by simp)
  rw [List.drop_zero, List.nil_append] at this
  exact this

def BL (x y : ByteArray) : Prop := x.data.toList < y.data.toList
theorem bl_no (x : ByteArray) : ¬ BL x x := List.lt_irrefl _
theorem bl_tr {x y z : ByteArray} (h : BL x y) (h2 : BL y z) : BL x z := List.lt_trans h h2
theorem asc_ext : ∀ (a b : List ByteArray), a.Pairwise BL → b.Pairwise BL → (∀ x, x ∈ a ↔ x ∈ b) → a = b
  | [], [], _, _, _ => rfl
  | [], y :: b, _, _, h => by have := (h y).2 (by simp); simp at this
  | x :: a, [], _, _, h => by have := (h x).1 (by simp); simp at this
  | x :: a, y :: b, h1, h2, h => by
    obtain ⟨g1, g2⟩ := List.pairwise_cons.1 h1
    obtain ⟨f1, f2⟩ := List.pairwise_cons.1 h2
    have e : x = y := by
      rcases List.mem_cons.1 ((h x).1 (by simp)) with e | e
      · exact e
      · rcases List.mem_cons.1 ((h y).2 (by simp)) with e2 | e2
        · exact e2.symm
        · exact absurd (bl_tr (g1 y e2) (f1 x e)) (bl_no x)
    subst e
    rw [asc_ext a b g2 f2 (fun z => ?_)]
    constructor
    · intro hz
      rcases List.mem_cons.1 ((h z).1 (List.mem_cons_of_mem _ hz)) with e | e
      · exact absurd (e ▸ g1 z hz) (bl_no x)
      · exact e
    · intro hz
      rcases List.mem_cons.1 ((h z).2 (List.mem_cons_of_mem _ hz)) with e | e
      · exact absurd (e ▸ f1 z hz) (bl_no x)
      · exact e
theorem lt_of_le {a b : List UInt8} (h : a ≤ b) (h2 : b ≠ a) : a < b := by
  rcases List.le_iff_lt_or_eq.1 h with h | h
  · exact h
  · exact absurd h.symm h2
theorem compactS_facts (d : Array (List UInt8)) (hs : ∀ i j, i ≤ j → j < d.size → d[i]! ≤ d[j]!) (m : Nat) : m ≤ d.size → (Go.Lib.compactUpTo d m).Pairwise (· < ·) ∧ ∀ x, x ∈ Go.Lib.compactUpTo d m ↔ ∃ j, j < m ∧ d[j]! = x := by
  induction m with
  | zero =>
    intro _
    exact ⟨by simp [Go.Lib.compactUpTo], fun x => by simp [Go.Lib.compactUpTo]⟩
  | succ m ih =>
    intro hm
    obtain ⟨h1, h2⟩ := ih (by omega)
    rw [Go.Lib.compactUpTo_succ]
    by_cases hk : Go.Lib.keeps d m = true
    · rw [if_pos hk]
      have hk2 : m = 0 ∨ d[m]! ≠ d[m - 1]! := of_decide_eq_true hk
      refine ⟨?_, fun x => ?_⟩
      · rw [List.pairwise_append]
        refine ⟨h1, by simp, fun a ha b hb => ?_⟩
        rw [List.mem_singleton.1 hb]
        obtain ⟨j, hj, rfl⟩ := (h2 a).1 ha
        have q1 := hs j (m - 1) (by omega) (by omega)
        have q2 := hs (m - 1) m (by omega) (by omega)
        rcases hk2 with h | h
        · omega
        · exact List.lt_of_le_of_lt q1 (lt_of_le q2 h)
      · rw [List.mem_append, List.mem_singleton, h2]
        constructor
        · rintro (⟨j, hj, rfl⟩ | rfl)
          · exact ⟨j, by omega, rfl⟩
          · exact ⟨m, by omega, rfl⟩
        · rintro ⟨j, hj, rfl⟩
          by_cases e : j = m
          · subst e; exact .inr rfl
          · exact .inl ⟨j, by omega, rfl⟩
    · rw [if_neg hk, List.append_nil]
      have hk2 : ¬ (m = 0 ∨ d[m]! ≠ d[m - 1]!) := fun h => hk (decide_eq_true h)
      refine ⟨h1, fun x => ?_⟩
      rw [h2]
      constructor
      · rintro ⟨j, hj, rfl⟩
        exact ⟨j, by omega, rfl⟩
      · rintro ⟨j, hj, rfl⟩
        by_cases e : j = m
        · subst e
          have : d[j]! = d[j - 1]! := by
            by_cases q : d[j]! = d[j - 1]!
            · exact q
            · exact absurd (.inr q) hk2
          exact ⟨j - 1, by omega, this.symm⟩
        · exact ⟨j, by omega, rfl⟩
theorem sortedS_compact (zs : List (List UInt8)) : (Go.Lib.compact (zs.mergeSort fun x y => decide (x ≤ y))).Pairwise (· < ·) ∧ ∀ x, x ∈ Go.Lib.compact (zs.mergeSort fun x y => decide (x ≤ y)) ↔ x ∈ zs := by
  have hp : (zs.mergeSort fun x y => decide (x ≤ y)).Pairwise (fun a b => decide (a ≤ b) = true) := List.pairwise_mergeSort (le := fun x y : List UInt8 => decide (x ≤ y)) (fun a b c h1 h2 => decide_eq_true (List.le_trans (of_decide_eq_true h1) (of_decide_eq_true h2))) (fun a b => by rw [Bool.or_eq_true, decide_eq_true_iff, decide_eq_true_iff]; exact List.le_total a b) zs
  have hm : ∀ x, x ∈ (zs.mergeSort fun x y => decide (x ≤ y)) ↔ x ∈ zs := fun x => List.mem_mergeSort
  generalize (zs.mergeSort fun x y => decide (x ≤ y)) = ts at hp hm
  have hget : ∀ j (h : j < ts.length), ts.toArray[j]! = ts[j] := fun j h => by simp [h]
  have hs : ∀ i j, i ≤ j → j < ts.toArray.size → ts.toArray[i]! ≤ ts.toArray[j]! := by
    intro i j hij hj
    have hj' : j < ts.length := by simpa using hj
    rw [hget i (by omega), hget j hj']
    rcases Nat.eq_or_lt_of_le hij with e | e
    · subst e; exact List.le_refl _
    · exact of_decide_eq_true (List.pairwise_iff_getElem.1 hp i j (by omega) hj' e)
  obtain ⟨h1, h2⟩ := compactS_facts ts.toArray hs ts.length (by simp)
  unfold Go.Lib.compact
  refine ⟨h1, fun x => ?_⟩
  rw [h2, ← hm]
  constructor
  · rintro ⟨j, hj, rfl⟩
    rw [hget j hj]
    exact List.getElem_mem _
  · intro hx
    obtain ⟨j, hj, rfl⟩ := List.getElem_of_mem hx
    exact ⟨j, hj, hget j hj⟩
theorem sortL_asc (o : List ByteArray) : (sortL o).Pairwise BL := by
  unfold sortL textL
  rw [List.pairwise_map]
  exact (sortedS_compact (bytesL o)).1
theorem sortL_mem (o : List ByteArray) (x : ByteArray) : x ∈ sortL o ↔ x ∈ o := by
  unfold sortL textL
  rw [List.mem_map]
  constructor
  · rintro ⟨z, hz, rfl⟩
    obtain ⟨y, hy, rfl⟩ := List.mem_map.1 (((sortedS_compact (bytesL o)).2 z).1 hz)
    exact hy
  · intro hx
    exact ⟨x.data.toList, ((sortedS_compact (bytesL o)).2 _).2 (List.mem_map.2 ⟨x, hx, rfl⟩), rfl⟩
theorem son_append (a b : List Int) : strOfNums (a ++ b) = strOfNums a ++ strOfNums b := by
  apply ByteArray.ext
  rw [ByteArray.data_append]
  simp [strOfNums]
theorem numsB_son (xs : List Int) (h : ∀ x ∈ xs, 0 ≤ x ∧ x < 256) : numsB (strOfNums xs) = xs := by
  unfold numsB strOfNums
  show List.map (fun b : UInt8 => (b.toNat : Int)) (List.map (fun n : Int => UInt8.ofNat n.toNat) xs) = xs
  rw [List.map_map]
  conv => rhs; rw [← List.map_id xs]
  apply List.map_congr_left
  intro x hx
  have := h x hx
  show ((UInt8.ofNat x.toNat).toNat : Int) = x
  rw [UInt8.toNat_ofNat']
  omega
theorem bt_son (xs : List Int) (h : ∀ x ∈ xs, 0 ≤ x ∧ x < 256) (i : Nat) (hi : i < xs.length) : bt (strOfNums xs) (i : Int) = xs[i] := by
  have h1 : i < (strOfNums xs).size := by rw [strOfNums_size]; exact hi
  rw [bt_at _ i h1]
  have h2 := numsB_son xs h
  have h3 : (numsB (strOfNums xs))[i]'(by rw [h2]; exact hi) = xs[i] := by simp only [h2]
  rw [← h3]
  simp [numsB]
theorem extract_son (xs : List Int) (i : Nat) (hi : i < xs.length) : (strOfNums xs).extract i (i + 1) = strOfNums [xs[i]] := by
  apply ByteArray.ext
  rw [ByteArray.data_extract]
  apply Array.toList_inj.1
  rw [Array.toList_extract]
  show List.extract ((xs.map fun n => UInt8.ofNat n.toNat)) i (i + 1) = [UInt8.ofNat (xs[i]).toNat]
  rw [List.extract_eq_take_drop, show i + 1 - i = 1 by omega, List.drop_eq_getElem_cons (by simpa using hi)]
  simp
/-- The value of a cell. -/
abbrev cv (l : List ByteArray) (i m : Int) : Int := bt (rdOf ByteArray.empty l i) m
theorem row_size {l : List ByteArray} (h : gridB l = true) (i : Nat) (hi : i < l.length) : (rdOf ByteArray.empty l (i : Int)).size = wideL l := by
  rw [rdOf_at _ _ _ hi]
  exact ((grid_facts h).2.2 _ (List.getElem_mem hi)).1
theorem wide_bd {l : List ByteArray} (h : gridB l = true) : 1 ≤ wideL l ∧ wideL l ≤ 32 := by
  obtain ⟨h1, h2, h3⟩ := grid_facts h
  have h4 := h3 _ (List.getElem_mem (show 0 < l.length by omega))
  omega
theorem cv_at {l : List ByteArray} (i m : Nat) (hi : i < l.length) (hm : m < (l[i]).data.toList.length) : cv l i m = (((l[i]).data.toList[m]).toNat : Int) := by
  unfold cv
  rw [rdOf_at _ _ _ hi]
  exact bt_at _ _ (by rw [← dsize]; exact hm)
theorem cv_kind {l : List ByteArray} (h : gridB l = true) (i m : Nat) (hi : i < l.length) (hm : m < wideL l) : cv l i m = 46 ∨ (97 ≤ cv l i m ∧ cv l i m ≤ 122) := by
  obtain ⟨h1, h2, h3⟩ := grid_facts h
  obtain ⟨r1, r2, r3, r4⟩ := h3 _ (List.getElem_mem hi)
  have hm2 : m < (l[i]).data.toList.length := by rw [dsize]; omega
  rw [cv_at i m hi hm2]
  exact of_decide_eq_true (List.all_eq_true.1 r4 _ (List.getElem_mem hm2))
/-! The letters -/
def landsD (l : List ByteArray) : Nat → Int → List Int
  | 0, _ => []
  | d + 1, c => if 0 < cntG c l then c :: landsD l d (c + 1) else landsD l d (c + 1)
theorem landsD_mem (l : List ByteArray) : ∀ (d : Nat) (c x : Int), x ∈ landsD l d c ↔ c ≤ x ∧ x < c + d ∧ 0 < cntG x l
  | 0, c, x => by simp [landsD]; omega
  | d + 1, c, x => by
    unfold landsD
    by_cases h : 0 < cntG c l
    · rw [if_pos h, List.mem_cons, landsD_mem l d (c + 1) x]
      constructor
      · rintro (rfl | ⟨h1, h2, h3⟩)
        · exact ⟨by omega, by omega, h⟩
        · exact ⟨by omega, by omega, h3⟩
      · rintro ⟨h1, h2, h3⟩
        by_cases e : x = c
        · exact .inl e
        · exact .inr ⟨by omega, by omega, h3⟩
    · rw [if_neg h, landsD_mem l d (c + 1) x]
      constructor
      · rintro ⟨h1, h2, h3⟩
        exact ⟨by omega, by omega, h3⟩
      · rintro ⟨h1, h2, h3⟩
        have : x ≠ c := by rintro rfl; exact h h3
        exact ⟨by omega, by omega, h3⟩
theorem landsD_asc (l : List ByteArray) : ∀ (d : Nat) (c : Int), (landsD l d c).Pairwise (· < ·)
  | 0, c => List.Pairwise.nil
  | d + 1, c => by
    unfold landsD
    split
    · exact List.pairwise_cons.2 ⟨fun x hx => by have := (landsD_mem l d (c + 1) x).1 hx; omega, landsD_asc l d (c + 1)⟩
    · exact landsD_asc l d (c + 1)
theorem landsD_length (l : List ByteArray) : ∀ (d : Nat) (c : Int), (landsD l d c).length ≤ d
  | 0, c => by simp [landsD]
  | d + 1, c => by
    have := landsD_length l d (c + 1)
    unfold landsD
    split
    · rw [List.length_cons]; omega
    · omega
def landsL (l : List ByteArray) : List Int := landsD l 26 97
theorem landsL_bytes (l : List ByteArray) : ∀ x ∈ landsL l, 0 ≤ x ∧ x < 256 := fun x hx => by have := (landsD_mem l 26 97 x).1 hx; omega
theorem enc_one (c : Int) (h : 97 ≤ c) (h2 : c ≤ 122) : Go.Utf8.encode (wrap32 c) = strOfNums [c] := by
  rw [show wrap32 c = c by unfold wrap32; omega]
  unfold Go.Utf8.encode Go.Utf8.valid
  have : (decide (0 ≤ c) && decide (c < 0xD800) || decide (0xE000 ≤ c) && decide (c ≤ 0x10FFFF)) = true := by simp; omega
  simp only [this, if_true]
  rw [if_pos (by omega)]
  rfl
theorem slands_l (l : List ByteArray) (hl : l.length ≤ 1000) (hs : ∀ y ∈ l, y.size ≤ 1000) (d : Nat) : ∀ (c : Int) (xs : List Int), 97 ≤ c → c + d = 123 → xs.length + d ≤ 26 → Ev (fun k => spec_l12Lands.l0 k l (strOfNums xs) c) (strOfNums (xs ++ landsD l d c)) := by
  induction d with
  | zero =>
    intro c xs h0 h1 h2
    apply ev_succ
    simp only [spec_l12Lands.l0, if_neg (show ¬ c ≤ 122 by omega)]
    exact ev_const (by simp [landsD])
  | succ d ih =>
    intro c xs h0 h1 h2
    apply ev_succ
    simp only [spec_l12Lands.l0, if_pos (show c ≤ 122 by omega), show (c + 1) % 256 = c + 1 by omega]
    refine Ev.bind (cnt_ev l hl hs c) ?_
    unfold landsD
    by_cases h : 0 < cntG c l
    · simp only [if_pos (show (cntG c l : Int) > 0 by omega), Option.bind_some, if_pos (show (strOfNums xs).size + (strOfNums [c]).size ≤ 9223372036854775807 by rw [strOfNums_size, strOfNums_size, List.length_singleton]; omega)]
      rw [if_pos h, ← son_append]
      have := ih (c + 1) (xs ++ [c]) (by omega) (by omega) (by rw [List.length_append, List.length_singleton]; omega)
      rw [List.append_assoc] at this
      exact this
    · simp only [if_neg (show ¬ (cntG c l : Int) > 0 by omega)]
      rw [if_neg h]
      exact ih (c + 1) xs (by omega) (by omega) (by omega)
theorem slands_ev (l : List ByteArray) (hl : l.length ≤ 1000) (hs : ∀ y ∈ l, y.size ≤ 1000) : Ev (fun k => spec_l12Lands.f k l) (strOfNums (landsL l)) := slands_l l hl hs 26 97 [] (by omega) (by omega) (by simp)
theorem ilands_l (l : List ByteArray) (hl : l.length ≤ 1000) (hs : ∀ y ∈ l, y.size ≤ 1000) (d : Nat) : ∀ (c : Int) (xs : List Int), 97 ≤ c → c + d = 123 → xs.length + d ≤ 26 → Ev (fun k => impl_landsOf.l0 k l (strOfNums xs) c) (strOfNums (xs ++ landsD l d c)) := by
  induction d with
  | zero =>
    intro c xs h0 h1 h2
    apply ev_succ
    simp only [impl_landsOf.l0, if_neg (show ¬ c ≤ 122 by omega)]
    exact ev_const (by simp [landsD])
  | succ d ih =>
    intro c xs h0 h1 h2
    apply ev_succ
    simp only [impl_landsOf.l0, if_pos (show c ≤ 122 by omega), show (c + 1) % 256 = c + 1 by omega, enc_one c h0 (show c ≤ 122 by omega)]
    refine Ev.bind (cells_ev l hl hs c) ?_
    rw [cellsG_length]
    unfold landsD
    by_cases h : 0 < cntG c l
    · simp only [if_pos (show (cntG c l : Int) > 0 by omega), if_pos (show (strOfNums xs).size + (strOfNums [c]).size ≤ 9223372036854775807 by rw [strOfNums_size, strOfNums_size, List.length_singleton]; omega)]
      rw [if_pos h, ← son_append]
      have := ih (c + 1) (xs ++ [c]) (by omega) (by omega) (by rw [List.length_append, List.length_singleton]; omega)
      rw [List.append_assoc] at this
      exact this
    · simp only [if_neg (show ¬ (cntG c l : Int) > 0 by omega)]
      rw [if_neg h]
      exact ih (c + 1) xs (by omega) (by omega) (by omega)
theorem ilands_ev (l : List ByteArray) (hl : l.length ≤ 1000) (hs : ∀ y ∈ l, y.size ≤ 1000) : Ev (fun k => impl_landsOf.f k l) (strOfNums (landsL l)) := ilands_l l hl hs 26 97 [] (by omega) (by omega) (by simp)
/-! Whether two letters meet -/
def hitB (a b c d : Int) : Bool := decide (c = a ∧ d = b) || decide (c = b ∧ d = a)
theorem hit_iff (a b c d : Int) : hitB a b c d = true ↔ (c = a ∧ d = b) ∨ (c = b ∧ d = a) := by
  unfold hitB
  rw [Bool.or_eq_true, decide_eq_true_iff, decide_eq_true_iff]
theorem hit_if {β : Type} (X : Bool → β) (a b c d : Int) : (if c = a then (if d = b then X true else (if c = b then X (d == a) else X false)) else (if c = b then X (d == a) else X false)) = X (hitB a b c d) := by
  unfold hitB
  by_cases h1 : c = a
  · by_cases h2 : d = b
    · rw [if_pos h1, if_pos h2, decide_eq_true ⟨h1, h2⟩, Bool.true_or]
    · rw [if_pos h1, if_neg h2, decide_eq_false (fun h => h2 h.2), Bool.false_or]
      by_cases h3 : c = b
      · rw [if_pos h3]
        congr 1
        rw [Bool.eq_iff_iff, beq_iff_eq, decide_eq_true_iff]
        exact ⟨fun h => ⟨h3, h⟩, fun h => h.2⟩
      · rw [if_neg h3, decide_eq_false (fun h => h3 h.1)]
  · rw [if_neg h1, decide_eq_false (fun h => h1 h.1), Bool.false_or]
    by_cases h3 : c = b
    · rw [if_pos h3]
      congr 1
      rw [Bool.eq_iff_iff, beq_iff_eq, decide_eq_true_iff]
      exact ⟨fun h => ⟨h3, h⟩, fun h => h.2⟩
    · rw [if_neg h3, decide_eq_false (fun h => h3 h.1)]
theorem hit_if2 {β : Type} (X L : β) (a b c d : Int) : (if c = a then (if d = b then X else (if c = b then (if d = a then X else L) else L)) else (if c = b then (if d = a then X else L) else L)) = (if hitB a b c d = true then X else L) := by
  simp only [hit_iff]
  by_cases h1 : c = a
  · by_cases h2 : d = b
    · rw [if_pos h1, if_pos h2, if_pos (.inl ⟨h1, h2⟩)]
    · rw [if_pos h1, if_neg h2]
      by_cases h3 : c = b
      · by_cases h4 : d = a
        · rw [if_pos h3, if_pos h4, if_pos (.inr ⟨h3, h4⟩)]
        · rw [if_pos h3, if_neg h4, if_neg (fun h => h.elim (fun h => h2 h.2) (fun h => h4 h.2))]
      · rw [if_neg h3, if_neg (fun h => h.elim (fun h => h2 h.2) (fun h => h3 h.1))]
  · rw [if_neg h1]
    by_cases h3 : c = b
    · by_cases h4 : d = a
      · rw [if_pos h3, if_pos h4, if_pos (.inr ⟨h3, h4⟩)]
      · rw [if_pos h3, if_neg h4, if_neg (fun h => h.elim (fun h => h1 h.1) (fun h => h4 h.2))]
    · rw [if_neg h3, if_neg (fun h => h.elim (fun h => h1 h.1) (fun h => h3 h.1))]
def meetC (l : List ByteArray) (a b : Int) (i m : Nat) : Bool := hitB a b (cv l i m) (cv l i (((m + 1) % wideL l : Nat) : Int)) || (decide (i + 1 < l.length) && hitB a b (cv l i m) (cv l ((i + 1 : Nat) : Int) m))
theorem meetC_eq (l : List ByteArray) (a b : Int) (i m : Nat) : meetC l a b i m = (hitB a b (cv l i m) (cv l i (((m + 1) % wideL l : Nat) : Int)) || (decide (i + 1 < l.length) && hitB a b (cv l i m) (cv l ((i + 1 : Nat) : Int) m))) := rfl
def meetB (l : List ByteArray) (a b : Int) : Bool := (List.range' 0 l.length).any fun i => (List.range' 0 (wideL l)).any (meetC l a b i)
theorem east_val {l : List ByteArray} (h : gridB l = true) (i m : Nat) (hi : i < l.length) (hm : m < wideL l) : spec_l12East.f l i m = some (cv l i (((m + 1) % wideL l : Nat) : Int)) := by
  obtain ⟨w1, w2⟩ := wide_bd h
  have e : Int.tmod (wrap64 ((m : Int) + 1)) (wideL l : Int) = (((m + 1) % wideL l : Nat) : Int) := by
    rw [w64 (by omega) (by omega), tmod_nn (by omega), Int.natCast_emod, show ((m + 1 : Nat) : Int) = (m : Int) + 1 by omega]
  have e2 : (m + 1) % wideL l < wideL l := Nat.mod_lt _ (by omega)
  unfold spec_l12East.f
  rw [row_size h i hi, e, if_pos (by omega), if_pos (by omega), if_neg (by omega), if_pos (by omega), if_pos (by omega)]
theorem meet_ev {l : List ByteArray} (h : gridB l = true) (a b : Int) : Ev (fun k => spec_l12Meet.f k l a b) (meetB l a b) := by
  obtain ⟨g1, g2, g3⟩ := grid_facts h
  obtain ⟨w1, w2⟩ := wide_bd h
  have rows : ∀ (d i : Nat), i ≤ l.length → l.length - i = d → Ev (fun k => spec_l12Meet.l0 k l a b i) ((List.range' i d).any fun i => (List.range' 0 (wideL l)).any (meetC l a b i)) := by
    intro d
    induction d with
    | zero =>
      intro i hi hd
      apply ev_succ
      simp only [spec_l12Meet.l0, if_neg (show ¬ (i : Int) < (l.length : Int) by omega)]
      exact ev_const rfl
    | succ d ih =>
      intro i hi hd
      have hlt : i < l.length := by omega
      have row : ∀ (e m : Nat), m ≤ wideL l → wideL l - m = e → Ev (fun k => spec_l12Meet.l1 k l a b i m) ((List.range' m e).any (meetC l a b i) || (List.range' (i + 1) d).any fun i => (List.range' 0 (wideL l)).any (meetC l a b i)) := by
        intro e
        induction e with
        | zero =>
          intro m hm he
          apply ev_succ
          simp only [spec_l12Meet.l1, if_pos (show (0 : Int) ≤ (i : Int) by omega), if_pos (show (i : Int) < (l.length : Int) by omega), row_size h i hlt, if_neg (show ¬ (m : Int) < (wideL l : Int) by omega), w64 (x := (i : Int) + 1) (by omega) (by omega)]
          exact ih (i + 1) (by omega) (by omega)
        | succ e ih2 =>
          intro m hm he
          have hm2 : m < wideL l := by omega
          have h3 := ih2 (m + 1) (by omega) (by omega)
          rw [List.range'_succ, List.any_cons]
          apply ev_succ
          simp only [spec_l12Meet.l1, if_pos (show (0 : Int) ≤ (i : Int) by omega), if_pos (show (i : Int) < (l.length : Int) by omega), row_size h i hlt, if_pos (show (m : Int) < (wideL l : Int) by omega), if_pos (show (0 : Int) ≤ (m : Int) by omega), east_val h i m hlt hm2, Option.bind_some]
          have e1 : ∀ k, (if cv l i m = a then (if cv l i (((m + 1) % wideL l : Nat) : Int) = b then spec_l12Meet.j2 k l a b i m (cv l i m) true else (if cv l i m = b then spec_l12Meet.j2 k l a b i m (cv l i m) (cv l i (((m + 1) % wideL l : Nat) : Int) == a) else spec_l12Meet.j2 k l a b i m (cv l i m) false)) else (if cv l i m = b then spec_l12Meet.j2 k l a b i m (cv l i m) (cv l i (((m + 1) % wideL l : Nat) : Int) == a) else spec_l12Meet.j2 k l a b i m (cv l i m) false)) = spec_l12Meet.j2 k l a b i m (cv l i m) (hitB a b (cv l i m) (cv l i (((m + 1) % wideL l : Nat) : Int))) := fun k => hit_if (fun x => spec_l12Meet.j2 k l a b i m (cv l i m) x) a b (cv l i m) (cv l i (((m + 1) % wideL l : Nat) : Int))
          simp only [e1]
          apply ev_succ
          rw [meetC_eq l a b i m]
          cases hq : hitB a b (cv l i m) (cv l i (((m + 1) % wideL l : Nat) : Int)) with
          | true =>
            simp only [spec_l12Meet.j2, if_true, Bool.true_or]
            exact ev_const rfl
          | false =>
            simp only [spec_l12Meet.j2, Bool.false_eq_true, if_false, Bool.false_or, w64 (x := (i : Int) + 1) (by omega) (by omega), w64 (x := (m : Int) + 1) (by omega) (by omega)]
            by_cases hn : i + 1 < l.length
            · rw [decide_eq_true hn, Bool.true_and]
              have rs := row_size h (i + 1) hn
              rw [show ((i + 1 : Nat) : Int) = (i : Int) + 1 by omega] at rs ⊢
              simp only [if_pos (show (i : Int) + 1 < (l.length : Int) by omega), if_pos (show (0 : Int) ≤ (i : Int) + 1 by omega), if_pos (show (0 : Int) ≤ (m : Int) by omega), rs, if_pos (show (m : Int) < (wideL l : Int) by omega), hit_if2]
              cases hq2 : hitB a b (cv l i m) (cv l ((i : Int) + 1) m) with
              | true =>
                simp only [if_true, Bool.true_or]
                exact ev_const rfl
              | false =>
                simp only [Bool.false_eq_true, if_false, Bool.false_or]
                exact h3
            · rw [decide_eq_false hn, Bool.false_and, Bool.false_or]
              simp only [if_neg (show ¬ (i : Int) + 1 < (l.length : Int) by omega)]
              exact h3
      rw [List.range'_succ, List.any_cons]
      apply ev_succ
      simp only [spec_l12Meet.l0, if_pos (show (i : Int) < (l.length : Int) by omega)]
      exact row (wideL l) 0 (by omega) (by omega)
  exact rows l.length 0 (by omega) (by omega)
/-! The reference's list -/
def pairB (l : List ByteArray) (a : Int) (bs : List Int) : List ByteArray := (bs.filter (fun b => meetB l a b)).map (fun b => strOfNums [a, b])
def pairsB (l : List ByteArray) : List Int → List ByteArray
  | [] => []
  | a :: bs => pairB l a bs ++ pairsB l bs
theorem spairs {l : List ByteArray} (h : gridB l = true) (ls : List Int) (hb : ∀ x ∈ ls, 0 ≤ x ∧ x < 256) (hn : ls.length ≤ 26) (d : Nat) : ∀ (i : Nat) (o : List ByteArray), i ≤ ls.length → ls.length - i = d → o.length ≤ 100 * i → Ev (fun k => spec_GridBorders.l0 k l (strOfNums ls) o i) (o ++ pairsB l (ls.drop i), 0) := by
  induction d with
  | zero =>
    intro i o hi hd ho
    apply ev_succ
    simp only [spec_GridBorders.l0, strOfNums_size, if_neg (show ¬ (i : Int) < (ls.length : Int) by omega)]
    rw [List.drop_eq_nil_of_le (by omega)]
    exact ev_const (by simp [pairsB])
  | succ d ih =>
    intro i o hi hd ho
    have hlt : i < ls.length := by omega
    have inner : ∀ (e j : Nat) (o : List ByteArray), i < j → j ≤ ls.length → ls.length - j = e → o.length ≤ 100 * i + j → Ev (fun k => spec_GridBorders.l1 k l (strOfNums ls) o i j) (o ++ (pairB l ls[i] (ls.drop j) ++ pairsB l (ls.drop (i + 1))), 0) := by
      intro e
      induction e with
      | zero =>
        intro j o hij hj he ho
        apply ev_succ
        simp only [spec_GridBorders.l1, strOfNums_size, if_neg (show ¬ (j : Int) < (ls.length : Int) by omega), w64 (x := (i : Int) + 1) (by omega) (by omega)]
        rw [List.drop_eq_nil_of_le (show ls.length ≤ j by omega)]
        exact ih (i + 1) o (by omega) (by omega) (by omega)
      | succ e ih2 =>
        intro j o hij hj he ho
        have hj2 : j < ls.length := by omega
        have e1 : (strOfNums ls).extract ((i : Int)).toNat ((i : Int) + 1).toNat = strOfNums [ls[i]] := by
          rw [show ((i : Int) + 1).toNat = i + 1 by omega, Int.toNat_natCast]; exact extract_son ls i hlt
        have e2 : (strOfNums ls).extract ((j : Int)).toNat ((j : Int) + 1).toNat = strOfNums [ls[j]] := by
          rw [show ((j : Int) + 1).toNat = j + 1 by omega, Int.toNat_natCast]; exact extract_son ls j hj2
        apply ev_succ
        simp only [spec_GridBorders.l1, strOfNums_size, if_pos (show (j : Int) < (ls.length : Int) by omega), if_pos (show (0 : Int) ≤ (i : Int) by omega), if_pos (show (i : Int) < (ls.length : Int) by omega), if_pos (show (0 : Int) ≤ (j : Int) by omega), w64 (x := (i : Int) + 1) (by omega) (by omega), w64 (x := (j : Int) + 1) (by omega) (by omega), if_pos (show (i : Int) ≤ (i : Int) + 1 by omega), if_pos (show (j : Int) ≤ (j : Int) + 1 by omega), if_pos (show (i : Int) + 1 ≤ (ls.length : Int) by omega), if_pos (show (j : Int) + 1 ≤ (ls.length : Int) by omega), bt_son ls hb i hlt, bt_son ls hb j hj2, e1, e2, List.length_singleton, if_pos (show 1 + 1 ≤ 9223372036854775807 by omega), if_pos (show o.length < 8796093022208 by omega)]
        refine Ev.bind (meet_ev h ls[i] ls[j]) ?_
        rw [List.drop_eq_getElem_cons hj2]
        unfold pairB
        cases hq : meetB l ls[i] ls[j] with
        | true =>
          simp only [if_true]
          rw [List.filter_cons_of_pos (by simpa using hq), List.map_cons]
          have := ih2 (j + 1) (o ++ [strOfNums [ls[i]] ++ strOfNums [ls[j]]]) (by omega) (by omega) (by omega) (by rw [List.length_append, List.length_singleton]; omega)
          rw [← son_append, List.append_assoc] at this
          rw [← son_append]
          exact this
        | false =>
          simp only [Bool.false_eq_true, if_false]
          rw [List.filter_cons_of_neg (by simpa using hq)]
          exact ih2 (j + 1) o (by omega) (by omega) (by omega) (by omega)
    apply ev_succ
    simp only [spec_GridBorders.l0, strOfNums_size, if_pos (show (i : Int) < (ls.length : Int) by omega), w64 (x := (i : Int) + 1) (by omega) (by omega)]
    rw [List.drop_eq_getElem_cons hlt]
    exact inner _ (i + 1) o (by omega) (by omega) rfl (by omega)
def bordersV (l : List ByteArray) : List ByteArray × Int := if gridB l = true then (pairsB l (landsL l), 0) else ([], 1)
theorem spec_ev (l : List ByteArray) : Ev (fun k => spec_GridBorders.f k l) (bordersV l) := by
  unfold spec_GridBorders.f bordersV
  refine Ev.bind (ok_ev l) ?_
  by_cases h : gridB l = true
  · obtain ⟨g1, g2, g3⟩ := grid_facts h
    simp only [if_pos h]
    refine Ev.bind (slands_ev l (by omega) (fun y hy => by have := (g3 y hy).2.2.1; omega)) ?_
    have := spairs h (landsL l) (landsL_bytes l) (landsD_length l 26 97) (landsL l).length 0 [] (by omega) (by omega) (by simp)
    rw [List.drop_zero, List.nil_append] at this
    exact this
  · simp only [if_neg h]
    exact ev_const rfl
/-! The program's list -/
def nbrs (l : List ByteArray) (i m : Nat) : List S84 := [⟨i, (((m + 1) % wideL l : Nat) : Int)⟩, ⟨i, (((m + wideL l - 1) % wideL l : Nat) : Int)⟩] ++ ((if 0 < i then [⟨((i - 1 : Nat) : Int), m⟩] else []) ++ (if i + 1 < l.length then [⟨((i + 1 : Nat) : Int), m⟩] else []))
theorem nbrs_length (l : List ByteArray) (i m : Nat) : (nbrs l i m).length ≤ 4 := by
  unfold nbrs
  split <;> split <;> simp
theorem next_val {l : List ByteArray} (h : gridB l = true) (i m : Nat) (hi : i < l.length) (hm : m < wideL l) : impl_nextTo.f l i m = some (nbrs l i m) := by
  obtain ⟨w1, w2⟩ := wide_bd h
  obtain ⟨g1, g2, g3⟩ := grid_facts h
  have r0 := row_size h 0 (by omega)
  rw [show ((0 : Nat) : Int) = 0 from rfl] at r0
  have e1 : Int.tmod (wrap64 ((m : Int) + 1)) (wideL l : Int) = (((m + 1) % wideL l : Nat) : Int) := by
    rw [w64 (by omega) (by omega), tmod_nn (by omega), Int.natCast_emod, show ((m + 1 : Nat) : Int) = (m : Int) + 1 by omega]
  have e2 : Int.tmod (wrap64 ((wrap64 ((m : Int) + (wideL l : Int))) - 1)) (wideL l : Int) = (((m + wideL l - 1) % wideL l : Nat) : Int) := by
    rw [w64 (x := (m : Int) + (wideL l : Int)) (by omega) (by omega), w64 (by omega) (by omega), tmod_nn (by omega), Int.natCast_emod, show ((m + wideL l - 1 : Nat) : Int) = (m : Int) + (wideL l : Int) - 1 by omega]
  unfold impl_nextTo.f nbrs
  simp only [r0, e1, e2, if_pos (show (0 : Int) < (l.length : Int) by omega), if_neg (show ¬ (wideL l : Int) = 0 by omega), Option.bind_some, w64 (x := (l.length : Int) - 1) (by omega) (by omega), w64 (x := (i : Int) - 1) (by omega) (by omega), w64 (x := (i : Int) + 1) (by omega) (by omega), List.length_append, List.length_cons, List.length_nil]
  by_cases c1 : 0 < i
  · simp only [if_pos (show (i : Int) > 0 by omega), if_pos c1, if_pos (show 0 + 1 + 1 < 8796093022208 by omega), show ((i - 1 : Nat) : Int) = (i : Int) - 1 by omega]
    by_cases c2 : i + 1 < l.length
    · simp only [if_pos (show (i : Int) < (l.length : Int) - 1 by omega), if_pos c2, if_pos (show 0 + 1 + 1 + (0 + 1) < 8796093022208 by omega), show ((i + 1 : Nat) : Int) = (i : Int) + 1 by omega]
      rfl
    · simp only [if_neg (show ¬ (i : Int) < (l.length : Int) - 1 by omega), if_neg c2]
      rfl
  · simp only [if_neg (show ¬ (i : Int) > 0 by omega), if_neg c1, if_pos (show 0 + 1 + 1 < 8796093022208 by omega)]
    by_cases c2 : i + 1 < l.length
    · simp only [if_pos (show (i : Int) < (l.length : Int) - 1 by omega), if_pos c2, show ((i + 1 : Nat) : Int) = (i : Int) + 1 by omega]
      rfl
    · simp only [if_neg (show ¬ (i : Int) < (l.length : Int) - 1 by omega), if_neg c2]
      rfl
/-- A cell of the grid. -/
def InG (l : List ByteArray) (x : S84) : Prop := ∃ i m : Nat, i < l.length ∧ m < wideL l ∧ x = ⟨i, m⟩
theorem nbrs_in {l : List ByteArray} (h : gridB l = true) (i m : Nat) (hi : i < l.length) (hm : m < wideL l) : ∀ y ∈ nbrs l i m, InG l y := by
  obtain ⟨w1, w2⟩ := wide_bd h
  intro y hy
  unfold nbrs at hy
  rw [List.mem_append, List.mem_append] at hy
  rcases hy with hy | hy | hy
  · rw [List.mem_cons, List.mem_singleton] at hy
    rcases hy with rfl | rfl
    · exact ⟨i, (m + 1) % wideL l, hi, Nat.mod_lt _ (by omega), rfl⟩
    · exact ⟨i, (m + wideL l - 1) % wideL l, hi, Nat.mod_lt _ (by omega), rfl⟩
  · split at hy
    · rw [List.mem_singleton] at hy
      subst hy
      exact ⟨i - 1, m, by omega, hm, rfl⟩
    · cases hy
  · split at hy
    · rw [List.mem_singleton] at hy
      subst hy
      exact ⟨i + 1, m, by omega, hm, rfl⟩
    · cases hy
def outN (l : List ByteArray) (b : Int) (ns : List S84) : List ByteArray := (ns.filter (fun y => decide (cv l y.f0 y.f1 > b))).map (fun y => strOfNums [b, cv l y.f0 y.f1])
theorem outN_length (l : List ByteArray) (b : Int) (ns : List S84) : (outN l b ns).length ≤ ns.length := by
  unfold outN
  rw [List.length_map]
  exact List.length_filter_le _ _
theorem gbN_val {l : List ByteArray} (h : gridB l = true) (b : Int) : ∀ (ns : List S84) (o : List ByteArray), (∀ y ∈ ns, InG l y) → o.length + ns.length < 8796093022208 → gbN l b ns o = some (o ++ outN l b ns)
  | [], o, _, _ => by simp [gbN, outN]
  | y :: ns, o, hi, ho => by
    obtain ⟨i, m, h1, h2, h3⟩ := hi y (by simp)
    have rs := row_size h i h1
    rw [List.length_cons] at ho
    subst h3
    unfold gbN
    simp only [rs]
    rw [if_pos ⟨by omega, by omega, by omega, by omega⟩]
    unfold outN
    by_cases c : cv l i m > b
    · rw [if_pos c, if_pos (by omega), gbN_val h b ns _ (fun y hy => hi y (List.mem_cons_of_mem _ hy)) (by rw [List.length_append, List.length_singleton]; omega), List.filter_cons_of_pos (by simpa using c), List.map_cons, List.append_assoc]
      rfl
    · rw [if_neg c, gbN_val h b ns _ (fun y hy => hi y (List.mem_cons_of_mem _ hy)) (by omega), List.filter_cons_of_neg (by simpa using c)]
      rfl
def outC (l : List ByteArray) (b : Int) (c : S84) : List ByteArray := outN l b (nbrs l c.f0.toNat c.f1.toNat)
theorem outC_length (l : List ByteArray) (b : Int) (c : S84) : (outC l b c).length ≤ 4 := Nat.le_trans (outN_length _ _ _) (nbrs_length _ _ _)
theorem gbC_val {l : List ByteArray} (h : gridB l = true) (b : Int) : ∀ (cs : List S84) (o : List ByteArray), (∀ y ∈ cs, InG l y) → o.length + 4 * cs.length < 8796093022208 → gbC l b cs o = some (o ++ cs.flatMap (outC l b))
  | [], o, _, _ => by simp [gbC]
  | c :: cs, o, hi, ho => by
    obtain ⟨i, m, h1, h2, h3⟩ := hi c (by simp)
    rw [List.length_cons] at ho
    have hl := outC_length l b c
    have hn := nbrs_length l i m
    subst h3
    unfold gbC
    rw [next_val h i m h1 h2, Option.bind_some, gbN_val h b _ o (nbrs_in h i m h1 h2) (by omega), Option.bind_some]
    have e : outN l b (nbrs l i m) = outC l b ⟨i, m⟩ := rfl
    rw [e, gbC_val h b cs _ (fun y hy => hi y (List.mem_cons_of_mem _ hy)) (by rw [List.length_append]; omega), List.flatMap_cons, List.append_assoc]
theorem mem_cellsR (i c : Int) : ∀ (bs : List UInt8) (m0 : Int) (x : S84), x ∈ cellsR i c m0 bs ↔ ∃ j, ∃ hj : j < bs.length, ((bs[j]).toNat : Int) = c ∧ x = ⟨i, m0 + j⟩
  | [], m0, x => by simp [cellsR]
  | b :: bs, m0, x => by
    have ih := mem_cellsR i c bs (m0 + 1) x
    have step : (∃ j, ∃ hj : j < bs.length, ((bs[j]).toNat : Int) = c ∧ x = ⟨i, m0 + 1 + j⟩) ↔ ∃ j, ∃ hj : j < (b :: bs).length, 0 < j ∧ (((b :: bs)[j]).toNat : Int) = c ∧ x = ⟨i, m0 + j⟩ := by
      constructor
      · rintro ⟨j, hj, h1, h2⟩
        exact ⟨j + 1, by rw [List.length_cons]; omega, by omega, by simpa using h1, by rw [h2, show m0 + 1 + (j : Int) = m0 + ((j + 1 : Nat) : Int) by omega]⟩
      · rintro ⟨j, hj, h0, h1, h2⟩
        obtain ⟨j', rfl⟩ : ∃ j', j = j' + 1 := ⟨j - 1, by omega⟩
        rw [List.length_cons] at hj
        exact ⟨j', by omega, by simpa using h1, by rw [h2, show m0 + 1 + (j' : Int) = m0 + ((j' + 1 : Nat) : Int) by omega]⟩
    unfold cellsR
    by_cases h : (b.toNat : Int) = c
    · rw [if_pos h, List.mem_cons, ih, step]
      constructor
      · rintro (rfl | ⟨j, hj, h0, h1, h2⟩)
        · exact ⟨0, by simp, by simpa using h, by simp⟩
        · exact ⟨j, hj, h1, h2⟩
      · rintro ⟨j, hj, h1, h2⟩
        rcases Nat.eq_zero_or_pos j with rfl | h0
        · exact .inl (by rw [h2]; simp)
        · exact .inr ⟨j, hj, h0, h1, h2⟩
    · rw [if_neg h, ih, step]
      constructor
      · rintro ⟨j, hj, h0, h1, h2⟩
        exact ⟨j, hj, h1, h2⟩
      · rintro ⟨j, hj, h1, h2⟩
        rcases Nat.eq_zero_or_pos j with rfl | h0
        · exact absurd (by simpa using h1) h
        · exact ⟨j, hj, h0, h1, h2⟩
theorem mem_cellsG (c : Int) : ∀ (l : List ByteArray) (i0 : Int) (x : S84), x ∈ cellsG c i0 l ↔ ∃ r, ∃ hr : r < l.length, x ∈ cellsR (i0 + r) c 0 (l[r]).data.toList
  | [], i0, x => by simp [cellsG]
  | y :: l, i0, x => by
    unfold cellsG
    rw [List.mem_append, mem_cellsG c l (i0 + 1) x]
    constructor
    · rintro (h | ⟨r, hr, h⟩)
      · exact ⟨0, by simp, by simpa using h⟩
      · exact ⟨r + 1, by rw [List.length_cons]; omega, by rw [show i0 + ((r + 1 : Nat) : Int) = i0 + 1 + r by omega]; simpa using h⟩
    · rintro ⟨r, hr, h⟩
      rcases Nat.eq_zero_or_pos r with rfl | h0
      · exact .inl (by simpa using h)
      · obtain ⟨r', rfl⟩ : ∃ r', r = r' + 1 := ⟨r - 1, by omega⟩
        rw [List.length_cons] at hr
        exact .inr ⟨r', by omega, by rw [show i0 + ((r' + 1 : Nat) : Int) = i0 + 1 + r' by omega] at h; simpa using h⟩
theorem mem_cells {l : List ByteArray} (h : gridB l = true) (c : Int) (x : S84) : x ∈ cellsG c 0 l ↔ ∃ i m : Nat, i < l.length ∧ m < wideL l ∧ cv l i m = c ∧ x = ⟨i, m⟩ := by
  obtain ⟨g1, g2, g3⟩ := grid_facts h
  rw [mem_cellsG]
  constructor
  · rintro ⟨r, hr, hx⟩
    obtain ⟨j, hj, h1, h2⟩ := (mem_cellsR _ _ _ _ _).1 hx
    refine ⟨r, j, hr, ?_, ?_, ?_⟩
    · rw [dsize, (g3 _ (List.getElem_mem hr)).1] at hj; exact hj
    · rw [cv_at r j hr hj]; exact h1
    · rw [h2]; simp
  · rintro ⟨i, m, hi, hm, h1, h2⟩
    have hm2 : m < (l[i]).data.toList.length := by rw [dsize, (g3 _ (List.getElem_mem hi)).1]; exact hm
    refine ⟨i, hi, (mem_cellsR _ _ _ _ _).2 ⟨m, hm2, ?_, ?_⟩⟩
    · rw [cv_at i m hi hm2] at h1; exact h1
    · rw [h2]; simp
theorem cells_in {l : List ByteArray} (h : gridB l = true) (c : Int) : ∀ y ∈ cellsG c 0 l, InG l y := fun y hy => by
  obtain ⟨i, m, hi, hm, _, e⟩ := (mem_cells h c y).1 hy
  exact ⟨i, m, hi, hm, e⟩
theorem cntG_le (c : Int) : ∀ (l : List ByteArray), (∀ y ∈ l, y.size ≤ 32) → cntG c l ≤ 32 * l.length
  | [], _ => by simp [cntG]
  | y :: l, h => by
    have h1 := cntG_le c l (fun z hz => h z (List.mem_cons_of_mem _ hz))
    have h2 := cntR_le c y.data.toList
    have h3 := h y (by simp)
    rw [dsize] at h2
    show cntR c y.data.toList + cntG c l ≤ _
    rw [List.length_cons]
    omega
theorem flat_length {l : List ByteArray} (b : Int) : ∀ cs : List S84, (cs.flatMap (outC l b)).length ≤ 4 * cs.length
  | [] => by simp
  | c :: cs => by
    have h1 := outC_length l b c
    have h2 := flat_length (l := l) b cs
    rw [List.flatMap_cons, List.length_append, List.length_cons]
    omega
def outB (l : List ByteArray) (b : Int) : List ByteArray := (cellsG b 0 l).flatMap (outC l b)
theorem cells_many {l : List ByteArray} (h : gridB l = true) (b : Int) : (cellsG b 0 l).length ≤ 512 := by
  obtain ⟨g1, g2, g3⟩ := grid_facts h
  have := cntG_le b l (fun y hy => (g3 y hy).2.2.1)
  rw [cellsG_length]
  omega
theorem outB_length {l : List ByteArray} (h : gridB l = true) (b : Int) : (outB l b).length ≤ 2048 := by
  have h1 := flat_length (l := l) b (cellsG b 0 l)
  have h2 := cells_many h b
  unfold outB
  omega
theorem gbB_ev {l : List ByteArray} (h : gridB l = true) : ∀ (bs : List Int) (o : List ByteArray), o.length + 2048 * bs.length < 8796093022208 → Ev (fun k => gbB k l bs o) (o ++ bs.flatMap (outB l))
  | [], o, _ => by
    unfold gbB
    exact ev_const (by simp)
  | b :: bs, o, ho => by
    obtain ⟨g1, g2, g3⟩ := grid_facts h
    have h1 := cells_many h b
    have h2 := outB_length h b
    rw [List.length_cons] at ho
    unfold gbB
    refine Ev.bind (cells_ev l (by omega) (fun y hy => by have := (g3 y hy).2.2.1; omega) b) ?_
    simp only [gbC_val h b _ o (cells_in h b) (show o.length + 4 * (cellsG b 0 l).length < 8796093022208 by omega), Option.bind_some]
    have := gbB_ev h bs (o ++ outB l b) (by rw [List.length_append]; omega)
    rw [List.append_assoc] at this
    rw [List.flatMap_cons]
    exact this
def borders2 (l : List ByteArray) : List ByteArray := sortL ((landsL l).flatMap (outB l))
theorem allB_length {l : List ByteArray} (h : gridB l = true) : ∀ bs : List Int, (bs.flatMap (outB l)).length ≤ 2048 * bs.length
  | [] => by simp
  | b :: bs => by
    have h1 := outB_length h b
    have h2 := allB_length h bs
    rw [List.flatMap_cons, List.length_append, List.length_cons]
    omega
theorem impl_ev (l : List ByteArray) (hl : l.length ≤ 1048576) (hs : ∀ y ∈ l, y.size ≤ 1048576) : Ev (fun k => impl_GridBorders.f k l) (if gridB l = true then (borders2 l, 0) else ([], 1)) := by
  unfold impl_GridBorders.f
  refine Ev.bind (vg_ev l hl hs) ?_
  by_cases h : gridB l = true
  · obtain ⟨g1, g2, g3⟩ := grid_facts h
    have n1 := landsD_length l 26 97
    have n2 := allB_length h (landsL l)
    have n3 : (landsL l).length ≤ 26 := n1
    simp only [if_pos h]
    refine Ev.bind (ilands_ev l (by omega) (fun y hy => by have := (g3 y hy).2.2.1; omega)) ?_
    rw [numsB_son _ (landsL_bytes l)]
    refine Ev.bind (gbB_ev h (landsL l) [] (by rw [List.length_nil]; omega)) ?_
    rw [List.nil_append, if_pos ⟨by rw [strOfNums_size]; omega, by omega⟩]
    exact ev_const rfl
  · simp only [if_neg h]
    exact ev_const rfl
/-! Both lists are one -/
theorem son_two (a b : Int) : (strOfNums [a, b]).data.toList = [UInt8.ofNat a.toNat, UInt8.ofNat b.toNat] := rfl
theorem u8_lt {a b : Int} (h0 : 0 ≤ a) (h : a < b) (h2 : b < 256) : UInt8.ofNat a.toNat < UInt8.ofNat b.toNat := by
  rw [UInt8.lt_iff_toNat_lt, UInt8.toNat_ofNat', UInt8.toNat_ofNat']
  omega
theorem bl_two {a b c d : Int} (ha : 0 ≤ a ∧ a < 256) (hb : 0 ≤ b ∧ b < 256) (hc : 0 ≤ c ∧ c < 256) (hd : 0 ≤ d ∧ d < 256) (h : a < c ∨ (a = c ∧ b < d)) : BL (strOfNums [a, b]) (strOfNums [c, d]) := by
  unfold BL
  rw [son_two, son_two]
  rcases h with h | ⟨rfl, h⟩
  · exact List.Lex.rel (u8_lt ha.1 h hc.2)
  · exact List.Lex.cons (List.Lex.rel (u8_lt hb.1 h hd.2))
theorem pairB_mem (l : List ByteArray) (a : Int) (bs : List Int) (x : ByteArray) : x ∈ pairB l a bs ↔ ∃ b, b ∈ bs ∧ meetB l a b = true ∧ x = strOfNums [a, b] := by
  unfold pairB
  rw [List.mem_map]
  constructor
  · rintro ⟨b, hb, rfl⟩
    obtain ⟨h1, h2⟩ := List.mem_filter.1 hb
    exact ⟨b, h1, h2, rfl⟩
  · rintro ⟨b, h1, h2, rfl⟩
    exact ⟨b, List.mem_filter.2 ⟨h1, h2⟩, rfl⟩
theorem pairsB_mem (l : List ByteArray) : ∀ (ls : List Int), ls.Pairwise (· < ·) → ∀ x, x ∈ pairsB l ls ↔ ∃ a b, a ∈ ls ∧ b ∈ ls ∧ a < b ∧ meetB l a b = true ∧ x = strOfNums [a, b]
  | [], _, x => by simp [pairsB]
  | a :: ls, h, x => by
    obtain ⟨h1, h2⟩ := List.pairwise_cons.1 h
    unfold pairsB
    rw [List.mem_append, pairB_mem, pairsB_mem l ls h2 x]
    constructor
    · rintro (⟨b, hb, hm, rfl⟩ | ⟨c, b, hc, hb, hlt, hm, rfl⟩)
      · exact ⟨a, b, by simp, List.mem_cons_of_mem _ hb, h1 b hb, hm, rfl⟩
      · exact ⟨c, b, List.mem_cons_of_mem _ hc, List.mem_cons_of_mem _ hb, hlt, hm, rfl⟩
    · rintro ⟨c, b, hc, hb, hlt, hm, rfl⟩
      rcases List.mem_cons.1 hc with e | hc2
      · subst e
        rcases List.mem_cons.1 hb with e | hb2
        · omega
        · exact .inl ⟨b, hb2, hm, rfl⟩
      · rcases List.mem_cons.1 hb with e | hb2
        · have := h1 c hc2; omega
        · exact .inr ⟨c, b, hc2, hb2, hlt, hm, rfl⟩
theorem pairsB_asc (l : List ByteArray) : ∀ (ls : List Int), ls.Pairwise (· < ·) → (∀ x ∈ ls, 0 ≤ x ∧ x < 256) → (pairsB l ls).Pairwise BL
  | [], _, _ => List.Pairwise.nil
  | a :: ls, h, hb => by
    obtain ⟨h1, h2⟩ := List.pairwise_cons.1 h
    have ha := hb a (by simp)
    have hb2 : ∀ x ∈ ls, 0 ≤ x ∧ x < 256 := fun x hx => hb x (List.mem_cons_of_mem _ hx)
    unfold pairsB
    rw [List.pairwise_append]
    refine ⟨?_, pairsB_asc l ls h2 hb2, fun x hx y hy => ?_⟩
    · unfold pairB
      rw [List.pairwise_map]
      exact List.Pairwise.imp_of_mem (fun {x y} hx hy hxy => bl_two ha (hb2 x (List.mem_filter.1 hx).1) ha (hb2 y (List.mem_filter.1 hy).1) (.inr ⟨rfl, hxy⟩)) (h2.filter _)
    · obtain ⟨b, hb3, _, rfl⟩ := (pairB_mem l a ls x).1 hx
      obtain ⟨c, d, hc, hd, _, _, rfl⟩ := (pairsB_mem l ls h2 y).1 hy
      exact bl_two ha (hb2 b hb3) (hb2 c hc) (hb2 d hd) (.inl (h1 c hc))
theorem meet_iff (l : List ByteArray) (a b : Int) : meetB l a b = true ↔ ∃ i m : Nat, i < l.length ∧ m < wideL l ∧ meetC l a b i m = true := by
  unfold meetB
  rw [List.any_eq_true]
  constructor
  · rintro ⟨i, hi, h⟩
    obtain ⟨m, hm, h⟩ := List.any_eq_true.1 h
    rw [List.mem_range'_1] at hi hm
    exact ⟨i, m, by omega, by omega, h⟩
  · rintro ⟨i, m, hi, hm, h⟩
    refine ⟨i, List.mem_range'_1.2 (by omega), List.any_eq_true.2 ⟨m, List.mem_range'_1.2 (by omega), h⟩⟩
theorem west_east {w m : Nat} (h : m < w) : ((m + 1) % w + w - 1) % w = m := by
  by_cases c : m + 1 = w
  · rw [c, Nat.mod_self, Nat.mod_eq_of_lt (by omega)]
    omega
  · rw [Nat.mod_eq_of_lt (show m + 1 < w by omega), show m + 1 + w - 1 = m + w by omega, Nat.add_mod_right, Nat.mod_eq_of_lt h]
theorem east_west {w m : Nat} (h : m < w) : ((m + w - 1) % w + 1) % w = m := by
  by_cases c : m = 0
  · subst c
    rw [Nat.mod_eq_of_lt (show 0 + w - 1 < w by omega), show 0 + w - 1 + 1 = w by omega, Nat.mod_self]
  · rw [show m + w - 1 = (m - 1) + w by omega, Nat.add_mod_right, Nat.mod_eq_of_lt (show m - 1 < w by omega), show m - 1 + 1 = m by omega, Nat.mod_eq_of_lt h]
theorem meet_nbrs {l : List ByteArray} (h : gridB l = true) (a b : Int) : meetB l a b = true ↔ ∃ i m : Nat, i < l.length ∧ m < wideL l ∧ cv l i m = a ∧ ∃ y, y ∈ nbrs l i m ∧ cv l y.f0 y.f1 = b := by
  obtain ⟨w1, w2⟩ := wide_bd h
  rw [meet_iff]
  constructor
  · rintro ⟨i, m, hi, hm, hc⟩
    rw [meetC_eq, Bool.or_eq_true, Bool.and_eq_true, decide_eq_true_iff, hit_iff, hit_iff] at hc
    rcases hc with (⟨e1, e2⟩ | ⟨e1, e2⟩) | ⟨hd, (⟨e1, e2⟩ | ⟨e1, e2⟩)⟩
    · exact ⟨i, m, hi, hm, e1, ⟨(i : Int), (((m + 1) % wideL l : Nat) : Int)⟩, by unfold nbrs; simp, e2⟩
    · refine ⟨i, (m + 1) % wideL l, hi, Nat.mod_lt _ (by omega), e2, ⟨(i : Int), (m : Int)⟩, ?_, e1⟩
      unfold nbrs
      rw [west_east hm]
      simp
    · refine ⟨i, m, hi, hm, e1, ⟨((i + 1 : Nat) : Int), (m : Int)⟩, ?_, e2⟩
      unfold nbrs
      rw [if_pos hd]
      simp
    · refine ⟨i + 1, m, hd, hm, e2, ⟨(i : Int), (m : Int)⟩, ?_, e1⟩
      unfold nbrs
      rw [if_pos (show 0 < i + 1 by omega), show i + 1 - 1 = i by omega]
      simp
  · rintro ⟨i, m, hi, hm, e1, y, hy, e2⟩
    unfold nbrs at hy
    rw [List.mem_append, List.mem_append] at hy
    rcases hy with hy | hy | hy
    · rw [List.mem_cons, List.mem_singleton] at hy
      rcases hy with rfl | rfl
      · refine ⟨i, m, hi, hm, ?_⟩
        rw [meetC_eq, Bool.or_eq_true, hit_iff]
        exact .inl (.inl ⟨e1, e2⟩)
      · refine ⟨i, (m + wideL l - 1) % wideL l, hi, Nat.mod_lt _ (by omega), ?_⟩
        rw [meetC_eq, Bool.or_eq_true, hit_iff, east_west hm]
        exact .inl (.inr ⟨e2, e1⟩)
    · split at hy
      · rename_i h0
        rw [List.mem_singleton] at hy
        subst hy
        refine ⟨i - 1, m, by omega, hm, ?_⟩
        rw [meetC_eq, Bool.or_eq_true, Bool.and_eq_true, decide_eq_true_iff, hit_iff (d := cv l ((i - 1 + 1 : Nat) : Int) m), show i - 1 + 1 = i by omega]
        exact .inr ⟨hi, .inr ⟨e2, e1⟩⟩
      · cases hy
    · split at hy
      · rename_i h0
        rw [List.mem_singleton] at hy
        subst hy
        refine ⟨i, m, hi, hm, ?_⟩
        rw [meetC_eq, Bool.or_eq_true, Bool.and_eq_true, decide_eq_true_iff, hit_iff (d := cv l ((i + 1 : Nat) : Int) m)]
        exact .inr ⟨h0, .inl ⟨e1, e2⟩⟩
      · cases hy
theorem land_in {l : List ByteArray} (h : gridB l = true) (i m : Nat) (hi : i < l.length) (hm : m < wideL l) (h97 : 97 ≤ cv l i m) : cv l i m ∈ landsL l := by
  have hk := cv_kind h i m hi hm
  refine (landsD_mem l 26 97 _).2 ⟨h97, by omega, ?_⟩
  have hc : (⟨(i : Int), (m : Int)⟩ : S84) ∈ cellsG (cv l i m) 0 l := (mem_cells h _ _).2 ⟨i, m, hi, hm, rfl, rfl⟩
  have := List.length_pos_of_mem hc
  rw [cellsG_length] at this
  exact this
theorem outB_mem {l : List ByteArray} (h : gridB l = true) (a : Int) (x : ByteArray) : x ∈ outB l a ↔ ∃ i m : Nat, i < l.length ∧ m < wideL l ∧ cv l i m = a ∧ ∃ y, y ∈ nbrs l i m ∧ cv l y.f0 y.f1 > a ∧ x = strOfNums [a, cv l y.f0 y.f1] := by
  unfold outB
  rw [List.mem_flatMap]
  constructor
  · rintro ⟨c, hc, hx⟩
    obtain ⟨i, m, hi, hm, hv, rfl⟩ := (mem_cells h a c).1 hc
    unfold outC outN at hx
    rw [List.mem_map] at hx
    obtain ⟨y, hy, rfl⟩ := hx
    obtain ⟨h1, h2⟩ := List.mem_filter.1 hy
    exact ⟨i, m, hi, hm, hv, y, h1, of_decide_eq_true h2, rfl⟩
  · rintro ⟨i, m, hi, hm, hv, y, hy, hgt, rfl⟩
    refine ⟨⟨i, m⟩, (mem_cells h a _).2 ⟨i, m, hi, hm, hv, rfl⟩, ?_⟩
    unfold outC outN
    exact List.mem_map.2 ⟨y, List.mem_filter.2 ⟨hy, decide_eq_true hgt⟩, rfl⟩
theorem borders_one {l : List ByteArray} (h : gridB l = true) : borders2 l = pairsB l (landsL l) := by
  have ha : (landsL l).Pairwise (· < ·) := landsD_asc l 26 97
  refine asc_ext _ _ (sortL_asc _) (pairsB_asc l _ ha (landsL_bytes l)) (fun x => ?_)
  unfold borders2
  rw [sortL_mem, List.mem_flatMap, pairsB_mem l _ ha]
  constructor
  · rintro ⟨a, hal, hx⟩
    obtain ⟨i, m, hi, hm, hv, y, hy, hgt, rfl⟩ := (outB_mem h a x).1 hx
    have h97 := (landsD_mem l 26 97 a).1 hal
    obtain ⟨i2, m2, hi2, hm2, e⟩ := nbrs_in h i m hi hm y hy
    have hb : cv l y.f0 y.f1 ∈ landsL l := by
      subst e
      have hgt2 : cv l i2 m2 > a := hgt
      exact land_in h i2 m2 hi2 hm2 (by omega)
    exact ⟨a, _, hal, hb, hgt, (meet_nbrs h a _).2 ⟨i, m, hi, hm, hv, y, hy, rfl⟩, rfl⟩
  · rintro ⟨a, b, hal, hbl, hlt, hmt, rfl⟩
    obtain ⟨i, m, hi, hm, hv, y, hy, hyb⟩ := (meet_nbrs h a b).1 hmt
    exact ⟨a, hal, (outB_mem h a _).2 ⟨i, m, hi, hm, hv, y, hy, by omega, by rw [hyb]⟩⟩
theorem impl_ev2 (l : List ByteArray) (hl : l.length ≤ 1048576) (hs : ∀ y ∈ l, y.size ≤ 1048576) : Ev (fun k => impl_GridBorders.f k l) (bordersV l) := by
  have := impl_ev l hl hs
  unfold bordersV
  by_cases h : gridB l = true
  · rw [if_pos h, borders_one h] at this
    rw [if_pos h]
    exact this
  · rw [if_neg h] at this
    rw [if_neg h]
    exact this
theorem pairB_length (l : List ByteArray) (a : Int) (bs : List Int) : (pairB l a bs).length ≤ bs.length := by
  unfold pairB
  rw [List.length_map]
  exact List.length_filter_le _ _
theorem pairsB_length (l : List ByteArray) : ∀ ls : List Int, ls.length ≤ 26 → (pairsB l ls).length ≤ 26 * ls.length
  | [], _ => by simp [pairsB]
  | a :: ls, h => by
    rw [List.length_cons] at h
    have h1 := pairB_length l a ls
    have h2 := pairsB_length l ls (by omega)
    unfold pairsB
    rw [List.length_append, List.length_cons]
    omega
theorem bordersV_length (l : List ByteArray) : (bordersV l).1.length ≤ 1048576 := by
  have h1 : (landsL l).length ≤ 26 := landsD_length l 26 97
  have h2 := pairsB_length l (landsL l) h1
  unfold bordersV
  split
  · show (pairsB l (landsL l)).length ≤ _
    omega
  · simp
theorem sizes_mem (l : List ByteArray) : ∀ y ∈ l, (y.size : Int) ≤ sizes l := by
  induction l with
  | nil => intro y hy; cases hy
  | cons s l ih =>
    intro y hy
    rw [sizes_cons]
    have h0 := sizes_nn l
    rcases List.mem_cons.1 hy with rfl | hy
    · omega
    · have := ih y hy
      omega
theorem FnExactGridBorders : laws_FnExactGridBorders.Pure := by
  intro n hn hwn
  apply Ev.rounds
  unfold laws_FnExactGridBorders.f
  rcases sz_val n hn hwn (a := 1048576) (by omega) (by omega) (k := n.length + 1) (by omega) with e | ⟨e, e1⟩
  · refine Ev.bind (Ev.of (fun k => laws_szStringS.mono n 1048576 k) e) ?_
    simp only [if_pos (show (-1 : Int) < 0 by omega)]
    exact ev_const rfl
  · refine Ev.bind (Ev.of (fun k => laws_szStringS.mono n 1048576 k) e) ?_
    have e2 := sizes_nn n
    simp only [if_neg (show ¬ (1048576 - (n.length : Int) - sizes n) < 0 by omega)]
    have hs : ∀ y ∈ n, y.size ≤ 1048576 := by have := sizes_mem n; intro y hy; have := this y hy; omega
    have t0 := tos_ev n (by omega)
    have s1 := spec_ev n
    have s2 := impl_ev2 n (by omega) hs
    have s3 := bordersV_length n
    generalize bordersV n = res at s1 s2 s3
    obtain ⟨res, cd⟩ := res
    have q := eqs_ev res s3
    obtain ⟨p0, y0, m0, n0, n00⟩ := markS_ev n (by omega) (a := 1) (by omega) (by omega)
    obtain ⟨p2, y2, m2, m3, n2, n3⟩ := markH_ev res s3 (a := 1) (by omega) (by omega)
    refine Ev.bind t0 (Ev.bind s1 (Ev.bind t0 (Ev.bind s2 (Ev.bind q ?_))))
    simp only [if_true, bne_self_eq_false]
    refine ev_succ ?_
    simp only [laws_FnExactGridBorders.j0, Bool.false_eq_true, if_false]
    refine Ev.bind t0 (Ev.bind (eqs_ev n (by omega)) ?_)
    simp only [if_true]
    refine Ev.bind m0 ?_
    simp only [if_neg (show ¬ p0 < 0 by omega)]
    refine Ev.bind q ?_
    simp only [if_true, bne_self_eq_false]
    refine ev_succ ?_
    simp only [laws_FnExactGridBorders.j1, Bool.false_eq_true, if_false]
    refine Ev.bind m2 (Ev.bind m3 ?_)
    simp only [if_neg (show ¬ p2 < 0 by omega), if_true]
    refine Ev.bind t0 (Ev.bind s2 (Ev.bind q ?_))
    simp only [if_true, bne_self_eq_false]
    refine ev_succ ?_
    simp only [laws_FnExactGridBorders.j2, Bool.false_eq_true, if_false]
    refine Ev.bind m3 ?_
    simp only [if_neg (show ¬ p2 < 0 by omega), if_true]
    exact ev_const rfl

end Go.Proofs.YtdodbfialiggjaaDoor.Pure
