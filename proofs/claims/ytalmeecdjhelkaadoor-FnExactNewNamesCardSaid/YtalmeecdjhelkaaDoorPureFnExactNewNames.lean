/- FnExactNewNames: the program's NewNames and the reference's come to the same, for all lists of editions and all numbers: the same code, and the same names. -/
import Derived.Test.YtalmeecdjhelkaaDoorStatFnExactNewNames
namespace Go.Proofs.YtalmeecdjhelkaaDoor.Pure
open Go.RowKit Go.Proofs.YtalmeecdjhelkaaDoor.PFnExactNewNames Go.Proofs.YtalmeecdjhelkaaDoorW.PrintWords Go.Proofs.YtalmeecdjhelkaaDoorW.PrintLast Go.Proofs.YtalmeecdjhelkaaDoorW.PrintMore
set_option linter.unusedVariables false
set_option linter.unusedSimpArgs false
theorem wfb {a : Int} (h : (Lit.int .i64 a).wf = true) : -9223372036854775808 ≤ a ∧ a ≤ 9223372036854775807 := by
  simpa [Lit.wf, IntKind.min, IntKind.max, IntKind.signed, IntKind.bits] using h
theorem w64 {x : Int} (h : -9223372036854775808 ≤ x) (h2 : x ≤ 9223372036854775807) : wrap64 x = x := by unfold wrap64; omega
theorem tdiv_nn {a b : Int} (h : 0 ≤ a) : Int.tdiv a b = a / b := Int.tdiv_eq_ediv_of_nonneg h
theorem tmod_nn {a b : Int} (h : 0 ≤ a) : Int.tmod a b = a % b := Int.tmod_eq_emod_of_nonneg h
theorem floor_val (a b : Int) (hb : 0 < b) : (if Int.tmod a b < 0 then Int.tdiv a b - 1 else Int.tdiv a b) = a / b := by
  have h1 := Int.mul_tdiv_add_tmod a b
  have hlt : Int.tmod a b < b := Int.tmod_lt_of_pos a hb
  have hgt : -b < Int.tmod a b := by
    have h2 := Int.tmod_lt_of_pos (-a) hb
    rw [Int.neg_tmod] at h2
    omega
  symm
  split
  · rename_i hneg
    refine ((Int.ediv_emod_unique hb (r := Int.tmod a b + b)).2 ⟨?_, by omega, by omega⟩).1
    rw [Int.mul_sub, Int.mul_one]
    omega
  · rename_i hneg
    exact ((Int.ediv_emod_unique hb (r := Int.tmod a b)).2 ⟨by omega, by omega, by omega⟩).1
theorem ediv_bd {a b : Int} (hb : 0 < b) (B : Int) (h0 : -B ≤ a) (h1 : a ≤ B) (hB : 0 ≤ B) : -B ≤ a / b ∧ a / b ≤ B := by
  constructor
  · rw [Int.le_ediv_iff_mul_le hb]
    have : B * 1 ≤ B * b := Int.mul_le_mul_of_nonneg_left (by omega) hB
    rw [Int.neg_mul]; omega
  · have h2 : a / b ≤ B / b := Int.ediv_le_ediv hb h1
    have h3 : B / b ≤ B := Int.ediv_le_self b hB
    omega
theorem ceil_alt (a b : Int) (hb : 0 < b) : (a + b - 1) / b = -((-a) / b) := by
  have h1 := Int.mul_ediv_add_emod (-a) b
  have h2 := Int.emod_nonneg (-a) (b := b) (by omega)
  have h3 := Int.emod_lt_of_pos (-a) hb
  refine ((Int.ediv_emod_unique hb (r := b - 1 - (-a) % b)).2 ⟨?_, by omega, by omega⟩).1
  rw [Int.mul_neg]
  omega

theorem ev_succ {α : Type} {g : Nat → Option α} {r : α} (h : Ev (fun k => g (k + 1)) r) : Ev g r := Ev.step (fun _ => rfl) h
theorem ev_const {α : Type} {g : Option α} {r : α} (h : g = some r) : Ev (fun _ => g) r := ⟨0, fun _ _ => h⟩
theorem ev_uniq {α : Type} {g : Nat → Option α} {a b : α} (h : Ev g a) (h' : Ev g b) : a = b := by
  obtain ⟨K, h⟩ := h
  obtain ⟨K', h'⟩ := h'
  have h1 := h (K + K') (by omega)
  rw [h' (K + K') (by omega)] at h1
  exact (Option.some.inj h1).symm

theorem toList_inj {a b : ByteArray} : a.toList = b.toList ↔ a = b := by
  constructor
  · intro h
    rw [ByteArray.toList_eq, ByteArray.toList_eq] at h
    obtain ⟨⟨x⟩⟩ := a
    obtain ⟨⟨y⟩⟩ := b
    simp at h
    rw [h]
  · intro h; rw [h]
def sizes (l : List ByteArray) : Int := (l.map (fun s => (s.size : Int))).sum
theorem sizes_cons (s : ByteArray) (l : List ByteArray) : sizes (s :: l) = s.size + sizes l := by simp [sizes]
theorem sizes_nn (l : List ByteArray) : 0 ≤ sizes l := by
  induction l with
  | nil => simp [sizes]
  | cons s l ih => rw [sizes_cons]; omega
theorem sizes_drop (l : List ByteArray) (i : Nat) (h : i < l.length) : sizes (l.drop i) = (l[i]).size + sizes (l.drop (i + 1)) := by
  rw [List.drop_eq_getElem_cons h, sizes_cons]
theorem rdOf_at (d : ByteArray) (l : List ByteArray) (i : Nat) (h : i < l.length) : rdOf d l (i : Int) = l[i] := by
  unfold rdOf
  rw [Int.toNat_natCast, List.getD_eq_getElem?_getD, List.getElem?_eq_getElem h]
  rfl

theorem sz_l (l : List ByteArray) (hl : l.length ≤ maxLen) (hs : ∀ y ∈ l, y.size ≤ maxLen) (d : Nat) : ∀ (k : Nat) (a : Int) (i : Nat), i ≤ l.length → l.length - i = d → d < k → 0 ≤ a → a ≤ 1048576 →
    (a - sizes (l.drop i) < 0 ∧ laws_szStringS.l0 k l a i = some (-1)) ∨ (0 ≤ a - sizes (l.drop i) ∧ laws_szStringS.l0 k l a i = some (a - sizes (l.drop i))) := by
  unfold maxLen at hl hs
  induction d with
  | zero =>
    intro k a i hi hd hk h0 h1
    obtain ⟨k, rfl⟩ : ∃ m, k = m + 1 := ⟨k - 1, by omega⟩
    obtain rfl : i = l.length := by omega
    rw [List.drop_length]
    right
    simp only [laws_szStringS.l0, sizes, List.map_nil, List.sum_nil]
    rw [if_neg (by omega)]
    exact ⟨by omega, by congr 1; omega⟩
  | succ d ih =>
    intro k a i hi hd hk h0 h1
    obtain ⟨k, rfl⟩ : ∃ m, k = m + 1 := ⟨k - 1, by omega⟩
    have hlt : i < l.length := by omega
    have hsz := hs l[i] (List.getElem_mem hlt)
    have hnn := sizes_nn (l.drop (i + 1))
    rw [sizes_drop l i hlt]
    simp only [laws_szStringS.l0]
    rw [if_pos (by omega), if_pos (by omega), rdOf_at _ _ _ hlt, w64 (x := a - (l[i].size : Int)) (by omega) (by omega)]
    by_cases hn : a - (l[i].size : Int) < 0
    · left
      rw [if_pos hn]
      exact ⟨by omega, rfl⟩
    · rw [if_neg hn, w64 (x := (i : Int) + 1) (by omega) (by omega)]
      have := ih k (a - l[i].size) (i + 1) (by omega) (by omega) (by omega) (by omega) (by omega)
      rw [show ((i : Int) + 1) = ((i + 1 : Nat) : Int) from by omega]
      rw [show a - ((l[i].size : Int) + sizes (l.drop (i + 1))) = a - (l[i].size : Int) - sizes (l.drop (i + 1)) from by omega]
      exact this
/-- The count of a list of strings: none is left (the law then says nothing), or the list is short. -/
theorem sz_val (l : List ByteArray) (hl : l.length ≤ maxLen) (hs : ∀ y ∈ l, y.size ≤ maxLen) {a : Int} (h0 : 0 ≤ a) (h1 : a ≤ 1048576) {k : Nat} (hk : l.length < k) :
    laws_szStringS.f k l a = some (-1) ∨ (laws_szStringS.f k l a = some (a - l.length - sizes l) ∧ 0 ≤ a - l.length - sizes l) := by
  have h2 := hl
  unfold maxLen at h2
  unfold laws_szStringS.f
  rw [w64 (x := a - (l.length : Int)) (by omega) (by omega)]
  by_cases h : a - (l.length : Int) < 0
  · left; rw [if_pos h]
  · rw [if_neg h]
    rcases sz_l l hl hs l.length k (a - l.length) 0 (by omega) (by omega) hk (by omega) (by omega) with ⟨_, e⟩ | ⟨e1, e⟩
    · left; exact e
    · right
      rw [List.drop_zero] at e1 e
      exact ⟨e, e1⟩

theorem take_set_succ {α : Type} (x : List α) (i : Nat) (v : α) (h : i < x.length) : (x.set i v).take (i + 1) = x.take i ++ [v] := by
  rw [List.take_succ_eq_append_getElem (by simpa using h), List.getElem_set_self, List.take_set_of_le (Nat.le_refl _)]
theorem take_succ_get {α : Type} (x : List α) (i : Nat) (h : i < x.length) : x.take (i + 1) = x.take i ++ [x[i]] := List.take_succ_eq_append_getElem h
theorem tos_l (l : List ByteArray) (hl : l.length ≤ 17592186044416) (d : Nat) : ∀ (k : Nat) (x : List ByteArray) (i : Nat), i ≤ l.length → l.length - i = d → d < k → x.length = l.length → x.take i = l.take i → laws_toStringS.l0 k l x i = some l := by
  induction d with
  | zero =>
    intro k x i hi hd hk hx ht
    obtain ⟨k, rfl⟩ : ∃ m, k = m + 1 := ⟨k - 1, by omega⟩
    simp only [laws_toStringS.l0]
    rw [if_neg (by omega)]
    rw [List.take_of_length_le (by omega), List.take_of_length_le (by omega)] at ht
    rw [ht]
  | succ d ih =>
    intro k x i hi hd hk hx ht
    obtain ⟨k, rfl⟩ : ∃ m, k = m + 1 := ⟨k - 1, by omega⟩
    have hlt : i < l.length := by omega
    simp only [laws_toStringS.l0]
    rw [if_pos (by omega), if_pos (by omega), if_pos (by omega), rdOf_at _ _ _ hlt, w64 (x := (i : Int) + 1) (by omega) (by omega), Int.toNat_natCast]
    have := ih k (x.set i l[i]) (i + 1) (by omega) (by omega) (by omega) (by simpa using hx) (by rw [take_set_succ _ _ _ (by omega), take_succ_get l i hlt, ht])
    exact this
theorem tos_val (l : List ByteArray) (hl : l.length ≤ 17592186044416) {k : Nat} (hk : l.length < k) : laws_toStringS.f k l = some l := by
  unfold laws_toStringS.f
  rw [if_pos (by omega), if_pos (by simpa using hl)]
  exact tos_l l hl l.length k _ 0 (by omega) (by omega) hk (by simp) (by simp)

theorem getElem_ext {α : Type} {x y : List α} (h : x.length = y.length) (d : Nat) (i : Nat) (hi : i < x.length) : (x.drop i = y.drop i) ↔ (x[i] = y[i] ∧ x.drop (i + 1) = y.drop (i + 1)) := by
  rw [List.drop_eq_getElem_cons hi, List.drop_eq_getElem_cons (show i < y.length by omega), List.cons.injEq]
theorem eqs_l (x y : List ByteArray) (h : x.length = y.length) (hl : x.length ≤ maxLen) (d : Nat) : ∀ (k : Nat) (i : Nat), i ≤ x.length → x.length - i = d → d < k → laws_eqStringS.l0 k x y i = some (decide (x.drop i = y.drop i)) := by
  unfold maxLen at hl
  induction d with
  | zero =>
    intro k i hi hd hk
    obtain ⟨k, rfl⟩ : ∃ m, k = m + 1 := ⟨k - 1, by omega⟩
    simp only [laws_eqStringS.l0]
    rw [if_neg (by omega), List.drop_eq_nil_of_le (by omega), List.drop_eq_nil_of_le (by omega)]
    simp
  | succ d ih =>
    intro k i hi hd hk
    obtain ⟨k, rfl⟩ : ∃ m, k = m + 1 := ⟨k - 1, by omega⟩
    have hlt : i < x.length := by omega
    simp only [laws_eqStringS.l0]
    rw [if_pos (by omega), if_pos (by omega), if_pos (by omega), rdOf_at _ _ _ hlt, rdOf_at _ _ _ (by omega), w64 (x := (i : Int) + 1) (by omega) (by omega)]
    simp only [toList_inj]
    have e := getElem_ext h d i hlt
    by_cases hq : x[i] = y[i]
    · rw [if_pos hq]
      have := ih k (i + 1) (by omega) (by omega) (by omega)
      rw [show ((i : Int) + 1) = ((i + 1 : Nat) : Int) from by omega, this]
      congr 1
      rw [decide_eq_decide, e]
      simp [hq]
    · rw [if_neg hq]
      congr 1
      symm
      rw [decide_eq_false_iff_not, e]
      exact fun h => hq h.1
theorem eqs_val (x y : List ByteArray) (hl : x.length ≤ maxLen) {k : Nat} (hk : x.length < k) : laws_eqStringS.f k x y = some (decide (x = y)) := by
  unfold laws_eqStringS.f
  by_cases h : x.length = y.length
  · rw [if_pos (by omega)]
    have := eqs_l x y h hl x.length k 0 (by omega) (by omega) hk
    simpa using this
  · rw [if_neg (by omega)]
    congr 1; symm
    rw [decide_eq_false_iff_not]
    exact fun e => h (by rw [e])

theorem szs_ev (l : List ByteArray) (hl : l.length ≤ maxLen) (hs : ∀ y ∈ l, y.size ≤ maxLen) {a : Int} (h0 : 0 ≤ a) (h1 : a ≤ 1048576) :
    Ev (fun k => laws_szStringS.f k l a) (-1) ∨ ∃ b, Ev (fun k => laws_szStringS.f k l a) b ∧ 0 ≤ b ∧ b ≤ a - l.length := by
  have hn := sizes_nn l
  rcases sz_val l hl hs h0 h1 (k := l.length + 1) (by omega) with e | ⟨e, e1⟩
  · exact .inl (Ev.of (fun k => laws_szStringS.mono l a k) e)
  · exact .inr ⟨_, Ev.of (fun k => laws_szStringS.mono l a k) e, e1, by omega⟩
theorem tos_ev (l : List ByteArray) (hl : l.length ≤ 1048576) : Ev (fun k => laws_toStringS.f k l) l := ⟨l.length + 1, fun _ hk => tos_val l (by omega) (by omega)⟩
theorem eqs_ev (x : List ByteArray) (hl : x.length ≤ 1048576) : Ev (fun k => laws_eqStringS.f k x x) true := by
  have hm : x.length ≤ maxLen := by unfold maxLen; omega
  exact ⟨x.length + 1, fun k hk => by show laws_eqStringS.f k x x = some true; rw [eqs_val x x hm (by omega)]; simp⟩

/-- A byte that a name may have. -/
def nameC (c : Int) : Prop := ((97 : Int) ≤ c ∧ c ≤ 122) ∨ ((48 : Int) ≤ c ∧ c ≤ 57) ∨ c = 45
instance instNameC (c : Int) : Decidable (nameC c) := by unfold nameC; infer_instance
/-- A name. -/
def IsNm (s : ByteArray) : Prop := 1 ≤ s.size ∧ s.size ≤ 12 ∧ ((97 : Int) ≤ bt s 0 ∧ bt s 0 ≤ 122) ∧ ∀ i, i < s.size → nameC (bt s (i : Int))
instance instIsNm (s : ByteArray) : Decidable (IsNm s) := by unfold IsNm; infer_instance
theorem toList_nil (s : ByteArray) : s.toList = ([] : List UInt8) ↔ s.size = 0 := by
  rw [ByteArray.toList_eq]
  obtain ⟨⟨x⟩⟩ := s
  show x = [] ↔ x.length = 0
  rw [List.length_eq_zero_iff]
theorem bt_at (s : ByteArray) (i : Nat) (h : i < s.size) : bt s (i : Int) = ((s.data.toList[i]'(by simpa using h)).toNat : Int) := by
  unfold bt
  rw [dif_pos (by simpa using h)]
  rfl
open Classical in
theorem snm_l (s : ByteArray) (hs : s.size ≤ 12) (d : Nat) : ∀ (i : Nat), i ≤ s.size → s.size - i = d → Ev (fun k => spec_IsName.l0 k s i) (decide (∀ j, i ≤ j → j < s.size → nameC (bt s (j : Int)))) := by
  induction d with
  | zero =>
    intro i hi hd
    apply ev_succ
    simp only [spec_IsName.l0, if_neg (show ¬ (i : Int) < (s.size : Int) by omega)]
    refine ev_const ?_
    congr 1
    symm
    rw [decide_eq_true_iff]
    intro j h1 h2; omega
  | succ d ih =>
    intro i hi hd
    have hlt : i < s.size := by omega
    have hih := ih (i + 1) (by omega) (by omega)
    have step : nameC (bt s (i : Int)) → (decide (∀ j, i ≤ j → j < s.size → nameC (bt s (j : Int)))) = decide (∀ j, i + 1 ≤ j → j < s.size → nameC (bt s (j : Int))) := by
      intro hc
      rw [decide_eq_decide]
      constructor
      · intro h j h1 h2; exact h j (by omega) h2
      · intro h j h1 h2
        by_cases e : j = i
        · subst e; exact hc
        · exact h j (by omega) h2
    apply ev_succ
    simp only [spec_IsName.l0, spec_l01Small.f, spec_l01Digit.f, if_pos (show (i : Int) < (s.size : Int) by omega), if_pos (show (0 : Int) ≤ (i : Int) by omega), w64 (x := (i : Int) + 1) (by omega) (by omega)]
    by_cases h1 : 97 ≤ bt s (i : Int) ∧ bt s (i : Int) ≤ 122
    · simp only [ge_iff_le, if_pos h1.1, Option.bind_some, decide_eq_true h1.2, if_true]
      rw [step (.inl h1)]
      exact hih
    · have e1 : (if bt s (i : Int) ≥ 97 then some (decide (bt s (i : Int) ≤ 122)) else some false) = some false := by
        by_cases h : bt s (i : Int) ≥ 97
        · rw [if_pos h, decide_eq_false (fun h2 => h1 ⟨h, h2⟩)]
        · rw [if_neg h]
      simp only [e1, Option.bind_some, Bool.false_eq_true, if_false]
      by_cases h2 : 48 ≤ bt s (i : Int) ∧ bt s (i : Int) ≤ 57
      · simp only [ge_iff_le, if_pos h2.1, Option.bind_some, decide_eq_true h2.2, if_true]
        rw [step (.inr (.inl h2))]
        exact hih
      · have e2 : (if bt s (i : Int) ≥ 48 then some (decide (bt s (i : Int) ≤ 57)) else some false) = some false := by
          by_cases h : bt s (i : Int) ≥ 48
          · rw [if_pos h, decide_eq_false (fun h3 => h2 ⟨h, h3⟩)]
          · rw [if_neg h]
        simp only [e2, Option.bind_some, Bool.false_eq_true, if_false]
        by_cases h3 : bt s (i : Int) = 45
        · simp only [if_pos h3]
          rw [step (.inr (.inr h3))]
          exact hih
        · simp only [if_neg h3]
          refine ev_const ?_
          congr 1
          symm
          rw [decide_eq_false_iff_not]
          intro h
          rcases h i (by omega) hlt with h | h | h
          · exact h1 h
          · exact h2 h
          · exact h3 h
theorem spec_name (s : ByteArray) : Ev (fun k => spec_IsName.f k s) (decide (IsNm s)) := by
  classical
  have no : ¬ IsNm s → Ev (fun k => spec_IsName.j0 k s true) (decide (IsNm s)) := fun h => by
    refine ev_succ ?_
    simp only [spec_IsName.j0, if_true]
    exact ev_const (by rw [decide_eq_false h])
  unfold spec_IsName.f
  by_cases h0 : s.size = 0
  · simp only [if_pos ((toList_nil s).2 h0)]
    exact no (fun h => by have := h.1; omega)
  · simp only [if_neg (fun h => h0 ((toList_nil s).1 h))]
    by_cases h1 : (s.size : Int) > 12
    · simp only [if_pos h1]
      exact no (fun h => by have := h.2.1; omega)
    · simp only [if_neg h1, if_pos (show (0 : Int) < (s.size : Int) by omega), spec_l01Small.f]
      by_cases h2 : 97 ≤ bt s 0 ∧ bt s 0 ≤ 122
      · simp only [ge_iff_le, if_pos h2.1, Option.bind_some, decide_eq_true h2.2, Bool.not_true]
        refine ev_succ ?_
        simp only [spec_IsName.j0, Bool.false_eq_true, if_false]
        have := snm_l s (by omega) s.size 0 (by omega) (by omega)
        have e : (decide (IsNm s)) = decide (∀ j, 0 ≤ j → j < s.size → nameC (bt s (j : Int))) := by
          rw [decide_eq_decide]
          exact ⟨fun h j _ hj => h.2.2.2 j hj, fun h => ⟨by omega, by omega, h2, fun j hj => h j (by omega) hj⟩⟩
        rw [e]
        exact this
      · have e1 : (if bt s 0 ≥ 97 then some (decide (bt s 0 ≤ 122)) else some false) = some false := by
          by_cases h : bt s 0 ≥ 97
          · rw [if_pos h, decide_eq_false (fun h3 => h2 ⟨h, h3⟩)]
          · rw [if_neg h]
        simp only [e1, Option.bind_some, Bool.not_false]
        exact no (fun h => h2 h.2.2.1)

theorem dw_nil (p : UInt8 → Bool) (l : List UInt8) : l.dropWhile p = [] ↔ ∀ b ∈ l, p b = true := by
  induction l with
  | nil => simp
  | cons a l ih =>
    by_cases h : p a = true
    · simp [List.dropWhile, h, ih]
    · simp [List.dropWhile, h]
theorem dw_head (p : UInt8 → Bool) (l : List UInt8) (x : UInt8) (xs : List UInt8) (h : l.dropWhile p = x :: xs) : p x = false := by
  induction l with
  | nil => simp at h
  | cons a l ih =>
    by_cases h2 : p a = true
    · simp only [List.dropWhile, h2] at h
      exact ih h
    · have h3 : p a = false := by simpa using h2
      simp only [List.dropWhile, h3, List.cons.injEq] at h
      rw [← h.1]; exact h3
theorem trimS_nil (l cs : List UInt8) : Go.Lib.trimS l cs = [] ↔ ∀ b ∈ l, cs.contains b = true := by
  unfold Go.Lib.trimS Go.Lib.trimLeftS Go.Lib.trimRightS
  rw [dw_nil]
  constructor
  · intro h b hb
    cases e : l.reverse.dropWhile (cs.contains ·) with
    | nil =>
      rw [dw_nil] at e
      exact e b (by simpa using hb)
    | cons x xs =>
      exfalso
      have h1 := dw_head _ _ _ _ e
      have h2 := h x (by rw [e]; simp)
      rw [h2] at h1
      cases h1
  · intro h b hb
    exact h b (by simpa using (List.dropWhile_sublist _).subset (List.mem_reverse.1 hb))
theorem name_cut (b : UInt8) : ([97, 98, 99, 100, 101, 102, 103, 104, 105, 106, 107, 108, 109, 110, 111, 112, 113, 114, 115, 116, 117, 118, 119, 120, 121, 122, 48, 49, 50, 51, 52, 53, 54, 55, 56, 57, 45] : List UInt8).contains b = decide (nameC (b.toNat : Int)) := by
  have key : ((List.range 256).all fun n => (([97, 98, 99, 100, 101, 102, 103, 104, 105, 106, 107, 108, 109, 110, 111, 112, 113, 114, 115, 116, 117, 118, 119, 120, 121, 122, 48, 49, 50, 51, 52, 53, 54, 55, 56, 57, 45] : List UInt8).contains (UInt8.ofNat n) == decide (((97 : Int) ≤ (n : Int) ∧ (n : Int) ≤ 122) ∨ ((48 : Int) ≤ (n : Int) ∧ (n : Int) ≤ 57) ∨ (n : Int) = 45))) = true := by decide +kernel
  have h := List.all_eq_true.1 key b.toNat (List.mem_range.2 b.toNat_lt)
  rw [UInt8.ofNat_toNat] at h
  rw [beq_iff_eq] at h
  rw [h]
  rfl
theorem impl_name (s : ByteArray) : impl_IsName.f s = some (decide (IsNm s)) := by
  unfold impl_IsName.f
  by_cases h0 : (s.size : Int) < 1
  · rw [if_pos h0, decide_eq_false (fun h => by have := h.1; omega)]
  · rw [if_neg h0]
    by_cases h1 : (s.size : Int) > 12
    · rw [if_pos h1, decide_eq_false (fun h => by have := h.2.1; omega)]
    · rw [if_neg h1, if_pos (by omega)]
      by_cases h2 : bt s 0 < 97
      · rw [if_pos h2, decide_eq_false (fun h => by have := h.2.2.1.1; omega)]
      · rw [if_neg h2]
        by_cases h3 : bt s 0 > 122
        · rw [if_pos h3, decide_eq_false (fun h => by have := h.2.2.1.2; omega)]
        · rw [if_neg h3]
          unfold strings_Trim.f
          rw [if_pos ⟨by omega, by decide, by decide +kernel⟩]
          simp only [Option.bind_some]
          congr 1
          have e : (decide (IsNm s)) = decide (∀ b ∈ s.data.toList, nameC (b.toNat : Int)) := by
            rw [decide_eq_decide]
            constructor
            · intro h b hb
              obtain ⟨j, hj, rfl⟩ := List.getElem_of_mem hb
              have := h.2.2.2 j (by simpa using hj)
              rw [bt_at s j (by simpa using hj)] at this
              exact this
            · intro h
              refine ⟨by omega, by omega, ⟨by omega, by omega⟩, fun j hj => ?_⟩
              rw [bt_at s j hj]
              exact h _ (List.getElem_mem _)
          rw [e]
          have e2 : ∀ t : List UInt8, (({ data := t.toArray } : ByteArray).toList == ([] : List UInt8)) = decide (t = []) := by
            intro t
            rw [ByteArray.toList_eq]
            cases t <;> simp
          rw [e2, decide_eq_decide, trimS_nil]
          constructor
          · intro h b hb
            have := h b hb
            rw [name_cut] at this
            exact of_decide_eq_true this
          · intro h b hb
            rw [name_cut]
            exact decide_eq_true (h b hb)

theorem in_val (a b c : Int) : spec_l00In.f a b c = some (decide (b ≤ a ∧ a ≤ c)) := by
  unfold spec_l00In.f
  by_cases h : a ≥ b <;> by_cases h2 : a ≤ c <;> simp [h, h2] <;> omega
theorem within_val (a b c : Int) : impl_within.f a b c = some (decide (b ≤ a ∧ a ≤ c)) := in_val a b c

theorem rd_T80_at (l : List S80) (i : Nat) (h : i < l.length) : rd_T80 l (i : Int) = l[i] := by
  unfold rd_T80
  rw [Int.toNat_natCast, List.getD_eq_getElem?_getD, List.getElem?_eq_getElem h]
  rfl
theorem rd_T64_at (l : List S64) (i : Nat) (h : i < l.length) : rd_T64 l (i : Int) = l[i] := by
  unfold rd_T64
  rw [Int.toNat_natCast, List.getD_eq_getElem?_getD, List.getElem?_eq_getElem h]
  rfl
def cvEdition (x : S80) : S64 := ⟨x.f0, x.f1⟩
theorem take_set_Edition (x : List S64) (i : Nat) (v : S64) (h : i < x.length) : (x.set i v).take (i + 1) = x.take i ++ [v] := by
  rw [List.take_succ_eq_append_getElem (by simpa using h), List.getElem_set_self, List.take_set_of_le (Nat.le_refl _)]
theorem toEdition_l (l : List S80) (hl : l.length ≤ 1048576) (hw : ∀ y ∈ l, y.f1.length ≤ 1048576) (d : Nat) : ∀ (x : List S64) (i : Nat), i ≤ l.length → l.length - i = d → x.length = l.length → x.take i = (l.map cvEdition).take i → Ev (fun k => laws_toEditionS.l0 k l x i) (l.map cvEdition) := by
  induction d with
  | zero =>
    intro x i hi hd hx ht
    apply ev_succ
    simp only [laws_toEditionS.l0]
    rw [List.take_of_length_le (by omega), List.take_of_length_le (by simp; omega)] at ht
    simp only [if_neg (show ¬ (i : Int) < (l.length : Int) by omega)]
    rw [ht]
    exact ev_const rfl
  | succ d ih =>
    intro x i hi hd hx ht
    have hlt : i < l.length := by omega
    have h1 : Ev (fun k => laws_toEdition.f k l[i].f0 l[i].f1) (l[i].f0, l[i].f1) := Ev.bind (tos_ev l[i].f1 (hw _ (List.getElem_mem hlt))) (ev_const rfl)
    apply ev_succ
    simp only [laws_toEditionS.l0, if_pos (show (i : Int) < (l.length : Int) by omega), if_pos (show (0 : Int) ≤ (i : Int) by omega), if_pos (show (i : Int) < (x.length : Int) by omega), rd_T80_at _ _ hlt, w64 (x := (i : Int) + 1) (by omega) (by omega), Int.toNat_natCast]
    refine Ev.bind h1 ?_
    exact ih (x.set i (cvEdition l[i])) (i + 1) (by omega) (by omega) (by simpa using hx) (by rw [take_set_Edition _ _ _ (by omega), List.take_succ_eq_append_getElem (by simpa using hlt), ht, List.getElem_map])
theorem toEdition_ev (l : List S80) (hl : l.length ≤ 1048576) (hw : ∀ y ∈ l, y.f1.length ≤ 1048576) : Ev (fun k => laws_toEditionS.f k l) (l.map cvEdition) := by
  refine Ev.congr (fun k => by unfold laws_toEditionS.f; rw [if_pos (by omega), if_pos (by omega)]) ?_
  exact toEdition_l l hl hw l.length _ 0 (by omega) (by omega) (by simp) (by simp)
theorem eqEdition_l (x : List S64) (hl : x.length ≤ 1048576) (hw : ∀ y ∈ x, y.f1.length ≤ 1048576) (d : Nat) : ∀ (i : Nat), i ≤ x.length → x.length - i = d → Ev (fun k => laws_eqEditionS.l0 k x x i) true := by
  induction d with
  | zero =>
    intro i hi hd
    apply ev_succ
    simp only [laws_eqEditionS.l0, if_neg (show ¬ (i : Int) < (x.length : Int) by omega)]
    exact ev_const rfl
  | succ d ih =>
    intro i hi hd
    have hlt : i < x.length := by omega
    have h1 : Ev (fun k => laws_eqEdition.f k x[i].f0 x[i].f1 x[i].f0 x[i].f1) true := by
      unfold laws_eqEdition.f
      simp only [if_true]
      refine Ev.bind (eqs_ev x[i].f1 (hw _ (List.getElem_mem hlt))) ?_
      simp only [if_true]
      exact ev_const rfl
    apply ev_succ
    simp only [laws_eqEditionS.l0, rd_T64_at _ _ hlt, if_pos (show (i : Int) < (x.length : Int) by omega), if_pos (show (0 : Int) ≤ (i : Int) by omega), w64 (x := (i : Int) + 1) (by omega) (by omega)]
    refine Ev.bind h1 ?_
    simp only [if_true]
    exact ih (i + 1) (by omega) (by omega)
theorem eqEdition_ev (x : List S64) (hl : x.length ≤ 1048576) (hw : ∀ y ∈ x, y.f1.length ≤ 1048576) : Ev (fun k => laws_eqEditionS.f k x x) true := by
  unfold laws_eqEditionS.f
  simp only [if_true]
  exact eqEdition_l x hl hw x.length 0 (by omega) (by omega)
theorem szEdition_l (l : List S80) (hl : l.length ≤ maxLen) (hw : ∀ y ∈ l, y.f1.length ≤ maxLen ∧ ∀ z ∈ y.f1, z.size ≤ maxLen) (d : Nat) : ∀ (a : Int) (i : Nat), i ≤ l.length → l.length - i = d → 0 ≤ a → a ≤ 1048576 →
    Ev (fun k => laws_szEditionS.l0 k l a i) (-1) ∨ ∃ b, Ev (fun k => laws_szEditionS.l0 k l a i) b ∧ 0 ≤ b ∧ b ≤ a ∧ ∀ y ∈ l.drop i, y.f1.length ≤ 1048576 := by
  unfold maxLen at hl
  induction d with
  | zero =>
    intro a i hi hd h0 h1
    refine .inr ⟨a, ev_succ ?_, h0, Int.le_refl _, fun y hy => by rw [List.drop_eq_nil_of_le (by omega)] at hy; simp at hy⟩
    simp only [laws_szEditionS.l0, if_neg (show ¬ (i : Int) < (l.length : Int) by omega)]
    exact ev_const rfl
  | succ d ih =>
    intro a i hi hd h0 h1
    have hlt : i < l.length := by omega
    obtain ⟨hn, hz⟩ := hw _ (List.getElem_mem hlt)
    rcases szs_ev l[i].f1 hn hz h0 h1 with e | ⟨b, e, b0, b1⟩
    · refine .inl (ev_succ ?_)
      have h2 : Ev (fun k => laws_szEdition.f k l[i].f0 l[i].f1 a) (-1) := by
        unfold laws_szEdition.f
        refine Ev.bind e ?_
        simp only [if_pos (show (-1 : Int) < 0 by omega)]
        exact ev_const rfl
      simp only [laws_szEditionS.l0, if_pos (show (i : Int) < (l.length : Int) by omega), if_pos (show (0 : Int) ≤ (i : Int) by omega), rd_T80_at _ _ hlt]
      refine Ev.bind h2 ?_
      simp only [if_pos (show (-1 : Int) < 0 by omega)]
      exact ev_const rfl
    · have h2 : Ev (fun k => laws_szEdition.f k l[i].f0 l[i].f1 a) b := by
        unfold laws_szEdition.f
        refine Ev.bind e ?_
        simp only [if_neg (show ¬ b < 0 by omega)]
        exact ev_const rfl
      rcases ih b (i + 1) (by omega) (by omega) b0 (by omega) with e2 | ⟨c, e2, c0, c1, c2⟩
      · refine .inl (ev_succ ?_)
        simp only [laws_szEditionS.l0, if_pos (show (i : Int) < (l.length : Int) by omega), if_pos (show (0 : Int) ≤ (i : Int) by omega), rd_T80_at _ _ hlt, w64 (x := (i : Int) + 1) (by omega) (by omega)]
        refine Ev.bind h2 ?_
        simp only [if_neg (show ¬ b < 0 by omega)]
        exact e2
      · refine .inr ⟨c, ev_succ ?_, c0, by omega, fun y hy => ?_⟩
        · simp only [laws_szEditionS.l0, if_pos (show (i : Int) < (l.length : Int) by omega), if_pos (show (0 : Int) ≤ (i : Int) by omega), rd_T80_at _ _ hlt, w64 (x := (i : Int) + 1) (by omega) (by omega)]
          refine Ev.bind h2 ?_
          simp only [if_neg (show ¬ b < 0 by omega)]
          exact e2
        · rw [List.drop_eq_getElem_cons hlt] at hy
          rcases List.mem_cons.1 hy with rfl | hy
          · omega
          · exact c2 y hy
theorem szEdition_ev (l : List S80) (hl : l.length ≤ maxLen) (hw : ∀ y ∈ l, y.f1.length ≤ maxLen ∧ ∀ z ∈ y.f1, z.size ≤ maxLen) {a : Int} (h0 : 0 ≤ a) (h1 : a ≤ 1048576) :
    Ev (fun k => laws_szEditionS.f k l a) (-1) ∨ ∃ b, Ev (fun k => laws_szEditionS.f k l a) b ∧ 0 ≤ b ∧ b ≤ a - l.length ∧ ∀ y ∈ l, y.f1.length ≤ 1048576 := by
  have hm := hl
  unfold maxLen at hm
  by_cases h : a - (l.length : Int) < 0
  · refine .inl (Ev.congr (fun k => by unfold laws_szEditionS.f; rw [w64 (x := a - (l.length : Int)) (by omega) (by omega), if_pos h]) (Ev.now (-1)))
  · rcases szEdition_l l hl hw l.length (a - l.length) 0 (by omega) (by omega) (by omega) (by omega) with e | ⟨b, e, b0, b1, b2⟩
    · exact .inl (Ev.congr (fun k => by unfold laws_szEditionS.f; rw [w64 (x := a - (l.length : Int)) (by omega) (by omega), if_neg h]; rfl) e)
    · exact .inr ⟨b, Ev.congr (fun k => by unfold laws_szEditionS.f; rw [w64 (x := a - (l.length : Int)) (by omega) (by omega), if_neg h]; rfl) e, b0, b1, by simpa using b2⟩

theorem shown_l (l : List ByteArray) (hl : l.length ≤ 1048576) (d : Nat) : ∀ (i : Nat), i ≤ l.length → l.length - i = d → ∃ r, Ev (fun k => spec_l14Names.l0 k l i) r ∧ Ev (fun k => impl_areShown.l0 k l l l.length i) r := by
  induction d with
  | zero =>
    intro i hi hd
    refine ⟨decide ((l.length : Int) ≤ 30), ev_succ ?_, ev_succ ?_⟩
    · simp only [spec_l14Names.l0, if_neg (show ¬ (i : Int) < (l.length : Int) by omega)]
      exact ev_const rfl
    · simp only [impl_areShown.l0, if_neg (show ¬ (i : Int) < (l.length : Int) by omega)]
      exact ev_const rfl
  | succ d ih =>
    intro i hi hd
    have hlt : i < l.length := by omega
    obtain ⟨r, h1, h2⟩ := ih (i + 1) (by omega) (by omega)
    have hn := spec_name l[i]
    by_cases c1 : IsNm l[i]
    · by_cases c3 : i = 0
      · refine ⟨r, ev_succ ?_, ev_succ ?_⟩
        · simp only [spec_l14Names.l0, if_pos (show (i : Int) < (l.length : Int) by omega), if_pos (show (0 : Int) ≤ (i : Int) by omega), rdOf_at _ _ _ hlt]
          refine Ev.bind hn ?_
          simp only [decide_eq_true c1, if_true, if_neg (show ¬ (i : Int) > 0 by omega), w64 (x := (i : Int) + 1) (by omega) (by omega)]
          exact h1
        · simp only [impl_areShown.l0, if_pos (show (i : Int) < (l.length : Int) by omega), if_pos (show (0 : Int) ≤ (i : Int) by omega), rdOf_at _ _ _ hlt, impl_name, Option.bind_some, decide_eq_true c1, if_true, if_neg (show ¬ (i : Int) > 0 by omega), w64 (x := (i : Int) + 1) (by omega) (by omega)]
          exact h2
      · by_cases c4 : Op.bytesLess ((rdOf ByteArray.empty l ((i : Int) - 1)).toList) ((l[i]).toList) = true
        · refine ⟨r, ev_succ ?_, ev_succ ?_⟩
          · simp only [spec_l14Names.l0, if_pos (show (i : Int) < (l.length : Int) by omega), if_pos (show (0 : Int) ≤ (i : Int) by omega), rdOf_at _ _ _ hlt]
            refine Ev.bind hn ?_
            simp only [decide_eq_true c1, if_true, if_pos (show (i : Int) > 0 by omega), w64 (x := (i : Int) - 1) (by omega) (by omega), if_pos (show (0 : Int) ≤ (i : Int) - 1 by omega), if_pos (show (i : Int) - 1 < (l.length : Int) by omega), c4, w64 (x := (i : Int) + 1) (by omega) (by omega)]
            exact h1
          · simp only [impl_areShown.l0, if_pos (show (i : Int) < (l.length : Int) by omega), if_pos (show (0 : Int) ≤ (i : Int) by omega), rdOf_at _ _ _ hlt, impl_name, Option.bind_some, decide_eq_true c1, if_true, if_pos (show (i : Int) > 0 by omega), w64 (x := (i : Int) - 1) (by omega) (by omega), if_pos (show (0 : Int) ≤ (i : Int) - 1 by omega), if_pos (show (i : Int) - 1 < (l.length : Int) by omega), c4, w64 (x := (i : Int) + 1) (by omega) (by omega)]
            exact h2
        · refine ⟨false, ev_succ ?_, ev_succ ?_⟩
          · simp only [spec_l14Names.l0, if_pos (show (i : Int) < (l.length : Int) by omega), if_pos (show (0 : Int) ≤ (i : Int) by omega), rdOf_at _ _ _ hlt]
            refine Ev.bind hn ?_
            simp only [decide_eq_true c1, if_true, if_pos (show (i : Int) > 0 by omega), w64 (x := (i : Int) - 1) (by omega) (by omega), if_pos (show (0 : Int) ≤ (i : Int) - 1 by omega), if_pos (show (i : Int) - 1 < (l.length : Int) by omega), if_neg c4]
            exact ev_const rfl
          · simp only [impl_areShown.l0, if_pos (show (i : Int) < (l.length : Int) by omega), if_pos (show (0 : Int) ≤ (i : Int) by omega), rdOf_at _ _ _ hlt, impl_name, Option.bind_some, decide_eq_true c1, if_true, if_pos (show (i : Int) > 0 by omega), w64 (x := (i : Int) - 1) (by omega) (by omega), if_pos (show (0 : Int) ≤ (i : Int) - 1 by omega), if_pos (show (i : Int) - 1 < (l.length : Int) by omega), if_neg c4]
            exact ev_const rfl
    · refine ⟨false, ev_succ ?_, ev_succ ?_⟩
      · simp only [spec_l14Names.l0, if_pos (show (i : Int) < (l.length : Int) by omega), if_pos (show (0 : Int) ≤ (i : Int) by omega), rdOf_at _ _ _ hlt]
        refine Ev.bind hn ?_
        simp only [decide_eq_false c1, Bool.false_eq_true, if_false]
        exact ev_const rfl
      · simp only [impl_areShown.l0, if_pos (show (i : Int) < (l.length : Int) by omega), if_pos (show (0 : Int) ≤ (i : Int) by omega), rdOf_at _ _ _ hlt, impl_name, Option.bind_some, decide_eq_false c1, Bool.false_eq_true, if_false]
        exact ev_const rfl
theorem shown_same (l : List ByteArray) (hl : l.length ≤ 1048576) : ∃ r, Ev (fun k => spec_l14Names.f k l) r ∧ Ev (fun k => impl_areShown.f k l) r := shown_l l hl l.length 0 (by omega) (by omega)
theorem syear (a : Int) : spec_l14Year.f a = some (decide (1 ≤ a ∧ a ≤ 3000)) := by unfold spec_l14Year.f; rw [in_val]; rfl
theorem iyear (a : Int) : impl_isYear.f a = some (decide (1 ≤ a ∧ a ≤ 3000)) := by unfold impl_isYear.f; rw [within_val]; rfl
theorem editions_l (l : List S64) (hl : l.length ≤ 1048576) (hw : ∀ y ∈ l, y.f1.length ≤ 1048576) (d : Nat) : ∀ (i : Nat), i ≤ l.length → l.length - i = d → ∃ r, Ev (fun k => spec_l14Ok.l0 k l i) r ∧ Ev (fun k => impl_ValidEditions.l0 k l l l.length i) r := by
  induction d with
  | zero =>
    intro i hi hd
    refine ⟨decide ((l.length : Int) ≤ 20), ev_succ ?_, ev_succ ?_⟩
    · simp only [spec_l14Ok.l0, if_neg (show ¬ (i : Int) < (l.length : Int) by omega)]
      exact ev_const rfl
    · simp only [impl_ValidEditions.l0, if_neg (show ¬ (i : Int) < (l.length : Int) by omega)]
      exact ev_const rfl
  | succ d ih =>
    intro i hi hd
    have hlt : i < l.length := by omega
    obtain ⟨r, h1, h2⟩ := ih (i + 1) (by omega) (by omega)
    obtain ⟨n, n1, n2⟩ := shown_same l[i].f1 (hw _ (List.getElem_mem hlt))
    by_cases cy : 1 ≤ l[i].f0 ∧ l[i].f0 ≤ 3000
    · have hs : ∀ v, Ev (fun k => if n = true then (if (i : Int) > 0 then (if (rd_T64 l ((i : Int) - 1)).f0 ≥ l[i].f0 then (some false) else (spec_l14Ok.l0 k l ((i + 1 : Nat) : Int))) else (spec_l14Ok.l0 k l ((i + 1 : Nat) : Int))) else (some false)) v → Ev (fun k => spec_l14Ok.l0 k l i) v := by
        intro v hv
        refine ev_succ ?_
        simp only [spec_l14Ok.l0, if_pos (show (i : Int) < (l.length : Int) by omega), if_pos (show (0 : Int) ≤ (i : Int) by omega), rd_T64_at _ _ hlt, syear, Option.bind_some, decide_eq_true cy, if_true]
        refine Ev.bind n1 ?_
        by_cases c3 : (i : Int) > 0
        · simp only [if_pos c3, w64 (x := (i : Int) - 1) (by omega) (by omega), if_pos (show (0 : Int) ≤ (i : Int) - 1 by omega), if_pos (show (i : Int) - 1 < (l.length : Int) by omega), w64 (x := (i : Int) + 1) (by omega) (by omega)] at hv ⊢
          exact hv
        · simp only [if_neg c3, w64 (x := (i : Int) + 1) (by omega) (by omega)] at hv ⊢
          exact hv
      have hi2 : ∀ v, Ev (fun k => if n = true then (if (i : Int) > 0 then (if (rd_T64 l ((i : Int) - 1)).f0 ≥ l[i].f0 then (some false) else (impl_ValidEditions.l0 k l l l.length ((i + 1 : Nat) : Int))) else (impl_ValidEditions.l0 k l l l.length ((i + 1 : Nat) : Int))) else (some false)) v → Ev (fun k => impl_ValidEditions.l0 k l l l.length i) v := by
        intro v hv
        refine ev_succ ?_
        simp only [impl_ValidEditions.l0, if_pos (show (i : Int) < (l.length : Int) by omega), if_pos (show (0 : Int) ≤ (i : Int) by omega), rd_T64_at _ _ hlt, iyear, Option.bind_some, decide_eq_true cy, if_true]
        refine Ev.bind n2 ?_
        by_cases c3 : (i : Int) > 0
        · simp only [if_pos c3, w64 (x := (i : Int) - 1) (by omega) (by omega), if_pos (show (0 : Int) ≤ (i : Int) - 1 by omega), if_pos (show (i : Int) - 1 < (l.length : Int) by omega), w64 (x := (i : Int) + 1) (by omega) (by omega)] at hv ⊢
          exact hv
        · simp only [if_neg c3, w64 (x := (i : Int) + 1) (by omega) (by omega)] at hv ⊢
          exact hv
      cases n with
      | false => exact ⟨false, hs _ (by simp only [Bool.false_eq_true, if_false]; exact ev_const rfl), hi2 _ (by simp only [Bool.false_eq_true, if_false]; exact ev_const rfl)⟩
      | true =>
        by_cases c3 : (i : Int) > 0
        · by_cases c4 : (rd_T64 l ((i : Int) - 1)).f0 ≥ l[i].f0
          · exact ⟨false, hs _ (by simp only [if_true, if_pos c3, if_pos c4]; exact ev_const rfl), hi2 _ (by simp only [if_true, if_pos c3, if_pos c4]; exact ev_const rfl)⟩
          · exact ⟨r, hs _ (by simp only [if_true, if_pos c3, if_neg c4]; exact h1), hi2 _ (by simp only [if_true, if_pos c3, if_neg c4]; exact h2)⟩
        · exact ⟨r, hs _ (by simp only [if_true, if_neg c3]; exact h1), hi2 _ (by simp only [if_true, if_neg c3]; exact h2)⟩
    · refine ⟨false, ev_succ ?_, ev_succ ?_⟩
      · simp only [spec_l14Ok.l0, if_pos (show (i : Int) < (l.length : Int) by omega), if_pos (show (0 : Int) ≤ (i : Int) by omega), rd_T64_at _ _ hlt, syear, Option.bind_some, decide_eq_false cy, Bool.false_eq_true, if_false]
        exact ev_const rfl
      · simp only [impl_ValidEditions.l0, if_pos (show (i : Int) < (l.length : Int) by omega), if_pos (show (0 : Int) ≤ (i : Int) by omega), rd_T64_at _ _ hlt, iyear, Option.bind_some, decide_eq_false cy, Bool.false_eq_true, if_false]
        exact ev_const rfl
theorem editions_same (l : List S64) (hl : l.length ≤ 1048576) (hw : ∀ y ∈ l, y.f1.length ≤ 1048576) : ∃ r, Ev (fun k => spec_l14Ok.f k l) r ∧ Ev (fun k => impl_ValidEditions.f k l) r := editions_l l hl hw l.length 0 (by omega) (by omega)

/-- Whether a list of texts has one. -/
def hasB (l : List ByteArray) (a : ByteArray) : Bool := l.any (fun x => decide (x.toList = a.toList))
theorem has_l (l : List ByteArray) (hl : l.length ≤ 1048576) (a : ByteArray) (d : Nat) : ∀ (i : Nat), i ≤ l.length → l.length - i = d →
    Ev (fun k => spec_l14Has.l0 k l a i) (hasB (l.drop i) a) ∧ ∃ v : Int, Ev (fun k => slices_Index_string_string.l0 k l a l.length i) v ∧ decide (v ≥ 0) = hasB (l.drop i) a := by
  induction d with
  | zero =>
    intro i hi hd
    rw [List.drop_eq_nil_of_le (by omega)]
    refine ⟨ev_succ ?_, -1, ev_succ ?_, rfl⟩
    · simp only [spec_l14Has.l0, if_neg (show ¬ (i : Int) < (l.length : Int) by omega)]
      exact ev_const rfl
    · simp only [slices_Index_string_string.l0, if_neg (show ¬ (i : Int) < (l.length : Int) by omega)]
      exact ev_const rfl
  | succ d ih =>
    intro i hi hd
    have hlt : i < l.length := by omega
    obtain ⟨h1, v, h2, h3⟩ := ih (i + 1) (by omega) (by omega)
    have hd : hasB (l.drop i) a = (decide (l[i].toList = a.toList) || hasB (l.drop (i + 1)) a) := by
      unfold hasB
      rw [List.drop_eq_getElem_cons hlt, List.any_cons]
    rw [hd]
    by_cases c : l[i].toList = a.toList
    · rw [decide_eq_true c, Bool.true_or]
      refine ⟨ev_succ ?_, i, ev_succ ?_, decide_eq_true (by omega)⟩
      · simp only [spec_l14Has.l0, if_pos (show (i : Int) < (l.length : Int) by omega), if_pos (show (0 : Int) ≤ (i : Int) by omega), rdOf_at _ _ _ hlt, if_pos c]
        exact ev_const rfl
      · simp only [slices_Index_string_string.l0, if_pos (show (i : Int) < (l.length : Int) by omega), if_pos (show (0 : Int) ≤ (i : Int) by omega), rdOf_at _ _ _ hlt, if_pos c.symm]
        exact ev_const rfl
    · rw [decide_eq_false c, Bool.false_or]
      refine ⟨ev_succ ?_, v, ev_succ ?_, h3⟩
      · simp only [spec_l14Has.l0, if_pos (show (i : Int) < (l.length : Int) by omega), if_pos (show (0 : Int) ≤ (i : Int) by omega), rdOf_at _ _ _ hlt, if_neg c, w64 (x := (i : Int) + 1) (by omega) (by omega)]
        exact h1
      · simp only [slices_Index_string_string.l0, if_pos (show (i : Int) < (l.length : Int) by omega), if_pos (show (0 : Int) ≤ (i : Int) by omega), rdOf_at _ _ _ hlt, if_neg (show ¬ a.toList = l[i].toList from fun e => c e.symm), w64 (x := (i : Int) + 1) (by omega) (by omega)]
        exact h2
theorem has_spec (l : List ByteArray) (hl : l.length ≤ 1048576) (a : ByteArray) : Ev (fun k => spec_l14Has.f k l a) (hasB l a) := (has_l l hl a l.length 0 (by omega) (by omega)).1
theorem has_impl (l : List ByteArray) (hl : l.length ≤ 1048576) (a : ByteArray) : Ev (fun k => slices_Contains_string_string.f k l a) (hasB l a) := by
  obtain ⟨_, v, h2, h3⟩ := has_l l hl a l.length 0 (by omega) (by omega)
  unfold slices_Contains_string_string.f
  refine Ev.bind h2 ?_
  rw [h3]
  exact ev_const rfl

/-- The texts of a list that another one has not. -/
def lessL (a b : List ByteArray) : List ByteArray := a.filter (fun x => !hasB b x)
theorem lessL_le (a b : List ByteArray) : (lessL a b).length ≤ a.length := List.length_filter_le _ _
theorem less_l (a b : List ByteArray) (ha : a.length ≤ 1048576) (hb : b.length ≤ 1048576) (d : Nat) : ∀ (out : List ByteArray) (i : Nat), i ≤ a.length → a.length - i = d → out.length ≤ i →
    Ev (fun k => spec_l14Less.l0 k a b out i) (out ++ lessL (a.drop i) b) ∧ Ev (fun k => impl_less.l0 k b out a a.length i) (out ++ lessL (a.drop i) b) := by
  induction d with
  | zero =>
    intro out i hi hd ho
    rw [List.drop_eq_nil_of_le (by omega), show lessL [] b = [] from rfl, List.append_nil]
    refine ⟨ev_succ ?_, ev_succ ?_⟩
    · simp only [spec_l14Less.l0, if_neg (show ¬ (i : Int) < (a.length : Int) by omega)]
      exact ev_const rfl
    · simp only [impl_less.l0, if_neg (show ¬ (i : Int) < (a.length : Int) by omega)]
      exact ev_const rfl
  | succ d ih =>
    intro out i hi hd ho
    have hlt : i < a.length := by omega
    by_cases c : hasB b a[i] = true
    · obtain ⟨h1, h2⟩ := ih out (i + 1) (by omega) (by omega) (by omega)
      rw [show lessL (a.drop i) b = lessL (a.drop (i + 1)) b from by unfold lessL; rw [List.drop_eq_getElem_cons hlt, List.filter_cons, c]; rfl]
      refine ⟨ev_succ ?_, ev_succ ?_⟩
      · simp only [spec_l14Less.l0, if_pos (show (i : Int) < (a.length : Int) by omega), if_pos (show (0 : Int) ≤ (i : Int) by omega), rdOf_at _ _ _ hlt]
        refine Ev.bind (has_spec b hb a[i]) ?_
        simp only [c, if_true, w64 (x := (i : Int) + 1) (by omega) (by omega)]
        exact h1
      · simp only [impl_less.l0, if_pos (show (i : Int) < (a.length : Int) by omega), if_pos (show (0 : Int) ≤ (i : Int) by omega), rdOf_at _ _ _ hlt]
        refine Ev.bind (has_impl b hb a[i]) ?_
        simp only [c, if_true, w64 (x := (i : Int) + 1) (by omega) (by omega)]
        exact h2
    · obtain ⟨h1, h2⟩ := ih (out ++ [a[i]]) (i + 1) (by omega) (by omega) (by simp; omega)
      replace c : hasB b a[i] = false := by simpa using c
      rw [show out ++ lessL (a.drop i) b = (out ++ [a[i]]) ++ lessL (a.drop (i + 1)) b from by unfold lessL; rw [List.drop_eq_getElem_cons hlt, List.filter_cons, c]; simp]
      refine ⟨ev_succ ?_, ev_succ ?_⟩
      · simp only [spec_l14Less.l0, if_pos (show (i : Int) < (a.length : Int) by omega), if_pos (show (0 : Int) ≤ (i : Int) by omega), rdOf_at _ _ _ hlt]
        refine Ev.bind (has_spec b hb a[i]) ?_
        simp only [c, Bool.false_eq_true, if_false, if_pos (show out.length < 8796093022208 by omega), w64 (x := (i : Int) + 1) (by omega) (by omega)]
        exact h1
      · simp only [impl_less.l0, if_pos (show (i : Int) < (a.length : Int) by omega), if_pos (show (0 : Int) ≤ (i : Int) by omega), rdOf_at _ _ _ hlt]
        refine Ev.bind (has_impl b hb a[i]) ?_
        simp only [c, Bool.false_eq_true, if_false, if_pos (show out.length < 8796093022208 by omega), w64 (x := (i : Int) + 1) (by omega) (by omega)]
        exact h2
theorem less_spec (a b : List ByteArray) (ha : a.length ≤ 1048576) (hb : b.length ≤ 1048576) : Ev (fun k => spec_l14Less.f k a b) (lessL a b) := (less_l a b ha hb a.length [] 0 (by omega) (by omega) (by simp)).1
theorem less_impl (a b : List ByteArray) (ha : a.length ≤ 1048576) (hb : b.length ≤ 1048576) : Ev (fun k => impl_less.f k a b) (lessL a b) := (less_l a b ha hb a.length [] 0 (by omega) (by omega) (by simp)).2

/-- The code of editions and one of them. -/
theorem one_same (l : List S64) (hl : l.length ≤ 1048576) (hw : ∀ y ∈ l, y.f1.length ≤ 1048576) (a : Int) :
    ∃ c, Ev (fun k => spec_l14One.f k l a) c ∧ Ev (fun k => impl_editionCode.f k l a) c ∧ (c = 0 → 0 ≤ a ∧ a < (l.length : Int) ∧ Ev (fun k => impl_ValidEditions.f k l) true) := by
  obtain ⟨v, h1, h2⟩ := editions_same l hl hw
  have hwr := w64 (x := (l.length : Int) - 1) (by omega) (by omega)
  cases v with
  | false =>
    refine ⟨1, ?_, ?_, fun h => by omega⟩
    · unfold spec_l14One.f
      refine Ev.bind h1 ?_
      simp only [Bool.false_eq_true, if_false]
      exact ev_const rfl
    · unfold impl_editionCode.f
      refine Ev.bind h2 ?_
      simp only [hwr, within_val, Option.bind_some, impl_check.f, Bool.false_eq_true, if_false]
      exact ev_const rfl
  | true =>
    by_cases c : 0 ≤ a ∧ a ≤ (l.length : Int) - 1
    · refine ⟨0, ?_, ?_, fun _ => ⟨by omega, by omega, h2⟩⟩
      · unfold spec_l14One.f
        refine Ev.bind h1 ?_
        simp only [hwr, in_val, Option.bind_some, decide_eq_true c, if_true]
        exact ev_const rfl
      · unfold impl_editionCode.f
        refine Ev.bind h2 ?_
        simp only [hwr, within_val, Option.bind_some, impl_check.f, decide_eq_true c, if_true]
        exact ev_const rfl
    · refine ⟨2, ?_, ?_, fun h => by omega⟩
      · unfold spec_l14One.f
        refine Ev.bind h1 ?_
        simp only [hwr, in_val, Option.bind_some, decide_eq_false c, if_true, Bool.false_eq_true, if_false]
        exact ev_const rfl
      · unfold impl_editionCode.f
        refine Ev.bind h2 ?_
        simp only [hwr, within_val, Option.bind_some, impl_check.f, decide_eq_false c, if_true, Bool.false_eq_true, if_false]
        exact ev_const rfl

/-- The names of the edition before one. -/
def befL (l : List S64) (a : Int) : List ByteArray := if a = 0 then [] else (rd_T64 l (a - 1)).f1
theorem befL_le (l : List S64) (hw : ∀ y ∈ l, y.f1.length ≤ 1048576) (a : Int) (h0 : 0 ≤ a) (h1 : a < (l.length : Int)) : (befL l a).length ≤ 1048576 := by
  unfold befL
  by_cases c : a = 0
  · rw [if_pos c]; simp
  · rw [if_neg c]
    obtain ⟨j, hj⟩ := Int.eq_ofNat_of_zero_le (show 0 ≤ a - 1 by omega)
    rw [hj, rd_T64_at _ _ (show j < l.length by omega)]
    exact hw _ (List.getElem_mem _)
theorem bef_spec (l : List S64) (a : Int) (hl : l.length ≤ 1048576) (h0 : 0 ≤ a) (h1 : a < (l.length : Int)) : spec_l14Before.f l a = some (befL l a) := by
  unfold spec_l14Before.f befL
  by_cases c : a = 0
  · rw [if_pos c, if_pos c]
  · rw [if_neg c, if_neg c, w64 (x := a - 1) (by omega) (by omega), if_pos (by omega), if_pos (by omega)]
theorem bef_impl (l : List S64) (a : Int) (hl : l.length ≤ 1048576) (h0 : 0 ≤ a) (h1 : a < (l.length : Int)) : impl_namesBefore.f l a = some (befL l a) := by
  unfold impl_namesBefore.f befL
  by_cases c : a = 0
  · rw [if_pos c, if_pos c]
  · rw [if_neg c, if_neg c, w64 (x := a - 1) (by omega) (by omega), if_pos (by omega), if_pos (by omega)]
theorem rdE_le (l : List S64) (hw : ∀ y ∈ l, y.f1.length ≤ 1048576) (a : Int) (h0 : 0 ≤ a) (h1 : a < (l.length : Int)) : (rd_T64 l a).f1.length ≤ 1048576 := by
  obtain ⟨j, rfl⟩ := Int.eq_ofNat_of_zero_le h0
  rw [rd_T64_at _ _ (show j < l.length by omega)]
  exact hw _ (List.getElem_mem _)

theorem markText_l (d : Nat) : ∀ (a : Int) (s : ByteArray), 0 ≤ a → a ≤ d → (s.size : Int) + a ≤ 8000000 → ∃ t, Ev (fun k => laws_markText.l0 k a s) t := by
  induction d with
  | zero =>
    intro a s h0 h1 h2
    refine ⟨(⟨#[109]⟩ : ByteArray) ++ s, ev_succ ?_⟩
    simp only [laws_markText.l0, if_neg (show ¬ a > 0 by omega), if_pos (show 1 + s.size ≤ 9223372036854775807 by omega)]
    exact ev_const rfl
  | succ d ih =>
    intro a s h0 h1 h2
    by_cases ha : a > 0
    · have hq : a / 10 < a := Int.ediv_lt_of_lt_mul (by omega) (by omega)
      have hq0 : 0 ≤ a / 10 := Int.ediv_nonneg h0 (by omega)
      obtain ⟨t, ht⟩ := ih (a / 10) (strOfNums [(wrap64 (48 + (Int.tmod a 10))) % 256] ++ s) hq0 (by omega) (by rw [ByteArray.size_append, strOfNums_size, List.length_singleton]; omega)
      refine ⟨t, ev_succ ?_⟩
      simp only [laws_markText.l0, if_pos ha, Option.bind_some, if_pos (show (strOfNums [(wrap64 (48 + (Int.tmod a 10))) % 256]).size + s.size ≤ 9223372036854775807 by rw [strOfNums_size, List.length_singleton]; omega), tdiv_nn h0, w64 (x := a / 10) (by omega) (by omega)]
      exact ht
    · refine ⟨(⟨#[109]⟩ : ByteArray) ++ s, ev_succ ?_⟩
      simp only [laws_markText.l0, if_neg ha, if_pos (show 1 + s.size ≤ 9223372036854775807 by omega)]
      exact ev_const rfl
theorem markText_ev {a : Int} (h0 : 0 ≤ a) (h1 : a ≤ 7000000) : ∃ t, Ev (fun k => laws_markText.f k a) t := by
  unfold laws_markText.f
  by_cases h : a ≤ 0
  · simp only [if_pos h]; exact ⟨_, ev_const rfl⟩
  · simp only [if_neg h]
    exact markText_l a.toNat a _ h0 (by omega) (by simp only [ByteArray.size, List.size_toArray, List.length_nil]; omega)

theorem markS_l (n : Nat) (hn : n ≤ 1048576) (d : Nat) : ∀ (x : List ByteArray) (a : Int) (i : Nat), x.length = n → i ≤ n → n - i = d → 0 ≤ a → a ≤ 4000000 + (i : Int) →
    ∃ b y, Ev (fun k => laws_markStringS.l0 k x a i) (b, y) ∧ a ≤ b ∧ b ≤ a + ((n : Int) - i) := by
  induction d with
  | zero =>
    intro x a i hx hi hd h0 h1
    refine ⟨a, x, ev_succ ?_, Int.le_refl _, by omega⟩
    simp only [laws_markStringS.l0, if_neg (show ¬ (i : Int) < (x.length : Int) by omega)]
    exact ev_const rfl
  | succ d ih =>
    intro x a i hx hi hd h0 h1
    obtain ⟨t, ht⟩ := markText_ev h0 (show a ≤ 7000000 by omega)
    obtain ⟨b, y, e, hb, hb2⟩ := ih (x.set i t) (a + 1) (i + 1) (by simpa using hx) (by omega) (by omega) (by omega) (by omega)
    refine ⟨b, y, ev_succ ?_, by omega, by omega⟩
    simp only [laws_markStringS.l0, if_pos (show (i : Int) < (x.length : Int) by omega), if_pos (show (0 : Int) ≤ (i : Int) by omega), Int.toNat_natCast, w64 (x := a + 1) (by omega) (by omega), w64 (x := (i : Int) + 1) (by omega) (by omega)]
    exact Ev.bind ht e
theorem markS_ev (x : List ByteArray) (hn : x.length ≤ 1048576) {a : Int} (h0 : 0 ≤ a) (h1 : a ≤ 4000000) : ∃ b y, Ev (fun k => laws_markStringS.f k x a) (b, y) ∧ a ≤ b ∧ b ≤ a + x.length := by
  obtain ⟨b, y, e, hb, hb2⟩ := markS_l x.length hn x.length x a 0 rfl (by omega) (by omega) h0 (by omega)
  exact ⟨b, y, e, hb, by omega⟩

theorem markH_l (n : Nat) (hn : n ≤ 1048576) (d : Nat) : ∀ (x : List ByteArray) (a : Int) (i : Nat), x.length = n → i ≤ n → n - i = d → 0 ≤ a → a ≤ 4000000 + (i : Int) →
    ∃ b y, Ev (fun k => laws_markStringS.l0 k x a i) (b, y) ∧ Ev (fun k => laws_heldStringS.l0 k y a i) b ∧ y.length = n ∧ y.take i = x.take i ∧ 0 ≤ b := by
  induction d with
  | zero =>
    intro x a i hx hi hd h0 h1
    refine ⟨a, x, ev_succ ?_, ev_succ ?_, hx, rfl, h0⟩
    · simp only [laws_markStringS.l0, if_neg (show ¬ (i : Int) < (x.length : Int) by omega)]
      exact ev_const rfl
    · simp only [laws_heldStringS.l0, if_neg (show ¬ (i : Int) < (x.length : Int) by omega)]
      exact ev_const rfl
  | succ d ih =>
    intro x a i hx hi hd h0 h1
    have hlt : i < x.length := by omega
    obtain ⟨t, ht⟩ := markText_ev h0 (show a ≤ 7000000 by omega)
    obtain ⟨b, y, e1, e2, hy, hk, hb⟩ := ih (x.set i t) (a + 1) (i + 1) (by simpa using hx) (by omega) (by omega) (by omega) (by omega)
    have hyl : i < y.length := by omega
    have hyi : y[i] = t := by
      have h2 : y[i] = (y.take (i + 1))[i]'(by rw [List.length_take]; omega) := by rw [List.getElem_take]
      rw [h2]
      simp only [hk, List.getElem_take, List.getElem_set_self]
    refine ⟨b, y, ev_succ ?_, ev_succ ?_, hy, ?_, hb⟩
    · simp only [laws_markStringS.l0, if_pos (show (i : Int) < (x.length : Int) by omega), if_pos (show (0 : Int) ≤ (i : Int) by omega), Int.toNat_natCast, w64 (x := a + 1) (by omega) (by omega), w64 (x := (i : Int) + 1) (by omega) (by omega)]
      exact Ev.bind ht e1
    · simp only [laws_heldStringS.l0, if_pos (show (i : Int) < (y.length : Int) by omega), if_pos (show (0 : Int) ≤ (i : Int) by omega), rdOf_at _ _ _ hyl, hyi, w64 (x := a + 1) (by omega) (by omega), w64 (x := (i : Int) + 1) (by omega) (by omega)]
      refine Ev.bind ht ?_
      simp only [if_true]
      exact e2
    · have h3 : y.take i = (y.take (i + 1)).take i := by rw [List.take_take]; congr 1; omega
      rw [h3, hk, List.take_take, Nat.min_eq_left (by omega), List.take_set_of_le (Nat.le_refl _)]
theorem markH_ev (x : List ByteArray) (hn : x.length ≤ 1048576) {a : Int} (h0 : 0 ≤ a) (h1 : a ≤ 4000000) : ∃ b y, Ev (fun k => laws_markStringS.f k x a) (b, y) ∧ Ev (fun k => laws_heldStringS.f k y a) b ∧ y.length = x.length ∧ 0 ≤ b := by
  obtain ⟨b, y, e1, e2, hy, _, hb⟩ := markH_l x.length hn x.length x a 0 rfl (by omega) (by omega) h0 (by omega)
  exact ⟨b, y, e1, e2, hy, hb⟩

/-- How many names the editions have in all. -/
def namesIn (l : List (List ByteArray)) : Int := (l.map (fun x => (x.length : Int))).sum
theorem namesIn_cons (s : List ByteArray) (l : List (List ByteArray)) : namesIn (s :: l) = s.length + namesIn l := by simp [namesIn]
theorem namesIn_nn (l : List (List ByteArray)) : 0 ≤ namesIn l := by
  induction l with
  | nil => simp [namesIn]
  | cons s l ih => rw [namesIn_cons]; omega
theorem szEditionT_l (l : List S80) (hl : l.length ≤ maxLen) (hw : ∀ y ∈ l, y.f1.length ≤ maxLen ∧ ∀ z ∈ y.f1, z.size ≤ maxLen) (d : Nat) : ∀ (a : Int) (i : Nat), i ≤ l.length → l.length - i = d → 0 ≤ a → a ≤ 1048576 →
    Ev (fun k => laws_szEditionS.l0 k l a i) (-1) ∨ ∃ b, Ev (fun k => laws_szEditionS.l0 k l a i) b ∧ 0 ≤ b ∧ b + namesIn ((l.drop i).map (fun y => y.f1)) ≤ a ∧ ∀ y ∈ l.drop i, y.f1.length ≤ 1048576 := by
  unfold maxLen at hl
  induction d with
  | zero =>
    intro a i hi hd h0 h1
    refine .inr ⟨a, ev_succ ?_, h0, by rw [List.drop_eq_nil_of_le (by omega)]; simp [namesIn], fun y hy => by rw [List.drop_eq_nil_of_le (by omega)] at hy; simp at hy⟩
    simp only [laws_szEditionS.l0, if_neg (show ¬ (i : Int) < (l.length : Int) by omega)]
    exact ev_const rfl
  | succ d ih =>
    intro a i hi hd h0 h1
    have hlt : i < l.length := by omega
    obtain ⟨hn, hz⟩ := hw _ (List.getElem_mem hlt)
    rcases szs_ev l[i].f1 hn hz h0 h1 with e | ⟨b, e, b0, b1⟩
    · refine .inl (ev_succ ?_)
      have h2 : Ev (fun k => laws_szEdition.f k l[i].f0 l[i].f1 a) (-1) := by
        unfold laws_szEdition.f
        refine Ev.bind e ?_
        simp only [if_pos (show (-1 : Int) < 0 by omega)]
        exact ev_const rfl
      simp only [laws_szEditionS.l0, if_pos (show (i : Int) < (l.length : Int) by omega), if_pos (show (0 : Int) ≤ (i : Int) by omega), rd_T80_at _ _ hlt]
      refine Ev.bind h2 ?_
      simp only [if_pos (show (-1 : Int) < 0 by omega)]
      exact ev_const rfl
    · have h2 : Ev (fun k => laws_szEdition.f k l[i].f0 l[i].f1 a) b := by
        unfold laws_szEdition.f
        refine Ev.bind e ?_
        simp only [if_neg (show ¬ b < 0 by omega)]
        exact ev_const rfl
      rcases ih b (i + 1) (by omega) (by omega) b0 (by omega) with e2 | ⟨c, e2, c0, c1, c2⟩
      · refine .inl (ev_succ ?_)
        simp only [laws_szEditionS.l0, if_pos (show (i : Int) < (l.length : Int) by omega), if_pos (show (0 : Int) ≤ (i : Int) by omega), rd_T80_at _ _ hlt, w64 (x := (i : Int) + 1) (by omega) (by omega)]
        refine Ev.bind h2 ?_
        simp only [if_neg (show ¬ b < 0 by omega)]
        exact e2
      · refine .inr ⟨c, ev_succ ?_, c0, by rw [List.drop_eq_getElem_cons hlt, List.map_cons, namesIn_cons]; omega, fun y hy => ?_⟩
        · simp only [laws_szEditionS.l0, if_pos (show (i : Int) < (l.length : Int) by omega), if_pos (show (0 : Int) ≤ (i : Int) by omega), rd_T80_at _ _ hlt, w64 (x := (i : Int) + 1) (by omega) (by omega)]
          refine Ev.bind h2 ?_
          simp only [if_neg (show ¬ b < 0 by omega)]
          exact e2
        · rw [List.drop_eq_getElem_cons hlt] at hy
          rcases List.mem_cons.1 hy with rfl | hy
          · omega
          · exact c2 y hy
theorem szEditionT_ev (l : List S80) (hl : l.length ≤ maxLen) (hw : ∀ y ∈ l, y.f1.length ≤ maxLen ∧ ∀ z ∈ y.f1, z.size ≤ maxLen) {a : Int} (h0 : 0 ≤ a) (h1 : a ≤ 1048576) :
    Ev (fun k => laws_szEditionS.f k l a) (-1) ∨ ∃ b, Ev (fun k => laws_szEditionS.f k l a) b ∧ 0 ≤ b ∧ b + namesIn ((l.map cvEdition).map (fun y => y.f1)) ≤ a - l.length ∧ ∀ y ∈ l, y.f1.length ≤ 1048576 := by
  have hm := hl
  unfold maxLen at hm
  by_cases h : a - (l.length : Int) < 0
  · refine .inl (Ev.congr (fun k => by unfold laws_szEditionS.f; rw [w64 (x := a - (l.length : Int)) (by omega) (by omega), if_pos h]) (Ev.now (-1)))
  · rcases szEditionT_l l hl hw l.length (a - l.length) 0 (by omega) (by omega) (by omega) (by omega) with e | ⟨b, e, b0, b1, b2⟩
    · exact .inl (Ev.congr (fun k => by unfold laws_szEditionS.f; rw [w64 (x := a - (l.length : Int)) (by omega) (by omega), if_neg h]; rfl) e)
    · have e3 : (l.map cvEdition).map (fun y => y.f1) = l.map (fun y => y.f1) := by rw [List.map_map]; rfl
      exact .inr ⟨b, Ev.congr (fun k => by unfold laws_szEditionS.f; rw [w64 (x := a - (l.length : Int)) (by omega) (by omega), if_neg h]; rfl) e, b0, by rw [e3]; simpa using b1, by simpa using b2⟩
theorem markEd_l : ∀ (x : List S64) (a : Int), 0 ≤ a → a + x.length + namesIn (x.map (fun y => y.f1)) ≤ 4000000 → (∀ y ∈ x, y.f1.length ≤ 1048576) →
    ∃ b, Ev (fun k => laws_markEditionS.l0 k x a) b ∧ a ≤ b ∧ b ≤ a + x.length + namesIn (x.map (fun y => y.f1)) := by
  intro x
  induction x with
  | nil =>
    intro a h0 h1 hw
    exact ⟨a, ev_const rfl, Int.le_refl _, by simp [namesIn]⟩
  | cons s x ih =>
    intro a h0 h1 hw
    rw [List.forall_mem_cons] at hw
    rw [List.map_cons, namesIn_cons, List.length_cons] at h1 ⊢
    have hnn := namesIn_nn (x.map (fun y => y.f1))
    obtain ⟨b, y, e, b0, b1⟩ := markS_ev s.f1 hw.1 (a := a + 1) (by omega) (by omega)
    obtain ⟨c, e2, c0, c1⟩ := ih b (by omega) (by omega) hw.2
    refine ⟨c, ?_, by omega, by omega⟩
    simp only [laws_markEditionS.l0, w64 (x := a + 1) (by omega) (by omega)]
    exact Ev.bind e e2
theorem markEd_ev (x : List S64) {a : Int} (h0 : 0 ≤ a) (h1 : a + x.length + namesIn (x.map (fun y => y.f1)) ≤ 4000000) (hw : ∀ y ∈ x, y.f1.length ≤ 1048576) :
    ∃ b, Ev (fun k => laws_markEditionS.f k x a) b ∧ a ≤ b ∧ b ≤ a + x.length + namesIn (x.map (fun y => y.f1)) := markEd_l x a h0 h1 hw

theorem names_same (l : List S64) (hl : l.length ≤ 1048576) (hw : ∀ y ∈ l, y.f1.length ≤ 1048576) (a : Int) : ∃ res c, Ev (fun k => spec_NewNames.f k l a) (res, c) ∧ Ev (fun k => impl_NewNames.f k l a) (res, c) ∧ res.length ≤ 1048576 := by
  obtain ⟨c, h1, h2, h3⟩ := one_same l hl hw a
  by_cases hc : c = 0
  · subst hc
    obtain ⟨a0, a1, _⟩ := h3 rfl
    have w1 := rdE_le l hw a a0 a1
    have w2 := befL_le l hw a a0 a1
    have hlen := lessL_le ((rd_T64 l a).f1) (befL l a)
    refine ⟨lessL ((rd_T64 l a).f1) (befL l a), 0, ?_, ?_, by omega⟩
    · unfold spec_NewNames.f
      refine Ev.bind h1 ?_
      simp only [if_true, if_pos a0, if_pos a1, bef_spec l a hl a0 a1, Option.bind_some]
      exact Ev.bind (less_spec _ _ (by omega) (by omega)) (ev_const rfl)
    · unfold impl_NewNames.f
      refine Ev.bind h2 ?_
      simp only [if_true, if_pos a0, if_pos a1, bef_impl l a hl a0 a1, Option.bind_some]
      exact Ev.bind (less_impl _ _ (by omega) (by omega)) (ev_const rfl)
  · refine ⟨[], c, ?_, ?_, by simp⟩
    · unfold spec_NewNames.f
      refine Ev.bind h1 ?_
      simp only [if_neg hc]
      exact ev_const rfl
    · unfold impl_NewNames.f
      refine Ev.bind h2 ?_
      simp only [if_neg hc]
      exact ev_const rfl
theorem FnExactNewNames : laws_FnExactNewNames.Pure := by
  intro l a hl hw _
  apply Ev.rounds
  unfold laws_FnExactNewNames.f
  rcases szEditionT_ev l hl (fun y hy => (hw y hy).2) (a := 1048576) (by omega) (by omega) with e | ⟨b, e, b0, b1, b2⟩
  · refine Ev.bind e ?_
    simp only [if_pos (show (-1 : Int) < 0 by omega)]
    exact ev_const rfl
  · refine Ev.bind e ?_
    simp only [if_neg (show ¬ b < 0 by omega)]
    have hnn := namesIn_nn ((l.map cvEdition).map (fun y => y.f1))
    have hto := toEdition_ev l (by omega) b2
    have hml : (l.map cvEdition).length ≤ 1048576 := by rw [List.length_map]; omega
    have hml2 : ((l.map cvEdition).length : Int) = l.length := by rw [List.length_map]
    have hmw : ∀ y ∈ l.map cvEdition, y.f1.length ≤ 1048576 := by
      intro y hy
      obtain ⟨x, hx, rfl⟩ := List.mem_map.1 hy
      exact b2 x hx
    obtain ⟨res, cd, s1, s2, s3⟩ := names_same (l.map cvEdition) hml hmw a
    have q := eqs_ev res (by omega)
    obtain ⟨p1, m1, n1, n10⟩ := markEd_ev (l.map cvEdition) (a := 1) (by omega) (by omega) hmw
    obtain ⟨p2, y2, m2, m3, n2, n3⟩ := markH_ev res (by omega) (a := 1) (by omega) (by omega)
    refine Ev.bind hto (Ev.bind s1 (Ev.bind hto (Ev.bind s2 (Ev.bind q ?_))))
    simp only [if_true, bne_self_eq_false]
    refine ev_succ ?_
    simp only [laws_FnExactNewNames.j0, Bool.false_eq_true, if_false]
    refine Ev.bind hto (Ev.bind (eqEdition_ev _ hml hmw) ?_)
    simp only [if_true]
    refine Ev.bind m1 ?_
    simp only [if_neg (show ¬ p1 < 0 by omega)]
    refine Ev.bind q ?_
    simp only [if_true, bne_self_eq_false]
    refine ev_succ ?_
    simp only [laws_FnExactNewNames.j1, Bool.false_eq_true, if_false]
    refine Ev.bind m2 (Ev.bind m3 ?_)
    simp only [if_neg (show ¬ p2 < 0 by omega), if_true]
    refine Ev.bind hto (Ev.bind s2 (Ev.bind q ?_))
    simp only [if_true, bne_self_eq_false]
    refine ev_succ ?_
    simp only [laws_FnExactNewNames.j2, Bool.false_eq_true, if_false]
    refine Ev.bind m3 ?_
    simp only [if_neg (show ¬ p2 < 0 by omega), if_true]
    exact ev_const rfl

end Go.Proofs.YtalmeecdjhelkaaDoor.Pure
