/- FnExactTooLate: the program's TooLate and the reference's come to the same, for all lists of editions and of known names and all numbers: the same code, and the same names, in ascending order. -/
import Derived.Test.YtalmeecdjhelkaaDoorStatFnExactTooLate
namespace Go.Proofs.YtalmeecdjhelkaaDoor.Pure
open Go.RowKit Go.Proofs.YtalmeecdjhelkaaDoor.PFnExactTooLate Go.Proofs.YtalmeecdjhelkaaDoorW.PrintWords Go.Proofs.YtalmeecdjhelkaaDoorW.PrintLast Go.Proofs.YtalmeecdjhelkaaDoorW.PrintMore
set_option linter.unusedVariables false
set_option linter.unusedSimpArgs false
theorem w64 {x : Int} (h : -9223372036854775808 ≤ x) (h2 : x ≤ 9223372036854775807) : wrap64 x = x := by unfold wrap64; omega
theorem tdiv_nn {a b : Int} (h : 0 ≤ a) : Int.tdiv a b = a / b := Int.tdiv_eq_ediv_of_nonneg h
theorem ev_succ {α : Type} {g : Nat → Option α} {r : α} (h : Ev (fun k => g (k + 1)) r) : Ev g r := Ev.step (fun _ => rfl) h
theorem ev_const {α : Type} {g : Option α} {r : α} (h : g = some r) : Ev (fun _ => g) r := ⟨0, fun _ _ => h⟩
theorem ev_uniq {α : Type} {g : Nat → Option α} {a b : α} (h : Ev g a) (h' : Ev g b) : a = b := by
  obtain ⟨K, h⟩ := h
  obtain ⟨K', h'⟩ := h'
  have h1 := h (K + K') (by omega)
  rw [h' (K + K') (by omega)] at h1
  exact (Option.some.inj h1).symm

theorem toList_inj {a b : ByteArray} : a.toList = b.toList ↔ a = b := by
  constructor
  · intro h
    rw [ByteArray.toList_eq, ByteArray.toList_eq] at h
    obtain ⟨⟨x⟩⟩ := a
    obtain ⟨⟨y⟩⟩ := b
    simp at h
    rw [h]
  · intro h; rw [h]
def sizes (l : List ByteArray) : Int := (l.map (fun s => (s.size : Int))).sum
theorem sizes_cons (s : ByteArray) (l : List ByteArray) : sizes (s :: l) = s.size + sizes l := by simp [sizes]
theorem sizes_nn (l : List ByteArray) : 0 ≤ sizes l := by
  induction l with
  | nil => simp [sizes]
  | cons s l ih => rw [sizes_cons]; omega
theorem sizes_drop (l : List ByteArray) (i : Nat) (h : i < l.length) : sizes (l.drop i) = (l[i]).size + sizes (l.drop (i + 1)) := by
  rw [List.drop_eq_getElem_cons h, sizes_cons]
theorem rdOf_at (d : ByteArray) (l : List ByteArray) (i : Nat) (h : i < l.length) : rdOf d l (i : Int) = l[i] := by
  unfold rdOf
  rw [Int.toNat_natCast, List.getD_eq_getElem?_getD, List.getElem?_eq_getElem h]
  rfl

theorem sz_l (l : List ByteArray) (hl : l.length ≤ maxLen) (hs : ∀ y ∈ l, y.size ≤ maxLen) (d : Nat) : ∀ (k : Nat) (a : Int) (i : Nat), i ≤ l.length → l.length - i = d → d < k → 0 ≤ a → a ≤ 1048576 →
    (a - sizes (l.drop i) < 0 ∧ laws_szStringS.l0 k l a i = some (-1)) ∨ (0 ≤ a - sizes (l.drop i) ∧ laws_szStringS.l0 k l a i = some (a - sizes (l.drop i))) := by
  unfold maxLen at hl hs
  induction d with
  | zero =>
    intro k a i hi hd hk h0 h1
    obtain ⟨k, rfl⟩ : ∃ m, k = m + 1 := ⟨k - 1, by omega⟩
    obtain rfl : i = l.length := by omega
    rw [List.drop_length]
    right
    simp only [laws_szStringS.l0, sizes, List.map_nil, List.sum_nil]
    rw [if_neg (by omega)]
    exact ⟨by omega, by congr 1; omega⟩
  | succ d ih =>
    intro k a i hi hd hk h0 h1
    obtain ⟨k, rfl⟩ : ∃ m, k = m + 1 := ⟨k - 1, by omega⟩
    have hlt : i < l.length := by omega
    have hsz := hs l[i] (List.getElem_mem hlt)
    have hnn := sizes_nn (l.drop (i + 1))
    rw [sizes_drop l i hlt]
    simp only [laws_szStringS.l0]
    rw [if_pos (by omega), if_pos (by omega), rdOf_at _ _ _ hlt, w64 (x := a - (l[i].size : Int)) (by omega) (by omega)]
    by_cases hn : a - (l[i].size : Int) < 0
    · left
      rw [if_pos hn]
      exact ⟨by omega, rfl⟩
    · rw [if_neg hn, w64 (x := (i : Int) + 1) (by omega) (by omega)]
      have := ih k (a - l[i].size) (i + 1) (by omega) (by omega) (by omega) (by omega) (by omega)
      rw [show ((i : Int) + 1) = ((i + 1 : Nat) : Int) from by omega]
      rw [show a - ((l[i].size : Int) + sizes (l.drop (i + 1))) = a - (l[i].size : Int) - sizes (l.drop (i + 1)) from by omega]
      exact this
/-- The count of a list of strings: none is left (the law then says nothing), or the list is short. -/
theorem sz_val (l : List ByteArray) (hl : l.length ≤ maxLen) (hs : ∀ y ∈ l, y.size ≤ maxLen) {a : Int} (h0 : 0 ≤ a) (h1 : a ≤ 1048576) {k : Nat} (hk : l.length < k) :
    laws_szStringS.f k l a = some (-1) ∨ (laws_szStringS.f k l a = some (a - l.length - sizes l) ∧ 0 ≤ a - l.length - sizes l) := by
  have h2 := hl
  unfold maxLen at h2
  unfold laws_szStringS.f
  rw [w64 (x := a - (l.length : Int)) (by omega) (by omega)]
  by_cases h : a - (l.length : Int) < 0
  · left; rw [if_pos h]
  · rw [if_neg h]
    rcases sz_l l hl hs l.length k (a - l.length) 0 (by omega) (by omega) hk (by omega) (by omega) with ⟨_, e⟩ | ⟨e1, e⟩
    · left; exact e
    · right
      rw [List.drop_zero] at e1 e
      exact ⟨e, e1⟩

theorem take_set_succ {α : Type} (x : List α) (i : Nat) (v : α) (h : i < x.length) : (x.set i v).take (i + 1) = x.take i ++ [v] := by
  rw [List.take_succ_eq_append_getElem (by simpa using h), List.getElem_set_self, List.take_set_of_le (Nat.le_refl _)]
theorem take_succ_get {α : Type} (x : List α) (i : Nat) (h : i < x.length) : x.take (i + 1) = x.take i ++ [x[i]] := List.take_succ_eq_append_getElem h
theorem tos_l (l : List ByteArray) (hl : l.length ≤ 17592186044416) (d : Nat) : ∀ (k : Nat) (x : List ByteArray) (i : Nat), i ≤ l.length → l.length - i = d → d < k → x.length = l.length → x.take i = l.take i → laws_toStringS.l0 k l x i = some l := by
  induction d with
  | zero =>
    intro k x i hi hd hk hx ht
    obtain ⟨k, rfl⟩ : ∃ m, k = m + 1 := ⟨k - 1, by omega⟩
    simp only [laws_toStringS.l0]
    rw [if_neg (by omega)]
    rw [List.take_of_length_le (by omega), List.take_of_length_le (by omega)] at ht
    rw [ht]
  | succ d ih =>
    intro k x i hi hd hk hx ht
    obtain ⟨k, rfl⟩ : ∃ m, k = m + 1 := ⟨k - 1, by omega⟩
    have hlt : i < l.length := by omega
    simp only [laws_toStringS.l0]
    rw [if_pos (by omega), if_pos (by omega), if_pos (by omega), rdOf_at _ _ _ hlt, w64 (x := (i : Int) + 1) (by omega) (by omega), Int.toNat_natCast]
    have := ih k (x.set i l[i]) (i + 1) (by omega) (by omega) (by omega) (by simpa using hx) (by rw [take_set_succ _ _ _ (by omega), take_succ_get l i hlt, ht])
    exact this
theorem tos_val (l : List ByteArray) (hl : l.length ≤ 17592186044416) {k : Nat} (hk : l.length < k) : laws_toStringS.f k l = some l := by
  unfold laws_toStringS.f
  rw [if_pos (by omega), if_pos (by simpa using hl)]
  exact tos_l l hl l.length k _ 0 (by omega) (by omega) hk (by simp) (by simp)

theorem getElem_ext {α : Type} {x y : List α} (h : x.length = y.length) (d : Nat) (i : Nat) (hi : i < x.length) : (x.drop i = y.drop i) ↔ (x[i] = y[i] ∧ x.drop (i + 1) = y.drop (i + 1)) := by
  rw [List.drop_eq_getElem_cons hi, List.drop_eq_getElem_cons (show i < y.length by omega), List.cons.injEq]
theorem eqs_l (x y : List ByteArray) (h : x.length = y.length) (hl : x.length ≤ maxLen) (d : Nat) : ∀ (k : Nat) (i : Nat), i ≤ x.length → x.length - i = d → d < k → laws_eqStringS.l0 k x y i = some (decide (x.drop i = y.drop i)) := by
  unfold maxLen at hl
  induction d with
  | zero =>
    intro k i hi hd hk
    obtain ⟨k, rfl⟩ : ∃ m, k = m + 1 := ⟨k - 1, by omega⟩
    simp only [laws_eqStringS.l0]
    rw [if_neg (by omega), List.drop_eq_nil_of_le (by omega), List.drop_eq_nil_of_le (by omega)]
    simp
  | succ d ih =>
    intro k i hi hd hk
    obtain ⟨k, rfl⟩ : ∃ m, k = m + 1 := ⟨k - 1, by omega⟩
    have hlt : i < x.length := by omega
    simp only [laws_eqStringS.l0]
    rw [if_pos (by omega), if_pos (by omega), if_pos (by omega), rdOf_at _ _ _ hlt, rdOf_at _ _ _ (by omega), w64 (x := (i : Int) + 1) (by omega) (by omega)]
    simp only [toList_inj]
    have e := getElem_ext h d i hlt
    by_cases hq : x[i] = y[i]
    · rw [if_pos hq]
      have := ih k (i + 1) (by omega) (by omega) (by omega)
      rw [show ((i : Int) + 1) = ((i + 1 : Nat) : Int) from by omega, this]
      congr 1
      rw [decide_eq_decide, e]
      simp [hq]
    · rw [if_neg hq]
      congr 1
      symm
      rw [decide_eq_false_iff_not, e]
      exact fun h => hq h.1
theorem eqs_val (x y : List ByteArray) (hl : x.length ≤ maxLen) {k : Nat} (hk : x.length < k) : laws_eqStringS.f k x y = some (decide (x = y)) := by
  unfold laws_eqStringS.f
  by_cases h : x.length = y.length
  · rw [if_pos (by omega)]
    have := eqs_l x y h hl x.length k 0 (by omega) (by omega) hk
    simpa using this
  · rw [if_neg (by omega)]
    congr 1; symm
    rw [decide_eq_false_iff_not]
    exact fun e => h (by rw [e])

theorem szs_ev (l : List ByteArray) (hl : l.length ≤ maxLen) (hs : ∀ y ∈ l, y.size ≤ maxLen) {a : Int} (h0 : 0 ≤ a) (h1 : a ≤ 1048576) :
    Ev (fun k => laws_szStringS.f k l a) (-1) ∨ ∃ b, Ev (fun k => laws_szStringS.f k l a) b ∧ 0 ≤ b ∧ b ≤ a - l.length := by
  have hn := sizes_nn l
  rcases sz_val l hl hs h0 h1 (k := l.length + 1) (by omega) with e | ⟨e, e1⟩
  · exact .inl (Ev.of (fun k => laws_szStringS.mono l a k) e)
  · exact .inr ⟨_, Ev.of (fun k => laws_szStringS.mono l a k) e, e1, by omega⟩
theorem tos_ev (l : List ByteArray) (hl : l.length ≤ 1048576) : Ev (fun k => laws_toStringS.f k l) l := ⟨l.length + 1, fun _ hk => tos_val l (by omega) (by omega)⟩
theorem eqs_ev (x : List ByteArray) (hl : x.length ≤ 1048576) : Ev (fun k => laws_eqStringS.f k x x) true := by
  have hm : x.length ≤ maxLen := by unfold maxLen; omega
  exact ⟨x.length + 1, fun k hk => by show laws_eqStringS.f k x x = some true; rw [eqs_val x x hm (by omega)]; simp⟩

/-- A byte that a name may have. -/
def nameC (c : Int) : Prop := ((97 : Int) ≤ c ∧ c ≤ 122) ∨ ((48 : Int) ≤ c ∧ c ≤ 57) ∨ c = 45
instance instNameC (c : Int) : Decidable (nameC c) := by unfold nameC; infer_instance
/-- A name. -/
def IsNm (s : ByteArray) : Prop := 1 ≤ s.size ∧ s.size ≤ 12 ∧ ((97 : Int) ≤ bt s 0 ∧ bt s 0 ≤ 122) ∧ ∀ i, i < s.size → nameC (bt s (i : Int))
instance instIsNm (s : ByteArray) : Decidable (IsNm s) := by unfold IsNm; infer_instance
theorem toList_nil (s : ByteArray) : s.toList = ([] : List UInt8) ↔ s.size = 0 := by
  rw [ByteArray.toList_eq]
  obtain ⟨⟨x⟩⟩ := s
  show x = [] ↔ x.length = 0
  rw [List.length_eq_zero_iff]
theorem bt_at (s : ByteArray) (i : Nat) (h : i < s.size) : bt s (i : Int) = ((s.data.toList[i]'(by simpa using h)).toNat : Int) := by
  unfold bt
  rw [dif_pos (by simpa using h)]
  rfl
open Classical in
theorem snm_l (s : ByteArray) (hs : s.size ≤ 12) (d : Nat) : ∀ (i : Nat), i ≤ s.size → s.size - i = d → Ev (fun k => spec_IsName.l0 k s i) (decide (∀ j, i ≤ j → j < s.size → nameC (bt s (j : Int)))) := by
  induction d with
  | zero =>
    intro i hi hd
    apply ev_succ
    simp only [spec_IsName.l0, if_neg (show ¬ (i : Int) < (s.size : Int) by omega)]
    refine ev_const ?_
    congr 1
    symm
    rw [decide_eq_true_iff]
    intro j h1 h2; omega
  | succ d ih =>
    intro i hi hd
    have hlt : i < s.size := by omega
    have hih := ih (i + 1) (by omega) (by omega)
    have step : nameC (bt s (i : Int)) → (decide (∀ j, i ≤ j → j < s.size → nameC (bt s (j : Int)))) = decide (∀ j, i + 1 ≤ j → j < s.size → nameC (bt s (j : Int))) := by
      intro hc
      rw [decide_eq_decide]
      constructor
      · intro h j h1 h2; exact h j (by omega) h2
      · intro h j h1 h2
        by_cases e : j = i
        · subst e; exact hc
        · exact h j (by omega) h2
    apply ev_succ
    simp only [spec_IsName.l0, spec_l01Small.f, spec_l01Digit.f, if_pos (show (i : Int) < (s.size : Int) by omega), if_pos (show (0 : Int) ≤ (i : Int) by omega), w64 (x := (i : Int) + 1) (by omega) (by omega)]
    by_cases h1 : 97 ≤ bt s (i : Int) ∧ bt s (i : Int) ≤ 122
    · simp only [ge_iff_le, if_pos h1.1, Option.bind_some, decide_eq_true h1.2, if_true]
      rw [step (.inl h1)]
      exact hih
    · have e1 : (if bt s (i : Int) ≥ 97 then some (decide (bt s (i : Int) ≤ 122)) else some false) = some false := by
        by_cases h : bt s (i : Int) ≥ 97
        · rw [if_pos h, decide_eq_false (fun h2 => h1 ⟨h, h2⟩)]
        · rw [if_neg h]
      simp only [e1, Option.bind_some, Bool.false_eq_true, if_false]
      by_cases h2 : 48 ≤ bt s (i : Int) ∧ bt s (i : Int) ≤ 57
      · simp only [ge_iff_le, if_pos h2.1, Option.bind_some, decide_eq_true h2.2, if_true]
        rw [step (.inr (.inl h2))]
        exact hih
      · have e2 : (if bt s (i : Int) ≥ 48 then some (decide (bt s (i : Int) ≤ 57)) else some false) = some false := by
          by_cases h : bt s (i : Int) ≥ 48
          · rw [if_pos h, decide_eq_false (fun h3 => h2 ⟨h, h3⟩)]
          · rw [if_neg h]
        simp only [e2, Option.bind_some, Bool.false_eq_true, if_false]
        by_cases h3 : bt s (i : Int) = 45
        · simp only [if_pos h3]
          rw [step (.inr (.inr h3))]
          exact hih
        · simp only [if_neg h3]
          refine ev_const ?_
          congr 1
          symm
          rw [decide_eq_false_iff_not]
          intro h
          rcases h i (by omega) hlt with h | h | h
          · exact h1 h
          · exact h2 h
          · exact h3 h
theorem spec_name (s : ByteArray) : Ev (fun k => spec_IsName.f k s) (decide (IsNm s)) := by
  classical
  have no : ¬ IsNm s → Ev (fun k => spec_IsName.j0 k s true) (decide (IsNm s)) := fun h => by
    refine ev_succ ?_
    simp only [spec_IsName.j0, if_true]
    exact ev_const (by rw [decide_eq_false h])
  unfold spec_IsName.f
  by_cases h0 : s.size = 0
  · simp only [if_pos ((toList_nil s).2 h0)]
    exact no (fun h => by have := h.1; omega)
  · simp only [if_neg (fun h => h0 ((toList_nil s).1 h))]
    by_cases h1 : (s.size : Int) > 12
    · simp only [if_pos h1]
      exact no (fun h => by have := h.2.1; omega)
    · simp only [if_neg h1, if_pos (show (0 : Int) < (s.size : Int) by omega), spec_l01Small.f]
      by_cases h2 : 97 ≤ bt s 0 ∧ bt s 0 ≤ 122
      · simp only [ge_iff_le, if_pos h2.1, Option.bind_some, decide_eq_true h2.2, Bool.not_true]
        refine ev_succ ?_
        simp only [spec_IsName.j0, Bool.false_eq_true, if_false]
        have := snm_l s (by omega) s.size 0 (by omega) (by omega)
        have e : (decide (IsNm s)) = decide (∀ j, 0 ≤ j → j < s.size → nameC (bt s (j : Int))) := by
          rw [decide_eq_decide]
          exact ⟨fun h j _ hj => h.2.2.2 j hj, fun h => ⟨by omega, by omega, h2, fun j hj => h j (by omega) hj⟩⟩
        rw [e]
        exact this
      · have e1 : (if bt s 0 ≥ 97 then some (decide (bt s 0 ≤ 122)) else some false) = some false := by
          by_cases h : bt s 0 ≥ 97
          · rw [if_pos h, decide_eq_false (fun h3 => h2 ⟨h, h3⟩)]
          · rw [if_neg h]
        simp only [e1, Option.bind_some, Bool.not_false]
        exact no (fun h => h2 h.2.2.1)

theorem dw_nil (p : UInt8 → Bool) (l : List UInt8) : l.dropWhile p = [] ↔ ∀ b ∈ l, p b = true := by
  induction l with
  | nil => simp
  | cons a l ih =>
    by_cases h : p a = true
    · simp [List.dropWhile, h, ih]
    · simp [List.dropWhile, h]
theorem dw_head (p : UInt8 → Bool) (l : List UInt8) (x : UInt8) (xs : List UInt8) (h : l.dropWhile p = x :: xs) : p x = false := by
  induction l with
  | nil => simp at h
  | cons a l ih =>
    by_cases h2 : p a = true
    · simp only [List.dropWhile, h2] at h
      exact ih h
    · have h3 : p a = false := by simpa using h2
      simp only [List.dropWhile, h3, List.cons.injEq] at h
      rw [← h.1]; exact h3
theorem trimS_nil (l cs : List UInt8) : Go.Lib.trimS l cs = [] ↔ ∀ b ∈ l, cs.contains b = true := by
  unfold Go.Lib.trimS Go.Lib.trimLeftS Go.Lib.trimRightS
  rw [dw_nil]
  constructor
  · intro h b hb
    cases e : l.reverse.dropWhile (cs.contains ·) with
    | nil =>
      rw [dw_nil] at e
      exact e b (by simpa using hb)
    | cons x xs =>
      exfalso
      have h1 := dw_head _ _ _ _ e
      have h2 := h x (by rw [e]; simp)
      rw [h2] at h1
      cases h1
  · intro h b hb
    exact h b (by simpa using (List.dropWhile_sublist _).subset (List.mem_reverse.1 hb))
theorem name_cut (b : UInt8) : ([97, 98, 99, 100, 101, 102, 103, 104, 105, 106, 107, 108, 109, 110, 111, 112, 113, 114, 115, 116, 117, 118, 119, 120, 121, 122, 48, 49, 50, 51, 52, 53, 54, 55, 56, 57, 45] : List UInt8).contains b = decide (nameC (b.toNat : Int)) := by
  have key : ((List.range 256).all fun n => (([97, 98, 99, 100, 101, 102, 103, 104, 105, 106, 107, 108, 109, 110, 111, 112, 113, 114, 115, 116, 117, 118, 119, 120, 121, 122, 48, 49, 50, 51, 52, 53, 54, 55, 56, 57, 45] : List UInt8).contains (UInt8.ofNat n) == decide (((97 : Int) ≤ (n : Int) ∧ (n : Int) ≤ 122) ∨ ((48 : Int) ≤ (n : Int) ∧ (n : Int) ≤ 57) ∨ (n : Int) = 45))) = true := by decide +kernel
  have h := List.all_eq_true.1 key b.toNat (List.mem_range.2 b.toNat_lt)
  rw [UInt8.ofNat_toNat] at h
  rw [beq_iff_eq] at h
  rw [h]
  rfl
theorem impl_name (s : ByteArray) : impl_IsName.f s = some (decide (IsNm s)) := by
  unfold impl_IsName.f
  by_cases h0 : (s.size : Int) < 1
  · rw [if_pos h0, decide_eq_false (fun h => by have := h.1; omega)]
  · rw [if_neg h0]
    by_cases h1 : (s.size : Int) > 12
    · rw [if_pos h1, decide_eq_false (fun h => by have := h.2.1; omega)]
    · rw [if_neg h1, if_pos (by omega)]
      by_cases h2 : bt s 0 < 97
      · rw [if_pos h2, decide_eq_false (fun h => by have := h.2.2.1.1; omega)]
      · rw [if_neg h2]
        by_cases h3 : bt s 0 > 122
        · rw [if_pos h3, decide_eq_false (fun h => by have := h.2.2.1.2; omega)]
        · rw [if_neg h3]
          unfold strings_Trim.f
          rw [if_pos ⟨by omega, by decide, by decide +kernel⟩]
          simp only [Option.bind_some]
          congr 1
          have e : (decide (IsNm s)) = decide (∀ b ∈ s.data.toList, nameC (b.toNat : Int)) := by
            rw [decide_eq_decide]
            constructor
            · intro h b hb
              obtain ⟨j, hj, rfl⟩ := List.getElem_of_mem hb
              have := h.2.2.2 j (by simpa using hj)
              rw [bt_at s j (by simpa using hj)] at this
              exact this
            · intro h
              refine ⟨by omega, by omega, ⟨by omega, by omega⟩, fun j hj => ?_⟩
              rw [bt_at s j hj]
              exact h _ (List.getElem_mem _)
          rw [e]
          have e2 : ∀ t : List UInt8, (({ data := t.toArray } : ByteArray).toList == ([] : List UInt8)) = decide (t = []) := by
            intro t
            rw [ByteArray.toList_eq]
            cases t <;> simp
          rw [e2, decide_eq_decide, trimS_nil]
          constructor
          · intro h b hb
            have := h b hb
            rw [name_cut] at this
            exact of_decide_eq_true this
          · intro h b hb
            rw [name_cut]
            exact decide_eq_true (h b hb)

theorem in_val (a b c : Int) : spec_l00In.f a b c = some (decide (b ≤ a ∧ a ≤ c)) := by
  unfold spec_l00In.f
  by_cases h : a ≥ b <;> by_cases h2 : a ≤ c <;> simp [h, h2] <;> omega
theorem within_val (a b c : Int) : impl_within.f a b c = some (decide (b ≤ a ∧ a ≤ c)) := in_val a b c

theorem rd_T80_at (l : List S80) (i : Nat) (h : i < l.length) : rd_T80 l (i : Int) = l[i] := by
  unfold rd_T80
  rw [Int.toNat_natCast, List.getD_eq_getElem?_getD, List.getElem?_eq_getElem h]
  rfl
theorem rd_T64_at (l : List S64) (i : Nat) (h : i < l.length) : rd_T64 l (i : Int) = l[i] := by
  unfold rd_T64
  rw [Int.toNat_natCast, List.getD_eq_getElem?_getD, List.getElem?_eq_getElem h]
  rfl
def cvEdition (x : S80) : S64 := ⟨x.f0, x.f1⟩
theorem take_set_Edition (x : List S64) (i : Nat) (v : S64) (h : i < x.length) : (x.set i v).take (i + 1) = x.take i ++ [v] := by
  rw [List.take_succ_eq_append_getElem (by simpa using h), List.getElem_set_self, List.take_set_of_le (Nat.le_refl _)]
theorem toEdition_l (l : List S80) (hl : l.length ≤ 1048576) (hw : ∀ y ∈ l, y.f1.length ≤ 1048576) (d : Nat) : ∀ (x : List S64) (i : Nat), i ≤ l.length → l.length - i = d → x.length = l.length → x.take i = (l.map cvEdition).take i → Ev (fun k => laws_toEditionS.l0 k l x i) (l.map cvEdition) := by
  induction d with
  | zero =>
    intro x i hi hd hx ht
    apply ev_succ
    simp only [laws_toEditionS.l0]
    rw [List.take_of_length_le (by omega), List.take_of_length_le (by simp; omega)] at ht
    simp only [if_neg (show ¬ (i : Int) < (l.length : Int) by omega)]
    rw [ht]
    exact ev_const rfl
  | succ d ih =>
    intro x i hi hd hx ht
    have hlt : i < l.length := by omega
    have h1 : Ev (fun k => laws_toEdition.f k l[i].f0 l[i].f1) (l[i].f0, l[i].f1) := Ev.bind (tos_ev l[i].f1 (hw _ (List.getElem_mem hlt))) (ev_const rfl)
    apply ev_succ
    simp only [laws_toEditionS.l0, if_pos (show (i : Int) < (l.length : Int) by omega), if_pos (show (0 : Int) ≤ (i : Int) by omega), if_pos (show (i : Int) < (x.length : Int) by omega), rd_T80_at _ _ hlt, w64 (x := (i : Int) + 1) (by omega) (by omega), Int.toNat_natCast]
    refine Ev.bind h1 ?_
    exact ih (x.set i (cvEdition l[i])) (i + 1) (by omega) (by omega) (by simpa using hx) (by rw [take_set_Edition _ _ _ (by omega), List.take_succ_eq_append_getElem (by simpa using hlt), ht, List.getElem_map])
theorem toEdition_ev (l : List S80) (hl : l.length ≤ 1048576) (hw : ∀ y ∈ l, y.f1.length ≤ 1048576) : Ev (fun k => laws_toEditionS.f k l) (l.map cvEdition) := by
  refine Ev.congr (fun k => by unfold laws_toEditionS.f; rw [if_pos (by omega), if_pos (by omega)]) ?_
  exact toEdition_l l hl hw l.length _ 0 (by omega) (by omega) (by simp) (by simp)
theorem eqEdition_l (x : List S64) (hl : x.length ≤ 1048576) (hw : ∀ y ∈ x, y.f1.length ≤ 1048576) (d : Nat) : ∀ (i : Nat), i ≤ x.length → x.length - i = d → Ev (fun k => laws_eqEditionS.l0 k x x i) true := by
  induction d with
  | zero =>
    intro i hi hd
    apply ev_succ
    simp only [laws_eqEditionS.l0, if_neg (show ¬ (i : Int) < (x.length : Int) by omega)]
    exact ev_const rfl
  | succ d ih =>
    intro i hi hd
    have hlt : i < x.length := by omega
    have h1 : Ev (fun k => laws_eqEdition.f k x[i].f0 x[i].f1 x[i].f0 x[i].f1) true := by
      unfold laws_eqEdition.f
      simp only [if_true]
      refine Ev.bind (eqs_ev x[i].f1 (hw _ (List.getElem_mem hlt))) ?_
      simp only [if_true]
      exact ev_const rfl
    apply ev_succ
    simp only [laws_eqEditionS.l0, rd_T64_at _ _ hlt, if_pos (show (i : Int) < (x.length : Int) by omega), if_pos (show (0 : Int) ≤ (i : Int) by omega), w64 (x := (i : Int) + 1) (by omega) (by omega)]
    refine Ev.bind h1 ?_
    simp only [if_true]
    exact ih (i + 1) (by omega) (by omega)
theorem eqEdition_ev (x : List S64) (hl : x.length ≤ 1048576) (hw : ∀ y ∈ x, y.f1.length ≤ 1048576) : Ev (fun k => laws_eqEditionS.f k x x) true := by
  unfold laws_eqEditionS.f
  simp only [if_true]
  exact eqEdition_l x hl hw x.length 0 (by omega) (by omega)
theorem shown_l (l : List ByteArray) (hl : l.length ≤ 1048576) (d : Nat) : ∀ (i : Nat), i ≤ l.length → l.length - i = d → ∃ r, Ev (fun k => spec_l14Names.l0 k l i) r ∧ Ev (fun k => impl_areShown.l0 k l l l.length i) r := by
  induction d with
  | zero =>
    intro i hi hd
    refine ⟨decide ((l.length : Int) ≤ 30), ev_succ ?_, ev_succ ?_⟩
    · simp only [spec_l14Names.l0, if_neg (show ¬ (i : Int) < (l.length : Int) by omega)]
      exact ev_const rfl
    · simp only [impl_areShown.l0, if_neg (show ¬ (i : Int) < (l.length : Int) by omega)]
      exact ev_const rfl
  | succ d ih =>
    intro i hi hd
    have hlt : i < l.length := by omega
    obtain ⟨r, h1, h2⟩ := ih (i + 1) (by omega) (by omega)
    have hn := spec_name l[i]
    by_cases c1 : IsNm l[i]
    · by_cases c3 : i = 0
      · refine ⟨r, ev_succ ?_, ev_succ ?_⟩
        · simp only [spec_l14Names.l0, if_pos (show (i : Int) < (l.length : Int) by omega), if_pos (show (0 : Int) ≤ (i : Int) by omega), rdOf_at _ _ _ hlt]
          refine Ev.bind hn ?_
          simp only [decide_eq_true c1, if_true, if_neg (show ¬ (i : Int) > 0 by omega), w64 (x := (i : Int) + 1) (by omega) (by omega)]
          exact h1
        · simp only [impl_areShown.l0, if_pos (show (i : Int) < (l.length : Int) by omega), if_pos (show (0 : Int) ≤ (i : Int) by omega), rdOf_at _ _ _ hlt, impl_name, Option.bind_some, decide_eq_true c1, if_true, if_neg (show ¬ (i : Int) > 0 by omega), w64 (x := (i : Int) + 1) (by omega) (by omega)]
          exact h2
      · by_cases c4 : Op.bytesLess ((rdOf ByteArray.empty l ((i : Int) - 1)).toList) ((l[i]).toList) = true
        · refine ⟨r, ev_succ ?_, ev_succ ?_⟩
          · simp only [spec_l14Names.l0, if_pos (show (i : Int) < (l.length : Int) by omega), if_pos (show (0 : Int) ≤ (i : Int) by omega), rdOf_at _ _ _ hlt]
            refine Ev.bind hn ?_
            simp only [decide_eq_true c1, if_true, if_pos (show (i : Int) > 0 by omega), w64 (x := (i : Int) - 1) (by omega) (by omega), if_pos (show (0 : Int) ≤ (i : Int) - 1 by omega), if_pos (show (i : Int) - 1 < (l.length : Int) by omega), c4, w64 (x := (i : Int) + 1) (by omega) (by omega)]
            exact h1
          · simp only [impl_areShown.l0, if_pos (show (i : Int) < (l.length : Int) by omega), if_pos (show (0 : Int) ≤ (i : Int) by omega), rdOf_at _ _ _ hlt, impl_name, Option.bind_some, decide_eq_true c1, if_true, if_pos (show (i : Int) > 0 by omega), w64 (x := (i : Int) - 1) (by omega) (by omega), if_pos (show (0 : Int) ≤ (i : Int) - 1 by omega), if_pos (show (i : Int) - 1 < (l.length : Int) by omega), c4, w64 (x := (i : Int) + 1) (by omega) (by omega)]
            exact h2
        · refine ⟨false, ev_succ ?_, ev_succ ?_⟩
          · simp only [spec_l14Names.l0, if_pos (show (i : Int) < (l.length : Int) by omega), if_pos (show (0 : Int) ≤ (i : Int) by omega), rdOf_at _ _ _ hlt]
            refine Ev.bind hn ?_
            simp only [decide_eq_true c1, if_true, if_pos (show (i : Int) > 0 by omega), w64 (x := (i : Int) - 1) (by omega) (by omega), if_pos (show (0 : Int) ≤ (i : Int) - 1 by omega), if_pos (show (i : Int) - 1 < (l.length : Int) by omega), if_neg c4]
            exact ev_const rfl
          · simp only [impl_areShown.l0, if_pos (show (i : Int) < (l.length : Int) by omega), if_pos (show (0 : Int) ≤ (i : Int) by omega), rdOf_at _ _ _ hlt, impl_name, Option.bind_some, decide_eq_true c1, if_true, if_pos (show (i : Int) > 0 by omega), w64 (x := (i : Int) - 1) (by omega) (by omega), if_pos (show (0 : Int) ≤ (i : Int) - 1 by omega), if_pos (show (i : Int) - 1 < (l.length : Int) by omega), if_neg c4]
            exact ev_const rfl
    · refine ⟨false, ev_succ ?_, ev_succ ?_⟩
      · simp only [spec_l14Names.l0, if_pos (show (i : Int) < (l.length : Int) by omega), if_pos (show (0 : Int) ≤ (i : Int) by omega), rdOf_at _ _ _ hlt]
        refine Ev.bind hn ?_
        simp only [decide_eq_false c1, Bool.false_eq_true, if_false]
        exact ev_const rfl
      · simp only [impl_areShown.l0, if_pos (show (i : Int) < (l.length : Int) by omega), if_pos (show (0 : Int) ≤ (i : Int) by omega), rdOf_at _ _ _ hlt, impl_name, Option.bind_some, decide_eq_false c1, Bool.false_eq_true, if_false]
        exact ev_const rfl
theorem shown_same (l : List ByteArray) (hl : l.length ≤ 1048576) : ∃ r, Ev (fun k => spec_l14Names.f k l) r ∧ Ev (fun k => impl_areShown.f k l) r := shown_l l hl l.length 0 (by omega) (by omega)
theorem syear (a : Int) : spec_l14Year.f a = some (decide (1 ≤ a ∧ a ≤ 3000)) := by unfold spec_l14Year.f; rw [in_val]; rfl
theorem iyear (a : Int) : impl_isYear.f a = some (decide (1 ≤ a ∧ a ≤ 3000)) := by unfold impl_isYear.f; rw [within_val]; rfl
theorem editions_l (l : List S64) (hl : l.length ≤ 1048576) (hw : ∀ y ∈ l, y.f1.length ≤ 1048576) (d : Nat) : ∀ (i : Nat), i ≤ l.length → l.length - i = d → ∃ r, Ev (fun k => spec_l14Ok.l0 k l i) r ∧ Ev (fun k => impl_ValidEditions.l0 k l l l.length i) r := by
  induction d with
  | zero =>
    intro i hi hd
    refine ⟨decide ((l.length : Int) ≤ 20), ev_succ ?_, ev_succ ?_⟩
    · simp only [spec_l14Ok.l0, if_neg (show ¬ (i : Int) < (l.length : Int) by omega)]
      exact ev_const rfl
    · simp only [impl_ValidEditions.l0, if_neg (show ¬ (i : Int) < (l.length : Int) by omega)]
      exact ev_const rfl
  | succ d ih =>
    intro i hi hd
    have hlt : i < l.length := by omega
    obtain ⟨r, h1, h2⟩ := ih (i + 1) (by omega) (by omega)
    obtain ⟨n, n1, n2⟩ := shown_same l[i].f1 (hw _ (List.getElem_mem hlt))
    by_cases cy : 1 ≤ l[i].f0 ∧ l[i].f0 ≤ 3000
    · have hs : ∀ v, Ev (fun k => if n = true then (if (i : Int) > 0 then (if (rd_T64 l ((i : Int) - 1)).f0 ≥ l[i].f0 then (some false) else (spec_l14Ok.l0 k l ((i + 1 : Nat) : Int))) else (spec_l14Ok.l0 k l ((i + 1 : Nat) : Int))) else (some false)) v → Ev (fun k => spec_l14Ok.l0 k l i) v := by
        intro v hv
        refine ev_succ ?_
        simp only [spec_l14Ok.l0, if_pos (show (i : Int) < (l.length : Int) by omega), if_pos (show (0 : Int) ≤ (i : Int) by omega), rd_T64_at _ _ hlt, syear, Option.bind_some, decide_eq_true cy, if_true]
        refine Ev.bind n1 ?_
        by_cases c3 : (i : Int) > 0
        · simp only [if_pos c3, w64 (x := (i : Int) - 1) (by omega) (by omega), if_pos (show (0 : Int) ≤ (i : Int) - 1 by omega), if_pos (show (i : Int) - 1 < (l.length : Int) by omega), w64 (x := (i : Int) + 1) (by omega) (by omega)] at hv ⊢
          exact hv
        · simp only [if_neg c3, w64 (x := (i : Int) + 1) (by omega) (by omega)] at hv ⊢
          exact hv
      have hi2 : ∀ v, Ev (fun k => if n = true then (if (i : Int) > 0 then (if (rd_T64 l ((i : Int) - 1)).f0 ≥ l[i].f0 then (some false) else (impl_ValidEditions.l0 k l l l.length ((i + 1 : Nat) : Int))) else (impl_ValidEditions.l0 k l l l.length ((i + 1 : Nat) : Int))) else (some false)) v → Ev (fun k => impl_ValidEditions.l0 k l l l.length i) v := by
        intro v hv
        refine ev_succ ?_
        simp only [impl_ValidEditions.l0, if_pos (show (i : Int) < (l.length : Int) by omega), if_pos (show (0 : Int) ≤ (i : Int) by omega), rd_T64_at _ _ hlt, iyear, Option.bind_some, decide_eq_true cy, if_true]
        refine Ev.bind n2 ?_
        by_cases c3 : (i : Int) > 0
        · simp only [if_pos c3, w64 (x := (i : Int) - 1) (by omega) (by omega), if_pos (show (0 : Int) ≤ (i : Int) - 1 by omega), if_pos (show (i : Int) - 1 < (l.length : Int) by omega), w64 (x := (i : Int) + 1) (by omega) (by omega)] at hv ⊢
          exact hv
        · simp only [if_neg c3, w64 (x := (i : Int) + 1) (by omega) (by omega)] at hv ⊢
          exact hv
      cases n with
      | false => exact ⟨false, hs _ (by simp only [Bool.false_eq_true, if_false]; exact ev_const rfl), hi2 _ (by simp only [Bool.false_eq_true, if_false]; exact ev_const rfl)⟩
      | true =>
        by_cases c3 : (i : Int) > 0
        · by_cases c4 : (rd_T64 l ((i : Int) - 1)).f0 ≥ l[i].f0
          · exact ⟨false, hs _ (by simp only [if_true, if_pos c3, if_pos c4]; exact ev_const rfl), hi2 _ (by simp only [if_true, if_pos c3, if_pos c4]; exact ev_const rfl)⟩
          · exact ⟨r, hs _ (by simp only [if_true, if_pos c3, if_neg c4]; exact h1), hi2 _ (by simp only [if_true, if_pos c3, if_neg c4]; exact h2)⟩
        · exact ⟨r, hs _ (by simp only [if_true, if_neg c3]; exact h1), hi2 _ (by simp only [if_true, if_neg c3]; exact h2)⟩
    · refine ⟨false, ev_succ ?_, ev_succ ?_⟩
      · simp only [spec_l14Ok.l0, if_pos (show (i : Int) < (l.length : Int) by omega), if_pos (show (0 : Int) ≤ (i : Int) by omega), rd_T64_at _ _ hlt, syear, Option.bind_some, decide_eq_false cy, Bool.false_eq_true, if_false]
        exact ev_const rfl
      · simp only [impl_ValidEditions.l0, if_pos (show (i : Int) < (l.length : Int) by omega), if_pos (show (0 : Int) ≤ (i : Int) by omega), rd_T64_at _ _ hlt, iyear, Option.bind_some, decide_eq_false cy, Bool.false_eq_true, if_false]
        exact ev_const rfl
theorem editions_same (l : List S64) (hl : l.length ≤ 1048576) (hw : ∀ y ∈ l, y.f1.length ≤ 1048576) : ∃ r, Ev (fun k => spec_l14Ok.f k l) r ∧ Ev (fun k => impl_ValidEditions.f k l) r := editions_l l hl hw l.length 0 (by omega) (by omega)

/-- Whether a list of texts has one. -/
def hasB (l : List ByteArray) (a : ByteArray) : Bool := l.any (fun x => decide (x.toList = a.toList))
theorem hass_l (l : List ByteArray) (hl : l.length ≤ 1048576) (a : ByteArray) (d : Nat) : ∀ (i : Nat), i ≤ l.length → l.length - i = d → Ev (fun k => spec_l14Has.l0 k l a i) (hasB (l.drop i) a) := by
  induction d with
  | zero =>
    intro i hi hd
    rw [List.drop_eq_nil_of_le (by omega)]
    apply ev_succ
    simp only [spec_l14Has.l0, if_neg (show ¬ (i : Int) < (l.length : Int) by omega)]
    exact ev_const rfl
  | succ d ih =>
    intro i hi hd
    have hlt : i < l.length := by omega
    have h1 := ih (i + 1) (by omega) (by omega)
    have hd : hasB (l.drop i) a = (decide (l[i].toList = a.toList) || hasB (l.drop (i + 1)) a) := by
      unfold hasB
      rw [List.drop_eq_getElem_cons hlt, List.any_cons]
    rw [hd]
    apply ev_succ
    by_cases c : l[i].toList = a.toList
    · rw [decide_eq_true c, Bool.true_or]
      simp only [spec_l14Has.l0, if_pos (show (i : Int) < (l.length : Int) by omega), if_pos (show (0 : Int) ≤ (i : Int) by omega), rdOf_at _ _ _ hlt, if_pos c]
      exact ev_const rfl
    · rw [decide_eq_false c, Bool.false_or]
      simp only [spec_l14Has.l0, if_pos (show (i : Int) < (l.length : Int) by omega), if_pos (show (0 : Int) ≤ (i : Int) by omega), rdOf_at _ _ _ hlt, if_neg c, w64 (x := (i : Int) + 1) (by omega) (by omega)]
      exact h1
theorem has_spec (l : List ByteArray) (hl : l.length ≤ 1048576) (a : ByteArray) : Ev (fun k => spec_l14Has.f k l a) (hasB l a) := hass_l l hl a l.length 0 (by omega) (by omega)

/-- The code of editions and one of them. -/
theorem one_same (l : List S64) (hl : l.length ≤ 1048576) (hw : ∀ y ∈ l, y.f1.length ≤ 1048576) (a : Int) :
    ∃ c, Ev (fun k => spec_l14One.f k l a) c ∧ Ev (fun k => impl_editionCode.f k l a) c ∧ (c = 0 → 0 ≤ a ∧ a < (l.length : Int) ∧ Ev (fun k => impl_ValidEditions.f k l) true) := by
  obtain ⟨v, h1, h2⟩ := editions_same l hl hw
  have hwr := w64 (x := (l.length : Int) - 1) (by omega) (by omega)
  cases v with
  | false =>
    refine ⟨1, ?_, ?_, fun h => by omega⟩
    · unfold spec_l14One.f
      refine Ev.bind h1 ?_
      simp only [Bool.false_eq_true, if_false]
      exact ev_const rfl
    · unfold impl_editionCode.f
      refine Ev.bind h2 ?_
      simp only [hwr, within_val, Option.bind_some, impl_check.f, Bool.false_eq_true, if_false]
      exact ev_const rfl
  | true =>
    by_cases c : 0 ≤ a ∧ a ≤ (l.length : Int) - 1
    · refine ⟨0, ?_, ?_, fun _ => ⟨by omega, by omega, h2⟩⟩
      · unfold spec_l14One.f
        refine Ev.bind h1 ?_
        simp only [hwr, in_val, Option.bind_some, decide_eq_true c, if_true]
        exact ev_const rfl
      · unfold impl_editionCode.f
        refine Ev.bind h2 ?_
        simp only [hwr, within_val, Option.bind_some, impl_check.f, decide_eq_true c, if_true]
        exact ev_const rfl
    · refine ⟨2, ?_, ?_, fun h => by omega⟩
      · unfold spec_l14One.f
        refine Ev.bind h1 ?_
        simp only [hwr, in_val, Option.bind_some, decide_eq_false c, if_true, Bool.false_eq_true, if_false]
        exact ev_const rfl
      · unfold impl_editionCode.f
        refine Ev.bind h2 ?_
        simp only [hwr, within_val, Option.bind_some, impl_check.f, decide_eq_false c, if_true, Bool.false_eq_true, if_false]
        exact ev_const rfl

theorem rd_T89_at (l : List S89) (i : Nat) (h : i < l.length) : rd_T89 l (i : Int) = l[i] := by
  unfold rd_T89
  rw [Int.toNat_natCast, List.getD_eq_getElem?_getD, List.getElem?_eq_getElem h]
  rfl

theorem rd_T90_at (l : List S90) (i : Nat) (h : i < l.length) : rd_T90 l (i : Int) = l[i] := by
  unfold rd_T90
  rw [Int.toNat_natCast, List.getD_eq_getElem?_getD, List.getElem?_eq_getElem h]
  rfl

def cvKnown (x : S89) : S90 := ⟨x.f0, x.f1, x.f2⟩
theorem take_set_Known (x : List S90) (i : Nat) (v : S90) (h : i < x.length) : (x.set i v).take (i + 1) = x.take i ++ [v] := by
  rw [List.take_succ_eq_append_getElem (by simpa using h), List.getElem_set_self, List.take_set_of_le (Nat.le_refl _)]
theorem toKnown_l (l : List S89) (hl : l.length ≤ 1048576) (d : Nat) : ∀ (x : List S90) (i : Nat), i ≤ l.length → l.length - i = d → x.length = l.length → x.take i = (l.map cvKnown).take i → Ev (fun k => laws_toKnownS.l0 k l x i) (l.map cvKnown) := by
  induction d with
  | zero =>
    intro x i hi hd hx ht
    apply ev_succ
    simp only [laws_toKnownS.l0]
    rw [List.take_of_length_le (by omega), List.take_of_length_le (by simp; omega)] at ht
    simp only [if_neg (show ¬ (i : Int) < (l.length : Int) by omega)]
    rw [ht]
    exact ev_const rfl
  | succ d ih =>
    intro x i hi hd hx ht
    have hlt : i < l.length := by omega
    apply ev_succ
    simp only [laws_toKnownS.l0, laws_toKnown.f, Option.bind_some, if_pos (show (i : Int) < (l.length : Int) by omega), if_pos (show (0 : Int) ≤ (i : Int) by omega), if_pos (show (i : Int) < (x.length : Int) by omega), rd_T89_at _ _ hlt, w64 (x := (i : Int) + 1) (by omega) (by omega), Int.toNat_natCast]
    exact ih (x.set i (cvKnown l[i])) (i + 1) (by omega) (by omega) (by simpa using hx) (by rw [take_set_Known _ _ _ (by omega), List.take_succ_eq_append_getElem (by simpa using hlt), ht, List.getElem_map])
theorem toKnown_ev (l : List S89) (hl : l.length ≤ 1048576) : Ev (fun k => laws_toKnownS.f k l) (l.map cvKnown) := by
  refine Ev.congr (fun k => by unfold laws_toKnownS.f; rw [if_pos (by omega), if_pos (by omega)]) ?_
  exact toKnown_l l hl l.length _ 0 (by omega) (by omega) (by simp) (by simp)

theorem eqKnown_l (x : List S90) (hl : x.length ≤ 1048576) (d : Nat) : ∀ (i : Nat), i ≤ x.length → x.length - i = d → Ev (fun k => laws_eqKnownS.l0 k x x i) true := by
  induction d with
  | zero =>
    intro i hi hd
    apply ev_succ
    simp only [laws_eqKnownS.l0, if_neg (show ¬ (i : Int) < (x.length : Int) by omega)]
    exact ev_const rfl
  | succ d ih =>
    intro i hi hd
    apply ev_succ
    simp only [laws_eqKnownS.l0, laws_eqKnown.f, if_true, Option.bind_some, if_pos (show (i : Int) < (x.length : Int) by omega), if_pos (show (0 : Int) ≤ (i : Int) by omega), w64 (x := (i : Int) + 1) (by omega) (by omega)]
    exact ih (i + 1) (by omega) (by omega)
theorem eqKnown_ev (x : List S90) (hl : x.length ≤ 1048576) : Ev (fun k => laws_eqKnownS.f k x x) true := by
  unfold laws_eqKnownS.f
  simp only [if_true]
  exact eqKnown_l x hl x.length 0 (by omega) (by omega)

theorem szKnown1 (x : S89) (hx : x.f0.size ≤ maxLen) {a : Int} (h0 : 0 ≤ a) (h1 : a ≤ 1048576) : laws_szKnown.f x.f0 x.f1 x.f2 a = some (-1) ∨ ∃ b, laws_szKnown.f x.f0 x.f1 x.f2 a = some b ∧ 0 ≤ b ∧ b ≤ a := by
  unfold maxLen at hx
  unfold laws_szKnown.f
  rw [w64 (x := a - (x.f0.size : Int)) (by omega) (by omega)]
  by_cases c0 : a - (x.f0.size : Int) < 0
  · left; rw [if_pos c0]
  · rw [if_neg c0]
    exact .inr ⟨_, rfl, by omega, by omega⟩
theorem szKnown_l (l : List S89) (hl : l.length ≤ maxLen) (hw : ∀ y ∈ l, y.f0.size ≤ maxLen) (d : Nat) : ∀ (a : Int) (i : Nat), i ≤ l.length → l.length - i = d → 0 ≤ a → a ≤ 1048576 →
    Ev (fun k => laws_szKnownS.l0 k l a i) (-1) ∨ ∃ b, Ev (fun k => laws_szKnownS.l0 k l a i) b ∧ 0 ≤ b ∧ b ≤ a := by
  unfold maxLen at hl
  induction d with
  | zero =>
    intro a i hi hd h0 h1
    refine .inr ⟨a, ev_succ ?_, h0, Int.le_refl _⟩
    simp only [laws_szKnownS.l0, if_neg (show ¬ (i : Int) < (l.length : Int) by omega)]
    exact ev_const rfl
  | succ d ih =>
    intro a i hi hd h0 h1
    have hlt : i < l.length := by omega
    rcases szKnown1 l[i] (hw _ (List.getElem_mem hlt)) h0 h1 with e | ⟨b, e, b0, b1⟩
    · refine .inl (ev_succ ?_)
      simp only [laws_szKnownS.l0, if_pos (show (i : Int) < (l.length : Int) by omega), if_pos (show (0 : Int) ≤ (i : Int) by omega), rd_T89_at _ _ hlt, e, Option.bind_some, if_pos (show (-1 : Int) < 0 by omega)]
      exact ev_const rfl
    · rcases ih b (i + 1) (by omega) (by omega) b0 (by omega) with e2 | ⟨c, e2, c0, c1⟩
      · refine .inl (ev_succ ?_)
        simp only [laws_szKnownS.l0, if_pos (show (i : Int) < (l.length : Int) by omega), if_pos (show (0 : Int) ≤ (i : Int) by omega), rd_T89_at _ _ hlt, e, Option.bind_some, if_neg (show ¬ b < 0 by omega), w64 (x := (i : Int) + 1) (by omega) (by omega)]
        exact e2
      · refine .inr ⟨c, ev_succ ?_, c0, by omega⟩
        simp only [laws_szKnownS.l0, if_pos (show (i : Int) < (l.length : Int) by omega), if_pos (show (0 : Int) ≤ (i : Int) by omega), rd_T89_at _ _ hlt, e, Option.bind_some, if_neg (show ¬ b < 0 by omega), w64 (x := (i : Int) + 1) (by omega) (by omega)]
        exact e2
/-- The count of a list: none is left (the law then says nothing), or the list is short. -/
theorem szKnown_ev (l : List S89) (hl : l.length ≤ maxLen) (hw : ∀ y ∈ l, y.f0.size ≤ maxLen) {a : Int} (h0 : 0 ≤ a) (h1 : a ≤ 1048576) :
    Ev (fun k => laws_szKnownS.f k l a) (-1) ∨ ∃ b, Ev (fun k => laws_szKnownS.f k l a) b ∧ 0 ≤ b ∧ b ≤ a - l.length := by
  have hm := hl
  unfold maxLen at hm
  by_cases h : a - (l.length : Int) < 0
  · refine .inl (Ev.congr (fun k => by unfold laws_szKnownS.f; rw [w64 (x := a - (l.length : Int)) (by omega) (by omega), if_pos h]) (Ev.now (-1)))
  · rcases szKnown_l l hl hw l.length (a - l.length) 0 (by omega) (by omega) (by omega) (by omega) with e | ⟨b, e, b0, b1⟩
    · exact .inl (Ev.congr (fun k => by unfold laws_szKnownS.f; rw [w64 (x := a - (l.length : Int)) (by omega) (by omega), if_neg h]; rfl) e)
    · exact .inr ⟨b, Ev.congr (fun k => by unfold laws_szKnownS.f; rw [w64 (x := a - (l.length : Int)) (by omega) (by omega), if_neg h]; rfl) e, b0, b1⟩

theorem known_l (l : List S90) (hl : l.length ≤ 1048576) (d : Nat) : ∀ (i : Nat), i ≤ l.length → l.length - i = d → ∃ r, Ev (fun k => spec_l14Known.l0 k l i) r ∧ Ev (fun k => impl_ValidKnown.l0 k l l l.length i) r := by
  induction d with
  | zero =>
    intro i hi hd
    refine ⟨decide ((l.length : Int) ≤ 30), ev_succ ?_, ev_succ ?_⟩
    · simp only [spec_l14Known.l0, if_neg (show ¬ (i : Int) < (l.length : Int) by omega)]
      exact ev_const rfl
    · simp only [impl_ValidKnown.l0, if_neg (show ¬ (i : Int) < (l.length : Int) by omega)]
      exact ev_const rfl
  | succ d ih =>
    intro i hi hd
    have hlt : i < l.length := by omega
    obtain ⟨r, h1, h2⟩ := ih (i + 1) (by omega) (by omega)
    have hn := spec_name l[i].f0
    have hs : ∀ v, Ev (fun k => (if decide (IsNm l[i].f0) = true then ((spec_l14Year.f l[i].f1).bind fun t111 => (if t111 = true then ((spec_l00In.f l[i].f2 l[i].f1 3000).bind fun t112 => (if t112 = true then (if (i : Int) > 0 then (if 0 ≤ (wrap64 ((i : Int) - 1)) then (if (wrap64 ((i : Int) - 1)) < (l.length : Int) then (if ((Op.bytesLess (((rd_T90 l (wrap64 ((i : Int) - 1))).f0).toList) ((l[i].f0).toList)) = true) then (spec_l14Known.l0 k l (wrap64 ((i : Int) + 1))) else (some false)) else (none)) else (none)) else (spec_l14Known.l0 k l (wrap64 ((i : Int) + 1)))) else (some false))) else (some false))) else (some false))) v → Ev (fun k => spec_l14Known.l0 k l i) v := by
      intro v hv
      refine ev_succ ?_
      simp only [spec_l14Known.l0, if_pos (show (i : Int) < (l.length : Int) by omega), if_pos (show (0 : Int) ≤ (i : Int) by omega), rd_T90_at _ _ hlt]
      exact Ev.bind hn hv
    have hii : ∀ v, Ev (fun k => (if decide (IsNm l[i].f0) = true then ((impl_within.f l[i].f1 1 l[i].f2).bind fun t131 => (if t131 = true then (if l[i].f2 > 3000 then (some false) else (if (i : Int) > 0 then (if 0 ≤ (wrap64 ((i : Int) - 1)) then (if (wrap64 ((i : Int) - 1)) < (l.length : Int) then (if ((Op.bytesLess (((rd_T90 l (wrap64 ((i : Int) - 1))).f0).toList) ((l[i].f0).toList)) = true) then (impl_ValidKnown.l0 k l l l.length (wrap64 ((i : Int) + 1))) else (some false)) else (none)) else (none)) else (impl_ValidKnown.l0 k l l l.length (wrap64 ((i : Int) + 1))))) else (some false))) else (some false))) v → Ev (fun k => impl_ValidKnown.l0 k l l l.length i) v := by
      intro v hv
      refine ev_succ ?_
      simp only [impl_ValidKnown.l0, if_pos (show (i : Int) < (l.length : Int) by omega), if_pos (show (0 : Int) ≤ (i : Int) by omega), rd_T90_at _ _ hlt, impl_name, Option.bind_some]
      exact hv
    by_cases c1 : IsNm l[i].f0
    · by_cases c2 : (1 ≤ l[i].f1 ∧ l[i].f1 ≤ 3000) ∧ (l[i].f1 ≤ l[i].f2 ∧ l[i].f2 ≤ 3000)
      · have cs : spec_l14Year.f l[i].f1 = some true := by unfold spec_l14Year.f; rw [in_val, decide_eq_true c2.1]; rfl
        have ci : impl_within.f l[i].f1 1 l[i].f2 = some true := by rw [within_val, decide_eq_true ⟨c2.1.1, c2.2.1⟩]
        have ct : spec_l00In.f l[i].f2 l[i].f1 3000 = some true := by rw [in_val, decide_eq_true c2.2]
        by_cases c3 : i = 0
        · refine ⟨r, hs r ?_, hii r ?_⟩
          · simp only [decide_eq_true c1, if_true, cs, ct, Option.bind_some, if_neg (show ¬ (i : Int) > 0 by omega), w64 (x := (i : Int) + 1) (by omega) (by omega)]
            exact h1
          · simp only [decide_eq_true c1, if_true, ci, Option.bind_some, if_neg (show ¬ l[i].f2 > 3000 by omega), if_neg (show ¬ (i : Int) > 0 by omega), w64 (x := (i : Int) + 1) (by omega) (by omega)]
            exact h2
        · by_cases c4 : Op.bytesLess (((rd_T90 l ((i : Int) - 1)).f0).toList) ((l[i].f0).toList) = true
          · refine ⟨r, hs r ?_, hii r ?_⟩
            · simp only [decide_eq_true c1, if_true, cs, ct, Option.bind_some, if_pos (show (i : Int) > 0 by omega), w64 (x := (i : Int) - 1) (by omega) (by omega), if_pos (show (0 : Int) ≤ (i : Int) - 1 by omega), if_pos (show (i : Int) - 1 < (l.length : Int) by omega), c4, w64 (x := (i : Int) + 1) (by omega) (by omega)]
              exact h1
            · simp only [decide_eq_true c1, if_true, ci, Option.bind_some, if_neg (show ¬ l[i].f2 > 3000 by omega), if_pos (show (i : Int) > 0 by omega), w64 (x := (i : Int) - 1) (by omega) (by omega), if_pos (show (0 : Int) ≤ (i : Int) - 1 by omega), if_pos (show (i : Int) - 1 < (l.length : Int) by omega), c4, w64 (x := (i : Int) + 1) (by omega) (by omega)]
              exact h2
          · refine ⟨false, hs _ ?_, hii _ ?_⟩
            · simp only [decide_eq_true c1, if_true, cs, ct, Option.bind_some, if_pos (show (i : Int) > 0 by omega), w64 (x := (i : Int) - 1) (by omega) (by omega), if_pos (show (0 : Int) ≤ (i : Int) - 1 by omega), if_pos (show (i : Int) - 1 < (l.length : Int) by omega), if_neg c4]
              exact ev_const rfl
            · simp only [decide_eq_true c1, if_true, ci, Option.bind_some, if_neg (show ¬ l[i].f2 > 3000 by omega), if_pos (show (i : Int) > 0 by omega), w64 (x := (i : Int) - 1) (by omega) (by omega), if_pos (show (0 : Int) ≤ (i : Int) - 1 by omega), if_pos (show (i : Int) - 1 < (l.length : Int) by omega), if_neg c4]
              exact ev_const rfl
      · refine ⟨false, hs _ ?_, hii _ ?_⟩
        · simp only [decide_eq_true c1, if_true]
          by_cases a1 : 1 ≤ l[i].f1 ∧ l[i].f1 ≤ 3000
          · have cs : spec_l14Year.f l[i].f1 = some true := by unfold spec_l14Year.f; rw [in_val, decide_eq_true a1]; rfl
            have ct : spec_l00In.f l[i].f2 l[i].f1 3000 = some false := by rw [in_val, decide_eq_false (fun h => c2 ⟨a1, h⟩)]
            simp only [cs, ct, Option.bind_some, if_true, Bool.false_eq_true, if_false]
            exact ev_const rfl
          · have cs : spec_l14Year.f l[i].f1 = some false := by unfold spec_l14Year.f; rw [in_val, decide_eq_false a1]; rfl
            simp only [cs, Option.bind_some, Bool.false_eq_true, if_false]
            exact ev_const rfl
        · simp only [decide_eq_true c1, if_true]
          by_cases a1 : 1 ≤ l[i].f1 ∧ l[i].f1 ≤ l[i].f2
          · have ci : impl_within.f l[i].f1 1 l[i].f2 = some true := by rw [within_val, decide_eq_true a1]
            simp only [ci, Option.bind_some, if_true, if_pos (show l[i].f2 > 3000 by omega)]
            exact ev_const rfl
          · have ci : impl_within.f l[i].f1 1 l[i].f2 = some false := by rw [within_val, decide_eq_false a1]
            simp only [ci, Option.bind_some, Bool.false_eq_true, if_false]
            exact ev_const rfl
    · refine ⟨false, hs _ ?_, hii _ ?_⟩
      · simp only [decide_eq_false c1, Bool.false_eq_true, if_false]
        exact ev_const rfl
      · simp only [decide_eq_false c1, Bool.false_eq_true, if_false]
        exact ev_const rfl
theorem known_same (l : List S90) (hl : l.length ≤ 1048576) : ∃ r, Ev (fun k => spec_l14Known.f k l) r ∧ Ev (fun k => impl_ValidKnown.f k l) r :=
  known_l l hl l.length 0 (by omega) (by omega)

theorem bl_irr : ∀ x : List UInt8, Op.bytesLess x x = false
  | [] => rfl
  | a :: x => by simp [Op.bytesLess, bl_irr x]
theorem bl_trans : ∀ x y z : List UInt8, Op.bytesLess x y = true → Op.bytesLess y z = true → Op.bytesLess x z = true
  | _, [], _, h, _ => by simp [Op.bytesLess] at h
  | _, _ :: _, [], _, h => by simp [Op.bytesLess] at h
  | [], b :: y, c :: z, _, _ => by simp [Op.bytesLess]
  | a :: x, b :: y, c :: z, h1, h2 => by
    simp only [Op.bytesLess, Bool.or_eq_true, decide_eq_true_eq, Bool.and_eq_true, beq_iff_eq] at h1 h2 ⊢
    rcases h1 with h1 | ⟨rfl, h1⟩
    · rcases h2 with h2 | ⟨rfl, h2⟩
      · exact .inl (UInt8.lt_trans h1 h2)
      · exact .inl h1
    · rcases h2 with h2 | ⟨rfl, h2⟩
      · exact .inl h2
      · exact .inr ⟨rfl, bl_trans x y z h1 h2⟩
/-- A list that ascends from neighbour to neighbour has different texts everywhere. -/
theorem chain_ne {α : Type} (g : α → List UInt8) (l : List α) (h : ∀ (j : Nat) (hj : j < l.length), 0 < j → Op.bytesLess (g (l[j - 1]'(by omega))) (g l[j]) = true) : l.Pairwise (fun x y => g x ≠ g y) := by
  have key : ∀ (d i : Nat) (h2 : i + (d + 1) < l.length), Op.bytesLess (g (l[i]'(by omega))) (g l[i + (d + 1)]) = true := by
    intro d
    induction d with
    | zero =>
      intro i h2
      have := h (i + 1) h2 (by omega)
      simpa using this
    | succ d ih =>
      intro i h2
      have h3 := h (i + (d + 1 + 1)) h2 (by omega)
      simp only [show i + (d + 1 + 1) - 1 = i + (d + 1) by omega] at h3
      exact bl_trans _ _ _ (ih i (by omega)) h3
  rw [List.pairwise_iff_getElem]
  intro i j hi hj hij e
  have h1 := key (j - i - 1) i (by omega)
  simp only [show i + (j - i - 1 + 1) = j by omega] at h1
  rw [e, bl_irr] at h1
  cases h1
/-- Names that are shown ascend. -/
theorem shown_chain (l : List ByteArray) (hl : l.length ≤ 1048576) (d : Nat) : ∀ (i : Nat), i ≤ l.length → l.length - i = d → Ev (fun k => impl_areShown.l0 k l l l.length i) true →
    ∀ (j : Nat) (hj : j < l.length), i ≤ j → 0 < j → Op.bytesLess (l[j - 1]'(by omega)).toList (l[j]).toList = true := by
  induction d with
  | zero =>
    intro i hi hd _ j hj hij _
    omega
  | succ d ih =>
    intro i hi hd hE j hj hij hj0
    have hlt : i < l.length := by omega
    obtain ⟨K, hK⟩ := hE
    have hu : ∀ k, K ≤ k → impl_areShown.l0 (k + 1) l l l.length i = some true := fun k hk => hK (k + 1) (by omega)
    simp only [impl_areShown.l0, if_pos (show (i : Int) < (l.length : Int) by omega), if_pos (show (0 : Int) ≤ (i : Int) by omega), rdOf_at _ _ _ hlt, impl_name, Option.bind_some] at hu
    by_cases c1 : IsNm l[i]
    · simp only [decide_eq_true c1, if_true] at hu
      by_cases c3 : i = 0
      · simp only [if_neg (show ¬ (i : Int) > 0 by omega), w64 (x := (i : Int) + 1) (by omega) (by omega)] at hu
        exact ih (i + 1) (by omega) (by omega) ⟨K, hu⟩ j hj (by omega) hj0
      · have hm : i - 1 < l.length := by omega
        have hrd : rdOf ByteArray.empty l ((i : Int) - 1) = l[i - 1] := by rw [show (i : Int) - 1 = ((i - 1 : Nat) : Int) by omega]; exact rdOf_at _ _ _ hm
        simp only [if_pos (show (i : Int) > 0 by omega), w64 (x := (i : Int) - 1) (by omega) (by omega), if_pos (show (0 : Int) ≤ (i : Int) - 1 by omega), if_pos (show (i : Int) - 1 < (l.length : Int) by omega), hrd] at hu
        by_cases c4 : Op.bytesLess (l[i - 1]).toList (l[i]).toList = true
        · simp only [c4, if_true, w64 (x := (i : Int) + 1) (by omega) (by omega)] at hu
          by_cases e : j = i
          · subst e; exact c4
          · exact ih (i + 1) (by omega) (by omega) ⟨K, hu⟩ j hj (by omega) hj0
        · have := hu K (Nat.le_refl _)
          simp only [if_neg c4] at this
          cases this
    · have := hu K (Nat.le_refl _)
      simp only [decide_eq_false c1, Bool.false_eq_true, if_false] at this
      cases this
/-- Known names ascend. -/
theorem known_chain (l : List S90) (hl : l.length ≤ 1048576) (d : Nat) : ∀ (i : Nat), i ≤ l.length → l.length - i = d → Ev (fun k => impl_ValidKnown.l0 k l l l.length i) true →
    ∀ (j : Nat) (hj : j < l.length), i ≤ j → 0 < j → Op.bytesLess (l[j - 1]'(by omega)).f0.toList (l[j]).f0.toList = true := by
  induction d with
  | zero =>
    intro i hi hd _ j hj hij _
    omega
  | succ d ih =>
    intro i hi hd hE j hj hij hj0
    have hlt : i < l.length := by omega
    obtain ⟨K, hK⟩ := hE
    have hu : ∀ k, K ≤ k → impl_ValidKnown.l0 (k + 1) l l l.length i = some true := fun k hk => hK (k + 1) (by omega)
    simp only [impl_ValidKnown.l0, if_pos (show (i : Int) < (l.length : Int) by omega), if_pos (show (0 : Int) ≤ (i : Int) by omega), rd_T90_at _ _ hlt, impl_name, within_val, Option.bind_some] at hu
    by_cases c1 : IsNm l[i].f0
    · simp only [decide_eq_true c1, if_true] at hu
      by_cases c2 : 1 ≤ l[i].f1 ∧ l[i].f1 ≤ l[i].f2
      · simp only [decide_eq_true c2, if_true] at hu
        by_cases c5 : l[i].f2 > 3000
        · have := hu K (Nat.le_refl _)
          simp only [if_pos c5] at this
          cases this
        · simp only [if_neg c5] at hu
          by_cases c3 : i = 0
          · simp only [if_neg (show ¬ (i : Int) > 0 by omega), w64 (x := (i : Int) + 1) (by omega) (by omega)] at hu
            exact ih (i + 1) (by omega) (by omega) ⟨K, hu⟩ j hj (by omega) hj0
          · have hm : i - 1 < l.length := by omega
            have hrd : rd_T90 l ((i : Int) - 1) = l[i - 1] := by rw [show (i : Int) - 1 = ((i - 1 : Nat) : Int) by omega]; exact rd_T90_at _ _ hm
            simp only [if_pos (show (i : Int) > 0 by omega), w64 (x := (i : Int) - 1) (by omega) (by omega), if_pos (show (0 : Int) ≤ (i : Int) - 1 by omega), if_pos (show (i : Int) - 1 < (l.length : Int) by omega), hrd] at hu
            by_cases c4 : Op.bytesLess (l[i - 1]).f0.toList (l[i]).f0.toList = true
            · simp only [c4, if_true, w64 (x := (i : Int) + 1) (by omega) (by omega)] at hu
              by_cases e : j = i
              · subst e; exact c4
              · exact ih (i + 1) (by omega) (by omega) ⟨K, hu⟩ j hj (by omega) hj0
            · have := hu K (Nat.le_refl _)
              simp only [if_neg c4] at this
              cases this
      · have := hu K (Nat.le_refl _)
        simp only [decide_eq_false c2, Bool.false_eq_true, if_false] at this
        cases this
    · have := hu K (Nat.le_refl _)
      simp only [decide_eq_false c1, Bool.false_eq_true, if_false] at this
      cases this
theorem known_ne (l : List S90) (hl : l.length ≤ 1048576) (h : Ev (fun k => impl_ValidKnown.f k l) true) : l.Pairwise (fun x y => x.f0.toList ≠ y.f0.toList) :=
  chain_ne (fun x : S90 => x.f0.toList) l (fun j hj h0 => known_chain l hl l.length 0 (by omega) (by omega) h j hj (by omega) h0)

/-- Where a name stands in known names. -/
def knAny (l : List S90) (a : ByteArray) : Bool := l.any (fun y => y.f0.toList == a.toList)
def knAt (l : List S90) (a : ByteArray) : S90 := rd_T90 l ((l.findIdx (fun y => y.f0.toList == a.toList) : Nat) : Int)
theorem knAt_mem (l : List S90) (a : ByteArray) (h : knAny l a = true) : l.findIdx (fun y => y.f0.toList == a.toList) < l.length ∧ knAt l a ∈ l ∧ (knAt l a).f0.toList = a.toList := by
  unfold knAny at h
  obtain ⟨x, hx, hp⟩ := List.any_eq_true.1 h
  have hlt : l.findIdx (fun y => y.f0.toList == a.toList) < l.length := List.findIdx_lt_length_of_exists ⟨x, hx, hp⟩
  have e : knAt l a = l[l.findIdx (fun y => y.f0.toList == a.toList)] := rd_T90_at _ _ hlt
  refine ⟨hlt, by rw [e]; exact List.getElem_mem _, ?_⟩
  rw [e]
  exact beq_iff_eq.1 (List.findIdx_getElem (w := hlt))
theorem key_inj (l : List S90) (hl : l.Pairwise (fun x y => x.f0.toList ≠ y.f0.toList)) (x y : S90) (hx : x ∈ l) (hy : y ∈ l) (e : x.f0.toList = y.f0.toList) : x = y := by
  rw [List.pairwise_iff_getElem] at hl
  obtain ⟨i, hi, rfl⟩ := List.getElem_of_mem hx
  obtain ⟨j, hj, rfl⟩ := List.getElem_of_mem hy
  rcases Nat.lt_trichotomy i j with h | h | h
  · exact absurd e (hl i j hi hj h)
  · subst h; rfl
  · exact absurd e.symm (hl j i hj hi h)

def BL (x y : ByteArray) : Prop := Op.bytesLess x.toList y.toList = true
/-- A list that ascends from neighbour to neighbour ascends. -/
theorem chain_lt (l : List ByteArray) (h : ∀ (j : Nat) (hj : j < l.length), 0 < j → Op.bytesLess (l[j - 1]'(by omega)).toList (l[j]).toList = true) : l.Pairwise BL := by
  have key : ∀ (d i : Nat) (h2 : i + (d + 1) < l.length), Op.bytesLess (l[i]'(by omega)).toList (l[i + (d + 1)]).toList = true := by
    intro d
    induction d with
    | zero =>
      intro i h2
      have := h (i + 1) h2 (by omega)
      simpa using this
    | succ d ih =>
      intro i h2
      have h3 := h (i + (d + 1 + 1)) h2 (by omega)
      simp only [show i + (d + 1 + 1) - 1 = i + (d + 1) by omega] at h3
      exact bl_trans _ _ _ (ih i (by omega)) h3
  rw [List.pairwise_iff_getElem]
  intro i j hi hj hij
  have h1 := key (j - i - 1) i (by omega)
  simp only [show i + (j - i - 1 + 1) = j by omega] at h1
  exact h1
theorem names_ext : ∀ (a b : List ByteArray), a.Pairwise BL → b.Pairwise BL → (∀ x, x ∈ a ↔ x ∈ b) → a = b
  | [], [], _, _, _ => rfl
  | [], y :: b, _, _, h => by have := (h y).2 (by simp); simp at this
  | x :: a, [], _, _, h => by have := (h x).1 (by simp); simp at this
  | x :: a, y :: b, h1, h2, h => by
    obtain ⟨g1, g2⟩ := List.pairwise_cons.1 h1
    obtain ⟨f1, f2⟩ := List.pairwise_cons.1 h2
    have irr : ∀ z : ByteArray, ¬ BL z z := fun z hz => by unfold BL at hz; rw [bl_irr] at hz; cases hz
    have e : x = y := by
      rcases List.mem_cons.1 ((h x).1 (by simp)) with e | e
      · exact e
      · rcases List.mem_cons.1 ((h y).2 (by simp)) with e2 | e2
        · exact e2.symm
        · exact absurd (bl_trans _ _ _ (g1 y e2) (f1 x e)) (irr x)
    subst e
    rw [names_ext a b g2 f2 (fun z => ?_)]
    constructor
    · intro hz
      rcases List.mem_cons.1 ((h z).1 (List.mem_cons_of_mem _ hz)) with e | e
      · exact absurd (e ▸ g1 z hz) (irr z)
      · exact e
    · intro hz
      rcases List.mem_cons.1 ((h z).2 (List.mem_cons_of_mem _ hz)) with e | e
      · exact absurd (e ▸ f1 z hz) (irr z)
      · exact e
theorem hasB_mem (b : List ByteArray) (x : ByteArray) : hasB b x = true ↔ x ∈ b := by
  unfold hasB
  rw [List.any_eq_true]
  constructor
  · rintro ⟨y, hy, e⟩
    have e2 := toList_inj.1 (of_decide_eq_true e)
    exact e2 ▸ hy
  · intro h
    exact ⟨x, h, decide_eq_true rfl⟩

/-- In valid editions all names ascend. -/
theorem editions_names (l : List S64) (hl : l.length ≤ 1048576) (hw : ∀ y ∈ l, y.f1.length ≤ 1048576) (d : Nat) : ∀ (i : Nat), i ≤ l.length → l.length - i = d → Ev (fun k => impl_ValidEditions.l0 k l l l.length i) true →
    ∀ (j : Nat) (hj : j < l.length), i ≤ j → (l[j]).f1.Pairwise BL := by
  induction d with
  | zero =>
    intro i hi hd _ j hj hij
    omega
  | succ d ih =>
    intro i hi hd hE j hj hij
    have hlt : i < l.length := by omega
    have wi := hw _ (List.getElem_mem hlt)
    obtain ⟨n, n1, n2⟩ := shown_same l[i].f1 wi
    obtain ⟨K0, hK0⟩ := n2
    obtain ⟨K, hK⟩ := hE
    have hu : ∀ k, K + K0 ≤ k → impl_ValidEditions.l0 (k + 1) l l l.length i = some true := fun k hk => hK (k + 1) (by omega)
    have hv : ∀ k, K + K0 ≤ k → impl_areShown.f k l[i].f1 = some n := fun k hk => hK0 k (by omega)
    simp only [impl_ValidEditions.l0, if_pos (show (i : Int) < (l.length : Int) by omega), if_pos (show (0 : Int) ≤ (i : Int) by omega), rd_T64_at _ _ hlt, iyear, Option.bind_some] at hu
    have hu2 : ∀ k, K + K0 ≤ k → (if decide (1 ≤ l[i].f0 ∧ l[i].f0 ≤ 3000) = true then (if n = true then (if (i : Int) > 0 then (if 0 ≤ wrap64 ((i : Int) - 1) then (if wrap64 ((i : Int) - 1) < (l.length : Int) then (if (rd_T64 l (wrap64 ((i : Int) - 1))).f0 ≥ l[i].f0 then some false else impl_ValidEditions.l0 k l l l.length (wrap64 ((i : Int) + 1))) else none) else none) else impl_ValidEditions.l0 k l l l.length (wrap64 ((i : Int) + 1))) else some false) else some false) = some true := by
      intro k hk
      have h1 := hu k hk
      rw [hv k hk, Option.bind_some] at h1
      exact h1
    clear hu
    rw [w64 (x := (i : Int) + 1) (by omega) (by omega)] at hu2
    by_cases cy : 1 ≤ l[i].f0 ∧ l[i].f0 ≤ 3000
    · simp only [decide_eq_true cy, if_true] at hu2
      cases n with
      | false =>
        have := hu2 _ (Nat.le_refl _)
        simp only [Bool.false_eq_true, if_false] at this
        cases this
      | true =>
        simp only [if_true] at hu2
        by_cases e : j = i
        · subst e
          exact chain_lt _ (fun q hq h0 => shown_chain _ wi l[j].f1.length 0 (by omega) (by omega) ⟨K0, hK0⟩ q hq (by omega) h0)
        · refine ih (i + 1) (by omega) (by omega) ⟨K + K0, fun k hk => ?_⟩ j hj (by omega)
          have h1 := hu2 k hk
          repeat' split at h1
          all_goals first | exact h1 | cases h1
    · have := hu2 _ (Nat.le_refl _)
      simp only [decide_eq_false cy, Bool.false_eq_true, if_false] at this
      cases this

theorem markText_l (d : Nat) : ∀ (a : Int) (s : ByteArray), 0 ≤ a → a ≤ d → (s.size : Int) + a ≤ 8000000 → ∃ t, Ev (fun k => laws_markText.l0 k a s) t := by
  induction d with
  | zero =>
    intro a s h0 h1 h2
    refine ⟨(⟨#[109]⟩ : ByteArray) ++ s, ev_succ ?_⟩
    simp only [laws_markText.l0, if_neg (show ¬ a > 0 by omega), if_pos (show 1 + s.size ≤ 9223372036854775807 by omega)]
    exact ev_const rfl
  | succ d ih =>
    intro a s h0 h1 h2
    by_cases ha : a > 0
    · have hq : a / 10 < a := Int.ediv_lt_of_lt_mul (by omega) (by omega)
      have hq0 : 0 ≤ a / 10 := Int.ediv_nonneg h0 (by omega)
      obtain ⟨t, ht⟩ := ih (a / 10) (strOfNums [(wrap64 (48 + (Int.tmod a 10))) % 256] ++ s) hq0 (by omega) (by rw [ByteArray.size_append, strOfNums_size, List.length_singleton]; omega)
      refine ⟨t, ev_succ ?_⟩
      simp only [laws_markText.l0, if_pos ha, Option.bind_some, if_pos (show (strOfNums [(wrap64 (48 + (Int.tmod a 10))) % 256]).size + s.size ≤ 9223372036854775807 by rw [strOfNums_size, List.length_singleton]; omega), tdiv_nn h0, w64 (x := a / 10) (by omega) (by omega)]
      exact ht
    · refine ⟨(⟨#[109]⟩ : ByteArray) ++ s, ev_succ ?_⟩
      simp only [laws_markText.l0, if_neg ha, if_pos (show 1 + s.size ≤ 9223372036854775807 by omega)]
      exact ev_const rfl
theorem markText_ev {a : Int} (h0 : 0 ≤ a) (h1 : a ≤ 7000000) : ∃ t, Ev (fun k => laws_markText.f k a) t := by
  unfold laws_markText.f
  by_cases h : a ≤ 0
  · simp only [if_pos h]; exact ⟨_, ev_const rfl⟩
  · simp only [if_neg h]
    exact markText_l a.toNat a _ h0 (by omega) (by simp only [ByteArray.size, List.size_toArray, List.length_nil]; omega)

theorem markS_l (n : Nat) (hn : n ≤ 1048576) (d : Nat) : ∀ (x : List ByteArray) (a : Int) (i : Nat), x.length = n → i ≤ n → n - i = d → 0 ≤ a → a ≤ 4000000 + (i : Int) →
    ∃ b y, Ev (fun k => laws_markStringS.l0 k x a i) (b, y) ∧ a ≤ b ∧ b ≤ a + ((n : Int) - i) := by
  induction d with
  | zero =>
    intro x a i hx hi hd h0 h1
    refine ⟨a, x, ev_succ ?_, Int.le_refl _, by omega⟩
    simp only [laws_markStringS.l0, if_neg (show ¬ (i : Int) < (x.length : Int) by omega)]
    exact ev_const rfl
  | succ d ih =>
    intro x a i hx hi hd h0 h1
    obtain ⟨t, ht⟩ := markText_ev h0 (show a ≤ 7000000 by omega)
    obtain ⟨b, y, e, hb, hb2⟩ := ih (x.set i t) (a + 1) (i + 1) (by simpa using hx) (by omega) (by omega) (by omega) (by omega)
    refine ⟨b, y, ev_succ ?_, by omega, by omega⟩
    simp only [laws_markStringS.l0, if_pos (show (i : Int) < (x.length : Int) by omega), if_pos (show (0 : Int) ≤ (i : Int) by omega), Int.toNat_natCast, w64 (x := a + 1) (by omega) (by omega), w64 (x := (i : Int) + 1) (by omega) (by omega)]
    exact Ev.bind ht e
theorem markS_ev (x : List ByteArray) (hn : x.length ≤ 1048576) {a : Int} (h0 : 0 ≤ a) (h1 : a ≤ 4000000) : ∃ b y, Ev (fun k => laws_markStringS.f k x a) (b, y) ∧ a ≤ b ∧ b ≤ a + x.length := by
  obtain ⟨b, y, e, hb, hb2⟩ := markS_l x.length hn x.length x a 0 rfl (by omega) (by omega) h0 (by omega)
  exact ⟨b, y, e, hb, by omega⟩

theorem markH_l (n : Nat) (hn : n ≤ 1048576) (d : Nat) : ∀ (x : List ByteArray) (a : Int) (i : Nat), x.length = n → i ≤ n → n - i = d → 0 ≤ a → a ≤ 4000000 + (i : Int) →
    ∃ b y, Ev (fun k => laws_markStringS.l0 k x a i) (b, y) ∧ Ev (fun k => laws_heldStringS.l0 k y a i) b ∧ y.length = n ∧ y.take i = x.take i ∧ 0 ≤ b := by
  induction d with
  | zero =>
    intro x a i hx hi hd h0 h1
    refine ⟨a, x, ev_succ ?_, ev_succ ?_, hx, rfl, h0⟩
    · simp only [laws_markStringS.l0, if_neg (show ¬ (i : Int) < (x.length : Int) by omega)]
      exact ev_const rfl
    · simp only [laws_heldStringS.l0, if_neg (show ¬ (i : Int) < (x.length : Int) by omega)]
      exact ev_const rfl
  | succ d ih =>
    intro x a i hx hi hd h0 h1
    have hlt : i < x.length := by omega
    obtain ⟨t, ht⟩ := markText_ev h0 (show a ≤ 7000000 by omega)
    obtain ⟨b, y, e1, e2, hy, hk, hb⟩ := ih (x.set i t) (a + 1) (i + 1) (by simpa using hx) (by omega) (by omega) (by omega) (by omega)
    have hyl : i < y.length := by omega
    have hyi : y[i] = t := by
      have h2 : y[i] = (y.take (i + 1))[i]'(by rw [List.length_take]; omega) := by rw [List.getElem_take]
      rw [h2]
      simp only [hk, List.getElem_take, List.getElem_set_self]
    refine ⟨b, y, ev_succ ?_, ev_succ ?_, hy, ?_, hb⟩
    · simp only [laws_markStringS.l0, if_pos (show (i : Int) < (x.length : Int) by omega), if_pos (show (0 : Int) ≤ (i : Int) by omega), Int.toNat_natCast, w64 (x := a + 1) (by omega) (by omega), w64 (x := (i : Int) + 1) (by omega) (by omega)]
      exact Ev.bind ht e1
    · simp only [laws_heldStringS.l0, if_pos (show (i : Int) < (y.length : Int) by omega), if_pos (show (0 : Int) ≤ (i : Int) by omega), rdOf_at _ _ _ hyl, hyi, w64 (x := a + 1) (by omega) (by omega), w64 (x := (i : Int) + 1) (by omega) (by omega)]
      refine Ev.bind ht ?_
      simp only [if_true]
      exact e2
    · have h3 : y.take i = (y.take (i + 1)).take i := by rw [List.take_take]; congr 1; omega
      rw [h3, hk, List.take_take, Nat.min_eq_left (by omega), List.take_set_of_le (Nat.le_refl _)]
theorem markH_ev (x : List ByteArray) (hn : x.length ≤ 1048576) {a : Int} (h0 : 0 ≤ a) (h1 : a ≤ 4000000) : ∃ b y, Ev (fun k => laws_markStringS.f k x a) (b, y) ∧ Ev (fun k => laws_heldStringS.f k y a) b ∧ y.length = x.length ∧ 0 ≤ b := by
  obtain ⟨b, y, e1, e2, hy, _, hb⟩ := markH_l x.length hn x.length x a 0 rfl (by omega) (by omega) h0 (by omega)
  exact ⟨b, y, e1, e2, hy, hb⟩

/-- How many names the editions have in all. -/
def namesIn (l : List (List ByteArray)) : Int := (l.map (fun x => (x.length : Int))).sum
theorem namesIn_cons (s : List ByteArray) (l : List (List ByteArray)) : namesIn (s :: l) = s.length + namesIn l := by simp [namesIn]
theorem namesIn_nn (l : List (List ByteArray)) : 0 ≤ namesIn l := by
  induction l with
  | nil => simp [namesIn]
  | cons s l ih => rw [namesIn_cons]; omega
theorem szEditionT_l (l : List S80) (hl : l.length ≤ maxLen) (hw : ∀ y ∈ l, y.f1.length ≤ maxLen ∧ ∀ z ∈ y.f1, z.size ≤ maxLen) (d : Nat) : ∀ (a : Int) (i : Nat), i ≤ l.length → l.length - i = d → 0 ≤ a → a ≤ 1048576 →
    Ev (fun k => laws_szEditionS.l0 k l a i) (-1) ∨ ∃ b, Ev (fun k => laws_szEditionS.l0 k l a i) b ∧ 0 ≤ b ∧ b + namesIn ((l.drop i).map (fun y => y.f1)) ≤ a ∧ ∀ y ∈ l.drop i, y.f1.length ≤ 1048576 := by
  unfold maxLen at hl
  induction d with
  | zero =>
    intro a i hi hd h0 h1
    refine .inr ⟨a, ev_succ ?_, h0, by rw [List.drop_eq_nil_of_le (by omega)]; simp [namesIn], fun y hy => by rw [List.drop_eq_nil_of_le (by omega)] at hy; simp at hy⟩
    simp only [laws_szEditionS.l0, if_neg (show ¬ (i : Int) < (l.length : Int) by omega)]
    exact ev_const rfl
  | succ d ih =>
    intro a i hi hd h0 h1
    have hlt : i < l.length := by omega
    obtain ⟨hn, hz⟩ := hw _ (List.getElem_mem hlt)
    rcases szs_ev l[i].f1 hn hz h0 h1 with e | ⟨b, e, b0, b1⟩
    · refine .inl (ev_succ ?_)
      have h2 : Ev (fun k => laws_szEdition.f k l[i].f0 l[i].f1 a) (-1) := by
        unfold laws_szEdition.f
        refine Ev.bind e ?_
        simp only [if_pos (show (-1 : Int) < 0 by omega)]
        exact ev_const rfl
      simp only [laws_szEditionS.l0, if_pos (show (i : Int) < (l.length : Int) by omega), if_pos (show (0 : Int) ≤ (i : Int) by omega), rd_T80_at _ _ hlt]
      refine Ev.bind h2 ?_
      simp only [if_pos (show (-1 : Int) < 0 by omega)]
      exact ev_const rfl
    · have h2 : Ev (fun k => laws_szEdition.f k l[i].f0 l[i].f1 a) b := by
        unfold laws_szEdition.f
        refine Ev.bind e ?_
        simp only [if_neg (show ¬ b < 0 by omega)]
        exact ev_const rfl
      rcases ih b (i + 1) (by omega) (by omega) b0 (by omega) with e2 | ⟨c, e2, c0, c1, c2⟩
      · refine .inl (ev_succ ?_)
        simp only [laws_szEditionS.l0, if_pos (show (i : Int) < (l.length : Int) by omega), if_pos (show (0 : Int) ≤ (i : Int) by omega), rd_T80_at _ _ hlt, w64 (x := (i : Int) + 1) (by omega) (by omega)]
        refine Ev.bind h2 ?_
        simp only [if_neg (show ¬ b < 0 by omega)]
        exact e2
      · refine .inr ⟨c, ev_succ ?_, c0, by rw [List.drop_eq_getElem_cons hlt, List.map_cons, namesIn_cons]; omega, fun y hy => ?_⟩
        · simp only [laws_szEditionS.l0, if_pos (show (i : Int) < (l.length : Int) by omega), if_pos (show (0 : Int) ≤ (i : Int) by omega), rd_T80_at _ _ hlt, w64 (x := (i : Int) + 1) (by omega) (by omega)]
          refine Ev.bind h2 ?_
          simp only [if_neg (show ¬ b < 0 by omega)]
          exact e2
        · rw [List.drop_eq_getElem_cons hlt] at hy
          rcases List.mem_cons.1 hy with rfl | hy
          · omega
          · exact c2 y hy
theorem szEditionT_ev (l : List S80) (hl : l.length ≤ maxLen) (hw : ∀ y ∈ l, y.f1.length ≤ maxLen ∧ ∀ z ∈ y.f1, z.size ≤ maxLen) {a : Int} (h0 : 0 ≤ a) (h1 : a ≤ 1048576) :
    Ev (fun k => laws_szEditionS.f k l a) (-1) ∨ ∃ b, Ev (fun k => laws_szEditionS.f k l a) b ∧ 0 ≤ b ∧ b + namesIn ((l.map cvEdition).map (fun y => y.f1)) ≤ a - l.length ∧ ∀ y ∈ l, y.f1.length ≤ 1048576 := by
  have hm := hl
  unfold maxLen at hm
  by_cases h : a - (l.length : Int) < 0
  · refine .inl (Ev.congr (fun k => by unfold laws_szEditionS.f; rw [w64 (x := a - (l.length : Int)) (by omega) (by omega), if_pos h]) (Ev.now (-1)))
  · rcases szEditionT_l l hl hw l.length (a - l.length) 0 (by omega) (by omega) (by omega) (by omega) with e | ⟨b, e, b0, b1, b2⟩
    · exact .inl (Ev.congr (fun k => by unfold laws_szEditionS.f; rw [w64 (x := a - (l.length : Int)) (by omega) (by omega), if_neg h]; rfl) e)
    · have e3 : (l.map cvEdition).map (fun y => y.f1) = l.map (fun y => y.f1) := by rw [List.map_map]; rfl
      exact .inr ⟨b, Ev.congr (fun k => by unfold laws_szEditionS.f; rw [w64 (x := a - (l.length : Int)) (by omega) (by omega), if_neg h]; rfl) e, b0, by rw [e3]; simpa using b1, by simpa using b2⟩
theorem markEd_l : ∀ (x : List S64) (a : Int), 0 ≤ a → a + x.length + namesIn (x.map (fun y => y.f1)) ≤ 4000000 → (∀ y ∈ x, y.f1.length ≤ 1048576) →
    ∃ b, Ev (fun k => laws_markEditionS.l0 k x a) b ∧ a ≤ b ∧ b ≤ a + x.length + namesIn (x.map (fun y => y.f1)) := by
  intro x
  induction x with
  | nil =>
    intro a h0 h1 hw
    exact ⟨a, ev_const rfl, Int.le_refl _, by simp [namesIn]⟩
  | cons s x ih =>
    intro a h0 h1 hw
    rw [List.forall_mem_cons] at hw
    rw [List.map_cons, namesIn_cons, List.length_cons] at h1 ⊢
    have hnn := namesIn_nn (x.map (fun y => y.f1))
    obtain ⟨b, y, e, b0, b1⟩ := markS_ev s.f1 hw.1 (a := a + 1) (by omega) (by omega)
    obtain ⟨c, e2, c0, c1⟩ := ih b (by omega) (by omega) hw.2
    refine ⟨c, ?_, by omega, by omega⟩
    simp only [laws_markEditionS.l0, w64 (x := a + 1) (by omega) (by omega)]
    exact Ev.bind e e2
theorem markEd_ev (x : List S64) {a : Int} (h0 : 0 ≤ a) (h1 : a + x.length + namesIn (x.map (fun y => y.f1)) ≤ 4000000) (hw : ∀ y ∈ x, y.f1.length ≤ 1048576) :
    ∃ b, Ev (fun k => laws_markEditionS.f k x a) b ∧ a ≤ b ∧ b ≤ a + x.length + namesIn (x.map (fun y => y.f1)) := markEd_l x a h0 h1 hw

theorem markK_l (n : Nat) (hn : n ≤ 1048576) (d : Nat) : ∀ (x : List S90) (a : Int) (i : Nat), x.length = n → i ≤ n → n - i = d → 0 ≤ a → a ≤ 3000000 + 3 * (i : Int) →
    ∃ b y, Ev (fun k => laws_markKnownS.l0 k x a i) (b, y) ∧ 0 ≤ b := by
  induction d with
  | zero =>
    intro x a i hx hi hd h0 h1
    refine ⟨a, x, ev_succ ?_, h0⟩
    simp only [laws_markKnownS.l0, if_neg (show ¬ (i : Int) < (x.length : Int) by omega)]
    exact ev_const rfl
  | succ d ih =>
    intro x a i hx hi hd h0 h1
    have hlt : i < x.length := by omega
    obtain ⟨t, ht⟩ := markText_ev h0 (show a ≤ 7000000 by omega)
    obtain ⟨b, y, e, hb⟩ := ih (x.set i ⟨t, a + 1, a + 1 + 1⟩) (a + 1 + 1 + 1) (i + 1) (by simpa using hx) (by omega) (by omega) (by omega) (by omega)
    have hrs : ∀ v : S90, rd_T90 (x.set i v) (i : Int) = v := by
      intro v
      have h3 : i < (x.set i v).length := by rw [List.length_set]; exact hlt
      rw [rd_T90_at (x.set i v) i h3, List.getElem_set_self]
    refine ⟨b, y, ev_succ ?_, hb⟩
    simp only [laws_markKnownS.l0, Option.bind_some, Int.toNat_natCast, if_pos (show (i : Int) < (x.length : Int) by omega), if_pos (show (0 : Int) ≤ (i : Int) by omega), w64 (x := a + 1) (by omega) (by omega), w64 (x := a + 1 + 1) (by omega) (by omega), w64 (x := a + 1 + 1 + 1) (by omega) (by omega), w64 (x := (i : Int) + 1) (by omega) (by omega), hrs, List.set_set]
    exact Ev.bind ht e
theorem markK_ev (x : List S90) (hn : x.length ≤ 1048576) {a : Int} (h0 : 0 ≤ a) (h1 : a ≤ 3000000) : ∃ b y, Ev (fun k => laws_markKnownS.f k x a) (b, y) ∧ 0 ≤ b :=
  markK_l x.length hn x.length x a 0 rfl (by omega) (by omega) h0 (by omega)

/-- The known names that were not used in a year, of those that are shown. -/
def lateK (l : List S90) (y : Int) (n : List ByteArray) : List ByteArray := (l.filter (fun x => hasB n x.f0 && !decide (x.f1 ≤ y ∧ y ≤ x.f2))).map (fun x => x.f0)
def lateN (l : List S90) (y : Int) (n : List ByteArray) : List ByteArray := n.filter (fun a => knAny l a && !decide ((knAt l a).f1 ≤ y ∧ y ≤ (knAt l a).f2))
theorem lateK_le (l : List S90) (y : Int) (n : List ByteArray) : (lateK l y n).length ≤ l.length := by
  unfold lateK
  rw [List.length_map]
  exact List.length_filter_le _ _
theorem late_s (e : List S64) (l : List S90) (hl : l.length ≤ 1048576) (a : Int) (a0 : 0 ≤ a) (a1 : a < (e.length : Int)) (hn : (rd_T64 e a).f1.length ≤ 1048576) (d : Nat) : ∀ (out : List ByteArray) (i : Nat), i ≤ l.length → l.length - i = d → out.length ≤ i →
    Ev (fun k => spec_TooLate.l0 k e l a out i) (out ++ lateK (l.drop i) (rd_T64 e a).f0 (rd_T64 e a).f1, 0) := by
  induction d with
  | zero =>
    intro out i hi hd ho
    rw [List.drop_eq_nil_of_le (by omega), show lateK [] (rd_T64 e a).f0 (rd_T64 e a).f1 = [] from rfl, List.append_nil]
    apply ev_succ
    simp only [spec_TooLate.l0, if_neg (show ¬ (i : Int) < (l.length : Int) by omega)]
    exact ev_const rfl
  | succ d ih =>
    intro out i hi hd ho
    have hlt : i < l.length := by omega
    have g1 := ih out (i + 1) (by omega) (by omega) (by omega)
    have g2 := ih (out ++ [l[i].f0]) (i + 1) (by omega) (by omega) (by simp; omega)
    apply ev_succ
    simp only [spec_TooLate.l0, if_pos (show (i : Int) < (l.length : Int) by omega), if_pos a0, if_pos a1, if_pos (show (0 : Int) ≤ (i : Int) by omega), rd_T90_at _ _ hlt]
    refine Ev.bind (has_spec _ hn l[i].f0) ?_
    by_cases c : hasB (rd_T64 e a).f1 l[i].f0 = true
    · by_cases c2 : l[i].f1 ≤ (rd_T64 e a).f0 ∧ (rd_T64 e a).f0 ≤ l[i].f2
      · rw [show lateK (l.drop i) (rd_T64 e a).f0 (rd_T64 e a).f1 = lateK (l.drop (i + 1)) (rd_T64 e a).f0 (rd_T64 e a).f1 from by unfold lateK; rw [List.drop_eq_getElem_cons hlt, List.filter_cons, c, decide_eq_true c2]; rfl]
        simp only [c, if_true, in_val, Option.bind_some, decide_eq_true c2, w64 (x := (i : Int) + 1) (by omega) (by omega)]
        exact g1
      · rw [show out ++ lateK (l.drop i) (rd_T64 e a).f0 (rd_T64 e a).f1 = (out ++ [l[i].f0]) ++ lateK (l.drop (i + 1)) (rd_T64 e a).f0 (rd_T64 e a).f1 from by unfold lateK; rw [List.drop_eq_getElem_cons hlt, List.filter_cons, c, decide_eq_false c2]; simp]
        simp only [c, if_true, in_val, Option.bind_some, decide_eq_false c2, Bool.false_eq_true, if_false, if_pos (show out.length < 8796093022208 by omega), w64 (x := (i : Int) + 1) (by omega) (by omega)]
        exact g2
    · replace c : hasB (rd_T64 e a).f1 l[i].f0 = false := by simpa using c
      rw [show lateK (l.drop i) (rd_T64 e a).f0 (rd_T64 e a).f1 = lateK (l.drop (i + 1)) (rd_T64 e a).f0 (rd_T64 e a).f1 from by unfold lateK; rw [List.drop_eq_getElem_cons hlt, List.filter_cons, c]; rfl]
      simp only [c, Bool.false_eq_true, if_false, w64 (x := (i : Int) + 1) (by omega) (by omega)]
      exact g1
theorem late_i (e : List S64) (l : List S90) (hl : l.length ≤ 1048576) (a : Int) (a0 : 0 ≤ a) (a1 : a < (e.length : Int)) (n : List ByteArray) (hn : n.length ≤ 1048576) (d : Nat) : ∀ (out : List ByteArray) (i : Nat), i ≤ n.length → n.length - i = d → out.length ≤ i →
    Ev (fun k => impl_TooLate.l0 k e l a out n n.length i) (out ++ lateN l (rd_T64 e a).f0 (n.drop i), 0) := by
  induction d with
  | zero =>
    intro out i hi hd ho
    rw [List.drop_eq_nil_of_le (by omega), show lateN l (rd_T64 e a).f0 [] = [] from rfl, List.append_nil]
    apply ev_succ
    simp only [impl_TooLate.l0, if_neg (show ¬ (i : Int) < (n.length : Int) by omega)]
    exact ev_const rfl
  | succ d ih =>
    intro out i hi hd ho
    have hlt : i < n.length := by omega
    have g1 := ih out (i + 1) (by omega) (by omega) (by omega)
    have g2 := ih (out ++ [n[i]]) (i + 1) (by omega) (by omega) (by simp; omega)
    apply ev_succ
    simp only [impl_TooLate.l0, if_pos (show (i : Int) < (n.length : Int) by omega), if_pos (show (0 : Int) ≤ (i : Int) by omega), rdOf_at _ _ _ hlt, impl_knownAt.f, Option.bind_some]
    by_cases h : knAny l n[i] = true
    · have ei : idxKnown_v (fun y => y.f0.toList == n[i].toList) l = ((l.findIdx (fun y => y.f0.toList == n[i].toList) : Nat) : Int) := by unfold idxKnown_v; exact if_pos h
      have hk := (knAt_mem l n[i] h).1
      have er : rd_T90 l ((l.findIdx (fun y => y.f0.toList == n[i].toList) : Nat) : Int) = knAt l n[i] := rfl
      simp only [ei, if_pos (show ((l.findIdx (fun y => y.f0.toList == n[i].toList) : Nat) : Int) ≥ 0 by omega), if_pos (show (0 : Int) ≤ ((l.findIdx (fun y => y.f0.toList == n[i].toList) : Nat) : Int) by omega), if_pos (show ((l.findIdx (fun y => y.f0.toList == n[i].toList) : Nat) : Int) < (l.length : Int) by omega), if_pos a0, if_pos a1, er, impl_wasUsed.f, within_val, Option.bind_some]
      by_cases c2 : (knAt l n[i]).f1 ≤ (rd_T64 e a).f0 ∧ (rd_T64 e a).f0 ≤ (knAt l n[i]).f2
      · rw [show lateN l (rd_T64 e a).f0 (n.drop i) = lateN l (rd_T64 e a).f0 (n.drop (i + 1)) from by unfold lateN; rw [List.drop_eq_getElem_cons hlt, List.filter_cons, h, decide_eq_true c2]; rfl]
        simp only [decide_eq_true c2, if_true, w64 (x := (i : Int) + 1) (by omega) (by omega)]
        exact g1
      · rw [show out ++ lateN l (rd_T64 e a).f0 (n.drop i) = (out ++ [n[i]]) ++ lateN l (rd_T64 e a).f0 (n.drop (i + 1)) from by unfold lateN; rw [List.drop_eq_getElem_cons hlt, List.filter_cons, h, decide_eq_false c2]; simp]
        simp only [decide_eq_false c2, Bool.false_eq_true, if_false, if_pos (show out.length < 8796093022208 by omega), w64 (x := (i : Int) + 1) (by omega) (by omega)]
        exact g2
    · have ei : idxKnown_v (fun y => y.f0.toList == n[i].toList) l = -1 := by unfold idxKnown_v; exact if_neg h
      replace h : knAny l n[i] = false := by simpa using h
      rw [show lateN l (rd_T64 e a).f0 (n.drop i) = lateN l (rd_T64 e a).f0 (n.drop (i + 1)) from by unfold lateN; rw [List.drop_eq_getElem_cons hlt, List.filter_cons, h]; rfl]
      simp only [ei, if_neg (show ¬ (-1 : Int) ≥ 0 by omega), w64 (x := (i : Int) + 1) (by omega) (by omega)]
      exact g1
theorem late_eq (l : List S90) (hl : (l.map (fun x => x.f0)).Pairwise BL) (hne : l.Pairwise (fun x y => x.f0.toList ≠ y.f0.toList)) (y : Int) (n : List ByteArray) (hn : n.Pairwise BL) : lateK l y n = lateN l y n := by
  refine names_ext _ _ ?_ ?_ ?_
  · unfold lateK
    exact hl.sublist (List.Sublist.map _ List.filter_sublist)
  · unfold lateN
    exact hn.sublist List.filter_sublist
  · intro z
    unfold lateK lateN
    rw [List.mem_map, List.mem_filter]
    constructor
    · rintro ⟨x, hx, rfl⟩
      obtain ⟨h1, h2⟩ := List.mem_filter.1 hx
      rw [Bool.and_eq_true] at h2
      have hk : knAny l x.f0 = true := List.any_eq_true.2 ⟨x, h1, beq_iff_eq.2 rfl⟩
      obtain ⟨_, k2, k3⟩ := knAt_mem l x.f0 hk
      have e := key_inj l hne _ _ k2 h1 k3
      refine ⟨(hasB_mem n x.f0).1 h2.1, ?_⟩
      rw [hk, e]
      exact h2.2
    · rintro ⟨h1, h2⟩
      rw [Bool.and_eq_true] at h2
      obtain ⟨_, k2, k3⟩ := knAt_mem l z h2.1
      refine ⟨knAt l z, List.mem_filter.2 ⟨k2, ?_⟩, toList_inj.1 k3⟩
      rw [toList_inj.1 k3, (hasB_mem n z).2 h1]
      exact h2.2
theorem known_asc (l : List S90) (hl : l.length ≤ 1048576) (h : Ev (fun k => impl_ValidKnown.f k l) true) : (l.map (fun x => x.f0)).Pairwise BL := by
  refine chain_lt _ (fun j hj h0 => ?_)
  rw [List.length_map] at hj
  have := known_chain l hl l.length 0 (by omega) (by omega) h j hj (by omega) h0
  simpa using this
theorem late_same (e : List S64) (he : e.length ≤ 1048576) (hw : ∀ y ∈ e, y.f1.length ≤ 1048576) (l : List S90) (hl : l.length ≤ 1048576) (a : Int) : ∃ res c, Ev (fun k => spec_TooLate.f k e l a) (res, c) ∧ Ev (fun k => impl_TooLate.f k e l a) (res, c) ∧ res.length ≤ 1048576 := by
  obtain ⟨v, h1, h2⟩ := known_same l hl
  obtain ⟨v2, g1, g2⟩ := editions_same e he hw
  obtain ⟨c, o1, o2, o3⟩ := one_same e he hw a
  cases v with
  | false =>
    refine ⟨[], 1, ?_, ?_, by simp⟩
    · unfold spec_TooLate.f
      refine Ev.bind g1 ?_
      cases v2 with
      | true =>
        simp only [if_true]
        refine Ev.bind h1 (ev_succ ?_)
        simp only [spec_TooLate.j0, Bool.not_false, if_true]
        exact ev_const rfl
      | false =>
        simp only [Bool.false_eq_true, if_false]
        refine ev_succ ?_
        simp only [spec_TooLate.j0, if_true]
        exact ev_const rfl
    · unfold impl_TooLate.f
      refine Ev.bind h2 ?_
      simp only [Bool.false_eq_true, if_false]
      exact ev_const rfl
  | true =>
    cases v2 with
    | false =>
      have hc : c = 1 := by
        have e1 : Ev (fun k => impl_editionCode.f k e a) 1 := by
          unfold impl_editionCode.f
          refine Ev.bind g2 ?_
          simp only [within_val, Option.bind_some, impl_check.f, Bool.false_eq_true, if_false]
          exact ev_const rfl
        exact ev_uniq o2 e1
      subst hc
      refine ⟨[], 1, ?_, ?_, by simp⟩
      · unfold spec_TooLate.f
        refine Ev.bind g1 ?_
        simp only [Bool.false_eq_true, if_false]
        refine ev_succ ?_
        simp only [spec_TooLate.j0, if_true]
        exact ev_const rfl
      · unfold impl_TooLate.f
        refine Ev.bind h2 ?_
        simp only [if_true]
        refine Ev.bind o2 ?_
        simp only [if_neg (show ¬ (1 : Int) = 0 by omega)]
        exact ev_const rfl
    | true =>
      by_cases hc : c = 0
      · subst hc
        obtain ⟨a0, a1, _⟩ := o3 rfl
        obtain ⟨j, hj⟩ := Int.eq_ofNat_of_zero_le a0
        have hjl : j < e.length := by omega
        have er : rd_T64 e a = e[j] := by rw [hj]; exact rd_T64_at _ _ hjl
        have wn : (rd_T64 e a).f1.length ≤ 1048576 := by rw [er]; exact hw _ (List.getElem_mem hjl)
        have asc : (rd_T64 e a).f1.Pairwise BL := by rw [er]; exact editions_names e he hw e.length 0 (by omega) (by omega) g2 j hjl (by omega)
        have s1 := late_s e l hl a a0 a1 wn l.length [] 0 (by omega) (by omega) (by simp)
        have s2 := late_i e l hl a a0 a1 (rd_T64 e a).f1 wn (rd_T64 e a).f1.length [] 0 (by omega) (by omega) (by simp)
        rw [List.drop_zero, List.nil_append] at s1 s2
        rw [← late_eq l (known_asc l hl h2) (known_ne l hl h2) _ _ asc] at s2
        have hle := lateK_le l (rd_T64 e a).f0 (rd_T64 e a).f1
        refine ⟨_, 0, ?_, ?_, Nat.le_trans hle hl⟩
        · unfold spec_TooLate.f
          refine Ev.bind g1 ?_
          simp only [if_true]
          refine Ev.bind h1 (ev_succ ?_)
          simp only [spec_TooLate.j0, Bool.not_true, Bool.false_eq_true, if_false]
          refine Ev.bind o1 ?_
          simp only [if_true]
          exact s1
        · unfold impl_TooLate.f
          refine Ev.bind h2 ?_
          simp only [if_true]
          refine Ev.bind o2 ?_
          simp only [if_true, if_pos a0, if_pos a1]
          exact s2
      · refine ⟨[], c, ?_, ?_, by simp⟩
        · unfold spec_TooLate.f
          refine Ev.bind g1 ?_
          simp only [if_true]
          refine Ev.bind h1 (ev_succ ?_)
          simp only [spec_TooLate.j0, Bool.not_true, Bool.false_eq_true, if_false]
          refine Ev.bind o1 ?_
          simp only [if_neg hc]
          exact ev_const rfl
        · unfold impl_TooLate.f
          refine Ev.bind h2 ?_
          simp only [if_true]
          refine Ev.bind o2 ?_
          simp only [if_neg hc]
          exact ev_const rfl

theorem FnExactTooLate : laws_FnExactTooLate.Pure := by
  intro l n a hl hw hn hwn _
  apply Ev.rounds
  unfold laws_FnExactTooLate.f
  rcases szEditionT_ev l hl (fun y hy => (hw y hy).2) (a := 1048576) (by omega) (by omega) with e | ⟨b, e, b0, b1, b2⟩
  · refine Ev.bind e ?_
    simp only [if_pos (show (-1 : Int) < 0 by omega)]
    exact ev_const rfl
  · refine Ev.bind e ?_
    simp only [if_neg (show ¬ b < 0 by omega)]
    have hnn := namesIn_nn ((l.map cvEdition).map (fun y => y.f1))
    rcases szKnown_ev n hn (fun y hy => (hwn y hy).1) (a := b) (by omega) (by omega) with e2 | ⟨c, e2, c0, c1⟩
    · refine Ev.bind e2 ?_
      simp only [if_pos (show (-1 : Int) < 0 by omega)]
      exact ev_const rfl
    · refine Ev.bind e2 ?_
      simp only [if_neg (show ¬ c < 0 by omega)]
      have hto := toEdition_ev l (by omega) b2
      have htk := toKnown_ev n (by omega)
      have hml : (l.map cvEdition).length ≤ 1048576 := by rw [List.length_map]; omega
      have hml2 : ((l.map cvEdition).length : Int) = l.length := by rw [List.length_map]
      have hmk : (n.map cvKnown).length ≤ 1048576 := by rw [List.length_map]; omega
      have hmw : ∀ y ∈ l.map cvEdition, y.f1.length ≤ 1048576 := by
        intro y hy
        obtain ⟨x, hx, rfl⟩ := List.mem_map.1 hy
        exact b2 x hx
      obtain ⟨res, cd, s1, s2, s3⟩ := late_same (l.map cvEdition) hml hmw (n.map cvKnown) hmk a
      have q := eqs_ev res (by omega)
      obtain ⟨p1, m1, n1, n10⟩ := markEd_ev (l.map cvEdition) (a := 1) (by omega) (by omega) hmw
      obtain ⟨p3, y3, m4, n4⟩ := markK_ev (n.map cvKnown) hmk (a := p1) (by omega) (by omega)
      obtain ⟨p2, y2, m2, m3, n2, n3⟩ := markH_ev res (by omega) (a := 1) (by omega) (by omega)
      refine Ev.bind hto (Ev.bind htk (Ev.bind s1 (Ev.bind hto (Ev.bind htk (Ev.bind s2 (Ev.bind q ?_))))))
      simp only [if_true, bne_self_eq_false]
      refine ev_succ ?_
      simp only [laws_FnExactTooLate.j0, Bool.false_eq_true, if_false]
      refine Ev.bind hto (Ev.bind (eqEdition_ev _ hml hmw) ?_)
      simp only [if_true]
      refine Ev.bind htk (Ev.bind (eqKnown_ev _ hmk) ?_)
      simp only [if_true]
      refine Ev.bind m1 (Ev.bind m4 ?_)
      simp only [if_neg (show ¬ p3 < 0 by omega)]
      refine Ev.bind q ?_
      simp only [if_true, bne_self_eq_false]
      refine ev_succ ?_
      simp only [laws_FnExactTooLate.j1, Bool.false_eq_true, if_false]
      refine Ev.bind m2 (Ev.bind m3 ?_)
      simp only [if_neg (show ¬ p2 < 0 by omega), if_true]
      refine Ev.bind hto (Ev.bind htk (Ev.bind s2 (Ev.bind q ?_)))
      simp only [if_true, bne_self_eq_false]
      refine ev_succ ?_
      simp only [laws_FnExactTooLate.j2, Bool.false_eq_true, if_false]
      refine Ev.bind m3 ?_
      simp only [if_neg (show ¬ p2 < 0 by omega), if_true]
      exact ev_const rfl

end Go.Proofs.YtalmeecdjhelkaaDoor.Pure
