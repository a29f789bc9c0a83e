/- FnExactUndoEdits: the program's UndoEdits and the reference's come to the same, for all plates and lists of edits: the same code, and the same plate. -/
import Derived.Test.YtalmeecdjhelkaaDoorStatFnExactUndoEdits
namespace Go.Proofs.YtalmeecdjhelkaaDoor.Pure
open Go.RowKit Go.Proofs.YtalmeecdjhelkaaDoor.PFnExactUndoEdits Go.Proofs.YtalmeecdjhelkaaDoorW.PrintWords Go.Proofs.YtalmeecdjhelkaaDoorW.PrintLast Go.Proofs.YtalmeecdjhelkaaDoorW.PrintMore
set_option linter.unusedVariables false
set_option linter.unusedSimpArgs false
theorem wfb {a : Int} (h : (Lit.int .i64 a).wf = true) : -9223372036854775808 ≤ a ∧ a ≤ 9223372036854775807 := by
  simpa [Lit.wf, IntKind.min, IntKind.max, IntKind.signed, IntKind.bits] using h
theorem w64 {x : Int} (h : -9223372036854775808 ≤ x) (h2 : x ≤ 9223372036854775807) : wrap64 x = x := by unfold wrap64; omega
theorem tdiv_nn {a b : Int} (h : 0 ≤ a) : Int.tdiv a b = a / b := Int.tdiv_eq_ediv_of_nonneg h
theorem tmod_nn {a b : Int} (h : 0 ≤ a) : Int.tmod a b = a % b := Int.tmod_eq_emod_of_nonneg h
theorem floor_val (a b : Int) (hb : 0 < b) : (if Int.tmod a b < 0 then Int.tdiv a b - 1 else Int.tdiv a b) = a / b := by
  have h1 := Int.mul_tdiv_add_tmod a b
  have hlt : Int.tmod a b < b := Int.tmod_lt_of_pos a hb
  have hgt : -b < Int.tmod a b := by
    have h2 := Int.tmod_lt_of_pos (-a) hb
    rw [Int.neg_tmod] at h2
    omega
  symm
  split
  · rename_i hneg
    refine ((Int.ediv_emod_unique hb (r := Int.tmod a b + b)).2 ⟨?_, by omega, by omega⟩).1
    rw [Int.mul_sub, Int.mul_one]
    omega
  · rename_i hneg
    exact ((Int.ediv_emod_unique hb (r := Int.tmod a b)).2 ⟨by omega, by omega, by omega⟩).1
theorem ediv_bd {a b : Int} (hb : 0 < b) (B : Int) (h0 : -B ≤ a) (h1 : a ≤ B) (hB : 0 ≤ B) : -B ≤ a / b ∧ a / b ≤ B := by
  constructor
  · rw [Int.le_ediv_iff_mul_le hb]
    have : B * 1 ≤ B * b := Int.mul_le_mul_of_nonneg_left (by omega) hB
    rw [Int.neg_mul]; omega
  · have h2 : a / b ≤ B / b := Int.ediv_le_ediv hb h1
    have h3 : B / b ≤ B := Int.ediv_le_self b hB
    omega
theorem ceil_alt (a b : Int) (hb : 0 < b) : (a + b - 1) / b = -((-a) / b) := by
  have h1 := Int.mul_ediv_add_emod (-a) b
  have h2 := Int.emod_nonneg (-a) (b := b) (by omega)
  have h3 := Int.emod_lt_of_pos (-a) hb
  refine ((Int.ediv_emod_unique hb (r := b - 1 - (-a) % b)).2 ⟨?_, by omega, by omega⟩).1
  rw [Int.mul_neg]
  omega

theorem ev_succ {α : Type} {g : Nat → Option α} {r : α} (h : Ev (fun k => g (k + 1)) r) : Ev g r := Ev.step (fun _ => rfl) h
theorem ev_const {α : Type} {g : Option α} {r : α} (h : g = some r) : Ev (fun _ => g) r := ⟨0, fun _ _ => h⟩
theorem ev_uniq {α : Type} {g : Nat → Option α} {a b : α} (h : Ev g a) (h' : Ev g b) : a = b := by
  obtain ⟨K, h⟩ := h
  obtain ⟨K', h'⟩ := h'
  have h1 := h (K + K') (by omega)
  rw [h' (K + K') (by omega)] at h1
  exact (Option.some.inj h1).symm

theorem toList_inj {a b : ByteArray} : a.toList = b.toList ↔ a = b := by
  constructor
  · intro h
    rw [ByteArray.toList_eq, ByteArray.toList_eq] at h
    obtain ⟨⟨x⟩⟩ := a
    obtain ⟨⟨y⟩⟩ := b
    simp at h
    rw [h]
  · intro h; rw [h]
def sizes (l : List ByteArray) : Int := (l.map (fun s => (s.size : Int))).sum
theorem sizes_cons (s : ByteArray) (l : List ByteArray) : sizes (s :: l) = s.size + sizes l := by simp [sizes]
theorem sizes_nn (l : List ByteArray) : 0 ≤ sizes l := by
  induction l with
  | nil => simp [sizes]
  | cons s l ih => rw [sizes_cons]; omega
theorem sizes_drop (l : List ByteArray) (i : Nat) (h : i < l.length) : sizes (l.drop i) = (l[i]).size + sizes (l.drop (i + 1)) := by
  rw [List.drop_eq_getElem_cons h, sizes_cons]
theorem rdOf_at (d : ByteArray) (l : List ByteArray) (i : Nat) (h : i < l.length) : rdOf d l (i : Int) = l[i] := by
  unfold rdOf
  rw [Int.toNat_natCast, List.getD_eq_getElem?_getD, List.getElem?_eq_getElem h]
  rfl

theorem sz_l (l : List ByteArray) (hl : l.length ≤ maxLen) (hs : ∀ y ∈ l, y.size ≤ maxLen) (d : Nat) : ∀ (k : Nat) (a : Int) (i : Nat), i ≤ l.length → l.length - i = d → d < k → 0 ≤ a → a ≤ 1048576 →
    (a - sizes (l.drop i) < 0 ∧ laws_szStringS.l0 k l a i = some (-1)) ∨ (0 ≤ a - sizes (l.drop i) ∧ laws_szStringS.l0 k l a i = some (a - sizes (l.drop i))) := by
  unfold maxLen at hl hs
  induction d with
  | zero =>
    intro k a i hi hd hk h0 h1
    obtain ⟨k, rfl⟩ : ∃ m, k = m + 1 := ⟨k - 1, by omega⟩
    obtain rfl : i = l.length := by omega
    rw [List.drop_length]
    right
    simp only [laws_szStringS.l0, sizes, List.map_nil, List.sum_nil]
    rw [if_neg (by omega)]
    exact ⟨by omega, by congr 1; omega⟩
  | succ d ih =>
    intro k a i hi hd hk h0 h1
    obtain ⟨k, rfl⟩ : ∃ m, k = m + 1 := ⟨k - 1, by omega⟩
    have hlt : i < l.length := by omega
    have hsz := hs l[i] (List.getElem_mem hlt)
    have hnn := sizes_nn (l.drop (i + 1))
    rw [sizes_drop l i hlt]
    simp only [laws_szStringS.l0]
    rw [if_pos (by omega), if_pos (by omega), rdOf_at _ _ _ hlt, w64 (x := a - (l[i].size : Int)) (by omega) (by omega)]
    by_cases hn : a - (l[i].size : Int) < 0
    · left
      rw [if_pos hn]
      exact ⟨by omega, rfl⟩
    · rw [if_neg hn, w64 (x := (i : Int) + 1) (by omega) (by omega)]
      have := ih k (a - l[i].size) (i + 1) (by omega) (by omega) (by omega) (by omega) (by omega)
      rw [show ((i : Int) + 1) = ((i + 1 : Nat) : Int) from by omega]
      rw [show a - ((l[i].size : Int) + sizes (l.drop (i + 1))) = a - (l[i].size : Int) - sizes (l.drop (i + 1)) from by omega]
      exact this
/-- The count of a list of strings: none is left (the law then says nothing), or the list is short. -/
theorem sz_val (l : List ByteArray) (hl : l.length ≤ maxLen) (hs : ∀ y ∈ l, y.size ≤ maxLen) {a : Int} (h0 : 0 ≤ a) (h1 : a ≤ 1048576) {k : Nat} (hk : l.length < k) :
    laws_szStringS.f k l a = some (-1) ∨ (laws_szStringS.f k l a = some (a - l.length - sizes l) ∧ 0 ≤ a - l.length - sizes l) := by
  have h2 := hl
  unfold maxLen at h2
  unfold laws_szStringS.f
  rw [w64 (x := a - (l.length : Int)) (by omega) (by omega)]
  by_cases h : a - (l.length : Int) < 0
  · left; rw [if_pos h]
  · rw [if_neg h]
    rcases sz_l l hl hs l.length k (a - l.length) 0 (by omega) (by omega) hk (by omega) (by omega) with ⟨_, e⟩ | ⟨e1, e⟩
    · left; exact e
    · right
      rw [List.drop_zero] at e1 e
      exact ⟨e, e1⟩

theorem take_set_succ {α : Type} (x : List α) (i : Nat) (v : α) (h : i < x.length) : (x.set i v).take (i + 1) = x.take i ++ [v] := by
  rw [List.take_succ_eq_append_getElem (by simpa using h), List.getElem_set_self, List.take_set_of_le (Nat.le_refl _)]
theorem take_succ_get {α : Type} (x : List α) (i : Nat) (h : i < x.length) : x.take (i + 1) = x.take i ++ [x[i]] := List.take_succ_eq_append_getElem h
theorem tos_l (l : List ByteArray) (hl : l.length ≤ 17592186044416) (d : Nat) : ∀ (k : Nat) (x : List ByteArray) (i : Nat), i ≤ l.length → l.length - i = d → d < k → x.length = l.length → x.take i = l.take i → laws_toStringS.l0 k l x i = some l := by
  induction d with
  | zero =>
    intro k x i hi hd hk hx ht
    obtain ⟨k, rfl⟩ : ∃ m, k = m + 1 := ⟨k - 1, by omega⟩
    simp only [laws_toStringS.l0]
    rw [if_neg (by omega)]
    rw [List.take_of_length_le (by omega), List.take_of_length_le (by omega)] at ht
    rw [ht]
  | succ d ih =>
    intro k x i hi hd hk hx ht
    obtain ⟨k, rfl⟩ : ∃ m, k = m + 1 := ⟨k - 1, by omega⟩
    have hlt : i < l.length := by omega
    simp only [laws_toStringS.l0]
    rw [if_pos (by omega), if_pos (by omega), if_pos (by omega), rdOf_at _ _ _ hlt, w64 (x := (i : Int) + 1) (by omega) (by omega), Int.toNat_natCast]
    have := ih k (x.set i l[i]) (i + 1) (by omega) (by omega) (by omega) (by simpa using hx) (by rw [take_set_succ _ _ _ (by omega), take_succ_get l i hlt, ht])
    exact this
theorem tos_val (l : List ByteArray) (hl : l.length ≤ 17592186044416) {k : Nat} (hk : l.length < k) : laws_toStringS.f k l = some l := by
  unfold laws_toStringS.f
  rw [if_pos (by omega), if_pos (by simpa using hl)]
  exact tos_l l hl l.length k _ 0 (by omega) (by omega) hk (by simp) (by simp)

theorem getElem_ext {α : Type} {x y : List α} (h : x.length = y.length) (d : Nat) (i : Nat) (hi : i < x.length) : (x.drop i = y.drop i) ↔ (x[i] = y[i] ∧ x.drop (i + 1) = y.drop (i + 1)) := by
  rw [List.drop_eq_getElem_cons hi, List.drop_eq_getElem_cons (show i < y.length by omega), List.cons.injEq]
theorem eqs_l (x y : List ByteArray) (h : x.length = y.length) (hl : x.length ≤ maxLen) (d : Nat) : ∀ (k : Nat) (i : Nat), i ≤ x.length → x.length - i = d → d < k → laws_eqStringS.l0 k x y i = some (decide (x.drop i = y.drop i)) := by
  unfold maxLen at hl
  induction d with
  | zero =>
    intro k i hi hd hk
    obtain ⟨k, rfl⟩ : ∃ m, k = m + 1 := ⟨k - 1, by omega⟩
    simp only [laws_eqStringS.l0]
    rw [if_neg (by omega), List.drop_eq_nil_of_le (by omega), List.drop_eq_nil_of_le (by omega)]
    simp
  | succ d ih =>
    intro k i hi hd hk
    obtain ⟨k, rfl⟩ : ∃ m, k = m + 1 := ⟨k - 1, by omega⟩
    have hlt : i < x.length := by omega
    simp only [laws_eqStringS.l0]
    rw [if_pos (by omega), if_pos (by omega), if_pos (by omega), rdOf_at _ _ _ hlt, rdOf_at _ _ _ (by omega), w64 (x := (i : Int) + 1) (by omega) (by omega)]
    simp only [toList_inj]
    have e := getElem_ext h d i hlt
    by_cases hq : x[i] = y[i]
    · rw [if_pos hq]
      have := ih k (i + 1) (by omega) (by omega) (by omega)
      rw [show ((i : Int) + 1) = ((i + 1 : Nat) : Int) from by omega, this]
      congr 1
      rw [decide_eq_decide, e]
      simp [hq]
    · rw [if_neg hq]
      congr 1
      symm
      rw [decide_eq_false_iff_not, e]
      exact fun h => hq h.1
theorem eqs_val (x y : List ByteArray) (hl : x.length ≤ maxLen) {k : Nat} (hk : x.length < k) : laws_eqStringS.f k x y = some (decide (x = y)) := by
  unfold laws_eqStringS.f
  by_cases h : x.length = y.length
  · rw [if_pos (by omega)]
    have := eqs_l x y h hl x.length k 0 (by omega) (by omega) hk
    simpa using this
  · rw [if_neg (by omega)]
    congr 1; symm
    rw [decide_eq_false_iff_not]
    exact fun e => h (by rw [e])

theorem szs_ev (l : List ByteArray) (hl : l.length ≤ maxLen) (hs : ∀ y ∈ l, y.size ≤ maxLen) {a : Int} (h0 : 0 ≤ a) (h1 : a ≤ 1048576) :
    Ev (fun k => laws_szStringS.f k l a) (-1) ∨ ∃ b, Ev (fun k => laws_szStringS.f k l a) b ∧ 0 ≤ b ∧ b ≤ a - l.length := by
  have hn := sizes_nn l
  rcases sz_val l hl hs h0 h1 (k := l.length + 1) (by omega) with e | ⟨e, e1⟩
  · exact .inl (Ev.of (fun k => laws_szStringS.mono l a k) e)
  · exact .inr ⟨_, Ev.of (fun k => laws_szStringS.mono l a k) e, e1, by omega⟩
theorem tos_ev (l : List ByteArray) (hl : l.length ≤ 1048576) : Ev (fun k => laws_toStringS.f k l) l := ⟨l.length + 1, fun _ hk => tos_val l (by omega) (by omega)⟩
theorem eqs_ev (x : List ByteArray) (hl : x.length ≤ 1048576) : Ev (fun k => laws_eqStringS.f k x x) true := by
  have hm : x.length ≤ maxLen := by unfold maxLen; omega
  exact ⟨x.length + 1, fun k hk => by show laws_eqStringS.f k x x = some true; rw [eqs_val x x hm (by omega)]; simp⟩

/-- A byte that a name may have. -/
def nameC (c : Int) : Prop := ((97 : Int) ≤ c ∧ c ≤ 122) ∨ ((48 : Int) ≤ c ∧ c ≤ 57) ∨ c = 45
instance instNameC (c : Int) : Decidable (nameC c) := by unfold nameC; infer_instance
/-- A name. -/
def IsNm (s : ByteArray) : Prop := 1 ≤ s.size ∧ s.size ≤ 12 ∧ ((97 : Int) ≤ bt s 0 ∧ bt s 0 ≤ 122) ∧ ∀ i, i < s.size → nameC (bt s (i : Int))
instance instIsNm (s : ByteArray) : Decidable (IsNm s) := by unfold IsNm; infer_instance
theorem toList_nil (s : ByteArray) : s.toList = ([] : List UInt8) ↔ s.size = 0 := by
  rw [ByteArray.toList_eq]
  obtain ⟨⟨x⟩⟩ := s
  show x = [] ↔ x.length = 0
  rw [List.length_eq_zero_iff]
theorem bt_at (s : ByteArray) (i : Nat) (h : i < s.size) : bt s (i : Int) = ((s.data.toList[i]'(by simpa using h)).toNat : Int) := by
  unfold bt
  rw [dif_pos (by simpa using h)]
  rfl
open Classical in
theorem snm_l (s : ByteArray) (hs : s.size ≤ 12) (d : Nat) : ∀ (i : Nat), i ≤ s.size → s.size - i = d → Ev (fun k => spec_IsName.l0 k s i) (decide (∀ j, i ≤ j → j < s.size → nameC (bt s (j : Int)))) := by
  induction d with
  | zero =>
    intro i hi hd
    apply ev_succ
    simp only [spec_IsName.l0, if_neg (show ¬ (i : Int) < (s.size : Int) by omega)]
    refine ev_const ?_
    congr 1
    symm
    rw [decide_eq_true_iff]
    intro j h1 h2; omega
  | succ d ih =>
    intro i hi hd
    have hlt : i < s.size := by omega
    have hih := ih (i + 1) (by omega) (by omega)
    have step : nameC (bt s (i : Int)) → (decide (∀ j, i ≤ j → j < s.size → nameC (bt s (j : Int)))) = decide (∀ j, i + 1 ≤ j → j < s.size → nameC (bt s (j : Int))) := by
      intro hc
      rw [decide_eq_decide]
      constructor
      · intro h j h1 h2; exact h j (by omega) h2
      · intro h j h1 h2
        by_cases e : j = i
        · subst e; exact hc
        · exact h j (by omega) h2
    apply ev_succ
    simp only [spec_IsName.l0, spec_l01Small.f, spec_l01Digit.f, if_pos (show (i : Int) < (s.size : Int) by omega), if_pos (show (0 : Int) ≤ (i : Int) by omega), w64 (x := (i : Int) + 1) (by omega) (by omega)]
    by_cases h1 : 97 ≤ bt s (i : Int) ∧ bt s (i : Int) ≤ 122
    · simp only [ge_iff_le, if_pos h1.1, Option.bind_some, decide_eq_true h1.2, if_true]
      rw [step (.inl h1)]
      exact hih
    · have e1 : (if bt s (i : Int) ≥ 97 then some (decide (bt s (i : Int) ≤ 122)) else some false) = some false := by
        by_cases h : bt s (i : Int) ≥ 97
        · rw [if_pos h, decide_eq_false (fun h2 => h1 ⟨h, h2⟩)]
        · rw [if_neg h]
      simp only [e1, Option.bind_some, Bool.false_eq_true, if_false]
      by_cases h2 : 48 ≤ bt s (i : Int) ∧ bt s (i : Int) ≤ 57
      · simp only [ge_iff_le, if_pos h2.1, Option.bind_some, decide_eq_true h2.2, if_true]
        rw [step (.inr (.inl h2))]
        exact hih
      · have e2 : (if bt s (i : Int) ≥ 48 then some (decide (bt s (i : Int) ≤ 57)) else some false) = some false := by
          by_cases h : bt s (i : Int) ≥ 48
          · rw [if_pos h, decide_eq_false (fun h3 => h2 ⟨h, h3⟩)]
          · rw [if_neg h]
        simp only [e2, Option.bind_some, Bool.false_eq_true, if_false]
        by_cases h3 : bt s (i : Int) = 45
        · simp only [if_pos h3]
          rw [step (.inr (.inr h3))]
          exact hih
        · simp only [if_neg h3]
          refine ev_const ?_
          congr 1
          symm
          rw [decide_eq_false_iff_not]
          intro h
          rcases h i (by omega) hlt with h | h | h
          · exact h1 h
          · exact h2 h
          · exact h3 h
theorem spec_name (s : ByteArray) : Ev (fun k => spec_IsName.f k s) (decide (IsNm s)) := by
  classical
  have no : ¬ IsNm s → Ev (fun k => spec_IsName.j0 k s true) (decide (IsNm s)) := fun h => by
    refine ev_succ ?_
    simp only [spec_IsName.j0, if_true]
    exact ev_const (by rw [decide_eq_false h])
  unfold spec_IsName.f
  by_cases h0 : s.size = 0
  · simp only [if_pos ((toList_nil s).2 h0)]
    exact no (fun h => by have := h.1; omega)
  · simp only [if_neg (fun h => h0 ((toList_nil s).1 h))]
    by_cases h1 : (s.size : Int) > 12
    · simp only [if_pos h1]
      exact no (fun h => by have := h.2.1; omega)
    · simp only [if_neg h1, if_pos (show (0 : Int) < (s.size : Int) by omega), spec_l01Small.f]
      by_cases h2 : 97 ≤ bt s 0 ∧ bt s 0 ≤ 122
      · simp only [ge_iff_le, if_pos h2.1, Option.bind_some, decide_eq_true h2.2, Bool.not_true]
        refine ev_succ ?_
        simp only [spec_IsName.j0, Bool.false_eq_true, if_false]
        have := snm_l s (by omega) s.size 0 (by omega) (by omega)
        have e : (decide (IsNm s)) = decide (∀ j, 0 ≤ j → j < s.size → nameC (bt s (j : Int))) := by
          rw [decide_eq_decide]
          exact ⟨fun h j _ hj => h.2.2.2 j hj, fun h => ⟨by omega, by omega, h2, fun j hj => h j (by omega) hj⟩⟩
        rw [e]
        exact this
      · have e1 : (if bt s 0 ≥ 97 then some (decide (bt s 0 ≤ 122)) else some false) = some false := by
          by_cases h : bt s 0 ≥ 97
          · rw [if_pos h, decide_eq_false (fun h3 => h2 ⟨h, h3⟩)]
          · rw [if_neg h]
        simp only [e1, Option.bind_some, Bool.not_false]
        exact no (fun h => h2 h.2.2.1)

theorem dw_nil (p : UInt8 → Bool) (l : List UInt8) : l.dropWhile p = [] ↔ ∀ b ∈ l, p b = true := by
  induction l with
  | nil => simp
  | cons a l ih =>
    by_cases h : p a = true
    · simp [List.dropWhile, h, ih]
    · simp [List.dropWhile, h]
theorem dw_head (p : UInt8 → Bool) (l : List UInt8) (x : UInt8) (xs : List UInt8) (h : l.dropWhile p = x :: xs) : p x = false := by
  induction l with
  | nil => simp at h
  | cons a l ih =>
    by_cases h2 : p a = true
    · simp only [List.dropWhile, h2] at h
      exact ih h
    · have h3 : p a = false := by simpa using h2
      simp only [List.dropWhile, h3, List.cons.injEq] at h
      rw [← h.1]; exact h3
theorem trimS_nil (l cs : List UInt8) : Go.Lib.trimS l cs = [] ↔ ∀ b ∈ l, cs.contains b = true := by
  unfold Go.Lib.trimS Go.Lib.trimLeftS Go.Lib.trimRightS
  rw [dw_nil]
  constructor
  · intro h b hb
    cases e : l.reverse.dropWhile (cs.contains ·) with
    | nil =>
      rw [dw_nil] at e
      exact e b (by simpa using hb)
    | cons x xs =>
      exfalso
      have h1 := dw_head _ _ _ _ e
      have h2 := h x (by rw [e]; simp)
      rw [h2] at h1
      cases h1
  · intro h b hb
    exact h b (by simpa using (List.dropWhile_sublist _).subset (List.mem_reverse.1 hb))
theorem name_cut (b : UInt8) : ([97, 98, 99, 100, 101, 102, 103, 104, 105, 106, 107, 108, 109, 110, 111, 112, 113, 114, 115, 116, 117, 118, 119, 120, 121, 122, 48, 49, 50, 51, 52, 53, 54, 55, 56, 57, 45] : List UInt8).contains b = decide (nameC (b.toNat : Int)) := by
  have key : ((List.range 256).all fun n => (([97, 98, 99, 100, 101, 102, 103, 104, 105, 106, 107, 108, 109, 110, 111, 112, 113, 114, 115, 116, 117, 118, 119, 120, 121, 122, 48, 49, 50, 51, 52, 53, 54, 55, 56, 57, 45] : List UInt8).contains (UInt8.ofNat n) == decide (((97 : Int) ≤ (n : Int) ∧ (n : Int) ≤ 122) ∨ ((48 : Int) ≤ (n : Int) ∧ (n : Int) ≤ 57) ∨ (n : Int) = 45))) = true := by decide +kernel
  have h := List.all_eq_true.1 key b.toNat (List.mem_range.2 b.toNat_lt)
  rw [UInt8.ofNat_toNat] at h
  rw [beq_iff_eq] at h
  rw [h]
  rfl
theorem impl_name (s : ByteArray) : impl_IsName.f s = some (decide (IsNm s)) := by
  unfold impl_IsName.f
  by_cases h0 : (s.size : Int) < 1
  · rw [if_pos h0, decide_eq_false (fun h => by have := h.1; omega)]
  · rw [if_neg h0]
    by_cases h1 : (s.size : Int) > 12
    · rw [if_pos h1, decide_eq_false (fun h => by have := h.2.1; omega)]
    · rw [if_neg h1, if_pos (by omega)]
      by_cases h2 : bt s 0 < 97
      · rw [if_pos h2, decide_eq_false (fun h => by have := h.2.2.1.1; omega)]
      · rw [if_neg h2]
        by_cases h3 : bt s 0 > 122
        · rw [if_pos h3, decide_eq_false (fun h => by have := h.2.2.1.2; omega)]
        · rw [if_neg h3]
          unfold strings_Trim.f
          rw [if_pos ⟨by omega, by decide, by decide +kernel⟩]
          simp only [Option.bind_some]
          congr 1
          have e : (decide (IsNm s)) = decide (∀ b ∈ s.data.toList, nameC (b.toNat : Int)) := by
            rw [decide_eq_decide]
            constructor
            · intro h b hb
              obtain ⟨j, hj, rfl⟩ := List.getElem_of_mem hb
              have := h.2.2.2 j (by simpa using hj)
              rw [bt_at s j (by simpa using hj)] at this
              exact this
            · intro h
              refine ⟨by omega, by omega, ⟨by omega, by omega⟩, fun j hj => ?_⟩
              rw [bt_at s j hj]
              exact h _ (List.getElem_mem _)
          rw [e]
          have e2 : ∀ t : List UInt8, (({ data := t.toArray } : ByteArray).toList == ([] : List UInt8)) = decide (t = []) := by
            intro t
            rw [ByteArray.toList_eq]
            cases t <;> simp
          rw [e2, decide_eq_decide, trimS_nil]
          constructor
          · intro h b hb
            have := h b hb
            rw [name_cut] at this
            exact of_decide_eq_true this
          · intro h b hb
            rw [name_cut]
            exact decide_eq_true (h b hb)

theorem in_val (a b c : Int) : spec_l00In.f a b c = some (decide (b ≤ a ∧ a ≤ c)) := by
  unfold spec_l00In.f
  by_cases h : a ≥ b <;> by_cases h2 : a ≤ c <;> simp [h, h2] <;> omega
theorem within_val (a b c : Int) : impl_within.f a b c = some (decide (b ≤ a ∧ a ≤ c)) := in_val a b c

/-- A name or none. -/
def Engr (s : ByteArray) : Prop := s.size = 0 ∨ IsNm s
instance instEngr (s : ByteArray) : Decidable (Engr s) := by unfold Engr; infer_instance
theorem spec_engr (s : ByteArray) : Ev (fun k => spec_l13Name.f k s) (decide (Engr s)) := by
  unfold spec_l13Name.f
  by_cases h : s.size = 0
  · simp only [if_pos ((toList_nil s).2 h)]
    exact ev_const (by rw [decide_eq_true (show Engr s from .inl h)])
  · simp only [if_neg (fun e => h ((toList_nil s).1 e))]
    have e : decide (Engr s) = decide (IsNm s) := by
      rw [decide_eq_decide]
      exact ⟨fun x => x.resolve_left h, .inr⟩
    rw [e]
    exact Ev.bind (spec_name s) (ev_const rfl)
theorem impl_engr (s : ByteArray) : impl_isEngraved.f s = some (decide (Engr s)) := by
  unfold impl_isEngraved.f
  by_cases h : s.size = 0
  · rw [if_pos ((toList_nil s).2 h), decide_eq_true (show Engr s from .inl h)]
  · rw [if_neg (fun e => h ((toList_nil s).1 e)), impl_name]
    have e : decide (Engr s) = decide (IsNm s) := by
      rw [decide_eq_decide]
      exact ⟨fun x => x.resolve_left h, .inr⟩
    rw [e]
    rfl

/-- What a plate must hold. -/
def PlateOk (l : List ByteArray) : Prop := (∀ s ∈ l, Engr s) ∧ (1 : Int) ≤ l.length ∧ (l.length : Int) ≤ 12
instance instPlateOk (l : List ByteArray) : Decidable (PlateOk l) := by unfold PlateOk; infer_instance
def Suff (l : List ByteArray) (i : Nat) : Prop := (∀ s ∈ l.drop i, Engr s) ∧ (1 : Int) ≤ l.length ∧ (l.length : Int) ≤ 12
instance instSuff (l : List ByteArray) (i : Nat) : Decidable (Suff l i) := by unfold Suff; infer_instance
theorem splate_l (l : List ByteArray) (hl : l.length ≤ 1048576) (d : Nat) : ∀ (i : Nat), i ≤ l.length → l.length - i = d → Ev (fun k => spec_l13Ok.l0 k l i) (decide (Suff l i)) := by
  induction d with
  | zero =>
    intro i hi hd
    apply ev_succ
    simp only [spec_l13Ok.l0, if_neg (show ¬ (i : Int) < (l.length : Int) by omega), in_val, Option.bind_some]
    refine ev_const ?_
    refine congrArg some (decide_eq_decide.2 ?_)
    unfold Suff
    rw [List.drop_eq_nil_of_le (by omega)]
    simp
  | succ d ih =>
    intro i hi hd
    have hlt : i < l.length := by omega
    apply ev_succ
    simp only [spec_l13Ok.l0, if_pos (show (i : Int) < (l.length : Int) by omega), if_pos (show (0 : Int) ≤ (i : Int) by omega), rdOf_at _ _ _ hlt, w64 (x := (i : Int) + 1) (by omega) (by omega)]
    refine Ev.bind (spec_engr l[i]) ?_
    by_cases h : Engr l[i]
    · simp only [decide_eq_true h, if_true]
      have e : decide (Suff l i) = decide (Suff l (i + 1)) := by
        refine decide_eq_decide.2 ?_
        unfold Suff
        rw [List.drop_eq_getElem_cons hlt, List.forall_mem_cons]
        exact ⟨fun x => ⟨x.1.2, x.2⟩, fun x => ⟨⟨h, x.1⟩, x.2⟩⟩
      rw [e]
      exact ih (i + 1) (by omega) (by omega)
    · simp only [decide_eq_false h, Bool.false_eq_true, if_false]
      refine ev_const ?_
      rw [decide_eq_false (show ¬ Suff l i from fun h2 => h (h2.1 _ (by rw [List.drop_eq_getElem_cons hlt]; exact List.mem_cons_self)))]
theorem splate_ev (l : List ByteArray) (hl : l.length ≤ 1048576) : Ev (fun k => spec_l13Ok.f k l) (decide (PlateOk l)) := by
  have h := splate_l l hl l.length 0 (by omega) (by omega)
  have e : decide (PlateOk l) = decide (Suff l 0) := decide_eq_decide.2 Iff.rfl
  rw [e]
  exact h
theorem iplate_val (l : List ByteArray) : impl_ValidPlate.f l = some (decide (PlateOk l)) := by
  have hb : ∀ x, impl_isEngravedBad x = !decide (Engr x) := fun x => by unfold impl_isEngravedBad; rw [impl_engr]; rfl
  have ha : (!l.any impl_isEngravedBad) = decide (∀ s ∈ l, Engr s) := by
    rw [show impl_isEngravedBad = fun x => !decide (Engr x) from funext hb]
    rw [Bool.eq_iff_iff]
    simp
  unfold impl_ValidPlate.f
  rw [ha]
  by_cases h1 : (l.length : Int) ≥ 1
  · by_cases h2 : (l.length : Int) ≤ 12
    · rw [if_pos h1, if_pos h2]
      exact congrArg some (decide_eq_decide.2 ⟨fun h => ⟨h, h1, h2⟩, fun h => h.1⟩)
    · rw [if_pos h1, if_neg h2, decide_eq_false (show ¬ PlateOk l from fun h => h2 h.2.2)]
  · rw [if_neg h1, decide_eq_false (show ¬ PlateOk l from fun h => h1 h.2.1)]

theorem rd_T98_at (l : List S98) (i : Nat) (h : i < l.length) : rd_T98 l (i : Int) = l[i] := by
  unfold rd_T98
  rw [Int.toNat_natCast, List.getD_eq_getElem?_getD, List.getElem?_eq_getElem h]
  rfl

theorem rd_T102_at (l : List S102) (i : Nat) (h : i < l.length) : rd_T102 l (i : Int) = l[i] := by
  unfold rd_T102
  rw [Int.toNat_natCast, List.getD_eq_getElem?_getD, List.getElem?_eq_getElem h]
  rfl

def cvEdit (x : S98) : S102 := ⟨x.f0, x.f1, x.f2⟩
theorem take_set_Edit (x : List S102) (i : Nat) (v : S102) (h : i < x.length) : (x.set i v).take (i + 1) = x.take i ++ [v] := by
  rw [List.take_succ_eq_append_getElem (by simpa using h), List.getElem_set_self, List.take_set_of_le (Nat.le_refl _)]
theorem toEdit_l (l : List S98) (hl : l.length ≤ 1048576) (d : Nat) : ∀ (x : List S102) (i : Nat), i ≤ l.length → l.length - i = d → x.length = l.length → x.take i = (l.map cvEdit).take i → Ev (fun k => laws_toEditS.l0 k l x i) (l.map cvEdit) := by
  induction d with
  | zero =>
    intro x i hi hd hx ht
    apply ev_succ
    simp only [laws_toEditS.l0]
    rw [List.take_of_length_le (by omega), List.take_of_length_le (by simp; omega)] at ht
    simp only [if_neg (show ¬ (i : Int) < (l.length : Int) by omega)]
    rw [ht]
    exact ev_const rfl
  | succ d ih =>
    intro x i hi hd hx ht
    have hlt : i < l.length := by omega
    apply ev_succ
    simp only [laws_toEditS.l0, laws_toEdit.f, Option.bind_some, if_pos (show (i : Int) < (l.length : Int) by omega), if_pos (show (0 : Int) ≤ (i : Int) by omega), if_pos (show (i : Int) < (x.length : Int) by omega), rd_T98_at _ _ hlt, w64 (x := (i : Int) + 1) (by omega) (by omega), Int.toNat_natCast]
    exact ih (x.set i (cvEdit l[i])) (i + 1) (by omega) (by omega) (by simpa using hx) (by rw [take_set_Edit _ _ _ (by omega), List.take_succ_eq_append_getElem (by simpa using hlt), ht, List.getElem_map])
theorem toEdit_ev (l : List S98) (hl : l.length ≤ 1048576) : Ev (fun k => laws_toEditS.f k l) (l.map cvEdit) := by
  refine Ev.congr (fun k => by unfold laws_toEditS.f; rw [if_pos (by omega), if_pos (by omega)]) ?_
  exact toEdit_l l hl l.length _ 0 (by omega) (by omega) (by simp) (by simp)

theorem eqEdit_l (x : List S102) (hl : x.length ≤ 1048576) (d : Nat) : ∀ (i : Nat), i ≤ x.length → x.length - i = d → Ev (fun k => laws_eqEditS.l0 k x x i) true := by
  induction d with
  | zero =>
    intro i hi hd
    apply ev_succ
    simp only [laws_eqEditS.l0, if_neg (show ¬ (i : Int) < (x.length : Int) by omega)]
    exact ev_const rfl
  | succ d ih =>
    intro i hi hd
    apply ev_succ
    simp only [laws_eqEditS.l0, laws_eqEdit.f, if_true, Option.bind_some, if_pos (show (i : Int) < (x.length : Int) by omega), if_pos (show (0 : Int) ≤ (i : Int) by omega), w64 (x := (i : Int) + 1) (by omega) (by omega)]
    exact ih (i + 1) (by omega) (by omega)
theorem eqEdit_ev (x : List S102) (hl : x.length ≤ 1048576) : Ev (fun k => laws_eqEditS.f k x x) true := by
  unfold laws_eqEditS.f
  simp only [if_true]
  exact eqEdit_l x hl x.length 0 (by omega) (by omega)

theorem szEdit1 (x : S98) (hx : x.f1.size ≤ maxLen ∧ x.f2.size ≤ maxLen) {a : Int} (h0 : 0 ≤ a) (h1 : a ≤ 1048576) : laws_szEdit.f x.f0 x.f1 x.f2 a = some (-1) ∨ ∃ b, laws_szEdit.f x.f0 x.f1 x.f2 a = some b ∧ 0 ≤ b ∧ b ≤ a := by
  unfold maxLen at hx
  unfold laws_szEdit.f
  rw [w64 (x := a - (x.f1.size : Int)) (by omega) (by omega)]
  by_cases c0 : a - (x.f1.size : Int) < 0
  · left; rw [if_pos c0]
  · rw [if_neg c0]
    rw [w64 (x := a - (x.f1.size : Int) - (x.f2.size : Int)) (by omega) (by omega)]
    by_cases c1 : a - (x.f1.size : Int) - (x.f2.size : Int) < 0
    · left; rw [if_pos c1]
    · rw [if_neg c1]
      exact .inr ⟨_, rfl, by omega, by omega⟩
theorem szEdit_l (l : List S98) (hl : l.length ≤ maxLen) (hw : ∀ y ∈ l, y.f1.size ≤ maxLen ∧ y.f2.size ≤ maxLen) (d : Nat) : ∀ (a : Int) (i : Nat), i ≤ l.length → l.length - i = d → 0 ≤ a → a ≤ 1048576 →
    Ev (fun k => laws_szEditS.l0 k l a i) (-1) ∨ ∃ b, Ev (fun k => laws_szEditS.l0 k l a i) b ∧ 0 ≤ b ∧ b ≤ a := by
  unfold maxLen at hl
  induction d with
  | zero =>
    intro a i hi hd h0 h1
    refine .inr ⟨a, ev_succ ?_, h0, Int.le_refl _⟩
    simp only [laws_szEditS.l0, if_neg (show ¬ (i : Int) < (l.length : Int) by omega)]
    exact ev_const rfl
  | succ d ih =>
    intro a i hi hd h0 h1
    have hlt : i < l.length := by omega
    rcases szEdit1 l[i] (hw _ (List.getElem_mem hlt)) h0 h1 with e | ⟨b, e, b0, b1⟩
    · refine .inl (ev_succ ?_)
      simp only [laws_szEditS.l0, if_pos (show (i : Int) < (l.length : Int) by omega), if_pos (show (0 : Int) ≤ (i : Int) by omega), rd_T98_at _ _ hlt, e, Option.bind_some, if_pos (show (-1 : Int) < 0 by omega)]
      exact ev_const rfl
    · rcases ih b (i + 1) (by omega) (by omega) b0 (by omega) with e2 | ⟨c, e2, c0, c1⟩
      · refine .inl (ev_succ ?_)
        simp only [laws_szEditS.l0, if_pos (show (i : Int) < (l.length : Int) by omega), if_pos (show (0 : Int) ≤ (i : Int) by omega), rd_T98_at _ _ hlt, e, Option.bind_some, if_neg (show ¬ b < 0 by omega), w64 (x := (i : Int) + 1) (by omega) (by omega)]
        exact e2
      · refine .inr ⟨c, ev_succ ?_, c0, by omega⟩
        simp only [laws_szEditS.l0, if_pos (show (i : Int) < (l.length : Int) by omega), if_pos (show (0 : Int) ≤ (i : Int) by omega), rd_T98_at _ _ hlt, e, Option.bind_some, if_neg (show ¬ b < 0 by omega), w64 (x := (i : Int) + 1) (by omega) (by omega)]
        exact e2
/-- The count of a list: none is left (the law then says nothing), or the list is short. -/
theorem szEdit_ev (l : List S98) (hl : l.length ≤ maxLen) (hw : ∀ y ∈ l, y.f1.size ≤ maxLen ∧ y.f2.size ≤ maxLen) {a : Int} (h0 : 0 ≤ a) (h1 : a ≤ 1048576) :
    Ev (fun k => laws_szEditS.f k l a) (-1) ∨ ∃ b, Ev (fun k => laws_szEditS.f k l a) b ∧ 0 ≤ b ∧ b ≤ a - l.length := by
  have hm := hl
  unfold maxLen at hm
  by_cases h : a - (l.length : Int) < 0
  · refine .inl (Ev.congr (fun k => by unfold laws_szEditS.f; rw [w64 (x := a - (l.length : Int)) (by omega) (by omega), if_pos h]) (Ev.now (-1)))
  · rcases szEdit_l l hl hw l.length (a - l.length) 0 (by omega) (by omega) (by omega) (by omega) with e | ⟨b, e, b0, b1⟩
    · exact .inl (Ev.congr (fun k => by unfold laws_szEditS.f; rw [w64 (x := a - (l.length : Int)) (by omega) (by omega), if_neg h]; rfl) e)
    · exact .inr ⟨b, Ev.congr (fun k => by unfold laws_szEditS.f; rw [w64 (x := a - (l.length : Int)) (by omega) (by omega), if_neg h]; rfl) e, b0, b1⟩

/-- What an edit must hold. -/
def EditOk (x : S102) : Prop := ((0 : Int) ≤ x.f0 ∧ x.f0 ≤ 11) ∧ Engr x.f1 ∧ Engr x.f2 ∧ x.f1 ≠ x.f2
instance instEditOk (x : S102) : Decidable (EditOk x) := by
  unfold EditOk
  exact @instDecidableAnd _ _ inferInstance (@instDecidableAnd _ _ inferInstance (@instDecidableAnd _ _ inferInstance (decidable_of_iff (¬ x.f1.toList = x.f2.toList) (by rw [toList_inj]))))
theorem spec_edit (x : S102) : Ev (fun k => spec_l13One.f k x.f0 x.f1 x.f2) (decide (EditOk x)) := by
  unfold spec_l13One.f
  simp only [in_val, Option.bind_some]
  by_cases h1 : 0 ≤ x.f0 ∧ x.f0 ≤ 11
  · simp only [decide_eq_true h1, if_true]
    refine Ev.bind (spec_engr x.f1) ?_
    by_cases h2 : Engr x.f1
    · simp only [decide_eq_true h2, if_true]
      refine Ev.bind (spec_engr x.f2) ?_
      by_cases h3 : Engr x.f2
      · simp only [decide_eq_true h3, if_true]
        refine ev_const (congrArg some ?_)
        by_cases h4 : x.f1 = x.f2
        · rw [decide_eq_false (show ¬ EditOk x from fun h => h.2.2.2 h4), h4]
          simp
        · rw [decide_eq_true (show EditOk x from ⟨h1, h2, h3, h4⟩)]
          simp only [bne_iff_ne, ne_eq]
          rw [toList_inj]
          exact h4
      · simp only [decide_eq_false h3, Bool.false_eq_true, if_false]
        exact ev_const (by rw [decide_eq_false (show ¬ EditOk x from fun h => h3 h.2.2.1)])
    · simp only [decide_eq_false h2, Bool.false_eq_true, if_false]
      exact ev_const (by rw [decide_eq_false (show ¬ EditOk x from fun h => h2 h.2.1)])
  · simp only [decide_eq_false h1, Bool.false_eq_true, if_false]
    exact ev_const (by rw [decide_eq_false (show ¬ EditOk x from fun h => h1 h.1)])
theorem impl_edit (x : S102) : impl_isEdit.f x.f0 x.f1 x.f2 = some (decide (EditOk x)) := by
  unfold impl_isEdit.f
  simp only [within_val, impl_engr, Option.bind_some]
  by_cases h1 : 0 ≤ x.f0 ∧ x.f0 ≤ 11
  · simp only [decide_eq_true h1, if_true]
    by_cases h2 : Engr x.f1
    · simp only [decide_eq_true h2, if_true]
      by_cases h3 : Engr x.f2
      · simp only [decide_eq_true h3, if_true]
        refine congrArg some ?_
        by_cases h4 : x.f1 = x.f2
        · rw [decide_eq_false (show ¬ EditOk x from fun h => h.2.2.2 h4), h4]
          simp
        · rw [decide_eq_true (show EditOk x from ⟨h1, h2, h3, h4⟩)]
          simp only [bne_iff_ne, ne_eq]
          rw [toList_inj]
          exact h4
      · simp only [decide_eq_false h3, Bool.false_eq_true, if_false]
        rw [decide_eq_false (show ¬ EditOk x from fun h => h3 h.2.2.1)]
    · simp only [decide_eq_false h2, Bool.false_eq_true, if_false]
      rw [decide_eq_false (show ¬ EditOk x from fun h => h2 h.2.1)]
  · simp only [decide_eq_false h1, Bool.false_eq_true, if_false]
    rw [decide_eq_false (show ¬ EditOk x from fun h => h1 h.1)]
/-- What edits must hold. -/
def EditsOk (l : List S102) : Prop := (∀ x ∈ l, EditOk x) ∧ (l.length : Int) ≤ 20
instance instEditsOk (l : List S102) : Decidable (EditsOk l) := by unfold EditsOk; infer_instance
def EditsFrom (l : List S102) (i : Nat) : Prop := (∀ x ∈ l.drop i, EditOk x) ∧ (l.length : Int) ≤ 20
instance instEditsFrom (l : List S102) (i : Nat) : Decidable (EditsFrom l i) := by unfold EditsFrom; infer_instance
theorem sedits_l (l : List S102) (hl : l.length ≤ 1048576) (d : Nat) : ∀ (i : Nat), i ≤ l.length → l.length - i = d → Ev (fun k => spec_l13Edits.l0 k l i) (decide (EditsFrom l i)) := by
  induction d with
  | zero =>
    intro i hi hd
    apply ev_succ
    simp only [spec_l13Edits.l0, if_neg (show ¬ (i : Int) < (l.length : Int) by omega)]
    refine ev_const (congrArg some (decide_eq_decide.2 ?_))
    unfold EditsFrom
    rw [List.drop_eq_nil_of_le (by omega)]
    simp
  | succ d ih =>
    intro i hi hd
    have hlt : i < l.length := by omega
    apply ev_succ
    simp only [spec_l13Edits.l0, if_pos (show (i : Int) < (l.length : Int) by omega), if_pos (show (0 : Int) ≤ (i : Int) by omega), rd_T102_at _ _ hlt, w64 (x := (i : Int) + 1) (by omega) (by omega)]
    refine Ev.bind (spec_edit l[i]) ?_
    by_cases h : EditOk l[i]
    · simp only [decide_eq_true h, if_true]
      have e : decide (EditsFrom l i) = decide (EditsFrom l (i + 1)) := by
        refine decide_eq_decide.2 ?_
        unfold EditsFrom
        rw [List.drop_eq_getElem_cons hlt, List.forall_mem_cons]
        exact ⟨fun x => ⟨x.1.2, x.2⟩, fun x => ⟨⟨h, x.1⟩, x.2⟩⟩
      rw [e]
      exact ih (i + 1) (by omega) (by omega)
    · simp only [decide_eq_false h, Bool.false_eq_true, if_false]
      refine ev_const ?_
      rw [decide_eq_false (show ¬ EditsFrom l i from fun h2 => h (h2.1 _ (by rw [List.drop_eq_getElem_cons hlt]; exact List.mem_cons_self)))]
theorem sedits_ev (l : List S102) (hl : l.length ≤ 1048576) : Ev (fun k => spec_l13Edits.f k l) (decide (EditsOk l)) := by
  have h := sedits_l l hl l.length 0 (by omega) (by omega)
  have e : decide (EditsOk l) = decide (EditsFrom l 0) := decide_eq_decide.2 Iff.rfl
  rw [e]
  exact h
theorem iedits_val (l : List S102) : impl_ValidEdits.f l = some (decide (EditsOk l)) := by
  have hb : ∀ x, impl_isEditBad x = !decide (EditOk x) := fun x => by unfold impl_isEditBad; rw [impl_edit]; rfl
  have ha : (!l.any impl_isEditBad) = decide (∀ s ∈ l, EditOk s) := by
    rw [show impl_isEditBad = fun x => !decide (EditOk x) from funext hb]
    rw [Bool.eq_iff_iff]
    simp
  unfold impl_ValidEdits.f
  rw [ha]
  by_cases h2 : (l.length : Int) ≤ 20
  · rw [if_pos h2]
    exact congrArg some (decide_eq_decide.2 ⟨fun h => ⟨h, h2⟩, fun h => h.1⟩)
  · rw [if_neg h2, decide_eq_false (show ¬ EditsOk l from fun h => h2 h.2)]

theorem markText_l (d : Nat) : ∀ (a : Int) (s : ByteArray), 0 ≤ a → a ≤ d → (s.size : Int) + a ≤ 8000000 → ∃ t, Ev (fun k => laws_markText.l0 k a s) t := by
  induction d with
  | zero =>
    intro a s h0 h1 h2
    refine ⟨(⟨#[109]⟩ : ByteArray) ++ s, ev_succ ?_⟩
    simp only [laws_markText.l0, if_neg (show ¬ a > 0 by omega), if_pos (show 1 + s.size ≤ 9223372036854775807 by omega)]
    exact ev_const rfl
  | succ d ih =>
    intro a s h0 h1 h2
    by_cases ha : a > 0
    · have hq : a / 10 < a := Int.ediv_lt_of_lt_mul (by omega) (by omega)
      have hq0 : 0 ≤ a / 10 := Int.ediv_nonneg h0 (by omega)
      obtain ⟨t, ht⟩ := ih (a / 10) (strOfNums [(wrap64 (48 + (Int.tmod a 10))) % 256] ++ s) hq0 (by omega) (by rw [ByteArray.size_append, strOfNums_size, List.length_singleton]; omega)
      refine ⟨t, ev_succ ?_⟩
      simp only [laws_markText.l0, if_pos ha, Option.bind_some, if_pos (show (strOfNums [(wrap64 (48 + (Int.tmod a 10))) % 256]).size + s.size ≤ 9223372036854775807 by rw [strOfNums_size, List.length_singleton]; omega), tdiv_nn h0, w64 (x := a / 10) (by omega) (by omega)]
      exact ht
    · refine ⟨(⟨#[109]⟩ : ByteArray) ++ s, ev_succ ?_⟩
      simp only [laws_markText.l0, if_neg ha, if_pos (show 1 + s.size ≤ 9223372036854775807 by omega)]
      exact ev_const rfl
theorem markText_ev {a : Int} (h0 : 0 ≤ a) (h1 : a ≤ 7000000) : ∃ t, Ev (fun k => laws_markText.f k a) t := by
  unfold laws_markText.f
  by_cases h : a ≤ 0
  · simp only [if_pos h]; exact ⟨_, ev_const rfl⟩
  · simp only [if_neg h]
    exact markText_l a.toNat a _ h0 (by omega) (by simp only [ByteArray.size, List.size_toArray, List.length_nil]; omega)

theorem markS_l (n : Nat) (hn : n ≤ 1048576) (d : Nat) : ∀ (x : List ByteArray) (a : Int) (i : Nat), x.length = n → i ≤ n → n - i = d → 0 ≤ a → a ≤ 4000000 + (i : Int) →
    ∃ b y, Ev (fun k => laws_markStringS.l0 k x a i) (b, y) ∧ a ≤ b ∧ b ≤ a + ((n : Int) - i) := by
  induction d with
  | zero =>
    intro x a i hx hi hd h0 h1
    refine ⟨a, x, ev_succ ?_, Int.le_refl _, by omega⟩
    simp only [laws_markStringS.l0, if_neg (show ¬ (i : Int) < (x.length : Int) by omega)]
    exact ev_const rfl
  | succ d ih =>
    intro x a i hx hi hd h0 h1
    obtain ⟨t, ht⟩ := markText_ev h0 (show a ≤ 7000000 by omega)
    obtain ⟨b, y, e, hb, hb2⟩ := ih (x.set i t) (a + 1) (i + 1) (by simpa using hx) (by omega) (by omega) (by omega) (by omega)
    refine ⟨b, y, ev_succ ?_, by omega, by omega⟩
    simp only [laws_markStringS.l0, if_pos (show (i : Int) < (x.length : Int) by omega), if_pos (show (0 : Int) ≤ (i : Int) by omega), Int.toNat_natCast, w64 (x := a + 1) (by omega) (by omega), w64 (x := (i : Int) + 1) (by omega) (by omega)]
    exact Ev.bind ht e
theorem markS_ev (x : List ByteArray) (hn : x.length ≤ 1048576) {a : Int} (h0 : 0 ≤ a) (h1 : a ≤ 4000000) : ∃ b y, Ev (fun k => laws_markStringS.f k x a) (b, y) ∧ a ≤ b ∧ b ≤ a + x.length := by
  obtain ⟨b, y, e, hb, hb2⟩ := markS_l x.length hn x.length x a 0 rfl (by omega) (by omega) h0 (by omega)
  exact ⟨b, y, e, hb, by omega⟩

theorem markH_l (n : Nat) (hn : n ≤ 1048576) (d : Nat) : ∀ (x : List ByteArray) (a : Int) (i : Nat), x.length = n → i ≤ n → n - i = d → 0 ≤ a → a ≤ 4000000 + (i : Int) →
    ∃ b y, Ev (fun k => laws_markStringS.l0 k x a i) (b, y) ∧ Ev (fun k => laws_heldStringS.l0 k y a i) b ∧ y.length = n ∧ y.take i = x.take i ∧ 0 ≤ b := by
  induction d with
  | zero =>
    intro x a i hx hi hd h0 h1
    refine ⟨a, x, ev_succ ?_, ev_succ ?_, hx, rfl, h0⟩
    · simp only [laws_markStringS.l0, if_neg (show ¬ (i : Int) < (x.length : Int) by omega)]
      exact ev_const rfl
    · simp only [laws_heldStringS.l0, if_neg (show ¬ (i : Int) < (x.length : Int) by omega)]
      exact ev_const rfl
  | succ d ih =>
    intro x a i hx hi hd h0 h1
    have hlt : i < x.length := by omega
    obtain ⟨t, ht⟩ := markText_ev h0 (show a ≤ 7000000 by omega)
    obtain ⟨b, y, e1, e2, hy, hk, hb⟩ := ih (x.set i t) (a + 1) (i + 1) (by simpa using hx) (by omega) (by omega) (by omega) (by omega)
    have hyl : i < y.length := by omega
    have hyi : y[i] = t := by
      have h2 : y[i] = (y.take (i + 1))[i]'(by rw [List.length_take]; omega) := by rw [List.getElem_take]
      rw [h2]
      simp only [hk, List.getElem_take, List.getElem_set_self]
    refine ⟨b, y, ev_succ ?_, ev_succ ?_, hy, ?_, hb⟩
    · simp only [laws_markStringS.l0, if_pos (show (i : Int) < (x.length : Int) by omega), if_pos (show (0 : Int) ≤ (i : Int) by omega), Int.toNat_natCast, w64 (x := a + 1) (by omega) (by omega), w64 (x := (i : Int) + 1) (by omega) (by omega)]
      exact Ev.bind ht e1
    · simp only [laws_heldStringS.l0, if_pos (show (i : Int) < (y.length : Int) by omega), if_pos (show (0 : Int) ≤ (i : Int) by omega), rdOf_at _ _ _ hyl, hyi, w64 (x := a + 1) (by omega) (by omega), w64 (x := (i : Int) + 1) (by omega) (by omega)]
      refine Ev.bind ht ?_
      simp only [if_true]
      exact e2
    · have h3 : y.take i = (y.take (i + 1)).take i := by rw [List.take_take]; congr 1; omega
      rw [h3, hk, List.take_take, Nat.min_eq_left (by omega), List.take_set_of_le (Nat.le_refl _)]
theorem markH_ev (x : List ByteArray) (hn : x.length ≤ 1048576) {a : Int} (h0 : 0 ≤ a) (h1 : a ≤ 4000000) : ∃ b y, Ev (fun k => laws_markStringS.f k x a) (b, y) ∧ Ev (fun k => laws_heldStringS.f k y a) b ∧ y.length = x.length ∧ 0 ≤ b := by
  obtain ⟨b, y, e1, e2, hy, _, hb⟩ := markH_l x.length hn x.length x a 0 rfl (by omega) (by omega) h0 (by omega)
  exact ⟨b, y, e1, e2, hy, hb⟩

theorem markE_l (n : Nat) (hn : n ≤ 1048576) (d : Nat) : ∀ (x : List S102) (a : Int) (i : Nat), x.length = n → i ≤ n → n - i = d → 0 ≤ a → a ≤ 3000000 + 3 * (i : Int) →
    ∃ b y, Ev (fun k => laws_markEditS.l0 k x a i) (b, y) ∧ 0 ≤ b := by
  induction d with
  | zero =>
    intro x a i hx hi hd h0 h1
    refine ⟨a, x, ev_succ ?_, h0⟩
    simp only [laws_markEditS.l0, if_neg (show ¬ (i : Int) < (x.length : Int) by omega)]
    exact ev_const rfl
  | succ d ih =>
    intro x a i hx hi hd h0 h1
    have hlt : i < x.length := by omega
    obtain ⟨t, ht⟩ := markText_ev (a := a + 1) (by omega) (by omega)
    obtain ⟨u, hu⟩ := markText_ev (a := a + 1 + 1) (by omega) (by omega)
    obtain ⟨b, y, e, hb⟩ := ih (x.set i ⟨a, t, u⟩) (a + 1 + 1 + 1) (i + 1) (by simpa using hx) (by omega) (by omega) (by omega) (by omega)
    have hrs : ∀ v : S102, rd_T102 (x.set i v) (i : Int) = v := by
      intro v
      have h3 : i < (x.set i v).length := by rw [List.length_set]; exact hlt
      rw [rd_T102_at (x.set i v) i h3, List.getElem_set_self]
    refine ⟨b, y, ev_succ ?_, hb⟩
    simp only [laws_markEditS.l0, Option.bind_some, Int.toNat_natCast, if_pos (show (i : Int) < (x.length : Int) by omega), if_pos (show (0 : Int) ≤ (i : Int) by omega), w64 (x := a + 1) (by omega) (by omega), w64 (x := a + 1 + 1) (by omega) (by omega), w64 (x := a + 1 + 1 + 1) (by omega) (by omega), w64 (x := (i : Int) + 1) (by omega) (by omega), hrs, List.set_set]
    exact Ev.bind ht (Ev.bind hu e)
theorem markE_ev (x : List S102) (hn : x.length ≤ 1048576) {a : Int} (h0 : 0 ≤ a) (h1 : a ≤ 3000000) : ∃ b y, Ev (fun k => laws_markEditS.f k x a) (b, y) ∧ 0 ≤ b :=
  markE_l x.length hn x.length x a 0 rfl (by omega) (by omega) h0 (by omega)

theorem put_val (out : List ByteArray) (x : S102) (h : EditOk x) : spec_l13Put.f out x.f0 x.f1 x.f2 = some (if x.f0 ≥ (out.length : Int) then ((2 : Int), out) else if (rdOf ByteArray.empty out x.f0).toList = x.f1.toList then (0, out.set (x.f0).toNat x.f2) else (9, out)) := by
  have h0 := h.1.1
  unfold spec_l13Put.f
  by_cases c : x.f0 ≥ (out.length : Int)
  · rw [if_pos c, if_pos c]
  · rw [if_neg c, if_neg c, if_pos h0, if_pos (by omega)]
    by_cases c2 : (rdOf ByteArray.empty out x.f0).toList = x.f1.toList
    · rw [if_pos c2, if_pos c2]
    · rw [if_neg c2, if_neg c2]

theorem turn_len (l : List S102) : (turnL l).length = l.length := by unfold turnL; rw [List.length_map, comeB_length]
theorem turn_at (l : List S102) (j : Nat) (h : j < l.length) : rd_T102 (turnL l) (j : Int) = ⟨(l[l.length - 1 - j]'(by omega)).f0, (l[l.length - 1 - j]'(by omega)).f2, (l[l.length - 1 - j]'(by omega)).f1⟩ := by
  rw [rd_T102_at (turnL l) j (by rw [turn_len]; exact h)]
  simp only [turnL, comeB, List.getElem_map, List.getElem_range, swapE]
  rw [rd_T102_at l (l.length - 1 - j) (by omega)]
theorem undo_l (l : List S102) (hl : l.length ≤ 1048576) (he : ∀ x ∈ l, EditOk x) (d : Nat) : ∀ (out : List ByteArray) (j : Nat), j ≤ l.length → l.length - j = d →
    ∃ res c, Ev (fun k => spec_UndoEdits.l0 k l out ((l.length : Int) - 1 - j)) (res, c) ∧ Ev (fun k => impl_applyEdits.l0 k out (turnL l) l.length j) (res, c) ∧ res.length ≤ out.length := by
  induction d with
  | zero =>
    intro out j hj hd
    refine ⟨out, 0, ev_succ ?_, ev_succ ?_, Nat.le_refl _⟩
    · simp only [spec_UndoEdits.l0, if_neg (show ¬ (l.length : Int) - 1 - j ≥ 0 by omega)]
      exact ev_const rfl
    · simp only [impl_applyEdits.l0, if_neg (show ¬ (j : Int) < (l.length : Int) by omega)]
      exact ev_const rfl
  | succ d ih =>
    intro out j hj hd
    have hlt : l.length - 1 - j < l.length := by omega
    have hjl : j < l.length := by omega
    have hx := he _ (List.getElem_mem hlt)
    have hx' : EditOk ⟨(l[l.length - 1 - j]).f0, (l[l.length - 1 - j]).f2, (l[l.length - 1 - j]).f1⟩ := ⟨hx.1, hx.2.2.1, hx.2.1, fun e => hx.2.2.2 e.symm⟩
    have hix : (l.length : Int) - 1 - j = ((l.length - 1 - j : Nat) : Int) := by omega
    have hrd := rd_T102_at l (l.length - 1 - j) hlt
    have htd := turn_at l j hjl
    have htl := turn_len l
    generalize l[l.length - 1 - j] = x at hx hx' hrd htd
    have h0 := hx.1.1
    have hp := put_val out ⟨x.f0, x.f2, x.f1⟩ hx'
    rw [hix]
    have g1 : (((l.length - 1 - j : Nat) : Int)) ≥ 0 := by omega
    have g2 : (((l.length - 1 - j : Nat) : Int)) < (l.length : Int) := by omega
    by_cases c1 : x.f0 ≥ (out.length : Int)
    · rw [if_pos c1] at hp
      refine ⟨[], 2, ev_succ ?_, ev_succ ?_, by simp⟩
      · simp only [spec_UndoEdits.l0, if_pos g1, if_pos (show (0 : Int) ≤ ((l.length - 1 - j : Nat) : Int) by omega), if_pos g2, hrd, hp, Option.bind_some, if_neg (show ¬ (2 : Int) = 0 by omega)]
        exact ev_const rfl
      · simp only [impl_applyEdits.l0, if_pos (show (j : Int) < (l.length : Int) by omega), if_pos (show (0 : Int) ≤ (j : Int) by omega), if_pos (show (j : Int) < ((turnL l).length : Int) by omega), htd, if_pos c1]
        exact ev_const rfl
    · rw [if_neg c1] at hp
      by_cases c2 : (rdOf ByteArray.empty out x.f0).toList = x.f2.toList
      · rw [if_pos c2] at hp
        obtain ⟨res, c, h1, h2, h3⟩ := ih (out.set (x.f0).toNat x.f1) (j + 1) (by omega) (by omega)
        refine ⟨res, c, ev_succ ?_, ev_succ ?_, by rw [List.length_set] at h3; exact h3⟩
        · simp only [spec_UndoEdits.l0, if_pos g1, if_pos (show (0 : Int) ≤ ((l.length - 1 - j : Nat) : Int) by omega), if_pos g2, hrd, hp, Option.bind_some, if_true, w64 (x := ((l.length - 1 - j : Nat) : Int) - 1) (by omega) (by omega)]
          rw [show ((l.length - 1 - j : Nat) : Int) - 1 = (l.length : Int) - 1 - ((j + 1 : Nat) : Int) by omega]
          exact h1
        · simp only [impl_applyEdits.l0, if_pos (show (j : Int) < (l.length : Int) by omega), if_pos (show (0 : Int) ≤ (j : Int) by omega), if_pos (show (j : Int) < ((turnL l).length : Int) by omega), htd, if_neg c1, if_pos h0, if_pos (show x.f0 < (out.length : Int) by omega), if_pos c2, w64 (x := (j : Int) + 1) (by omega) (by omega)]
          exact h2
      · rw [if_neg c2] at hp
        refine ⟨[], 9, ev_succ ?_, ev_succ ?_, by simp⟩
        · simp only [spec_UndoEdits.l0, if_pos g1, if_pos (show (0 : Int) ≤ ((l.length - 1 - j : Nat) : Int) by omega), if_pos g2, hrd, hp, Option.bind_some, if_neg (show ¬ (9 : Int) = 0 by omega)]
          exact ev_const rfl
        · simp only [impl_applyEdits.l0, if_pos (show (j : Int) < (l.length : Int) by omega), if_pos (show (0 : Int) ≤ (j : Int) by omega), if_pos (show (j : Int) < ((turnL l).length : Int) by omega), htd, if_neg c1, if_pos h0, if_pos (show x.f0 < (out.length : Int) by omega), if_neg c2]
          exact ev_const rfl
theorem undo_same (n : List ByteArray) (hn : n.length ≤ 1048576) (l : List S102) (hl : l.length ≤ 1048576) : ∃ res c, Ev (fun k => spec_UndoEdits.f k n l) (res, c) ∧ Ev (fun k => impl_UndoEdits.f k n l) (res, c) ∧ res.length ≤ n.length := by
  by_cases h1 : PlateOk n
  · by_cases h2 : EditsOk l
    · obtain ⟨res, c, e1, e2, e3⟩ := undo_l l hl h2.1 l.length n 0 (by omega) (by omega)
      refine ⟨res, c, ?_, ?_, e3⟩
      · unfold spec_UndoEdits.f
        refine Ev.bind (splate_ev n hn) ?_
        simp only [decide_eq_true h1, if_true]
        refine Ev.bind (sedits_ev l hl) ?_
        simp only [decide_eq_true h2, Bool.not_true]
        refine ev_succ ?_
        simp only [spec_UndoEdits.j0, Bool.false_eq_true, if_false, Option.bind_some, List.nil_append, if_pos (show (([] : List ByteArray)).length + n.length < 8796093022208 by simp only [List.length_nil]; omega), w64 (x := (l.length : Int) - 1) (by omega) (by omega)]
        rw [show (l.length : Int) - 1 - ((0 : Nat) : Int) = (l.length : Int) - 1 by omega] at e1
        exact e1
      · unfold impl_UndoEdits.f impl_applyEdits.f
        simp only [iplate_val, iedits_val, decide_eq_true h1, decide_eq_true h2, Option.bind_some, if_true, slices_Clone_string_string.f, if_pos (show n.length < 8796093022208 by omega), turn_len]
        exact e2
    · refine ⟨[], 1, ?_, ?_, by simp⟩
      · unfold spec_UndoEdits.f
        refine Ev.bind (splate_ev n hn) ?_
        simp only [decide_eq_true h1, if_true]
        refine Ev.bind (sedits_ev l hl) ?_
        simp only [decide_eq_false h2, Bool.not_false]
        refine ev_succ ?_
        simp only [spec_UndoEdits.j0, if_true]
        exact ev_const rfl
      · unfold impl_UndoEdits.f
        simp only [iplate_val, iedits_val, decide_eq_true h1, decide_eq_false h2, Option.bind_some, if_true, Bool.false_eq_true, if_false]
        exact ev_const rfl
  · refine ⟨[], 1, ?_, ?_, by simp⟩
    · unfold spec_UndoEdits.f
      refine Ev.bind (splate_ev n hn) ?_
      simp only [decide_eq_false h1, Bool.false_eq_true, if_false]
      refine ev_succ ?_
      simp only [spec_UndoEdits.j0, if_true]
      exact ev_const rfl
    · unfold impl_UndoEdits.f
      simp only [iplate_val, decide_eq_false h1, Option.bind_some, Bool.false_eq_true, if_false]
      exact ev_const rfl
theorem FnExactUndoEdits : laws_FnExactUndoEdits.Pure := by
  intro n l hn hwn hl hw
  apply Ev.rounds
  unfold laws_FnExactUndoEdits.f
  rcases szs_ev n hn hwn (a := 1048576) (by omega) (by omega) with e | ⟨b, e, b0, b1⟩
  · refine Ev.bind e ?_
    simp only [if_pos (show (-1 : Int) < 0 by omega)]
    exact ev_const rfl
  · refine Ev.bind e ?_
    simp only [if_neg (show ¬ b < 0 by omega)]
    rcases szEdit_ev l hl (fun y hy => (hw y hy).2) (a := b) (by omega) (by omega) with e2 | ⟨c, e2, c0, c1⟩
    · refine Ev.bind e2 ?_
      simp only [if_pos (show (-1 : Int) < 0 by omega)]
      exact ev_const rfl
    · refine Ev.bind e2 ?_
      simp only [if_neg (show ¬ c < 0 by omega)]
      have t0 := tos_ev n (by omega)
      have t1 := toEdit_ev l (by omega)
      have hml : (l.map cvEdit).length ≤ 1048576 := by rw [List.length_map]; omega
      obtain ⟨res, cd, s1, s2, s3⟩ := undo_same n (by omega) (l.map cvEdit) hml
      have q := eqs_ev res (by omega)
      obtain ⟨p0, y0, m0, n0, n00⟩ := markS_ev n (by omega) (a := 1) (by omega) (by omega)
      obtain ⟨p1, y1, m1, n1⟩ := markE_ev (l.map cvEdit) hml (a := p0) (by omega) (by omega)
      obtain ⟨p2, y2, m2, m3, n2, n3⟩ := markH_ev res (by omega) (a := 1) (by omega) (by omega)
      refine Ev.bind t0 (Ev.bind t1 (Ev.bind s1 (Ev.bind t0 (Ev.bind t1 (Ev.bind s2 (Ev.bind q ?_))))))
      simp only [if_true, bne_self_eq_false]
      refine ev_succ ?_
      simp only [laws_FnExactUndoEdits.j0, Bool.false_eq_true, if_false]
      refine Ev.bind t0 (Ev.bind (eqs_ev n (by omega)) ?_)
      simp only [if_true]
      refine Ev.bind t1 (Ev.bind (eqEdit_ev _ hml) ?_)
      simp only [if_true]
      refine Ev.bind m0 (Ev.bind m1 ?_)
      simp only [if_neg (show ¬ p1 < 0 by omega)]
      refine Ev.bind q ?_
      simp only [if_true, bne_self_eq_false]
      refine ev_succ ?_
      simp only [laws_FnExactUndoEdits.j1, Bool.false_eq_true, if_false]
      refine Ev.bind m2 (Ev.bind m3 ?_)
      simp only [if_neg (show ¬ p2 < 0 by omega), if_true]
      refine Ev.bind t0 (Ev.bind t1 (Ev.bind s2 (Ev.bind q ?_)))
      simp only [if_true, bne_self_eq_false]
      refine ev_succ ?_
      simp only [laws_FnExactUndoEdits.j2, Bool.false_eq_true, if_false]
      refine Ev.bind m3 ?_
      simp only [if_neg (show ¬ p2 < 0 by omega), if_true]
      exact ev_const rfl

end Go.Proofs.YtalmeecdjhelkaaDoor.Pure
