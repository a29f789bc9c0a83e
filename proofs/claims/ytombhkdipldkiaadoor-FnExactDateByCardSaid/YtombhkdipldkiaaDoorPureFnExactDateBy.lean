/- FnExactDateBy: the program's DateBy and the reference's come to the same, for all lists of known names and of names: both find all names, or not, and the same first and last year. -/
import Derived.Test.YtombhkdipldkiaaDoorStatFnExactDateBy
namespace Go.Proofs.YtombhkdipldkiaaDoor.Pure
open Go.RowKit Go.Proofs.YtombhkdipldkiaaDoor.PFnExactDateBy Go.Proofs.YtombhkdipldkiaaDoorW.PrintWords Go.Proofs.YtombhkdipldkiaaDoorW.PrintLast Go.Proofs.YtombhkdipldkiaaDoorW.PrintMore
set_option linter.unusedVariables false
set_option linter.unusedSimpArgs false
theorem wfb {a : Int} (h : (Lit.int .i64 a).wf = true) : -9223372036854775808 ≤ a ∧ a ≤ 9223372036854775807 := by
  simpa [Lit.wf, IntKind.min, IntKind.max, IntKind.signed, IntKind.bits] using h
theorem w64 {x : Int} (h : -9223372036854775808 ≤ x) (h2 : x ≤ 9223372036854775807) : wrap64 x = x := by unfold wrap64; omega
theorem tdiv_nn {a b : Int} (h : 0 ≤ a) : Int.tdiv a b = a / b := Int.tdiv_eq_ediv_of_nonneg h
theorem tmod_nn {a b : Int} (h : 0 ≤ a) : Int.tmod a b = a % b := Int.tmod_eq_emod_of_nonneg h
theorem floor_val (a b : Int) (hb : 0 < b) : (if Int.tmod a b < 0 then Int.tdiv a b - 1 else Int.tdiv a b) = a / b := by
  have h1 := Int.mul_tdiv_add_tmod a b
  have hlt : Int.tmod a b < b := Int.tmod_lt_of_pos a hb
  have hgt : -b < Int.tmod a b := by
    have h2 := Int.tmod_lt_of_pos (-a) hb
    rw [Int.neg_tmod] at h2
    omega
  symm
  split
  · rename_i hneg
    refine ((Int.ediv_emod_unique hb (r := Int.tmod a b + b)).2 ⟨?_, by omega, by omega⟩).1
    rw [Int.mul_sub, Int.mul_one]
    omega
  · rename_i hneg
    exact ((Int.ediv_emod_unique hb (r := Int.tmod a b)).2 ⟨by omega, by omega, by omega⟩).1
theorem ediv_bd {a b : Int} (hb : 0 < b) (B : Int) (h0 : -B ≤ a) (h1 : a ≤ B) (hB : 0 ≤ B) : -B ≤ a / b ∧ a / b ≤ B := by
  constructor
  · rw [Int.le_ediv_iff_mul_le hb]
    have : B * 1 ≤ B * b := Int.mul_le_mul_of_nonneg_left (by omega) hB
    rw [Int.neg_mul]; omega
  · have h2 : a / b ≤ B / b := Int.ediv_le_ediv hb h1
    have h3 : B / b ≤ B := Int.ediv_le_self b hB
    omega
theorem ceil_alt (a b : Int) (hb : 0 < b) : (a + b - 1) / b = -((-a) / b) := by
  have h1 := Int.mul_ediv_add_emod (-a) b
  have h2 := Int.emod_nonneg (-a) (b := b) (by omega)
  have h3 := Int.emod_lt_of_pos (-a) hb
  refine ((Int.ediv_emod_unique hb (r := b - 1 - (-a) % b)).2 ⟨?_, by omega, by omega⟩).1
  rw [Int.mul_neg]
  omega

theorem ev_succ {α : Type} {g : Nat → Option α} {r : α} (h : Ev (fun k => g (k + 1)) r) : Ev g r := Ev.step (fun _ => rfl) h
theorem ev_const {α : Type} {g : Option α} {r : α} (h : g = some r) : Ev (fun _ => g) r := ⟨0, fun _ _ => h⟩
theorem ev_uniq {α : Type} {g : Nat → Option α} {a b : α} (h : Ev g a) (h' : Ev g b) : a = b := by
  obtain ⟨K, h⟩ := h
  obtain ⟨K', h'⟩ := h'
  have h1 := h (K + K') (by omega)
  rw [h' (K + K') (by omega)] at h1
  exact (Option.some.inj h1).symm

theorem toList_inj {a b : ByteArray} : a.toList = b.toList ↔ a = b := by
  constructor
  · intro h
    rw [ByteArray.toList_eq, ByteArray.toList_eq] at h
    obtain ⟨⟨x⟩⟩ := a
    obtain ⟨⟨y⟩⟩ := b
    simp at h
    rw [h]
  · intro h; rw [h]
def sizes (l : List ByteArray) : Int := (l.map (fun s => (s.size : Int))).sum
theorem sizes_cons (s : ByteArray) (l : List ByteArray) : sizes (s :: l) = s.size + sizes l := by simp [sizes]
theorem sizes_nn (l : List ByteArray) : 0 ≤ sizes l := by
  induction l with
  | nil => simp [sizes]
  | cons s l ih => rw [sizes_cons]; omega
theorem sizes_drop (l : List ByteArray) (i : Nat) (h : i < l.length) : sizes (l.drop i) = (l[i]).size + sizes (l.drop (i + 1)) := by
  rw [List.drop_eq_getElem_cons h, sizes_cons]
theorem rdOf_at (d : ByteArray) (l : List ByteArray) (i : Nat) (h : i < l.length) : rdOf d l (i : Int) = l[i] := by
  unfold rdOf
  rw [Int.toNat_natCast, List.getD_eq_getElem?_getD, List.getElem?_eq_getElem h]
  rfl

theorem sz_l (l : List ByteArray) (hl : l.length ≤ maxLen) (hs : ∀ y ∈ l, y.size ≤ maxLen) (d : Nat) : ∀ (k : Nat) (a : Int) (i : Nat), i ≤ l.length → l.length - i = d → d < k → 0 ≤ a → a ≤ 1048576 →
    (a - sizes (l.drop i) < 0 ∧ laws_szStringS.l0 k l a i = some (-1)) ∨ (0 ≤ a - sizes (l.drop i) ∧ laws_szStringS.l0 k l a i = some (a - sizes (l.drop i))) := by
  unfold maxLen at hl hs
  induction d with
  | zero =>
    intro k a i hi hd hk h0 h1
    obtain ⟨k, rfl⟩ : ∃ m, k = m + 1 := ⟨k - 1, by omega⟩
    obtain rfl : i = l.length := by omega
    rw [List.drop_length]
    right
    simp only [laws_szStringS.l0, sizes, List.map_nil, List.sum_nil]
    rw [if_neg (by omega)]
    exact ⟨by omega, by congr 1; omega⟩
  | succ d ih =>
    intro k a i hi hd hk h0 h1
    obtain ⟨k, rfl⟩ : ∃ m, k = m + 1 := ⟨k - 1, by omega⟩
    have hlt : i < l.length := by omega
    have hsz := hs l[i] (List.getElem_mem hlt)
    have hnn := sizes_nn (l.drop (i + 1))
    rw [sizes_drop l i hlt]
    simp only [laws_szStringS.l0]
    rw [if_pos (by omega), if_pos (by omega), rdOf_at _ _ _ hlt, w64 (x := a - (l[i].size : Int)) (by omega) (by omega)]
    by_cases hn : a - (l[i].size : Int) < 0
    · left
      rw [if_pos hn]
      exact ⟨by omega, rfl⟩
    · rw [if_neg hn, w64 (x := (i : Int) + 1) (by omega) (by omega)]
      have := ih k (a - l[i].size) (i + 1) (by omega) (by omega) (by omega) (by omega) (by omega)
      rw [show ((i : Int) + 1) = ((i + 1 : Nat) : Int) from by omega]
      rw [show a - ((l[i].size : Int) + sizes (l.drop (i + 1))) = a - (l[i].size : Int) - sizes (l.drop (i + 1)) from by omega]
      exact this
/-- The count of a list of strings: none is left (the law then says nothing), or the list is short. -/
theorem sz_val (l : List ByteArray) (hl : l.length ≤ maxLen) (hs : ∀ y ∈ l, y.size ≤ maxLen) {a : Int} (h0 : 0 ≤ a) (h1 : a ≤ 1048576) {k : Nat} (hk : l.length < k) :
    laws_szStringS.f k l a = some (-1) ∨ (laws_szStringS.f k l a = some (a - l.length - sizes l) ∧ 0 ≤ a - l.length - sizes l) := by
  have h2 := hl
  unfold maxLen at h2
  unfold laws_szStringS.f
  rw [w64 (x := a - (l.length : Int)) (by omega) (by omega)]
  by_cases h : a - (l.length : Int) < 0
  · left; rw [if_pos h]
  · rw [if_neg h]
    rcases sz_l l hl hs l.length k (a - l.length) 0 (by omega) (by omega) hk (by omega) (by omega) with ⟨_, e⟩ | ⟨e1, e⟩
    · left; exact e
    · right
      rw [List.drop_zero] at e1 e
      exact ⟨e, e1⟩

theorem take_set_succ {α : Type} (x : List α) (i : Nat) (v : α) (h : i < x.length) : (x.set i v).take (i + 1) = x.take i ++ [v] := by
  rw [List.take_succ_eq_append_getElem (by simpa using h), List.getElem_set_self, List.take_set_of_le (Nat.le_refl _)]
theorem take_succ_get {α : Type} (x : List α) (i : Nat) (h : i < x.length) : x.take (i + 1) = x.take i ++ [x[i]] := List.take_succ_eq_append_getElem h
theorem tos_l (l : List ByteArray) (hl : l.length ≤ 17592186044416) (d : Nat) : ∀ (k : Nat) (x : List ByteArray) (i : Nat), i ≤ l.length → l.length - i = d → d < k → x.length = l.length → x.take i = l.take i → laws_toStringS.l0 k l x i = some l := by
  induction d with
  | zero =>
    intro k x i hi hd hk hx ht
    obtain ⟨k, rfl⟩ : ∃ m, k = m + 1 := ⟨k - 1, by omega⟩
    simp only [laws_toStringS.l0]
    rw [if_neg (by omega)]
    rw [List.take_of_length_le (by omega), List.take_of_length_le (by omega)] at ht
    rw [ht]
  | succ d ih =>
    intro k x i hi hd hk hx ht
    obtain ⟨k, rfl⟩ : ∃ m, k = m + 1 := ⟨k - 1, by omega⟩
    have hlt : i < l.length := by omega
    simp only [laws_toStringS.l0]
    rw [if_pos (by omega), if_pos (by omega), if_pos (by omega), rdOf_at _ _ _ hlt, w64 (x := (i : Int) + 1) (by omega) (by omega), Int.toNat_natCast]
    have := ih k (x.set i l[i]) (i + 1) (by omega) (by omega) (by omega) (by simpa using hx) (by rw [take_set_succ _ _ _ (by omega), take_succ_get l i hlt, ht])
    exact this
theorem tos_val (l : List ByteArray) (hl : l.length ≤ 17592186044416) {k : Nat} (hk : l.length < k) : laws_toStringS.f k l = some l := by
  unfold laws_toStringS.f
  rw [if_pos (by omega), if_pos (by simpa using hl)]
  exact tos_l l hl l.length k _ 0 (by omega) (by omega) hk (by simp) (by simp)

theorem getElem_ext {α : Type} {x y : List α} (h : x.length = y.length) (d : Nat) (i : Nat) (hi : i < x.length) : (x.drop i = y.drop i) ↔ (x[i] = y[i] ∧ x.drop (i + 1) = y.drop (i + 1)) := by
  rw [List.drop_eq_getElem_cons hi, List.drop_eq_getElem_cons (show i < y.length by omega), List.cons.injEq]
theorem eqs_l (x y : List ByteArray) (h : x.length = y.length) (hl : x.length ≤ maxLen) (d : Nat) : ∀ (k : Nat) (i : Nat), i ≤ x.length → x.length - i = d → d < k → laws_eqStringS.l0 k x y i = some (decide (x.drop i = y.drop i)) := by
  unfold maxLen at hl
  induction d with
  | zero =>
    intro k i hi hd hk
    obtain ⟨k, rfl⟩ : ∃ m, k = m + 1 := ⟨k - 1, by omega⟩
    simp only [laws_eqStringS.l0]
    rw [if_neg (by omega), List.drop_eq_nil_of_le (by omega), List.drop_eq_nil_of_le (by omega)]
    simp
  | succ d ih =>
    intro k i hi hd hk
    obtain ⟨k, rfl⟩ : ∃ m, k = m + 1 := ⟨k - 1, by omega⟩
    have hlt : i < x.length := by omega
    simp only [laws_eqStringS.l0]
    rw [if_pos (by omega), if_pos (by omega), if_pos (by omega), rdOf_at _ _ _ hlt, rdOf_at _ _ _ (by omega), w64 (x := (i : Int) + 1) (by omega) (by omega)]
    simp only [toList_inj]
    have e := getElem_ext h d i hlt
    by_cases hq : x[i] = y[i]
    · rw [if_pos hq]
      have := ih k (i + 1) (by omega) (by omega) (by omega)
      rw [show ((i : Int) + 1) = ((i + 1 : Nat) : Int) from by omega, this]
      congr 1
      rw [decide_eq_decide, e]
      simp [hq]
    · rw [if_neg hq]
      congr 1
      symm
      rw [decide_eq_false_iff_not, e]
      exact fun h => hq h.1
theorem eqs_val (x y : List ByteArray) (hl : x.length ≤ maxLen) {k : Nat} (hk : x.length < k) : laws_eqStringS.f k x y = some (decide (x = y)) := by
  unfold laws_eqStringS.f
  by_cases h : x.length = y.length
  · rw [if_pos (by omega)]
    have := eqs_l x y h hl x.length k 0 (by omega) (by omega) hk
    simpa using this
  · rw [if_neg (by omega)]
    congr 1; symm
    rw [decide_eq_false_iff_not]
    exact fun e => h (by rw [e])

theorem szs_ev (l : List ByteArray) (hl : l.length ≤ maxLen) (hs : ∀ y ∈ l, y.size ≤ maxLen) {a : Int} (h0 : 0 ≤ a) (h1 : a ≤ 1048576) :
    Ev (fun k => laws_szStringS.f k l a) (-1) ∨ ∃ b, Ev (fun k => laws_szStringS.f k l a) b ∧ 0 ≤ b ∧ b ≤ a - l.length := by
  have hn := sizes_nn l
  rcases sz_val l hl hs h0 h1 (k := l.length + 1) (by omega) with e | ⟨e, e1⟩
  · exact .inl (Ev.of (fun k => laws_szStringS.mono l a k) e)
  · exact .inr ⟨_, Ev.of (fun k => laws_szStringS.mono l a k) e, e1, by omega⟩
theorem tos_ev (l : List ByteArray) (hl : l.length ≤ 1048576) : Ev (fun k => laws_toStringS.f k l) l := ⟨l.length + 1, fun _ hk => tos_val l (by omega) (by omega)⟩
theorem eqs_ev (x : List ByteArray) (hl : x.length ≤ 1048576) : Ev (fun k => laws_eqStringS.f k x x) true := by
  have hm : x.length ≤ maxLen := by unfold maxLen; omega
  exact ⟨x.length + 1, fun k hk => by show laws_eqStringS.f k x x = some true; rw [eqs_val x x hm (by omega)]; simp⟩

/-- A byte that a name may have. -/
def nameC (c : Int) : Prop := ((97 : Int) ≤ c ∧ c ≤ 122) ∨ ((48 : Int) ≤ c ∧ c ≤ 57) ∨ c = 45
instance instNameC (c : Int) : Decidable (nameC c) := by unfold nameC; infer_instance
/-- A name. -/
def IsNm (s : ByteArray) : Prop := 1 ≤ s.size ∧ s.size ≤ 12 ∧ ((97 : Int) ≤ bt s 0 ∧ bt s 0 ≤ 122) ∧ ∀ i, i < s.size → nameC (bt s (i : Int))
instance instIsNm (s : ByteArray) : Decidable (IsNm s) := by unfold IsNm; infer_instance
theorem toList_nil (s : ByteArray) : s.toList = ([] : List UInt8) ↔ s.size = 0 := by
  rw [ByteArray.toList_eq]
  obtain ⟨⟨x⟩⟩ := s
  show x = [] ↔ x.length = 0
  rw [List.length_eq_zero_iff]
theorem bt_at (s : ByteArray) (i : Nat) (h : i < s.size) : bt s (i : Int) = ((s.data.toList[i]'(by simpa using h)).toNat : Int) := by
  unfold bt
  rw [dif_pos (by simpa using h)]
  rfl
open Classical in
theorem snm_l (s : ByteArray) (hs : s.size ≤ 12) (d : Nat) : ∀ (i : Nat), i ≤ s.size → s.size - i = d → Ev (fun k => spec_IsName.l0 k s i) (decide (∀ j, i ≤ j → j < s.size → nameC (bt s (j : Int)))) := by
  induction d with
  | zero =>
    intro i hi hd
    apply ev_succ
    simp only [spec_IsName.l0, if_neg (show ¬ (i : Int) < (s.size : Int) by omega)]
    refine ev_const ?_
    congr 1
    symm
    rw [decide_eq_true_iff]
    intro j h1 h2; omega
  | succ d ih =>
    intro i hi hd
    have hlt : i < s.size := by omega
    have hih := ih (i + 1) (by omega) (by omega)
    have step : nameC (bt s (i : Int)) → (decide (∀ j, i ≤ j → j < s.size → nameC (bt s (j : Int)))) = decide (∀ j, i + 1 ≤ j → j < s.size → nameC (bt s (j : Int))) := by
      intro hc
      rw [decide_eq_decide]
      constructor
      · intro h j h1 h2; exact h j (by omega) h2
      · intro h j h1 h2
        by_cases e : j = i
        · subst e; exact hc
        · exact h j (by omega) h2
    apply ev_succ
    simp only [spec_IsName.l0, spec_l01Small.f, spec_l01Digit.f, if_pos (show (i : Int) < (s.size : Int) by omega), if_pos (show (0 : Int) ≤ (i : Int) by omega), w64 (x := (i : Int) + 1) (by omega) (by omega)]
    by_cases h1 : 97 ≤ bt s (i : Int) ∧ bt s (i : Int) ≤ 122
    · simp only [ge_iff_le, if_pos h1.1, Option.bind_some, decide_eq_true h1.2, if_true]
      rw [step (.inl h1)]
      exact hih
    · have e1 : (if bt s (i : Int) ≥ 97 then some (decide (bt s (i : Int) ≤ 122)) else some false) = some false := by
        by_cases h : bt s (i : Int) ≥ 97
        · rw [if_pos h, decide_eq_false (fun h2 => h1 ⟨h, h2⟩)]
        · rw [if_neg h]
      simp only [e1, Option.bind_some, Bool.false_eq_true, if_false]
      by_cases h2 : 48 ≤ bt s (i : Int) ∧ bt s (i : Int) ≤ 57
      · simp only [ge_iff_le, if_pos h2.1, Option.bind_some, decide_eq_true h2.2, if_true]
        rw [step (.inr (.inl h2))]
        exact hih
      · have e2 : (if bt s (i : Int) ≥ 48 then some (decide (bt s (i : Int) ≤ 57)) else some false) = some false := by
          by_cases h : bt s (i : Int) ≥ 48
          · rw [if_pos h, decide_eq_false (fun h3 => h2 ⟨h, h3⟩)]
          · rw [if_neg h]
        simp only [e2, Option.bind_some, Bool.false_eq_true, if_false]
        by_cases h3 : bt s (i : Int) = 45
        · simp only [if_pos h3]
          rw [step (.inr (.inr h3))]
          exact hih
        · simp only [if_neg h3]
          refine ev_const ?_
          congr 1
          symm
          rw [decide_eq_false_iff_not]
          intro h
          rcases h i (by omega) hlt with h | h | h
          · exact h1 h
          · exact h2 h
          · exact h3 h
theorem spec_name (s : ByteArray) : Ev (fun k => spec_IsName.f k s) (decide (IsNm s)) := by
  classical
  have no : ¬ IsNm s → Ev (fun k => spec_IsName.j0 k s true) (decide (IsNm s)) := fun h => by
    refine ev_succ ?_
    simp only [spec_IsName.j0, if_true]
    exact ev_const (by rw [decide_eq_false h])
  unfold spec_IsName.f
  by_cases h0 : s.size = 0
  · simp only [if_pos ((toList_nil s).2 h0)]
    exact no (fun h => by have := h.1; omega)
  · simp only [if_neg (fun h => h0 ((toList_nil s).1 h))]
    by_cases h1 : (s.size : Int) > 12
    · simp only [if_pos h1]
      exact no (fun h => by have := h.2.1; omega)
    · simp only [if_neg h1, if_pos (show (0 : Int) < (s.size : Int) by omega), spec_l01Small.f]
      by_cases h2 : 97 ≤ bt s 0 ∧ bt s 0 ≤ 122
      · simp only [ge_iff_le, if_pos h2.1, Option.bind_some, decide_eq_true h2.2, Bool.not_true]
        refine ev_succ ?_
        simp only [spec_IsName.j0, Bool.false_eq_true, if_false]
        have := snm_l s (by omega) s.size 0 (by omega) (by omega)
        have e : (decide (IsNm s)) = decide (∀ j, 0 ≤ j → j < s.size → nameC (bt s (j : Int))) := by
          rw [decide_eq_decide]
          exact ⟨fun h j _ hj => h.2.2.2 j hj, fun h => ⟨by omega, by omega, h2, fun j hj => h j (by omega) hj⟩⟩
        rw [e]
        exact this
      · have e1 : (if bt s 0 ≥ 97 then some (decide (bt s 0 ≤ 122)) else some false) = some false := by
          by_cases h : bt s 0 ≥ 97
          · rw [if_pos h, decide_eq_false (fun h3 => h2 ⟨h, h3⟩)]
          · rw [if_neg h]
        simp only [e1, Option.bind_some, Bool.not_false]
        exact no (fun h => h2 h.2.2.1)

theorem dw_nil (p : UInt8 → Bool) (l : List UInt8) : l.dropWhile p = [] ↔ ∀ b ∈ l, p b = true := by
  induction l with
  | nil => simp
  | cons a l ih =>
    by_cases h : p a = true
    · simp [List.dropWhile, h, ih]
    · simp [List.dropWhile, h]
theorem dw_head (p : UInt8 → Bool) (l : List UInt8) (x : UInt8) (xs : List UInt8) (h : l.dropWhile p = x :: xs) : p x = false := by
  induction l with
  | nil => simp at h
  | cons a l ih =>
    by_cases h2 : p a = true
    · simp only [List.dropWhile, h2] at h
      exact ih h
    · have h3 : p a = false := by simpa using h2
      simp only [List.dropWhile, h3, List.cons.injEq] at h
      rw [← h.1]; exact h3
theorem trimS_nil (l cs : List UInt8) : Go.Lib.trimS l cs = [] ↔ ∀ b ∈ l, cs.contains b = true := by
  unfold Go.Lib.trimS Go.Lib.trimLeftS Go.Lib.trimRightS
  rw [dw_nil]
  constructor
  · intro h b hb
    cases e : l.reverse.dropWhile (cs.contains ·) with
    | nil =>
      rw [dw_nil] at e
      exact e b (by simpa using hb)
    | cons x xs =>
      exfalso
      have h1 := dw_head _ _ _ _ e
      have h2 := h x (by rw [e]; simp)
      rw [h2] at h1
      cases h1
  · intro h b hb
    exact h b (by simpa using (List.dropWhile_sublist _).subset (List.mem_reverse.1 hb))
theorem name_cut (b : UInt8) : ([97, 98, 99, 100, 101, 102, 103, 104, 105, 106, 107, 108, 109, 110, 111, 112, 113, 114, 115, 116, 117, 118, 119, 120, 121, 122, 48, 49, 50, 51, 52, 53, 54, 55, 56, 57, 45] : List UInt8).contains b = decide (nameC (b.toNat : Int)) := by
  have key : ((List.range 256).all fun n => (([97, 98, 99, 100, 101, 102, 103, 104, 105, 106, 107, 108, 109, 110, 111, 112, 113, 114, 115, 116, 117, 118, 119, 120, 121, 122, 48, 49, 50, 51, 52, 53, 54, 55, 56, 57, 45] : List UInt8).contains (UInt8.ofNat n) == decide (((97 : Int) ≤ (n : Int) ∧ (n : Int) ≤ 122) ∨ ((48 : Int) ≤ (n : Int) ∧ (n : Int) ≤ 57) ∨ (n : Int) = 45))) = true := by decide +kernel
  have h := List.all_eq_true.1 key b.toNat (List.mem_range.2 b.toNat_lt)
  rw [UInt8.ofNat_toNat] at h
  rw [beq_iff_eq] at h
  rw [h]
  rfl
theorem impl_name (s : ByteArray) : impl_IsName.f s = some (decide (IsNm s)) := by
  unfold impl_IsName.f
  by_cases h0 : (s.size : Int) < 1
  · rw [if_pos h0, decide_eq_false (fun h => by have := h.1; omega)]
  · rw [if_neg h0]
    by_cases h1 : (s.size : Int) > 12
    · rw [if_pos h1, decide_eq_false (fun h => by have := h.2.1; omega)]
    · rw [if_neg h1, if_pos (by omega)]
      by_cases h2 : bt s 0 < 97
      · rw [if_pos h2, decide_eq_false (fun h => by have := h.2.2.1.1; omega)]
      · rw [if_neg h2]
        by_cases h3 : bt s 0 > 122
        · rw [if_pos h3, decide_eq_false (fun h => by have := h.2.2.1.2; omega)]
        · rw [if_neg h3]
          unfold strings_Trim.f
          rw [if_pos ⟨by omega, by decide, by decide +kernel⟩]
          simp only [Option.bind_some]
          congr 1
          have e : (decide (IsNm s)) = decide (∀ b ∈ s.data.toList, nameC (b.toNat : Int)) := by
            rw [decide_eq_decide]
            constructor
            · intro h b hb
              obtain ⟨j, hj, rfl⟩ := List.getElem_of_mem hb
              have := h.2.2.2 j (by simpa using hj)
              rw [bt_at s j (by simpa using hj)] at this
              exact this
            · intro h
              refine ⟨by omega, by omega, ⟨by omega, by omega⟩, fun j hj => ?_⟩
              rw [bt_at s j hj]
              exact h _ (List.getElem_mem _)
          rw [e]
          have e2 : ∀ t : List UInt8, (({ data := t.toArray } : ByteArray).toList == ([] : List UInt8)) = decide (t = []) := by
            intro t
            rw [ByteArray.toList_eq]
            cases t <;> simp
          rw [e2, decide_eq_decide, trimS_nil]
          constructor
          · intro h b hb
            have := h b hb
            rw [name_cut] at this
            exact of_decide_eq_true this
          · intro h b hb
            rw [name_cut]
            exact decide_eq_true (h b hb)

theorem in_val (a b c : Int) : spec_l00In.f a b c = some (decide (b ≤ a ∧ a ≤ c)) := by
  unfold spec_l00In.f
  by_cases h : a ≥ b <;> by_cases h2 : a ≤ c <;> simp [h, h2] <;> omega
theorem within_val (a b c : Int) : impl_within.f a b c = some (decide (b ≤ a ∧ a ≤ c)) := in_val a b c

theorem rd_T121_at (l : List S121) (i : Nat) (h : i < l.length) : rd_T121 l (i : Int) = l[i] := by
  unfold rd_T121
  rw [Int.toNat_natCast, List.getD_eq_getElem?_getD, List.getElem?_eq_getElem h]
  rfl

theorem rd_T123_at (l : List S123) (i : Nat) (h : i < l.length) : rd_T123 l (i : Int) = l[i] := by
  unfold rd_T123
  rw [Int.toNat_natCast, List.getD_eq_getElem?_getD, List.getElem?_eq_getElem h]
  rfl

def cvKnown (x : S121) : S123 := ⟨x.f0, x.f1, x.f2⟩
theorem take_set_Known (x : List S123) (i : Nat) (v : S123) (h : i < x.length) : (x.set i v).take (i + 1) = x.take i ++ [v] := by
  rw [List.take_succ_eq_append_getElem (by simpa using h), List.getElem_set_self, List.take_set_of_le (Nat.le_refl _)]
theorem toKnown_l (l : List S121) (hl : l.length ≤ 1048576) (d : Nat) : ∀ (x : List S123) (i : Nat), i ≤ l.length → l.length - i = d → x.length = l.length → x.take i = (l.map cvKnown).take i → Ev (fun k => laws_toKnownS.l0 k l x i) (l.map cvKnown) := by
  induction d with
  | zero =>
    intro x i hi hd hx ht
    apply ev_succ
    simp only [laws_toKnownS.l0]
    rw [List.take_of_length_le (by omega), List.take_of_length_le (by simp; omega)] at ht
    simp only [if_neg (show ¬ (i : Int) < (l.length : Int) by omega)]
    rw [ht]
    exact ev_const rfl
  | succ d ih =>
    intro x i hi hd hx ht
    have hlt : i < l.length := by omega
    apply ev_succ
    simp only [laws_toKnownS.l0, laws_toKnown.f, Option.bind_some, if_pos (show (i : Int) < (l.length : Int) by omega), if_pos (show (0 : Int) ≤ (i : Int) by omega), if_pos (show (i : Int) < (x.length : Int) by omega), rd_T121_at _ _ hlt, w64 (x := (i : Int) + 1) (by omega) (by omega), Int.toNat_natCast]
    exact ih (x.set i (cvKnown l[i])) (i + 1) (by omega) (by omega) (by simpa using hx) (by rw [take_set_Known _ _ _ (by omega), List.take_succ_eq_append_getElem (by simpa using hlt), ht, List.getElem_map])
theorem toKnown_ev (l : List S121) (hl : l.length ≤ 1048576) : Ev (fun k => laws_toKnownS.f k l) (l.map cvKnown) := by
  refine Ev.congr (fun k => by unfold laws_toKnownS.f; rw [if_pos (by omega), if_pos (by omega)]) ?_
  exact toKnown_l l hl l.length _ 0 (by omega) (by omega) (by simp) (by simp)

theorem eqKnown_l (x : List S123) (hl : x.length ≤ 1048576) (d : Nat) : ∀ (i : Nat), i ≤ x.length → x.length - i = d → Ev (fun k => laws_eqKnownS.l0 k x x i) true := by
  induction d with
  | zero =>
    intro i hi hd
    apply ev_succ
    simp only [laws_eqKnownS.l0, if_neg (show ¬ (i : Int) < (x.length : Int) by omega)]
    exact ev_const rfl
  | succ d ih =>
    intro i hi hd
    apply ev_succ
    simp only [laws_eqKnownS.l0, laws_eqKnown.f, if_true, Option.bind_some, if_pos (show (i : Int) < (x.length : Int) by omega), if_pos (show (0 : Int) ≤ (i : Int) by omega), w64 (x := (i : Int) + 1) (by omega) (by omega)]
    exact ih (i + 1) (by omega) (by omega)
theorem eqKnown_ev (x : List S123) (hl : x.length ≤ 1048576) : Ev (fun k => laws_eqKnownS.f k x x) true := by
  unfold laws_eqKnownS.f
  simp only [if_true]
  exact eqKnown_l x hl x.length 0 (by omega) (by omega)

theorem szKnown1 (x : S121) (hx : x.f0.size ≤ maxLen) {a : Int} (h0 : 0 ≤ a) (h1 : a ≤ 1048576) : laws_szKnown.f x.f0 x.f1 x.f2 a = some (-1) ∨ ∃ b, laws_szKnown.f x.f0 x.f1 x.f2 a = some b ∧ 0 ≤ b ∧ b ≤ a := by
  unfold maxLen at hx
  unfold laws_szKnown.f
  rw [w64 (x := a - (x.f0.size : Int)) (by omega) (by omega)]
  by_cases c0 : a - (x.f0.size : Int) < 0
  · left; rw [if_pos c0]
  · rw [if_neg c0]
    exact .inr ⟨_, rfl, by omega, by omega⟩
theorem szKnown_l (l : List S121) (hl : l.length ≤ maxLen) (hw : ∀ y ∈ l, y.f0.size ≤ maxLen) (d : Nat) : ∀ (a : Int) (i : Nat), i ≤ l.length → l.length - i = d → 0 ≤ a → a ≤ 1048576 →
    Ev (fun k => laws_szKnownS.l0 k l a i) (-1) ∨ ∃ b, Ev (fun k => laws_szKnownS.l0 k l a i) b ∧ 0 ≤ b ∧ b ≤ a := by
  unfold maxLen at hl
  induction d with
  | zero =>
    intro a i hi hd h0 h1
    refine .inr ⟨a, ev_succ ?_, h0, Int.le_refl _⟩
    simp only [laws_szKnownS.l0, if_neg (show ¬ (i : Int) < (l.length : Int) by omega)]
    exact ev_const rfl
  | succ d ih =>
    intro a i hi hd h0 h1
    have hlt : i < l.length := by omega
    rcases szKnown1 l[i] (hw _ (List.getElem_mem hlt)) h0 h1 with e | ⟨b, e, b0, b1⟩
    · refine .inl (ev_succ ?_)
      simp only [laws_szKnownS.l0, if_pos (show (i : Int) < (l.length : Int) by omega), if_pos (show (0 : Int) ≤ (i : Int) by omega), rd_T121_at _ _ hlt, e, Option.bind_some, if_pos (show (-1 : Int) < 0 by omega)]
      exact ev_const rfl
    · rcases ih b (i + 1) (by omega) (by omega) b0 (by omega) with e2 | ⟨c, e2, c0, c1⟩
      · refine .inl (ev_succ ?_)
        simp only [laws_szKnownS.l0, if_pos (show (i : Int) < (l.length : Int) by omega), if_pos (show (0 : Int) ≤ (i : Int) by omega), rd_T121_at _ _ hlt, e, Option.bind_some, if_neg (show ¬ b < 0 by omega), w64 (x := (i : Int) + 1) (by omega) (by omega)]
        exact e2
      · refine .inr ⟨c, ev_succ ?_, c0, by omega⟩
        simp only [laws_szKnownS.l0, if_pos (show (i : Int) < (l.length : Int) by omega), if_pos (show (0 : Int) ≤ (i : Int) by omega), rd_T121_at _ _ hlt, e, Option.bind_some, if_neg (show ¬ b < 0 by omega), w64 (x := (i : Int) + 1) (by omega) (by omega)]
        exact e2
/-- The count of a list: none is left (the law then says nothing), or the list is short. -/
theorem szKnown_ev (l : List S121) (hl : l.length ≤ maxLen) (hw : ∀ y ∈ l, y.f0.size ≤ maxLen) {a : Int} (h0 : 0 ≤ a) (h1 : a ≤ 1048576) :
    Ev (fun k => laws_szKnownS.f k l a) (-1) ∨ ∃ b, Ev (fun k => laws_szKnownS.f k l a) b ∧ 0 ≤ b ∧ b ≤ a - l.length := by
  have hm := hl
  unfold maxLen at hm
  by_cases h : a - (l.length : Int) < 0
  · refine .inl (Ev.congr (fun k => by unfold laws_szKnownS.f; rw [w64 (x := a - (l.length : Int)) (by omega) (by omega), if_pos h]) (Ev.now (-1)))
  · rcases szKnown_l l hl hw l.length (a - l.length) 0 (by omega) (by omega) (by omega) (by omega) with e | ⟨b, e, b0, b1⟩
    · exact .inl (Ev.congr (fun k => by unfold laws_szKnownS.f; rw [w64 (x := a - (l.length : Int)) (by omega) (by omega), if_neg h]; rfl) e)
    · exact .inr ⟨b, Ev.congr (fun k => by unfold laws_szKnownS.f; rw [w64 (x := a - (l.length : Int)) (by omega) (by omega), if_neg h]; rfl) e, b0, b1⟩

theorem known_l (l : List S123) (hl : l.length ≤ 1048576) (d : Nat) : ∀ (i : Nat), i ≤ l.length → l.length - i = d → ∃ r, Ev (fun k => spec_l14Known.l0 k l i) r ∧ Ev (fun k => impl_ValidKnown.l0 k l l l.length i) r := by
  induction d with
  | zero =>
    intro i hi hd
    refine ⟨decide ((l.length : Int) ≤ 30), ev_succ ?_, ev_succ ?_⟩
    · simp only [spec_l14Known.l0, if_neg (show ¬ (i : Int) < (l.length : Int) by omega)]
      exact ev_const rfl
    · simp only [impl_ValidKnown.l0, if_neg (show ¬ (i : Int) < (l.length : Int) by omega)]
      exact ev_const rfl
  | succ d ih =>
    intro i hi hd
    have hlt : i < l.length := by omega
    obtain ⟨r, h1, h2⟩ := ih (i + 1) (by omega) (by omega)
    have hn := spec_name l[i].f0
    have hs : ∀ v, Ev (fun k => (if decide (IsNm l[i].f0) = true then ((spec_l14Year.f l[i].f1).bind fun t111 => (if t111 = true then ((spec_l00In.f l[i].f2 l[i].f1 3000).bind fun t112 => (if t112 = true then (if (i : Int) > 0 then (if 0 ≤ (wrap64 ((i : Int) - 1)) then (if (wrap64 ((i : Int) - 1)) < (l.length : Int) then (if ((Op.bytesLess (((rd_T123 l (wrap64 ((i : Int) - 1))).f0).toList) ((l[i].f0).toList)) = true) then (spec_l14Known.l0 k l (wrap64 ((i : Int) + 1))) else (some false)) else (none)) else (none)) else (spec_l14Known.l0 k l (wrap64 ((i : Int) + 1)))) else (some false))) else (some false))) else (some false))) v → Ev (fun k => spec_l14Known.l0 k l i) v := by
      intro v hv
      refine ev_succ ?_
      simp only [spec_l14Known.l0, if_pos (show (i : Int) < (l.length : Int) by omega), if_pos (show (0 : Int) ≤ (i : Int) by omega), rd_T123_at _ _ hlt]
      exact Ev.bind hn hv
    have hii : ∀ v, Ev (fun k => (if decide (IsNm l[i].f0) = true then ((impl_within.f l[i].f1 1 l[i].f2).bind fun t131 => (if t131 = true then (if l[i].f2 > 3000 then (some false) else (if (i : Int) > 0 then (if 0 ≤ (wrap64 ((i : Int) - 1)) then (if (wrap64 ((i : Int) - 1)) < (l.length : Int) then (if ((Op.bytesLess (((rd_T123 l (wrap64 ((i : Int) - 1))).f0).toList) ((l[i].f0).toList)) = true) then (impl_ValidKnown.l0 k l l l.length (wrap64 ((i : Int) + 1))) else (some false)) else (none)) else (none)) else (impl_ValidKnown.l0 k l l l.length (wrap64 ((i : Int) + 1))))) else (some false))) else (some false))) v → Ev (fun k => impl_ValidKnown.l0 k l l l.length i) v := by
      intro v hv
      refine ev_succ ?_
      simp only [impl_ValidKnown.l0, if_pos (show (i : Int) < (l.length : Int) by omega), if_pos (show (0 : Int) ≤ (i : Int) by omega), rd_T123_at _ _ hlt, impl_name, Option.bind_some]
      exact hv
    by_cases c1 : IsNm l[i].f0
    · by_cases c2 : (1 ≤ l[i].f1 ∧ l[i].f1 ≤ 3000) ∧ (l[i].f1 ≤ l[i].f2 ∧ l[i].f2 ≤ 3000)
      · have cs : spec_l14Year.f l[i].f1 = some true := by unfold spec_l14Year.f; rw [in_val, decide_eq_true c2.1]; rfl
        have ci : impl_within.f l[i].f1 1 l[i].f2 = some true := by rw [within_val, decide_eq_true ⟨c2.1.1, c2.2.1⟩]
        have ct : spec_l00In.f l[i].f2 l[i].f1 3000 = some true := by rw [in_val, decide_eq_true c2.2]
        by_cases c3 : i = 0
        · refine ⟨r, hs r ?_, hii r ?_⟩
          · simp only [decide_eq_true c1, if_true, cs, ct, Option.bind_some, if_neg (show ¬ (i : Int) > 0 by omega), w64 (x := (i : Int) + 1) (by omega) (by omega)]
            exact h1
          · simp only [decide_eq_true c1, if_true, ci, Option.bind_some, if_neg (show ¬ l[i].f2 > 3000 by omega), if_neg (show ¬ (i : Int) > 0 by omega), w64 (x := (i : Int) + 1) (by omega) (by omega)]
            exact h2
        · by_cases c4 : Op.bytesLess (((rd_T123 l ((i : Int) - 1)).f0).toList) ((l[i].f0).toList) = true
          · refine ⟨r, hs r ?_, hii r ?_⟩
            · simp only [decide_eq_true c1, if_true, cs, ct, Option.bind_some, if_pos (show (i : Int) > 0 by omega), w64 (x := (i : Int) - 1) (by omega) (by omega), if_pos (show (0 : Int) ≤ (i : Int) - 1 by omega), if_pos (show (i : Int) - 1 < (l.length : Int) by omega), c4, w64 (x := (i : Int) + 1) (by omega) (by omega)]
              exact h1
            · simp only [decide_eq_true c1, if_true, ci, Option.bind_some, if_neg (show ¬ l[i].f2 > 3000 by omega), if_pos (show (i : Int) > 0 by omega), w64 (x := (i : Int) - 1) (by omega) (by omega), if_pos (show (0 : Int) ≤ (i : Int) - 1 by omega), if_pos (show (i : Int) - 1 < (l.length : Int) by omega), c4, w64 (x := (i : Int) + 1) (by omega) (by omega)]
              exact h2
          · refine ⟨false, hs _ ?_, hii _ ?_⟩
            · simp only [decide_eq_true c1, if_true, cs, ct, Option.bind_some, if_pos (show (i : Int) > 0 by omega), w64 (x := (i : Int) - 1) (by omega) (by omega), if_pos (show (0 : Int) ≤ (i : Int) - 1 by omega), if_pos (show (i : Int) - 1 < (l.length : Int) by omega), if_neg c4]
              exact ev_const rfl
            · simp only [decide_eq_true c1, if_true, ci, Option.bind_some, if_neg (show ¬ l[i].f2 > 3000 by omega), if_pos (show (i : Int) > 0 by omega), w64 (x := (i : Int) - 1) (by omega) (by omega), if_pos (show (0 : Int) ≤ (i : Int) - 1 by omega), if_pos (show (i : Int) - 1 < (l.length : Int) by omega), if_neg c4]
              exact ev_const rfl
      · refine ⟨false, hs _ ?_, hii _ ?_⟩
        · simp only [decide_eq_true c1, if_true]
          by_cases a1 : 1 ≤ l[i].f1 ∧ l[i].f1 ≤ 3000
          · have cs : spec_l14Year.f l[i].f1 = some true := by unfold spec_l14Year.f; rw [in_val, decide_eq_true a1]; rfl
            have ct : spec_l00In.f l[i].f2 l[i].f1 3000 = some false := by rw [in_val, decide_eq_false (fun h => c2 ⟨a1, h⟩)]
            simp only [cs, ct, Option.bind_some, if_true, Bool.false_eq_true, if_false]
            exact ev_const rfl
          · have cs : spec_l14Year.f l[i].f1 = some false := by unfold spec_l14Year.f; rw [in_val, decide_eq_false a1]; rfl
            simp only [cs, Option.bind_some, Bool.false_eq_true, if_false]
            exact ev_const rfl
        · simp only [decide_eq_true c1, if_true]
          by_cases a1 : 1 ≤ l[i].f1 ∧ l[i].f1 ≤ l[i].f2
          · have ci : impl_within.f l[i].f1 1 l[i].f2 = some true := by rw [within_val, decide_eq_true a1]
            simp only [ci, Option.bind_some, if_true, if_pos (show l[i].f2 > 3000 by omega)]
            exact ev_const rfl
          · have ci : impl_within.f l[i].f1 1 l[i].f2 = some false := by rw [within_val, decide_eq_false a1]
            simp only [ci, Option.bind_some, Bool.false_eq_true, if_false]
            exact ev_const rfl
    · refine ⟨false, hs _ ?_, hii _ ?_⟩
      · simp only [decide_eq_false c1, Bool.false_eq_true, if_false]
        exact ev_const rfl
      · simp only [decide_eq_false c1, Bool.false_eq_true, if_false]
        exact ev_const rfl
theorem known_same (l : List S123) (hl : l.length ≤ 1048576) : ∃ r, Ev (fun k => spec_l14Known.f k l) r ∧ Ev (fun k => impl_ValidKnown.f k l) r :=
  known_l l hl l.length 0 (by omega) (by omega)

theorem shown_l (l : List ByteArray) (hl : l.length ≤ 1048576) (d : Nat) : ∀ (i : Nat), i ≤ l.length → l.length - i = d → ∃ r, Ev (fun k => spec_l14Names.l0 k l i) r ∧ Ev (fun k => impl_areShown.l0 k l l l.length i) r := by
  induction d with
  | zero =>
    intro i hi hd
    refine ⟨decide ((l.length : Int) ≤ 30), ev_succ ?_, ev_succ ?_⟩
    · simp only [spec_l14Names.l0, if_neg (show ¬ (i : Int) < (l.length : Int) by omega)]
      exact ev_const rfl
    · simp only [impl_areShown.l0, if_neg (show ¬ (i : Int) < (l.length : Int) by omega)]
      exact ev_const rfl
  | succ d ih =>
    intro i hi hd
    have hlt : i < l.length := by omega
    obtain ⟨r, h1, h2⟩ := ih (i + 1) (by omega) (by omega)
    have hn := spec_name l[i]
    by_cases c1 : IsNm l[i]
    · by_cases c3 : i = 0
      · refine ⟨r, ev_succ ?_, ev_succ ?_⟩
        · simp only [spec_l14Names.l0, if_pos (show (i : Int) < (l.length : Int) by omega), if_pos (show (0 : Int) ≤ (i : Int) by omega), rdOf_at _ _ _ hlt]
          refine Ev.bind hn ?_
          simp only [decide_eq_true c1, if_true, if_neg (show ¬ (i : Int) > 0 by omega), w64 (x := (i : Int) + 1) (by omega) (by omega)]
          exact h1
        · simp only [impl_areShown.l0, if_pos (show (i : Int) < (l.length : Int) by omega), if_pos (show (0 : Int) ≤ (i : Int) by omega), rdOf_at _ _ _ hlt, impl_name, Option.bind_some, decide_eq_true c1, if_true, if_neg (show ¬ (i : Int) > 0 by omega), w64 (x := (i : Int) + 1) (by omega) (by omega)]
          exact h2
      · by_cases c4 : Op.bytesLess ((rdOf ByteArray.empty l ((i : Int) - 1)).toList) ((l[i]).toList) = true
        · refine ⟨r, ev_succ ?_, ev_succ ?_⟩
          · simp only [spec_l14Names.l0, if_pos (show (i : Int) < (l.length : Int) by omega), if_pos (show (0 : Int) ≤ (i : Int) by omega), rdOf_at _ _ _ hlt]
            refine Ev.bind hn ?_
            simp only [decide_eq_true c1, if_true, if_pos (show (i : Int) > 0 by omega), w64 (x := (i : Int) - 1) (by omega) (by omega), if_pos (show (0 : Int) ≤ (i : Int) - 1 by omega), if_pos (show (i : Int) - 1 < (l.length : Int) by omega), c4, w64 (x := (i : Int) + 1) (by omega) (by omega)]
            exact h1
          · simp only [impl_areShown.l0, if_pos (show (i : Int) < (l.length : Int) by omega), if_pos (show (0 : Int) ≤ (i : Int) by omega), rdOf_at _ _ _ hlt, impl_name, Option.bind_some, decide_eq_true c1, if_true, if_pos (show (i : Int) > 0 by omega), w64 (x := (i : Int) - 1) (by omega) (by omega), if_pos (show (0 : Int) ≤ (i : Int) - 1 by omega), if_pos (show (i : Int) - 1 < (l.length : Int) by omega), c4, w64 (x := (i : Int) + 1) (by omega) (by omega)]
            exact h2
        · refine ⟨false, ev_succ ?_, ev_succ ?_⟩
          · simp only [spec_l14Names.l0, if_pos (show (i : Int) < (l.length : Int) by omega), if_pos (show (0 : Int) ≤ (i : Int) by omega), rdOf_at _ _ _ hlt]
            refine Ev.bind hn ?_
            simp only [decide_eq_true c1, if_true, if_pos (show (i : Int) > 0 by omega), w64 (x := (i : Int) - 1) (by omega) (by omega), if_pos (show (0 : Int) ≤ (i : Int) - 1 by omega), if_pos (show (i : Int) - 1 < (l.length : Int) by omega), if_neg c4]
            exact ev_const rfl
          · simp only [impl_areShown.l0, if_pos (show (i : Int) < (l.length : Int) by omega), if_pos (show (0 : Int) ≤ (i : Int) by omega), rdOf_at _ _ _ hlt, impl_name, Option.bind_some, decide_eq_true c1, if_true, if_pos (show (i : Int) > 0 by omega), w64 (x := (i : Int) - 1) (by omega) (by omega), if_pos (show (0 : Int) ≤ (i : Int) - 1 by omega), if_pos (show (i : Int) - 1 < (l.length : Int) by omega), if_neg c4]
            exact ev_const rfl
    · refine ⟨false, ev_succ ?_, ev_succ ?_⟩
      · simp only [spec_l14Names.l0, if_pos (show (i : Int) < (l.length : Int) by omega), if_pos (show (0 : Int) ≤ (i : Int) by omega), rdOf_at _ _ _ hlt]
        refine Ev.bind hn ?_
        simp only [decide_eq_false c1, Bool.false_eq_true, if_false]
        exact ev_const rfl
      · simp only [impl_areShown.l0, if_pos (show (i : Int) < (l.length : Int) by omega), if_pos (show (0 : Int) ≤ (i : Int) by omega), rdOf_at _ _ _ hlt, impl_name, Option.bind_some, decide_eq_false c1, Bool.false_eq_true, if_false]
        exact ev_const rfl
theorem shown_same (l : List ByteArray) (hl : l.length ≤ 1048576) : ∃ r, Ev (fun k => spec_l14Names.f k l) r ∧ Ev (fun k => impl_areShown.f k l) r := shown_l l hl l.length 0 (by omega) (by omega)

/-- Whether a list of texts has one. -/
def hasB (l : List ByteArray) (a : ByteArray) : Bool := l.any (fun x => decide (x.toList = a.toList))
theorem hass_l (l : List ByteArray) (hl : l.length ≤ 1048576) (a : ByteArray) (d : Nat) : ∀ (i : Nat), i ≤ l.length → l.length - i = d → Ev (fun k => spec_l14Has.l0 k l a i) (hasB (l.drop i) a) := by
  induction d with
  | zero =>
    intro i hi hd
    rw [List.drop_eq_nil_of_le (by omega)]
    apply ev_succ
    simp only [spec_l14Has.l0, if_neg (show ¬ (i : Int) < (l.length : Int) by omega)]
    exact ev_const rfl
  | succ d ih =>
    intro i hi hd
    have hlt : i < l.length := by omega
    have h1 := ih (i + 1) (by omega) (by omega)
    have hd : hasB (l.drop i) a = (decide (l[i].toList = a.toList) || hasB (l.drop (i + 1)) a) := by
      unfold hasB
      rw [List.drop_eq_getElem_cons hlt, List.any_cons]
    rw [hd]
    apply ev_succ
    by_cases c : l[i].toList = a.toList
    · rw [decide_eq_true c, Bool.true_or]
      simp only [spec_l14Has.l0, if_pos (show (i : Int) < (l.length : Int) by omega), if_pos (show (0 : Int) ≤ (i : Int) by omega), rdOf_at _ _ _ hlt, if_pos c]
      exact ev_const rfl
    · rw [decide_eq_false c, Bool.false_or]
      simp only [spec_l14Has.l0, if_pos (show (i : Int) < (l.length : Int) by omega), if_pos (show (0 : Int) ≤ (i : Int) by omega), rdOf_at _ _ _ hlt, if_neg c, w64 (x := (i : Int) + 1) (by omega) (by omega)]
      exact h1
theorem has_spec (l : List ByteArray) (hl : l.length ≤ 1048576) (a : ByteArray) : Ev (fun k => spec_l14Has.f k l a) (hasB l a) := hass_l l hl a l.length 0 (by omega) (by omega)

theorem bl_irr : ∀ x : List UInt8, Op.bytesLess x x = false
  | [] => rfl
  | a :: x => by simp [Op.bytesLess, bl_irr x]
theorem bl_trans : ∀ x y z : List UInt8, Op.bytesLess x y = true → Op.bytesLess y z = true → Op.bytesLess x z = true
  | _, [], _, h, _ => by simp [Op.bytesLess] at h
  | _, _ :: _, [], _, h => by simp [Op.bytesLess] at h
  | [], b :: y, c :: z, _, _ => by simp [Op.bytesLess]
  | a :: x, b :: y, c :: z, h1, h2 => by
    simp only [Op.bytesLess, Bool.or_eq_true, decide_eq_true_eq, Bool.and_eq_true, beq_iff_eq] at h1 h2 ⊢
    rcases h1 with h1 | ⟨rfl, h1⟩
    · rcases h2 with h2 | ⟨rfl, h2⟩
      · exact .inl (UInt8.lt_trans h1 h2)
      · exact .inl h1
    · rcases h2 with h2 | ⟨rfl, h2⟩
      · exact .inl h2
      · exact .inr ⟨rfl, bl_trans x y z h1 h2⟩
/-- A list that ascends from neighbour to neighbour has different texts everywhere. -/
theorem chain_ne {α : Type} (g : α → List UInt8) (l : List α) (h : ∀ (j : Nat) (hj : j < l.length), 0 < j → Op.bytesLess (g (l[j - 1]'(by omega))) (g l[j]) = true) : l.Pairwise (fun x y => g x ≠ g y) := by
  have key : ∀ (d i : Nat) (h2 : i + (d + 1) < l.length), Op.bytesLess (g (l[i]'(by omega))) (g l[i + (d + 1)]) = true := by
    intro d
    induction d with
    | zero =>
      intro i h2
      have := h (i + 1) h2 (by omega)
      simpa using this
    | succ d ih =>
      intro i h2
      have h3 := h (i + (d + 1 + 1)) h2 (by omega)
      simp only [show i + (d + 1 + 1) - 1 = i + (d + 1) by omega] at h3
      exact bl_trans _ _ _ (ih i (by omega)) h3
  rw [List.pairwise_iff_getElem]
  intro i j hi hj hij e
  have h1 := key (j - i - 1) i (by omega)
  simp only [show i + (j - i - 1 + 1) = j by omega] at h1
  rw [e, bl_irr] at h1
  cases h1
/-- Names that are shown ascend. -/
theorem shown_chain (l : List ByteArray) (hl : l.length ≤ 1048576) (d : Nat) : ∀ (i : Nat), i ≤ l.length → l.length - i = d → Ev (fun k => impl_areShown.l0 k l l l.length i) true →
    ∀ (j : Nat) (hj : j < l.length), i ≤ j → 0 < j → Op.bytesLess (l[j - 1]'(by omega)).toList (l[j]).toList = true := by
  induction d with
  | zero =>
    intro i hi hd _ j hj hij _
    omega
  | succ d ih =>
    intro i hi hd hE j hj hij hj0
    have hlt : i < l.length := by omega
    obtain ⟨K, hK⟩ := hE
    have hu : ∀ k, K ≤ k → impl_areShown.l0 (k + 1) l l l.length i = some true := fun k hk => hK (k + 1) (by omega)
    simp only [impl_areShown.l0, if_pos (show (i : Int) < (l.length : Int) by omega), if_pos (show (0 : Int) ≤ (i : Int) by omega), rdOf_at _ _ _ hlt, impl_name, Option.bind_some] at hu
    by_cases c1 : IsNm l[i]
    · simp only [decide_eq_true c1, if_true] at hu
      by_cases c3 : i = 0
      · simp only [if_neg (show ¬ (i : Int) > 0 by omega), w64 (x := (i : Int) + 1) (by omega) (by omega)] at hu
        exact ih (i + 1) (by omega) (by omega) ⟨K, hu⟩ j hj (by omega) hj0
      · have hm : i - 1 < l.length := by omega
        have hrd : rdOf ByteArray.empty l ((i : Int) - 1) = l[i - 1] := by rw [show (i : Int) - 1 = ((i - 1 : Nat) : Int) by omega]; exact rdOf_at _ _ _ hm
        simp only [if_pos (show (i : Int) > 0 by omega), w64 (x := (i : Int) - 1) (by omega) (by omega), if_pos (show (0 : Int) ≤ (i : Int) - 1 by omega), if_pos (show (i : Int) - 1 < (l.length : Int) by omega), hrd] at hu
        by_cases c4 : Op.bytesLess (l[i - 1]).toList (l[i]).toList = true
        · simp only [c4, if_true, w64 (x := (i : Int) + 1) (by omega) (by omega)] at hu
          by_cases e : j = i
          · subst e; exact c4
          · exact ih (i + 1) (by omega) (by omega) ⟨K, hu⟩ j hj (by omega) hj0
        · have := hu K (Nat.le_refl _)
          simp only [if_neg c4] at this
          cases this
    · have := hu K (Nat.le_refl _)
      simp only [decide_eq_false c1, Bool.false_eq_true, if_false] at this
      cases this
theorem shown_ne (l : List ByteArray) (hl : l.length ≤ 1048576) (h : Ev (fun k => impl_areShown.f k l) true) : l.Pairwise (fun x y => x.toList ≠ y.toList) :=
  chain_ne (fun x : ByteArray => x.toList) l (fun j hj h0 => shown_chain l hl l.length 0 (by omega) (by omega) h j hj (by omega) h0)

/-- Known names ascend. -/
theorem known_chain (l : List S123) (hl : l.length ≤ 1048576) (d : Nat) : ∀ (i : Nat), i ≤ l.length → l.length - i = d → Ev (fun k => impl_ValidKnown.l0 k l l l.length i) true →
    ∀ (j : Nat) (hj : j < l.length), i ≤ j → 0 < j → Op.bytesLess (l[j - 1]'(by omega)).f0.toList (l[j]).f0.toList = true := by
  induction d with
  | zero =>
    intro i hi hd _ j hj hij _
    omega
  | succ d ih =>
    intro i hi hd hE j hj hij hj0
    have hlt : i < l.length := by omega
    obtain ⟨K, hK⟩ := hE
    have hu : ∀ k, K ≤ k → impl_ValidKnown.l0 (k + 1) l l l.length i = some true := fun k hk => hK (k + 1) (by omega)
    simp only [impl_ValidKnown.l0, if_pos (show (i : Int) < (l.length : Int) by omega), if_pos (show (0 : Int) ≤ (i : Int) by omega), rd_T123_at _ _ hlt, impl_name, within_val, Option.bind_some] at hu
    by_cases c1 : IsNm l[i].f0
    · simp only [decide_eq_true c1, if_true] at hu
      by_cases c2 : 1 ≤ l[i].f1 ∧ l[i].f1 ≤ l[i].f2
      · simp only [decide_eq_true c2, if_true] at hu
        by_cases c5 : l[i].f2 > 3000
        · have := hu K (Nat.le_refl _)
          simp only [if_pos c5] at this
          cases this
        · simp only [if_neg c5] at hu
          by_cases c3 : i = 0
          · simp only [if_neg (show ¬ (i : Int) > 0 by omega), w64 (x := (i : Int) + 1) (by omega) (by omega)] at hu
            exact ih (i + 1) (by omega) (by omega) ⟨K, hu⟩ j hj (by omega) hj0
          · have hm : i - 1 < l.length := by omega
            have hrd : rd_T123 l ((i : Int) - 1) = l[i - 1] := by rw [show (i : Int) - 1 = ((i - 1 : Nat) : Int) by omega]; exact rd_T123_at _ _ hm
            simp only [if_pos (show (i : Int) > 0 by omega), w64 (x := (i : Int) - 1) (by omega) (by omega), if_pos (show (0 : Int) ≤ (i : Int) - 1 by omega), if_pos (show (i : Int) - 1 < (l.length : Int) by omega), hrd] at hu
            by_cases c4 : Op.bytesLess (l[i - 1]).f0.toList (l[i]).f0.toList = true
            · simp only [c4, if_true, w64 (x := (i : Int) + 1) (by omega) (by omega)] at hu
              by_cases e : j = i
              · subst e; exact c4
              · exact ih (i + 1) (by omega) (by omega) ⟨K, hu⟩ j hj (by omega) hj0
            · have := hu K (Nat.le_refl _)
              simp only [if_neg c4] at this
              cases this
      · have := hu K (Nat.le_refl _)
        simp only [decide_eq_false c2, Bool.false_eq_true, if_false] at this
        cases this
    · have := hu K (Nat.le_refl _)
      simp only [decide_eq_false c1, Bool.false_eq_true, if_false] at this
      cases this
theorem known_ne (l : List S123) (hl : l.length ≤ 1048576) (h : Ev (fun k => impl_ValidKnown.f k l) true) : l.Pairwise (fun x y => x.f0.toList ≠ y.f0.toList) :=
  chain_ne (fun x : S123 => x.f0.toList) l (fun j hj h0 => known_chain l hl l.length 0 (by omega) (by omega) h j hj (by omega) h0)

def mxF (S : List S123) (s : Int) : Int := S.foldl (fun m x => max m x.f1) s
def mnF (S : List S123) (s : Int) : Int := S.foldl (fun m x => min m x.f2) s
theorem mxF_le (S : List S123) : ∀ (s v : Int), mxF S s ≤ v ↔ s ≤ v ∧ ∀ x ∈ S, x.f1 ≤ v := by
  induction S with
  | nil => intro s v; simp [mxF]
  | cons a S ih =>
    intro s v
    have := ih (max s a.f1) v
    unfold mxF at this ⊢
    rw [List.foldl_cons, this, List.forall_mem_cons]
    constructor
    · rintro ⟨h1, h2⟩; exact ⟨by omega, by omega, h2⟩
    · rintro ⟨h1, h2, h3⟩; exact ⟨by omega, h3⟩
theorem mnF_le (S : List S123) : ∀ (s v : Int), v ≤ mnF S s ↔ v ≤ s ∧ ∀ x ∈ S, v ≤ x.f2 := by
  induction S with
  | nil => intro s v; simp [mnF]
  | cons a S ih =>
    intro s v
    have := ih (min s a.f2) v
    unfold mnF at this ⊢
    rw [List.foldl_cons, this, List.forall_mem_cons]
    constructor
    · rintro ⟨h1, h2⟩; exact ⟨by omega, by omega, h2⟩
    · rintro ⟨h1, h2, h3⟩; exact ⟨by omega, h3⟩
theorem mxF_same (S T : List S123) (h : ∀ x, x ∈ S ↔ x ∈ T) (s : Int) : mxF S s = mxF T s := by
  have h1 := (mxF_le S s (mxF T s)).2 (by have := (mxF_le T s (mxF T s)).1 (Int.le_refl _); exact ⟨this.1, fun x hx => this.2 x ((h x).1 hx)⟩)
  have h2 := (mxF_le T s (mxF S s)).2 (by have := (mxF_le S s (mxF S s)).1 (Int.le_refl _); exact ⟨this.1, fun x hx => this.2 x ((h x).2 hx)⟩)
  omega
theorem mnF_same (S T : List S123) (h : ∀ x, x ∈ S ↔ x ∈ T) (s : Int) : mnF S s = mnF T s := by
  have h1 := (mnF_le S s (mnF T s)).2 (by have := (mnF_le T s (mnF T s)).1 (Int.le_refl _); exact ⟨this.1, fun x hx => this.2 x ((h x).1 hx)⟩)
  have h2 := (mnF_le T s (mnF S s)).2 (by have := (mnF_le S s (mnF S s)).1 (Int.le_refl _); exact ⟨this.1, fun x hx => this.2 x ((h x).2 hx)⟩)
  omega
def fin2 (F T : Int) : Int × Int × Int := if F > T then (0, 0, 9) else (F, T, 0)
/-- The known names among names. -/
def knownIn (n : List ByteArray) (l : List S123) : List S123 := l.filter (fun x => hasB n x.f0)
theorem sdate_l (l : List S123) (hl : l.length ≤ 1048576) (n : List ByteArray) (hn : n.length ≤ 1048576) (d : Nat) : ∀ (f t : Int) (c : Nat) (i : Nat), i ≤ l.length → l.length - i = d → c ≤ i →
    Ev (fun k => spec_DateBy.l0 k l n f t c i) (if c + (knownIn n (l.drop i)).length < n.length then (0, 0, 3) else fin2 (mxF (knownIn n (l.drop i)) f) (mnF (knownIn n (l.drop i)) t)) := by
  induction d with
  | zero =>
    intro f t c i hi hd hc
    rw [List.drop_eq_nil_of_le (by omega), show knownIn n [] = [] from rfl]
    apply ev_succ
    simp only [spec_DateBy.l0, if_neg (show ¬ (i : Int) < (l.length : Int) by omega), List.length_nil, Nat.add_zero]
    by_cases h : c < n.length
    · simp only [if_pos h, if_pos (show (c : Int) < (n.length : Int) by omega)]
      exact ev_const rfl
    · simp only [if_neg h, if_neg (show ¬ (c : Int) < (n.length : Int) by omega)]
      refine ev_const ?_
      rw [show fin2 (mxF [] f) (mnF [] t) = if f > t then (0, 0, 9) else (f, t, 0) from rfl]
      by_cases hh : f > t
      · rw [if_pos hh, if_pos hh]
      · rw [if_neg hh, if_neg hh]
  | succ d ih =>
    intro f t c i hi hd hc
    have hlt : i < l.length := by omega
    apply ev_succ
    simp only [spec_DateBy.l0, if_pos (show (i : Int) < (l.length : Int) by omega), if_pos (show (0 : Int) ≤ (i : Int) by omega), rd_T123_at _ _ hlt]
    refine Ev.bind (has_spec n hn l[i].f0) ?_
    by_cases h : hasB n l[i].f0 = true
    · have e : knownIn n (l.drop i) = l[i] :: knownIn n (l.drop (i + 1)) := by unfold knownIn; rw [List.drop_eq_getElem_cons hlt, List.filter_cons, h]; rfl
      have h2 := ih (max f l[i].f1) (min t l[i].f2) (c + 1) (i + 1) (by omega) (by omega) (by omega)
      have m1 : spec_l00Max.f f l[i].f1 = some (max f l[i].f1) := by unfold spec_l00Max.f; split <;> (congr 1; omega)
      have m2 : spec_l00Min.f t l[i].f2 = some (min t l[i].f2) := by unfold spec_l00Min.f; split <;> (congr 1; omega)
      rw [e]
      simp only [h, if_true, m1, m2, Option.bind_some, w64 (x := (c : Int) + 1) (by omega) (by omega), w64 (x := (i : Int) + 1) (by omega) (by omega), List.length_cons, show c + ((knownIn n (l.drop (i + 1))).length + 1) = c + 1 + (knownIn n (l.drop (i + 1))).length by omega]
      exact h2
    · replace h : hasB n l[i].f0 = false := by simpa using h
      have e : knownIn n (l.drop i) = knownIn n (l.drop (i + 1)) := by unfold knownIn; rw [List.drop_eq_getElem_cons hlt, List.filter_cons, h]; rfl
      have h2 := ih f t c (i + 1) (by omega) (by omega) (by omega)
      rw [e]
      simp only [h, Bool.false_eq_true, if_false, w64 (x := (i : Int) + 1) (by omega) (by omega)]
      exact h2
/-- Where a name stands in known names. -/
def knAny (l : List S123) (a : ByteArray) : Bool := l.any (fun y => y.f0.toList == a.toList)
def knAt (l : List S123) (a : ByteArray) : S123 := rd_T123 l ((l.findIdx (fun y => y.f0.toList == a.toList) : Nat) : Int)
def imF (l : List S123) : List ByteArray → Int → Int → Int × Int × Int
  | [], f, t => fin2 f t
  | a :: r, f, t => if knAny l a = true then imF l r (max f (knAt l a).f1) (min t (knAt l a).f2) else (0, 0, 3)
theorem knAt_mem (l : List S123) (a : ByteArray) (h : knAny l a = true) : l.findIdx (fun y => y.f0.toList == a.toList) < l.length ∧ knAt l a ∈ l ∧ (knAt l a).f0.toList = a.toList := by
  unfold knAny at h
  obtain ⟨x, hx, hp⟩ := List.any_eq_true.1 h
  have hlt : l.findIdx (fun y => y.f0.toList == a.toList) < l.length := List.findIdx_lt_length_of_exists ⟨x, hx, hp⟩
  have e : knAt l a = l[l.findIdx (fun y => y.f0.toList == a.toList)] := rd_T123_at _ _ hlt
  refine ⟨hlt, by rw [e]; exact List.getElem_mem _, ?_⟩
  rw [e]
  exact beq_iff_eq.1 (List.findIdx_getElem (w := hlt))
theorem idate_l (l : List S123) (hl : l.length ≤ 1048576) (n : List ByteArray) (hn : n.length ≤ 1048576) (d : Nat) : ∀ (f t : Int) (i : Nat), i ≤ n.length → n.length - i = d →
    Ev (fun k => impl_DateBy.l0 k l f t n n.length i) (imF l (n.drop i) f t) := by
  induction d with
  | zero =>
    intro f t i hi hd
    rw [List.drop_eq_nil_of_le (by omega)]
    apply ev_succ
    simp only [impl_DateBy.l0, if_neg (show ¬ (i : Int) < (n.length : Int) by omega)]
    refine ev_const ?_
    unfold imF fin2
    split
    · rfl
    · rfl
  | succ d ih =>
    intro f t i hi hd
    have hlt : i < n.length := by omega
    have h2 := ih (max f (knAt l n[i]).f1) (min t (knAt l n[i]).f2) (i + 1) (by omega) (by omega)
    rw [List.drop_eq_getElem_cons hlt]
    apply ev_succ
    simp only [impl_DateBy.l0, if_pos (show (i : Int) < (n.length : Int) by omega), if_pos (show (0 : Int) ≤ (i : Int) by omega), rdOf_at _ _ _ hlt, impl_knownAt.f, Option.bind_some, imF]
    by_cases h : knAny l n[i] = true
    · have e : idxKnown_v (fun y => y.f0.toList == n[i].toList) l = ((l.findIdx (fun y => y.f0.toList == n[i].toList) : Nat) : Int) := by unfold idxKnown_v; exact if_pos h
      have hk := (knAt_mem l n[i] h).1
      simp only [e, h, if_true, if_neg (show ¬ ((l.findIdx (fun y => y.f0.toList == n[i].toList) : Nat) : Int) < 0 by omega), if_pos (show (0 : Int) ≤ ((l.findIdx (fun y => y.f0.toList == n[i].toList) : Nat) : Int) by omega), if_pos (show ((l.findIdx (fun y => y.f0.toList == n[i].toList) : Nat) : Int) < (l.length : Int) by omega), w64 (x := (i : Int) + 1) (by omega) (by omega)]
      have m1 : mx f (knAt l n[i]).f1 = max f (knAt l n[i]).f1 := by unfold mx; split <;> omega
      have m2 : mn t (knAt l n[i]).f2 = min t (knAt l n[i]).f2 := by unfold mn; split <;> omega
      rw [← m1, ← m2] at h2 ⊢
      exact h2
    · have e : idxKnown_v (fun y => y.f0.toList == n[i].toList) l = -1 := by unfold idxKnown_v; exact if_neg h
      simp only [e, if_neg h, if_pos (show (-1 : Int) < 0 by omega)]
      exact ev_const rfl
theorem imF_all (l : List S123) (n : List ByteArray) : ∀ (f t : Int), (∀ a ∈ n, knAny l a = true) → imF l n f t = fin2 (mxF (n.map (knAt l)) f) (mnF (n.map (knAt l)) t) := by
  induction n with
  | nil => intro f t _; unfold imF; rfl
  | cons a n ih =>
    intro f t h
    rw [List.forall_mem_cons] at h
    rw [imF, if_pos h.1, ih _ _ h.2]
    rfl
theorem imF_not (l : List S123) (n : List ByteArray) : ∀ (f t : Int), ¬ (∀ a ∈ n, knAny l a = true) → imF l n f t = (0, 0, 3) := by
  induction n with
  | nil => intro f t h; exact absurd (by simp) h
  | cons a n ih =>
    intro f t h
    rw [imF]
    by_cases c : knAny l a = true
    · rw [if_pos c]
      exact ih _ _ (fun h2 => h (by rw [List.forall_mem_cons]; exact ⟨c, h2⟩))
    · rw [if_neg c]
theorem count_or {α : Type} (p q : α → Bool) (l : List α) (h : ∀ x ∈ l, ¬ (p x = true ∧ q x = true)) : l.countP (fun x => p x || q x) = l.countP p + l.countP q := by
  induction l with
  | nil => rfl
  | cons a l ih =>
    rw [List.forall_mem_cons] at h
    rw [List.countP_cons, List.countP_cons, List.countP_cons, ih h.2]
    have := h.1
    cases hp : p a <;> cases hq : q a
    · simp
    · simp; omega
    · simp; omega
    · exact absurd ⟨hp, hq⟩ this
theorem count_one (l : List S123) (hl : l.Pairwise (fun x y => x.f0.toList ≠ y.f0.toList)) (a : ByteArray) : l.countP (fun x => decide (a.toList = x.f0.toList)) = if knAny l a = true then 1 else 0 := by
  induction l with
  | nil => rfl
  | cons x l ih =>
    rw [List.pairwise_cons] at hl
    rw [List.countP_cons, ih hl.2]
    unfold knAny
    rw [List.any_cons]
    by_cases c : x.f0.toList = a.toList
    · have h0 : l.any (fun y => y.f0.toList == a.toList) = false := by
        rw [List.any_eq_false]
        intro y hy e
        exact hl.1 y hy (c.trans (beq_iff_eq.1 e).symm)
      rw [h0, beq_iff_eq.2 c, decide_eq_true c.symm]
      simp
    · rw [beq_eq_false_iff_ne.2 c, decide_eq_false (fun e => c e.symm)]
      simp
theorem count_both (l : List S123) (hl : l.Pairwise (fun x y => x.f0.toList ≠ y.f0.toList)) (n : List ByteArray) (hn : n.Pairwise (fun x y => x.toList ≠ y.toList)) : (knownIn n l).length = n.countP (knAny l) := by
  unfold knownIn
  rw [← List.countP_eq_length_filter]
  induction n with
  | nil =>
    rw [List.countP_nil, List.countP_eq_zero]
    intro x _
    simp [hasB]
  | cons a n ih =>
    rw [List.pairwise_cons] at hn
    have e : (fun x : S123 => hasB (a :: n) x.f0) = fun x => decide (a.toList = x.f0.toList) || hasB n x.f0 := by funext x; unfold hasB; rw [List.any_cons]
    rw [e, count_or, count_one l hl, ih hn.2, List.countP_cons]
    · omega
    · rintro x _ ⟨h1, h2⟩
      unfold hasB at h2
      obtain ⟨b, hb, hq⟩ := List.any_eq_true.1 h2
      exact hn.1 b hb ((of_decide_eq_true h1).trans (of_decide_eq_true hq).symm)
theorem key_inj (l : List S123) (hl : l.Pairwise (fun x y => x.f0.toList ≠ y.f0.toList)) (x y : S123) (hx : x ∈ l) (hy : y ∈ l) (e : x.f0.toList = y.f0.toList) : x = y := by
  rw [List.pairwise_iff_getElem] at hl
  obtain ⟨i, hi, rfl⟩ := List.getElem_of_mem hx
  obtain ⟨j, hj, rfl⟩ := List.getElem_of_mem hy
  rcases Nat.lt_trichotomy i j with h | h | h
  · exact absurd e (hl i j hi hj h)
  · subst h; rfl
  · exact absurd e.symm (hl j i hj hi h)
theorem members (l : List S123) (hl : l.Pairwise (fun x y => x.f0.toList ≠ y.f0.toList)) (n : List ByteArray) (h : ∀ a ∈ n, knAny l a = true) (x : S123) : x ∈ knownIn n l ↔ x ∈ n.map (knAt l) := by
  unfold knownIn
  rw [List.mem_filter, List.mem_map]
  constructor
  · rintro ⟨hx, hh⟩
    unfold hasB at hh
    obtain ⟨a, ha, hq⟩ := List.any_eq_true.1 hh
    obtain ⟨_, h2, h3⟩ := knAt_mem l a (h a ha)
    exact ⟨a, ha, key_inj l hl _ _ h2 hx (h3.trans (of_decide_eq_true hq))⟩
  · rintro ⟨a, ha, rfl⟩
    obtain ⟨_, h2, h3⟩ := knAt_mem l a (h a ha)
    exact ⟨h2, List.any_eq_true.2 ⟨a, ha, decide_eq_true h3.symm⟩⟩
theorem dates_eq (l : List S123) (hl : l.Pairwise (fun x y => x.f0.toList ≠ y.f0.toList)) (n : List ByteArray) (hn : n.Pairwise (fun x y => x.toList ≠ y.toList)) (f t : Int) :
    (if 0 + (knownIn n l).length < n.length then ((0, 0, 3) : Int × Int × Int) else fin2 (mxF (knownIn n l) f) (mnF (knownIn n l) t)) = imF l n f t := by
  rw [count_both l hl n hn]
  by_cases h : ∀ a ∈ n, knAny l a = true
  · rw [imF_all l n f t h, List.countP_eq_length.2 h, if_neg (by omega), mxF_same _ _ (members l hl n h) f, mnF_same _ _ (members l hl n h) t]
  · rw [imF_not l n f t h, if_pos]
    have h1 := List.countP_le_length (p := knAny l) (l := n)
    have h2 : n.countP (knAny l) ≠ n.length := fun e => h (List.countP_eq_length.1 e)
    omega
theorem date_same (l : List S123) (hl : l.length ≤ 1048576) (n : List ByteArray) (hn : n.length ≤ 1048576) : ∃ r, Ev (fun k => spec_DateBy.f k l n) r ∧ Ev (fun k => impl_DateBy.f k l n) r := by
  obtain ⟨v, h1, h2⟩ := known_same l hl
  obtain ⟨v2, g1, g2⟩ := shown_same n hn
  cases v with
  | false =>
    refine ⟨(0, 0, 1), ?_, ?_⟩
    · unfold spec_DateBy.f
      refine Ev.bind h1 ?_
      simp only [Bool.false_eq_true, if_false]
      exact ev_const rfl
    · unfold impl_DateBy.f
      refine Ev.bind h2 (Ev.bind g2 ?_)
      simp only [Option.bind_some, impl_check.f, Bool.false_eq_true, if_false, if_neg (show ¬ (1 : Int) = 0 by omega)]
      exact ev_const rfl
  | true =>
    cases v2 with
    | false =>
      refine ⟨(0, 0, 2), ?_, ?_⟩
      · unfold spec_DateBy.f
        refine Ev.bind h1 ?_
        simp only [if_true]
        refine Ev.bind g1 ?_
        simp only [Bool.false_eq_true, if_false]
        exact ev_const rfl
      · unfold impl_DateBy.f
        refine Ev.bind h2 (Ev.bind g2 ?_)
        simp only [Option.bind_some, impl_check.f, Bool.false_eq_true, if_false, if_true, if_neg (show ¬ (2 : Int) = 0 by omega)]
        exact ev_const rfl
    | true =>
      have e1 := sdate_l l hl n hn l.length 1 3000 0 0 (by omega) (by omega) (by omega)
      have e2 := idate_l l hl n hn n.length 1 3000 0 (by omega) (by omega)
      rw [List.drop_zero] at e1 e2
      rw [dates_eq l (known_ne l hl h2) n (shown_ne n hn g2)] at e1
      refine ⟨imF l n 1 3000, ?_, ?_⟩
      · unfold spec_DateBy.f
        refine Ev.bind h1 ?_
        simp only [if_true]
        refine Ev.bind g1 ?_
        simp only [if_true]
        exact e1
      · unfold impl_DateBy.f
        refine Ev.bind h2 (Ev.bind g2 ?_)
        simp only [Option.bind_some, impl_check.f, if_true]
        exact e2

theorem FnExactDateBy : laws_FnExactDateBy.Pure := by
  intro l n hl hw hn hwn
  apply Ev.rounds
  unfold laws_FnExactDateBy.f
  rcases szKnown_ev l hl (fun y hy => (hw y hy).1) (a := 1048576) (by omega) (by omega) with e | ⟨b, e, b0, b1⟩
  · refine Ev.bind e ?_
    simp only [if_pos (show (-1 : Int) < 0 by omega)]
    exact ev_const rfl
  · refine Ev.bind e ?_
    simp only [if_neg (show ¬ b < 0 by omega)]
    rcases szs_ev n hn hwn (a := b) (by omega) (by omega) with e2 | ⟨c, e2, c0, c1⟩
    · refine Ev.bind e2 ?_
      simp only [if_pos (show (-1 : Int) < 0 by omega)]
      exact ev_const rfl
    · refine Ev.bind e2 ?_
      simp only [if_neg (show ¬ c < 0 by omega)]
      have hto := toKnown_ev l (by omega)
      have t1 := tos_ev n (by omega)
      have hml : (l.map cvKnown).length ≤ 1048576 := by rw [List.length_map]; omega
      obtain ⟨r, h1, h2⟩ := date_same (l.map cvKnown) hml n (by omega)
      refine Ev.bind hto (Ev.bind t1 (Ev.bind h1 (Ev.bind hto (Ev.bind t1 (Ev.bind h2 ?_)))))
      simp only [if_true, bne_self_eq_false]
      refine ev_succ ?_
      simp only [laws_FnExactDateBy.j0, Bool.false_eq_true, if_false]
      refine Ev.bind hto (Ev.bind (eqKnown_ev _ hml) ?_)
      simp only [if_true]
      refine Ev.bind t1 (Ev.bind (eqs_ev n (by omega)) ?_)
      simp only [if_true]
      exact ev_const rfl

end Go.Proofs.YtombhkdipldkiaaDoor.Pure
