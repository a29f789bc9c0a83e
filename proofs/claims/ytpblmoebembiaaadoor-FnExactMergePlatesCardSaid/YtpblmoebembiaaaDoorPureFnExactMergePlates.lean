/- FnExactMergePlates: the program's MergePlates and the reference's come to the same, for all three lists of strings: the same code, and the same plate, place by place. -/
import Derived.Test.YtpblmoebembiaaaDoorStatFnExactMergePlates
namespace Go.Proofs.YtpblmoebembiaaaDoor.Pure
open Go.RowKit Go.Proofs.YtpblmoebembiaaaDoor.PFnExactMergePlates Go.Proofs.YtpblmoebembiaaaDoorW.PrintWords Go.Proofs.YtpblmoebembiaaaDoorW.PrintLast Go.Proofs.YtpblmoebembiaaaDoorW.PrintMore
set_option linter.unusedVariables false
set_option linter.unusedSimpArgs false
theorem wfb {a : Int} (h : (Lit.int .i64 a).wf = true) : -9223372036854775808 ≤ a ∧ a ≤ 9223372036854775807 := by
  simpa [Lit.wf, IntKind.min, IntKind.max, IntKind.signed, IntKind.bits] using h
theorem w64 {x : Int} (h : -9223372036854775808 ≤ x) (h2 : x ≤ 9223372036854775807) : wrap64 x = x := by unfold wrap64; omega
theorem tdiv_nn {a b : Int} (h : 0 ≤ a) : Int.tdiv a b = a / b := Int.tdiv_eq_ediv_of_nonneg h
theorem tmod_nn {a b : Int} (h : 0 ≤ a) : Int.tmod a b = a % b := Int.tmod_eq_emod_of_nonneg h
theorem floor_val (a b : Int) (hb : 0 < b) : (if Int.tmod a b < 0 then Int.tdiv a b - 1 else Int.tdiv a b) = a / b := by
  have h1 := Int.mul_tdiv_add_tmod a b
  have hlt : Int.tmod a b < b := Int.tmod_lt_of_pos a hb
  have hgt : -b < Int.tmod a b := by
    have h2 := Int.tmod_lt_of_pos (-a) hb
    rw [Int.neg_tmod] at h2
    omega
  symm
  split
  · rename_i hneg
    refine ((Int.ediv_emod_unique hb (r := Int.tmod a b + b)).2 ⟨?_, by omega, by omega⟩).1
    rw [Int.mul_sub, Int.mul_one]
    omega
  · rename_i hneg
    exact ((Int.ediv_emod_unique hb (r := Int.tmod a b)).2 ⟨by omega, by omega, by omega⟩).1
theorem ediv_bd {a b : Int} (hb : 0 < b) (B : Int) (h0 : -B ≤ a) (h1 : a ≤ B) (hB : 0 ≤ B) : -B ≤ a / b ∧ a / b ≤ B := by
  constructor
  · rw [Int.le_ediv_iff_mul_le hb]
    have : B * 1 ≤ B * b := Int.mul_le_mul_of_nonneg_left (by omega) hB
    rw [Int.neg_mul]; omega
  · have h2 : a / b ≤ B / b := Int.ediv_le_ediv hb h1
    have h3 : B / b ≤ B := Int.ediv_le_self b hB
    omega
theorem ceil_alt (a b : Int) (hb : 0 < b) : (a + b - 1) / b = -((-a) / b) := by
  have h1 := Int.mul_ediv_add_emod (-a) b
  have h2 := Int.emod_nonneg (-a) (b := b) (by omega)
  have h3 := Int.emod_lt_of_pos (-a) hb
  refine ((Int.ediv_emod_unique hb (r := b - 1 - (-a) % b)).2 ⟨?_, by omega, by omega⟩).1
  rw [Int.mul_neg]
  omega

theorem ev_succ {α : Type} {g : Nat → Option α} {r : α} (h : Ev (fun k => g (k + 1)) r) : Ev g r := Ev.step (fun _ => rfl) h
theorem ev_const {α : Type} {g : Option α} {r : α} (h : g = some r) : Ev (fun _ => g) r := ⟨0, fun _ _ => h⟩
theorem ev_uniq {α : Type} {g : Nat → Option α} {a b : α} (h : Ev g a) (h' : Ev g b) : a = b := by
  obtain ⟨K, h⟩ := h
  obtain ⟨K', h'⟩ := h'
  have h1 := h (K + K') (by omega)
  rw [h' (K + K') (by omega)] at h1
  exact (Option.some.inj h1).symm

theorem toList_inj {a b : ByteArray} : a.toList = b.toList ↔ a = b := by
  constructor
  · intro h
    rw [ByteArray.toList_eq, ByteArray.toList_eq] at h
    obtain ⟨⟨x⟩⟩ := a
    obtain ⟨⟨y⟩⟩ := b
    simp at h
    rw [h]
  · intro h; rw [h]
def sizes (l : List ByteArray) : Int := (l.map (fun s => (s.size : Int))).sum
theorem sizes_cons (s : ByteArray) (l : List ByteArray) : sizes (s :: l) = s.size + sizes l := by simp [sizes]
theorem sizes_nn (l : List ByteArray) : 0 ≤ sizes l := by
  induction l with
  | nil => simp [sizes]
  | cons s l ih => rw [sizes_cons]; omega
theorem sizes_drop (l : List ByteArray) (i : Nat) (h : i < l.length) : sizes (l.drop i) = (l[i]).size + sizes (l.drop (i + 1)) := by
  rw [List.drop_eq_getElem_cons h, sizes_cons]
theorem rdOf_at (d : ByteArray) (l : List ByteArray) (i : Nat) (h : i < l.length) : rdOf d l (i : Int) = l[i] := by
  unfold rdOf
  rw [Int.toNat_natCast, List.getD_eq_getElem?_getD, List.getElem?_eq_getElem h]
  rfl

theorem sz_l (l : List ByteArray) (hl : l.length ≤ maxLen) (hs : ∀ y ∈ l, y.size ≤ maxLen) (d : Nat) : ∀ (k : Nat) (a : Int) (i : Nat), i ≤ l.length → l.length - i = d → d < k → 0 ≤ a → a ≤ 1048576 →
    (a - sizes (l.drop i) < 0 ∧ laws_szStringS.l0 k l a i = some (-1)) ∨ (0 ≤ a - sizes (l.drop i) ∧ laws_szStringS.l0 k l a i = some (a - sizes (l.drop i))) := by
  unfold maxLen at hl hs
  induction d with
  | zero =>
    intro k a i hi hd hk h0 h1
    obtain ⟨k, rfl⟩ : ∃ m, k = m + 1 := ⟨k - 1, by omega⟩
    obtain rfl : i = l.length := by omega
    rw [List.drop_length]
    right
    simp only [laws_szStringS.l0, sizes, List.map_nil, List.sum_nil]
    rw [if_neg (by omega)]
    exact ⟨by omega, by congr 1; omega⟩
  | succ d ih =>
    intro k a i hi hd hk h0 h1
    obtain ⟨k, rfl⟩ : ∃ m, k = m + 1 := ⟨k - 1, by omega⟩
    have hlt : i < l.length := by omega
    have hsz := hs l[i] (List.getElem_mem hlt)
    have hnn := sizes_nn (l.drop (i + 1))
    rw [sizes_drop l i hlt]
    simp only [laws_szStringS.l0]
    rw [if_pos (by omega), if_pos (by omega), rdOf_at _ _ _ hlt, w64 (x := a - (l[i].size : Int)) (by omega) (by omega)]
    by_cases hn : a - (l[i].size : Int) < 0
    · left
      rw [if_pos hn]
      exact ⟨by omega, rfl⟩
    · rw [if_neg hn, w64 (x := (i : Int) + 1) (by omega) (by omega)]
      have := ih k (a - l[i].size) (i + 1) (by omega) (by omega) (by omega) (by omega) (by omega)
      rw [show ((i : Int) + 1) = ((i + 1 : Nat) : Int) from by omega]
      rw [show a - ((l[i].size : Int) + sizes (l.drop (i + 1))) = a - (l[i].size : Int) - sizes (l.drop (i + 1)) from by omega]
      exact this
/-- The count of a list of strings: none is left (the law then says nothing), or the list is short. -/
theorem sz_val (l : List ByteArray) (hl : l.length ≤ maxLen) (hs : ∀ y ∈ l, y.size ≤ maxLen) {a : Int} (h0 : 0 ≤ a) (h1 : a ≤ 1048576) {k : Nat} (hk : l.length < k) :
    laws_szStringS.f k l a = some (-1) ∨ (laws_szStringS.f k l a = some (a - l.length - sizes l) ∧ 0 ≤ a - l.length - sizes l) := by
  have h2 := hl
  unfold maxLen at h2
  unfold laws_szStringS.f
  rw [w64 (x := a - (l.length : Int)) (by omega) (by omega)]
  by_cases h : a - (l.length : Int) < 0
  · left; rw [if_pos h]
  · rw [if_neg h]
    rcases sz_l l hl hs l.length k (a - l.length) 0 (by omega) (by omega) hk (by omega) (by omega) with ⟨_, e⟩ | ⟨e1, e⟩
    · left; exact e
    · right
      rw [List.drop_zero] at e1 e
      exact ⟨e, e1⟩

theorem take_set_succ {α : Type} (x : List α) (i : Nat) (v : α) (h : i < x.length) : (x.set i v).take (i + 1) = x.take i ++ [v] := by
  rw [List.take_succ_eq_append_getElem (by simpa using h), List.getElem_set_self, List.take_set_of_le (Nat.le_refl _)]
theorem take_succ_get {α : Type} (x : List α) (i : Nat) (h : i < x.length) : x.take (i + 1) = x.take i ++ [x[i]] := List.take_succ_eq_append_getElem h
theorem tos_l (l : List ByteArray) (hl : l.length ≤ 17592186044416) (d : Nat) : ∀ (k : Nat) (x : List ByteArray) (i : Nat), i ≤ l.length → l.length - i = d → d < k → x.length = l.length → x.take i = l.take i → laws_toStringS.l0 k l x i = some l := by
  induction d with
  | zero =>
    intro k x i hi hd hk hx ht
    obtain ⟨k, rfl⟩ : ∃ m, k = m + 1 := ⟨k - 1, by omega⟩
    simp only [laws_toStringS.l0]
    rw [if_neg (by omega)]
    rw [List.take_of_length_le (by omega), List.take_of_length_le (by omega)] at ht
    rw [ht]
  | succ d ih =>
    intro k x i hi hd hk hx ht
    obtain ⟨k, rfl⟩ : ∃ m, k = m + 1 := ⟨k - 1, by omega⟩
    have hlt : i < l.length := by omega
    simp only [laws_toStringS.l0]
    rw [if_pos (by omega), if_pos (by omega), if_pos (by omega), rdOf_at _ _ _ hlt, w64 (x := (i : Int) + 1) (by omega) (by omega), Int.toNat_natCast]
    have := ih k (x.set i l[i]) (i + 1) (by omega) (by omega) (by omega) (by simpa using hx) (by rw [take_set_succ _ _ _ (by omega), take_succ_get l i hlt, ht])
    exact this
theorem tos_val (l : List ByteArray) (hl : l.length ≤ 17592186044416) {k : Nat} (hk : l.length < k) : laws_toStringS.f k l = some l := by
  unfold laws_toStringS.f
  rw [if_pos (by omega), if_pos (by simpa using hl)]
  exact tos_l l hl l.length k _ 0 (by omega) (by omega) hk (by simp) (by simp)

theorem getElem_ext {α : Type} {x y : List α} (h : x.length = y.length) (d : Nat) (i : Nat) (hi : i < x.length) : (x.drop i = y.drop i) ↔ (x[i] = y[i] ∧ x.drop (i + 1) = y.drop (i + 1)) := by
  rw [List.drop_eq_getElem_cons hi, List.drop_eq_getElem_cons (show i < y.length by omega), List.cons.injEq]
theorem eqs_l (x y : List ByteArray) (h : x.length = y.length) (hl : x.length ≤ maxLen) (d : Nat) : ∀ (k : Nat) (i : Nat), i ≤ x.length → x.length - i = d → d < k → laws_eqStringS.l0 k x y i = some (decide (x.drop i = y.drop i)) := by
  unfold maxLen at hl
  induction d with
  | zero =>
    intro k i hi hd hk
    obtain ⟨k, rfl⟩ : ∃ m, k = m + 1 := ⟨k - 1, by omega⟩
    simp only [laws_eqStringS.l0]
    rw [if_neg (by omega), List.drop_eq_nil_of_le (by omega), List.drop_eq_nil_of_le (by omega)]
    simp
  | succ d ih =>
    intro k i hi hd hk
    obtain ⟨k, rfl⟩ : ∃ m, k = m + 1 := ⟨k - 1, by omega⟩
    have hlt : i < x.length := by omega
    simp only [laws_eqStringS.l0]
    rw [if_pos (by omega), if_pos (by omega), if_pos (by omega), rdOf_at _ _ _ hlt, rdOf_at _ _ _ (by omega), w64 (x := (i : Int) + 1) (by omega) (by omega)]
    simp only [toList_inj]
    have e := getElem_ext h d i hlt
    by_cases hq : x[i] = y[i]
    · rw [if_pos hq]
      have := ih k (i + 1) (by omega) (by omega) (by omega)
      rw [show ((i : Int) + 1) = ((i + 1 : Nat) : Int) from by omega, this]
      congr 1
      rw [decide_eq_decide, e]
      simp [hq]
    · rw [if_neg hq]
      congr 1
      symm
      rw [decide_eq_false_iff_not, e]
      exact fun h => hq h.1
theorem eqs_val (x y : List ByteArray) (hl : x.length ≤ maxLen) {k : Nat} (hk : x.length < k) : laws_eqStringS.f k x y = some (decide (x = y)) := by
  unfold laws_eqStringS.f
  by_cases h : x.length = y.length
  · rw [if_pos (by omega)]
    have := eqs_l x y h hl x.length k 0 (by omega) (by omega) hk
    simpa using this
  · rw [if_neg (by omega)]
    congr 1; symm
    rw [decide_eq_false_iff_not]
    exact fun e => h (by rw [e])

theorem szs_ev (l : List ByteArray) (hl : l.length ≤ maxLen) (hs : ∀ y ∈ l, y.size ≤ maxLen) {a : Int} (h0 : 0 ≤ a) (h1 : a ≤ 1048576) :
    Ev (fun k => laws_szStringS.f k l a) (-1) ∨ ∃ b, Ev (fun k => laws_szStringS.f k l a) b ∧ 0 ≤ b ∧ b ≤ a - l.length := by
  have hn := sizes_nn l
  rcases sz_val l hl hs h0 h1 (k := l.length + 1) (by omega) with e | ⟨e, e1⟩
  · exact .inl (Ev.of (fun k => laws_szStringS.mono l a k) e)
  · exact .inr ⟨_, Ev.of (fun k => laws_szStringS.mono l a k) e, e1, by omega⟩
theorem tos_ev (l : List ByteArray) (hl : l.length ≤ 1048576) : Ev (fun k => laws_toStringS.f k l) l := ⟨l.length + 1, fun _ hk => tos_val l (by omega) (by omega)⟩
theorem eqs_ev (x : List ByteArray) (hl : x.length ≤ 1048576) : Ev (fun k => laws_eqStringS.f k x x) true := by
  have hm : x.length ≤ maxLen := by unfold maxLen; omega
  exact ⟨x.length + 1, fun k hk => by show laws_eqStringS.f k x x = some true; rw [eqs_val x x hm (by omega)]; simp⟩

/-- A byte that a name may have. -/
def nameC (c : Int) : Prop := ((97 : Int) ≤ c ∧ c ≤ 122) ∨ ((48 : Int) ≤ c ∧ c ≤ 57) ∨ c = 45
instance instNameC (c : Int) : Decidable (nameC c) := by unfold nameC; infer_instance
/-- A name. -/
def IsNm (s : ByteArray) : Prop := 1 ≤ s.size ∧ s.size ≤ 12 ∧ ((97 : Int) ≤ bt s 0 ∧ bt s 0 ≤ 122) ∧ ∀ i, i < s.size → nameC (bt s (i : Int))
instance instIsNm (s : ByteArray) : Decidable (IsNm s) := by unfold IsNm; infer_instance
theorem toList_nil (s : ByteArray) : s.toList = ([] : List UInt8) ↔ s.size = 0 := by
  rw [ByteArray.toList_eq]
  obtain ⟨⟨x⟩⟩ := s
  show x = [] ↔ x.length = 0
  rw [List.length_eq_zero_iff]
theorem bt_at (s : ByteArray) (i : Nat) (h : i < s.size) : bt s (i : Int) = ((s.data.toList[i]'(by simpa using h)).toNat : Int) := by
  unfold bt
  rw [dif_pos (by simpa using h)]
  rfl
open Classical in
theorem snm_l (s : ByteArray) (hs : s.size ≤ 12) (d : Nat) : ∀ (i : Nat), i ≤ s.size → s.size - i = d → Ev (fun k => spec_IsName.l0 k s i) (decide (∀ j, i ≤ j → j < s.size → nameC (bt s (j : Int)))) := by
  induction d with
  | zero =>
    intro i hi hd
    apply ev_succ
    simp only [spec_IsName.l0, if_neg (show ¬ (i : Int) < (s.size : Int) by omega)]
    refine ev_const ?_
    congr 1
    symm
    rw [decide_eq_true_iff]
    intro j h1 h2; omega
  | succ d ih =>
    intro i hi hd
    have hlt : i < s.size := by omega
    have hih := ih (i + 1) (by omega) (by omega)
    have step : nameC (bt s (i : Int)) → (decide (∀ j, i ≤ j → j < s.size → nameC (bt s (j : Int)))) = decide (∀ j, i + 1 ≤ j → j < s.size → nameC (bt s (j : Int))) := by
      intro hc
      rw [decide_eq_decide]
      constructor
      · intro h j h1 h2; exact h j (by omega) h2
      · intro h j h1 h2
        by_cases e : j = i
        · subst e; exact hc
        · exact h j (by omega) h2
    apply ev_succ
    simp only [spec_IsName.l0, spec_l01Small.f, spec_l01Digit.f, if_pos (show (i : Int) < (s.size : Int) by omega), if_pos (show (0 : Int) ≤ (i : Int) by omega), w64 (x := (i : Int) + 1) (by omega) (by omega)]
    by_cases h1 : 97 ≤ bt s (i : Int) ∧ bt s (i : Int) ≤ 122
    · simp only [ge_iff_le, if_pos h1.1, Option.bind_some, decide_eq_true h1.2, if_true]
      rw [step (.inl h1)]
      exact hih
    · have e1 : (if bt s (i : Int) ≥ 97 then some (decide (bt s (i : Int) ≤ 122)) else some false) = some false := by
        by_cases h : bt s (i : Int) ≥ 97
        · rw [if_pos h, decide_eq_false (fun h2 => h1 ⟨h, h2⟩)]
        · rw [if_neg h]
      simp only [e1, Option.bind_some, Bool.false_eq_true, if_false]
      by_cases h2 : 48 ≤ bt s (i : Int) ∧ bt s (i : Int) ≤ 57
      · simp only [ge_iff_le, if_pos h2.1, Option.bind_some, decide_eq_true h2.2, if_true]
        rw [step (.inr (.inl h2))]
        exact hih
      · have e2 : (if bt s (i : Int) ≥ 48 then some (decide (bt s (i : Int) ≤ 57)) else some false) = some false := by
          by_cases h : bt s (i : Int) ≥ 48
          · rw [if_pos h, decide_eq_false (fun h3 => h2 ⟨h, h3⟩)]
          · rw [if_neg h]
        simp only [e2, Option.bind_some, Bool.false_eq_true, if_false]
        by_cases h3 : bt s (i : Int) = 45
        · simp only [if_pos h3]
          rw [step (.inr (.inr h3))]
          exact hih
        · simp only [if_neg h3]
          refine ev_const ?_
          congr 1
          symm
          rw [decide_eq_false_iff_not]
          intro h
          rcases h i (by omega) hlt with h | h | h
          · exact h1 h
          · exact h2 h
          · exact h3 h
theorem spec_name (s : ByteArray) : Ev (fun k => spec_IsName.f k s) (decide (IsNm s)) := by
  classical
  have no : ¬ IsNm s → Ev (fun k => spec_IsName.j0 k s true) (decide (IsNm s)) := fun h => by
    refine ev_succ ?_
    simp only [spec_IsName.j0, if_true]
    exact ev_const (by rw [decide_eq_false h])
  unfold spec_IsName.f
  by_cases h0 : s.size = 0
  · simp only [if_pos ((toList_nil s).2 h0)]
    exact no (fun h => by have := h.1; omega)
  · simp only [if_neg (fun h => h0 ((toList_nil s).1 h))]
    by_cases h1 : (s.size : Int) > 12
    · simp only [if_pos h1]
      exact no (fun h => by have := h.2.1; omega)
    · simp only [if_neg h1, if_pos (show (0 : Int) < (s.size : Int) by omega), spec_l01Small.f]
      by_cases h2 : 97 ≤ bt s 0 ∧ bt s 0 ≤ 122
      · simp only [ge_iff_le, if_pos h2.1, Option.bind_some, decide_eq_true h2.2, Bool.not_true]
        refine ev_succ ?_
        simp only [spec_IsName.j0, Bool.false_eq_true, if_false]
        have := snm_l s (by omega) s.size 0 (by omega) (by omega)
        have e : (decide (IsNm s)) = decide (∀ j, 0 ≤ j → j < s.size → nameC (bt s (j : Int))) := by
          rw [decide_eq_decide]
          exact ⟨fun h j _ hj => h.2.2.2 j hj, fun h => ⟨by omega, by omega, h2, fun j hj => h j (by omega) hj⟩⟩
        rw [e]
        exact this
      · have e1 : (if bt s 0 ≥ 97 then some (decide (bt s 0 ≤ 122)) else some false) = some false := by
          by_cases h : bt s 0 ≥ 97
          · rw [if_pos h, decide_eq_false (fun h3 => h2 ⟨h, h3⟩)]
          · rw [if_neg h]
        simp only [e1, Option.bind_some, Bool.not_false]
        exact no (fun h => h2 h.2.2.1)

theorem dw_nil (p : UInt8 → Bool) (l : List UInt8) : l.dropWhile p = [] ↔ ∀ b ∈ l, p b = true := by
  induction l with
  | nil => simp
  | cons a l ih =>
    by_cases h : p a = true
    · simp [List.dropWhile, h, ih]
    · simp [List.dropWhile, h]
theorem dw_head (p : UInt8 → Bool) (l : List UInt8) (x : UInt8) (xs : List UInt8) (h : l.dropWhile p = x :: xs) : p x = false := by
  induction l with
  | nil => simp at h
  | cons a l ih =>
    by_cases h2 : p a = true
    · simp only [List.dropWhile, h2] at h
      exact ih h
    · have h3 : p a = false := by simpa using h2
      simp only [List.dropWhile, h3, List.cons.injEq] at h
      rw [← h.1]; exact h3
theorem trimS_nil (l cs : List UInt8) : Go.Lib.trimS l cs = [] ↔ ∀ b ∈ l, cs.contains b = true := by
  unfold Go.Lib.trimS Go.Lib.trimLeftS Go.Lib.trimRightS
  rw [dw_nil]
  constructor
  · intro h b hb
    cases e : l.reverse.dropWhile (cs.contains ·) with
    | nil =>
      rw [dw_nil] at e
      exact e b (by simpa using hb)
    | cons x xs =>
      exfalso
      have h1 := dw_head _ _ _ _ e
      have h2 := h x (by rw [e]; simp)
      rw [h2] at h1
      cases h1
  · intro h b hb
    exact h b (by simpa using (List.dropWhile_sublist _).subset (List.mem_reverse.1 hb))
theorem name_cut (b : UInt8) : ([97, 98, 99, 100, 101, 102, 103, 104, 105, 106, 107, 108, 109, 110, 111, 112, 113, 114, 115, 116, 117, 118, 119, 120, 121, 122, 48, 49, 50, 51, 52, 53, 54, 55, 56, 57, 45] : List UInt8).contains b = decide (nameC (b.toNat : Int)) := by
  have key : ((List.range 256).all fun n => (([97, 98, 99, 100, 101, 102, 103, 104, 105, 106, 107, 108, 109, 110, 111, 112, 113, 114, 115, 116, 117, 118, 119, 120, 121, 122, 48, 49, 50, 51, 52, 53, 54, 55, 56, 57, 45] : List UInt8).contains (UInt8.ofNat n) == decide (((97 : Int) ≤ (n : Int) ∧ (n : Int) ≤ 122) ∨ ((48 : Int) ≤ (n : Int) ∧ (n : Int) ≤ 57) ∨ (n : Int) = 45))) = true := by decide +kernel
  have h := List.all_eq_true.1 key b.toNat (List.mem_range.2 b.toNat_lt)
  rw [UInt8.ofNat_toNat] at h
  rw [beq_iff_eq] at h
  rw [h]
  rfl
theorem impl_name (s : ByteArray) : impl_IsName.f s = some (decide (IsNm s)) := by
  unfold impl_IsName.f
  by_cases h0 : (s.size : Int) < 1
  · rw [if_pos h0, decide_eq_false (fun h => by have := h.1; omega)]
  · rw [if_neg h0]
    by_cases h1 : (s.size : Int) > 12
    · rw [if_pos h1, decide_eq_false (fun h => by have := h.2.1; omega)]
    · rw [if_neg h1, if_pos (by omega)]
      by_cases h2 : bt s 0 < 97
      · rw [if_pos h2, decide_eq_false (fun h => by have := h.2.2.1.1; omega)]
      · rw [if_neg h2]
        by_cases h3 : bt s 0 > 122
        · rw [if_pos h3, decide_eq_false (fun h => by have := h.2.2.1.2; omega)]
        · rw [if_neg h3]
          unfold strings_Trim.f
          rw [if_pos ⟨by omega, by decide, by decide +kernel⟩]
          simp only [Option.bind_some]
          congr 1
          have e : (decide (IsNm s)) = decide (∀ b ∈ s.data.toList, nameC (b.toNat : Int)) := by
            rw [decide_eq_decide]
            constructor
            · intro h b hb
              obtain ⟨j, hj, rfl⟩ := List.getElem_of_mem hb
              have := h.2.2.2 j (by simpa using hj)
              rw [bt_at s j (by simpa using hj)] at this
              exact this
            · intro h
              refine ⟨by omega, by omega, ⟨by omega, by omega⟩, fun j hj => ?_⟩
              rw [bt_at s j hj]
              exact h _ (List.getElem_mem _)
          rw [e]
          have e2 : ∀ t : List UInt8, (({ data := t.toArray } : ByteArray).toList == ([] : List UInt8)) = decide (t = []) := by
            intro t
            rw [ByteArray.toList_eq]
            cases t <;> simp
          rw [e2, decide_eq_decide, trimS_nil]
          constructor
          · intro h b hb
            have := h b hb
            rw [name_cut] at this
            exact of_decide_eq_true this
          · intro h b hb
            rw [name_cut]
            exact decide_eq_true (h b hb)

theorem in_val (a b c : Int) : spec_l00In.f a b c = some (decide (b ≤ a ∧ a ≤ c)) := by
  unfold spec_l00In.f
  by_cases h : a ≥ b <;> by_cases h2 : a ≤ c <;> simp [h, h2] <;> omega

/-- A name or none. -/
def Engr (s : ByteArray) : Prop := s.size = 0 ∨ IsNm s
instance instEngr (s : ByteArray) : Decidable (Engr s) := by unfold Engr; infer_instance
theorem spec_engr (s : ByteArray) : Ev (fun k => spec_l13Name.f k s) (decide (Engr s)) := by
  unfold spec_l13Name.f
  by_cases h : s.size = 0
  · simp only [if_pos ((toList_nil s).2 h)]
    exact ev_const (by rw [decide_eq_true (show Engr s from .inl h)])
  · simp only [if_neg (fun e => h ((toList_nil s).1 e))]
    have e : decide (Engr s) = decide (IsNm s) := by
      rw [decide_eq_decide]
      exact ⟨fun x => x.resolve_left h, .inr⟩
    rw [e]
    exact Ev.bind (spec_name s) (ev_const rfl)
theorem impl_engr (s : ByteArray) : impl_isEngraved.f s = some (decide (Engr s)) := by
  unfold impl_isEngraved.f
  by_cases h : s.size = 0
  · rw [if_pos ((toList_nil s).2 h), decide_eq_true (show Engr s from .inl h)]
  · rw [if_neg (fun e => h ((toList_nil s).1 e)), impl_name]
    have e : decide (Engr s) = decide (IsNm s) := by
      rw [decide_eq_decide]
      exact ⟨fun x => x.resolve_left h, .inr⟩
    rw [e]
    rfl

/-- What a plate must hold. -/
def PlateOk (l : List ByteArray) : Prop := (∀ s ∈ l, Engr s) ∧ (1 : Int) ≤ l.length ∧ (l.length : Int) ≤ 12
instance instPlateOk (l : List ByteArray) : Decidable (PlateOk l) := by unfold PlateOk; infer_instance
def Suff (l : List ByteArray) (i : Nat) : Prop := (∀ s ∈ l.drop i, Engr s) ∧ (1 : Int) ≤ l.length ∧ (l.length : Int) ≤ 12
instance instSuff (l : List ByteArray) (i : Nat) : Decidable (Suff l i) := by unfold Suff; infer_instance
theorem splate_l (l : List ByteArray) (hl : l.length ≤ 1048576) (d : Nat) : ∀ (i : Nat), i ≤ l.length → l.length - i = d → Ev (fun k => spec_l13Ok.l0 k l i) (decide (Suff l i)) := by
  induction d with
  | zero =>
    intro i hi hd
    apply ev_succ
    simp only [spec_l13Ok.l0, if_neg (show ¬ (i : Int) < (l.length : Int) by omega), in_val, Option.bind_some]
    refine ev_const ?_
    refine congrArg some (decide_eq_decide.2 ?_)
    unfold Suff
    rw [List.drop_eq_nil_of_le (by omega)]
    simp
  | succ d ih =>
    intro i hi hd
    have hlt : i < l.length := by omega
    apply ev_succ
    simp only [spec_l13Ok.l0, if_pos (show (i : Int) < (l.length : Int) by omega), if_pos (show (0 : Int) ≤ (i : Int) by omega), rdOf_at _ _ _ hlt, w64 (x := (i : Int) + 1) (by omega) (by omega)]
    refine Ev.bind (spec_engr l[i]) ?_
    by_cases h : Engr l[i]
    · simp only [decide_eq_true h, if_true]
      have e : decide (Suff l i) = decide (Suff l (i + 1)) := by
        refine decide_eq_decide.2 ?_
        unfold Suff
        rw [List.drop_eq_getElem_cons hlt, List.forall_mem_cons]
        exact ⟨fun x => ⟨x.1.2, x.2⟩, fun x => ⟨⟨h, x.1⟩, x.2⟩⟩
      rw [e]
      exact ih (i + 1) (by omega) (by omega)
    · simp only [decide_eq_false h, Bool.false_eq_true, if_false]
      refine ev_const ?_
      rw [decide_eq_false (show ¬ Suff l i from fun h2 => h (h2.1 _ (by rw [List.drop_eq_getElem_cons hlt]; exact List.mem_cons_self)))]
theorem splate_ev (l : List ByteArray) (hl : l.length ≤ 1048576) : Ev (fun k => spec_l13Ok.f k l) (decide (PlateOk l)) := by
  have h := splate_l l hl l.length 0 (by omega) (by omega)
  have e : decide (PlateOk l) = decide (Suff l 0) := decide_eq_decide.2 Iff.rfl
  rw [e]
  exact h
theorem iplate_val (l : List ByteArray) : impl_ValidPlate.f l = some (decide (PlateOk l)) := by
  have hb : ∀ x, impl_isEngravedBad x = !decide (Engr x) := fun x => by unfold impl_isEngravedBad; rw [impl_engr]; rfl
  have ha : (!l.any impl_isEngravedBad) = decide (∀ s ∈ l, Engr s) := by
    rw [show impl_isEngravedBad = fun x => !decide (Engr x) from funext hb]
    rw [Bool.eq_iff_iff]
    simp
  unfold impl_ValidPlate.f
  rw [ha]
  by_cases h1 : (l.length : Int) ≥ 1
  · by_cases h2 : (l.length : Int) ≤ 12
    · rw [if_pos h1, if_pos h2]
      exact congrArg some (decide_eq_decide.2 ⟨fun h => ⟨h, h1, h2⟩, fun h => h.1⟩)
    · rw [if_pos h1, if_neg h2, decide_eq_false (show ¬ PlateOk l from fun h => h2 h.2.2)]
  · rw [if_neg h1, decide_eq_false (show ¬ PlateOk l from fun h => h1 h.2.1)]

theorem rdL_at (l : List (List ByteArray)) (i : Nat) (h : i < l.length) : rd_L1 l (i : Int) = l[i] := by
  unfold rd_L1
  rw [Int.toNat_natCast, List.getD_eq_getElem?_getD, List.getElem?_eq_getElem h]
  rfl
def AllPlates (l : List (List ByteArray)) (i : Nat) : Prop := ∀ p ∈ l.drop i, PlateOk p
instance instAllPlates (l : List (List ByteArray)) (i : Nat) : Decidable (AllPlates l i) := by unfold AllPlates; infer_instance
def SameLen (l : List (List ByteArray)) (n i : Nat) : Prop := ∀ p ∈ l.drop i, p.length = n
instance instSameLen (l : List (List ByteArray)) (n i : Nat) : Decidable (SameLen l n i) := by unfold SameLen; infer_instance
theorem plates1_l (l : List (List ByteArray)) (hl : l.length ≤ 1000) (h0 : 0 < l.length) (d : Nat) : ∀ (i : Nat), i ≤ l.length → l.length - i = d → Ev (fun k => impl_platesCode.l1 k l l l.length i) (if SameLen l l[0].length i then 0 else 2) := by
  induction d with
  | zero =>
    intro i hi hd
    apply ev_succ
    simp only [impl_platesCode.l1, if_neg (show ¬ (i : Int) < (l.length : Int) by omega)]
    rw [if_pos (show SameLen l l[0].length i from by unfold SameLen; rw [List.drop_eq_nil_of_le (by omega)]; simp)]
    exact ev_const rfl
  | succ d ih =>
    intro i hi hd
    have hlt : i < l.length := by omega
    have r0 : rd_L1 l 0 = l[0] := rdL_at l 0 h0
    apply ev_succ
    simp only [impl_platesCode.l1, if_pos (show (i : Int) < (l.length : Int) by omega), if_pos (show (0 : Int) ≤ (i : Int) by omega), if_pos (show (0 : Int) < (l.length : Int) by omega), rdL_at _ _ hlt, r0, w64 (x := (i : Int) + 1) (by omega) (by omega)]
    have hd2 : SameLen l l[0].length i ↔ (l[i].length = l[0].length ∧ SameLen l l[0].length (i + 1)) := by
      unfold SameLen
      rw [List.drop_eq_getElem_cons hlt, List.forall_mem_cons]
    by_cases h : l[i].length = l[0].length
    · simp only [if_pos (show (l[i].length : Int) = (l[0].length : Int) by omega)]
      have e : (if SameLen l l[0].length i then (0 : Int) else 2) = if SameLen l l[0].length (i + 1) then 0 else 2 := by
        by_cases h2 : SameLen l l[0].length (i + 1)
        · rw [if_pos h2, if_pos (hd2.2 ⟨h, h2⟩)]
        · rw [if_neg h2, if_neg (fun x => h2 (hd2.1 x).2)]
      rw [e]
      exact ih (i + 1) (by omega) (by omega)
    · simp only [if_neg (show ¬ (l[i].length : Int) = (l[0].length : Int) by omega)]
      rw [if_neg (fun x => h (hd2.1 x).1)]
      exact ev_const rfl
theorem plates0_l (l : List (List ByteArray)) (hl : l.length ≤ 1000) (h0 : 0 < l.length) (d : Nat) : ∀ (i : Nat), i ≤ l.length → l.length - i = d → Ev (fun k => impl_platesCode.l0 k l l l.length i) (if AllPlates l i then (if SameLen l l[0].length 0 then 0 else 2) else 1) := by
  induction d with
  | zero =>
    intro i hi hd
    apply ev_succ
    simp only [impl_platesCode.l0, if_neg (show ¬ (i : Int) < (l.length : Int) by omega)]
    rw [if_pos (show AllPlates l i from by unfold AllPlates; rw [List.drop_eq_nil_of_le (by omega)]; simp)]
    exact plates1_l l hl h0 l.length 0 (by omega) (by omega)
  | succ d ih =>
    intro i hi hd
    have hlt : i < l.length := by omega
    apply ev_succ
    simp only [impl_platesCode.l0, if_pos (show (i : Int) < (l.length : Int) by omega), if_pos (show (0 : Int) ≤ (i : Int) by omega), rdL_at _ _ hlt, iplate_val, Option.bind_some, w64 (x := (i : Int) + 1) (by omega) (by omega)]
    have hd2 : AllPlates l i ↔ (PlateOk l[i] ∧ AllPlates l (i + 1)) := by
      unfold AllPlates
      rw [List.drop_eq_getElem_cons hlt, List.forall_mem_cons]
    by_cases h : PlateOk l[i]
    · simp only [decide_eq_true h, if_true]
      have e : (if AllPlates l i then (if SameLen l l[0].length 0 then (0 : Int) else 2) else 1) = if AllPlates l (i + 1) then (if SameLen l l[0].length 0 then 0 else 2) else 1 := by
        by_cases h2 : AllPlates l (i + 1)
        · rw [if_pos h2, if_pos (hd2.2 ⟨h, h2⟩)]
        · rw [if_neg h2, if_neg (fun x => h2 (hd2.1 x).2)]
      rw [e]
      exact ih (i + 1) (by omega) (by omega)
    · simp only [decide_eq_false h, Bool.false_eq_true, if_false]
      rw [if_neg (fun x => h (hd2.1 x).1)]
      exact ev_const rfl
theorem plates_ev (l : List (List ByteArray)) (hl : l.length ≤ 1000) (h0 : 0 < l.length) : Ev (fun k => impl_platesCode.f k l) (if AllPlates l 0 then (if SameLen l l[0].length 0 then 0 else 2) else 1) :=
  plates0_l l hl h0 l.length 0 (by omega) (by omega)

theorem markText_l (d : Nat) : ∀ (a : Int) (s : ByteArray), 0 ≤ a → a ≤ d → (s.size : Int) + a ≤ 8000000 → ∃ t, Ev (fun k => laws_markText.l0 k a s) t := by
  induction d with
  | zero =>
    intro a s h0 h1 h2
    refine ⟨(⟨#[109]⟩ : ByteArray) ++ s, ev_succ ?_⟩
    simp only [laws_markText.l0, if_neg (show ¬ a > 0 by omega), if_pos (show 1 + s.size ≤ 9223372036854775807 by omega)]
    exact ev_const rfl
  | succ d ih =>
    intro a s h0 h1 h2
    by_cases ha : a > 0
    · have hq : a / 10 < a := Int.ediv_lt_of_lt_mul (by omega) (by omega)
      have hq0 : 0 ≤ a / 10 := Int.ediv_nonneg h0 (by omega)
      obtain ⟨t, ht⟩ := ih (a / 10) (strOfNums [(wrap64 (48 + (Int.tmod a 10))) % 256] ++ s) hq0 (by omega) (by rw [ByteArray.size_append, strOfNums_size, List.length_singleton]; omega)
      refine ⟨t, ev_succ ?_⟩
      simp only [laws_markText.l0, if_pos ha, Option.bind_some, if_pos (show (strOfNums [(wrap64 (48 + (Int.tmod a 10))) % 256]).size + s.size ≤ 9223372036854775807 by rw [strOfNums_size, List.length_singleton]; omega), tdiv_nn h0, w64 (x := a / 10) (by omega) (by omega)]
      exact ht
    · refine ⟨(⟨#[109]⟩ : ByteArray) ++ s, ev_succ ?_⟩
      simp only [laws_markText.l0, if_neg ha, if_pos (show 1 + s.size ≤ 9223372036854775807 by omega)]
      exact ev_const rfl
theorem markText_ev {a : Int} (h0 : 0 ≤ a) (h1 : a ≤ 7000000) : ∃ t, Ev (fun k => laws_markText.f k a) t := by
  unfold laws_markText.f
  by_cases h : a ≤ 0
  · simp only [if_pos h]; exact ⟨_, ev_const rfl⟩
  · simp only [if_neg h]
    exact markText_l a.toNat a _ h0 (by omega) (by simp only [ByteArray.size, List.size_toArray, List.length_nil]; omega)

theorem markS_l (n : Nat) (hn : n ≤ 1048576) (d : Nat) : ∀ (x : List ByteArray) (a : Int) (i : Nat), x.length = n → i ≤ n → n - i = d → 0 ≤ a → a ≤ 4000000 + (i : Int) →
    ∃ b y, Ev (fun k => laws_markStringS.l0 k x a i) (b, y) ∧ a ≤ b ∧ b ≤ a + ((n : Int) - i) := by
  induction d with
  | zero =>
    intro x a i hx hi hd h0 h1
    refine ⟨a, x, ev_succ ?_, Int.le_refl _, by omega⟩
    simp only [laws_markStringS.l0, if_neg (show ¬ (i : Int) < (x.length : Int) by omega)]
    exact ev_const rfl
  | succ d ih =>
    intro x a i hx hi hd h0 h1
    obtain ⟨t, ht⟩ := markText_ev h0 (show a ≤ 7000000 by omega)
    obtain ⟨b, y, e, hb, hb2⟩ := ih (x.set i t) (a + 1) (i + 1) (by simpa using hx) (by omega) (by omega) (by omega) (by omega)
    refine ⟨b, y, ev_succ ?_, by omega, by omega⟩
    simp only [laws_markStringS.l0, if_pos (show (i : Int) < (x.length : Int) by omega), if_pos (show (0 : Int) ≤ (i : Int) by omega), Int.toNat_natCast, w64 (x := a + 1) (by omega) (by omega), w64 (x := (i : Int) + 1) (by omega) (by omega)]
    exact Ev.bind ht e
theorem markS_ev (x : List ByteArray) (hn : x.length ≤ 1048576) {a : Int} (h0 : 0 ≤ a) (h1 : a ≤ 4000000) : ∃ b y, Ev (fun k => laws_markStringS.f k x a) (b, y) ∧ a ≤ b ∧ b ≤ a + x.length := by
  obtain ⟨b, y, e, hb, hb2⟩ := markS_l x.length hn x.length x a 0 rfl (by omega) (by omega) h0 (by omega)
  exact ⟨b, y, e, hb, by omega⟩

theorem markH_l (n : Nat) (hn : n ≤ 1048576) (d : Nat) : ∀ (x : List ByteArray) (a : Int) (i : Nat), x.length = n → i ≤ n → n - i = d → 0 ≤ a → a ≤ 4000000 + (i : Int) →
    ∃ b y, Ev (fun k => laws_markStringS.l0 k x a i) (b, y) ∧ Ev (fun k => laws_heldStringS.l0 k y a i) b ∧ y.length = n ∧ y.take i = x.take i ∧ 0 ≤ b := by
  induction d with
  | zero =>
    intro x a i hx hi hd h0 h1
    refine ⟨a, x, ev_succ ?_, ev_succ ?_, hx, rfl, h0⟩
    · simp only [laws_markStringS.l0, if_neg (show ¬ (i : Int) < (x.length : Int) by omega)]
      exact ev_const rfl
    · simp only [laws_heldStringS.l0, if_neg (show ¬ (i : Int) < (x.length : Int) by omega)]
      exact ev_const rfl
  | succ d ih =>
    intro x a i hx hi hd h0 h1
    have hlt : i < x.length := by omega
    obtain ⟨t, ht⟩ := markText_ev h0 (show a ≤ 7000000 by omega)
    obtain ⟨b, y, e1, e2, hy, hk, hb⟩ := ih (x.set i t) (a + 1) (i + 1) (by simpa using hx) (by omega) (by omega) (by omega) (by omega)
    have hyl : i < y.length := by omega
    have hyi : y[i] = t := by
      have h2 : y[i] = (y.take (i + 1))[i]'(by rw [List.length_take]; omega) := by rw [List.getElem_take]
      rw [h2]
      simp only [hk, List.getElem_take, List.getElem_set_self]
    refine ⟨b, y, ev_succ ?_, ev_succ ?_, hy, ?_, hb⟩
    · simp only [laws_markStringS.l0, if_pos (show (i : Int) < (x.length : Int) by omega), if_pos (show (0 : Int) ≤ (i : Int) by omega), Int.toNat_natCast, w64 (x := a + 1) (by omega) (by omega), w64 (x := (i : Int) + 1) (by omega) (by omega)]
      exact Ev.bind ht e1
    · simp only [laws_heldStringS.l0, if_pos (show (i : Int) < (y.length : Int) by omega), if_pos (show (0 : Int) ≤ (i : Int) by omega), rdOf_at _ _ _ hyl, hyi, w64 (x := a + 1) (by omega) (by omega), w64 (x := (i : Int) + 1) (by omega) (by omega)]
      refine Ev.bind ht ?_
      simp only [if_true]
      exact e2
    · have h3 : y.take i = (y.take (i + 1)).take i := by rw [List.take_take]; congr 1; omega
      rw [h3, hk, List.take_take, Nat.min_eq_left (by omega), List.take_set_of_le (Nat.le_refl _)]
theorem markH_ev (x : List ByteArray) (hn : x.length ≤ 1048576) {a : Int} (h0 : 0 ≤ a) (h1 : a ≤ 4000000) : ∃ b y, Ev (fun k => laws_markStringS.f k x a) (b, y) ∧ Ev (fun k => laws_heldStringS.f k y a) b ∧ y.length = x.length ∧ 0 ≤ b := by
  obtain ⟨b, y, e1, e2, hy, _, hb⟩ := markH_l x.length hn x.length x a 0 rfl (by omega) (by omega) h0 (by omega)
  exact ⟨b, y, e1, e2, hy, hb⟩

theorem conf_l (o a b : List ByteArray) (hl : o.length ≤ 12) (ha : a.length = o.length) (hb : b.length = o.length) (d : Nat) : ∀ (out : List Int) (i : Nat), i ≤ o.length → o.length - i = d → out.length ≤ i →
    ∃ res, Ev (fun k => spec_l13Conflicts.l0 k o a b out i) res ∧ Ev (fun k => impl_conflictsOf.l0 k o a b out o.length i) res ∧ res.length ≤ o.length := by
  induction d with
  | zero =>
    intro out i hi hd ho
    refine ⟨out, ev_succ ?_, ev_succ ?_, by omega⟩
    · simp only [spec_l13Conflicts.l0, if_neg (show ¬ (i : Int) < (o.length : Int) by omega)]
      exact ev_const rfl
    · simp only [impl_conflictsOf.l0, if_neg (show ¬ (i : Int) < (o.length : Int) by omega)]
      exact ev_const rfl
  | succ d ih =>
    intro out i hi hd ho
    have h0 : i < o.length := by omega
    have h1 : i < a.length := by omega
    have h2 : i < b.length := by omega
    have hs : ∀ v, Ev (fun k => (if a[i].toList = b[i].toList then (spec_l13Conflicts.l0 k o a b out ((i + 1 : Nat) : Int)) else (if a[i].toList = o[i].toList then (spec_l13Conflicts.l0 k o a b out ((i + 1 : Nat) : Int)) else (if b[i].toList = o[i].toList then (spec_l13Conflicts.l0 k o a b out ((i + 1 : Nat) : Int)) else (spec_l13Conflicts.l0 k o a b (out ++ [(i : Int)]) ((i + 1 : Nat) : Int)))))) v → Ev (fun k => spec_l13Conflicts.l0 k o a b out i) v := by
      intro v hv
      refine ev_succ ?_
      simp only [spec_l13Conflicts.l0, if_pos (show (i : Int) < (o.length : Int) by omega), if_pos (show (i : Int) < (a.length : Int) by omega), if_pos (show (i : Int) < (b.length : Int) by omega), if_pos (show (0 : Int) ≤ (i : Int) by omega), rdOf_at _ _ _ h0, rdOf_at _ _ _ h1, rdOf_at _ _ _ h2, if_pos (show out.length < 17592186044416 by omega), w64 (x := (i : Int) + 1) (by omega) (by omega)]
      exact hv
    have hi2 : ∀ v, Ev (fun k => (if a[i].toList = b[i].toList then (impl_conflictsOf.l0 k o a b out o.length ((i + 1 : Nat) : Int)) else (if a[i].toList = o[i].toList then (impl_conflictsOf.l0 k o a b out o.length ((i + 1 : Nat) : Int)) else (if b[i].toList = o[i].toList then (impl_conflictsOf.l0 k o a b out o.length ((i + 1 : Nat) : Int)) else (impl_conflictsOf.l0 k o a b (out ++ [(i : Int)]) o.length ((i + 1 : Nat) : Int)))))) v → Ev (fun k => impl_conflictsOf.l0 k o a b out o.length i) v := by
      intro v hv
      refine ev_succ ?_
      simp only [impl_conflictsOf.l0, if_pos (show (i : Int) < (o.length : Int) by omega), if_pos (show (i : Int) < (a.length : Int) by omega), if_pos (show (i : Int) < (b.length : Int) by omega), if_pos (show (0 : Int) ≤ (i : Int) by omega), rdOf_at _ _ _ h0, rdOf_at _ _ _ h1, rdOf_at _ _ _ h2, if_pos (show out.length < 17592186044416 by omega), w64 (x := (i : Int) + 1) (by omega) (by omega)]
      exact hv
    obtain ⟨r1, e1, e2, e3⟩ := ih out (i + 1) (by omega) (by omega) (by omega)
    obtain ⟨r2, f1, f2, f3⟩ := ih (out ++ [(i : Int)]) (i + 1) (by omega) (by omega) (by simp; omega)
    by_cases c1 : a[i].toList = b[i].toList
    · exact ⟨r1, hs _ (by simp only [if_pos c1]; exact e1), hi2 _ (by simp only [if_pos c1]; exact e2), e3⟩
    · by_cases c2 : a[i].toList = o[i].toList
      · exact ⟨r1, hs _ (by simp only [if_neg c1, if_pos c2]; exact e1), hi2 _ (by simp only [if_neg c1, if_pos c2]; exact e2), e3⟩
      · by_cases c3 : b[i].toList = o[i].toList
        · exact ⟨r1, hs _ (by simp only [if_neg c1, if_neg c2, if_pos c3]; exact e1), hi2 _ (by simp only [if_neg c1, if_neg c2, if_pos c3]; exact e2), e3⟩
        · exact ⟨r2, hs _ (by simp only [if_neg c1, if_neg c2, if_neg c3]; exact f1), hi2 _ (by simp only [if_neg c1, if_neg c2, if_neg c3]; exact f2), f3⟩
/-- The code of three plates. -/
def threeV (o a b : List ByteArray) : Int := if PlateOk o ∧ PlateOk a ∧ PlateOk b then (if a.length = o.length ∧ b.length = o.length then 0 else 2) else 1
theorem three_spec (o a b : List ByteArray) (ho : o.length ≤ 1048576) (ha : a.length ≤ 1048576) (hb : b.length ≤ 1048576) : Ev (fun k => spec_l13Three.f k o a b) (threeV o a b) := by
  unfold spec_l13Three.f threeV
  refine Ev.bind (splate_ev o ho) ?_
  by_cases h1 : PlateOk o
  · simp only [decide_eq_true h1, if_true]
    refine Ev.bind (splate_ev a ha) ?_
    by_cases h2 : PlateOk a
    · simp only [decide_eq_true h2, if_true]
      refine Ev.bind (splate_ev b hb) ?_
      by_cases h3 : PlateOk b
      · simp only [decide_eq_true h3, Bool.not_true, if_pos (show PlateOk o ∧ PlateOk a ∧ PlateOk b from ⟨h1, h2, h3⟩)]
        refine ev_succ ?_
        simp only [spec_l13Three.j0, Bool.false_eq_true, if_false]
        by_cases h4 : a.length = o.length
        · by_cases h5 : b.length = o.length
          · simp only [if_pos (show (a.length : Int) = (o.length : Int) by omega), if_pos (show (b.length : Int) = (o.length : Int) by omega), if_pos (show a.length = o.length ∧ b.length = o.length from ⟨h4, h5⟩)]
            exact ev_const rfl
          · simp only [if_pos (show (a.length : Int) = (o.length : Int) by omega), if_neg (show ¬ (b.length : Int) = (o.length : Int) by omega), if_neg (show ¬ (a.length = o.length ∧ b.length = o.length) from fun h => h5 h.2)]
            exact ev_const rfl
        · simp only [if_neg (show ¬ (a.length : Int) = (o.length : Int) by omega), if_neg (show ¬ (a.length = o.length ∧ b.length = o.length) from fun h => h4 h.1)]
          exact ev_const rfl
      · simp only [decide_eq_false h3, Bool.not_false, if_neg (show ¬ (PlateOk o ∧ PlateOk a ∧ PlateOk b) from fun h => h3 h.2.2)]
        refine ev_succ ?_
        simp only [spec_l13Three.j0, if_true]
        exact ev_const rfl
    · simp only [decide_eq_false h2, Bool.false_eq_true, if_false, if_neg (show ¬ (PlateOk o ∧ PlateOk a ∧ PlateOk b) from fun h => h2 h.2.1)]
      refine ev_succ ?_
      simp only [spec_l13Three.j0, if_true]
      exact ev_const rfl
  · simp only [decide_eq_false h1, Bool.false_eq_true, if_false, if_neg (show ¬ (PlateOk o ∧ PlateOk a ∧ PlateOk b) from fun h => h1 h.1)]
    refine ev_succ ?_
    simp only [spec_l13Three.j0, if_true]
    exact ev_const rfl
theorem three_impl (o a b : List ByteArray) : Ev (fun k => impl_platesCode.f k [o, a, b]) (threeV o a b) := by
  have hp := plates_ev [o, a, b] (by simp) (by simp)
  have hA : AllPlates [o, a, b] 0 ↔ (PlateOk o ∧ PlateOk a ∧ PlateOk b) := by unfold AllPlates; simp
  have hS : SameLen [o, a, b] ([o, a, b][0]'(by simp)).length 0 ↔ (a.length = o.length ∧ b.length = o.length) := by unfold SameLen; simp
  have e : threeV o a b = if AllPlates [o, a, b] 0 then (if SameLen [o, a, b] ([o, a, b][0]'(by simp)).length 0 then 0 else 2) else 1 := by
    unfold threeV
    simp only [hA, hS]
  rw [e]
  exact hp
theorem three_zero {o a b : List ByteArray} (h : threeV o a b = 0) : (o.length ≤ 12 ∧ a.length = o.length ∧ b.length = o.length) := by
  unfold threeV at h
  by_cases h1 : PlateOk o ∧ PlateOk a ∧ PlateOk b
  · rw [if_pos h1] at h
    by_cases h2 : a.length = o.length ∧ b.length = o.length
    · exact ⟨by have := h1.1.2.2; omega, h2.1, h2.2⟩
    · rw [if_neg h2] at h; omega
  · rw [if_neg h1] at h; omega

theorem merge_l (o a b : List ByteArray) (hl : o.length ≤ 12) (ha : a.length = o.length) (hb : b.length = o.length) (d : Nat) : ∀ (out : List ByteArray) (i : Nat), i ≤ o.length → o.length - i = d → out.length = o.length →
    ∃ res, Ev (fun k => spec_MergePlates.l0 k o a b out i) (res, 0) ∧ Ev (fun k => impl_MergePlates.l0 k o a b out o.length i) (res, 0) ∧ res.length = o.length := by
  induction d with
  | zero =>
    intro out i hi hd ho
    refine ⟨out, ev_succ ?_, ev_succ ?_, ho⟩
    · simp only [spec_MergePlates.l0, if_neg (show ¬ (i : Int) < (o.length : Int) by omega)]
      exact ev_const rfl
    · simp only [impl_MergePlates.l0, if_neg (show ¬ (i : Int) < (o.length : Int) by omega)]
      exact ev_const rfl
  | succ d ih =>
    intro out i hi hd ho
    have h0 : i < o.length := by omega
    have h1 : i < a.length := by omega
    have h2 : i < b.length := by omega
    by_cases c : a[i].toList = o[i].toList
    · obtain ⟨res, e1, e2, e3⟩ := ih (out.set i b[i]) (i + 1) (by omega) (by omega) (by simpa using ho)
      refine ⟨res, ev_succ ?_, ev_succ ?_, e3⟩
      · simp only [spec_MergePlates.l0, if_pos (show (i : Int) < (o.length : Int) by omega), if_pos (show (i : Int) < (a.length : Int) by omega), if_pos (show (i : Int) < (b.length : Int) by omega), if_pos (show (i : Int) < (out.length : Int) by omega), if_pos (show (0 : Int) ≤ (i : Int) by omega), rdOf_at _ _ _ h0, rdOf_at _ _ _ h1, rdOf_at _ _ _ h2, if_pos c, Int.toNat_natCast, w64 (x := (i : Int) + 1) (by omega) (by omega)]
        exact e1
      · simp only [impl_MergePlates.l0, if_pos (show (i : Int) < (o.length : Int) by omega), if_pos (show (i : Int) < (a.length : Int) by omega), if_pos (show (i : Int) < (b.length : Int) by omega), if_pos (show (i : Int) < (out.length : Int) by omega), if_pos (show (0 : Int) ≤ (i : Int) by omega), rdOf_at _ _ _ h0, rdOf_at _ _ _ h1, rdOf_at _ _ _ h2, if_pos c, Int.toNat_natCast, w64 (x := (i : Int) + 1) (by omega) (by omega)]
        exact e2
    · obtain ⟨res, e1, e2, e3⟩ := ih out (i + 1) (by omega) (by omega) ho
      refine ⟨res, ev_succ ?_, ev_succ ?_, e3⟩
      · simp only [spec_MergePlates.l0, if_pos (show (i : Int) < (o.length : Int) by omega), if_pos (show (i : Int) < (a.length : Int) by omega), if_pos (show (0 : Int) ≤ (i : Int) by omega), rdOf_at _ _ _ h0, rdOf_at _ _ _ h1, if_neg c, w64 (x := (i : Int) + 1) (by omega) (by omega)]
        exact e1
      · simp only [impl_MergePlates.l0, if_pos (show (i : Int) < (o.length : Int) by omega), if_pos (show (i : Int) < (a.length : Int) by omega), if_pos (show (0 : Int) ≤ (i : Int) by omega), rdOf_at _ _ _ h0, rdOf_at _ _ _ h1, if_neg c, w64 (x := (i : Int) + 1) (by omega) (by omega)]
        exact e2
theorem merge_same (o a b : List ByteArray) (ho : o.length ≤ 1048576) (ha : a.length ≤ 1048576) (hb : b.length ≤ 1048576) : ∃ res c, Ev (fun k => spec_MergePlates.f k o a b) (res, c) ∧ Ev (fun k => impl_MergePlates.f k o a b) (res, c) ∧ res.length ≤ 12 := by
  have h1 := three_spec o a b ho ha hb
  have h2 := three_impl o a b
  by_cases hz : threeV o a b = 0
  · rw [hz] at h1 h2
    obtain ⟨z1, z2, z3⟩ := three_zero hz
    obtain ⟨cf, e1, e2, e3⟩ := conf_l o a b z1 z2 z3 o.length [] 0 (by omega) (by omega) (by simp)
    have f1 : Ev (fun k => spec_l13Conflicts.f k o a b) cf := e1
    have f2 : Ev (fun k => impl_conflictsOf.f k o a b) cf := e2
    by_cases hc : (cf.length : Int) > 0
    · refine ⟨[], 9, ?_, ?_, by simp⟩
      · unfold spec_MergePlates.f
        refine Ev.bind h1 ?_
        simp only [if_true]
        refine Ev.bind f1 ?_
        simp only [decide_eq_true hc]
        refine ev_succ ?_
        simp only [spec_MergePlates.j0, if_true]
        refine ev_succ ?_
        simp only [spec_MergePlates.j1, if_neg (show ¬ (9 : Int) = 0 by omega)]
        exact ev_const rfl
      · unfold impl_MergePlates.f
        refine Ev.bind h2 ?_
        simp only [if_true]
        refine Ev.bind f2 ?_
        simp only [if_pos hc]
        exact ev_const rfl
    · obtain ⟨res, g1, g2, g3⟩ := merge_l o a b z1 z2 z3 o.length a 0 (by omega) (by omega) z2
      refine ⟨res, 0, ?_, ?_, by omega⟩
      · unfold spec_MergePlates.f
        refine Ev.bind h1 ?_
        simp only [if_true]
        refine Ev.bind f1 ?_
        simp only [decide_eq_false hc]
        refine ev_succ ?_
        simp only [spec_MergePlates.j0, Bool.false_eq_true, if_false]
        refine ev_succ ?_
        simp only [spec_MergePlates.j1, if_true, Option.bind_some, List.nil_append, if_pos (show (([] : List ByteArray)).length + a.length < 8796093022208 by simp only [List.length_nil]; omega)]
        exact g1
      · unfold impl_MergePlates.f
        refine Ev.bind h2 ?_
        simp only [if_true]
        refine Ev.bind f2 ?_
        simp only [if_neg hc, slices_Clone_string_string.f, if_pos (show a.length < 8796093022208 by omega), Option.bind_some]
        exact g2
  · refine ⟨[], threeV o a b, ?_, ?_, by simp⟩
    · unfold spec_MergePlates.f
      refine Ev.bind h1 ?_
      simp only [if_neg hz]
      refine ev_succ ?_
      simp only [spec_MergePlates.j0, Bool.false_eq_true, if_false]
      refine ev_succ ?_
      simp only [spec_MergePlates.j1, if_neg hz]
      exact ev_const rfl
    · unfold impl_MergePlates.f
      refine Ev.bind h2 ?_
      simp only [if_neg hz]
      exact ev_const rfl
theorem FnExactMergePlates : laws_FnExactMergePlates.Pure := by
  intro o l m ho hwo hl hw hl2 hw2
  apply Ev.rounds
  unfold laws_FnExactMergePlates.f
  rcases szs_ev o ho hwo (a := 1048576) (by omega) (by omega) with e | ⟨b, e, b0, b1⟩
  · refine Ev.bind e ?_
    simp only [if_pos (show (-1 : Int) < 0 by omega)]
    exact ev_const rfl
  · refine Ev.bind e ?_
    simp only [if_neg (show ¬ b < 0 by omega)]
    rcases szs_ev l hl hw (a := b) (by omega) (by omega) with e2 | ⟨c, e2, c0, c1⟩
    · refine Ev.bind e2 ?_
      simp only [if_pos (show (-1 : Int) < 0 by omega)]
      exact ev_const rfl
    · refine Ev.bind e2 ?_
      simp only [if_neg (show ¬ c < 0 by omega)]
      rcases szs_ev m hl2 hw2 (a := c) (by omega) (by omega) with e3 | ⟨d, e3, d0, d1⟩
      · refine Ev.bind e3 ?_
        simp only [if_pos (show (-1 : Int) < 0 by omega)]
        exact ev_const rfl
      · refine Ev.bind e3 ?_
        simp only [if_neg (show ¬ d < 0 by omega)]
        have t0 := tos_ev o (by omega)
        have t1 := tos_ev l (by omega)
        have t2 := tos_ev m (by omega)
        obtain ⟨res, cd, s1, s2, s3⟩ := merge_same o l m (by omega) (by omega) (by omega)
        have q := eqs_ev res (by omega)
        obtain ⟨p0, y0, m0, n0, n00⟩ := markS_ev o (by omega) (a := 1) (by omega) (by omega)
        obtain ⟨p1, y1, m1, n1, n2⟩ := markS_ev l (by omega) (a := p0) (by omega) (by omega)
        obtain ⟨p2, y2, m2, n3, n4⟩ := markS_ev m (by omega) (a := p1) (by omega) (by omega)
        obtain ⟨p3, y3, m3, m4, n5, n6⟩ := markH_ev res (by omega) (a := 1) (by omega) (by omega)
        refine Ev.bind t0 (Ev.bind t1 (Ev.bind t2 (Ev.bind s1 (Ev.bind t0 (Ev.bind t1 (Ev.bind t2 (Ev.bind s2 (Ev.bind q ?_))))))))
        simp only [if_true, bne_self_eq_false]
        refine ev_succ ?_
        simp only [laws_FnExactMergePlates.j0, Bool.false_eq_true, if_false]
        refine Ev.bind t0 (Ev.bind (eqs_ev o (by omega)) ?_)
        simp only [if_true]
        refine Ev.bind t1 (Ev.bind (eqs_ev l (by omega)) ?_)
        simp only [if_true]
        refine Ev.bind t2 (Ev.bind (eqs_ev m (by omega)) ?_)
        simp only [if_true]
        refine Ev.bind m0 (Ev.bind m1 (Ev.bind m2 ?_))
        simp only [if_neg (show ¬ p2 < 0 by omega)]
        refine Ev.bind q ?_
        simp only [if_true, bne_self_eq_false]
        refine ev_succ ?_
        simp only [laws_FnExactMergePlates.j1, Bool.false_eq_true, if_false]
        refine Ev.bind m3 (Ev.bind m4 ?_)
        simp only [if_neg (show ¬ p3 < 0 by omega), if_true]
        refine Ev.bind t0 (Ev.bind t1 (Ev.bind t2 (Ev.bind s2 (Ev.bind q ?_))))
        simp only [if_true, bne_self_eq_false]
        refine ev_succ ?_
        simp only [laws_FnExactMergePlates.j2, Bool.false_eq_true, if_false]
        refine Ev.bind m4 ?_
        simp only [if_neg (show ¬ p3 < 0 by omega), if_true]
        exact ev_const rfl

end Go.Proofs.YtpblmoebembiaaaDoor.Pure
