/- FnExactUnusedIn: the program's UnusedIn and the reference's come to the same, for all lists of known names and years: the same code, and the same names in the same order. -/
import Derived.Test.YtpblmoebembiaaaDoorStatFnExactUnusedIn
namespace Go.Proofs.YtpblmoebembiaaaDoor.Pure
open Go.RowKit Go.Proofs.YtpblmoebembiaaaDoor.PFnExactUnusedIn Go.Proofs.YtpblmoebembiaaaDoorW.PrintWords Go.Proofs.YtpblmoebembiaaaDoorW.PrintLast Go.Proofs.YtpblmoebembiaaaDoorW.PrintMore
set_option linter.unusedVariables false
set_option linter.unusedSimpArgs false
theorem wfb {a : Int} (h : (Lit.int .i64 a).wf = true) : -9223372036854775808 ≤ a ∧ a ≤ 9223372036854775807 := by
  simpa [Lit.wf, IntKind.min, IntKind.max, IntKind.signed, IntKind.bits] using h
theorem w64 {x : Int} (h : -9223372036854775808 ≤ x) (h2 : x ≤ 9223372036854775807) : wrap64 x = x := by unfold wrap64; omega
theorem tdiv_nn {a b : Int} (h : 0 ≤ a) : Int.tdiv a b = a / b := Int.tdiv_eq_ediv_of_nonneg h
theorem tmod_nn {a b : Int} (h : 0 ≤ a) : Int.tmod a b = a % b := Int.tmod_eq_emod_of_nonneg h
theorem floor_val (a b : Int) (hb : 0 < b) : (if Int.tmod a b < 0 then Int.tdiv a b - 1 else Int.tdiv a b) = a / b := by
  have h1 := Int.mul_tdiv_add_tmod a b
  have hlt : Int.tmod a b < b := Int.tmod_lt_of_pos a hb
  have hgt : -b < Int.tmod a b := by
    have h2 := Int.tmod_lt_of_pos (-a) hb
    rw [Int.neg_tmod] at h2
    omega
  symm
  split
  · rename_i hneg
    refine ((Int.ediv_emod_unique hb (r := Int.tmod a b + b)).2 ⟨?_, by omega, by omega⟩).1
    rw [Int.mul_sub, Int.mul_one]
    omega
  · rename_i hneg
    exact ((Int.ediv_emod_unique hb (r := Int.tmod a b)).2 ⟨by omega, by omega, by omega⟩).1
theorem ediv_bd {a b : Int} (hb : 0 < b) (B : Int) (h0 : -B ≤ a) (h1 : a ≤ B) (hB : 0 ≤ B) : -B ≤ a / b ∧ a / b ≤ B := by
  constructor
  · rw [Int.le_ediv_iff_mul_le hb]
    have : B * 1 ≤ B * b := Int.mul_le_mul_of_nonneg_left (by omega) hB
    rw [Int.neg_mul]; omega
  · have h2 : a / b ≤ B / b := Int.ediv_le_ediv hb h1
    have h3 : B / b ≤ B := Int.ediv_le_self b hB
    omega
theorem ceil_alt (a b : Int) (hb : 0 < b) : (a + b - 1) / b = -((-a) / b) := by
  have h1 := Int.mul_ediv_add_emod (-a) b
  have h2 := Int.emod_nonneg (-a) (b := b) (by omega)
  have h3 := Int.emod_lt_of_pos (-a) hb
  refine ((Int.ediv_emod_unique hb (r := b - 1 - (-a) % b)).2 ⟨?_, by omega, by omega⟩).1
  rw [Int.mul_neg]
  omega

theorem ev_succ {α : Type} {g : Nat → Option α} {r : α} (h : Ev (fun k => g (k + 1)) r) : Ev g r := Ev.step (fun _ => rfl) h
theorem ev_const {α : Type} {g : Option α} {r : α} (h : g = some r) : Ev (fun _ => g) r := ⟨0, fun _ _ => h⟩
theorem ev_uniq {α : Type} {g : Nat → Option α} {a b : α} (h : Ev g a) (h' : Ev g b) : a = b := by
  obtain ⟨K, h⟩ := h
  obtain ⟨K', h'⟩ := h'
  have h1 := h (K + K') (by omega)
  rw [h' (K + K') (by omega)] at h1
  exact (Option.some.inj h1).symm

theorem toList_inj {a b : ByteArray} : a.toList = b.toList ↔ a = b := by
  constructor
  · intro h
    rw [ByteArray.toList_eq, ByteArray.toList_eq] at h
    obtain ⟨⟨x⟩⟩ := a
    obtain ⟨⟨y⟩⟩ := b
    simp at h
    rw [h]
  · intro h; rw [h]
def sizes (l : List ByteArray) : Int := (l.map (fun s => (s.size : Int))).sum
theorem sizes_cons (s : ByteArray) (l : List ByteArray) : sizes (s :: l) = s.size + sizes l := by simp [sizes]
theorem sizes_nn (l : List ByteArray) : 0 ≤ sizes l := by
  induction l with
  | nil => simp [sizes]
  | cons s l ih => rw [sizes_cons]; omega
theorem sizes_drop (l : List ByteArray) (i : Nat) (h : i < l.length) : sizes (l.drop i) = (l[i]).size + sizes (l.drop (i + 1)) := by
  rw [List.drop_eq_getElem_cons h, sizes_cons]
theorem rdOf_at (d : ByteArray) (l : List ByteArray) (i : Nat) (h : i < l.length) : rdOf d l (i : Int) = l[i] := by
  unfold rdOf
  rw [Int.toNat_natCast, List.getD_eq_getElem?_getD, List.getElem?_eq_getElem h]
  rfl

theorem getElem_ext {α : Type} {x y : List α} (h : x.length = y.length) (d : Nat) (i : Nat) (hi : i < x.length) : (x.drop i = y.drop i) ↔ (x[i] = y[i] ∧ x.drop (i + 1) = y.drop (i + 1)) := by
  rw [List.drop_eq_getElem_cons hi, List.drop_eq_getElem_cons (show i < y.length by omega), List.cons.injEq]
theorem eqs_l (x y : List ByteArray) (h : x.length = y.length) (hl : x.length ≤ maxLen) (d : Nat) : ∀ (k : Nat) (i : Nat), i ≤ x.length → x.length - i = d → d < k → laws_eqStringS.l0 k x y i = some (decide (x.drop i = y.drop i)) := by
  unfold maxLen at hl
  induction d with
  | zero =>
    intro k i hi hd hk
    obtain ⟨k, rfl⟩ : ∃ m, k = m + 1 := ⟨k - 1, by omega⟩
    simp only [laws_eqStringS.l0]
    rw [if_neg (by omega), List.drop_eq_nil_of_le (by omega), List.drop_eq_nil_of_le (by omega)]
    simp
  | succ d ih =>
    intro k i hi hd hk
    obtain ⟨k, rfl⟩ : ∃ m, k = m + 1 := ⟨k - 1, by omega⟩
    have hlt : i < x.length := by omega
    simp only [laws_eqStringS.l0]
    rw [if_pos (by omega), if_pos (by omega), if_pos (by omega), rdOf_at _ _ _ hlt, rdOf_at _ _ _ (by omega), w64 (x := (i : Int) + 1) (by omega) (by omega)]
    simp only [toList_inj]
    have e := getElem_ext h d i hlt
    by_cases hq : x[i] = y[i]
    · rw [if_pos hq]
      have := ih k (i + 1) (by omega) (by omega) (by omega)
      rw [show ((i : Int) + 1) = ((i + 1 : Nat) : Int) from by omega, this]
      congr 1
      rw [decide_eq_decide, e]
      simp [hq]
    · rw [if_neg hq]
      congr 1
      symm
      rw [decide_eq_false_iff_not, e]
      exact fun h => hq h.1
theorem eqs_val (x y : List ByteArray) (hl : x.length ≤ maxLen) {k : Nat} (hk : x.length < k) : laws_eqStringS.f k x y = some (decide (x = y)) := by
  unfold laws_eqStringS.f
  by_cases h : x.length = y.length
  · rw [if_pos (by omega)]
    have := eqs_l x y h hl x.length k 0 (by omega) (by omega) hk
    simpa using this
  · rw [if_neg (by omega)]
    congr 1; symm
    rw [decide_eq_false_iff_not]
    exact fun e => h (by rw [e])

theorem eqs_ev (x : List ByteArray) (hl : x.length ≤ 1048576) : Ev (fun k => laws_eqStringS.f k x x) true := by
  have hm : x.length ≤ maxLen := by unfold maxLen; omega
  exact ⟨x.length + 1, fun k hk => by show laws_eqStringS.f k x x = some true; rw [eqs_val x x hm (by omega)]; simp⟩

/-- A byte that a name may have. -/
def nameC (c : Int) : Prop := ((97 : Int) ≤ c ∧ c ≤ 122) ∨ ((48 : Int) ≤ c ∧ c ≤ 57) ∨ c = 45
instance instNameC (c : Int) : Decidable (nameC c) := by unfold nameC; infer_instance
/-- A name. -/
def IsNm (s : ByteArray) : Prop := 1 ≤ s.size ∧ s.size ≤ 12 ∧ ((97 : Int) ≤ bt s 0 ∧ bt s 0 ≤ 122) ∧ ∀ i, i < s.size → nameC (bt s (i : Int))
instance instIsNm (s : ByteArray) : Decidable (IsNm s) := by unfold IsNm; infer_instance
theorem toList_nil (s : ByteArray) : s.toList = ([] : List UInt8) ↔ s.size = 0 := by
  rw [ByteArray.toList_eq]
  obtain ⟨⟨x⟩⟩ := s
  show x = [] ↔ x.length = 0
  rw [List.length_eq_zero_iff]
theorem bt_at (s : ByteArray) (i : Nat) (h : i < s.size) : bt s (i : Int) = ((s.data.toList[i]'(by simpa using h)).toNat : Int) := by
  unfold bt
  rw [dif_pos (by simpa using h)]
  rfl
open Classical in
theorem snm_l (s : ByteArray) (hs : s.size ≤ 12) (d : Nat) : ∀ (i : Nat), i ≤ s.size → s.size - i = d → Ev (fun k => spec_IsName.l0 k s i) (decide (∀ j, i ≤ j → j < s.size → nameC (bt s (j : Int)))) := by
  induction d with
  | zero =>
    intro i hi hd
    apply ev_succ
    simp only [spec_IsName.l0, if_neg (show ¬ (i : Int) < (s.size : Int) by omega)]
    refine ev_const ?_
    congr 1
    symm
    rw [decide_eq_true_iff]
    intro j h1 h2; omega
  | succ d ih =>
    intro i hi hd
    have hlt : i < s.size := by omega
    have hih := ih (i + 1) (by omega) (by omega)
    have step : nameC (bt s (i : Int)) → (decide (∀ j, i ≤ j → j < s.size → nameC (bt s (j : Int)))) = decide (∀ j, i + 1 ≤ j → j < s.size → nameC (bt s (j : Int))) := by
      intro hc
      rw [decide_eq_decide]
      constructor
      · intro h j h1 h2; exact h j (by omega) h2
      · intro h j h1 h2
        by_cases e : j = i
        · subst e; exact hc
        · exact h j (by omega) h2
    apply ev_succ
    simp only [spec_IsName.l0, spec_l01Small.f, spec_l01Digit.f, if_pos (show (i : Int) < (s.size : Int) by omega), if_pos (show (0 : Int) ≤ (i : Int) by omega), w64 (x := (i : Int) + 1) (by omega) (by omega)]
    by_cases h1 : 97 ≤ bt s (i : Int) ∧ bt s (i : Int) ≤ 122
    · simp only [ge_iff_le, if_pos h1.1, Option.bind_some, decide_eq_true h1.2, if_true]
      rw [step (.inl h1)]
      exact hih
    · have e1 : (if bt s (i : Int) ≥ 97 then some (decide (bt s (i : Int) ≤ 122)) else some false) = some false := by
        by_cases h : bt s (i : Int) ≥ 97
        · rw [if_pos h, decide_eq_false (fun h2 => h1 ⟨h, h2⟩)]
        · rw [if_neg h]
      simp only [e1, Option.bind_some, Bool.false_eq_true, if_false]
      by_cases h2 : 48 ≤ bt s (i : Int) ∧ bt s (i : Int) ≤ 57
      · simp only [ge_iff_le, if_pos h2.1, Option.bind_some, decide_eq_true h2.2, if_true]
        rw [step (.inr (.inl h2))]
        exact hih
      · have e2 : (if bt s (i : Int) ≥ 48 then some (decide (bt s (i : Int) ≤ 57)) else some false) = some false := by
          by_cases h : bt s (i : Int) ≥ 48
          · rw [if_pos h, decide_eq_false (fun h3 => h2 ⟨h, h3⟩)]
          · rw [if_neg h]
        simp only [e2, Option.bind_some, Bool.false_eq_true, if_false]
        by_cases h3 : bt s (i : Int) = 45
        · simp only [if_pos h3]
          rw [step (.inr (.inr h3))]
          exact hih
        · simp only [if_neg h3]
          refine ev_const ?_
          congr 1
          symm
          rw [decide_eq_false_iff_not]
          intro h
          rcases h i (by omega) hlt with h | h | h
          · exact h1 h
          · exact h2 h
          · exact h3 h
theorem spec_name (s : ByteArray) : Ev (fun k => spec_IsName.f k s) (decide (IsNm s)) := by
  classical
  have no : ¬ IsNm s → Ev (fun k => spec_IsName.j0 k s true) (decide (IsNm s)) := fun h => by
    refine ev_succ ?_
    simp only [spec_IsName.j0, if_true]
    exact ev_const (by rw [decide_eq_false h])
  unfold spec_IsName.f
  by_cases h0 : s.size = 0
  · simp only [if_pos ((toList_nil s).2 h0)]
    exact no (fun h => by have := h.1; omega)
  · simp only [if_neg (fun h => h0 ((toList_nil s).1 h))]
    by_cases h1 : (s.size : Int) > 12
    · simp only [if_pos h1]
      exact no (fun h => by have := h.2.1; omega)
    · simp only [if_neg h1, if_pos (show (0 : Int) < (s.size : Int) by omega), spec_l01Small.f]
      by_cases h2 : 97 ≤ bt s 0 ∧ bt s 0 ≤ 122
      · simp only [ge_iff_le, if_pos h2.1, Option.bind_some, decide_eq_true h2.2, Bool.not_true]
        refine ev_succ ?_
        simp only [spec_IsName.j0, Bool.false_eq_true, if_false]
        have := snm_l s (by omega) s.size 0 (by omega) (by omega)
        have e : (decide (IsNm s)) = decide (∀ j, 0 ≤ j → j < s.size → nameC (bt s (j : Int))) := by
          rw [decide_eq_decide]
          exact ⟨fun h j _ hj => h.2.2.2 j hj, fun h => ⟨by omega, by omega, h2, fun j hj => h j (by omega) hj⟩⟩
        rw [e]
        exact this
      · have e1 : (if bt s 0 ≥ 97 then some (decide (bt s 0 ≤ 122)) else some false) = some false := by
          by_cases h : bt s 0 ≥ 97
          · rw [if_pos h, decide_eq_false (fun h3 => h2 ⟨h, h3⟩)]
          · rw [if_neg h]
        simp only [e1, Option.bind_some, Bool.not_false]
        exact no (fun h => h2 h.2.2.1)

theorem dw_nil (p : UInt8 → Bool) (l : List UInt8) : l.dropWhile p = [] ↔ ∀ b ∈ l, p b = true := by
  induction l with
  | nil => simp
  | cons a l ih =>
    by_cases h : p a = true
    · simp [List.dropWhile, h, ih]
    · simp [List.dropWhile, h]
theorem dw_head (p : UInt8 → Bool) (l : List UInt8) (x : UInt8) (xs : List UInt8) (h : l.dropWhile p = x :: xs) : p x = false := by
  induction l with
  | nil => simp at h
  | cons a l ih =>
    by_cases h2 : p a = true
    · simp only [List.dropWhile, h2] at h
      exact ih h
    · have h3 : p a = false := by simpa using h2
      simp only [List.dropWhile, h3, List.cons.injEq] at h
      rw [← h.1]; exact h3
theorem trimS_nil (l cs : List UInt8) : Go.Lib.trimS l cs = [] ↔ ∀ b ∈ l, cs.contains b = true := by
  unfold Go.Lib.trimS Go.Lib.trimLeftS Go.Lib.trimRightS
  rw [dw_nil]
  constructor
  · intro h b hb
    cases e : l.reverse.dropWhile (cs.contains ·) with
    | nil =>
      rw [dw_nil] at e
      exact e b (by simpa using hb)
    | cons x xs =>
      exfalso
      have h1 := dw_head _ _ _ _ e
      have h2 := h x (by rw [e]; simp)
      rw [h2] at h1
      cases h1
  · intro h b hb
    exact h b (by simpa using (List.dropWhile_sublist _).subset (List.mem_reverse.1 hb))
theorem name_cut (b : UInt8) : ([97, 98, 99, 100, 101, 102, 103, 104, 105, 106, 107, 108, 109, 110, 111, 112, 113, 114, 115, 116, 117, 118, 119, 120, 121, 122, 48, 49, 50, 51, 52, 53, 54, 55, 56, 57, 45] : List UInt8).contains b = decide (nameC (b.toNat : Int)) := by
  have key : ((List.range 256).all fun n => (([97, 98, 99, 100, 101, 102, 103, 104, 105, 106, 107, 108, 109, 110, 111, 112, 113, 114, 115, 116, 117, 118, 119, 120, 121, 122, 48, 49, 50, 51, 52, 53, 54, 55, 56, 57, 45] : List UInt8).contains (UInt8.ofNat n) == decide (((97 : Int) ≤ (n : Int) ∧ (n : Int) ≤ 122) ∨ ((48 : Int) ≤ (n : Int) ∧ (n : Int) ≤ 57) ∨ (n : Int) = 45))) = true := by decide +kernel
  have h := List.all_eq_true.1 key b.toNat (List.mem_range.2 b.toNat_lt)
  rw [UInt8.ofNat_toNat] at h
  rw [beq_iff_eq] at h
  rw [h]
  rfl
theorem impl_name (s : ByteArray) : impl_IsName.f s = some (decide (IsNm s)) := by
  unfold impl_IsName.f
  by_cases h0 : (s.size : Int) < 1
  · rw [if_pos h0, decide_eq_false (fun h => by have := h.1; omega)]
  · rw [if_neg h0]
    by_cases h1 : (s.size : Int) > 12
    · rw [if_pos h1, decide_eq_false (fun h => by have := h.2.1; omega)]
    · rw [if_neg h1, if_pos (by omega)]
      by_cases h2 : bt s 0 < 97
      · rw [if_pos h2, decide_eq_false (fun h => by have := h.2.2.1.1; omega)]
      · rw [if_neg h2]
        by_cases h3 : bt s 0 > 122
        · rw [if_pos h3, decide_eq_false (fun h => by have := h.2.2.1.2; omega)]
        · rw [if_neg h3]
          unfold strings_Trim.f
          rw [if_pos ⟨by omega, by decide, by decide +kernel⟩]
          simp only [Option.bind_some]
          congr 1
          have e : (decide (IsNm s)) = decide (∀ b ∈ s.data.toList, nameC (b.toNat : Int)) := by
            rw [decide_eq_decide]
            constructor
            · intro h b hb
              obtain ⟨j, hj, rfl⟩ := List.getElem_of_mem hb
              have := h.2.2.2 j (by simpa using hj)
              rw [bt_at s j (by simpa using hj)] at this
              exact this
            · intro h
              refine ⟨by omega, by omega, ⟨by omega, by omega⟩, fun j hj => ?_⟩
              rw [bt_at s j hj]
              exact h _ (List.getElem_mem _)
          rw [e]
          have e2 : ∀ t : List UInt8, (({ data := t.toArray } : ByteArray).toList == ([] : List UInt8)) = decide (t = []) := by
            intro t
            rw [ByteArray.toList_eq]
            cases t <;> simp
          rw [e2, decide_eq_decide, trimS_nil]
          constructor
          · intro h b hb
            have := h b hb
            rw [name_cut] at this
            exact of_decide_eq_true this
          · intro h b hb
            rw [name_cut]
            exact decide_eq_true (h b hb)

theorem in_val (a b c : Int) : spec_l00In.f a b c = some (decide (b ≤ a ∧ a ≤ c)) := by
  unfold spec_l00In.f
  by_cases h : a ≥ b <;> by_cases h2 : a ≤ c <;> simp [h, h2] <;> omega
theorem within_val (a b c : Int) : impl_within.f a b c = some (decide (b ≤ a ∧ a ≤ c)) := in_val a b c

theorem rd_T82_at (l : List S82) (i : Nat) (h : i < l.length) : rd_T82 l (i : Int) = l[i] := by
  unfold rd_T82
  rw [Int.toNat_natCast, List.getD_eq_getElem?_getD, List.getElem?_eq_getElem h]
  rfl

theorem rd_T83_at (l : List S83) (i : Nat) (h : i < l.length) : rd_T83 l (i : Int) = l[i] := by
  unfold rd_T83
  rw [Int.toNat_natCast, List.getD_eq_getElem?_getD, List.getElem?_eq_getElem h]
  rfl

def cvKnown (x : S82) : S83 := ⟨x.f0, x.f1, x.f2⟩
theorem take_set_Known (x : List S83) (i : Nat) (v : S83) (h : i < x.length) : (x.set i v).take (i + 1) = x.take i ++ [v] := by
  rw [List.take_succ_eq_append_getElem (by simpa using h), List.getElem_set_self, List.take_set_of_le (Nat.le_refl _)]
theorem toKnown_l (l : List S82) (hl : l.length ≤ 1048576) (d : Nat) : ∀ (x : List S83) (i : Nat), i ≤ l.length → l.length - i = d → x.length = l.length → x.take i = (l.map cvKnown).take i → Ev (fun k => laws_toKnownS.l0 k l x i) (l.map cvKnown) := by
  induction d with
  | zero =>
    intro x i hi hd hx ht
    apply ev_succ
    simp only [laws_toKnownS.l0]
    rw [List.take_of_length_le (by omega), List.take_of_length_le (by simp; omega)] at ht
    simp only [if_neg (show ¬ (i : Int) < (l.length : Int) by omega)]
    rw [ht]
    exact ev_const rfl
  | succ d ih =>
    intro x i hi hd hx ht
    have hlt : i < l.length := by omega
    apply ev_succ
    simp only [laws_toKnownS.l0, laws_toKnown.f, Option.bind_some, if_pos (show (i : Int) < (l.length : Int) by omega), if_pos (show (0 : Int) ≤ (i : Int) by omega), if_pos (show (i : Int) < (x.length : Int) by omega), rd_T82_at _ _ hlt, w64 (x := (i : Int) + 1) (by omega) (by omega), Int.toNat_natCast]
    exact ih (x.set i (cvKnown l[i])) (i + 1) (by omega) (by omega) (by simpa using hx) (by rw [take_set_Known _ _ _ (by omega), List.take_succ_eq_append_getElem (by simpa using hlt), ht, List.getElem_map])
theorem toKnown_ev (l : List S82) (hl : l.length ≤ 1048576) : Ev (fun k => laws_toKnownS.f k l) (l.map cvKnown) := by
  refine Ev.congr (fun k => by unfold laws_toKnownS.f; rw [if_pos (by omega), if_pos (by omega)]) ?_
  exact toKnown_l l hl l.length _ 0 (by omega) (by omega) (by simp) (by simp)

theorem eqKnown_l (x : List S83) (hl : x.length ≤ 1048576) (d : Nat) : ∀ (i : Nat), i ≤ x.length → x.length - i = d → Ev (fun k => laws_eqKnownS.l0 k x x i) true := by
  induction d with
  | zero =>
    intro i hi hd
    apply ev_succ
    simp only [laws_eqKnownS.l0, if_neg (show ¬ (i : Int) < (x.length : Int) by omega)]
    exact ev_const rfl
  | succ d ih =>
    intro i hi hd
    apply ev_succ
    simp only [laws_eqKnownS.l0, laws_eqKnown.f, if_true, Option.bind_some, if_pos (show (i : Int) < (x.length : Int) by omega), if_pos (show (0 : Int) ≤ (i : Int) by omega), w64 (x := (i : Int) + 1) (by omega) (by omega)]
    exact ih (i + 1) (by omega) (by omega)
theorem eqKnown_ev (x : List S83) (hl : x.length ≤ 1048576) : Ev (fun k => laws_eqKnownS.f k x x) true := by
  unfold laws_eqKnownS.f
  simp only [if_true]
  exact eqKnown_l x hl x.length 0 (by omega) (by omega)

theorem szKnown1 (x : S82) (hx : x.f0.size ≤ maxLen) {a : Int} (h0 : 0 ≤ a) (h1 : a ≤ 1048576) : laws_szKnown.f x.f0 x.f1 x.f2 a = some (-1) ∨ ∃ b, laws_szKnown.f x.f0 x.f1 x.f2 a = some b ∧ 0 ≤ b ∧ b ≤ a := by
  unfold maxLen at hx
  unfold laws_szKnown.f
  rw [w64 (x := a - (x.f0.size : Int)) (by omega) (by omega)]
  by_cases c0 : a - (x.f0.size : Int) < 0
  · left; rw [if_pos c0]
  · rw [if_neg c0]
    exact .inr ⟨_, rfl, by omega, by omega⟩
theorem szKnown_l (l : List S82) (hl : l.length ≤ maxLen) (hw : ∀ y ∈ l, y.f0.size ≤ maxLen) (d : Nat) : ∀ (a : Int) (i : Nat), i ≤ l.length → l.length - i = d → 0 ≤ a → a ≤ 1048576 →
    Ev (fun k => laws_szKnownS.l0 k l a i) (-1) ∨ ∃ b, Ev (fun k => laws_szKnownS.l0 k l a i) b ∧ 0 ≤ b ∧ b ≤ a := by
  unfold maxLen at hl
  induction d with
  | zero =>
    intro a i hi hd h0 h1
    refine .inr ⟨a, ev_succ ?_, h0, Int.le_refl _⟩
    simp only [laws_szKnownS.l0, if_neg (show ¬ (i : Int) < (l.length : Int) by omega)]
    exact ev_const rfl
  | succ d ih =>
    intro a i hi hd h0 h1
    have hlt : i < l.length := by omega
    rcases szKnown1 l[i] (hw _ (List.getElem_mem hlt)) h0 h1 with e | ⟨b, e, b0, b1⟩
    · refine .inl (ev_succ ?_)
      simp only [laws_szKnownS.l0, if_pos (show (i : Int) < (l.length : Int) by omega), if_pos (show (0 : Int) ≤ (i : Int) by omega), rd_T82_at _ _ hlt, e, Option.bind_some, if_pos (show (-1 : Int) < 0 by omega)]
      exact ev_const rfl
    · rcases ih b (i + 1) (by omega) (by omega) b0 (by omega) with e2 | ⟨c, e2, c0, c1⟩
      · refine .inl (ev_succ ?_)
        simp only [laws_szKnownS.l0, if_pos (show (i : Int) < (l.length : Int) by omega), if_pos (show (0 : Int) ≤ (i : Int) by omega), rd_T82_at _ _ hlt, e, Option.bind_some, if_neg (show ¬ b < 0 by omega), w64 (x := (i : Int) + 1) (by omega) (by omega)]
        exact e2
      · refine .inr ⟨c, ev_succ ?_, c0, by omega⟩
        simp only [laws_szKnownS.l0, if_pos (show (i : Int) < (l.length : Int) by omega), if_pos (show (0 : Int) ≤ (i : Int) by omega), rd_T82_at _ _ hlt, e, Option.bind_some, if_neg (show ¬ b < 0 by omega), w64 (x := (i : Int) + 1) (by omega) (by omega)]
        exact e2
/-- The count of a list: none is left (the law then says nothing), or the list is short. -/
theorem szKnown_ev (l : List S82) (hl : l.length ≤ maxLen) (hw : ∀ y ∈ l, y.f0.size ≤ maxLen) {a : Int} (h0 : 0 ≤ a) (h1 : a ≤ 1048576) :
    Ev (fun k => laws_szKnownS.f k l a) (-1) ∨ ∃ b, Ev (fun k => laws_szKnownS.f k l a) b ∧ 0 ≤ b ∧ b ≤ a - l.length := by
  have hm := hl
  unfold maxLen at hm
  by_cases h : a - (l.length : Int) < 0
  · refine .inl (Ev.congr (fun k => by unfold laws_szKnownS.f; rw [w64 (x := a - (l.length : Int)) (by omega) (by omega), if_pos h]) (Ev.now (-1)))
  · rcases szKnown_l l hl hw l.length (a - l.length) 0 (by omega) (by omega) (by omega) (by omega) with e | ⟨b, e, b0, b1⟩
    · exact .inl (Ev.congr (fun k => by unfold laws_szKnownS.f; rw [w64 (x := a - (l.length : Int)) (by omega) (by omega), if_neg h]; rfl) e)
    · exact .inr ⟨b, Ev.congr (fun k => by unfold laws_szKnownS.f; rw [w64 (x := a - (l.length : Int)) (by omega) (by omega), if_neg h]; rfl) e, b0, b1⟩

theorem known_l (l : List S83) (hl : l.length ≤ 1048576) (d : Nat) : ∀ (i : Nat), i ≤ l.length → l.length - i = d → ∃ r, Ev (fun k => spec_l14Known.l0 k l i) r ∧ Ev (fun k => impl_ValidKnown.l0 k l l l.length i) r := by
  induction d with
  | zero =>
    intro i hi hd
    refine ⟨decide ((l.length : Int) ≤ 30), ev_succ ?_, ev_succ ?_⟩
    · simp only [spec_l14Known.l0, if_neg (show ¬ (i : Int) < (l.length : Int) by omega)]
      exact ev_const rfl
    · simp only [impl_ValidKnown.l0, if_neg (show ¬ (i : Int) < (l.length : Int) by omega)]
      exact ev_const rfl
  | succ d ih =>
    intro i hi hd
    have hlt : i < l.length := by omega
    obtain ⟨r, h1, h2⟩ := ih (i + 1) (by omega) (by omega)
    have hn := spec_name l[i].f0
    have hs : ∀ v, Ev (fun k => (if decide (IsNm l[i].f0) = true then ((spec_l14Year.f l[i].f1).bind fun t111 => (if t111 = true then ((spec_l00In.f l[i].f2 l[i].f1 3000).bind fun t112 => (if t112 = true then (if (i : Int) > 0 then (if 0 ≤ (wrap64 ((i : Int) - 1)) then (if (wrap64 ((i : Int) - 1)) < (l.length : Int) then (if ((Op.bytesLess (((rd_T83 l (wrap64 ((i : Int) - 1))).f0).toList) ((l[i].f0).toList)) = true) then (spec_l14Known.l0 k l (wrap64 ((i : Int) + 1))) else (some false)) else (none)) else (none)) else (spec_l14Known.l0 k l (wrap64 ((i : Int) + 1)))) else (some false))) else (some false))) else (some false))) v → Ev (fun k => spec_l14Known.l0 k l i) v := by
      intro v hv
      refine ev_succ ?_
      simp only [spec_l14Known.l0, if_pos (show (i : Int) < (l.length : Int) by omega), if_pos (show (0 : Int) ≤ (i : Int) by omega), rd_T83_at _ _ hlt]
      exact Ev.bind hn hv
    have hii : ∀ v, Ev (fun k => (if decide (IsNm l[i].f0) = true then ((impl_within.f l[i].f1 1 l[i].f2).bind fun t131 => (if t131 = true then (if l[i].f2 > 3000 then (some false) else (if (i : Int) > 0 then (if 0 ≤ (wrap64 ((i : Int) - 1)) then (if (wrap64 ((i : Int) - 1)) < (l.length : Int) then (if ((Op.bytesLess (((rd_T83 l (wrap64 ((i : Int) - 1))).f0).toList) ((l[i].f0).toList)) = true) then (impl_ValidKnown.l0 k l l l.length (wrap64 ((i : Int) + 1))) else (some false)) else (none)) else (none)) else (impl_ValidKnown.l0 k l l l.length (wrap64 ((i : Int) + 1))))) else (some false))) else (some false))) v → Ev (fun k => impl_ValidKnown.l0 k l l l.length i) v := by
      intro v hv
      refine ev_succ ?_
      simp only [impl_ValidKnown.l0, if_pos (show (i : Int) < (l.length : Int) by omega), if_pos (show (0 : Int) ≤ (i : Int) by omega), rd_T83_at _ _ hlt, impl_name, Option.bind_some]
      exact hv
    by_cases c1 : IsNm l[i].f0
    · by_cases c2 : (1 ≤ l[i].f1 ∧ l[i].f1 ≤ 3000) ∧ (l[i].f1 ≤ l[i].f2 ∧ l[i].f2 ≤ 3000)
      · have cs : spec_l14Year.f l[i].f1 = some true := by unfold spec_l14Year.f; rw [in_val, decide_eq_true c2.1]; rfl
        have ci : impl_within.f l[i].f1 1 l[i].f2 = some true := by rw [within_val, decide_eq_true ⟨c2.1.1, c2.2.1⟩]
        have ct : spec_l00In.f l[i].f2 l[i].f1 3000 = some true := by rw [in_val, decide_eq_true c2.2]
        by_cases c3 : i = 0
        · refine ⟨r, hs r ?_, hii r ?_⟩
          · simp only [decide_eq_true c1, if_true, cs, ct, Option.bind_some, if_neg (show ¬ (i : Int) > 0 by omega), w64 (x := (i : Int) + 1) (by omega) (by omega)]
            exact h1
          · simp only [decide_eq_true c1, if_true, ci, Option.bind_some, if_neg (show ¬ l[i].f2 > 3000 by omega), if_neg (show ¬ (i : Int) > 0 by omega), w64 (x := (i : Int) + 1) (by omega) (by omega)]
            exact h2
        · by_cases c4 : Op.bytesLess (((rd_T83 l ((i : Int) - 1)).f0).toList) ((l[i].f0).toList) = true
          · refine ⟨r, hs r ?_, hii r ?_⟩
            · simp only [decide_eq_true c1, if_true, cs, ct, Option.bind_some, if_pos (show (i : Int) > 0 by omega), w64 (x := (i : Int) - 1) (by omega) (by omega), if_pos (show (0 : Int) ≤ (i : Int) - 1 by omega), if_pos (show (i : Int) - 1 < (l.length : Int) by omega), c4, w64 (x := (i : Int) + 1) (by omega) (by omega)]
              exact h1
            · simp only [decide_eq_true c1, if_true, ci, Option.bind_some, if_neg (show ¬ l[i].f2 > 3000 by omega), if_pos (show (i : Int) > 0 by omega), w64 (x := (i : Int) - 1) (by omega) (by omega), if_pos (show (0 : Int) ≤ (i : Int) - 1 by omega), if_pos (show (i : Int) - 1 < (l.length : Int) by omega), c4, w64 (x := (i : Int) + 1) (by omega) (by omega)]
              exact h2
          · refine ⟨false, hs _ ?_, hii _ ?_⟩
            · simp only [decide_eq_true c1, if_true, cs, ct, Option.bind_some, if_pos (show (i : Int) > 0 by omega), w64 (x := (i : Int) - 1) (by omega) (by omega), if_pos (show (0 : Int) ≤ (i : Int) - 1 by omega), if_pos (show (i : Int) - 1 < (l.length : Int) by omega), if_neg c4]
              exact ev_const rfl
            · simp only [decide_eq_true c1, if_true, ci, Option.bind_some, if_neg (show ¬ l[i].f2 > 3000 by omega), if_pos (show (i : Int) > 0 by omega), w64 (x := (i : Int) - 1) (by omega) (by omega), if_pos (show (0 : Int) ≤ (i : Int) - 1 by omega), if_pos (show (i : Int) - 1 < (l.length : Int) by omega), if_neg c4]
              exact ev_const rfl
      · refine ⟨false, hs _ ?_, hii _ ?_⟩
        · simp only [decide_eq_true c1, if_true]
          by_cases a1 : 1 ≤ l[i].f1 ∧ l[i].f1 ≤ 3000
          · have cs : spec_l14Year.f l[i].f1 = some true := by unfold spec_l14Year.f; rw [in_val, decide_eq_true a1]; rfl
            have ct : spec_l00In.f l[i].f2 l[i].f1 3000 = some false := by rw [in_val, decide_eq_false (fun h => c2 ⟨a1, h⟩)]
            simp only [cs, ct, Option.bind_some, if_true, Bool.false_eq_true, if_false]
            exact ev_const rfl
          · have cs : spec_l14Year.f l[i].f1 = some false := by unfold spec_l14Year.f; rw [in_val, decide_eq_false a1]; rfl
            simp only [cs, Option.bind_some, Bool.false_eq_true, if_false]
            exact ev_const rfl
        · simp only [decide_eq_true c1, if_true]
          by_cases a1 : 1 ≤ l[i].f1 ∧ l[i].f1 ≤ l[i].f2
          · have ci : impl_within.f l[i].f1 1 l[i].f2 = some true := by rw [within_val, decide_eq_true a1]
            simp only [ci, Option.bind_some, if_true, if_pos (show l[i].f2 > 3000 by omega)]
            exact ev_const rfl
          · have ci : impl_within.f l[i].f1 1 l[i].f2 = some false := by rw [within_val, decide_eq_false a1]
            simp only [ci, Option.bind_some, Bool.false_eq_true, if_false]
            exact ev_const rfl
    · refine ⟨false, hs _ ?_, hii _ ?_⟩
      · simp only [decide_eq_false c1, Bool.false_eq_true, if_false]
        exact ev_const rfl
      · simp only [decide_eq_false c1, Bool.false_eq_true, if_false]
        exact ev_const rfl
theorem known_same (l : List S83) (hl : l.length ≤ 1048576) : ∃ r, Ev (fun k => spec_l14Known.f k l) r ∧ Ev (fun k => impl_ValidKnown.f k l) r :=
  known_l l hl l.length 0 (by omega) (by omega)

theorem markText_l (d : Nat) : ∀ (a : Int) (s : ByteArray), 0 ≤ a → a ≤ d → (s.size : Int) + a ≤ 8000000 → ∃ t, Ev (fun k => laws_markText.l0 k a s) t := by
  induction d with
  | zero =>
    intro a s h0 h1 h2
    refine ⟨(⟨#[109]⟩ : ByteArray) ++ s, ev_succ ?_⟩
    simp only [laws_markText.l0, if_neg (show ¬ a > 0 by omega), if_pos (show 1 + s.size ≤ 9223372036854775807 by omega)]
    exact ev_const rfl
  | succ d ih =>
    intro a s h0 h1 h2
    by_cases ha : a > 0
    · have hq : a / 10 < a := Int.ediv_lt_of_lt_mul (by omega) (by omega)
      have hq0 : 0 ≤ a / 10 := Int.ediv_nonneg h0 (by omega)
      obtain ⟨t, ht⟩ := ih (a / 10) (strOfNums [(wrap64 (48 + (Int.tmod a 10))) % 256] ++ s) hq0 (by omega) (by rw [ByteArray.size_append, strOfNums_size, List.length_singleton]; omega)
      refine ⟨t, ev_succ ?_⟩
      simp only [laws_markText.l0, if_pos ha, Option.bind_some, if_pos (show (strOfNums [(wrap64 (48 + (Int.tmod a 10))) % 256]).size + s.size ≤ 9223372036854775807 by rw [strOfNums_size, List.length_singleton]; omega), tdiv_nn h0, w64 (x := a / 10) (by omega) (by omega)]
      exact ht
    · refine ⟨(⟨#[109]⟩ : ByteArray) ++ s, ev_succ ?_⟩
      simp only [laws_markText.l0, if_neg ha, if_pos (show 1 + s.size ≤ 9223372036854775807 by omega)]
      exact ev_const rfl
theorem markText_ev {a : Int} (h0 : 0 ≤ a) (h1 : a ≤ 7000000) : ∃ t, Ev (fun k => laws_markText.f k a) t := by
  unfold laws_markText.f
  by_cases h : a ≤ 0
  · simp only [if_pos h]; exact ⟨_, ev_const rfl⟩
  · simp only [if_neg h]
    exact markText_l a.toNat a _ h0 (by omega) (by simp only [ByteArray.size, List.size_toArray, List.length_nil]; omega)

theorem markH_l (n : Nat) (hn : n ≤ 1048576) (d : Nat) : ∀ (x : List ByteArray) (a : Int) (i : Nat), x.length = n → i ≤ n → n - i = d → 0 ≤ a → a ≤ 4000000 + (i : Int) →
    ∃ b y, Ev (fun k => laws_markStringS.l0 k x a i) (b, y) ∧ Ev (fun k => laws_heldStringS.l0 k y a i) b ∧ y.length = n ∧ y.take i = x.take i ∧ 0 ≤ b := by
  induction d with
  | zero =>
    intro x a i hx hi hd h0 h1
    refine ⟨a, x, ev_succ ?_, ev_succ ?_, hx, rfl, h0⟩
    · simp only [laws_markStringS.l0, if_neg (show ¬ (i : Int) < (x.length : Int) by omega)]
      exact ev_const rfl
    · simp only [laws_heldStringS.l0, if_neg (show ¬ (i : Int) < (x.length : Int) by omega)]
      exact ev_const rfl
  | succ d ih =>
    intro x a i hx hi hd h0 h1
    have hlt : i < x.length := by omega
    obtain ⟨t, ht⟩ := markText_ev h0 (show a ≤ 7000000 by omega)
    obtain ⟨b, y, e1, e2, hy, hk, hb⟩ := ih (x.set i t) (a + 1) (i + 1) (by simpa using hx) (by omega) (by omega) (by omega) (by omega)
    have hyl : i < y.length := by omega
    have hyi : y[i] = t := by
      have h2 : y[i] = (y.take (i + 1))[i]'(by rw [List.length_take]; omega) := by rw [List.getElem_take]
      rw [h2]
      simp only [hk, List.getElem_take, List.getElem_set_self]
    refine ⟨b, y, ev_succ ?_, ev_succ ?_, hy, ?_, hb⟩
    · simp only [laws_markStringS.l0, if_pos (show (i : Int) < (x.length : Int) by omega), if_pos (show (0 : Int) ≤ (i : Int) by omega), Int.toNat_natCast, w64 (x := a + 1) (by omega) (by omega), w64 (x := (i : Int) + 1) (by omega) (by omega)]
      exact Ev.bind ht e1
    · simp only [laws_heldStringS.l0, if_pos (show (i : Int) < (y.length : Int) by omega), if_pos (show (0 : Int) ≤ (i : Int) by omega), rdOf_at _ _ _ hyl, hyi, w64 (x := a + 1) (by omega) (by omega), w64 (x := (i : Int) + 1) (by omega) (by omega)]
      refine Ev.bind ht ?_
      simp only [if_true]
      exact e2
    · have h3 : y.take i = (y.take (i + 1)).take i := by rw [List.take_take]; congr 1; omega
      rw [h3, hk, List.take_take, Nat.min_eq_left (by omega), List.take_set_of_le (Nat.le_refl _)]
theorem markH_ev (x : List ByteArray) (hn : x.length ≤ 1048576) {a : Int} (h0 : 0 ≤ a) (h1 : a ≤ 4000000) : ∃ b y, Ev (fun k => laws_markStringS.f k x a) (b, y) ∧ Ev (fun k => laws_heldStringS.f k y a) b ∧ y.length = x.length ∧ 0 ≤ b := by
  obtain ⟨b, y, e1, e2, hy, _, hb⟩ := markH_l x.length hn x.length x a 0 rfl (by omega) (by omega) h0 (by omega)
  exact ⟨b, y, e1, e2, hy, hb⟩

theorem markK_l (n : Nat) (hn : n ≤ 1048576) (d : Nat) : ∀ (x : List S83) (a : Int) (i : Nat), x.length = n → i ≤ n → n - i = d → 0 ≤ a → a ≤ 1000000 + 3 * (i : Int) →
    ∃ b y, Ev (fun k => laws_markKnownS.l0 k x a i) (b, y) ∧ 0 ≤ b := by
  induction d with
  | zero =>
    intro x a i hx hi hd h0 h1
    refine ⟨a, x, ev_succ ?_, h0⟩
    simp only [laws_markKnownS.l0, if_neg (show ¬ (i : Int) < (x.length : Int) by omega)]
    exact ev_const rfl
  | succ d ih =>
    intro x a i hx hi hd h0 h1
    have hlt : i < x.length := by omega
    obtain ⟨t, ht⟩ := markText_ev h0 (show a ≤ 7000000 by omega)
    obtain ⟨b, y, e, hb⟩ := ih (x.set i ⟨t, a + 1, a + 1 + 1⟩) (a + 1 + 1 + 1) (i + 1) (by simpa using hx) (by omega) (by omega) (by omega) (by omega)
    have hrs : ∀ v : S83, rd_T83 (x.set i v) (i : Int) = v := by
      intro v
      have h3 : i < (x.set i v).length := by rw [List.length_set]; exact hlt
      rw [rd_T83_at (x.set i v) i h3, List.getElem_set_self]
    refine ⟨b, y, ev_succ ?_, hb⟩
    simp only [laws_markKnownS.l0, Option.bind_some, Int.toNat_natCast, if_pos (show (i : Int) < (x.length : Int) by omega), if_pos (show (0 : Int) ≤ (i : Int) by omega), w64 (x := a + 1) (by omega) (by omega), w64 (x := a + 1 + 1) (by omega) (by omega), w64 (x := a + 1 + 1 + 1) (by omega) (by omega), w64 (x := (i : Int) + 1) (by omega) (by omega), hrs, List.set_set]
    exact Ev.bind ht e
theorem markK_ev (x : List S83) (hn : x.length ≤ 1048576) {a : Int} (h0 : 0 ≤ a) (h1 : a ≤ 1000000) : ∃ b y, Ev (fun k => laws_markKnownS.f k x a) (b, y) ∧ 0 ≤ b :=
  markK_l x.length hn x.length x a 0 rfl (by omega) (by omega) h0 (by omega)

theorem syear (a : Int) : spec_l14Year.f a = some (decide (1 ≤ a ∧ a ≤ 3000)) := by unfold spec_l14Year.f; rw [in_val]; rfl
theorem iyear (a : Int) : impl_isYear.f a = some (decide (1 ≤ a ∧ a ≤ 3000)) := by unfold impl_isYear.f; rw [within_val]; rfl
theorem unused_l (l : List S83) (hl : l.length ≤ 1048576) (y : Int) (d : Nat) : ∀ (out : List ByteArray) (i : Nat), i ≤ l.length → l.length - i = d → out.length ≤ i →
    ∃ res, Ev (fun k => spec_UnusedIn.l0 k l y out i) (res, 0) ∧ Ev (fun k => impl_UnusedIn.l0 k y out l l.length i) (res, 0) ∧ res.length ≤ l.length := by
  induction d with
  | zero =>
    intro out i hi hd ho
    refine ⟨out, ev_succ ?_, ev_succ ?_, by omega⟩
    · simp only [spec_UnusedIn.l0, if_neg (show ¬ (i : Int) < (l.length : Int) by omega)]
      exact ev_const rfl
    · simp only [impl_UnusedIn.l0, if_neg (show ¬ (i : Int) < (l.length : Int) by omega)]
      exact ev_const rfl
  | succ d ih =>
    intro out i hi hd ho
    have hlt : i < l.length := by omega
    by_cases c : l[i].f1 ≤ y ∧ y ≤ l[i].f2
    · obtain ⟨res, h1, h2, h3⟩ := ih out (i + 1) (by omega) (by omega) (by omega)
      refine ⟨res, ev_succ ?_, ev_succ ?_, h3⟩
      · simp only [spec_UnusedIn.l0, if_pos (show (i : Int) < (l.length : Int) by omega), if_pos (show (0 : Int) ≤ (i : Int) by omega), rd_T83_at _ _ hlt, in_val, Option.bind_some, decide_eq_true c, if_true, w64 (x := (i : Int) + 1) (by omega) (by omega)]
        exact h1
      · simp only [impl_UnusedIn.l0, impl_wasUsed.f, if_pos (show (i : Int) < (l.length : Int) by omega), if_pos (show (0 : Int) ≤ (i : Int) by omega), rd_T83_at _ _ hlt, within_val, Option.bind_some, decide_eq_true c, if_true, w64 (x := (i : Int) + 1) (by omega) (by omega)]
        exact h2
    · obtain ⟨res, h1, h2, h3⟩ := ih (out ++ [l[i].f0]) (i + 1) (by omega) (by omega) (by simp; omega)
      refine ⟨res, ev_succ ?_, ev_succ ?_, h3⟩
      · simp only [spec_UnusedIn.l0, if_pos (show (i : Int) < (l.length : Int) by omega), if_pos (show (0 : Int) ≤ (i : Int) by omega), rd_T83_at _ _ hlt, in_val, Option.bind_some, decide_eq_false c, Bool.false_eq_true, if_false, if_pos (show out.length < 8796093022208 by omega), w64 (x := (i : Int) + 1) (by omega) (by omega)]
        exact h1
      · simp only [impl_UnusedIn.l0, impl_wasUsed.f, if_pos (show (i : Int) < (l.length : Int) by omega), if_pos (show (0 : Int) ≤ (i : Int) by omega), rd_T83_at _ _ hlt, within_val, Option.bind_some, decide_eq_false c, Bool.false_eq_true, if_false, if_pos (show out.length < 8796093022208 by omega), w64 (x := (i : Int) + 1) (by omega) (by omega)]
        exact h2
theorem unused_same (l : List S83) (hl : l.length ≤ 1048576) (y : Int) : ∃ res c, Ev (fun k => spec_UnusedIn.f k l y) (res, c) ∧ Ev (fun k => impl_UnusedIn.f k l y) (res, c) ∧ res.length ≤ l.length := by
  obtain ⟨v, h1, h2⟩ := known_same l hl
  cases v with
  | false =>
    refine ⟨[], 1, ?_, ?_, by simp⟩
    · unfold spec_UnusedIn.f
      refine Ev.bind h1 ?_
      simp only [Bool.false_eq_true, if_false]
      exact ev_const rfl
    · unfold impl_UnusedIn.f
      refine Ev.bind h2 ?_
      simp only [iyear, Option.bind_some, impl_check.f, Bool.false_eq_true, if_false, if_neg (show ¬ (1 : Int) = 0 by omega)]
      exact ev_const rfl
  | true =>
    by_cases c : 1 ≤ y ∧ y ≤ 3000
    · obtain ⟨res, e1, e2, e3⟩ := unused_l l hl y l.length [] 0 (by omega) (by omega) (by simp)
      refine ⟨res, 0, ?_, ?_, e3⟩
      · unfold spec_UnusedIn.f
        refine Ev.bind h1 ?_
        simp only [if_true, syear, Option.bind_some, decide_eq_true c]
        exact e1
      · unfold impl_UnusedIn.f
        refine Ev.bind h2 ?_
        simp only [iyear, Option.bind_some, impl_check.f, decide_eq_true c, if_true]
        exact e2
    · refine ⟨[], 2, ?_, ?_, by simp⟩
      · unfold spec_UnusedIn.f
        refine Ev.bind h1 ?_
        simp only [if_true, syear, Option.bind_some, decide_eq_false c, Bool.false_eq_true, if_false]
        exact ev_const rfl
      · unfold impl_UnusedIn.f
        refine Ev.bind h2 ?_
        simp only [iyear, Option.bind_some, impl_check.f, decide_eq_false c, if_true, Bool.false_eq_true, if_false, if_neg (show ¬ (2 : Int) = 0 by omega)]
        exact ev_const rfl
theorem FnExactUnusedIn : laws_FnExactUnusedIn.Pure := by
  intro l y hl hw _
  apply Ev.rounds
  unfold laws_FnExactUnusedIn.f
  rcases szKnown_ev l hl (fun y hy => (hw y hy).1) (a := 1048576) (by omega) (by omega) with e | ⟨b, e, b0, b1⟩
  · refine Ev.bind e ?_
    simp only [if_pos (show (-1 : Int) < 0 by omega)]
    exact ev_const rfl
  · refine Ev.bind e ?_
    simp only [if_neg (show ¬ b < 0 by omega)]
    have hto := toKnown_ev l (by omega)
    have hml : (l.map cvKnown).length ≤ 1048576 := by rw [List.length_map]; omega
    obtain ⟨res, cd, s1, s2, s3⟩ := unused_same (l.map cvKnown) hml y
    have q := eqs_ev res (by omega)
    obtain ⟨p1, y1, m1, n1⟩ := markK_ev (l.map cvKnown) hml (a := 1) (by omega) (by omega)
    obtain ⟨p2, y2, m2, m3, n2, n3⟩ := markH_ev res (by omega) (a := 1) (by omega) (by omega)
    refine Ev.bind hto (Ev.bind s1 (Ev.bind hto (Ev.bind s2 (Ev.bind q ?_))))
    simp only [if_true, bne_self_eq_false]
    refine ev_succ ?_
    simp only [laws_FnExactUnusedIn.j0, Bool.false_eq_true, if_false]
    refine Ev.bind hto (Ev.bind (eqKnown_ev _ hml) ?_)
    simp only [if_true]
    refine Ev.bind m1 ?_
    simp only [if_neg (show ¬ p1 < 0 by omega)]
    refine Ev.bind q ?_
    simp only [if_true, bne_self_eq_false]
    refine ev_succ ?_
    simp only [laws_FnExactUnusedIn.j1, Bool.false_eq_true, if_false]
    refine Ev.bind m2 (Ev.bind m3 ?_)
    simp only [if_neg (show ¬ p2 < 0 by omega), if_true]
    refine Ev.bind hto (Ev.bind s2 (Ev.bind q ?_))
    simp only [if_true, bne_self_eq_false]
    refine ev_succ ?_
    simp only [laws_FnExactUnusedIn.j2, Bool.false_eq_true, if_false]
    refine Ev.bind m3 ?_
    simp only [if_neg (show ¬ p2 < 0 by omega), if_true]
    exact ev_const rfl

end Go.Proofs.YtpblmoebembiaaaDoor.Pure
