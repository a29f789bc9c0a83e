/- FnExactShortEdits: the program's ShortEdits and the reference's come to the same list and code, for all lists of edits. -/
import Derived.Test.YtdodbfialiggjaaDoorStatFnExactShortEdits
namespace Go.Proofs.YtdodbfialiggjaaDoor.Pure
open Go.RowKit Go.Proofs.YtdodbfialiggjaaDoor.PFnExactShortEdits Go.Proofs.YtdodbfialiggjaaDoorW.PrintWords Go.Proofs.YtdodbfialiggjaaDoorW.PrintLast Go.Proofs.YtdodbfialiggjaaDoorW.PrintMore
set_option linter.unusedVariables false
set_option linter.unusedSimpArgs false
theorem wfb {a : Int} (h : (Lit.int .i64 a).wf = true) : -9223372036854775808 ≤ a ∧ a ≤ 9223372036854775807 := by
  simpa [Lit.wf, IntKind.min, IntKind.max, IntKind.signed, IntKind.bits] using h
theorem w64 {x : Int} (h : -9223372036854775808 ≤ x) (h2 : x ≤ 9223372036854775807) : wrap64 x = x := by unfold wrap64; omega
theorem tdiv_nn {a b : Int} (h : 0 ≤ a) : Int.tdiv a b = a / b := Int.tdiv_eq_ediv_of_nonneg h
theorem tmod_nn {a b : Int} (h : 0 ≤ a) : Int.tmod a b = a % b := Int.tmod_eq_emod_of_nonneg h
theorem floor_val (a b : Int) (hb : 0 < b) : (if Int.tmod a b < 0 then Int.tdiv a b - 1 else Int.tdiv a b) = a / b := by
  have h1 := Int.mul_tdiv_add_tmod a b
  have hlt : Int.tmod a b < b := Int.tmod_lt_of_pos a hb
  have hgt : -b < Int.tmod a b := by
    have h2 := Int.tmod_lt_of_pos (-a) hb
    rw [Int.neg_tmod] at h2
    omega
  symm
  split
  · rename_i hneg
    refine ((Int.ediv_emod_unique hb (r := Int.tmod a b + b)).2 ⟨?_, by omega, by omega⟩).1
    rw [Int.mul_sub, Int.mul_one]
    omega
  · rename_i hneg
    exact ((Int.ediv_emod_unique hb (r := Int.tmod a b)).2 ⟨by omega, by omega, by omega⟩).1
theorem ediv_bd {a b : Int} (hb : 0 < b) (B : Int) (h0 : -B ≤ a) (h1 : a ≤ B) (hB : 0 ≤ B) : -B ≤ a / b ∧ a / b ≤ B := by
  constructor
  · rw [Int.le_ediv_iff_mul_le hb]
    have : B * 1 ≤ B * b := Int.mul_le_mul_of_nonneg_left (by omega) hB
    rw [Int.neg_mul]; omega
  · have h2 : a / b ≤ B / b := Int.ediv_le_ediv hb h1
    have h3 : B / b ≤ B := Int.ediv_le_self b hB
    omega
theorem ceil_alt (a b : Int) (hb : 0 < b) : (a + b - 1) / b = -((-a) / b) := by
  have h1 := Int.mul_ediv_add_emod (-a) b
  have h2 := Int.emod_nonneg (-a) (b := b) (by omega)
  have h3 := Int.emod_lt_of_pos (-a) hb
  refine ((Int.ediv_emod_unique hb (r := b - 1 - (-a) % b)).2 ⟨?_, by omega, by omega⟩).1
  rw [Int.mul_neg]
  omega

theorem ev_succ {α : Type} {g : Nat → Option α} {r : α} (h : Ev (fun k => g (k + 1)) r) : Ev g r := Ev.step (fun _ => rfl) h
theorem ev_const {α : Type} {g : Option α} {r : α} (h : g = some r) : Ev (fun _ => g) r := ⟨0, fun _ _ => h⟩
theorem ev_uniq {α : Type} {g : Nat → Option α} {a b : α} (h : Ev g a) (h' : Ev g b) : a = b := by
  obtain ⟨K, h⟩ := h
  obtain ⟨K', h'⟩ := h'
  have h1 := h (K + K') (by omega)
  rw [h' (K + K') (by omega)] at h1
  exact (Option.some.inj h1).symm

theorem toList_inj {a b : ByteArray} : a.toList = b.toList ↔ a = b := by
  constructor
  · intro h
    rw [ByteArray.toList_eq, ByteArray.toList_eq] at h
    obtain ⟨⟨x⟩⟩ := a
    obtain ⟨⟨y⟩⟩ := b
    simp at h
    rw [h]
  · intro h; rw [h]
def sizes (l : List ByteArray) : Int := (l.map (fun s => (s.size : Int))).sum
theorem sizes_cons (s : ByteArray) (l : List ByteArray) : sizes (s :: l) = s.size + sizes l := by simp [sizes]
theorem sizes_nn (l : List ByteArray) : 0 ≤ sizes l := by
  induction l with
  | nil => simp [sizes]
  | cons s l ih => rw [sizes_cons]; omega
theorem sizes_drop (l : List ByteArray) (i : Nat) (h : i < l.length) : sizes (l.drop i) = (l[i]).size + sizes (l.drop (i + 1)) := by
  rw [List.drop_eq_getElem_cons h, sizes_cons]
theorem rdOf_at (d : ByteArray) (l : List ByteArray) (i : Nat) (h : i < l.length) : rdOf d l (i : Int) = l[i] := by
  unfold rdOf
  rw [Int.toNat_natCast, List.getD_eq_getElem?_getD, List.getElem?_eq_getElem h]
  rfl

/-- A byte that a name may have. -/
def nameC (c : Int) : Prop := ((97 : Int) ≤ c ∧ c ≤ 122) ∨ ((48 : Int) ≤ c ∧ c ≤ 57) ∨ c = 45
instance instNameC (c : Int) : Decidable (nameC c) := by unfold nameC; infer_instance
/-- A name. -/
def IsNm (s : ByteArray) : Prop := 1 ≤ s.size ∧ s.size ≤ 12 ∧ ((97 : Int) ≤ bt s 0 ∧ bt s 0 ≤ 122) ∧ ∀ i, i < s.size → nameC (bt s (i : Int))
instance instIsNm (s : ByteArray) : Decidable (IsNm s) := by unfold IsNm; infer_instance
theorem toList_nil (s : ByteArray) : s.toList = ([] : List UInt8) ↔ s.size = 0 := by
  rw [ByteArray.toList_eq]
  obtain ⟨⟨x⟩⟩ := s
  show x = [] ↔ x.length = 0
  rw [List.length_eq_zero_iff]
theorem bt_at (s : ByteArray) (i : Nat) (h : i < s.size) : bt s (i : Int) = ((s.data.toList[i]'(by simpa using h)).toNat : Int) := by
  unfold bt
  rw [dif_pos (by simpa using h)]
  rfl
open Classical in
theorem snm_l (s : ByteArray) (hs : s.size ≤ 12) (d : Nat) : ∀ (i : Nat), i ≤ s.size → s.size - i = d → Ev (fun k => spec_IsName.l0 k s i) (decide (∀ j, i ≤ j → j < s.size → nameC (bt s (j : Int)))) := by
  induction d with
  | zero =>
    intro i hi hd
    apply ev_succ
    simp only [spec_IsName.l0, if_neg (show ¬ (i : Int) < (s.size : Int) by omega)]
    refine ev_const ?_
    congr 1
    symm
    rw [decide_eq_true_iff]
    intro j h1 h2; omega
  | succ d ih =>
    intro i hi hd
    have hlt : i < s.size := by omega
    have hih := ih (i + 1) (by omega) (by omega)
    have step : nameC (bt s (i : Int)) → (decide (∀ j, i ≤ j → j < s.size → nameC (bt s (j : Int)))) = decide (∀ j, i + 1 ≤ j → j < s.size → nameC (bt s (j : Int))) := by
      intro hc
      rw [decide_eq_decide]
      constructor
      · intro h j h1 h2; exact h j (by omega) h2
      · intro h j h1 h2
        by_cases e : j = i
        · subst e; exact hc
        · exact h j (by omega) h2
    apply ev_succ
    simp only [spec_IsName.l0, spec_l01Small.f, spec_l01Digit.f, if_pos (show (i : Int) < (s.size : Int) by omega), if_pos (show (0 : Int) ≤ (i : Int) by omega), w64 (x := (i : Int) + 1) (by omega) (by omega)]
    by_cases h1 : 97 ≤ bt s (i : Int) ∧ bt s (i : Int) ≤ 122
    · simp only [ge_iff_le, if_pos h1.1, Option.bind_some, decide_eq_true h1.2, if_true]
      rw [step (.inl h1)]
      exact hih
    · have e1 : (if bt s (i : Int) ≥ 97 then some (decide (bt s (i : Int) ≤ 122)) else some false) = some false := by
        by_cases h : bt s (i : Int) ≥ 97
        · rw [if_pos h, decide_eq_false (fun h2 => h1 ⟨h, h2⟩)]
        · rw [if_neg h]
      simp only [e1, Option.bind_some, Bool.false_eq_true, if_false]
      by_cases h2 : 48 ≤ bt s (i : Int) ∧ bt s (i : Int) ≤ 57
      · simp only [ge_iff_le, if_pos h2.1, Option.bind_some, decide_eq_true h2.2, if_true]
        rw [step (.inr (.inl h2))]
        exact hih
      · have e2 : (if bt s (i : Int) ≥ 48 then some (decide (bt s (i : Int) ≤ 57)) else some false) = some false := by
          by_cases h : bt s (i : Int) ≥ 48
          · rw [if_pos h, decide_eq_false (fun h3 => h2 ⟨h, h3⟩)]
          · rw [if_neg h]
        simp only [e2, Option.bind_some, Bool.false_eq_true, if_false]
        by_cases h3 : bt s (i : Int) = 45
        · simp only [if_pos h3]
          rw [step (.inr (.inr h3))]
          exact hih
        · simp only [if_neg h3]
          refine ev_const ?_
          congr 1
          symm
          rw [decide_eq_false_iff_not]
          intro h
          rcases h i (by omega) hlt with h | h | h
          · exact h1 h
          · exact h2 h
          · exact h3 h
theorem spec_name (s : ByteArray) : Ev (fun k => spec_IsName.f k s) (decide (IsNm s)) := by
  classical
  have no : ¬ IsNm s → Ev (fun k => spec_IsName.j0 k s true) (decide (IsNm s)) := fun h => by
    refine ev_succ ?_
    simp only [spec_IsName.j0, if_true]
    exact ev_const (by rw [decide_eq_false h])
  unfold spec_IsName.f
  by_cases h0 : s.size = 0
  · simp only [if_pos ((toList_nil s).2 h0)]
    exact no (fun h => by have := h.1; omega)
  · simp only [if_neg (fun h => h0 ((toList_nil s).1 h))]
    by_cases h1 : (s.size : Int) > 12
    · simp only [if_pos h1]
      exact no (fun h => by have := h.2.1; omega)
    · simp only [if_neg h1, if_pos (show (0 : Int) < (s.size : Int) by omega), spec_l01Small.f]
      by_cases h2 : 97 ≤ bt s 0 ∧ bt s 0 ≤ 122
      · simp only [ge_iff_le, if_pos h2.1, Option.bind_some, decide_eq_true h2.2, Bool.not_true]
        refine ev_succ ?_
        simp only [spec_IsName.j0, Bool.false_eq_true, if_false]
        have := snm_l s (by omega) s.size 0 (by omega) (by omega)
        have e : (decide (IsNm s)) = decide (∀ j, 0 ≤ j → j < s.size → nameC (bt s (j : Int))) := by
          rw [decide_eq_decide]
          exact ⟨fun h j _ hj => h.2.2.2 j hj, fun h => ⟨by omega, by omega, h2, fun j hj => h j (by omega) hj⟩⟩
        rw [e]
        exact this
      · have e1 : (if bt s 0 ≥ 97 then some (decide (bt s 0 ≤ 122)) else some false) = some false := by
          by_cases h : bt s 0 ≥ 97
          · rw [if_pos h, decide_eq_false (fun h3 => h2 ⟨h, h3⟩)]
          · rw [if_neg h]
        simp only [e1, Option.bind_some, Bool.not_false]
        exact no (fun h => h2 h.2.2.1)

theorem dw_nil (p : UInt8 → Bool) (l : List UInt8) : l.dropWhile p = [] ↔ ∀ b ∈ l, p b = true := by
  induction l with
  | nil => simp
  | cons a l ih =>
    by_cases h : p a = true
    · simp [List.dropWhile, h, ih]
    · simp [List.dropWhile, h]
theorem dw_head (p : UInt8 → Bool) (l : List UInt8) (x : UInt8) (xs : List UInt8) (h : l.dropWhile p = x :: xs) : p x = false := by
  induction l with
  | nil => simp at h
  | cons a l ih =>
    by_cases h2 : p a = true
    · simp only [List.dropWhile, h2] at h
      exact ih h
    · have h3 : p a = false := by simpa using h2
      simp only [List.dropWhile, h3, List.cons.injEq] at h
      rw [← h.1]; exact h3
theorem trimS_nil (l cs : List UInt8) : Go.Lib.trimS l cs = [] ↔ ∀ b ∈ l, cs.contains b = true := by
  unfold Go.Lib.trimS Go.Lib.trimLeftS Go.Lib.trimRightS
  rw [dw_nil]
  constructor
  · intro h b hb
    cases e : l.reverse.dropWhile (cs.contains ·) with
    | nil =>
      rw [dw_nil] at e
      exact e b (by simpa using hb)
    | cons x xs =>
      exfalso
      have h1 := dw_head _ _ _ _ e
      have h2 := h x (by rw [e]; simp)
      rw [h2] at h1
      cases h1
  · intro h b hb
    exact h b (by simpa using (List.dropWhile_sublist _).subset (List.mem_reverse.1 hb))
theorem name_cut (b : UInt8) : ([97, 98, 99, 100, 101, 102, 103, 104, 105, 106, 107, 108, 109, 110, 111, 112, 113, 114, 115, 116, 117, 118, 119, 120, 121, 122, 48, 49, 50, 51, 52, 53, 54, 55, 56, 57, 45] : List UInt8).contains b = decide (nameC (b.toNat : Int)) := by
  have key : ((List.range 256).all fun n => (([97, 98, 99, 100, 101, 102, 103, 104, 105, 106, 107, 108, 109, 110, 111, 112, 113, 114, 115, 116, 117, 118, 119, 120, 121, 122, 48, 49, 50, 51, 52, 53, 54, 55, 56, 57, 45] : List UInt8).contains (UInt8.ofNat n) == decide (((97 : Int) ≤ (n : Int) ∧ (n : Int) ≤ 122) ∨ ((48 : Int) ≤ (n : Int) ∧ (n : Int) ≤ 57) ∨ (n : Int) = 45))) = true := by decide +kernel
  have h := List.all_eq_true.1 key b.toNat (List.mem_range.2 b.toNat_lt)
  rw [UInt8.ofNat_toNat] at h
  rw [beq_iff_eq] at h
  rw [h]
  rfl
theorem impl_name (s : ByteArray) : impl_IsName.f s = some (decide (IsNm s)) := by
  unfold impl_IsName.f
  by_cases h0 : (s.size : Int) < 1
  · rw [if_pos h0, decide_eq_false (fun h => by have := h.1; omega)]
  · rw [if_neg h0]
    by_cases h1 : (s.size : Int) > 12
    · rw [if_pos h1, decide_eq_false (fun h => by have := h.2.1; omega)]
    · rw [if_neg h1, if_pos (by omega)]
      by_cases h2 : bt s 0 < 97
      · rw [if_pos h2, decide_eq_false (fun h => by have := h.2.2.1.1; omega)]
      · rw [if_neg h2]
        by_cases h3 : bt s 0 > 122
        · rw [if_pos h3, decide_eq_false (fun h => by have := h.2.2.1.2; omega)]
        · rw [if_neg h3]
          unfold strings_Trim.f
          rw [if_pos ⟨by omega, by decide, by decide +kernel⟩]
          simp only [Option.bind_some]
          congr 1
          have e : (decide (IsNm s)) = decide (∀ b ∈ s.data.toList, nameC (b.toNat : Int)) := by
            rw [decide_eq_decide]
            constructor
            · intro h b hb
              obtain ⟨j, hj, rfl⟩ := List.getElem_of_mem hb
              have := h.2.2.2 j (by simpa using hj)
              rw [bt_at s j (by simpa using hj)] at this
              exact this
            · intro h
              refine ⟨by omega, by omega, ⟨by omega, by omega⟩, fun j hj => ?_⟩
              rw [bt_at s j hj]
              exact h _ (List.getElem_mem _)
          rw [e]
          have e2 : ∀ t : List UInt8, (({ data := t.toArray } : ByteArray).toList == ([] : List UInt8)) = decide (t = []) := by
            intro t
            rw [ByteArray.toList_eq]
            cases t <;> simp
          rw [e2, decide_eq_decide, trimS_nil]
          constructor
          · intro h b hb
            have := h b hb
            rw [name_cut] at this
            exact of_decide_eq_true this
          · intro h b hb
            rw [name_cut]
            exact decide_eq_true (h b hb)

theorem in_val (a b c : Int) : spec_l00In.f a b c = some (decide (b ≤ a ∧ a ≤ c)) := by
  unfold spec_l00In.f
  by_cases h : a ≥ b <;> by_cases h2 : a ≤ c <;> simp [h, h2] <;> omega
theorem within_val (a b c : Int) : impl_within.f a b c = some (decide (b ≤ a ∧ a ≤ c)) := in_val a b c

/-- A name or none. -/
def Engr (s : ByteArray) : Prop := s.size = 0 ∨ IsNm s
instance instEngr (s : ByteArray) : Decidable (Engr s) := by unfold Engr; infer_instance
theorem spec_engr (s : ByteArray) : Ev (fun k => spec_l13Name.f k s) (decide (Engr s)) := by
  unfold spec_l13Name.f
  by_cases h : s.size = 0
  · simp only [if_pos ((toList_nil s).2 h)]
    exact ev_const (by rw [decide_eq_true (show Engr s from .inl h)])
  · simp only [if_neg (fun e => h ((toList_nil s).1 e))]
    have e : decide (Engr s) = decide (IsNm s) := by
      rw [decide_eq_decide]
      exact ⟨fun x => x.resolve_left h, .inr⟩
    rw [e]
    exact Ev.bind (spec_name s) (ev_const rfl)
theorem impl_engr (s : ByteArray) : impl_isEngraved.f s = some (decide (Engr s)) := by
  unfold impl_isEngraved.f
  by_cases h : s.size = 0
  · rw [if_pos ((toList_nil s).2 h), decide_eq_true (show Engr s from .inl h)]
  · rw [if_neg (fun e => h ((toList_nil s).1 e)), impl_name]
    have e : decide (Engr s) = decide (IsNm s) := by
      rw [decide_eq_decide]
      exact ⟨fun x => x.resolve_left h, .inr⟩
    rw [e]
    rfl

theorem rd_T64_at (l : List S64) (i : Nat) (h : i < l.length) : rd_T64 l (i : Int) = l[i] := by
  unfold rd_T64
  rw [Int.toNat_natCast, List.getD_eq_getElem?_getD, List.getElem?_eq_getElem h]
  rfl

theorem rd_T52_at (l : List S52) (i : Nat) (h : i < l.length) : rd_T52 l (i : Int) = l[i] := by
  unfold rd_T52
  rw [Int.toNat_natCast, List.getD_eq_getElem?_getD, List.getElem?_eq_getElem h]
  rfl

def cvEdit (x : S64) : S52 := ⟨x.f0, x.f1, x.f2⟩
theorem take_set_Edit (x : List S52) (i : Nat) (v : S52) (h : i < x.length) : (x.set i v).take (i + 1) = x.take i ++ [v] := by
  rw [List.take_succ_eq_append_getElem (by simpa using h), List.getElem_set_self, List.take_set_of_le (Nat.le_refl _)]
theorem toEdit_l (l : List S64) (hl : l.length ≤ 1048576) (d : Nat) : ∀ (x : List S52) (i : Nat), i ≤ l.length → l.length - i = d → x.length = l.length → x.take i = (l.map cvEdit).take i → Ev (fun k => laws_toEditS.l0 k l x i) (l.map cvEdit) := by
  induction d with
  | zero =>
    intro x i hi hd hx ht
    apply ev_succ
    simp only [laws_toEditS.l0]
    rw [List.take_of_length_le (by omega), List.take_of_length_le (by simp; omega)] at ht
    simp only [if_neg (show ¬ (i : Int) < (l.length : Int) by omega)]
    rw [ht]
    exact ev_const rfl
  | succ d ih =>
    intro x i hi hd hx ht
    have hlt : i < l.length := by omega
    apply ev_succ
    simp only [laws_toEditS.l0, laws_toEdit.f, Option.bind_some, if_pos (show (i : Int) < (l.length : Int) by omega), if_pos (show (0 : Int) ≤ (i : Int) by omega), if_pos (show (i : Int) < (x.length : Int) by omega), rd_T64_at _ _ hlt, w64 (x := (i : Int) + 1) (by omega) (by omega), Int.toNat_natCast]
    exact ih (x.set i (cvEdit l[i])) (i + 1) (by omega) (by omega) (by simpa using hx) (by rw [take_set_Edit _ _ _ (by omega), List.take_succ_eq_append_getElem (by simpa using hlt), ht, List.getElem_map])
theorem toEdit_ev (l : List S64) (hl : l.length ≤ 1048576) : Ev (fun k => laws_toEditS.f k l) (l.map cvEdit) := by
  refine Ev.congr (fun k => by unfold laws_toEditS.f; rw [if_pos (by omega), if_pos (by omega)]) ?_
  exact toEdit_l l hl l.length _ 0 (by omega) (by omega) (by simp) (by simp)

theorem eqEdit_l (x : List S52) (hl : x.length ≤ 1048576) (d : Nat) : ∀ (i : Nat), i ≤ x.length → x.length - i = d → Ev (fun k => laws_eqEditS.l0 k x x i) true := by
  induction d with
  | zero =>
    intro i hi hd
    apply ev_succ
    simp only [laws_eqEditS.l0, if_neg (show ¬ (i : Int) < (x.length : Int) by omega)]
    exact ev_const rfl
  | succ d ih =>
    intro i hi hd
    apply ev_succ
    simp only [laws_eqEditS.l0, laws_eqEdit.f, if_true, Option.bind_some, if_pos (show (i : Int) < (x.length : Int) by omega), if_pos (show (0 : Int) ≤ (i : Int) by omega), w64 (x := (i : Int) + 1) (by omega) (by omega)]
    exact ih (i + 1) (by omega) (by omega)
theorem eqEdit_ev (x : List S52) (hl : x.length ≤ 1048576) : Ev (fun k => laws_eqEditS.f k x x) true := by
  unfold laws_eqEditS.f
  simp only [if_true]
  exact eqEdit_l x hl x.length 0 (by omega) (by omega)

theorem szEdit1 (x : S64) (hx : x.f1.size ≤ maxLen ∧ x.f2.size ≤ maxLen) {a : Int} (h0 : 0 ≤ a) (h1 : a ≤ 1048576) : laws_szEdit.f x.f0 x.f1 x.f2 a = some (-1) ∨ ∃ b, laws_szEdit.f x.f0 x.f1 x.f2 a = some b ∧ 0 ≤ b ∧ b ≤ a := by
  unfold maxLen at hx
  unfold laws_szEdit.f
  rw [w64 (x := a - (x.f1.size : Int)) (by omega) (by omega)]
  by_cases c0 : a - (x.f1.size : Int) < 0
  · left; rw [if_pos c0]
  · rw [if_neg c0]
    rw [w64 (x := a - (x.f1.size : Int) - (x.f2.size : Int)) (by omega) (by omega)]
    by_cases c1 : a - (x.f1.size : Int) - (x.f2.size : Int) < 0
    · left; rw [if_pos c1]
    · rw [if_neg c1]
      exact .inr ⟨_, rfl, by omega, by omega⟩
theorem szEdit_l (l : List S64) (hl : l.length ≤ maxLen) (hw : ∀ y ∈ l, y.f1.size ≤ maxLen ∧ y.f2.size ≤ maxLen) (d : Nat) : ∀ (a : Int) (i : Nat), i ≤ l.length → l.length - i = d → 0 ≤ a → a ≤ 1048576 →
    Ev (fun k => laws_szEditS.l0 k l a i) (-1) ∨ ∃ b, Ev (fun k => laws_szEditS.l0 k l a i) b ∧ 0 ≤ b ∧ b ≤ a := by
  unfold maxLen at hl
  induction d with
  | zero =>
    intro a i hi hd h0 h1
    refine .inr ⟨a, ev_succ ?_, h0, Int.le_refl _⟩
    simp only [laws_szEditS.l0, if_neg (show ¬ (i : Int) < (l.length : Int) by omega)]
    exact ev_const rfl
  | succ d ih =>
    intro a i hi hd h0 h1
    have hlt : i < l.length := by omega
    rcases szEdit1 l[i] (hw _ (List.getElem_mem hlt)) h0 h1 with e | ⟨b, e, b0, b1⟩
    · refine .inl (ev_succ ?_)
      simp only [laws_szEditS.l0, if_pos (show (i : Int) < (l.length : Int) by omega), if_pos (show (0 : Int) ≤ (i : Int) by omega), rd_T64_at _ _ hlt, e, Option.bind_some, if_pos (show (-1 : Int) < 0 by omega)]
      exact ev_const rfl
    · rcases ih b (i + 1) (by omega) (by omega) b0 (by omega) with e2 | ⟨c, e2, c0, c1⟩
      · refine .inl (ev_succ ?_)
        simp only [laws_szEditS.l0, if_pos (show (i : Int) < (l.length : Int) by omega), if_pos (show (0 : Int) ≤ (i : Int) by omega), rd_T64_at _ _ hlt, e, Option.bind_some, if_neg (show ¬ b < 0 by omega), w64 (x := (i : Int) + 1) (by omega) (by omega)]
        exact e2
      · refine .inr ⟨c, ev_succ ?_, c0, by omega⟩
        simp only [laws_szEditS.l0, if_pos (show (i : Int) < (l.length : Int) by omega), if_pos (show (0 : Int) ≤ (i : Int) by omega), rd_T64_at _ _ hlt, e, Option.bind_some, if_neg (show ¬ b < 0 by omega), w64 (x := (i : Int) + 1) (by omega) (by omega)]
        exact e2
/-- The count of a list: none is left (the law then says nothing), or the list is short. -/
theorem szEdit_ev (l : List S64) (hl : l.length ≤ maxLen) (hw : ∀ y ∈ l, y.f1.size ≤ maxLen ∧ y.f2.size ≤ maxLen) {a : Int} (h0 : 0 ≤ a) (h1 : a ≤ 1048576) :
    Ev (fun k => laws_szEditS.f k l a) (-1) ∨ ∃ b, Ev (fun k => laws_szEditS.f k l a) b ∧ 0 ≤ b ∧ b ≤ a - l.length := by
  have hm := hl
  unfold maxLen at hm
  by_cases h : a - (l.length : Int) < 0
  · refine .inl (Ev.congr (fun k => by unfold laws_szEditS.f; rw [w64 (x := a - (l.length : Int)) (by omega) (by omega), if_pos h]) (Ev.now (-1)))
  · rcases szEdit_l l hl hw l.length (a - l.length) 0 (by omega) (by omega) (by omega) (by omega) with e | ⟨b, e, b0, b1⟩
    · exact .inl (Ev.congr (fun k => by unfold laws_szEditS.f; rw [w64 (x := a - (l.length : Int)) (by omega) (by omega), if_neg h]; rfl) e)
    · exact .inr ⟨b, Ev.congr (fun k => by unfold laws_szEditS.f; rw [w64 (x := a - (l.length : Int)) (by omega) (by omega), if_neg h]; rfl) e, b0, b1⟩

/-- What an edit must hold. -/
def EditOk (x : S52) : Prop := ((0 : Int) ≤ x.f0 ∧ x.f0 ≤ 11) ∧ Engr x.f1 ∧ Engr x.f2 ∧ x.f1 ≠ x.f2
instance instEditOk (x : S52) : Decidable (EditOk x) := by
  unfold EditOk
  exact @instDecidableAnd _ _ inferInstance (@instDecidableAnd _ _ inferInstance (@instDecidableAnd _ _ inferInstance (decidable_of_iff (¬ x.f1.toList = x.f2.toList) (by rw [toList_inj]))))
theorem spec_edit (x : S52) : Ev (fun k => spec_l13One.f k x.f0 x.f1 x.f2) (decide (EditOk x)) := by
  unfold spec_l13One.f
  simp only [in_val, Option.bind_some]
  by_cases h1 : 0 ≤ x.f0 ∧ x.f0 ≤ 11
  · simp only [decide_eq_true h1, if_true]
    refine Ev.bind (spec_engr x.f1) ?_
    by_cases h2 : Engr x.f1
    · simp only [decide_eq_true h2, if_true]
      refine Ev.bind (spec_engr x.f2) ?_
      by_cases h3 : Engr x.f2
      · simp only [decide_eq_true h3, if_true]
        refine ev_const (congrArg some ?_)
        by_cases h4 : x.f1 = x.f2
        · rw [decide_eq_false (show ¬ EditOk x from fun h => h.2.2.2 h4), h4]
          simp
        · rw [decide_eq_true (show EditOk x from ⟨h1, h2, h3, h4⟩)]
          simp only [bne_iff_ne, ne_eq]
          rw [toList_inj]
          exact h4
      · simp only [decide_eq_false h3, Bool.false_eq_true, if_false]
        exact ev_const (by rw [decide_eq_false (show ¬ EditOk x from fun h => h3 h.2.2.1)])
    · simp only [decide_eq_false h2, Bool.false_eq_true, if_false]
      exact ev_const (by rw [decide_eq_false (show ¬ EditOk x from fun h => h2 h.2.1)])
  · simp only [decide_eq_false h1, Bool.false_eq_true, if_false]
    exact ev_const (by rw [decide_eq_false (show ¬ EditOk x from fun h => h1 h.1)])
theorem impl_edit (x : S52) : impl_isEdit.f x.f0 x.f1 x.f2 = some (decide (EditOk x)) := by
  unfold impl_isEdit.f
  simp only [within_val, impl_engr, Option.bind_some]
  by_cases h1 : 0 ≤ x.f0 ∧ x.f0 ≤ 11
  · simp only [decide_eq_true h1, if_true]
    by_cases h2 : Engr x.f1
    · simp only [decide_eq_true h2, if_true]
      by_cases h3 : Engr x.f2
      · simp only [decide_eq_true h3, if_true]
        refine congrArg some ?_
        by_cases h4 : x.f1 = x.f2
        · rw [decide_eq_false (show ¬ EditOk x from fun h => h.2.2.2 h4), h4]
          simp
        · rw [decide_eq_true (show EditOk x from ⟨h1, h2, h3, h4⟩)]
          simp only [bne_iff_ne, ne_eq]
          rw [toList_inj]
          exact h4
      · simp only [decide_eq_false h3, Bool.false_eq_true, if_false]
        rw [decide_eq_false (show ¬ EditOk x from fun h => h3 h.2.2.1)]
    · simp only [decide_eq_false h2, Bool.false_eq_true, if_false]
      rw [decide_eq_false (show ¬ EditOk x from fun h => h2 h.2.1)]
  · simp only [decide_eq_false h1, Bool.false_eq_true, if_false]
    rw [decide_eq_false (show ¬ EditOk x from fun h => h1 h.1)]
/-- What edits must hold. -/
def EditsOk (l : List S52) : Prop := (∀ x ∈ l, EditOk x) ∧ (l.length : Int) ≤ 20
instance instEditsOk (l : List S52) : Decidable (EditsOk l) := by unfold EditsOk; infer_instance
def EditsFrom (l : List S52) (i : Nat) : Prop := (∀ x ∈ l.drop i, EditOk x) ∧ (l.length : Int) ≤ 20
instance instEditsFrom (l : List S52) (i : Nat) : Decidable (EditsFrom l i) := by unfold EditsFrom; infer_instance
theorem sedits_l (l : List S52) (hl : l.length ≤ 1048576) (d : Nat) : ∀ (i : Nat), i ≤ l.length → l.length - i = d → Ev (fun k => spec_l13Edits.l0 k l i) (decide (EditsFrom l i)) := by
  induction d with
  | zero =>
    intro i hi hd
    apply ev_succ
    simp only [spec_l13Edits.l0, if_neg (show ¬ (i : Int) < (l.length : Int) by omega)]
    refine ev_const (congrArg some (decide_eq_decide.2 ?_))
    unfold EditsFrom
    rw [List.drop_eq_nil_of_le (by omega)]
    simp
  | succ d ih =>
    intro i hi hd
    have hlt : i < l.length := by omega
    apply ev_succ
    simp only [spec_l13Edits.l0, if_pos (show (i : Int) < (l.length : Int) by omega), if_pos (show (0 : Int) ≤ (i : Int) by omega), rd_T52_at _ _ hlt, w64 (x := (i : Int) + 1) (by omega) (by omega)]
    refine Ev.bind (spec_edit l[i]) ?_
    by_cases h : EditOk l[i]
    · simp only [decide_eq_true h, if_true]
      have e : decide (EditsFrom l i) = decide (EditsFrom l (i + 1)) := by
        refine decide_eq_decide.2 ?_
        unfold EditsFrom
        rw [List.drop_eq_getElem_cons hlt, List.forall_mem_cons]
        exact ⟨fun x => ⟨x.1.2, x.2⟩, fun x => ⟨⟨h, x.1⟩, x.2⟩⟩
      rw [e]
      exact ih (i + 1) (by omega) (by omega)
    · simp only [decide_eq_false h, Bool.false_eq_true, if_false]
      refine ev_const ?_
      rw [decide_eq_false (show ¬ EditsFrom l i from fun h2 => h (h2.1 _ (by rw [List.drop_eq_getElem_cons hlt]; exact List.mem_cons_self)))]
theorem sedits_ev (l : List S52) (hl : l.length ≤ 1048576) : Ev (fun k => spec_l13Edits.f k l) (decide (EditsOk l)) := by
  have h := sedits_l l hl l.length 0 (by omega) (by omega)
  have e : decide (EditsOk l) = decide (EditsFrom l 0) := decide_eq_decide.2 Iff.rfl
  rw [e]
  exact h
theorem iedits_val (l : List S52) : impl_ValidEdits.f l = some (decide (EditsOk l)) := by
  have hb : ∀ x, impl_isEditBad x = !decide (EditOk x) := fun x => by unfold impl_isEditBad; rw [impl_edit]; rfl
  have ha : (!l.any impl_isEditBad) = decide (∀ s ∈ l, EditOk s) := by
    rw [show impl_isEditBad = fun x => !decide (EditOk x) from funext hb]
    rw [Bool.eq_iff_iff]
    simp
  unfold impl_ValidEdits.f
  rw [ha]
  by_cases h2 : (l.length : Int) ≤ 20
  · rw [if_pos h2]
    exact congrArg some (decide_eq_decide.2 ⟨fun h => ⟨h, h2⟩, fun h => h.1⟩)
  · rw [if_neg h2, decide_eq_false (show ¬ EditsOk l from fun h => h2 h.2)]

theorem markText_l (d : Nat) : ∀ (a : Int) (s : ByteArray), 0 ≤ a → a ≤ d → (s.size : Int) + a ≤ 8000000 → ∃ t, Ev (fun k => laws_markText.l0 k a s) t := by
  induction d with
  | zero =>
    intro a s h0 h1 h2
    refine ⟨(⟨#[109]⟩ : ByteArray) ++ s, ev_succ ?_⟩
    simp only [laws_markText.l0, if_neg (show ¬ a > 0 by omega), if_pos (show 1 + s.size ≤ 9223372036854775807 by omega)]
    exact ev_const rfl
  | succ d ih =>
    intro a s h0 h1 h2
    by_cases ha : a > 0
    · have hq : a / 10 < a := Int.ediv_lt_of_lt_mul (by omega) (by omega)
      have hq0 : 0 ≤ a / 10 := Int.ediv_nonneg h0 (by omega)
      obtain ⟨t, ht⟩ := ih (a / 10) (strOfNums [(wrap64 (48 + (Int.tmod a 10))) % 256] ++ s) hq0 (by omega) (by rw [ByteArray.size_append, strOfNums_size, List.length_singleton]; omega)
      refine ⟨t, ev_succ ?_⟩
      simp only [laws_markText.l0, if_pos ha, Option.bind_some, if_pos (show (strOfNums [(wrap64 (48 + (Int.tmod a 10))) % 256]).size + s.size ≤ 9223372036854775807 by rw [strOfNums_size, List.length_singleton]; omega), tdiv_nn h0, w64 (x := a / 10) (by omega) (by omega)]
      exact ht
    · refine ⟨(⟨#[109]⟩ : ByteArray) ++ s, ev_succ ?_⟩
      simp only [laws_markText.l0, if_neg ha, if_pos (show 1 + s.size ≤ 9223372036854775807 by omega)]
      exact ev_const rfl
theorem markText_ev {a : Int} (h0 : 0 ≤ a) (h1 : a ≤ 7000000) : ∃ t, Ev (fun k => laws_markText.f k a) t := by
  unfold laws_markText.f
  by_cases h : a ≤ 0
  · simp only [if_pos h]; exact ⟨_, ev_const rfl⟩
  · simp only [if_neg h]
    exact markText_l a.toNat a _ h0 (by omega) (by simp only [ByteArray.size, List.size_toArray, List.length_nil]; omega)

theorem markE_l (n : Nat) (hn : n ≤ 1000) (d : Nat) : ∀ (x : List S52) (a : Int) (i : Nat), x.length = n → i ≤ n → n - i = d → 0 ≤ a → a ≤ 1000000 + 3 * (i : Int) →
    ∃ b y, Ev (fun k => laws_markEditS.l0 k x a i) (b, y) ∧ Ev (fun k => laws_heldEditS.l0 k y a i) b ∧ y.length = n ∧ y.take i = x.take i ∧ 0 ≤ b := by
  induction d with
  | zero =>
    intro x a i hx hi hd h0 h1
    refine ⟨a, x, ev_succ ?_, ev_succ ?_, hx, rfl, h0⟩
    · simp only [laws_markEditS.l0, if_neg (show ¬ (i : Int) < (x.length : Int) by omega)]
      exact ev_const rfl
    · simp only [laws_heldEditS.l0, if_neg (show ¬ (i : Int) < (x.length : Int) by omega)]
      exact ev_const rfl
  | succ d ih =>
    intro x a i hx hi hd h0 h1
    have hlt : i < x.length := by omega
    obtain ⟨t1, ht1⟩ := markText_ev (a := a + 1) (by omega) (by omega)
    obtain ⟨t2, ht2⟩ := markText_ev (a := a + 1 + 1) (by omega) (by omega)
    obtain ⟨b, y, e1, e2, hy, ht, hb⟩ := ih (x.set i ⟨a, t1, t2⟩) (a + 1 + 1 + 1) (i + 1) (by simpa using hx) (by omega) (by omega) (by omega) (by omega)
    have hyi : y[i]'(by omega) = ⟨a, t1, t2⟩ := by
      have h2 : y[i]'(by omega) = (y.take (i + 1))[i]'(by rw [List.length_take]; omega) := by rw [List.getElem_take]
      rw [h2]
      simp only [ht, List.getElem_take, List.getElem_set_self]
    have hrs : ∀ v : S52, rd_T52 (x.set i v) (i : Int) = v := by
      intro v
      have h3 : i < (x.set i v).length := by rw [List.length_set]; exact hlt
      rw [rd_T52_at (x.set i v) i h3, List.getElem_set_self]
    refine ⟨b, y, ev_succ ?_, ev_succ ?_, hy, ?_, hb⟩
    · simp only [laws_markEditS.l0, Option.bind_some, Int.toNat_natCast, if_pos (show (i : Int) < (x.length : Int) by omega), if_pos (show (0 : Int) ≤ (i : Int) by omega), w64 (x := a + 1) (by omega) (by omega), w64 (x := a + 1 + 1) (by omega) (by omega), w64 (x := a + 1 + 1 + 1) (by omega) (by omega), w64 (x := (i : Int) + 1) (by omega) (by omega)]
      refine Ev.bind ht1 (Ev.bind ht2 ?_)
      simp only [hrs, List.set_set]
      exact e1
    · simp only [laws_heldEditS.l0, if_pos (show (i : Int) < (y.length : Int) by omega), if_pos (show (0 : Int) ≤ (i : Int) by omega), rd_T52_at _ _ (show i < y.length by omega), hyi, if_true, w64 (x := a + 1) (by omega) (by omega), w64 (x := a + 1 + 1) (by omega) (by omega), w64 (x := a + 1 + 1 + 1) (by omega) (by omega), w64 (x := (i : Int) + 1) (by omega) (by omega)]
      refine Ev.bind ht1 ?_
      simp only [if_true]
      refine Ev.bind ht2 ?_
      simp only [if_true]
      exact e2
    · have h3 : y.take i = (y.take (i + 1)).take i := by rw [List.take_take]; congr 1; omega
      rw [h3, ht, List.take_take, Nat.min_eq_left (by omega), List.take_set_of_le (Nat.le_refl _)]
theorem markE_ev (x : List S52) (hn : x.length ≤ 1000) {a : Int} (h0 : 0 ≤ a) (h1 : a ≤ 1000000) : ∃ b y, Ev (fun k => laws_markEditS.f k x a) (b, y) ∧ Ev (fun k => laws_heldEditS.f k y a) b ∧ y.length = x.length ∧ 0 ≤ b := by
  obtain ⟨b, y, e1, e2, hy, _, hb⟩ := markE_l x.length hn x.length x a 0 rfl (by omega) (by omega) h0 (by omega)
  exact ⟨b, y, e1, e2, hy, hb⟩

theorem markI_l (n : Nat) (hn : n ≤ 1048576) (d : Nat) : ∀ (x : List S52) (a : Int) (i : Nat), x.length = n → i ≤ n → n - i = d → 0 ≤ a → a ≤ 3000000 + 3 * (i : Int) →
    ∃ b y, Ev (fun k => laws_markEditS.l0 k x a i) (b, y) ∧ 0 ≤ b := by
  induction d with
  | zero =>
    intro x a i hx hi hd h0 h1
    refine ⟨a, x, ev_succ ?_, h0⟩
    simp only [laws_markEditS.l0, if_neg (show ¬ (i : Int) < (x.length : Int) by omega)]
    exact ev_const rfl
  | succ d ih =>
    intro x a i hx hi hd h0 h1
    have hlt : i < x.length := by omega
    obtain ⟨t, ht⟩ := markText_ev (a := a + 1) (by omega) (by omega)
    obtain ⟨u, hu⟩ := markText_ev (a := a + 1 + 1) (by omega) (by omega)
    obtain ⟨b, y, e, hb⟩ := ih (x.set i ⟨a, t, u⟩) (a + 1 + 1 + 1) (i + 1) (by simpa using hx) (by omega) (by omega) (by omega) (by omega)
    have hrs : ∀ v : S52, rd_T52 (x.set i v) (i : Int) = v := by
      intro v
      have h3 : i < (x.set i v).length := by rw [List.length_set]; exact hlt
      rw [rd_T52_at (x.set i v) i h3, List.getElem_set_self]
    refine ⟨b, y, ev_succ ?_, hb⟩
    simp only [laws_markEditS.l0, Option.bind_some, Int.toNat_natCast, if_pos (show (i : Int) < (x.length : Int) by omega), if_pos (show (0 : Int) ≤ (i : Int) by omega), w64 (x := a + 1) (by omega) (by omega), w64 (x := a + 1 + 1) (by omega) (by omega), w64 (x := a + 1 + 1 + 1) (by omega) (by omega), w64 (x := (i : Int) + 1) (by omega) (by omega), hrs, List.set_set]
    exact Ev.bind ht (Ev.bind hu e)
theorem markI_ev (x : List S52) (hn : x.length ≤ 1048576) {a : Int} (h0 : 0 ≤ a) (h1 : a ≤ 3000000) : ∃ b y, Ev (fun k => laws_markEditS.f k x a) (b, y) ∧ 0 ≤ b :=
  markI_l x.length hn x.length x a 0 rfl (by omega) (by omega) h0 (by omega)
abbrev ED := S52
theorem ed_eq {x y : ED} (h0 : x.f0 = y.f0) (h1 : x.f1 = y.f1) (h2 : x.f2 = y.f2) : x = y := by
  cases x; cases y; simp_all
/-- What is known of a place: nothing yet, or its first and its last text. -/
abbrev St := Option (ByteArray × ByteArray)
/-- The edits of one place, one behind the other: none: they clash. -/
def runP (p : Int) : St → List ED → Option St
  | st, [] => some st
  | st, x :: xs => if x.f0 = p then (match st with | none => runP p (some (x.f1, x.f2)) xs | some (o, n) => if n.toList = x.f1.toList then runP p (some (o, x.f2)) xs else none) else runP p st xs
theorem runP_ne {p : Int} {st : St} {x : ED} {xs : List ED} (h : x.f0 ≠ p) : runP p st (x :: xs) = runP p st xs := by
  show (if x.f0 = p then _ else _) = _
  rw [if_neg h]
theorem runP_first {x : ED} {xs : List ED} : runP x.f0 none (x :: xs) = runP x.f0 (some (x.f1, x.f2)) xs := by
  show (if x.f0 = x.f0 then _ else _) = _
  rw [if_pos rfl]
theorem runP_next {x : ED} {xs : List ED} (o n : ByteArray) : runP x.f0 (some (o, n)) (x :: xs) = if n.toList = x.f1.toList then runP x.f0 (some (o, x.f2)) xs else none := by
  show (if x.f0 = x.f0 then _ else _) = _
  rw [if_pos rfl]
def Asc (l : List ED) : Prop := l.Pairwise (fun a b => a.f0 < b.f0)
def InR (l : List ED) : Prop := ∀ x ∈ l, 0 ≤ x.f0 ∧ x.f0 ≤ 11
/-- A list holds what is known of a place. -/
def Rel (l : List ED) (p : Int) : St → Prop
  | none => ∀ y ∈ l, y.f0 ≠ p
  | some (o, n) => (⟨p, o, n⟩ : ED) ∈ l
theorem asc_one {l : List ED} (h : Asc l) {x y : ED} (hx : x ∈ l) (hy : y ∈ l) (e : x.f0 = y.f0) : x = y := by
  unfold Asc at h
  induction l with
  | nil => cases hx
  | cons a l ih =>
    obtain ⟨h1, h2⟩ := List.pairwise_cons.1 h
    rcases List.mem_cons.1 hx with ex | hx2
    · rcases List.mem_cons.1 hy with ey | hy2
      · rw [ex, ey]
      · have := h1 y hy2; rw [← ex] at this; omega
    · rcases List.mem_cons.1 hy with ey | hy2
      · have := h1 x hx2; rw [← ey] at this; omega
      · exact ih h2 hx2 hy2
theorem asc_same : ∀ (a b : List ED), Asc a → Asc b → (∀ x, x ∈ a ↔ x ∈ b) → a = b
  | [], [], _, _, _ => rfl
  | [], y :: b, _, _, h => by have := (h y).2 (by simp); simp at this
  | x :: a, [], _, _, h => by have := (h x).1 (by simp); simp at this
  | x :: a, y :: b, h1, h2, h => by
    obtain ⟨g1, g2⟩ := List.pairwise_cons.1 h1
    obtain ⟨f1, f2⟩ := List.pairwise_cons.1 h2
    have e : x = y := by
      rcases List.mem_cons.1 ((h x).1 (by simp)) with e | e
      · exact e
      · rcases List.mem_cons.1 ((h y).2 (by simp)) with e2 | e2
        · exact e2.symm
        · have := g1 y e2; have := f1 x e; omega
    subst e
    rw [asc_same a b g2 f2 (fun z => ?_)]
    constructor
    · intro hz
      rcases List.mem_cons.1 ((h z).1 (List.mem_cons_of_mem _ hz)) with e | e
      · have := g1 z hz; rw [e] at this; omega
      · exact e
    · intro hz
      rcases List.mem_cons.1 ((h z).2 (List.mem_cons_of_mem _ hz)) with e | e
      · have := f1 z hz; rw [e] at this; omega
      · exact e
/-! Where a place stands -/
theorem bsGo_at {l : List ED} (ha : Asc l) (hr : InR l) (p : Int) (h0 : 0 ≤ p) (h1 : p ≤ 11) : ∀ (k i j : Nat), j ≤ i + k → i ≤ j → j ≤ l.length → (∀ t (ht : t < l.length), t < i → (l[t]).f0 < p) → (∀ t (ht : t < l.length), j ≤ t → p ≤ (l[t]).f0) →
    bsGo l p k i j ≤ l.length ∧ (∀ t (ht : t < l.length), t < bsGo l p k i j → (l[t]).f0 < p) ∧ (∀ t (ht : t < l.length), bsGo l p k i j ≤ t → p ≤ (l[t]).f0)
  | 0, i, j, hk, hij, hj, hA, hB => by
    obtain rfl : i = j := by omega
    exact ⟨hj, hA, hB⟩
  | k + 1, i, j, hk, hij, hj, hA, hB => by
    unfold bsGo
    by_cases c : i < j
    · rw [if_pos c]
      have hm : (i + j) / 2 < l.length := by omega
      have hrd : rd_T52 l (((i + j) / 2 : Nat) : Int) = l[(i + j) / 2] := rd_T52_at l _ hm
      have hin := hr _ (List.getElem_mem hm)
      rw [hrd, w64 (x := (l[(i + j) / 2]).f0 - p) (by omega) (by omega)]
      have hpw := List.pairwise_iff_getElem.1 ha
      by_cases c2 : (l[(i + j) / 2]).f0 - p < 0
      · rw [if_pos c2]
        refine bsGo_at ha hr p h0 h1 k ((i + j) / 2 + 1) j (by omega) (by omega) hj (fun t ht htl => ?_) hB
        rcases Nat.lt_or_ge t ((i + j) / 2) with q | q
        · have := hpw t ((i + j) / 2) ht hm q
          omega
        · obtain rfl : t = (i + j) / 2 := by omega
          omega
      · rw [if_neg c2]
        refine bsGo_at ha hr p h0 h1 k i ((i + j) / 2) (by omega) (by omega) (by omega) hA (fun t ht htl => ?_)
        rcases Nat.lt_or_ge ((i + j) / 2) t with q | q
        · have := hpw ((i + j) / 2) t hm ht q
          omega
        · obtain rfl : t = (i + j) / 2 := by omega
          omega
    · rw [if_neg c]
      obtain rfl : i = j := by omega
      exact ⟨hj, hA, hB⟩
theorem bsI_at {l : List ED} (ha : Asc l) (hr : InR l) (p : Int) (h0 : 0 ≤ p) (h1 : p ≤ 11) : bsI l p ≤ l.length ∧ (∀ t (ht : t < l.length), t < bsI l p → (l[t]).f0 < p) ∧ (∀ t (ht : t < l.length), bsI l p ≤ t → p ≤ (l[t]).f0) :=
  bsGo_at ha hr p h0 h1 l.length 0 l.length (by omega) (by omega) (by omega) (fun t ht h => by omega) (fun t ht h => by omega)
/-- The place is known: its edit stands at the index that the search tells. -/
theorem found_at {l : List ED} (ha : Asc l) (hr : InR l) (x : ED) (h0 : 0 ≤ x.f0) (h1 : x.f0 ≤ 11) (h : fdE l x = true) : ∃ hk : bsI l x.f0 < l.length, (l[bsI l x.f0]).f0 = x.f0 := by
  unfold fdE at h
  obtain ⟨h2, h3⟩ := Bool.and_eq_true_iff.1 h
  have hk := of_decide_eq_true h2
  have h4 := of_decide_eq_true h3
  have hin := hr _ (List.getElem_mem hk)
  rw [rd_T52_at l _ hk, w64 (by omega) (by omega)] at h4
  exact ⟨hk, by omega⟩
theorem missed_at {l : List ED} (ha : Asc l) (hr : InR l) (x : ED) (h0 : 0 ≤ x.f0) (h1 : x.f0 ≤ 11) (h : fdE l x = false) : ∀ y ∈ l, y.f0 ≠ x.f0 := by
  obtain ⟨b1, b2, b3⟩ := bsI_at ha hr x.f0 h0 h1
  intro y hy e
  obtain ⟨t, ht, rfl⟩ := List.getElem_of_mem hy
  have hpw := List.pairwise_iff_getElem.1 ha
  have hge : bsI l x.f0 ≤ t := by
    rcases Nat.lt_or_ge t (bsI l x.f0) with q | q
    · have := b2 t ht q; omega
    · exact q
  have hk : bsI l x.f0 < l.length := by omega
  have h5 := b3 _ hk (Nat.le_refl _)
  have h6 : (l[bsI l x.f0]).f0 = x.f0 := by
    rcases Nat.lt_or_ge (bsI l x.f0) t with q | q
    · have := hpw _ t hk ht q; omega
    · have : bsI l x.f0 = t := by omega
      simp only [this]; exact e
  unfold fdE at h
  rw [rd_T52_at l _ hk, h6, Int.sub_self, decide_eq_true hk] at h
  simp [wrap64] at h
/-- One step of the program's. -/
theorem step_facts {l : List ED} (ha : Asc l) (hr : InR l) (x : ED) (h0 : 0 ≤ x.f0) (h1 : x.f0 ≤ 11) (xs : List ED) :
    (∀ l', shStep l x = some l' → Asc l' ∧ InR l' ∧ ∀ p st, Rel l p st → ∃ st', Rel l' p st' ∧ runP p st (x :: xs) = runP p st' xs) ∧
    (shStep l x = none → ∀ st, Rel l x.f0 st → runP x.f0 st (x :: xs) = none) := by
  cases hf : fdE l x with
  | true =>
    obtain ⟨hk, hke⟩ := found_at ha hr x h0 h1 hf
    have hrd : rd_T52 l (bsI l x.f0 : Int) = l[bsI l x.f0] := rd_T52_at l _ hk
    have hmem := List.getElem_mem hk
    generalize hkk : bsI l x.f0 = k at hk hke hrd hmem
    have hst : shStep l x = if (l[k]).f2.toList = x.f1.toList then some (l.set k ⟨(l[k]).f0, (l[k]).f1, x.f2⟩) else none := by
      unfold shStep
      rw [hf, if_pos rfl, hkk, hrd]
    have only : ∀ st, Rel l x.f0 st → st = some ((l[k]).f1, (l[k]).f2) := by
      intro st hR
      cases st with
      | none => exact absurd hke (hR _ hmem)
      | some q =>
        obtain ⟨o, n⟩ := q
        have := asc_one ha (show (⟨x.f0, o, n⟩ : ED) ∈ l from hR) hmem hke.symm
        rw [← this]
    by_cases c : (l[k]).f2.toList = x.f1.toList
    · rw [if_pos c] at hst
      refine ⟨fun l' hl' => ?_, fun h => by rw [hst] at h; cases h⟩
      rw [hst] at hl'
      obtain rfl := Option.some.inj hl'
      have hpw := List.pairwise_iff_getElem.1 ha
      have gf : ∀ t (ht : t < (l.set k ⟨(l[k]).f0, (l[k]).f1, x.f2⟩).length), ((l.set k ⟨(l[k]).f0, (l[k]).f1, x.f2⟩)[t]).f0 = (l[t]'(by simpa using ht)).f0 := by
        intro t ht
        rw [List.getElem_set]
        split
        · rename_i e; subst e; rfl
        · rfl
      refine ⟨?_, ?_, ?_⟩
      · unfold Asc
        rw [List.pairwise_iff_getElem]
        intro i j hi hj hij
        rw [gf i hi, gf j hj]
        exact hpw i j _ _ hij
      · intro y hy
        obtain ⟨t, ht, rfl⟩ := List.getElem_of_mem hy
        rw [gf t ht]
        exact hr _ (List.getElem_mem _)
      · intro p st hR
        by_cases e : x.f0 = p
        · subst e
          have hs := only st hR
          subst hs
          refine ⟨some ((l[k]).f1, x.f2), ?_, ?_⟩
          · show (⟨x.f0, (l[k]).f1, x.f2⟩ : ED) ∈ l.set k ⟨(l[k]).f0, (l[k]).f1, x.f2⟩
            rw [← hke]
            exact List.mem_set hk _
          · rw [runP_next, if_pos c]
        · refine ⟨st, ?_, runP_ne e⟩
          cases st with
          | none =>
            intro y hy
            obtain ⟨t, ht, rfl⟩ := List.getElem_of_mem hy
            rw [gf t ht]
            exact hR _ (List.getElem_mem _)
          | some q =>
            obtain ⟨o, n⟩ := q
            have hm : (⟨p, o, n⟩ : ED) ∈ l := hR
            obtain ⟨t, ht, he⟩ := List.getElem_of_mem hm
            have htk : k ≠ t := by
              rintro rfl
              rw [he] at hke
              exact e hke.symm
            show (⟨p, o, n⟩ : ED) ∈ l.set k ⟨(l[k]).f0, (l[k]).f1, x.f2⟩
            rw [← he]
            have : (l.set k ⟨(l[k]).f0, (l[k]).f1, x.f2⟩)[t]'(by simpa using ht) = l[t] := List.getElem_set_ne htk _
            rw [← this]
            exact List.getElem_mem _
    · rw [if_neg c] at hst
      refine ⟨fun l' hl' => (by rw [hst] at hl'; cases hl'), fun _ st hR => ?_⟩
      have hs := only st hR
      subst hs
      rw [runP_next, if_neg c]
  | false =>
    have hmiss := missed_at ha hr x h0 h1 hf
    obtain ⟨b1, b2, b3⟩ := bsI_at ha hr x.f0 h0 h1
    have hst : shStep l x = some (l.take (bsI l x.f0) ++ x :: l.drop (bsI l x.f0)) := by
      unfold shStep
      rw [hf]
      rfl
    generalize bsI l x.f0 = k at b1 b2 b3 hst
    refine ⟨fun l' hl' => ?_, fun h => by rw [hst] at h; cases h⟩
    rw [hst] at hl'
    obtain rfl := Option.some.inj hl'
    have hmem : ∀ y, y ∈ l.take k ++ x :: l.drop k ↔ y = x ∨ y ∈ l := by
      intro y
      rw [List.mem_append, List.mem_cons]
      constructor
      · rintro (h | h | h)
        · exact .inr (List.mem_of_mem_take h)
        · exact .inl h
        · exact .inr (List.mem_of_mem_drop h)
      · rintro (h | h)
        · exact .inr (.inl h)
        · rw [← List.take_append_drop k l, List.mem_append] at h
          rcases h with h | h
          · exact .inl h
          · exact .inr (.inr h)
    refine ⟨?_, ?_, ?_⟩
    · unfold Asc
      rw [List.pairwise_append]
      refine ⟨ha.take, List.pairwise_cons.2 ⟨fun y hy => ?_, ha.drop⟩, fun y hy z hz => ?_⟩
      · obtain ⟨t, ht, rfl⟩ := List.getElem_of_mem hy
        rw [List.length_drop] at ht
        rw [List.getElem_drop]
        have h3 := b3 (k + t) (by omega) (by omega)
        have h4 := hmiss _ (List.getElem_mem (show k + t < l.length by omega))
        omega
      · obtain ⟨t, ht, rfl⟩ := List.getElem_of_mem hy
        rw [List.length_take] at ht
        rw [List.getElem_take]
        have h3 := b2 t (by omega) (by omega)
        rcases List.mem_cons.1 hz with rfl | hz
        · exact h3
        · obtain ⟨u, hu, rfl⟩ := List.getElem_of_mem hz
          rw [List.length_drop] at hu
          rw [List.getElem_drop]
          exact List.pairwise_iff_getElem.1 ha t (k + u) (by omega) (by omega) (by omega)
    · intro y hy
      rcases (hmem y).1 hy with rfl | hy
      · exact ⟨h0, h1⟩
      · exact hr y hy
    · intro p st hR
      by_cases e : x.f0 = p
      · subst e
        cases st with
        | none => exact ⟨some (x.f1, x.f2), (hmem _).2 (.inl rfl), runP_first⟩
        | some q =>
          obtain ⟨o, n⟩ := q
          exact absurd rfl (hmiss ⟨x.f0, o, n⟩ hR)
      · refine ⟨st, ?_, runP_ne e⟩
        cases st with
        | none =>
          intro y hy
          rcases (hmem y).1 hy with rfl | hy
          · exact e
          · exact hR y hy
        | some q =>
          obtain ⟨o, n⟩ := q
          exact (hmem _).2 (.inr hR)
/-- The whole run of the program's. -/
theorem all_facts : ∀ (xs l : List ED), Asc l → InR l → InR xs → (∀ l', shAll l xs = some l' → Asc l' ∧ InR l' ∧ ∀ p st, Rel l p st → ∃ st', Rel l' p st' ∧ runP p st xs = some st') ∧ (shAll l xs = none → ∃ x ∈ xs, ∀ st, Rel l x.f0 st → runP x.f0 st xs = none)
  | [], l, ha, hr, _ => ⟨fun l' h => by obtain rfl := Option.some.inj h; exact ⟨ha, hr, fun p st hR => ⟨st, hR, rfl⟩⟩, fun h => by cases h⟩
  | x :: xs, l, ha, hr, hx => by
    obtain ⟨h0, h1⟩ := hx x (by simp)
    obtain ⟨s1, s2⟩ := step_facts ha hr x h0 h1 xs
    have hxs : InR xs := fun y hy => hx y (List.mem_cons_of_mem _ hy)
    unfold shAll
    cases hs : shStep l x with
    | none => exact ⟨fun l' h => (by cases h), fun _ => ⟨x, by simp, fun st hR => s2 hs st hR⟩⟩
    | some l1 =>
      obtain ⟨a1, r1, q1⟩ := s1 l1 hs
      obtain ⟨t1, t2⟩ := all_facts xs l1 a1 r1 hxs
      refine ⟨fun l' h => ?_, fun h => ?_⟩
      · obtain ⟨a2, r2, q2⟩ := t1 l' h
        refine ⟨a2, r2, fun p st hR => ?_⟩
        obtain ⟨st1, hR1, e1⟩ := q1 p st hR
        obtain ⟨st2, hR2, e2⟩ := q2 p st1 hR1
        exact ⟨st2, hR2, e1.trans e2⟩
      · obtain ⟨y, hy, hn⟩ := t2 h
        refine ⟨y, List.mem_cons_of_mem _ hy, fun st hR => ?_⟩
        obtain ⟨st1, hR1, e1⟩ := q1 y.f0 st hR
        rw [e1]
        exact hn st1 hR1
/-! The reference's list -/
def itemP (p : Int) : St → List ED
  | none => []
  | some (o, n) => if o.toList = n.toList then [] else [⟨p, o, n⟩]
def spL (l : List ED) : Nat → Int → List ED → Option (List ED)
  | 0, _, out => some out
  | d + 1, p, out => match runP p none l with
    | none => none
    | some st => spL l d (p + 1) (out ++ itemP p st)
def resL : Option (List ED) → List ED × Int
  | none => ([], 9)
  | some o => (o, 0)
def stB (h : Bool) (o n : ByteArray) : St := if h = true then some (o, n) else none
theorem itemP_some (p : Int) (o n : ByteArray) : itemP p (some (o, n)) = if o.toList = n.toList then [] else [⟨p, o, n⟩] := rfl
theorem itemP_none (p : Int) : itemP p none = [] := rfl
theorem itemP_length (p : Int) (st : St) : (itemP p st).length ≤ 1 := by
  cases st with
  | none => simp [itemP]
  | some q =>
    obtain ⟨o, n⟩ := q
    rw [itemP_some]
    by_cases c : o.toList = n.toList
    · rw [if_pos c]; simp
    · rw [if_neg c]; simp
theorem sp_ev (l : List ED) (hl : l.length ≤ 1048576) (d : Nat) : ∀ (p : Int) (out : List ED), 0 ≤ p → p + d = 12 → out.length ≤ p.toNat → Ev (fun k => spec_ShortEdits.l0 k l out p) (resL (spL l d p out)) := by
  induction d with
  | zero =>
    intro p out h0 h1 h2
    apply ev_succ
    simp only [spec_ShortEdits.l0, if_neg (show ¬ p < 12 by omega)]
    exact ev_const rfl
  | succ d ih =>
    intro p out h0 h1 h2
    have inner : ∀ (e i : Nat) (h : Bool) (o n : ByteArray), (h = false → o = n) → i ≤ l.length → l.length - i = e → Ev (fun k => spec_ShortEdits.l1 k l out p h i p o n) (resL (match runP p (stB h o n) (l.drop i) with | none => none | some st => spL l d (p + 1) (out ++ itemP p st))) := by
      intro e
      induction e with
      | zero =>
        intro i h o n hz hi he
        rw [List.drop_eq_nil_of_le (by omega)]
        apply ev_succ
        simp only [spec_ShortEdits.l1, if_neg (show ¬ (i : Int) < (l.length : Int) by omega), w64 (x := p + 1) (by omega) (by omega), if_pos (show out.length < 3518437208883 by omega)]
        have hi1 := itemP_length p (stB h o n)
        show Ev _ (resL (spL l d (p + 1) (out ++ itemP p (stB h o n))))
        have hih := ih (p + 1) (out ++ itemP p (stB h o n)) (by omega) (by omega) (by rw [List.length_append]; omega)
        cases h with
        | false =>
          have e9 := hz rfl
          subst e9
          rw [show stB false o o = none from rfl, itemP_none, List.append_nil] at hih ⊢
          simp only [if_true]
          exact hih
        | true =>
          rw [show stB true o n = some (o, n) from rfl, itemP_some] at hih ⊢
          by_cases c : o.toList = n.toList
          · rw [if_pos c, List.append_nil] at hih ⊢
            simp only [if_pos c]
            exact hih
          · rw [if_neg c] at hih ⊢
            simp only [if_neg c]
            exact hih
      | succ e ihe =>
        intro i h o n hz hi he
        have hlt : i < l.length := by omega
        have hih := fun h o n hz => ihe (i + 1) h o n hz (by omega) (by omega)
        rw [List.drop_eq_getElem_cons hlt]
        apply ev_succ
        simp only [spec_ShortEdits.l1, if_pos (show (i : Int) < (l.length : Int) by omega), if_pos (show (0 : Int) ≤ (i : Int) by omega), rd_T52_at l _ hlt, w64 (x := (i : Int) + 1) (by omega) (by omega)]
        by_cases c : (l[i]).f0 = p
        · simp only [if_pos c]
          subst c
          cases h with
          | false =>
            simp only [Bool.false_eq_true, if_false]
            rw [show stB false o n = none from rfl, runP_first]
            exact hih true (l[i]).f1 (l[i]).f2 (fun h => by cases h)
          | true =>
            simp only [if_true]
            rw [show stB true o n = some (o, n) from rfl, runP_next]
            by_cases c2 : n.toList = (l[i]).f1.toList
            · rw [if_pos c2]
              simp only [if_pos c2]
              exact hih true o (l[i]).f2 (fun h => by cases h)
            · rw [if_neg c2]
              simp only [if_neg c2]
              exact ev_const rfl
        · simp only [if_neg c]
          rw [runP_ne c]
          exact hih h o n hz
    apply ev_succ
    simp only [spec_ShortEdits.l0, if_pos (show p < 12 by omega)]
    unfold spL
    have := inner l.length 0 false (⟨#[]⟩ : ByteArray) (⟨#[]⟩ : ByteArray) (fun _ => rfl) (by omega) (by omega)
    rw [List.drop_zero] at this
    exact this
/-- Where all places go through, the list is made of their items; where one clashes, there is none. -/
theorem spL_none (l : List ED) : ∀ (d : Nat) (p : Int) (out : List ED) (q : Int), p ≤ q → q < p + d → runP q none l = none → spL l d p out = none
  | 0, p, out, q, h0, h1, _ => by omega
  | d + 1, p, out, q, h0, h1, hq => by
    unfold spL
    by_cases e : q = p
    · subst e
      rw [hq]
    · cases runP p none l with
      | none => rfl
      | some st => exact spL_none l d (p + 1) _ q (by omega) (by omega) hq
theorem spL_some (l : List ED) (f : Int → St) : ∀ (d : Nat) (p : Int) (out : List ED), (∀ q, p ≤ q → q < p + d → runP q none l = some (f q)) → Asc out → (∀ x ∈ out, x.f0 < p) →
    ∃ r, spL l d p out = some r ∧ Asc r ∧ ∀ x, x ∈ r ↔ x ∈ out ∨ (p ≤ x.f0 ∧ x.f0 < p + d ∧ x ∈ itemP x.f0 (f x.f0))
  | 0, p, out, _, ha, _ => ⟨out, rfl, ha, fun x => ⟨fun h => .inl h, fun h => h.elim id (fun h => by omega)⟩⟩
  | d + 1, p, out, hf, ha, hlt => by
    unfold spL
    rw [hf p (by omega) (by omega)]
    have hit : ∀ y ∈ itemP p (f p), y.f0 = p := by
      intro y hy
      cases hs : f p with
      | none => rw [hs] at hy; cases hy
      | some q =>
        obtain ⟨o, n⟩ := q
        rw [hs, itemP_some] at hy
        split at hy
        · cases hy
        · rw [List.mem_singleton.1 hy]
    have ha2 : Asc (out ++ itemP p (f p)) := by
      unfold Asc
      rw [List.pairwise_append]
      refine ⟨ha, ?_, fun x hx y hy => ?_⟩
      · have := itemP_length p (f p)
        cases hi : itemP p (f p) with
        | nil => exact List.Pairwise.nil
        | cons a b =>
          rw [hi, List.length_cons] at this
          have hb : b = [] := List.length_eq_zero_iff.1 (by omega)
          rw [hb]
          exact List.pairwise_singleton _ _
      · rw [hit y hy]
        exact hlt x hx
    obtain ⟨r, h1, h2, h3⟩ := spL_some l f d (p + 1) (out ++ itemP p (f p)) (fun q h0 h1 => hf q (by omega) (by omega)) ha2 (fun x hx => by
      rcases List.mem_append.1 hx with h | h
      · have := hlt x h; omega
      · have := hit x h; omega)
    refine ⟨r, h1, h2, fun x => ?_⟩
    rw [h3, List.mem_append]
    constructor
    · rintro ((h | h) | ⟨h4, h5, h6⟩)
      · exact .inl h
      · have e := hit x h
        refine .inr ⟨by omega, by omega, ?_⟩
        rw [e]
        exact h
      · exact .inr ⟨by omega, by omega, h6⟩
    · rintro (h | ⟨h4, h5, h6⟩)
      · exact .inl (.inl h)
      · by_cases e : x.f0 = p
        · rw [e] at h6
          exact .inl (.inr h6)
        · exact .inr ⟨by omega, by omega, h6⟩
theorem filter_len (l : List ED) (h : Asc l) (hr : InR l) : l.length ≤ 12 := by
  have key : ∀ (l : List ED) (a : Int), Asc l → (∀ x ∈ l, a ≤ x.f0 ∧ x.f0 ≤ 11) → (l.length : Int) ≤ 12 - a ∨ l = [] := by
    intro l
    induction l with
    | nil => intro a _ _; exact .inr rfl
    | cons x l ih =>
      intro a hA hR
      obtain ⟨h1, h2⟩ := List.pairwise_cons.1 hA
      have hx := hR x (by simp)
      left
      rcases ih (x.f0 + 1) h2 (fun y hy => ⟨by have := h1 y hy; omega, (hR y (List.mem_cons_of_mem _ hy)).2⟩) with h3 | h3
      · rw [List.length_cons]; omega
      · rw [h3]; simp; omega
  rcases key l 0 h (fun x hx => hr x hx) with h3 | h3
  · omega
  · rw [h3]; simp
/-- Both lists are one. -/
theorem short_same (l : List ED) (hl : InR l) : ∃ r : List ED × Int, resL (spL l 12 0 []) = r ∧ (match shAll [] l with | some o => (o.filter (fun x => !sameE x), (0 : Int)) | none => (([] : List ED), (9 : Int))) = r ∧ r.1.length ≤ 12 := by
  obtain ⟨h1, h2⟩ := all_facts l [] List.Pairwise.nil (fun x hx => by cases hx) hl
  have hnil : ∀ p, Rel [] p none := fun p y hy => by cases hy
  cases hs : shAll [] l with
  | none =>
    obtain ⟨x, hx, hn⟩ := h2 hs
    have hxr := hl x hx
    refine ⟨([], 9), ?_, rfl, by simp⟩
    rw [spL_none l 12 0 [] x.f0 hxr.1 (by omega) (hn none (hnil _))]
    rfl
  | some o =>
    obtain ⟨ha, hor, hq⟩ := h1 o hs
    let f : Int → St := fun p => (runP p none l).getD none
    have hf : ∀ p, runP p none l = some (f p) ∧ Rel o p (f p) := by
      intro p
      obtain ⟨st, hR, e⟩ := hq p none (hnil p)
      have e2 : f p = st := by show (runP p none l).getD none = st; rw [e]; rfl
      rw [e2]
      exact ⟨e, hR⟩
    obtain ⟨r, e1, e2, e3⟩ := spL_some l f 12 0 [] (fun q _ _ => (hf q).1) List.Pairwise.nil (fun x hx => by cases hx)
    have hfa : Asc (o.filter (fun x => !sameE x)) := ha.filter _
    have hsame : r = o.filter (fun x => !sameE x) := by
      refine asc_same _ _ e2 hfa (fun x => ?_)
      rw [e3, List.mem_filter]
      have hrel := (hf x.f0).2
      constructor
      · rintro (h | ⟨h4, h5, h6⟩)
        · cases h
        · cases hst : f x.f0 with
          | none => rw [hst] at h6; cases h6
          | some q =>
            obtain ⟨a, n⟩ := q
            rw [hst] at h6 hrel
            rw [itemP_some] at h6
            split at h6
            · cases h6
            · rename_i hne
              have ex := List.mem_singleton.1 h6
              have hm : (⟨x.f0, a, n⟩ : ED) ∈ o := hrel
              rw [← ex] at hm
              refine ⟨hm, ?_⟩
              rw [ex]
              unfold sameE
              simpa using hne
      · rintro ⟨hm, hns⟩
        refine .inr ⟨(hor x hm).1, by have := (hor x hm).2; omega, ?_⟩
        cases hst : f x.f0 with
        | none =>
          rw [hst] at hrel
          exact absurd rfl (hrel x hm)
        | some q =>
          obtain ⟨a, n⟩ := q
          rw [hst] at hrel
          have ex := asc_one ha (show (⟨x.f0, a, n⟩ : ED) ∈ o from hrel) hm rfl
          have e4 : a = x.f1 := by rw [← ex]
          have e5 : n = x.f2 := by rw [← ex]
          subst e4 e5
          unfold sameE at hns
          rw [itemP_some, if_neg (by simpa using hns)]
          exact List.mem_singleton.2 rfl
    refine ⟨(r, 0), by rw [e1]; rfl, by rw [hsame], ?_⟩
    show r.length ≤ 12
    rw [hsame]
    exact Nat.le_trans (List.length_filter_le _ _) (filter_len o ha hor)
theorem spec_short (l : List ED) (hl : l.length ≤ 1048576) (r : List ED × Int) (h : EditsOk l → resL (spL l 12 0 []) = r) (h2 : ¬ EditsOk l → r = ([], 1)) : Ev (fun k => spec_ShortEdits.f k l) r := by
  unfold spec_ShortEdits.f
  refine Ev.bind (sedits_ev l hl) ?_
  by_cases c : EditsOk l
  · simp only [decide_eq_true c, if_true]
    have := sp_ev l hl 12 0 [] (by omega) (by omega) (by simp)
    rw [h c] at this
    exact this
  · simp only [decide_eq_false c, Bool.false_eq_true, if_false]
    rw [h2 c]
    exact ev_const rfl
theorem impl_short (l : List ED) (r : List ED × Int) (h : EditsOk l → (match shAll [] l with | some o => (o.filter (fun x => !sameE x), (0 : Int)) | none => (([] : List ED), (9 : Int))) = r) (h2 : ¬ EditsOk l → r = ([], 1)) : impl_ShortEdits.f l = some r := by
  unfold impl_ShortEdits.f
  rw [iedits_val, Option.bind_some]
  by_cases c : EditsOk l
  · rw [decide_eq_true c, if_pos rfl, ← h c]
    cases shAll [] l <;> rfl
  · rw [decide_eq_false c, if_neg (by decide), h2 c]
theorem short_both (l : List ED) (hl : l.length ≤ 1048576) : ∃ r : List ED × Int, Ev (fun k => spec_ShortEdits.f k l) r ∧ impl_ShortEdits.f l = some r ∧ r.1.length ≤ 12 := by
  by_cases c : EditsOk l
  · obtain ⟨r, h1, h2, h3⟩ := short_same l (fun x hx => (c.1 x hx).1)
    exact ⟨r, spec_short l hl r (fun _ => h1) (fun h => absurd c h), impl_short l r (fun _ => h2) (fun h => absurd c h), h3⟩
  · exact ⟨([], 1), spec_short l hl _ (fun h => absurd h c) (fun _ => rfl), impl_short l _ (fun h => absurd h c) (fun _ => rfl), by simp⟩
theorem FnExactShortEdits : laws_FnExactShortEdits.Pure := by
  intro l hl hw
  apply Ev.rounds
  unfold laws_FnExactShortEdits.f
  rcases szEdit_ev l hl (fun y hy => (hw y hy).2) (a := 1048576) (by omega) (by omega) with e2 | ⟨c, e2, c0, c1⟩
  · refine Ev.bind e2 ?_
    simp only [if_pos (show (-1 : Int) < 0 by omega)]
    exact ev_const rfl
  · refine Ev.bind e2 ?_
    simp only [if_neg (show ¬ c < 0 by omega)]
    have t1 := toEdit_ev l (by omega)
    have hml : (l.map cvEdit).length ≤ 1048576 := by rw [List.length_map]; omega
    obtain ⟨res, s1, s2, s3⟩ := short_both (l.map cvEdit) hml
    obtain ⟨res, cd⟩ := res
    have s4 : res.length ≤ 12 := s3
    have q := eqEdit_ev res (by omega)
    obtain ⟨p1, y1, m1, n1⟩ := markI_ev (l.map cvEdit) hml (a := 1) (by omega) (by omega)
    obtain ⟨p3, y3, m3, m4, n5, n6⟩ := markE_ev res (by omega) (a := 1) (by omega) (by omega)
    refine Ev.bind t1 (Ev.bind s1 (Ev.bind t1 ?_))
    simp only [s2, Option.bind_some]
    refine Ev.bind q ?_
    simp only [if_true, bne_self_eq_false]
    refine ev_succ ?_
    simp only [laws_FnExactShortEdits.j0, Bool.false_eq_true, if_false]
    refine Ev.bind t1 (Ev.bind (eqEdit_ev _ hml) ?_)
    simp only [if_true]
    refine Ev.bind m1 ?_
    simp only [if_neg (show ¬ p1 < 0 by omega)]
    refine Ev.bind q ?_
    simp only [if_true, bne_self_eq_false]
    refine ev_succ ?_
    simp only [laws_FnExactShortEdits.j1, Bool.false_eq_true, if_false]
    refine Ev.bind m3 (Ev.bind m4 ?_)
    simp only [if_neg (show ¬ p3 < 0 by omega), if_true]
    refine Ev.bind t1 ?_
    simp only [s2, Option.bind_some]
    refine Ev.bind q ?_
    simp only [if_true, bne_self_eq_false]
    refine ev_succ ?_
    simp only [laws_FnExactShortEdits.j2, Bool.false_eq_true, if_false]
    refine Ev.bind m4 ?_
    simp only [if_neg (show ¬ p3 < 0 by omega), if_true]
    exact ev_const rfl

end Go.Proofs.YtdodbfialiggjaaDoor.Pure
