/- FnExactEditText: the program's EditText and the reference's come to the same text, for all edits. -/
import Derived.Test.YtombhkdipldkiaaDoorStatFnExactEditText
namespace Go.Proofs.YtombhkdipldkiaaDoor.Pure
open Go.RowKit Go.Proofs.YtombhkdipldkiaaDoor.PFnExactEditText Go.Proofs.YtombhkdipldkiaaDoorW.PrintWords Go.Proofs.YtombhkdipldkiaaDoorW.PrintLast Go.Proofs.YtombhkdipldkiaaDoorW.PrintMore
set_option linter.unusedVariables false
set_option linter.unusedSimpArgs false
theorem wfb {a : Int} (h : (Lit.int .i64 a).wf = true) : -9223372036854775808 ≤ a ∧ a ≤ 9223372036854775807 := by
  simpa [Lit.wf, IntKind.min, IntKind.max, IntKind.signed, IntKind.bits] using h
theorem w64 {x : Int} (h : -9223372036854775808 ≤ x) (h2 : x ≤ 9223372036854775807) : wrap64 x = x := by unfold wrap64; omega
theorem tdiv_nn {a b : Int} (h : 0 ≤ a) : Int.tdiv a b = a / b := Int.tdiv_eq_ediv_of_nonneg h
theorem tmod_nn {a b : Int} (h : 0 ≤ a) : Int.tmod a b = a % b := Int.tmod_eq_emod_of_nonneg h
theorem floor_val (a b : Int) (hb : 0 < b) : (if Int.tmod a b < 0 then Int.tdiv a b - 1 else Int.tdiv a b) = a / b := by
  have h1 := Int.mul_tdiv_add_tmod a b
  have hlt : Int.tmod a b < b := Int.tmod_lt_of_pos a hb
  have hgt : -b < Int.tmod a b := by
    have h2 := Int.tmod_lt_of_pos (-a) hb
    rw [Int.neg_tmod] at h2
    omega
  symm
  split
  · rename_i hneg
    refine ((Int.ediv_emod_unique hb (r := Int.tmod a b + b)).2 ⟨?_, by omega, by omega⟩).1
    rw [Int.mul_sub, Int.mul_one]
    omega
  · rename_i hneg
    exact ((Int.ediv_emod_unique hb (r := Int.tmod a b)).2 ⟨by omega, by omega, by omega⟩).1
theorem ediv_bd {a b : Int} (hb : 0 < b) (B : Int) (h0 : -B ≤ a) (h1 : a ≤ B) (hB : 0 ≤ B) : -B ≤ a / b ∧ a / b ≤ B := by
  constructor
  · rw [Int.le_ediv_iff_mul_le hb]
    have : B * 1 ≤ B * b := Int.mul_le_mul_of_nonneg_left (by omega) hB
    rw [Int.neg_mul]; omega
  · have h2 : a / b ≤ B / b := Int.ediv_le_ediv hb h1
    have h3 : B / b ≤ B := Int.ediv_le_self b hB
    omega
theorem ceil_alt (a b : Int) (hb : 0 < b) : (a + b - 1) / b = -((-a) / b) := by
  have h1 := Int.mul_ediv_add_emod (-a) b
  have h2 := Int.emod_nonneg (-a) (b := b) (by omega)
  have h3 := Int.emod_lt_of_pos (-a) hb
  refine ((Int.ediv_emod_unique hb (r := b - 1 - (-a) % b)).2 ⟨?_, by omega, by omega⟩).1
  rw [Int.mul_neg]
  omega

theorem ev_succ {α : Type} {g : Nat → Option α} {r : α} (h : Ev (fun k => g (k + 1)) r) : Ev g r := Ev.step (fun _ => rfl) h
theorem ev_const {α : Type} {g : Option α} {r : α} (h : g = some r) : Ev (fun _ => g) r := ⟨0, fun _ _ => h⟩
theorem ev_uniq {α : Type} {g : Nat → Option α} {a b : α} (h : Ev g a) (h' : Ev g b) : a = b := by
  obtain ⟨K, h⟩ := h
  obtain ⟨K', h'⟩ := h'
  have h1 := h (K + K') (by omega)
  rw [h' (K + K') (by omega)] at h1
  exact (Option.some.inj h1).symm

theorem toList_inj {a b : ByteArray} : a.toList = b.toList ↔ a = b := by
  constructor
  · intro h
    rw [ByteArray.toList_eq, ByteArray.toList_eq] at h
    obtain ⟨⟨x⟩⟩ := a
    obtain ⟨⟨y⟩⟩ := b
    simp at h
    rw [h]
  · intro h; rw [h]
def sizes (l : List ByteArray) : Int := (l.map (fun s => (s.size : Int))).sum
theorem sizes_cons (s : ByteArray) (l : List ByteArray) : sizes (s :: l) = s.size + sizes l := by simp [sizes]
theorem sizes_nn (l : List ByteArray) : 0 ≤ sizes l := by
  induction l with
  | nil => simp [sizes]
  | cons s l ih => rw [sizes_cons]; omega
theorem sizes_drop (l : List ByteArray) (i : Nat) (h : i < l.length) : sizes (l.drop i) = (l[i]).size + sizes (l.drop (i + 1)) := by
  rw [List.drop_eq_getElem_cons h, sizes_cons]
theorem rdOf_at (d : ByteArray) (l : List ByteArray) (i : Nat) (h : i < l.length) : rdOf d l (i : Int) = l[i] := by
  unfold rdOf
  rw [Int.toNat_natCast, List.getD_eq_getElem?_getD, List.getElem?_eq_getElem h]
  rfl

/-- A byte that a name may have. -/
def nameC (c : Int) : Prop := ((97 : Int) ≤ c ∧ c ≤ 122) ∨ ((48 : Int) ≤ c ∧ c ≤ 57) ∨ c = 45
instance instNameC (c : Int) : Decidable (nameC c) := by unfold nameC; infer_instance
/-- A name. -/
def IsNm (s : ByteArray) : Prop := 1 ≤ s.size ∧ s.size ≤ 12 ∧ ((97 : Int) ≤ bt s 0 ∧ bt s 0 ≤ 122) ∧ ∀ i, i < s.size → nameC (bt s (i : Int))
instance instIsNm (s : ByteArray) : Decidable (IsNm s) := by unfold IsNm; infer_instance
theorem toList_nil (s : ByteArray) : s.toList = ([] : List UInt8) ↔ s.size = 0 := by
  rw [ByteArray.toList_eq]
  obtain ⟨⟨x⟩⟩ := s
  show x = [] ↔ x.length = 0
  rw [List.length_eq_zero_iff]
theorem bt_at (s : ByteArray) (i : Nat) (h : i < s.size) : bt s (i : Int) = ((s.data.toList[i]'(by simpa using h)).toNat : Int) := by
  unfold bt
  rw [dif_pos (by simpa using h)]
  rfl
open Classical in
theorem snm_l (s : ByteArray) (hs : s.size ≤ 12) (d : Nat) : ∀ (i : Nat), i ≤ s.size → s.size - i = d → Ev (fun k => spec_IsName.l0 k s i) (decide (∀ j, i ≤ j → j < s.size → nameC (bt s (j : Int)))) := by
  induction d with
  | zero =>
    intro i hi hd
    apply ev_succ
    simp only [spec_IsName.l0, if_neg (show ¬ (i : Int) < (s.size : Int) by omega)]
    refine ev_const ?_
    congr 1
    symm
    rw [decide_eq_true_iff]
    intro j h1 h2; omega
  | succ d ih =>
    intro i hi hd
    have hlt : i < s.size := by omega
    have hih := ih (i + 1) (by omega) (by omega)
    have step : nameC (bt s (i : Int)) → (decide (∀ j, i ≤ j → j < s.size → nameC (bt s (j : Int)))) = decide (∀ j, i + 1 ≤ j → j < s.size → nameC (bt s (j : Int))) := by
      intro hc
      rw [decide_eq_decide]
      constructor
      · intro h j h1 h2; exact h j (by omega) h2
      · intro h j h1 h2
        by_cases e : j = i
        · subst e; exact hc
        · exact h j (by omega) h2
    apply ev_succ
    simp only [spec_IsName.l0, spec_l01Small.f, spec_l01Digit.f, if_pos (show (i : Int) < (s.size : Int) by omega), if_pos (show (0 : Int) ≤ (i : Int) by omega), w64 (x := (i : Int) + 1) (by omega) (by omega)]
    by_cases h1 : 97 ≤ bt s (i : Int) ∧ bt s (i : Int) ≤ 122
    · simp only [ge_iff_le, if_pos h1.1, Option.bind_some, decide_eq_true h1.2, if_true]
      rw [step (.inl h1)]
      exact hih
    · have e1 : (if bt s (i : Int) ≥ 97 then some (decide (bt s (i : Int) ≤ 122)) else some false) = some false := by
        by_cases h : bt s (i : Int) ≥ 97
        · rw [if_pos h, decide_eq_false (fun h2 => h1 ⟨h, h2⟩)]
        · rw [if_neg h]
      simp only [e1, Option.bind_some, Bool.false_eq_true, if_false]
      by_cases h2 : 48 ≤ bt s (i : Int) ∧ bt s (i : Int) ≤ 57
      · simp only [ge_iff_le, if_pos h2.1, Option.bind_some, decide_eq_true h2.2, if_true]
        rw [step (.inr (.inl h2))]
        exact hih
      · have e2 : (if bt s (i : Int) ≥ 48 then some (decide (bt s (i : Int) ≤ 57)) else some false) = some false := by
          by_cases h : bt s (i : Int) ≥ 48
          · rw [if_pos h, decide_eq_false (fun h3 => h2 ⟨h, h3⟩)]
          · rw [if_neg h]
        simp only [e2, Option.bind_some, Bool.false_eq_true, if_false]
        by_cases h3 : bt s (i : Int) = 45
        · simp only [if_pos h3]
          rw [step (.inr (.inr h3))]
          exact hih
        · simp only [if_neg h3]
          refine ev_const ?_
          congr 1
          symm
          rw [decide_eq_false_iff_not]
          intro h
          rcases h i (by omega) hlt with h | h | h
          · exact h1 h
          · exact h2 h
          · exact h3 h
theorem spec_name (s : ByteArray) : Ev (fun k => spec_IsName.f k s) (decide (IsNm s)) := by
  classical
  have no : ¬ IsNm s → Ev (fun k => spec_IsName.j0 k s true) (decide (IsNm s)) := fun h => by
    refine ev_succ ?_
    simp only [spec_IsName.j0, if_true]
    exact ev_const (by rw [decide_eq_false h])
  unfold spec_IsName.f
  by_cases h0 : s.size = 0
  · simp only [if_pos ((toList_nil s).2 h0)]
    exact no (fun h => by have := h.1; omega)
  · simp only [if_neg (fun h => h0 ((toList_nil s).1 h))]
    by_cases h1 : (s.size : Int) > 12
    · simp only [if_pos h1]
      exact no (fun h => by have := h.2.1; omega)
    · simp only [if_neg h1, if_pos (show (0 : Int) < (s.size : Int) by omega), spec_l01Small.f]
      by_cases h2 : 97 ≤ bt s 0 ∧ bt s 0 ≤ 122
      · simp only [ge_iff_le, if_pos h2.1, Option.bind_some, decide_eq_true h2.2, Bool.not_true]
        refine ev_succ ?_
        simp only [spec_IsName.j0, Bool.false_eq_true, if_false]
        have := snm_l s (by omega) s.size 0 (by omega) (by omega)
        have e : (decide (IsNm s)) = decide (∀ j, 0 ≤ j → j < s.size → nameC (bt s (j : Int))) := by
          rw [decide_eq_decide]
          exact ⟨fun h j _ hj => h.2.2.2 j hj, fun h => ⟨by omega, by omega, h2, fun j hj => h j (by omega) hj⟩⟩
        rw [e]
        exact this
      · have e1 : (if bt s 0 ≥ 97 then some (decide (bt s 0 ≤ 122)) else some false) = some false := by
          by_cases h : bt s 0 ≥ 97
          · rw [if_pos h, decide_eq_false (fun h3 => h2 ⟨h, h3⟩)]
          · rw [if_neg h]
        simp only [e1, Option.bind_some, Bool.not_false]
        exact no (fun h => h2 h.2.2.1)

theorem dw_nil (p : UInt8 → Bool) (l : List UInt8) : l.dropWhile p = [] ↔ ∀ b ∈ l, p b = true := by
  induction l with
  | nil => simp
  | cons a l ih =>
    by_cases h : p a = true
    · simp [List.dropWhile, h, ih]
    · simp [List.dropWhile, h]
theorem dw_head (p : UInt8 → Bool) (l : List UInt8) (x : UInt8) (xs : List UInt8) (h : l.dropWhile p = x :: xs) : p x = false := by
  induction l with
  | nil => simp at h
  | cons a l ih =>
    by_cases h2 : p a = true
    · simp only [List.dropWhile, h2] at h
      exact ih h
    · have h3 : p a = false := by simpa using h2
      simp only [List.dropWhile, h3, List.cons.injEq] at h
      rw [← h.1]; exact h3
theorem trimS_nil (l cs : List UInt8) : Go.Lib.trimS l cs = [] ↔ ∀ b ∈ l, cs.contains b = true := by
  unfold Go.Lib.trimS Go.Lib.trimLeftS Go.Lib.trimRightS
  rw [dw_nil]
  constructor
  · intro h b hb
    cases e : l.reverse.dropWhile (cs.contains ·) with
    | nil =>
      rw [dw_nil] at e
      exact e b (by simpa using hb)
    | cons x xs =>
      exfalso
      have h1 := dw_head _ _ _ _ e
      have h2 := h x (by rw [e]; simp)
      rw [h2] at h1
      cases h1
  · intro h b hb
    exact h b (by simpa using (List.dropWhile_sublist _).subset (List.mem_reverse.1 hb))
theorem name_cut (b : UInt8) : ([97, 98, 99, 100, 101, 102, 103, 104, 105, 106, 107, 108, 109, 110, 111, 112, 113, 114, 115, 116, 117, 118, 119, 120, 121, 122, 48, 49, 50, 51, 52, 53, 54, 55, 56, 57, 45] : List UInt8).contains b = decide (nameC (b.toNat : Int)) := by
  have key : ((List.range 256).all fun n => (([97, 98, 99, 100, 101, 102, 103, 104, 105, 106, 107, 108, 109, 110, 111, 112, 113, 114, 115, 116, 117, 118, 119, 120, 121, 122, 48, 49, 50, 51, 52, 53, 54, 55, 56, 57, 45] : List UInt8).contains (UInt8.ofNat n) == decide (((97 : Int) ≤ (n : Int) ∧ (n : Int) ≤ 122) ∨ ((48 : Int) ≤ (n : Int) ∧ (n : Int) ≤ 57) ∨ (n : Int) = 45))) = true := by decide +kernel
  have h := List.all_eq_true.1 key b.toNat (List.mem_range.2 b.toNat_lt)
  rw [UInt8.ofNat_toNat] at h
  rw [beq_iff_eq] at h
  rw [h]
  rfl
theorem impl_name (s : ByteArray) : impl_IsName.f s = some (decide (IsNm s)) := by
  unfold impl_IsName.f
  by_cases h0 : (s.size : Int) < 1
  · rw [if_pos h0, decide_eq_false (fun h => by have := h.1; omega)]
  · rw [if_neg h0]
    by_cases h1 : (s.size : Int) > 12
    · rw [if_pos h1, decide_eq_false (fun h => by have := h.2.1; omega)]
    · rw [if_neg h1, if_pos (by omega)]
      by_cases h2 : bt s 0 < 97
      · rw [if_pos h2, decide_eq_false (fun h => by have := h.2.2.1.1; omega)]
      · rw [if_neg h2]
        by_cases h3 : bt s 0 > 122
        · rw [if_pos h3, decide_eq_false (fun h => by have := h.2.2.1.2; omega)]
        · rw [if_neg h3]
          unfold strings_Trim.f
          rw [if_pos ⟨by omega, by decide, by decide +kernel⟩]
          simp only [Option.bind_some]
          congr 1
          have e : (decide (IsNm s)) = decide (∀ b ∈ s.data.toList, nameC (b.toNat : Int)) := by
            rw [decide_eq_decide]
            constructor
            · intro h b hb
              obtain ⟨j, hj, rfl⟩ := List.getElem_of_mem hb
              have := h.2.2.2 j (by simpa using hj)
              rw [bt_at s j (by simpa using hj)] at this
              exact this
            · intro h
              refine ⟨by omega, by omega, ⟨by omega, by omega⟩, fun j hj => ?_⟩
              rw [bt_at s j hj]
              exact h _ (List.getElem_mem _)
          rw [e]
          have e2 : ∀ t : List UInt8, (({ data := t.toArray } : ByteArray).toList == ([] : List UInt8)) = decide (t = []) := by
            intro t
            rw [ByteArray.toList_eq]
            cases t <;> simp
          rw [e2, decide_eq_decide, trimS_nil]
          constructor
          · intro h b hb
            have := h b hb
            rw [name_cut] at this
            exact of_decide_eq_true this
          · intro h b hb
            rw [name_cut]
            exact decide_eq_true (h b hb)

theorem in_val (a b c : Int) : spec_l00In.f a b c = some (decide (b ≤ a ∧ a ≤ c)) := by
  unfold spec_l00In.f
  by_cases h : a ≥ b <;> by_cases h2 : a ≤ c <;> simp [h, h2] <;> omega
theorem within_val (a b c : Int) : impl_within.f a b c = some (decide (b ≤ a ∧ a ≤ c)) := in_val a b c

/-- A name or none. -/
def Engr (s : ByteArray) : Prop := s.size = 0 ∨ IsNm s
instance instEngr (s : ByteArray) : Decidable (Engr s) := by unfold Engr; infer_instance
theorem spec_engr (s : ByteArray) : Ev (fun k => spec_l13Name.f k s) (decide (Engr s)) := by
  unfold spec_l13Name.f
  by_cases h : s.size = 0
  · simp only [if_pos ((toList_nil s).2 h)]
    exact ev_const (by rw [decide_eq_true (show Engr s from .inl h)])
  · simp only [if_neg (fun e => h ((toList_nil s).1 e))]
    have e : decide (Engr s) = decide (IsNm s) := by
      rw [decide_eq_decide]
      exact ⟨fun x => x.resolve_left h, .inr⟩
    rw [e]
    exact Ev.bind (spec_name s) (ev_const rfl)
theorem impl_engr (s : ByteArray) : impl_isEngraved.f s = some (decide (Engr s)) := by
  unfold impl_isEngraved.f
  by_cases h : s.size = 0
  · rw [if_pos ((toList_nil s).2 h), decide_eq_true (show Engr s from .inl h)]
  · rw [if_neg (fun e => h ((toList_nil s).1 e)), impl_name]
    have e : decide (Engr s) = decide (IsNm s) := by
      rw [decide_eq_decide]
      exact ⟨fun x => x.resolve_left h, .inr⟩
    rw [e]
    rfl

/-- What an edit must hold. -/
def EditOk (x : S82) : Prop := ((0 : Int) ≤ x.f0 ∧ x.f0 ≤ 11) ∧ Engr x.f1 ∧ Engr x.f2 ∧ x.f1 ≠ x.f2
instance instEditOk (x : S82) : Decidable (EditOk x) := by
  unfold EditOk
  exact @instDecidableAnd _ _ inferInstance (@instDecidableAnd _ _ inferInstance (@instDecidableAnd _ _ inferInstance (decidable_of_iff (¬ x.f1.toList = x.f2.toList) (by rw [toList_inj]))))
theorem spec_edit (x : S82) : Ev (fun k => spec_l13One.f k x.f0 x.f1 x.f2) (decide (EditOk x)) := by
  unfold spec_l13One.f
  simp only [in_val, Option.bind_some]
  by_cases h1 : 0 ≤ x.f0 ∧ x.f0 ≤ 11
  · simp only [decide_eq_true h1, if_true]
    refine Ev.bind (spec_engr x.f1) ?_
    by_cases h2 : Engr x.f1
    · simp only [decide_eq_true h2, if_true]
      refine Ev.bind (spec_engr x.f2) ?_
      by_cases h3 : Engr x.f2
      · simp only [decide_eq_true h3, if_true]
        refine ev_const (congrArg some ?_)
        by_cases h4 : x.f1 = x.f2
        · rw [decide_eq_false (show ¬ EditOk x from fun h => h.2.2.2 h4), h4]
          simp
        · rw [decide_eq_true (show EditOk x from ⟨h1, h2, h3, h4⟩)]
          simp only [bne_iff_ne, ne_eq]
          rw [toList_inj]
          exact h4
      · simp only [decide_eq_false h3, Bool.false_eq_true, if_false]
        exact ev_const (by rw [decide_eq_false (show ¬ EditOk x from fun h => h3 h.2.2.1)])
    · simp only [decide_eq_false h2, Bool.false_eq_true, if_false]
      exact ev_const (by rw [decide_eq_false (show ¬ EditOk x from fun h => h2 h.2.1)])
  · simp only [decide_eq_false h1, Bool.false_eq_true, if_false]
    exact ev_const (by rw [decide_eq_false (show ¬ EditOk x from fun h => h1 h.1)])
theorem impl_edit (x : S82) : impl_isEdit.f x.f0 x.f1 x.f2 = some (decide (EditOk x)) := by
  unfold impl_isEdit.f
  simp only [within_val, impl_engr, Option.bind_some]
  by_cases h1 : 0 ≤ x.f0 ∧ x.f0 ≤ 11
  · simp only [decide_eq_true h1, if_true]
    by_cases h2 : Engr x.f1
    · simp only [decide_eq_true h2, if_true]
      by_cases h3 : Engr x.f2
      · simp only [decide_eq_true h3, if_true]
        refine congrArg some ?_
        by_cases h4 : x.f1 = x.f2
        · rw [decide_eq_false (show ¬ EditOk x from fun h => h.2.2.2 h4), h4]
          simp
        · rw [decide_eq_true (show EditOk x from ⟨h1, h2, h3, h4⟩)]
          simp only [bne_iff_ne, ne_eq]
          rw [toList_inj]
          exact h4
      · simp only [decide_eq_false h3, Bool.false_eq_true, if_false]
        rw [decide_eq_false (show ¬ EditOk x from fun h => h3 h.2.2.1)]
    · simp only [decide_eq_false h2, Bool.false_eq_true, if_false]
      rw [decide_eq_false (show ¬ EditOk x from fun h => h2 h.2.1)]
  · simp only [decide_eq_false h1, Bool.false_eq_true, if_false]
    rw [decide_eq_false (show ¬ EditOk x from fun h => h1 h.1)]

theorem dec_0 (j : Nat) : spec_l01Dec.f (j + 4) 0 = some (⟨(Go.Lib.decDigits 0).toArray⟩ : ByteArray) := by kernel_rfl
theorem dsz_0 : decide ((⟨(Go.Lib.decDigits 0).toArray⟩ : ByteArray).size ≤ 2) = true := by kernel_rfl
theorem dec_1 (j : Nat) : spec_l01Dec.f (j + 4) 1 = some (⟨(Go.Lib.decDigits 1).toArray⟩ : ByteArray) := by kernel_rfl
theorem dsz_1 : decide ((⟨(Go.Lib.decDigits 1).toArray⟩ : ByteArray).size ≤ 2) = true := by kernel_rfl
theorem dec_2 (j : Nat) : spec_l01Dec.f (j + 4) 2 = some (⟨(Go.Lib.decDigits 2).toArray⟩ : ByteArray) := by kernel_rfl
theorem dsz_2 : decide ((⟨(Go.Lib.decDigits 2).toArray⟩ : ByteArray).size ≤ 2) = true := by kernel_rfl
theorem dec_3 (j : Nat) : spec_l01Dec.f (j + 4) 3 = some (⟨(Go.Lib.decDigits 3).toArray⟩ : ByteArray) := by kernel_rfl
theorem dsz_3 : decide ((⟨(Go.Lib.decDigits 3).toArray⟩ : ByteArray).size ≤ 2) = true := by kernel_rfl
theorem dec_4 (j : Nat) : spec_l01Dec.f (j + 4) 4 = some (⟨(Go.Lib.decDigits 4).toArray⟩ : ByteArray) := by kernel_rfl
theorem dsz_4 : decide ((⟨(Go.Lib.decDigits 4).toArray⟩ : ByteArray).size ≤ 2) = true := by kernel_rfl
theorem dec_5 (j : Nat) : spec_l01Dec.f (j + 4) 5 = some (⟨(Go.Lib.decDigits 5).toArray⟩ : ByteArray) := by kernel_rfl
theorem dsz_5 : decide ((⟨(Go.Lib.decDigits 5).toArray⟩ : ByteArray).size ≤ 2) = true := by kernel_rfl
theorem dec_6 (j : Nat) : spec_l01Dec.f (j + 4) 6 = some (⟨(Go.Lib.decDigits 6).toArray⟩ : ByteArray) := by kernel_rfl
theorem dsz_6 : decide ((⟨(Go.Lib.decDigits 6).toArray⟩ : ByteArray).size ≤ 2) = true := by kernel_rfl
theorem dec_7 (j : Nat) : spec_l01Dec.f (j + 4) 7 = some (⟨(Go.Lib.decDigits 7).toArray⟩ : ByteArray) := by kernel_rfl
theorem dsz_7 : decide ((⟨(Go.Lib.decDigits 7).toArray⟩ : ByteArray).size ≤ 2) = true := by kernel_rfl
theorem dec_8 (j : Nat) : spec_l01Dec.f (j + 4) 8 = some (⟨(Go.Lib.decDigits 8).toArray⟩ : ByteArray) := by kernel_rfl
theorem dsz_8 : decide ((⟨(Go.Lib.decDigits 8).toArray⟩ : ByteArray).size ≤ 2) = true := by kernel_rfl
theorem dec_9 (j : Nat) : spec_l01Dec.f (j + 4) 9 = some (⟨(Go.Lib.decDigits 9).toArray⟩ : ByteArray) := by kernel_rfl
theorem dsz_9 : decide ((⟨(Go.Lib.decDigits 9).toArray⟩ : ByteArray).size ≤ 2) = true := by kernel_rfl
theorem dec_10 (j : Nat) : spec_l01Dec.f (j + 4) 10 = some (⟨(Go.Lib.decDigits 10).toArray⟩ : ByteArray) := by kernel_rfl
theorem dsz_10 : decide ((⟨(Go.Lib.decDigits 10).toArray⟩ : ByteArray).size ≤ 2) = true := by kernel_rfl
theorem dec_11 (j : Nat) : spec_l01Dec.f (j + 4) 11 = some (⟨(Go.Lib.decDigits 11).toArray⟩ : ByteArray) := by kernel_rfl
theorem dsz_11 : decide ((⟨(Go.Lib.decDigits 11).toArray⟩ : ByteArray).size ≤ 2) = true := by kernel_rfl
theorem dec_ev (a : Int) (h0 : 0 ≤ a) (h1 : a ≤ 11) : Ev (fun k => spec_l01Dec.f k a) (⟨(Go.Lib.decDigits a.toNat).toArray⟩ : ByteArray) := by
  refine ⟨4, fun k hk => ?_⟩
  obtain ⟨j, rfl⟩ : ∃ j, k = j + 4 := ⟨k - 4, by omega⟩
  have : a = 0 ∨ a = 1 ∨ a = 2 ∨ a = 3 ∨ a = 4 ∨ a = 5 ∨ a = 6 ∨ a = 7 ∨ a = 8 ∨ a = 9 ∨ a = 10 ∨ a = 11 := by omega
  rcases this with rfl | rfl | rfl | rfl | rfl | rfl | rfl | rfl | rfl | rfl | rfl | rfl
  · exact dec_0 j
  · exact dec_1 j
  · exact dec_2 j
  · exact dec_3 j
  · exact dec_4 j
  · exact dec_5 j
  · exact dec_6 j
  · exact dec_7 j
  · exact dec_8 j
  · exact dec_9 j
  · exact dec_10 j
  · exact dec_11 j
theorem dec_size (a : Int) (h0 : 0 ≤ a) (h1 : a ≤ 11) : (⟨(Go.Lib.decDigits a.toNat).toArray⟩ : ByteArray).size ≤ 2 := by
  have : a = 0 ∨ a = 1 ∨ a = 2 ∨ a = 3 ∨ a = 4 ∨ a = 5 ∨ a = 6 ∨ a = 7 ∨ a = 8 ∨ a = 9 ∨ a = 10 ∨ a = 11 := by omega
  rcases this with rfl | rfl | rfl | rfl | rfl | rfl | rfl | rfl | rfl | rfl | rfl | rfl
  · exact of_decide_eq_true dsz_0
  · exact of_decide_eq_true dsz_1
  · exact of_decide_eq_true dsz_2
  · exact of_decide_eq_true dsz_3
  · exact of_decide_eq_true dsz_4
  · exact of_decide_eq_true dsz_5
  · exact of_decide_eq_true dsz_6
  · exact of_decide_eq_true dsz_7
  · exact of_decide_eq_true dsz_8
  · exact of_decide_eq_true dsz_9
  · exact of_decide_eq_true dsz_10
  · exact of_decide_eq_true dsz_11
def wordT (s : ByteArray) : ByteArray := if s.toList = ([] : List UInt8) then (⟨#[45]⟩ : ByteArray) else s
theorem sword_val (s : ByteArray) : spec_l13Word.f s = some (wordT s) := by unfold spec_l13Word.f wordT; split <;> rfl
theorem iword_val (s : ByteArray) : impl_engravedText.f s = some (wordT s) := by unfold impl_engravedText.f wordT; split <;> rfl
theorem word_size (s : ByteArray) (h : Engr s) : (wordT s).size ≤ 12 := by
  unfold wordT
  split
  · exact of_decide_eq_true (by kernel_rfl)
  · rcases h with h | h
    · omega
    · exact h.2.1
theorem etext_same (a : Int) (b c : ByteArray) : ∃ r, Ev (fun k => spec_EditText.f k a b c) r ∧ impl_EditText.f a b c = some r := by
  have s1 := spec_edit ⟨a, b, c⟩
  have s2 := impl_edit ⟨a, b, c⟩
  by_cases h : EditOk ⟨a, b, c⟩
  · rw [decide_eq_true h] at s1 s2
    obtain ⟨⟨h0', h1'⟩, hb, hc, _⟩ := h
    have h0 : (0 : Int) ≤ a := h0'
    have h1 : a ≤ 11 := h1'
    clear h0' h1'
    have hd := dec_ev a h0 h1
    have z := dec_size a h0 h1
    have zb := word_size b hb
    have zc := word_size c hc
    have q1 : (⟨#[35]⟩ : ByteArray).size = 1 := rfl
    have q2 : (⟨#[32]⟩ : ByteArray).size = 1 := rfl
    have q3 : (⟨#[32, 62, 32]⟩ : ByteArray).size = 3 := rfl
    have hf : strconv_FormatInt.f a 10 = some (⟨(Go.Lib.decDigits a.toNat).toArray⟩ : ByteArray) := by
      unfold strconv_FormatInt.f
      rw [if_pos ⟨rfl, h0, by omega⟩]
    generalize (⟨(Go.Lib.decDigits a.toNat).toArray⟩ : ByteArray) = t at hd z hf
    refine ⟨(((((⟨#[35]⟩ : ByteArray) ++ t) ++ (⟨#[32]⟩ : ByteArray)) ++ wordT b) ++ (⟨#[32, 62, 32]⟩ : ByteArray)) ++ wordT c, ?_, ?_⟩
    · unfold spec_EditText.f
      refine Ev.bind s1 ?_
      simp only [if_true]
      refine Ev.bind ?_ (ev_const rfl)
      unfold spec_l13Text.f
      refine Ev.bind hd ?_
      simp only [sword_val, Option.bind_some, if_pos (show t.size ≤ 1000 ∧ (wordT b).size ≤ 1000 ∧ (wordT c).size ≤ 1000 by omega)]
      exact ev_const rfl
    · have s2' : impl_isEdit.f a b c = some true := s2
      unfold impl_EditText.f impl_Decimal.f
      simp only [s2', hf, iword_val, Option.bind_some, if_true, ByteArray.size_append, q1, q2, q3, if_pos (show 1 + t.size ≤ 9223372036854775807 by omega), if_pos (show 1 + t.size + 1 ≤ 9223372036854775807 by omega), if_pos (show 1 + t.size + 1 + (wordT b).size ≤ 9223372036854775807 by omega), if_pos (show 1 + t.size + 1 + (wordT b).size + 3 ≤ 9223372036854775807 by omega), if_pos (show 1 + t.size + 1 + (wordT b).size + 3 + (wordT c).size ≤ 9223372036854775807 by omega)]
  · rw [decide_eq_false h] at s1 s2
    have s2' : impl_isEdit.f a b c = some false := s2
    refine ⟨(⟨#[]⟩ : ByteArray), ?_, ?_⟩
    · unfold spec_EditText.f
      refine Ev.bind s1 ?_
      simp only [Bool.false_eq_true, if_false]
      exact ev_const rfl
    · unfold impl_EditText.f
      simp only [s2', Option.bind_some, Bool.false_eq_true, if_false]
theorem FnExactEditText : laws_FnExactEditText.Pure := by
  intro a b c _ hb hc
  apply Ev.rounds
  unfold laws_FnExactEditText.f
  obtain ⟨v, hv⟩ : ∃ v, laws_szEdit.f a b c 1048576 = some v := by
    unfold laws_szEdit.f
    repeat' (first | exact ⟨_, rfl⟩ | split)
  simp only [hv, Option.bind_some]
  by_cases h : v < 0
  · simp only [if_pos h]
    exact ev_const rfl
  · simp only [if_neg h, laws_toEdit.f, Option.bind_some]
    obtain ⟨r, e1, e2⟩ := etext_same a b c
    refine Ev.bind e1 ?_
    simp only [e2, Option.bind_some, if_true]
    exact ev_const rfl

end Go.Proofs.YtombhkdipldkiaaDoor.Pure
