/- FnExactReadEdit: the program's ReadEdit and the reference's come to the same edit, for all texts. -/
import Derived.Test.YtdodbfialiggjaaDoorStatFnExactReadEdit
namespace Go.Proofs.YtdodbfialiggjaaDoor.Pure
open Go.RowKit Go.Proofs.YtdodbfialiggjaaDoor.PFnExactReadEdit Go.Proofs.YtdodbfialiggjaaDoorW.PrintWords Go.Proofs.YtdodbfialiggjaaDoorW.PrintLast Go.Proofs.YtdodbfialiggjaaDoorW.PrintMore
set_option linter.unusedVariables false
set_option linter.unusedSimpArgs false
theorem wfb {a : Int} (h : (Lit.int .i64 a).wf = true) : -9223372036854775808 ≤ a ∧ a ≤ 9223372036854775807 := by
  simpa [Lit.wf, IntKind.min, IntKind.max, IntKind.signed, IntKind.bits] using h
theorem w64 {x : Int} (h : -9223372036854775808 ≤ x) (h2 : x ≤ 9223372036854775807) : wrap64 x = x := by unfold wrap64; omega
theorem tdiv_nn {a b : Int} (h : 0 ≤ a) : Int.tdiv a b = a / b := Int.tdiv_eq_ediv_of_nonneg h
theorem tmod_nn {a b : Int} (h : 0 ≤ a) : Int.tmod a b = a % b := Int.tmod_eq_emod_of_nonneg h
theorem floor_val (a b : Int) (hb : 0 < b) : (if Int.tmod a b < 0 then Int.tdiv a b - 1 else Int.tdiv a b) = a / b := by
  have h1 := Int.mul_tdiv_add_tmod a b
  have hlt : Int.tmod a b < b := Int.tmod_lt_of_pos a hb
  have hgt : -b < Int.tmod a b := by
    have h2 := Int.tmod_lt_of_pos (-a) hb
    rw [Int.neg_tmod] at h2
    omega
  symm
  split
  · rename_i hneg
    refine ((Int.ediv_emod_unique hb (r := Int.tmod a b + b)).2 ⟨?_, by omega, by omega⟩).1
    rw [Int.mul_sub, Int.mul_one]
    omega
  · rename_i hneg
    exact ((Int.ediv_emod_unique hb (r := Int.tmod a b)).2 ⟨by omega, by omega, by omega⟩).1
theorem ediv_bd {a b : Int} (hb : 0 < b) (B : Int) (h0 : -B ≤ a) (h1 : a ≤ B) (hB : 0 ≤ B) : -B ≤ a / b ∧ a / b ≤ B := by
  constructor
  · rw [Int.le_ediv_iff_mul_le hb]
    have : B * 1 ≤ B * b := Int.mul_le_mul_of_nonneg_left (by omega) hB
    rw [Int.neg_mul]; omega
  · have h2 : a / b ≤ B / b := Int.ediv_le_ediv hb h1
    have h3 : B / b ≤ B := Int.ediv_le_self b hB
    omega
theorem ceil_alt (a b : Int) (hb : 0 < b) : (a + b - 1) / b = -((-a) / b) := by
  have h1 := Int.mul_ediv_add_emod (-a) b
  have h2 := Int.emod_nonneg (-a) (b := b) (by omega)
  have h3 := Int.emod_lt_of_pos (-a) hb
  refine ((Int.ediv_emod_unique hb (r := b - 1 - (-a) % b)).2 ⟨?_, by omega, by omega⟩).1
  rw [Int.mul_neg]
  omega

theorem ev_succ {α : Type} {g : Nat → Option α} {r : α} (h : Ev (fun k => g (k + 1)) r) : Ev g r := Ev.step (fun _ => rfl) h
theorem ev_const {α : Type} {g : Option α} {r : α} (h : g = some r) : Ev (fun _ => g) r := ⟨0, fun _ _ => h⟩
theorem ev_uniq {α : Type} {g : Nat → Option α} {a b : α} (h : Ev g a) (h' : Ev g b) : a = b := by
  obtain ⟨K, h⟩ := h
  obtain ⟨K', h'⟩ := h'
  have h1 := h (K + K') (by omega)
  rw [h' (K + K') (by omega)] at h1
  exact (Option.some.inj h1).symm

theorem toList_inj {a b : ByteArray} : a.toList = b.toList ↔ a = b := by
  constructor
  · intro h
    rw [ByteArray.toList_eq, ByteArray.toList_eq] at h
    obtain ⟨⟨x⟩⟩ := a
    obtain ⟨⟨y⟩⟩ := b
    simp at h
    rw [h]
  · intro h; rw [h]
def sizes (l : List ByteArray) : Int := (l.map (fun s => (s.size : Int))).sum
theorem sizes_cons (s : ByteArray) (l : List ByteArray) : sizes (s :: l) = s.size + sizes l := by simp [sizes]
theorem sizes_nn (l : List ByteArray) : 0 ≤ sizes l := by
  induction l with
  | nil => simp [sizes]
  | cons s l ih => rw [sizes_cons]; omega
theorem sizes_drop (l : List ByteArray) (i : Nat) (h : i < l.length) : sizes (l.drop i) = (l[i]).size + sizes (l.drop (i + 1)) := by
  rw [List.drop_eq_getElem_cons h, sizes_cons]
theorem rdOf_at (d : ByteArray) (l : List ByteArray) (i : Nat) (h : i < l.length) : rdOf d l (i : Int) = l[i] := by
  unfold rdOf
  rw [Int.toNat_natCast, List.getD_eq_getElem?_getD, List.getElem?_eq_getElem h]
  rfl

/-- A byte that a name may have. -/
def nameC (c : Int) : Prop := ((97 : Int) ≤ c ∧ c ≤ 122) ∨ ((48 : Int) ≤ c ∧ c ≤ 57) ∨ c = 45
instance instNameC (c : Int) : Decidable (nameC c) := by unfold nameC; infer_instance
/-- A name. -/
def IsNm (s : ByteArray) : Prop := 1 ≤ s.size ∧ s.size ≤ 12 ∧ ((97 : Int) ≤ bt s 0 ∧ bt s 0 ≤ 122) ∧ ∀ i, i < s.size → nameC (bt s (i : Int))
instance instIsNm (s : ByteArray) : Decidable (IsNm s) := by unfold IsNm; infer_instance
theorem toList_nil (s : ByteArray) : s.toList = ([] : List UInt8) ↔ s.size = 0 := by
  rw [ByteArray.toList_eq]
  obtain ⟨⟨x⟩⟩ := s
  show x = [] ↔ x.length = 0
  rw [List.length_eq_zero_iff]
theorem bt_at (s : ByteArray) (i : Nat) (h : i < s.size) : bt s (i : Int) = ((s.data.toList[i]'(by simpa using h)).toNat : Int) := by
  unfold bt
  rw [dif_pos (by simpa using h)]
  rfl
open Classical in
theorem snm_l (s : ByteArray) (hs : s.size ≤ 12) (d : Nat) : ∀ (i : Nat), i ≤ s.size → s.size - i = d → Ev (fun k => spec_IsName.l0 k s i) (decide (∀ j, i ≤ j → j < s.size → nameC (bt s (j : Int)))) := by
  induction d with
  | zero =>
    intro i hi hd
    apply ev_succ
    simp only [spec_IsName.l0, if_neg (show ¬ (i : Int) < (s.size : Int) by omega)]
    refine ev_const ?_
    congr 1
    symm
    rw [decide_eq_true_iff]
    intro j h1 h2; omega
  | succ d ih =>
    intro i hi hd
    have hlt : i < s.size := by omega
    have hih := ih (i + 1) (by omega) (by omega)
    have step : nameC (bt s (i : Int)) → (decide (∀ j, i ≤ j → j < s.size → nameC (bt s (j : Int)))) = decide (∀ j, i + 1 ≤ j → j < s.size → nameC (bt s (j : Int))) := by
      intro hc
      rw [decide_eq_decide]
      constructor
      · intro h j h1 h2; exact h j (by omega) h2
      · intro h j h1 h2
        by_cases e : j = i
        · subst e; exact hc
        · exact h j (by omega) h2
    apply ev_succ
    simp only [spec_IsName.l0, spec_l01Small.f, spec_l01Digit.f, if_pos (show (i : Int) < (s.size : Int) by omega), if_pos (show (0 : Int) ≤ (i : Int) by omega), w64 (x := (i : Int) + 1) (by omega) (by omega)]
    by_cases h1 : 97 ≤ bt s (i : Int) ∧ bt s (i : Int) ≤ 122
    · simp only [ge_iff_le, if_pos h1.1, Option.bind_some, decide_eq_true h1.2, if_true]
      rw [step (.inl h1)]
      exact hih
    · have e1 : (if bt s (i : Int) ≥ 97 then some (decide (bt s (i : Int) ≤ 122)) else some false) = some false := by
        by_cases h : bt s (i : Int) ≥ 97
        · rw [if_pos h, decide_eq_false (fun h2 => h1 ⟨h, h2⟩)]
        · rw [if_neg h]
      simp only [e1, Option.bind_some, Bool.false_eq_true, if_false]
      by_cases h2 : 48 ≤ bt s (i : Int) ∧ bt s (i : Int) ≤ 57
      · simp only [ge_iff_le, if_pos h2.1, Option.bind_some, decide_eq_true h2.2, if_true]
        rw [step (.inr (.inl h2))]
        exact hih
      · have e2 : (if bt s (i : Int) ≥ 48 then some (decide (bt s (i : Int) ≤ 57)) else some false) = some false := by
          by_cases h : bt s (i : Int) ≥ 48
          · rw [if_pos h, decide_eq_false (fun h3 => h2 ⟨h, h3⟩)]
          · rw [if_neg h]
        simp only [e2, Option.bind_some, Bool.false_eq_true, if_false]
        by_cases h3 : bt s (i : Int) = 45
        · simp only [if_pos h3]
          rw [step (.inr (.inr h3))]
          exact hih
        · simp only [if_neg h3]
          refine ev_const ?_
          congr 1
          symm
          rw [decide_eq_false_iff_not]
          intro h
          rcases h i (by omega) hlt with h | h | h
          · exact h1 h
          · exact h2 h
          · exact h3 h
theorem spec_name (s : ByteArray) : Ev (fun k => spec_IsName.f k s) (decide (IsNm s)) := by
  classical
  have no : ¬ IsNm s → Ev (fun k => spec_IsName.j0 k s true) (decide (IsNm s)) := fun h => by
    refine ev_succ ?_
    simp only [spec_IsName.j0, if_true]
    exact ev_const (by rw [decide_eq_false h])
  unfold spec_IsName.f
  by_cases h0 : s.size = 0
  · simp only [if_pos ((toList_nil s).2 h0)]
    exact no (fun h => by have := h.1; omega)
  · simp only [if_neg (fun h => h0 ((toList_nil s).1 h))]
    by_cases h1 : (s.size : Int) > 12
    · simp only [if_pos h1]
      exact no (fun h => by have := h.2.1; omega)
    · simp only [if_neg h1, if_pos (show (0 : Int) < (s.size : Int) by omega), spec_l01Small.f]
      by_cases h2 : 97 ≤ bt s 0 ∧ bt s 0 ≤ 122
      · simp only [ge_iff_le, if_pos h2.1, Option.bind_some, decide_eq_true h2.2, Bool.not_true]
        refine ev_succ ?_
        simp only [spec_IsName.j0, Bool.false_eq_true, if_false]
        have := snm_l s (by omega) s.size 0 (by omega) (by omega)
        have e : (decide (IsNm s)) = decide (∀ j, 0 ≤ j → j < s.size → nameC (bt s (j : Int))) := by
          rw [decide_eq_decide]
          exact ⟨fun h j _ hj => h.2.2.2 j hj, fun h => ⟨by omega, by omega, h2, fun j hj => h j (by omega) hj⟩⟩
        rw [e]
        exact this
      · have e1 : (if bt s 0 ≥ 97 then some (decide (bt s 0 ≤ 122)) else some false) = some false := by
          by_cases h : bt s 0 ≥ 97
          · rw [if_pos h, decide_eq_false (fun h3 => h2 ⟨h, h3⟩)]
          · rw [if_neg h]
        simp only [e1, Option.bind_some, Bool.not_false]
        exact no (fun h => h2 h.2.2.1)

theorem dw_nil (p : UInt8 → Bool) (l : List UInt8) : l.dropWhile p = [] ↔ ∀ b ∈ l, p b = true := by
  induction l with
  | nil => simp
  | cons a l ih =>
    by_cases h : p a = true
    · simp [List.dropWhile, h, ih]
    · simp [List.dropWhile, h]
theorem dw_head (p : UInt8 → Bool) (l : List UInt8) (x : UInt8) (xs : List UInt8) (h : l.dropWhile p = x :: xs) : p x = false := by
  induction l with
  | nil => simp at h
  | cons a l ih =>
    by_cases h2 : p a = true
    · simp only [List.dropWhile, h2] at h
      exact ih h
    · have h3 : p a = false := by simpa using h2
      simp only [List.dropWhile, h3, List.cons.injEq] at h
      rw [← h.1]; exact h3
theorem trimS_nil (l cs : List UInt8) : Go.Lib.trimS l cs = [] ↔ ∀ b ∈ l, cs.contains b = true := by
  unfold Go.Lib.trimS Go.Lib.trimLeftS Go.Lib.trimRightS
  rw [dw_nil]
  constructor
  · intro h b hb
    cases e : l.reverse.dropWhile (cs.contains ·) with
    | nil =>
      rw [dw_nil] at e
      exact e b (by simpa using hb)
    | cons x xs =>
      exfalso
      have h1 := dw_head _ _ _ _ e
      have h2 := h x (by rw [e]; simp)
      rw [h2] at h1
      cases h1
  · intro h b hb
    exact h b (by simpa using (List.dropWhile_sublist _).subset (List.mem_reverse.1 hb))
theorem name_cut (b : UInt8) : ([97, 98, 99, 100, 101, 102, 103, 104, 105, 106, 107, 108, 109, 110, 111, 112, 113, 114, 115, 116, 117, 118, 119, 120, 121, 122, 48, 49, 50, 51, 52, 53, 54, 55, 56, 57, 45] : List UInt8).contains b = decide (nameC (b.toNat : Int)) := by
  have key : ((List.range 256).all fun n => (([97, 98, 99, 100, 101, 102, 103, 104, 105, 106, 107, 108, 109, 110, 111, 112, 113, 114, 115, 116, 117, 118, 119, 120, 121, 122, 48, 49, 50, 51, 52, 53, 54, 55, 56, 57, 45] : List UInt8).contains (UInt8.ofNat n) == decide (((97 : Int) ≤ (n : Int) ∧ (n : Int) ≤ 122) ∨ ((48 : Int) ≤ (n : Int) ∧ (n : Int) ≤ 57) ∨ (n : Int) = 45))) = true := by decide +kernel
  have h := List.all_eq_true.1 key b.toNat (List.mem_range.2 b.toNat_lt)
  rw [UInt8.ofNat_toNat] at h
  rw [beq_iff_eq] at h
  rw [h]
  rfl
theorem impl_name (s : ByteArray) : impl_IsName.f s = some (decide (IsNm s)) := by
  unfold impl_IsName.f
  by_cases h0 : (s.size : Int) < 1
  · rw [if_pos h0, decide_eq_false (fun h => by have := h.1; omega)]
  · rw [if_neg h0]
    by_cases h1 : (s.size : Int) > 12
    · rw [if_pos h1, decide_eq_false (fun h => by have := h.2.1; omega)]
    · rw [if_neg h1, if_pos (by omega)]
      by_cases h2 : bt s 0 < 97
      · rw [if_pos h2, decide_eq_false (fun h => by have := h.2.2.1.1; omega)]
      · rw [if_neg h2]
        by_cases h3 : bt s 0 > 122
        · rw [if_pos h3, decide_eq_false (fun h => by have := h.2.2.1.2; omega)]
        · rw [if_neg h3]
          unfold strings_Trim.f
          rw [if_pos ⟨by omega, by decide, by decide +kernel⟩]
          simp only [Option.bind_some]
          congr 1
          have e : (decide (IsNm s)) = decide (∀ b ∈ s.data.toList, nameC (b.toNat : Int)) := by
            rw [decide_eq_decide]
            constructor
            · intro h b hb
              obtain ⟨j, hj, rfl⟩ := List.getElem_of_mem hb
              have := h.2.2.2 j (by simpa using hj)
              rw [bt_at s j (by simpa using hj)] at this
              exact this
            · intro h
              refine ⟨by omega, by omega, ⟨by omega, by omega⟩, fun j hj => ?_⟩
              rw [bt_at s j hj]
              exact h _ (List.getElem_mem _)
          rw [e]
          have e2 : ∀ t : List UInt8, (({ data := t.toArray } : ByteArray).toList == ([] : List UInt8)) = decide (t = []) := by
            intro t
            rw [ByteArray.toList_eq]
            cases t <;> simp
          rw [e2, decide_eq_decide, trimS_nil]
          constructor
          · intro h b hb
            have := h b hb
            rw [name_cut] at this
            exact of_decide_eq_true this
          · intro h b hb
            rw [name_cut]
            exact decide_eq_true (h b hb)

theorem in_val (a b c : Int) : spec_l00In.f a b c = some (decide (b ≤ a ∧ a ≤ c)) := by
  unfold spec_l00In.f
  by_cases h : a ≥ b <;> by_cases h2 : a ≤ c <;> simp [h, h2] <;> omega
theorem within_val (a b c : Int) : impl_within.f a b c = some (decide (b ≤ a ∧ a ≤ c)) := in_val a b c

/-- A name or none. -/
def Engr (s : ByteArray) : Prop := s.size = 0 ∨ IsNm s
instance instEngr (s : ByteArray) : Decidable (Engr s) := by unfold Engr; infer_instance
theorem spec_engr (s : ByteArray) : Ev (fun k => spec_l13Name.f k s) (decide (Engr s)) := by
  unfold spec_l13Name.f
  by_cases h : s.size = 0
  · simp only [if_pos ((toList_nil s).2 h)]
    exact ev_const (by rw [decide_eq_true (show Engr s from .inl h)])
  · simp only [if_neg (fun e => h ((toList_nil s).1 e))]
    have e : decide (Engr s) = decide (IsNm s) := by
      rw [decide_eq_decide]
      exact ⟨fun x => x.resolve_left h, .inr⟩
    rw [e]
    exact Ev.bind (spec_name s) (ev_const rfl)
theorem impl_engr (s : ByteArray) : impl_isEngraved.f s = some (decide (Engr s)) := by
  unfold impl_isEngraved.f
  by_cases h : s.size = 0
  · rw [if_pos ((toList_nil s).2 h), decide_eq_true (show Engr s from .inl h)]
  · rw [if_neg (fun e => h ((toList_nil s).1 e)), impl_name]
    have e : decide (Engr s) = decide (IsNm s) := by
      rw [decide_eq_decide]
      exact ⟨fun x => x.resolve_left h, .inr⟩
    rw [e]
    rfl

/-- What an edit must hold. -/
def EditOk (x : S52) : Prop := ((0 : Int) ≤ x.f0 ∧ x.f0 ≤ 11) ∧ Engr x.f1 ∧ Engr x.f2 ∧ x.f1 ≠ x.f2
instance instEditOk (x : S52) : Decidable (EditOk x) := by
  unfold EditOk
  exact @instDecidableAnd _ _ inferInstance (@instDecidableAnd _ _ inferInstance (@instDecidableAnd _ _ inferInstance (decidable_of_iff (¬ x.f1.toList = x.f2.toList) (by rw [toList_inj]))))
theorem spec_edit (x : S52) : Ev (fun k => spec_l13One.f k x.f0 x.f1 x.f2) (decide (EditOk x)) := by
  unfold spec_l13One.f
  simp only [in_val, Option.bind_some]
  by_cases h1 : 0 ≤ x.f0 ∧ x.f0 ≤ 11
  · simp only [decide_eq_true h1, if_true]
    refine Ev.bind (spec_engr x.f1) ?_
    by_cases h2 : Engr x.f1
    · simp only [decide_eq_true h2, if_true]
      refine Ev.bind (spec_engr x.f2) ?_
      by_cases h3 : Engr x.f2
      · simp only [decide_eq_true h3, if_true]
        refine ev_const (congrArg some ?_)
        by_cases h4 : x.f1 = x.f2
        · rw [decide_eq_false (show ¬ EditOk x from fun h => h.2.2.2 h4), h4]
          simp
        · rw [decide_eq_true (show EditOk x from ⟨h1, h2, h3, h4⟩)]
          simp only [bne_iff_ne, ne_eq]
          rw [toList_inj]
          exact h4
      · simp only [decide_eq_false h3, Bool.false_eq_true, if_false]
        exact ev_const (by rw [decide_eq_false (show ¬ EditOk x from fun h => h3 h.2.2.1)])
    · simp only [decide_eq_false h2, Bool.false_eq_true, if_false]
      exact ev_const (by rw [decide_eq_false (show ¬ EditOk x from fun h => h2 h.2.1)])
  · simp only [decide_eq_false h1, Bool.false_eq_true, if_false]
    exact ev_const (by rw [decide_eq_false (show ¬ EditOk x from fun h => h1 h.1)])
theorem impl_edit (x : S52) : impl_isEdit.f x.f0 x.f1 x.f2 = some (decide (EditOk x)) := by
  unfold impl_isEdit.f
  simp only [within_val, impl_engr, Option.bind_some]
  by_cases h1 : 0 ≤ x.f0 ∧ x.f0 ≤ 11
  · simp only [decide_eq_true h1, if_true]
    by_cases h2 : Engr x.f1
    · simp only [decide_eq_true h2, if_true]
      by_cases h3 : Engr x.f2
      · simp only [decide_eq_true h3, if_true]
        refine congrArg some ?_
        by_cases h4 : x.f1 = x.f2
        · rw [decide_eq_false (show ¬ EditOk x from fun h => h.2.2.2 h4), h4]
          simp
        · rw [decide_eq_true (show EditOk x from ⟨h1, h2, h3, h4⟩)]
          simp only [bne_iff_ne, ne_eq]
          rw [toList_inj]
          exact h4
      · simp only [decide_eq_false h3, Bool.false_eq_true, if_false]
        rw [decide_eq_false (show ¬ EditOk x from fun h => h3 h.2.2.1)]
    · simp only [decide_eq_false h2, Bool.false_eq_true, if_false]
      rw [decide_eq_false (show ¬ EditOk x from fun h => h2 h.2.1)]
  · simp only [decide_eq_false h1, Bool.false_eq_true, if_false]
    rw [decide_eq_false (show ¬ EditOk x from fun h => h1 h.1)]

def mkB (l : List UInt8) : ByteArray := ⟨l.toArray⟩
theorem mkB_data (l : List UInt8) : (mkB l).data.toList = l := rfl
theorem mkB_toList (l : List UInt8) : (mkB l).toList = l := by rw [ByteArray.toList_eq]; rfl
theorem mkB_of (s : ByteArray) : mkB s.data.toList = s := rfl
theorem mkB_size (l : List UInt8) : (mkB l).size = l.length := by unfold mkB; simp [ByteArray.size]
theorem mkB_extract (l : List UInt8) (i j : Nat) : (mkB l).extract i j = mkB ((l.drop i).take (j - i)) := by
  apply ByteArray.ext
  rw [ByteArray.data_extract]
  apply Array.toList_inj.1
  rw [Array.toList_extract]
  show List.extract l i j = (l.drop i).take (j - i)
  rw [List.extract_eq_take_drop]
theorem mkB_inj {a b : List UInt8} (h : mkB a = mkB b) : a = b := by
  have := congrArg (fun s : ByteArray => s.data.toList) h
  exact this
theorem mkB_append (a b : List UInt8) : mkB a ++ mkB b = mkB (a ++ b) := by
  apply ByteArray.ext
  rw [ByteArray.data_append]
  simp [mkB]
/-- A text cut at its blanks; acc: what stands ahead of it. -/
def splitA (acc : List UInt8) : List UInt8 → List (List UInt8)
  | [] => [acc]
  | c :: r => if c.toNat = 32 then acc :: splitA [] r else splitA (acc ++ [c]) r
def noSp (l : List UInt8) : Prop := ∀ c ∈ l, c.toNat ≠ 32
def joinA : List (List UInt8) → List UInt8
  | [] => []
  | [w] => w
  | w :: v :: ws => w ++ (32 :: joinA (v :: ws))
theorem splitA_ne (acc l : List UInt8) : splitA acc l ≠ [] := by
  induction l generalizing acc with
  | nil => simp [splitA]
  | cons c r ih =>
    unfold splitA
    split
    · simp
    · exact ih _
theorem splitA_join : ∀ (l acc : List UInt8), noSp acc → joinA (splitA acc l) = acc ++ l ∧ ∀ w ∈ splitA acc l, noSp w
  | [], acc, h => by
    unfold splitA
    exact ⟨by simp [joinA], fun w hw => by rw [List.mem_singleton.1 hw]; exact h⟩
  | c :: r, acc, h => by
    unfold splitA
    by_cases hc : c.toNat = 32
    · rw [if_pos hc]
      obtain ⟨h1, h2⟩ := splitA_join r [] (fun c hc => by cases hc)
      refine ⟨?_, fun w hw => ?_⟩
      · have e : c = 32 := UInt8.toNat_inj.1 (by rw [hc]; rfl)
        cases hs : splitA [] r with
        | nil => exact absurd hs (splitA_ne _ _)
        | cons v ws =>
          rw [hs] at h1
          show acc ++ (32 :: joinA (v :: ws)) = _
          rw [h1, e]
          rfl
      · rcases List.mem_cons.1 hw with rfl | hw
        · exact h
        · exact h2 w hw
    · rw [if_neg hc]
      have := splitA_join r (acc ++ [c]) (fun d hd => by
        rcases List.mem_append.1 hd with hd | hd
        · exact h d hd
        · rw [List.mem_singleton.1 hd]; exact hc)
      rw [List.append_assoc] at this
      exact this
theorem splitA_word : ∀ (w acc r : List UInt8), noSp w → splitA acc (w ++ 32 :: r) = (acc ++ w) :: splitA [] r
  | [], acc, r, _ => by
    show (if (32 : UInt8).toNat = 32 then _ else _) = _
    rw [if_pos (show (32 : UInt8).toNat = 32 from rfl), List.append_nil]
  | c :: w, acc, r, h => by
    show (if c.toNat = 32 then _ else splitA (acc ++ [c]) (w ++ 32 :: r)) = _
    rw [if_neg (h c (by simp)), splitA_word w (acc ++ [c]) r (fun d hd => h d (List.mem_cons_of_mem _ hd)), List.append_assoc]
    rfl
theorem splitA_last : ∀ (w acc : List UInt8), noSp w → splitA acc w = [acc ++ w]
  | [], acc, _ => by simp [splitA]
  | c :: w, acc, h => by
    show (if c.toNat = 32 then _ else splitA (acc ++ [c]) w) = _
    rw [if_neg (h c (by simp)), splitA_last w (acc ++ [c]) (fun d hd => h d (List.mem_cons_of_mem _ hd)), List.append_assoc]
    rfl
theorem splitA_four (a b c d : List UInt8) (ha : noSp a) (hb : noSp b) (hc : noSp c) (hd : noSp d) : splitA [] (joinA [a, b, c, d]) = [a, b, c, d] := by
  show splitA [] (a ++ 32 :: (b ++ 32 :: (c ++ 32 :: d))) = _
  rw [splitA_word a [] _ ha, splitA_word b [] _ hb, splitA_word c [] _ hc, splitA_last d [] hd]
  simp
/-! The reference's cut -/
theorem ssplit_l (l : List UInt8) (hl : l.length ≤ 1048576) (d : Nat) : ∀ (i f : Nat) (o : List (List UInt8)), f ≤ i → i ≤ l.length → l.length - i = d → o.length ≤ i → Ev (fun k => spec_l01Split.l0 k (mkB l) 32 (o.map mkB) f i) ((o ++ splitA ((l.drop f).take (i - f)) (l.drop i)).map mkB) := by
  induction d with
  | zero =>
    intro i f o hf hi hd ho
    apply ev_succ
    simp only [spec_l01Split.l0, mkB_size, if_neg (show ¬ (i : Int) < (l.length : Int) by omega), if_pos (show (0 : Int) ≤ (f : Int) by omega), if_pos (show (f : Int) ≤ (l.length : Int) by omega), List.length_map, if_pos (show o.length < 8796093022208 by omega), Int.toNat_natCast, mkB_extract]
    rw [List.drop_eq_nil_of_le (show l.length ≤ i by omega), show i = l.length by omega]
    exact ev_const (by simp [splitA])
  | succ d ih =>
    intro i f o hf hi hd ho
    have hlt : i < l.length := by omega
    have hb : bt (mkB l) (i : Int) = ((l[i]).toNat : Int) := bt_at (mkB l) i (by rw [mkB_size]; exact hlt)
    rw [List.drop_eq_getElem_cons hlt]
    apply ev_succ
    simp only [spec_l01Split.l0, mkB_size, if_pos (show (i : Int) < (l.length : Int) by omega), if_pos (show (0 : Int) ≤ (i : Int) by omega), hb, if_pos (show (0 : Int) ≤ (f : Int) by omega), if_pos (show (f : Int) ≤ (i : Int) by omega), if_pos (show (i : Int) ≤ (l.length : Int) by omega), List.length_map, if_pos (show o.length < 8796093022208 by omega), Int.toNat_natCast, mkB_extract, w64 (x := (i : Int) + 1) (by omega) (by omega)]
    unfold splitA
    by_cases h : (l[i]).toNat = 32
    · simp only [if_pos (show ((l[i]).toNat : Int) = 32 by omega)]
      rw [if_pos h]
      have := ih (i + 1) (i + 1) (o ++ [(l.drop f).take (i - f)]) (by omega) (by omega) (by omega) (by rw [List.length_append, List.length_singleton]; omega)
      rw [Nat.sub_self, List.take_zero, List.append_assoc, List.map_append, List.map_append, List.map_cons, List.map_nil] at this
      rw [List.map_append, List.map_cons]
      exact this
    · simp only [if_neg (show ¬ ((l[i]).toNat : Int) = 32 by omega)]
      rw [if_neg h]
      have := ih (i + 1) f o (by omega) (by omega) (by omega) (by omega)
      have e : (l.drop f).take (i + 1 - f) = (l.drop f).take (i - f) ++ [l[i]] := by
        rw [show i + 1 - f = (i - f) + 1 by omega, List.take_add_one, List.getElem?_drop, show f + (i - f) = i by omega, List.getElem?_eq_getElem hlt]
        rfl
      rw [e] at this
      exact this
theorem ssplit_ev (s : ByteArray) (hs : s.size ≤ 1048576) : Ev (fun k => spec_l01Split.f k s 32) ((splitA [] s.data.toList).map mkB) := by
  have := ssplit_l s.data.toList (by rw [← mkB_size, mkB_of]; exact hs) _ 0 0 [] (by omega) (by omega) rfl (by simp)
  rw [mkB_of] at this
  exact this
/-! The library's cut -/
theorem index_ne1 (x b : UInt8) (s : List UInt8) (h : b ≠ x) : Go.Lib.index (b :: s) [x] = if Go.Lib.index s [x] == -1 then -1 else Go.Lib.index s [x] + 1 := by
  have hp : ([x] : List UInt8).isPrefixOf (b :: s) = false := by simp [List.isPrefixOf, Ne.symm h]
  rw [Go.Lib.index, hp]
  simp
theorem index_eq1 (x : UInt8) (s : List UInt8) : Go.Lib.index (x :: s) [x] = 0 := by
  rw [Go.Lib.index]
  simp [List.isPrefixOf]
theorem is32 {c : UInt8} : c = 32 ↔ c.toNat = 32 := ⟨fun h => by rw [h]; rfl, fun h => UInt8.toNat_inj.1 (by rw [h]; rfl)⟩
theorem isplit : ∀ (s acc : List UInt8), (Go.Lib.splitK [32] 0 (Go.Lib.count s [32]) s).head? = some ((Go.Lib.splitK [32] 0 (Go.Lib.count s [32]) s).headD []) ∧ splitA acc s = (acc ++ (Go.Lib.splitK [32] 0 (Go.Lib.count s [32]) s).headD []) :: (Go.Lib.splitK [32] 0 (Go.Lib.count s [32]) s).tail
  | [], acc => by
    have h : Go.Lib.count ([] : List UInt8) [32] = 0 := by rw [Go.Lib.count_one]; rfl
    rw [h]
    simp [Go.Lib.splitK, splitA]
  | c :: s, acc => by
    by_cases h : c = 32
    · subst h
      rw [Go.Lib.count_cons_eq, Nat.add_comm]
      have e : Go.Lib.splitK [32] 0 (Go.Lib.count s [32] + 1) (32 :: s) = [] :: Go.Lib.splitK [32] 0 (Go.Lib.count s [32]) s := by
        rw [Go.Lib.splitK, index_eq1]
        rfl
      rw [e]
      obtain ⟨h1, h2⟩ := isplit s []
      refine ⟨rfl, ?_⟩
      show (if (32 : UInt8).toNat = 32 then _ else _) = _
      rw [if_pos (show (32 : UInt8).toNat = 32 from rfl), h2, List.nil_append]
      cases hk : Go.Lib.splitK [32] 0 (Go.Lib.count s [32]) s with
      | nil => rw [hk] at h1; cases h1
      | cons v ws => simp
    · rw [Go.Lib.count_cons_ne c 32 s h]
      obtain ⟨h1, h2⟩ := isplit s (acc ++ [c])
      have hn : ¬ c.toNat = 32 := fun e => h (is32.2 e)
      show _ ∧ (if c.toNat = 32 then _ else splitA (acc ++ [c]) s) = _
      rw [if_neg hn, h2]
      cases hq : Go.Lib.count s [32] with
      | zero =>
        simp [Go.Lib.splitK]
      | succ q =>
        have hix : ¬ Go.Lib.index s [32] = -1 := fun e => by rw [Go.Lib.count_miss e] at hq; cases hq
        have hge := Go.Lib.index_ge s [32]
        obtain ⟨j, hj⟩ := Int.eq_ofNat_of_zero_le (show 0 ≤ Go.Lib.index s [32] by omega)
        have hix2 : Go.Lib.index (c :: s) [32] = ((j + 1 : Nat) : Int) := by
          rw [index_ne1 32 c s h, if_neg (by simpa using hix), hj]
          omega
        have e1 : ¬ (Go.Lib.index s [32] == -1) = true := by simpa using hix
        have e2 : ¬ (Go.Lib.index (c :: s) [32] == -1) = true := by rw [hix2]; simp; omega
        rw [Go.Lib.splitK, Go.Lib.splitK, if_neg e1, if_neg e2, hj, hix2]
        simp
theorem isplit_eq (s : List UInt8) : Go.Lib.splitK [32] 0 (Go.Lib.count s [32]) s = splitA [] s := by
  obtain ⟨h1, h2⟩ := isplit s []
  rw [h2]
  cases hk : Go.Lib.splitK [32] 0 (Go.Lib.count s [32]) s with
  | nil => rw [hk] at h1; cases h1
  | cons v ws => simp
theorem lsplit_val (s : ByteArray) (hs : s.size ≤ 1048576) : strings_Split.f s (⟨#[32]⟩ : ByteArray) = some ((splitA [] s.data.toList).map mkB) := by
  unfold strings_Split.f
  rw [if_pos ⟨by omega, of_decide_eq_true (by kernel_rfl)⟩]
  have h := Go.Lib.splitB_data (⟨#[32]⟩ : ByteArray) 0 (Go.Lib.countB s (⟨#[32]⟩ : ByteArray)) s
  have h2 : Go.Lib.splitK (⟨#[32]⟩ : ByteArray).data.toList 0 (Go.Lib.countB s (⟨#[32]⟩ : ByteArray)) s.data.toList = splitA [] s.data.toList := isplit_eq s.data.toList
  rw [h2] at h
  rw [← h, List.map_map]
  congr 1
  symm
  exact List.map_id'' (fun x => rfl) _
/-! Numbers -/
abbrev DG (p : Nat) : List UInt8 := Go.Lib.decDigits p
theorem sd_0 (j : Nat) : spec_l01Dec.f (j + 4) 0 = some (mkB (DG 0)) := by kernel_rfl
theorem sn_0 (j : Nat) : spec_l01Number.f (j + 12) (mkB (DG 0)) = some (0, true) := by kernel_rfl
theorem ip_0 : Go.Lib.parseIntB 64 (DG 0) = .ok 0 := by kernel_rfl
theorem sd_1 (j : Nat) : spec_l01Dec.f (j + 4) 1 = some (mkB (DG 1)) := by kernel_rfl
theorem sn_1 (j : Nat) : spec_l01Number.f (j + 12) (mkB (DG 1)) = some (1, true) := by kernel_rfl
theorem ip_1 : Go.Lib.parseIntB 64 (DG 1) = .ok 1 := by kernel_rfl
theorem sd_2 (j : Nat) : spec_l01Dec.f (j + 4) 2 = some (mkB (DG 2)) := by kernel_rfl
theorem sn_2 (j : Nat) : spec_l01Number.f (j + 12) (mkB (DG 2)) = some (2, true) := by kernel_rfl
theorem ip_2 : Go.Lib.parseIntB 64 (DG 2) = .ok 2 := by kernel_rfl
theorem sd_3 (j : Nat) : spec_l01Dec.f (j + 4) 3 = some (mkB (DG 3)) := by kernel_rfl
theorem sn_3 (j : Nat) : spec_l01Number.f (j + 12) (mkB (DG 3)) = some (3, true) := by kernel_rfl
theorem ip_3 : Go.Lib.parseIntB 64 (DG 3) = .ok 3 := by kernel_rfl
theorem sd_4 (j : Nat) : spec_l01Dec.f (j + 4) 4 = some (mkB (DG 4)) := by kernel_rfl
theorem sn_4 (j : Nat) : spec_l01Number.f (j + 12) (mkB (DG 4)) = some (4, true) := by kernel_rfl
theorem ip_4 : Go.Lib.parseIntB 64 (DG 4) = .ok 4 := by kernel_rfl
theorem sd_5 (j : Nat) : spec_l01Dec.f (j + 4) 5 = some (mkB (DG 5)) := by kernel_rfl
theorem sn_5 (j : Nat) : spec_l01Number.f (j + 12) (mkB (DG 5)) = some (5, true) := by kernel_rfl
theorem ip_5 : Go.Lib.parseIntB 64 (DG 5) = .ok 5 := by kernel_rfl
theorem sd_6 (j : Nat) : spec_l01Dec.f (j + 4) 6 = some (mkB (DG 6)) := by kernel_rfl
theorem sn_6 (j : Nat) : spec_l01Number.f (j + 12) (mkB (DG 6)) = some (6, true) := by kernel_rfl
theorem ip_6 : Go.Lib.parseIntB 64 (DG 6) = .ok 6 := by kernel_rfl
theorem sd_7 (j : Nat) : spec_l01Dec.f (j + 4) 7 = some (mkB (DG 7)) := by kernel_rfl
theorem sn_7 (j : Nat) : spec_l01Number.f (j + 12) (mkB (DG 7)) = some (7, true) := by kernel_rfl
theorem ip_7 : Go.Lib.parseIntB 64 (DG 7) = .ok 7 := by kernel_rfl
theorem sd_8 (j : Nat) : spec_l01Dec.f (j + 4) 8 = some (mkB (DG 8)) := by kernel_rfl
theorem sn_8 (j : Nat) : spec_l01Number.f (j + 12) (mkB (DG 8)) = some (8, true) := by kernel_rfl
theorem ip_8 : Go.Lib.parseIntB 64 (DG 8) = .ok 8 := by kernel_rfl
theorem sd_9 (j : Nat) : spec_l01Dec.f (j + 4) 9 = some (mkB (DG 9)) := by kernel_rfl
theorem sn_9 (j : Nat) : spec_l01Number.f (j + 12) (mkB (DG 9)) = some (9, true) := by kernel_rfl
theorem ip_9 : Go.Lib.parseIntB 64 (DG 9) = .ok 9 := by kernel_rfl
theorem sd_10 (j : Nat) : spec_l01Dec.f (j + 4) 10 = some (mkB (DG 10)) := by kernel_rfl
theorem sn_10 (j : Nat) : spec_l01Number.f (j + 12) (mkB (DG 10)) = some (10, true) := by kernel_rfl
theorem ip_10 : Go.Lib.parseIntB 64 (DG 10) = .ok 10 := by kernel_rfl
theorem sd_11 (j : Nat) : spec_l01Dec.f (j + 4) 11 = some (mkB (DG 11)) := by kernel_rfl
theorem sn_11 (j : Nat) : spec_l01Number.f (j + 12) (mkB (DG 11)) = some (11, true) := by kernel_rfl
theorem ip_11 : Go.Lib.parseIntB 64 (DG 11) = .ok 11 := by kernel_rfl
theorem twelve {P : Nat → Prop} (h0 : P 0) (h1 : P 1) (h2 : P 2) (h3 : P 3) (h4 : P 4) (h5 : P 5) (h6 : P 6) (h7 : P 7) (h8 : P 8) (h9 : P 9) (h10 : P 10) (h11 : P 11) (p : Nat) (h : p ≤ 11) : P p := by
  have : p = 0 ∨ p = 1 ∨ p = 2 ∨ p = 3 ∨ p = 4 ∨ p = 5 ∨ p = 6 ∨ p = 7 ∨ p = 8 ∨ p = 9 ∨ p = 10 ∨ p = 11 := by omega
  rcases this with rfl | rfl | rfl | rfl | rfl | rfl | rfl | rfl | rfl | rfl | rfl | rfl <;> assumption
theorem dec_ev (p : Nat) (h : p ≤ 11) : Ev (fun k => spec_l01Dec.f k (p : Int)) (mkB (DG p)) := by
  refine ⟨4, fun k hk => ?_⟩
  obtain ⟨j, rfl⟩ : ∃ j, k = j + 4 := ⟨k - 4, by omega⟩
  exact twelve (P := fun p => spec_l01Dec.f (j + 4) (p : Int) = some (mkB (DG p))) (sd_0 j) (sd_1 j) (sd_2 j) (sd_3 j) (sd_4 j) (sd_5 j) (sd_6 j) (sd_7 j) (sd_8 j) (sd_9 j) (sd_10 j) (sd_11 j) p h
theorem num_ev (p : Nat) (h : p ≤ 11) : Ev (fun k => spec_l01Number.f k (mkB (DG p))) ((p : Int), true) := by
  refine ⟨12, fun k hk => ?_⟩
  obtain ⟨j, rfl⟩ : ∃ j, k = j + 12 := ⟨k - 12, by omega⟩
  exact twelve (P := fun p => spec_l01Number.f (j + 12) (mkB (DG p)) = some ((p : Int), true)) (sn_0 j) (sn_1 j) (sn_2 j) (sn_3 j) (sn_4 j) (sn_5 j) (sn_6 j) (sn_7 j) (sn_8 j) (sn_9 j) (sn_10 j) (sn_11 j) p h
theorem parse_val (p : Nat) (h : p ≤ 11) : Go.Lib.parseIntB 64 (DG p) = .ok (p : Int) :=
  twelve (P := fun p => Go.Lib.parseIntB 64 (DG p) = .ok (p : Int)) ip_0 ip_1 ip_2 ip_3 ip_4 ip_5 ip_6 ip_7 ip_8 ip_9 ip_10 ip_11 p h
theorem dg_facts (p : Nat) (h : p ≤ 11) : ((DG p).length = 1 ∨ (DG p).length = 2) ∧ (DG p).all (fun c => decide (c.toNat ≠ 32 ∧ c.toNat ≠ 45)) = true := by
  have := twelve (P := fun p => (decide ((DG p).length = 1 ∨ (DG p).length = 2) && (DG p).all (fun c => decide (c.toNat ≠ 32 ∧ c.toNat ≠ 45))) = true) (by kernel_rfl) (by kernel_rfl) (by kernel_rfl) (by kernel_rfl) (by kernel_rfl) (by kernel_rfl) (by kernel_rfl) (by kernel_rfl) (by kernel_rfl) (by kernel_rfl) (by kernel_rfl) (by kernel_rfl) p h
  rw [Bool.and_eq_true] at this
  exact ⟨of_decide_eq_true this.1, this.2⟩
theorem dg_noSp (p : Nat) (h : p ≤ 11) : noSp (DG p) := fun c hc => (of_decide_eq_true (List.all_eq_true.1 (dg_facts p h).2 c hc)).1
theorem tdiv_abs (x : Int) : (Int.tdiv x 10).natAbs = x.natAbs / 10 := by
  rw [Int.natAbs_tdiv]
  rfl
/-- The decimal form of every number is found. -/
theorem dec_ex_l (a : Int) (d : Nat) : ∀ (x : Int) (l : List Int), x.natAbs < 10 ^ d → -9223372036854775808 ≤ x → x ≤ 9223372036854775807 → l.length + d ≤ 100 → ∃ r, Ev (fun k => spec_l01Dec.l0 k a l x) r := by
  have fin : ∀ l : List Int, l.length ≤ 100 → ∃ r, Ev (fun k => spec_l01Dec.l0 k a l 0) r := by
    intro l hl
    by_cases h1 : (l.length : Int) = 0
    · refine ⟨(⟨#[48]⟩ : ByteArray), ev_succ ?_⟩
      simp only [spec_l01Dec.l0, if_true, if_pos h1]
      exact ev_const rfl
    · by_cases h2 : a < 0
      · refine ⟨(⟨#[45]⟩ : ByteArray) ++ strOfNums l, ev_succ ?_⟩
        simp only [spec_l01Dec.l0, if_true, if_neg h1, if_pos h2, strOfNums_size, if_pos (show 1 + l.length ≤ 9223372036854775807 by omega)]
        exact ev_const rfl
      · refine ⟨strOfNums l, ev_succ ?_⟩
        simp only [spec_l01Dec.l0, if_true, if_neg h1, if_neg h2]
        exact ev_const rfl
  induction d with
  | zero =>
    intro x l h0 h1 h2 h3
    obtain rfl : x = 0 := by
      rw [Nat.pow_zero] at h0
      omega
    exact fin l (by omega)
  | succ d ih =>
    intro x l h0 h1 h2 h3
    by_cases hx : x = 0
    · subst hx
      exact fin l (by omega)
    · have hq : (Int.tdiv x 10).natAbs < 10 ^ d := by
        rw [tdiv_abs]
        rw [Nat.pow_succ] at h0
        omega
      have hb : (Int.tdiv x 10).natAbs ≤ 922337203685477580 := by rw [tdiv_abs]; omega
      have hw : wrap64 (Int.tdiv x 10) = Int.tdiv x 10 := w64 (by omega) (by omega)
      by_cases hm : Int.tmod x 10 < 0
      · obtain ⟨r, hr⟩ := ih (Int.tdiv x 10) ([(wrap64 (48 + (wrap64 (-(Int.tmod x 10))))) % 256] ++ l) hq (by omega) (by omega) (by rw [List.length_append, List.length_singleton]; omega)
        refine ⟨r, ev_succ ?_⟩
        simp only [spec_l01Dec.l0, if_neg hx, if_pos hm, Option.bind_some, List.length_singleton, if_pos (show 1 + l.length < 140737488355328 by omega), hw]
        exact hr
      · obtain ⟨r, hr⟩ := ih (Int.tdiv x 10) ([(wrap64 (48 + (Int.tmod x 10))) % 256] ++ l) hq (by omega) (by omega) (by rw [List.length_append, List.length_singleton]; omega)
        refine ⟨r, ev_succ ?_⟩
        simp only [spec_l01Dec.l0, if_neg hx, if_neg hm, Option.bind_some, List.length_singleton, if_pos (show 1 + l.length < 140737488355328 by omega), hw]
        exact hr
theorem wrap_in (x : Int) : -9223372036854775808 ≤ wrap64 x ∧ wrap64 x ≤ 9223372036854775807 := by unfold wrap64; omega
theorem dec_ex (x : Int) (h1 : -9223372036854775808 ≤ x) (h2 : x ≤ 9223372036854775807) : ∃ r, Ev (fun k => spec_l01Dec.f k x) r :=
  dec_ex_l x 20 x [] (by have : (10 : Nat) ^ 20 = 100000000000000000000 := by decide
                         rw [this]; omega) h1 h2 (by simp)
/-- What is known of a number that is read: it is told with its own decimal form. -/
def Good (t : ByteArray) (r : Int × Bool) : Prop := r.2 = true → ∀ p : Nat, p ≤ 11 → r.1 = (p : Int) → t = mkB (DG p)
theorem digit_val (b : Int) : spec_l01Digit.f b = some (decide (48 ≤ b ∧ b ≤ 57)) := by
  unfold spec_l01Digit.f
  by_cases h : b ≥ 48
  · rw [if_pos h]
    congr 1
    rw [decide_eq_decide]
    omega
  · rw [if_neg h, decide_eq_false (fun e => h e.1)]
theorem good_dec (s : ByteArray) (x : Int) (h1 : -9223372036854775808 ≤ x) (h2 : x ≤ 9223372036854775807) : ∃ r : Int × Bool, Ev (fun k => (spec_l01Dec.f k x).bind fun t => if t.toList = s.toList then some (x, true) else some (0, false)) r ∧ Good s r := by
  obtain ⟨t, ht⟩ := dec_ex x h1 h2
  by_cases h : t.toList = s.toList
  · refine ⟨(x, true), Ev.bind ht (by simp only [if_pos h]; exact ev_const rfl), ?_⟩
    intro _ p hp hx
    have hx2 : x = (p : Int) := hx
    subst hx2
    rw [ev_uniq ht (dec_ev p hp), toList_inj] at h
    exact h.symm
  · exact ⟨(0, false), Ev.bind ht (by simp only [if_neg h]; exact ev_const rfl), fun h => by cases h⟩
theorem num_l (s t : ByteArray) (ht : t.size ≤ 18) (d : Nat) : ∀ (i : Nat) (x : Int), i ≤ t.size → t.size - i = d → -9223372036854775808 ≤ x → x ≤ 9223372036854775807 → ∃ r : Int × Bool, Ev (fun k => spec_l01Number.l0 k s t x i) r ∧ Good s r := by
  induction d with
  | zero =>
    intro i x hi hd h1 h2
    have hw := wrap_in (-x)
    by_cases h : (t.size : Int) < (s.size : Int)
    · obtain ⟨r, h3, h4⟩ := good_dec s (wrap64 (-x)) hw.1 hw.2
      refine ⟨r, ev_succ ?_, h4⟩
      simp only [spec_l01Number.l0, if_neg (show ¬ (i : Int) < (t.size : Int) by omega), if_pos h]
      exact h3
    · obtain ⟨r, h3, h4⟩ := good_dec s x h1 h2
      refine ⟨r, ev_succ ?_, h4⟩
      simp only [spec_l01Number.l0, if_neg (show ¬ (i : Int) < (t.size : Int) by omega), if_neg h]
      exact h3
  | succ d ih =>
    intro i x hi hd h1 h2
    have hw := wrap_in ((wrap64 (10 * x)) + (((bt t i) - 48) % 256))
    by_cases h : 48 ≤ bt t i ∧ bt t i ≤ 57
    · obtain ⟨r, h3, h4⟩ := ih (i + 1) (wrap64 ((wrap64 (10 * x)) + (((bt t i) - 48) % 256))) (by omega) (by omega) hw.1 hw.2
      refine ⟨r, ev_succ ?_, h4⟩
      clear hw
      simp only [spec_l01Number.l0, if_pos (show (i : Int) < (t.size : Int) by omega), if_pos (show (0 : Int) ≤ (i : Int) by omega), digit_val, Option.bind_some, decide_eq_true h, if_true, w64 (x := (i : Int) + 1) (by omega) (by omega)]
      exact h3
    · refine ⟨(0, false), ev_succ ?_, fun h => by cases h⟩
      clear hw
      simp only [spec_l01Number.l0, if_pos (show (i : Int) < (t.size : Int) by omega), if_pos (show (0 : Int) ≤ (i : Int) by omega), digit_val, Option.bind_some, decide_eq_false h, Bool.false_eq_true, if_false]
      exact ev_const rfl
theorem num_j1 (s t : ByteArray) : ∃ r : Int × Bool, Ev (fun k => spec_l01Number.j1 k s t) r ∧ Good s r := by
  by_cases h1 : (t.size : Int) < 1
  · refine ⟨(0, false), ev_succ ?_, fun h => by cases h⟩
    simp only [spec_l01Number.j1, if_pos h1]
    apply ev_succ
    simp only [spec_l01Number.j2, if_true]
    exact ev_const rfl
  · by_cases h2 : (t.size : Int) > 18
    · refine ⟨(0, false), ev_succ ?_, fun h => by cases h⟩
      simp only [spec_l01Number.j1, if_neg h1, decide_eq_true h2]
      apply ev_succ
      simp only [spec_l01Number.j2, if_true]
      exact ev_const rfl
    · obtain ⟨r, h3, h4⟩ := num_l s t (by omega) t.size 0 0 (by omega) (by omega) (by omega) (by omega)
      refine ⟨r, ev_succ ?_, h4⟩
      simp only [spec_l01Number.j1, if_neg h1, decide_eq_false h2]
      apply ev_succ
      simp only [spec_l01Number.j2, Bool.false_eq_true, if_false]
      exact h3
theorem num_any (s : ByteArray) : ∃ r : Int × Bool, Ev (fun k => spec_l01Number.f k s) r ∧ Good s r := by
  have j0 : ∀ b : Bool, (b = true → 1 ≤ s.size) → ∃ r : Int × Bool, Ev (fun k => spec_l01Number.j0 k s s b) r ∧ Good s r := by
    intro b hb
    cases b with
    | true =>
      obtain ⟨r, h3, h4⟩ := num_j1 s (s.extract 1 s.size)
      refine ⟨r, ev_succ ?_, h4⟩
      have := hb rfl
      simp only [spec_l01Number.j0, if_true, if_pos (show 1 ≤ (s.size : Int) by omega)]
      exact h3
    | false =>
      obtain ⟨r, h3, h4⟩ := num_j1 s s
      refine ⟨r, ev_succ ?_, h4⟩
      simp only [spec_l01Number.j0, Bool.false_eq_true, if_false]
      exact h3
  unfold spec_l01Number.f
  by_cases h : s.toList = ([] : List UInt8)
  · simp only [if_pos h]
    exact j0 false (fun h => by cases h)
  · have hp : 0 < s.size := by
      rcases Nat.eq_zero_or_pos s.size with h0 | h0
      · exfalso
        apply h
        rw [ByteArray.toList_eq]
        exact List.length_eq_zero_iff.1 (by rw [Array.length_toList]; exact h0)
      · exact h0
    simp only [if_neg h, if_pos (show 0 < (s.size : Int) by omega)]
    exact j0 _ (fun _ => hp)
/-! The program's numbers -/
def trimL (c : UInt8) : List UInt8 → List UInt8
  | [] => []
  | x :: r => if x = c then r else x :: r
theorem trimL_length (c : UInt8) : ∀ a : List UInt8, (trimL c a).length ≤ a.length
  | [] => Nat.le_refl _
  | x :: r => by
    show (if x = c then r else x :: r).length ≤ (x :: r).length
    split
    · rw [List.length_cons]; omega
    · exact Nat.le_refl _
theorem trim_val (c : UInt8) (a : List UInt8) : strings_TrimPrefix.f (mkB a) (⟨#[c]⟩ : ByteArray) = some (mkB (trimL c a)) := by
  have h1 : (⟨#[c]⟩ : ByteArray).size = 1 := rfl
  have h2 : (⟨#[c]⟩ : ByteArray).toList = [c] := mkB_toList [c]
  unfold strings_TrimPrefix.f stringslite_TrimPrefix.f stringslite_HasPrefix.f
  simp only [h1, h2, mkB_size, mkB_extract, mkB_toList]
  cases a with
  | nil =>
    rw [if_neg (by simp)]
    simp [trimL]
  | cons x r =>
    rw [if_pos (by simp; omega), if_pos (by omega), if_pos (by simp; omega)]
    have e : (List.take (((1 : Nat) : Int).toNat - 0) (List.drop 0 (x :: r)) == [c]) = decide (x = c) := by
      rw [Bool.eq_iff_iff, beq_iff_eq, decide_eq_true_iff]
      simp
    rw [e]
    by_cases hx : x = c
    · simp [hx, trimL]
      omega
    · simp [hx, trimL]
theorem fmt_val (v : Int) (h1 : -9223372036854775808 ≤ v) (h2 : v ≤ 9223372036854775807) : impl_Decimal.f v = some (mkB (Go.Lib.itoa v)) := by
  unfold impl_Decimal.f strconv_FormatInt.f
  rw [if_pos ⟨rfl, h1, h2⟩]
  rfl
theorem readD_any (a : List UInt8) (ha : a.length ≤ 1048576) : ∃ r : Int × Bool, impl_ReadDecimal.f (mkB a) = some r ∧ Good (mkB a) r := by
  unfold impl_ReadDecimal.f
  rw [if_pos (by rw [mkB_size]; omega)]
  show ∃ r : Int × Bool, (match Go.Lib.parseIntB 64 a with | .ok v => (impl_Decimal.f v).bind fun t => (if t.toList = (mkB a).toList then ((strings_TrimPrefix.f (mkB a) (⟨#[45]⟩ : ByteArray)).bind fun u => if 18 < (u.size : Int) then some (0, false) else some (v, true)) else some (0, false)) | _ => some (0, false)) = some r ∧ Good (mkB a) r
  cases hp : Go.Lib.parseIntB 64 a with
  | «syntax» => exact ⟨(0, false), rfl, fun h => by cases h⟩
  | range => exact ⟨(0, false), rfl, fun h => by cases h⟩
  | ok v =>
    have hb := Go.Lib.parseIntB_bounds hp
    have e63 : (((2 : Nat) ^ (64 - 1) : Nat) : Int) = 9223372036854775808 := by decide
    rw [e63] at hb
    simp only [fmt_val v hb.1 (by omega), Option.bind_some, mkB_toList, trim_val]
    by_cases h : Go.Lib.itoa v = a
    · rw [if_pos h]
      by_cases h2 : 18 < ((mkB (trimL 45 a)).size : Int)
      · rw [if_pos h2]
        exact ⟨(0, false), rfl, fun h => by cases h⟩
      · rw [if_neg h2]
        refine ⟨(v, true), rfl, ?_⟩
        intro _ p hp2 hv
        have hv2 : v = (p : Int) := hv
        rw [← h, hv2, Go.Lib.itoa_nonneg]
    · rw [if_neg h]
      exact ⟨(0, false), rfl, fun h => by cases h⟩
theorem readD_val (p : Nat) (h : p ≤ 11) : impl_ReadDecimal.f (mkB (DG p)) = some ((p : Int), true) := by
  obtain ⟨hl, hc⟩ := dg_facts p h
  unfold impl_ReadDecimal.f
  rw [if_pos (by rw [mkB_size]; omega)]
  show (match Go.Lib.parseIntB 64 (DG p) with | .ok v => (impl_Decimal.f v).bind fun t => (if t.toList = (mkB (DG p)).toList then ((strings_TrimPrefix.f (mkB (DG p)) (⟨#[45]⟩ : ByteArray)).bind fun u => if 18 < (u.size : Int) then some (0, false) else some (v, true)) else some (0, false)) | _ => some (0, false)) = some ((p : Int), true)
  rw [parse_val p h]
  have ht : trimL 45 (DG p) = DG p := by
    cases hd : DG p with
    | nil => rfl
    | cons x r =>
      rw [hd] at hc
      have := (of_decide_eq_true (List.all_eq_true.1 hc x (by simp))).2
      show (if x = 45 then r else x :: r) = x :: r
      rw [if_neg (fun e => this (by rw [e]; rfl))]
  show (impl_Decimal.f (p : Int)).bind (fun t => (if t.toList = (mkB (DG p)).toList then ((strings_TrimPrefix.f (mkB (DG p)) (⟨#[45]⟩ : ByteArray)).bind fun u => if 18 < (u.size : Int) then some (0, false) else some ((p : Int), true)) else some (0, false))) = some ((p : Int), true)
  rw [fmt_val _ (by omega) (by omega), Option.bind_some, Go.Lib.itoa_nonneg, if_pos rfl, trim_val, Option.bind_some, ht, if_neg (by rw [mkB_size]; omega)]
/-! Words -/
def rdW (w : List UInt8) : ByteArray := if w = [45] then (⟨#[]⟩ : ByteArray) else mkB w
theorem srd_val (w : List UInt8) : spec_l13Read.f (mkB w) = some (rdW w) := by
  unfold spec_l13Read.f rdW
  rw [mkB_toList]
  split <;> rfl
theorem ird_val (w : List UInt8) : impl_readEngraved.f (mkB w) = some (rdW w) := by
  unfold impl_readEngraved.f rdW
  rw [mkB_toList]
  split <;> rfl
def wordT (s : ByteArray) : ByteArray := if s.toList = ([] : List UInt8) then (⟨#[45]⟩ : ByteArray) else s
theorem iword_val (s : ByteArray) : impl_engravedText.f s = some (wordT s) := by unfold impl_engravedText.f wordT; split <;> rfl
theorem word_size (s : ByteArray) (h : Engr s) : (wordT s).size ≤ 12 := by
  unfold wordT
  split
  · exact of_decide_eq_true (by kernel_rfl)
  · rcases h with h | h
    · omega
    · exact h.2.1
/-- The word of a text that is read from a word. -/
def wd (w : List UInt8) : List UInt8 := if w = [] then [45] else w
theorem word_rd (w : List UInt8) : wordT (rdW w) = mkB (wd w) := by
  unfold wordT rdW wd
  by_cases h : w = [45]
  · subst h
    rw [if_pos rfl, if_pos (show (⟨#[]⟩ : ByteArray).toList = ([] : List UInt8) by rw [ByteArray.toList_eq]), if_neg (show ¬ ([45] : List UInt8) = [] by simp)]
    rfl
  · rw [if_neg h, mkB_toList]
    split
    · rfl
    · rfl
theorem wd_ne (w : List UInt8) : wd w ≠ [] := by
  unfold wd
  split
  · simp
  · assumption
theorem wd_noSp (w : List UInt8) (h : noSp w) : noSp (wd w) := by
  unfold wd
  split
  · intro c hc
    rw [List.mem_singleton.1 hc]
    decide
  · exact h
theorem text_val (p : Nat) (hp : p ≤ 11) (b d : List UInt8) (h : EditOk ⟨(p : Int), rdW b, rdW d⟩) : impl_EditText.f (p : Int) (rdW b) (rdW d) = some (mkB (joinA [35 :: DG p, wd b, [62], wd d])) := by
  have he : impl_isEdit.f (p : Int) (rdW b) (rdW d) = some true := by
    have := impl_edit ⟨(p : Int), rdW b, rdW d⟩
    rw [decide_eq_true h] at this
    exact this
  have zb : (mkB (wd b)).size ≤ 12 := by rw [← word_rd]; exact word_size _ h.2.1
  have zd : (mkB (wd d)).size ≤ 12 := by rw [← word_rd]; exact word_size _ h.2.2.1
  have hl : (mkB (DG p)).size ≤ 2 := by
    have := (dg_facts p hp).1
    rw [mkB_size]
    omega
  have q1 : (⟨#[35]⟩ : ByteArray).size = 1 := rfl
  have q2 : (⟨#[32]⟩ : ByteArray).size = 1 := rfl
  have q3 : (⟨#[32, 62, 32]⟩ : ByteArray).size = 3 := rfl
  have hf : impl_Decimal.f (p : Int) = some (mkB (DG p)) := by
    rw [fmt_val _ (by omega) (by omega), Go.Lib.itoa_nonneg]
  unfold impl_EditText.f
  simp only [he, hf, iword_val, Option.bind_some, if_true, ByteArray.size_append, q1, q2, q3, if_pos (show 1 + (mkB (DG p)).size ≤ 9223372036854775807 by omega), if_pos (show 1 + (mkB (DG p)).size + 1 ≤ 9223372036854775807 by omega), if_pos (show 1 + (mkB (DG p)).size + 1 + (mkB (wd b)).size ≤ 9223372036854775807 by omega), if_pos (show 1 + (mkB (DG p)).size + 1 + (mkB (wd b)).size + 3 ≤ 9223372036854775807 by omega), if_pos (show 1 + (mkB (DG p)).size + 1 + (mkB (wd b)).size + 3 + (mkB (wd d)).size ≤ 9223372036854775807 by omega), word_rd]
  rw [show (⟨#[35]⟩ : ByteArray) = mkB [35] from rfl, show (⟨#[32]⟩ : ByteArray) = mkB [32] from rfl, show (⟨#[32, 62, 32]⟩ : ByteArray) = mkB [32, 62, 32] from rfl, mkB_append, mkB_append, mkB_append, mkB_append, mkB_append]
  congr 2
  simp [joinA]
abbrev Res := Int × ByteArray × ByteArray × Bool
def zeroR : Res := (0, (⟨#[]⟩ : ByteArray), (⟨#[]⟩ : ByteArray), false)
def resOk (p : Nat) (b d : List UInt8) : Res := if EditOk ⟨(p : Int), rdW b, rdW d⟩ then ((p : Int), rdW b, rdW d, true) else zeroR
theorem rd0 (a b c d : List UInt8) : rdOf ByteArray.empty ([a, b, c, d].map mkB) 0 = mkB a := rfl
theorem rd1 (a b c d : List UInt8) : rdOf ByteArray.empty ([a, b, c, d].map mkB) 1 = mkB b := rfl
theorem rd2 (a b c d : List UInt8) : rdOf ByteArray.empty ([a, b, c, d].map mkB) 2 = mkB c := rfl
theorem rd3 (a b c d : List UInt8) : rdOf ByteArray.empty ([a, b, c, d].map mkB) 3 = mkB d := rfl
theorem len4 (a b c d : List UInt8) : ([a, b, c, d].map mkB).length = 4 := rfl
theorem l35 {c : UInt8} : ((c.toNat : Int) = 35) ↔ c = 35 := ⟨fun h => UInt8.toNat_inj.1 (by show c.toNat = 35; omega), fun h => by rw [h]; rfl⟩
/-- Behind the tests: the number is read, the edit is checked. -/
theorem sj_num (a b c d : List UInt8) (t : List UInt8) (ha : a = 35 :: t) : ∃ r : Res, Ev (fun k => spec_ReadEdit.j0 k ([a, b, c, d].map mkB) false) r ∧ (r = zeroR ∨ ∃ p, p ≤ 11 ∧ t = DG p ∧ r = resOk p b d) ∧ (∀ p, p ≤ 11 → t = DG p → r = resOk p b d) := by
  subst ha
  have hx : (mkB (35 :: t)).extract 1 (mkB (35 :: t)).size = mkB t := by
    rw [mkB_extract, mkB_size]
    congr 1
    simp
  have hs : ((mkB (35 :: t)).size : Int) = (t.length : Int) + 1 := by rw [mkB_size, List.length_cons]; omega
  obtain ⟨⟨n, ok⟩, hn, hg⟩ := num_any (mkB t)
  have main : ∀ r : Res, (if ok = true then (if EditOk ⟨n, rdW b, rdW d⟩ then ((n, rdW b, rdW d, true) : Res) else zeroR) else zeroR) = r → Ev (fun k => spec_ReadEdit.j0 k ([35 :: t, b, c, d].map mkB) false) r := by
    intro r hr
    apply ev_succ
    simp only [spec_ReadEdit.j0, Bool.false_eq_true, if_false, len4, rd0, rd1, rd3, if_pos (show (0 : Int) < ((4 : Nat) : Int) by omega), if_pos (show (1 : Int) < ((4 : Nat) : Int) by omega), if_pos (show (3 : Int) < ((4 : Nat) : Int) by omega), if_pos (show 1 ≤ ((mkB (35 :: t)).size : Int) by omega), hx, srd_val, Option.bind_some]
    refine Ev.bind hn ?_
    cases ok with
    | false =>
      simp only [Bool.false_eq_true, if_false] at hr ⊢
      exact ev_const (congrArg some hr)
    | true =>
      simp only [if_true] at hr ⊢
      refine Ev.bind (spec_edit ⟨n, rdW b, rdW d⟩) ?_
      by_cases he : EditOk ⟨n, rdW b, rdW d⟩
      · rw [if_pos he] at hr
        simp only [decide_eq_true he, if_true]
        exact ev_const (congrArg some hr)
      · rw [if_neg he] at hr
        simp only [decide_eq_false he, Bool.false_eq_true, if_false]
        exact ev_const (congrArg some hr)
  refine ⟨_, main _ rfl, ?_, ?_⟩
  · cases ok with
    | false => exact .inl rfl
    | true =>
      rw [if_pos rfl]
      by_cases he : EditOk ⟨n, rdW b, rdW d⟩
      · rw [if_pos he]
        obtain ⟨m, rfl⟩ := Int.eq_ofNat_of_zero_le he.1.1
        have hm : m ≤ 11 := by have := he.1.2; show m ≤ 11; have h9 : (m : Int) ≤ 11 := this; omega
        refine .inr ⟨m, hm, mkB_inj (hg rfl m hm rfl), ?_⟩
        unfold resOk
        rw [if_pos he]
      · rw [if_neg he]
        exact .inl rfl
  · intro p hp ht
    subst ht
    have := ev_uniq hn (num_ev p hp)
    obtain ⟨rfl, rfl⟩ := Prod.mk.inj this
    rw [if_pos rfl]
    rfl
theorem sj_true (ws : List ByteArray) : Ev (fun k => spec_ReadEdit.j0 k ws true) zeroR := by
  apply ev_succ
  simp only [spec_ReadEdit.j0, if_true]
  exact ev_const rfl
/-- The text is that of an edit: which place, which words. -/
def isF (W : List (List UInt8)) (p : Nat) (b d : List UInt8) : Prop := p ≤ 11 ∧ W = [35 :: DG p, b, [62], d] ∧ b ≠ [] ∧ d ≠ []
theorem spec_read (s : ByteArray) (hs : s.size ≤ 1048576) : ∃ r : Res, Ev (fun k => spec_ReadEdit.f k s) r ∧ (r = zeroR ∨ ∃ p b d, isF (splitA [] s.data.toList) p b d ∧ r = resOk p b d) ∧ (∀ p b d, isF (splitA [] s.data.toList) p b d → r = resOk p b d) := by
  have h0 := ssplit_ev s hs
  generalize splitA [] s.data.toList = W at h0
  by_cases h4 : W.length = 4
  · obtain ⟨a, b, c, d, rfl⟩ : ∃ a b c d, W = [a, b, c, d] := by
      match W, h4 with
      | [a, b, c, d], _ => exact ⟨a, b, c, d, rfl⟩
    have zero : ∀ (hno : ¬ (∃ t, a = 35 :: t ∧ 1 ≤ t.length ∧ b ≠ [] ∧ c = [62] ∧ d ≠ [])), Ev (fun k => spec_ReadEdit.f k s) zeroR → ∃ r : Res, Ev (fun k => spec_ReadEdit.f k s) r ∧ (r = zeroR ∨ ∃ p b' d', isF [a, b, c, d] p b' d' ∧ r = resOk p b' d') ∧ (∀ p b' d', isF [a, b, c, d] p b' d' → r = resOk p b' d') := by
      intro hno hE
      refine ⟨_, hE, .inl rfl, ?_⟩
      rintro p b' d' ⟨hp, hW, hb, hd⟩
      exfalso
      injection hW with e1 hW
      injection hW with e2 hW
      injection hW with e3 hW
      injection hW with e4 hW
      subst e1 e2 e3 e4
      have := (dg_facts p hp).1
      exact hno ⟨DG p, rfl, by omega, hb, rfl, hd⟩
    have hd1 : (1 : Int) < ((4 : Nat) : Int) := by omega
    have start : ∀ r : Res, Ev (fun k => (if ((mkB a).size : Int) < 2 then (spec_ReadEdit.j0 k ([a, b, c, d].map mkB) true) else (if 0 < ((mkB a).size : Int) then (if (bt (mkB a) 0) = 35 then (if (mkB b).toList = ([] : List UInt8) then (spec_ReadEdit.j0 k ([a, b, c, d].map mkB) true) else (if (mkB c).toList = ([62] : List UInt8) then (spec_ReadEdit.j0 k ([a, b, c, d].map mkB) ((mkB d).toList == ([] : List UInt8))) else (spec_ReadEdit.j0 k ([a, b, c, d].map mkB) true))) else (spec_ReadEdit.j0 k ([a, b, c, d].map mkB) true)) else (none)))) r → Ev (fun k => spec_ReadEdit.f k s) r := by
      intro r hr
      unfold spec_ReadEdit.f
      refine Ev.bind h0 ?_
      simp only [len4, rd0, rd1, rd2, rd3, if_pos (show ((4 : Nat) : Int) = 4 by omega), if_pos (show (0 : Int) < ((4 : Nat) : Int) by omega), if_pos (show (1 : Int) < ((4 : Nat) : Int) by omega), if_pos (show (2 : Int) < ((4 : Nat) : Int) by omega), if_pos (show (3 : Int) < ((4 : Nat) : Int) by omega)]
      exact hr
    cases a with
    | nil =>
      refine zero (fun ⟨t, ht, _⟩ => by cases ht) (start _ ?_)
      simp only [mkB_size, List.length_nil, if_pos (show ((0 : Nat) : Int) < 2 by omega)]
      exact sj_true _
    | cons x t =>
      have hbt : bt (mkB (x :: t)) 0 = (x.toNat : Int) := by
        have := bt_at (mkB (x :: t)) 0 (by rw [mkB_size]; simp)
        exact this
      by_cases c1 : ((x :: t).length : Int) < 2
      · refine zero (fun ⟨t', ht, hl, _⟩ => ?_) (start _ ?_)
        · injection ht with e1 e2
          subst e2
          rw [List.length_cons] at c1
          omega
        · simp only [mkB_size, if_pos c1]
          exact sj_true _
      · by_cases c2 : (x.toNat : Int) = 35
        · have hx := l35.1 c2
          by_cases c3 : b = []
          · refine zero (fun ⟨t', ht, hl, hb, _⟩ => hb c3) (start _ ?_)
            simp only [mkB_size, if_neg c1, if_pos (show 0 < ((x :: t).length : Int) by omega), hbt, if_pos c2, mkB_toList, if_pos c3]
            exact sj_true _
          · by_cases c4 : c = [62]
            · by_cases c5 : d = []
              · refine zero (fun ⟨t', ht, hl, hb, hc, hd⟩ => hd c5) (start _ ?_)
                simp only [mkB_size, if_neg c1, if_pos (show 0 < ((x :: t).length : Int) by omega), hbt, if_pos c2, mkB_toList, if_neg c3, if_pos c4, beq_iff_eq.2 c5]
                exact sj_true _
              · obtain ⟨r, hr, h1, h2⟩ := sj_num (x :: t) b c d t (by rw [hx])
                refine ⟨r, start _ ?_, ?_, ?_⟩
                · simp only [mkB_size, if_neg c1, if_pos (show 0 < ((x :: t).length : Int) by omega), hbt, if_pos c2, mkB_toList, if_neg c3, if_pos c4, beq_eq_false_iff_ne.2 c5]
                  exact hr
                · rcases h1 with h1 | ⟨p, hp, ht, h1⟩
                  · exact .inl h1
                  · exact .inr ⟨p, b, d, ⟨hp, by rw [hx, ht, c4], c3, c5⟩, h1⟩
                · rintro p b' d' ⟨hp, hW, hb, hd⟩
                  injection hW with e1 hW
                  injection hW with e2 hW
                  injection hW with e3 hW
                  injection hW with e4 hW
                  injection e1 with _ e1
                  subst e2 e4
                  exact h2 p hp e1
            · refine zero (fun ⟨t', ht, hl, hb, hc, hd⟩ => c4 hc) (start _ ?_)
              simp only [mkB_size, if_neg c1, if_pos (show 0 < ((x :: t).length : Int) by omega), hbt, if_pos c2, mkB_toList, if_neg c3, if_neg c4]
              exact sj_true _
        · refine zero (fun ⟨t', ht, hl, _⟩ => ?_) (start _ ?_)
          · injection ht with e1 e2
            exact c2 (l35.2 e1)
          · simp only [mkB_size, if_neg c1, if_pos (show 0 < ((x :: t).length : Int) by omega), hbt, if_neg c2]
            exact sj_true _
  · refine ⟨zeroR, ?_, .inl rfl, ?_⟩
    · unfold spec_ReadEdit.f
      refine Ev.bind h0 ?_
      simp only [List.length_map, if_neg (show ¬ (W.length : Int) = 4 by omega)]
      exact sj_true _
    · rintro p b d ⟨_, hW, _, _⟩
      exfalso
      apply h4
      rw [hW]
      rfl
theorem impl_read (s : ByteArray) (hs : s.size ≤ 1048576) : ∃ r : Res, impl_ReadEdit.f s = some r ∧ (r = zeroR ∨ ∃ p b d, isF (splitA [] s.data.toList) p b d ∧ r = resOk p b d) ∧ (∀ p b d, isF (splitA [] s.data.toList) p b d → r = resOk p b d) := by
  have h0 := lsplit_val s hs
  obtain ⟨hj, hw⟩ := splitA_join s.data.toList [] (fun c hc => by cases hc)
  rw [List.nil_append] at hj
  have hS : ∀ l : List UInt8, (mkB l = s) ↔ l = s.data.toList := fun l => ⟨fun h => by rw [← h]; rfl, fun h => by rw [h, mkB_of]⟩
  have hlen : ∀ w ∈ splitA [] s.data.toList, w.length ≤ 1048576 := by
    have jl : ∀ ws : List (List UInt8), ∀ w ∈ ws, w.length ≤ (joinA ws).length := by
      intro ws
      induction ws with
      | nil => intro w hw; cases hw
      | cons v ws ih =>
        intro w hw
        cases ws with
        | nil =>
          rw [List.mem_singleton.1 hw]
          exact Nat.le_refl _
        | cons u us =>
          show w.length ≤ (v ++ (32 :: joinA (u :: us))).length
          rw [List.length_append, List.length_cons]
          rcases List.mem_cons.1 hw with rfl | hw
          · omega
          · have := ih w hw
            omega
    intro w hw2
    have h1 := jl _ w hw2
    rw [hj] at h1
    have h2 : s.data.toList.length = s.size := by rw [← mkB_size, mkB_of]
    omega
  have four : ∀ a b c d, noSp a → noSp b → noSp c → noSp d → joinA [a, b, c, d] = s.data.toList → splitA [] s.data.toList = [a, b, c, d] := by
    intro a b c d ha hb hc hd e
    rw [← e]
    exact splitA_four a b c d ha hb hc hd
  generalize splitA [] s.data.toList = W at h0 hj hw hlen four
  by_cases h4 : W.length = 4
  · obtain ⟨a, b, c, d, rfl⟩ : ∃ a b c d, W = [a, b, c, d] := by
      match W, h4 with
      | [a, b, c, d], _ => exact ⟨a, b, c, d, rfl⟩
    obtain ⟨⟨n, ok⟩, hn, hg⟩ := readD_any (trimL 35 a) (by
      have h1 := hlen a (by simp)
      have h2 := trimL_length 35 a
      omega)
    have hf : impl_ReadEdit.f s = some (if ok = true then (if EditOk ⟨n, rdW b, rdW d⟩ then (if joinA [35 :: DG n.toNat, wd b, [62], wd d] = s.data.toList then ((n, rdW b, rdW d, true) : Res) else zeroR) else zeroR) else zeroR) := by
      unfold impl_ReadEdit.f
      rw [h0]
      simp only [Option.bind_some, len4, rd0, rd1, rd3, if_pos (show ((4 : Nat) : Int) = 4 by omega), if_pos (show (0 : Int) < ((4 : Nat) : Int) by omega), if_pos (show (1 : Int) < ((4 : Nat) : Int) by omega), if_pos (show (3 : Int) < ((4 : Nat) : Int) by omega), trim_val, hn, ird_val]
      cases ok with
      | false => simp only [Bool.false_eq_true, if_false]; rfl
      | true =>
        simp only [if_true]
        have hE := impl_edit ⟨n, rdW b, rdW d⟩
        by_cases he : EditOk ⟨n, rdW b, rdW d⟩
        · rw [decide_eq_true he] at hE
          have hE2 : impl_isEdit.f n (rdW b) (rdW d) = some true := hE
          obtain ⟨m, rfl⟩ := Int.eq_ofNat_of_zero_le he.1.1
          have hm : m ≤ 11 := by have h9 : (m : Int) ≤ 11 := he.1.2; omega
          simp only [hE2, Option.bind_some, if_true, text_val m hm b d he, if_pos he, Int.toNat_natCast]
          by_cases hq : joinA [35 :: DG m, wd b, [62], wd d] = s.data.toList
          · rw [if_pos hq, if_pos (by rw [hq, mkB_of])]
          · rw [if_neg hq, if_neg (fun e => hq ((hS _).1 (toList_inj.1 e)))]
            rfl
        · rw [decide_eq_false he] at hE
          have hE2 : impl_isEdit.f n (rdW b) (rdW d) = some false := hE
          simp only [hE2, Option.bind_some, Bool.false_eq_true, if_false, if_neg he]
          rfl
    refine ⟨_, hf, ?_, ?_⟩
    · cases ok with
      | false => exact .inl rfl
      | true =>
        rw [if_pos rfl]
        by_cases he : EditOk ⟨n, rdW b, rdW d⟩
        · rw [if_pos he]
          obtain ⟨m, rfl⟩ := Int.eq_ofNat_of_zero_le he.1.1
          have hm : m ≤ 11 := by have h9 : (m : Int) ≤ 11 := he.1.2; omega
          rw [Int.toNat_natCast]
          by_cases hq : joinA [35 :: DG m, wd b, [62], wd d] = s.data.toList
          · rw [if_pos hq]
            have h35 : noSp (35 :: DG m) := fun c hc => by
              rcases List.mem_cons.1 hc with rfl | hc
              · decide
              · exact dg_noSp m hm c hc
            have h62 : noSp [62] := fun c hc => by rw [List.mem_singleton.1 hc]; decide
            have e := four _ _ _ _ h35 (wd_noSp b (hw b (by simp))) h62 (wd_noSp d (hw d (by simp))) hq
            injection e with e1 e
            injection e with e2 e
            injection e with e3 e
            injection e with e4 e
            have nb : b ≠ [] := fun h => wd_ne b (by rw [← e2]; exact h)
            have nd : d ≠ [] := fun h => wd_ne d (by rw [← e4]; exact h)
            refine .inr ⟨m, b, d, ⟨hm, by rw [e1, e3], nb, nd⟩, ?_⟩
            unfold resOk
            rw [if_pos he]
          · rw [if_neg hq]
            exact .inl rfl
        · rw [if_neg he]
          exact .inl rfl
    · rintro p b' d' ⟨hp, hW, hb, hd⟩
      injection hW with e1 hW
      injection hW with e2 hW
      injection hW with e3 hW
      injection hW with e4 hW
      subst e1 e2 e3 e4
      have ht : trimL 35 (35 :: DG p) = DG p := by
        show (if (35 : UInt8) = 35 then DG p else 35 :: DG p) = DG p
        rw [if_pos rfl]
      rw [ht, readD_val p hp] at hn
      obtain ⟨rfl, rfl⟩ := Prod.mk.inj (Option.some.inj hn)
      rw [if_pos rfl]
      unfold resOk
      by_cases he : EditOk ⟨(p : Int), rdW b, rdW d⟩
      · rw [if_pos he, if_pos he, Int.toNat_natCast]
        have ew : ∀ w : List UInt8, w ≠ [] → wd w = w := fun w h => by unfold wd; rw [if_neg h]
        rw [ew b hb, ew d hd, if_pos hj]
      · rw [if_neg he, if_neg he]
  · refine ⟨zeroR, ?_, .inl rfl, ?_⟩
    · unfold impl_ReadEdit.f
      rw [h0]
      simp only [Option.bind_some, List.length_map, if_neg (show ¬ (W.length : Int) = 4 by omega)]
      rfl
    · rintro p b d ⟨_, hW, _, _⟩
      exfalso
      apply h4
      rw [hW]
      rfl
theorem FnExactReadEdit : laws_FnExactReadEdit.Pure := by
  intro a ha
  apply Ev.rounds
  unfold laws_FnExactReadEdit.f
  by_cases h : (a.size : Int) > 1048576
  · simp only [if_pos h]
    exact ev_const rfl
  · simp only [if_neg h]
    obtain ⟨r1, s1, s2, s3⟩ := spec_read a (by omega)
    obtain ⟨r2, i1, i2, i3⟩ := impl_read a (by omega)
    have e : r2 = r1 := by
      rcases s2 with s2 | ⟨p, b, d, hF, s2⟩
      · rcases i2 with i2 | ⟨p, b, d, hF, i2⟩
        · rw [s2, i2]
        · rw [i2, s3 p b d hF]
      · rw [s2, i3 p b d hF]
    subst e
    refine Ev.bind s1 ?_
    simp only [i1, Option.bind_some, laws_eqEdit.f, if_true, bne_self_eq_false, Bool.false_eq_true, if_false]
    exact ev_const rfl

end Go.Proofs.YtdodbfialiggjaaDoor.Pure
