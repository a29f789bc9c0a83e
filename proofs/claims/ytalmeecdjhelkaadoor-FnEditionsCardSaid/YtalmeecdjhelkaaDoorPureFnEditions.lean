/- FnEditions: for all bytes: over drawn editions, names, years and numbers the program's functions and the reference's come to the same; an edition has the names just if nothing differs, the edition of a year is not later and the next one is, names that are new were not shown before, names that are old are not shown, and no earlier edition shows a name that is first shown later. -/
import Derived.Test.YtalmeecdjhelkaaDoorStatFnEditions
namespace Go.Proofs.YtalmeecdjhelkaaDoor.Pure
open Go.RowKit Go.Proofs.YtalmeecdjhelkaaDoor.PFnEditions Go.Proofs.YtalmeecdjhelkaaDoorW.PrintWords Go.Proofs.YtalmeecdjhelkaaDoorW.PrintLast Go.Proofs.YtalmeecdjhelkaaDoorW.PrintMore
set_option linter.unusedVariables false
set_option linter.unusedSimpArgs false
theorem w64 {x : Int} (h : -9223372036854775808 ≤ x) (h2 : x ≤ 9223372036854775807) : wrap64 x = x := by unfold wrap64; omega
theorem tmod_nn {a b : Int} (h : 0 ≤ a) : Int.tmod a b = a % b := Int.tmod_eq_emod_of_nonneg h
theorem ev_succ {α : Type} {g : Nat → Option α} {r : α} (h : Ev (fun k => g (k + 1)) r) : Ev g r := Ev.step (fun _ => rfl) h
theorem ev_const {α : Type} {g : Option α} {r : α} (h : g = some r) : Ev (fun _ => g) r := ⟨0, fun _ _ => h⟩
theorem toList_inj {a b : ByteArray} : a.toList = b.toList ↔ a = b := by
  constructor
  · intro h
    rw [ByteArray.toList_eq, ByteArray.toList_eq] at h
    obtain ⟨⟨x⟩⟩ := a
    obtain ⟨⟨y⟩⟩ := b
    simp at h
    rw [h]
  · intro h; rw [h]
theorem rdOf_at (d : ByteArray) (l : List ByteArray) (i : Nat) (h : i < l.length) : rdOf d l (i : Int) = l[i] := by
  unfold rdOf
  rw [Int.toNat_natCast, List.getD_eq_getElem?_getD, List.getElem?_eq_getElem h]
  rfl

/-- A byte that a name may have. -/
def nameC (c : Int) : Prop := ((97 : Int) ≤ c ∧ c ≤ 122) ∨ ((48 : Int) ≤ c ∧ c ≤ 57) ∨ c = 45
instance instNameC (c : Int) : Decidable (nameC c) := by unfold nameC; infer_instance
/-- A name. -/
def IsNm (s : ByteArray) : Prop := 1 ≤ s.size ∧ s.size ≤ 12 ∧ ((97 : Int) ≤ bt s 0 ∧ bt s 0 ≤ 122) ∧ ∀ i, i < s.size → nameC (bt s (i : Int))
instance instIsNm (s : ByteArray) : Decidable (IsNm s) := by unfold IsNm; infer_instance
theorem toList_nil (s : ByteArray) : s.toList = ([] : List UInt8) ↔ s.size = 0 := by
  rw [ByteArray.toList_eq]
  obtain ⟨⟨x⟩⟩ := s
  show x = [] ↔ x.length = 0
  rw [List.length_eq_zero_iff]
theorem bt_at (s : ByteArray) (i : Nat) (h : i < s.size) : bt s (i : Int) = ((s.data.toList[i]'(by simpa using h)).toNat : Int) := by
  unfold bt
  rw [dif_pos (by simpa using h)]
  rfl
open Classical in
theorem snm_l (s : ByteArray) (hs : s.size ≤ 12) (d : Nat) : ∀ (i : Nat), i ≤ s.size → s.size - i = d → Ev (fun k => spec_IsName.l0 k s i) (decide (∀ j, i ≤ j → j < s.size → nameC (bt s (j : Int)))) := by
  induction d with
  | zero =>
    intro i hi hd
    apply ev_succ
    simp only [spec_IsName.l0, if_neg (show ¬ (i : Int) < (s.size : Int) by omega)]
    refine ev_const ?_
    congr 1
    symm
    rw [decide_eq_true_iff]
    intro j h1 h2; omega
  | succ d ih =>
    intro i hi hd
    have hlt : i < s.size := by omega
    have hih := ih (i + 1) (by omega) (by omega)
    have step : nameC (bt s (i : Int)) → (decide (∀ j, i ≤ j → j < s.size → nameC (bt s (j : Int)))) = decide (∀ j, i + 1 ≤ j → j < s.size → nameC (bt s (j : Int))) := by
      intro hc
      rw [decide_eq_decide]
      constructor
      · intro h j h1 h2; exact h j (by omega) h2
      · intro h j h1 h2
        by_cases e : j = i
        · subst e; exact hc
        · exact h j (by omega) h2
    apply ev_succ
    simp only [spec_IsName.l0, spec_l01Small.f, spec_l01Digit.f, if_pos (show (i : Int) < (s.size : Int) by omega), if_pos (show (0 : Int) ≤ (i : Int) by omega), w64 (x := (i : Int) + 1) (by omega) (by omega)]
    by_cases h1 : 97 ≤ bt s (i : Int) ∧ bt s (i : Int) ≤ 122
    · simp only [ge_iff_le, if_pos h1.1, Option.bind_some, decide_eq_true h1.2, if_true]
      rw [step (.inl h1)]
      exact hih
    · have e1 : (if bt s (i : Int) ≥ 97 then some (decide (bt s (i : Int) ≤ 122)) else some false) = some false := by
        by_cases h : bt s (i : Int) ≥ 97
        · rw [if_pos h, decide_eq_false (fun h2 => h1 ⟨h, h2⟩)]
        · rw [if_neg h]
      simp only [e1, Option.bind_some, Bool.false_eq_true, if_false]
      by_cases h2 : 48 ≤ bt s (i : Int) ∧ bt s (i : Int) ≤ 57
      · simp only [ge_iff_le, if_pos h2.1, Option.bind_some, decide_eq_true h2.2, if_true]
        rw [step (.inr (.inl h2))]
        exact hih
      · have e2 : (if bt s (i : Int) ≥ 48 then some (decide (bt s (i : Int) ≤ 57)) else some false) = some false := by
          by_cases h : bt s (i : Int) ≥ 48
          · rw [if_pos h, decide_eq_false (fun h3 => h2 ⟨h, h3⟩)]
          · rw [if_neg h]
        simp only [e2, Option.bind_some, Bool.false_eq_true, if_false]
        by_cases h3 : bt s (i : Int) = 45
        · simp only [if_pos h3]
          rw [step (.inr (.inr h3))]
          exact hih
        · simp only [if_neg h3]
          refine ev_const ?_
          congr 1
          symm
          rw [decide_eq_false_iff_not]
          intro h
          rcases h i (by omega) hlt with h | h | h
          · exact h1 h
          · exact h2 h
          · exact h3 h
theorem spec_name (s : ByteArray) : Ev (fun k => spec_IsName.f k s) (decide (IsNm s)) := by
  classical
  have no : ¬ IsNm s → Ev (fun k => spec_IsName.j0 k s true) (decide (IsNm s)) := fun h => by
    refine ev_succ ?_
    simp only [spec_IsName.j0, if_true]
    exact ev_const (by rw [decide_eq_false h])
  unfold spec_IsName.f
  by_cases h0 : s.size = 0
  · simp only [if_pos ((toList_nil s).2 h0)]
    exact no (fun h => by have := h.1; omega)
  · simp only [if_neg (fun h => h0 ((toList_nil s).1 h))]
    by_cases h1 : (s.size : Int) > 12
    · simp only [if_pos h1]
      exact no (fun h => by have := h.2.1; omega)
    · simp only [if_neg h1, if_pos (show (0 : Int) < (s.size : Int) by omega), spec_l01Small.f]
      by_cases h2 : 97 ≤ bt s 0 ∧ bt s 0 ≤ 122
      · simp only [ge_iff_le, if_pos h2.1, Option.bind_some, decide_eq_true h2.2, Bool.not_true]
        refine ev_succ ?_
        simp only [spec_IsName.j0, Bool.false_eq_true, if_false]
        have := snm_l s (by omega) s.size 0 (by omega) (by omega)
        have e : (decide (IsNm s)) = decide (∀ j, 0 ≤ j → j < s.size → nameC (bt s (j : Int))) := by
          rw [decide_eq_decide]
          exact ⟨fun h j _ hj => h.2.2.2 j hj, fun h => ⟨by omega, by omega, h2, fun j hj => h j (by omega) hj⟩⟩
        rw [e]
        exact this
      · have e1 : (if bt s 0 ≥ 97 then some (decide (bt s 0 ≤ 122)) else some false) = some false := by
          by_cases h : bt s 0 ≥ 97
          · rw [if_pos h, decide_eq_false (fun h3 => h2 ⟨h, h3⟩)]
          · rw [if_neg h]
        simp only [e1, Option.bind_some, Bool.not_false]
        exact no (fun h => h2 h.2.2.1)

theorem dw_nil (p : UInt8 → Bool) (l : List UInt8) : l.dropWhile p = [] ↔ ∀ b ∈ l, p b = true := by
  induction l with
  | nil => simp
  | cons a l ih =>
    by_cases h : p a = true
    · simp [List.dropWhile, h, ih]
    · simp [List.dropWhile, h]
theorem dw_head (p : UInt8 → Bool) (l : List UInt8) (x : UInt8) (xs : List UInt8) (h : l.dropWhile p = x :: xs) : p x = false := by
  induction l with
  | nil => simp at h
  | cons a l ih =>
    by_cases h2 : p a = true
    · simp only [List.dropWhile, h2] at h
      exact ih h
    · have h3 : p a = false := by simpa using h2
      simp only [List.dropWhile, h3, List.cons.injEq] at h
      rw [← h.1]; exact h3
theorem trimS_nil (l cs : List UInt8) : Go.Lib.trimS l cs = [] ↔ ∀ b ∈ l, cs.contains b = true := by
  unfold Go.Lib.trimS Go.Lib.trimLeftS Go.Lib.trimRightS
  rw [dw_nil]
  constructor
  · intro h b hb
    cases e : l.reverse.dropWhile (cs.contains ·) with
    | nil =>
      rw [dw_nil] at e
      exact e b (by simpa using hb)
    | cons x xs =>
      exfalso
      have h1 := dw_head _ _ _ _ e
      have h2 := h x (by rw [e]; simp)
      rw [h2] at h1
      cases h1
  · intro h b hb
    exact h b (by simpa using (List.dropWhile_sublist _).subset (List.mem_reverse.1 hb))
theorem name_cut (b : UInt8) : ([97, 98, 99, 100, 101, 102, 103, 104, 105, 106, 107, 108, 109, 110, 111, 112, 113, 114, 115, 116, 117, 118, 119, 120, 121, 122, 48, 49, 50, 51, 52, 53, 54, 55, 56, 57, 45] : List UInt8).contains b = decide (nameC (b.toNat : Int)) := by
  have key : ((List.range 256).all fun n => (([97, 98, 99, 100, 101, 102, 103, 104, 105, 106, 107, 108, 109, 110, 111, 112, 113, 114, 115, 116, 117, 118, 119, 120, 121, 122, 48, 49, 50, 51, 52, 53, 54, 55, 56, 57, 45] : List UInt8).contains (UInt8.ofNat n) == decide (((97 : Int) ≤ (n : Int) ∧ (n : Int) ≤ 122) ∨ ((48 : Int) ≤ (n : Int) ∧ (n : Int) ≤ 57) ∨ (n : Int) = 45))) = true := by decide +kernel
  have h := List.all_eq_true.1 key b.toNat (List.mem_range.2 b.toNat_lt)
  rw [UInt8.ofNat_toNat] at h
  rw [beq_iff_eq] at h
  rw [h]
  rfl
theorem impl_name (s : ByteArray) : impl_IsName.f s = some (decide (IsNm s)) := by
  unfold impl_IsName.f
  by_cases h0 : (s.size : Int) < 1
  · rw [if_pos h0, decide_eq_false (fun h => by have := h.1; omega)]
  · rw [if_neg h0]
    by_cases h1 : (s.size : Int) > 12
    · rw [if_pos h1, decide_eq_false (fun h => by have := h.2.1; omega)]
    · rw [if_neg h1, if_pos (by omega)]
      by_cases h2 : bt s 0 < 97
      · rw [if_pos h2, decide_eq_false (fun h => by have := h.2.2.1.1; omega)]
      · rw [if_neg h2]
        by_cases h3 : bt s 0 > 122
        · rw [if_pos h3, decide_eq_false (fun h => by have := h.2.2.1.2; omega)]
        · rw [if_neg h3]
          unfold strings_Trim.f
          rw [if_pos ⟨by omega, by decide, by decide +kernel⟩]
          simp only [Option.bind_some]
          congr 1
          have e : (decide (IsNm s)) = decide (∀ b ∈ s.data.toList, nameC (b.toNat : Int)) := by
            rw [decide_eq_decide]
            constructor
            · intro h b hb
              obtain ⟨j, hj, rfl⟩ := List.getElem_of_mem hb
              have := h.2.2.2 j (by simpa using hj)
              rw [bt_at s j (by simpa using hj)] at this
              exact this
            · intro h
              refine ⟨by omega, by omega, ⟨by omega, by omega⟩, fun j hj => ?_⟩
              rw [bt_at s j hj]
              exact h _ (List.getElem_mem _)
          rw [e]
          have e2 : ∀ t : List UInt8, (({ data := t.toArray } : ByteArray).toList == ([] : List UInt8)) = decide (t = []) := by
            intro t
            rw [ByteArray.toList_eq]
            cases t <;> simp
          rw [e2, decide_eq_decide, trimS_nil]
          constructor
          · intro h b hb
            have := h b hb
            rw [name_cut] at this
            exact of_decide_eq_true this
          · intro h b hb
            rw [name_cut]
            exact decide_eq_true (h b hb)

theorem in_val (a b c : Int) : spec_l00In.f a b c = some (decide (b ≤ a ∧ a ≤ c)) := by
  unfold spec_l00In.f
  by_cases h : a ≥ b <;> by_cases h2 : a ≤ c <;> simp [h, h2] <;> omega
theorem within_val (a b c : Int) : impl_within.f a b c = some (decide (b ≤ a ∧ a ≤ c)) := in_val a b c

theorem rd_T64_at (l : List S64) (i : Nat) (h : i < l.length) : rd_T64 l (i : Int) = l[i] := by
  unfold rd_T64
  rw [Int.toNat_natCast, List.getD_eq_getElem?_getD, List.getElem?_eq_getElem h]
  rfl

theorem shown_l (l : List ByteArray) (hl : l.length ≤ 1048576) (d : Nat) : ∀ (i : Nat), i ≤ l.length → l.length - i = d → ∃ r, Ev (fun k => spec_l14Names.l0 k l i) r ∧ Ev (fun k => impl_areShown.l0 k l l l.length i) r := by
  induction d with
  | zero =>
    intro i hi hd
    refine ⟨decide ((l.length : Int) ≤ 30), ev_succ ?_, ev_succ ?_⟩
    · simp only [spec_l14Names.l0, if_neg (show ¬ (i : Int) < (l.length : Int) by omega)]
      exact ev_const rfl
    · simp only [impl_areShown.l0, if_neg (show ¬ (i : Int) < (l.length : Int) by omega)]
      exact ev_const rfl
  | succ d ih =>
    intro i hi hd
    have hlt : i < l.length := by omega
    obtain ⟨r, h1, h2⟩ := ih (i + 1) (by omega) (by omega)
    have hn := spec_name l[i]
    by_cases c1 : IsNm l[i]
    · by_cases c3 : i = 0
      · refine ⟨r, ev_succ ?_, ev_succ ?_⟩
        · simp only [spec_l14Names.l0, if_pos (show (i : Int) < (l.length : Int) by omega), if_pos (show (0 : Int) ≤ (i : Int) by omega), rdOf_at _ _ _ hlt]
          refine Ev.bind hn ?_
          simp only [decide_eq_true c1, if_true, if_neg (show ¬ (i : Int) > 0 by omega), w64 (x := (i : Int) + 1) (by omega) (by omega)]
          exact h1
        · simp only [impl_areShown.l0, if_pos (show (i : Int) < (l.length : Int) by omega), if_pos (show (0 : Int) ≤ (i : Int) by omega), rdOf_at _ _ _ hlt, impl_name, Option.bind_some, decide_eq_true c1, if_true, if_neg (show ¬ (i : Int) > 0 by omega), w64 (x := (i : Int) + 1) (by omega) (by omega)]
          exact h2
      · by_cases c4 : Op.bytesLess ((rdOf ByteArray.empty l ((i : Int) - 1)).toList) ((l[i]).toList) = true
        · refine ⟨r, ev_succ ?_, ev_succ ?_⟩
          · simp only [spec_l14Names.l0, if_pos (show (i : Int) < (l.length : Int) by omega), if_pos (show (0 : Int) ≤ (i : Int) by omega), rdOf_at _ _ _ hlt]
            refine Ev.bind hn ?_
            simp only [decide_eq_true c1, if_true, if_pos (show (i : Int) > 0 by omega), w64 (x := (i : Int) - 1) (by omega) (by omega), if_pos (show (0 : Int) ≤ (i : Int) - 1 by omega), if_pos (show (i : Int) - 1 < (l.length : Int) by omega), c4, w64 (x := (i : Int) + 1) (by omega) (by omega)]
            exact h1
          · simp only [impl_areShown.l0, if_pos (show (i : Int) < (l.length : Int) by omega), if_pos (show (0 : Int) ≤ (i : Int) by omega), rdOf_at _ _ _ hlt, impl_name, Option.bind_some, decide_eq_true c1, if_true, if_pos (show (i : Int) > 0 by omega), w64 (x := (i : Int) - 1) (by omega) (by omega), if_pos (show (0 : Int) ≤ (i : Int) - 1 by omega), if_pos (show (i : Int) - 1 < (l.length : Int) by omega), c4, w64 (x := (i : Int) + 1) (by omega) (by omega)]
            exact h2
        · refine ⟨false, ev_succ ?_, ev_succ ?_⟩
          · simp only [spec_l14Names.l0, if_pos (show (i : Int) < (l.length : Int) by omega), if_pos (show (0 : Int) ≤ (i : Int) by omega), rdOf_at _ _ _ hlt]
            refine Ev.bind hn ?_
            simp only [decide_eq_true c1, if_true, if_pos (show (i : Int) > 0 by omega), w64 (x := (i : Int) - 1) (by omega) (by omega), if_pos (show (0 : Int) ≤ (i : Int) - 1 by omega), if_pos (show (i : Int) - 1 < (l.length : Int) by omega), if_neg c4]
            exact ev_const rfl
          · simp only [impl_areShown.l0, if_pos (show (i : Int) < (l.length : Int) by omega), if_pos (show (0 : Int) ≤ (i : Int) by omega), rdOf_at _ _ _ hlt, impl_name, Option.bind_some, decide_eq_true c1, if_true, if_pos (show (i : Int) > 0 by omega), w64 (x := (i : Int) - 1) (by omega) (by omega), if_pos (show (0 : Int) ≤ (i : Int) - 1 by omega), if_pos (show (i : Int) - 1 < (l.length : Int) by omega), if_neg c4]
            exact ev_const rfl
    · refine ⟨false, ev_succ ?_, ev_succ ?_⟩
      · simp only [spec_l14Names.l0, if_pos (show (i : Int) < (l.length : Int) by omega), if_pos (show (0 : Int) ≤ (i : Int) by omega), rdOf_at _ _ _ hlt]
        refine Ev.bind hn ?_
        simp only [decide_eq_false c1, Bool.false_eq_true, if_false]
        exact ev_const rfl
      · simp only [impl_areShown.l0, if_pos (show (i : Int) < (l.length : Int) by omega), if_pos (show (0 : Int) ≤ (i : Int) by omega), rdOf_at _ _ _ hlt, impl_name, Option.bind_some, decide_eq_false c1, Bool.false_eq_true, if_false]
        exact ev_const rfl
theorem shown_same (l : List ByteArray) (hl : l.length ≤ 1048576) : ∃ r, Ev (fun k => spec_l14Names.f k l) r ∧ Ev (fun k => impl_areShown.f k l) r := shown_l l hl l.length 0 (by omega) (by omega)
theorem syear (a : Int) : spec_l14Year.f a = some (decide (1 ≤ a ∧ a ≤ 3000)) := by unfold spec_l14Year.f; rw [in_val]; rfl
theorem iyear (a : Int) : impl_isYear.f a = some (decide (1 ≤ a ∧ a ≤ 3000)) := by unfold impl_isYear.f; rw [within_val]; rfl
theorem editions_l (l : List S64) (hl : l.length ≤ 1048576) (hw : ∀ y ∈ l, y.f1.length ≤ 1048576) (d : Nat) : ∀ (i : Nat), i ≤ l.length → l.length - i = d → ∃ r, Ev (fun k => spec_l14Ok.l0 k l i) r ∧ Ev (fun k => impl_ValidEditions.l0 k l l l.length i) r := by
  induction d with
  | zero =>
    intro i hi hd
    refine ⟨decide ((l.length : Int) ≤ 20), ev_succ ?_, ev_succ ?_⟩
    · simp only [spec_l14Ok.l0, if_neg (show ¬ (i : Int) < (l.length : Int) by omega)]
      exact ev_const rfl
    · simp only [impl_ValidEditions.l0, if_neg (show ¬ (i : Int) < (l.length : Int) by omega)]
      exact ev_const rfl
  | succ d ih =>
    intro i hi hd
    have hlt : i < l.length := by omega
    obtain ⟨r, h1, h2⟩ := ih (i + 1) (by omega) (by omega)
    obtain ⟨n, n1, n2⟩ := shown_same l[i].f1 (hw _ (List.getElem_mem hlt))
    by_cases cy : 1 ≤ l[i].f0 ∧ l[i].f0 ≤ 3000
    · have hs : ∀ v, Ev (fun k => if n = true then (if (i : Int) > 0 then (if (rd_T64 l ((i : Int) - 1)).f0 ≥ l[i].f0 then (some false) else (spec_l14Ok.l0 k l ((i + 1 : Nat) : Int))) else (spec_l14Ok.l0 k l ((i + 1 : Nat) : Int))) else (some false)) v → Ev (fun k => spec_l14Ok.l0 k l i) v := by
        intro v hv
        refine ev_succ ?_
        simp only [spec_l14Ok.l0, if_pos (show (i : Int) < (l.length : Int) by omega), if_pos (show (0 : Int) ≤ (i : Int) by omega), rd_T64_at _ _ hlt, syear, Option.bind_some, decide_eq_true cy, if_true]
        refine Ev.bind n1 ?_
        by_cases c3 : (i : Int) > 0
        · simp only [if_pos c3, w64 (x := (i : Int) - 1) (by omega) (by omega), if_pos (show (0 : Int) ≤ (i : Int) - 1 by omega), if_pos (show (i : Int) - 1 < (l.length : Int) by omega), w64 (x := (i : Int) + 1) (by omega) (by omega)] at hv ⊢
          exact hv
        · simp only [if_neg c3, w64 (x := (i : Int) + 1) (by omega) (by omega)] at hv ⊢
          exact hv
      have hi2 : ∀ v, Ev (fun k => if n = true then (if (i : Int) > 0 then (if (rd_T64 l ((i : Int) - 1)).f0 ≥ l[i].f0 then (some false) else (impl_ValidEditions.l0 k l l l.length ((i + 1 : Nat) : Int))) else (impl_ValidEditions.l0 k l l l.length ((i + 1 : Nat) : Int))) else (some false)) v → Ev (fun k => impl_ValidEditions.l0 k l l l.length i) v := by
        intro v hv
        refine ev_succ ?_
        simp only [impl_ValidEditions.l0, if_pos (show (i : Int) < (l.length : Int) by omega), if_pos (show (0 : Int) ≤ (i : Int) by omega), rd_T64_at _ _ hlt, iyear, Option.bind_some, decide_eq_true cy, if_true]
        refine Ev.bind n2 ?_
        by_cases c3 : (i : Int) > 0
        · simp only [if_pos c3, w64 (x := (i : Int) - 1) (by omega) (by omega), if_pos (show (0 : Int) ≤ (i : Int) - 1 by omega), if_pos (show (i : Int) - 1 < (l.length : Int) by omega), w64 (x := (i : Int) + 1) (by omega) (by omega)] at hv ⊢
          exact hv
        · simp only [if_neg c3, w64 (x := (i : Int) + 1) (by omega) (by omega)] at hv ⊢
          exact hv
      cases n with
      | false => exact ⟨false, hs _ (by simp only [Bool.false_eq_true, if_false]; exact ev_const rfl), hi2 _ (by simp only [Bool.false_eq_true, if_false]; exact ev_const rfl)⟩
      | true =>
        by_cases c3 : (i : Int) > 0
        · by_cases c4 : (rd_T64 l ((i : Int) - 1)).f0 ≥ l[i].f0
          · exact ⟨false, hs _ (by simp only [if_true, if_pos c3, if_pos c4]; exact ev_const rfl), hi2 _ (by simp only [if_true, if_pos c3, if_pos c4]; exact ev_const rfl)⟩
          · exact ⟨r, hs _ (by simp only [if_true, if_pos c3, if_neg c4]; exact h1), hi2 _ (by simp only [if_true, if_pos c3, if_neg c4]; exact h2)⟩
        · exact ⟨r, hs _ (by simp only [if_true, if_neg c3]; exact h1), hi2 _ (by simp only [if_true, if_neg c3]; exact h2)⟩
    · refine ⟨false, ev_succ ?_, ev_succ ?_⟩
      · simp only [spec_l14Ok.l0, if_pos (show (i : Int) < (l.length : Int) by omega), if_pos (show (0 : Int) ≤ (i : Int) by omega), rd_T64_at _ _ hlt, syear, Option.bind_some, decide_eq_false cy, Bool.false_eq_true, if_false]
        exact ev_const rfl
      · simp only [impl_ValidEditions.l0, if_pos (show (i : Int) < (l.length : Int) by omega), if_pos (show (0 : Int) ≤ (i : Int) by omega), rd_T64_at _ _ hlt, iyear, Option.bind_some, decide_eq_false cy, Bool.false_eq_true, if_false]
        exact ev_const rfl
theorem editions_same (l : List S64) (hl : l.length ≤ 1048576) (hw : ∀ y ∈ l, y.f1.length ≤ 1048576) : ∃ r, Ev (fun k => spec_l14Ok.f k l) r ∧ Ev (fun k => impl_ValidEditions.f k l) r := editions_l l hl hw l.length 0 (by omega) (by omega)

/-- Whether a list of texts has one. -/
def hasB (l : List ByteArray) (a : ByteArray) : Bool := l.any (fun x => decide (x.toList = a.toList))
theorem has_l (l : List ByteArray) (hl : l.length ≤ 1048576) (a : ByteArray) (d : Nat) : ∀ (i : Nat), i ≤ l.length → l.length - i = d →
    Ev (fun k => spec_l14Has.l0 k l a i) (hasB (l.drop i) a) ∧ ∃ v : Int, Ev (fun k => slices_Index_string_string.l0 k l a l.length i) v ∧ decide (v ≥ 0) = hasB (l.drop i) a := by
  induction d with
  | zero =>
    intro i hi hd
    rw [List.drop_eq_nil_of_le (by omega)]
    refine ⟨ev_succ ?_, -1, ev_succ ?_, rfl⟩
    · simp only [spec_l14Has.l0, if_neg (show ¬ (i : Int) < (l.length : Int) by omega)]
      exact ev_const rfl
    · simp only [slices_Index_string_string.l0, if_neg (show ¬ (i : Int) < (l.length : Int) by omega)]
      exact ev_const rfl
  | succ d ih =>
    intro i hi hd
    have hlt : i < l.length := by omega
    obtain ⟨h1, v, h2, h3⟩ := ih (i + 1) (by omega) (by omega)
    have hd : hasB (l.drop i) a = (decide (l[i].toList = a.toList) || hasB (l.drop (i + 1)) a) := by
      unfold hasB
      rw [List.drop_eq_getElem_cons hlt, List.any_cons]
    rw [hd]
    by_cases c : l[i].toList = a.toList
    · rw [decide_eq_true c, Bool.true_or]
      refine ⟨ev_succ ?_, i, ev_succ ?_, decide_eq_true (by omega)⟩
      · simp only [spec_l14Has.l0, if_pos (show (i : Int) < (l.length : Int) by omega), if_pos (show (0 : Int) ≤ (i : Int) by omega), rdOf_at _ _ _ hlt, if_pos c]
        exact ev_const rfl
      · simp only [slices_Index_string_string.l0, if_pos (show (i : Int) < (l.length : Int) by omega), if_pos (show (0 : Int) ≤ (i : Int) by omega), rdOf_at _ _ _ hlt, if_pos c.symm]
        exact ev_const rfl
    · rw [decide_eq_false c, Bool.false_or]
      refine ⟨ev_succ ?_, v, ev_succ ?_, h3⟩
      · simp only [spec_l14Has.l0, if_pos (show (i : Int) < (l.length : Int) by omega), if_pos (show (0 : Int) ≤ (i : Int) by omega), rdOf_at _ _ _ hlt, if_neg c, w64 (x := (i : Int) + 1) (by omega) (by omega)]
        exact h1
      · simp only [slices_Index_string_string.l0, if_pos (show (i : Int) < (l.length : Int) by omega), if_pos (show (0 : Int) ≤ (i : Int) by omega), rdOf_at _ _ _ hlt, if_neg (show ¬ a.toList = l[i].toList from fun e => c e.symm), w64 (x := (i : Int) + 1) (by omega) (by omega)]
        exact h2
theorem has_spec (l : List ByteArray) (hl : l.length ≤ 1048576) (a : ByteArray) : Ev (fun k => spec_l14Has.f k l a) (hasB l a) := (has_l l hl a l.length 0 (by omega) (by omega)).1
theorem has_impl (l : List ByteArray) (hl : l.length ≤ 1048576) (a : ByteArray) : Ev (fun k => slices_Contains_string_string.f k l a) (hasB l a) := by
  obtain ⟨_, v, h2, h3⟩ := has_l l hl a l.length 0 (by omega) (by omega)
  unfold slices_Contains_string_string.f
  refine Ev.bind h2 ?_
  rw [h3]
  exact ev_const rfl

/-- The texts of a list that another one has not. -/
def lessL (a b : List ByteArray) : List ByteArray := a.filter (fun x => !hasB b x)
theorem lessL_le (a b : List ByteArray) : (lessL a b).length ≤ a.length := List.length_filter_le _ _
theorem less_l (a b : List ByteArray) (ha : a.length ≤ 1048576) (hb : b.length ≤ 1048576) (d : Nat) : ∀ (out : List ByteArray) (i : Nat), i ≤ a.length → a.length - i = d → out.length ≤ i →
    Ev (fun k => spec_l14Less.l0 k a b out i) (out ++ lessL (a.drop i) b) ∧ Ev (fun k => impl_less.l0 k b out a a.length i) (out ++ lessL (a.drop i) b) := by
  induction d with
  | zero =>
    intro out i hi hd ho
    rw [List.drop_eq_nil_of_le (by omega), show lessL [] b = [] from rfl, List.append_nil]
    refine ⟨ev_succ ?_, ev_succ ?_⟩
    · simp only [spec_l14Less.l0, if_neg (show ¬ (i : Int) < (a.length : Int) by omega)]
      exact ev_const rfl
    · simp only [impl_less.l0, if_neg (show ¬ (i : Int) < (a.length : Int) by omega)]
      exact ev_const rfl
  | succ d ih =>
    intro out i hi hd ho
    have hlt : i < a.length := by omega
    by_cases c : hasB b a[i] = true
    · obtain ⟨h1, h2⟩ := ih out (i + 1) (by omega) (by omega) (by omega)
      rw [show lessL (a.drop i) b = lessL (a.drop (i + 1)) b from by unfold lessL; rw [List.drop_eq_getElem_cons hlt, List.filter_cons, c]; rfl]
      refine ⟨ev_succ ?_, ev_succ ?_⟩
      · simp only [spec_l14Less.l0, if_pos (show (i : Int) < (a.length : Int) by omega), if_pos (show (0 : Int) ≤ (i : Int) by omega), rdOf_at _ _ _ hlt]
        refine Ev.bind (has_spec b hb a[i]) ?_
        simp only [c, if_true, w64 (x := (i : Int) + 1) (by omega) (by omega)]
        exact h1
      · simp only [impl_less.l0, if_pos (show (i : Int) < (a.length : Int) by omega), if_pos (show (0 : Int) ≤ (i : Int) by omega), rdOf_at _ _ _ hlt]
        refine Ev.bind (has_impl b hb a[i]) ?_
        simp only [c, if_true, w64 (x := (i : Int) + 1) (by omega) (by omega)]
        exact h2
    · obtain ⟨h1, h2⟩ := ih (out ++ [a[i]]) (i + 1) (by omega) (by omega) (by simp; omega)
      replace c : hasB b a[i] = false := by simpa using c
      rw [show out ++ lessL (a.drop i) b = (out ++ [a[i]]) ++ lessL (a.drop (i + 1)) b from by unfold lessL; rw [List.drop_eq_getElem_cons hlt, List.filter_cons, c]; simp]
      refine ⟨ev_succ ?_, ev_succ ?_⟩
      · simp only [spec_l14Less.l0, if_pos (show (i : Int) < (a.length : Int) by omega), if_pos (show (0 : Int) ≤ (i : Int) by omega), rdOf_at _ _ _ hlt]
        refine Ev.bind (has_spec b hb a[i]) ?_
        simp only [c, Bool.false_eq_true, if_false, if_pos (show out.length < 8796093022208 by omega), w64 (x := (i : Int) + 1) (by omega) (by omega)]
        exact h1
      · simp only [impl_less.l0, if_pos (show (i : Int) < (a.length : Int) by omega), if_pos (show (0 : Int) ≤ (i : Int) by omega), rdOf_at _ _ _ hlt]
        refine Ev.bind (has_impl b hb a[i]) ?_
        simp only [c, Bool.false_eq_true, if_false, if_pos (show out.length < 8796093022208 by omega), w64 (x := (i : Int) + 1) (by omega) (by omega)]
        exact h2
theorem less_spec (a b : List ByteArray) (ha : a.length ≤ 1048576) (hb : b.length ≤ 1048576) : Ev (fun k => spec_l14Less.f k a b) (lessL a b) := (less_l a b ha hb a.length [] 0 (by omega) (by omega) (by simp)).1
theorem less_impl (a b : List ByteArray) (ha : a.length ≤ 1048576) (hb : b.length ≤ 1048576) : Ev (fun k => impl_less.f k a b) (lessL a b) := (less_l a b ha hb a.length [] 0 (by omega) (by omega) (by simp)).2

theorem sleq_l (x y : List ByteArray) (hxy : x.length = y.length) (hm : x.length ≤ maxLen) (d : Nat) : ∀ (k i : Nat), i ≤ x.length → x.length - i = d → d < k → slices_Equal_string_string.l0 k x y (x.length : Int) (i : Int) = some (decide (x.drop i = y.drop i)) := by
  unfold maxLen at hm
  induction d with
  | zero =>
    intro k i hi hd hk
    obtain ⟨k, rfl⟩ : ∃ q, k = q + 1 := ⟨k - 1, by omega⟩
    rw [List.drop_eq_nil_of_le (by omega), List.drop_eq_nil_of_le (by omega)]
    simp only [slices_Equal_string_string.l0, if_neg (show ¬ (i : Int) < (x.length : Int) by omega), decide_true]
  | succ d ih =>
    intro k i hi hd hk
    obtain ⟨k, rfl⟩ : ∃ q, k = q + 1 := ⟨k - 1, by omega⟩
    have hlt : i < x.length := by omega
    have hlt2 : i < y.length := by omega
    have h1 := ih k (i + 1) (by omega) (by omega) (by omega)
    rw [List.drop_eq_getElem_cons hlt, List.drop_eq_getElem_cons hlt2]
    simp only [slices_Equal_string_string.l0, if_pos (show (i : Int) < (x.length : Int) by omega), if_pos (show (0 : Int) ≤ (i : Int) by omega), if_pos (show (i : Int) < (y.length : Int) by omega), rdOf_at _ _ _ hlt, rdOf_at _ _ _ hlt2, w64 (x := (i : Int) + 1) (by omega) (by omega)]
    by_cases c : x[i].toList = y[i].toList
    · rw [if_pos c]
      have h2 : slices_Equal_string_string.l0 k x y (x.length : Int) ((i : Int) + 1) = some (decide (x.drop (i + 1) = y.drop (i + 1))) := h1
      rw [h2]
      congr 1
      rw [decide_eq_decide, List.cons.injEq]
      exact ⟨fun h => ⟨toList_inj.1 c, h⟩, fun h => h.2⟩
    · rw [if_neg c]
      congr 1; symm
      rw [decide_eq_false_iff_not]
      intro e
      exact c (by rw [(List.cons.inj e).1])
theorem sleq_val (x y : List ByteArray) (hl : x.length ≤ maxLen) {k : Nat} (hk : x.length < k) : slices_Equal_string_string.f k x y = some (decide (x = y)) := by
  unfold slices_Equal_string_string.f
  by_cases h : x.length = y.length
  · rw [if_pos (by omega)]
    have := sleq_l x y h hl x.length k 0 (by omega) (by omega) hk
    simpa using this
  · rw [if_neg (by omega)]
    congr 1; symm
    rw [decide_eq_false_iff_not]
    exact fun e => h (by rw [e])

theorem bl_irr : ∀ x : List UInt8, Op.bytesLess x x = false
  | [] => rfl
  | a :: x => by simp [Op.bytesLess, bl_irr x]
theorem bl_trans : ∀ x y z : List UInt8, Op.bytesLess x y = true → Op.bytesLess y z = true → Op.bytesLess x z = true
  | _, [], _, h, _ => by simp [Op.bytesLess] at h
  | _, _ :: _, [], _, h => by simp [Op.bytesLess] at h
  | [], b :: y, c :: z, _, _ => by simp [Op.bytesLess]
  | a :: x, b :: y, c :: z, h1, h2 => by
    simp only [Op.bytesLess, Bool.or_eq_true, decide_eq_true_eq, Bool.and_eq_true, beq_iff_eq] at h1 h2 ⊢
    rcases h1 with h1 | ⟨rfl, h1⟩
    · rcases h2 with h2 | ⟨rfl, h2⟩
      · exact .inl (UInt8.lt_trans h1 h2)
      · exact .inl h1
    · rcases h2 with h2 | ⟨rfl, h2⟩
      · exact .inl h2
      · exact .inr ⟨rfl, bl_trans x y z h1 h2⟩
/-- Names that are shown ascend. -/
theorem shown_chain (l : List ByteArray) (hl : l.length ≤ 1048576) (d : Nat) : ∀ (i : Nat), i ≤ l.length → l.length - i = d → Ev (fun k => impl_areShown.l0 k l l l.length i) true →
    ∀ (j : Nat) (hj : j < l.length), i ≤ j → 0 < j → Op.bytesLess (l[j - 1]'(by omega)).toList (l[j]).toList = true := by
  induction d with
  | zero =>
    intro i hi hd _ j hj hij _
    omega
  | succ d ih =>
    intro i hi hd hE j hj hij hj0
    have hlt : i < l.length := by omega
    obtain ⟨K, hK⟩ := hE
    have hu : ∀ k, K ≤ k → impl_areShown.l0 (k + 1) l l l.length i = some true := fun k hk => hK (k + 1) (by omega)
    simp only [impl_areShown.l0, if_pos (show (i : Int) < (l.length : Int) by omega), if_pos (show (0 : Int) ≤ (i : Int) by omega), rdOf_at _ _ _ hlt, impl_name, Option.bind_some] at hu
    by_cases c1 : IsNm l[i]
    · simp only [decide_eq_true c1, if_true] at hu
      by_cases c3 : i = 0
      · simp only [if_neg (show ¬ (i : Int) > 0 by omega), w64 (x := (i : Int) + 1) (by omega) (by omega)] at hu
        exact ih (i + 1) (by omega) (by omega) ⟨K, hu⟩ j hj (by omega) hj0
      · have hm : i - 1 < l.length := by omega
        have hrd : rdOf ByteArray.empty l ((i : Int) - 1) = l[i - 1] := by rw [show (i : Int) - 1 = ((i - 1 : Nat) : Int) by omega]; exact rdOf_at _ _ _ hm
        simp only [if_pos (show (i : Int) > 0 by omega), w64 (x := (i : Int) - 1) (by omega) (by omega), if_pos (show (0 : Int) ≤ (i : Int) - 1 by omega), if_pos (show (i : Int) - 1 < (l.length : Int) by omega), hrd] at hu
        by_cases c4 : Op.bytesLess (l[i - 1]).toList (l[i]).toList = true
        · simp only [c4, if_true, w64 (x := (i : Int) + 1) (by omega) (by omega)] at hu
          by_cases e : j = i
          · subst e; exact c4
          · exact ih (i + 1) (by omega) (by omega) ⟨K, hu⟩ j hj (by omega) hj0
        · have := hu K (Nat.le_refl _)
          simp only [if_neg c4] at this
          cases this
    · have := hu K (Nat.le_refl _)
      simp only [decide_eq_false c1, Bool.false_eq_true, if_false] at this
      cases this
def BL (x y : ByteArray) : Prop := Op.bytesLess x.toList y.toList = true
/-- A list that ascends from neighbour to neighbour ascends. -/
theorem chain_lt (l : List ByteArray) (h : ∀ (j : Nat) (hj : j < l.length), 0 < j → Op.bytesLess (l[j - 1]'(by omega)).toList (l[j]).toList = true) : l.Pairwise BL := by
  have key : ∀ (d i : Nat) (h2 : i + (d + 1) < l.length), Op.bytesLess (l[i]'(by omega)).toList (l[i + (d + 1)]).toList = true := by
    intro d
    induction d with
    | zero =>
      intro i h2
      have := h (i + 1) h2 (by omega)
      simpa using this
    | succ d ih =>
      intro i h2
      have h3 := h (i + (d + 1 + 1)) h2 (by omega)
      simp only [show i + (d + 1 + 1) - 1 = i + (d + 1) by omega] at h3
      exact bl_trans _ _ _ (ih i (by omega)) h3
  rw [List.pairwise_iff_getElem]
  intro i j hi hj hij
  have h1 := key (j - i - 1) i (by omega)
  simp only [show i + (j - i - 1 + 1) = j by omega] at h1
  exact h1
theorem names_ext : ∀ (a b : List ByteArray), a.Pairwise BL → b.Pairwise BL → (∀ x, x ∈ a ↔ x ∈ b) → a = b
  | [], [], _, _, _ => rfl
  | [], y :: b, _, _, h => by have := (h y).2 (by simp); simp at this
  | x :: a, [], _, _, h => by have := (h x).1 (by simp); simp at this
  | x :: a, y :: b, h1, h2, h => by
    obtain ⟨g1, g2⟩ := List.pairwise_cons.1 h1
    obtain ⟨f1, f2⟩ := List.pairwise_cons.1 h2
    have irr : ∀ z : ByteArray, ¬ BL z z := fun z hz => by unfold BL at hz; rw [bl_irr] at hz; cases hz
    have e : x = y := by
      rcases List.mem_cons.1 ((h x).1 (by simp)) with e | e
      · exact e
      · rcases List.mem_cons.1 ((h y).2 (by simp)) with e2 | e2
        · exact e2.symm
        · exact absurd (bl_trans _ _ _ (g1 y e2) (f1 x e)) (irr x)
    subst e
    rw [names_ext a b g2 f2 (fun z => ?_)]
    constructor
    · intro hz
      rcases List.mem_cons.1 ((h z).1 (List.mem_cons_of_mem _ hz)) with e | e
      · exact absurd (e ▸ g1 z hz) (irr z)
      · exact e
    · intro hz
      rcases List.mem_cons.1 ((h z).2 (List.mem_cons_of_mem _ hz)) with e | e
      · exact absurd (e ▸ f1 z hz) (irr z)
      · exact e
theorem hasB_mem (b : List ByteArray) (x : ByteArray) : hasB b x = true ↔ x ∈ b := by
  unfold hasB
  rw [List.any_eq_true]
  constructor
  · rintro ⟨y, hy, e⟩
    have e2 := toList_inj.1 (of_decide_eq_true e)
    exact e2 ▸ hy
  · intro h
    exact ⟨x, h, decide_eq_true rfl⟩

def diffL (x : S64) (n : List ByteArray) : Int := ((lessL x.f1 n).length : Int) + ((lessL n x.f1).length : Int)
theorem less_nil (a b : List ByteArray) : (lessL a b).length = 0 ↔ ∀ x ∈ a, x ∈ b := by
  rw [List.length_eq_zero_iff]
  unfold lessL
  rw [List.filter_eq_nil_iff]
  constructor
  · intro h x hx
    have := h x hx
    rw [← hasB_mem]
    simpa using this
  · intro h x hx
    have := (hasB_mem b x).2 (h x hx)
    rw [this]
    simp
theorem diff_zero (x : S64) (n : List ByteArray) (hx : x.f1.Pairwise BL) (hn : n.Pairwise BL) : diffL x n = 0 ↔ x.f1 = n := by
  unfold diffL
  constructor
  · intro h
    have h1 := (less_nil x.f1 n).1 (by omega)
    have h2 := (less_nil n x.f1).1 (by omega)
    exact names_ext _ _ hx hn (fun z => ⟨h1 z, h2 z⟩)
  · intro h
    have h1 := (less_nil x.f1 n).2 (fun z hz => h ▸ hz)
    have h2 := (less_nil n x.f1).2 (fun z hz => h ▸ hz)
    omega
theorem differ_ev (x : S64) (n : List ByteArray) (h : x.f1.length ≤ 1048576) (hn : n.length ≤ 1048576) : Ev (fun k => spec_l14Differ.f k x.f1 n) (diffL x n) := by
  have h1 := lessL_le x.f1 n
  have h2 := lessL_le n x.f1
  unfold spec_l14Differ.f
  refine Ev.bind (less_spec _ _ h hn) (Ev.bind (less_spec _ _ hn h) ?_)
  rw [w64 (x := ((lessL x.f1 n).length : Int) + ((lessL n x.f1).length : Int)) (by omega) (by omega)]
  exact ev_const rfl
/-- In valid editions all names ascend. -/
theorem editions_names (l : List S64) (hl : l.length ≤ 1048576) (hw : ∀ y ∈ l, y.f1.length ≤ 1048576) (d : Nat) : ∀ (i : Nat), i ≤ l.length → l.length - i = d → Ev (fun k => impl_ValidEditions.l0 k l l l.length i) true →
    ∀ (j : Nat) (hj : j < l.length), i ≤ j → (l[j]).f1.Pairwise BL := by
  induction d with
  | zero =>
    intro i hi hd _ j hj hij
    omega
  | succ d ih =>
    intro i hi hd hE j hj hij
    have hlt : i < l.length := by omega
    have wi := hw _ (List.getElem_mem hlt)
    obtain ⟨n, n1, n2⟩ := shown_same l[i].f1 wi
    obtain ⟨K0, hK0⟩ := n2
    obtain ⟨K, hK⟩ := hE
    have hu : ∀ k, K + K0 ≤ k → impl_ValidEditions.l0 (k + 1) l l l.length i = some true := fun k hk => hK (k + 1) (by omega)
    have hv : ∀ k, K + K0 ≤ k → impl_areShown.f k l[i].f1 = some n := fun k hk => hK0 k (by omega)
    simp only [impl_ValidEditions.l0, if_pos (show (i : Int) < (l.length : Int) by omega), if_pos (show (0 : Int) ≤ (i : Int) by omega), rd_T64_at _ _ hlt, iyear, Option.bind_some] at hu
    have hu2 : ∀ k, K + K0 ≤ k → (if decide (1 ≤ l[i].f0 ∧ l[i].f0 ≤ 3000) = true then (if n = true then (if (i : Int) > 0 then (if 0 ≤ wrap64 ((i : Int) - 1) then (if wrap64 ((i : Int) - 1) < (l.length : Int) then (if (rd_T64 l (wrap64 ((i : Int) - 1))).f0 ≥ l[i].f0 then some false else impl_ValidEditions.l0 k l l l.length (wrap64 ((i : Int) + 1))) else none) else none) else impl_ValidEditions.l0 k l l l.length (wrap64 ((i : Int) + 1))) else some false) else some false) = some true := by
      intro k hk
      have h1 := hu k hk
      rw [hv k hk, Option.bind_some] at h1
      exact h1
    clear hu
    rw [w64 (x := (i : Int) + 1) (by omega) (by omega)] at hu2
    by_cases cy : 1 ≤ l[i].f0 ∧ l[i].f0 ≤ 3000
    · simp only [decide_eq_true cy, if_true] at hu2
      cases n with
      | false =>
        have := hu2 _ (Nat.le_refl _)
        simp only [Bool.false_eq_true, if_false] at this
        cases this
      | true =>
        simp only [if_true] at hu2
        by_cases e : j = i
        · subst e
          exact chain_lt _ (fun q hq h0 => shown_chain _ wi l[j].f1.length 0 (by omega) (by omega) ⟨K0, hK0⟩ q hq (by omega) h0)
        · refine ih (i + 1) (by omega) (by omega) ⟨K + K0, fun k hk => ?_⟩ j hj (by omega)
          have h1 := hu2 k hk
          repeat' split at h1
          all_goals first | exact h1 | cases h1
    · have := hu2 _ (Nat.le_refl _)
      simp only [decide_eq_false cy, Bool.false_eq_true, if_false] at this
      cases this
theorem idx_congr {α : Type} (p q : α → Bool) : ∀ (l : List α), (∀ x ∈ l, p x = q x) → l.findIdx p = l.findIdx q ∧ l.any p = l.any q
  | [], _ => ⟨rfl, rfl⟩
  | x :: l, h => by
    obtain ⟨h1, h2⟩ := idx_congr p q l (fun y hy => h y (List.mem_cons_of_mem _ hy))
    rw [List.findIdx_cons, List.findIdx_cons, List.any_cons, List.any_cons, h x (by simp), h1, h2]
    exact ⟨rfl, rfl⟩
theorem sedition_l (l : List S64) (hl : l.length ≤ 1048576) (hw : ∀ y ∈ l, y.f1.length ≤ 1048576) (n : List ByteArray) (hn : n.length ≤ 1048576) (d : Nat) : ∀ (i : Nat), i ≤ l.length → l.length - i = d →
    Ev (fun k => spec_EditionOf.l0 k l n i) (if (l.drop i).any (fun y => decide (diffL y n = 0)) = true then (((i + (l.drop i).findIdx (fun y => decide (diffL y n = 0)) : Nat) : Int), 0) else (0, 3)) := by
  induction d with
  | zero =>
    intro i hi hd
    rw [List.drop_eq_nil_of_le (by omega)]
    apply ev_succ
    simp only [spec_EditionOf.l0, if_neg (show ¬ (i : Int) < (l.length : Int) by omega)]
    exact ev_const rfl
  | succ d ih =>
    intro i hi hd
    have hlt : i < l.length := by omega
    have wi := hw _ (List.getElem_mem hlt)
    have h1 := ih (i + 1) (by omega) (by omega)
    rw [List.drop_eq_getElem_cons hlt, List.any_cons, List.findIdx_cons]
    apply ev_succ
    simp only [spec_EditionOf.l0, if_pos (show (i : Int) < (l.length : Int) by omega), if_pos (show (0 : Int) ≤ (i : Int) by omega), rd_T64_at _ _ hlt]
    refine Ev.bind (differ_ev _ n wi hn) ?_
    by_cases c : diffL l[i] n = 0
    · simp only [if_pos c, decide_eq_true c, Bool.true_or, if_true, cond_true, Nat.add_zero]
      exact ev_const rfl
    · simp only [if_neg c, decide_eq_false c, Bool.false_or, cond_false, w64 (x := (i : Int) + 1) (by omega) (by omega)]
      rw [show i + ((l.drop (i + 1)).findIdx (fun y => decide (diffL y n = 0)) + 1) = i + 1 + (l.drop (i + 1)).findIdx (fun y => decide (diffL y n = 0)) by omega]
      exact h1
theorem sameNames_val (a b : List ByteArray) (ha : a.length ≤ 1048576) : sameNames a b = decide (a = b) := by
  have h1 := sameNames_eq a b (by omega)
  rw [sleq_val a b (by show a.length ≤ maxLen; unfold maxLen; omega) (by omega)] at h1
  exact (Option.some.inj h1).symm
theorem diffL_le (x : S64) (n : List ByteArray) (h : x.f1.length ≤ 1048576) (hn : n.length ≤ 1048576) : 0 ≤ diffL x n ∧ diffL x n ≤ 2097152 := by
  have h1 := lessL_le x.f1 n
  have h2 := lessL_le n x.f1
  unfold diffL
  omega
/-- The code of editions and one of them. -/
theorem one_same (l : List S64) (hl : l.length ≤ 1048576) (hw : ∀ y ∈ l, y.f1.length ≤ 1048576) (a : Int) :
    ∃ c, Ev (fun k => spec_l14One.f k l a) c ∧ Ev (fun k => impl_editionCode.f k l a) c ∧ (c = 0 → 0 ≤ a ∧ a < (l.length : Int) ∧ Ev (fun k => impl_ValidEditions.f k l) true) := by
  obtain ⟨v, h1, h2⟩ := editions_same l hl hw
  have hwr := w64 (x := (l.length : Int) - 1) (by omega) (by omega)
  cases v with
  | false =>
    refine ⟨1, ?_, ?_, fun h => by omega⟩
    · unfold spec_l14One.f
      refine Ev.bind h1 ?_
      simp only [Bool.false_eq_true, if_false]
      exact ev_const rfl
    · unfold impl_editionCode.f
      refine Ev.bind h2 ?_
      simp only [hwr, within_val, Option.bind_some, impl_check.f, Bool.false_eq_true, if_false]
      exact ev_const rfl
  | true =>
    by_cases c : 0 ≤ a ∧ a ≤ (l.length : Int) - 1
    · refine ⟨0, ?_, ?_, fun _ => ⟨by omega, by omega, h2⟩⟩
      · unfold spec_l14One.f
        refine Ev.bind h1 ?_
        simp only [hwr, in_val, Option.bind_some, decide_eq_true c, if_true]
        exact ev_const rfl
      · unfold impl_editionCode.f
        refine Ev.bind h2 ?_
        simp only [hwr, within_val, Option.bind_some, impl_check.f, decide_eq_true c, if_true]
        exact ev_const rfl
    · refine ⟨2, ?_, ?_, fun h => by omega⟩
      · unfold spec_l14One.f
        refine Ev.bind h1 ?_
        simp only [hwr, in_val, Option.bind_some, decide_eq_false c, if_true, Bool.false_eq_true, if_false]
        exact ev_const rfl
      · unfold impl_editionCode.f
        refine Ev.bind h2 ?_
        simp only [hwr, within_val, Option.bind_some, impl_check.f, decide_eq_false c, if_true, Bool.false_eq_true, if_false]
        exact ev_const rfl

/-- The names of the edition before one. -/
def befL (l : List S64) (a : Int) : List ByteArray := if a = 0 then [] else (rd_T64 l (a - 1)).f1
theorem befL_le (l : List S64) (hw : ∀ y ∈ l, y.f1.length ≤ 1048576) (a : Int) (h0 : 0 ≤ a) (h1 : a < (l.length : Int)) : (befL l a).length ≤ 1048576 := by
  unfold befL
  by_cases c : a = 0
  · rw [if_pos c]; simp
  · rw [if_neg c]
    obtain ⟨j, hj⟩ := Int.eq_ofNat_of_zero_le (show 0 ≤ a - 1 by omega)
    rw [hj, rd_T64_at _ _ (show j < l.length by omega)]
    exact hw _ (List.getElem_mem _)
theorem bef_spec (l : List S64) (a : Int) (hl : l.length ≤ 1048576) (h0 : 0 ≤ a) (h1 : a < (l.length : Int)) : spec_l14Before.f l a = some (befL l a) := by
  unfold spec_l14Before.f befL
  by_cases c : a = 0
  · rw [if_pos c, if_pos c]
  · rw [if_neg c, if_neg c, w64 (x := a - 1) (by omega) (by omega), if_pos (by omega), if_pos (by omega)]
theorem bef_impl (l : List S64) (a : Int) (hl : l.length ≤ 1048576) (h0 : 0 ≤ a) (h1 : a < (l.length : Int)) : impl_namesBefore.f l a = some (befL l a) := by
  unfold impl_namesBefore.f befL
  by_cases c : a = 0
  · rw [if_pos c, if_pos c]
  · rw [if_neg c, if_neg c, w64 (x := a - 1) (by omega) (by omega), if_pos (by omega), if_pos (by omega)]
theorem rdE_le (l : List S64) (hw : ∀ y ∈ l, y.f1.length ≤ 1048576) (a : Int) (h0 : 0 ≤ a) (h1 : a < (l.length : Int)) : (rd_T64 l a).f1.length ≤ 1048576 := by
  obtain ⟨j, rfl⟩ := Int.eq_ofNat_of_zero_le h0
  rw [rd_T64_at _ _ (show j < l.length by omega)]
  exact hw _ (List.getElem_mem _)

/-- In valid editions the years are years and ascend. -/
theorem editions_years (l : List S64) (hl : l.length ≤ 1048576) (hw : ∀ y ∈ l, y.f1.length ≤ 1048576) (d : Nat) : ∀ (i : Nat), i ≤ l.length → l.length - i = d → Ev (fun k => impl_ValidEditions.l0 k l l l.length i) true →
    ∀ (j : Nat) (hj : j < l.length), i ≤ j → (1 ≤ l[j].f0 ∧ l[j].f0 ≤ 3000) ∧ (0 < j → (l[j - 1]'(by omega)).f0 < l[j].f0) := by
  induction d with
  | zero =>
    intro i hi hd _ j hj hij
    omega
  | succ d ih =>
    intro i hi hd hE j hj hij
    have hlt : i < l.length := by omega
    have wi := hw _ (List.getElem_mem hlt)
    obtain ⟨n, n1, n2⟩ := shown_same l[i].f1 wi
    obtain ⟨K0, hK0⟩ := n2
    obtain ⟨K, hK⟩ := hE
    have hu : ∀ k, K + K0 ≤ k → impl_ValidEditions.l0 (k + 1) l l l.length i = some true := fun k hk => hK (k + 1) (by omega)
    have hv : ∀ k, K + K0 ≤ k → impl_areShown.f k l[i].f1 = some n := fun k hk => hK0 k (by omega)
    simp only [impl_ValidEditions.l0, if_pos (show (i : Int) < (l.length : Int) by omega), if_pos (show (0 : Int) ≤ (i : Int) by omega), rd_T64_at _ _ hlt, iyear, Option.bind_some] at hu
    have hu2 : ∀ k, K + K0 ≤ k → (if decide (1 ≤ l[i].f0 ∧ l[i].f0 ≤ 3000) = true then (if n = true then (if (i : Int) > 0 then (if 0 ≤ wrap64 ((i : Int) - 1) then (if wrap64 ((i : Int) - 1) < (l.length : Int) then (if (rd_T64 l (wrap64 ((i : Int) - 1))).f0 ≥ l[i].f0 then some false else impl_ValidEditions.l0 k l l l.length (wrap64 ((i : Int) + 1))) else none) else none) else impl_ValidEditions.l0 k l l l.length (wrap64 ((i : Int) + 1))) else some false) else some false) = some true := by
      intro k hk
      have h1 := hu k hk
      rw [hv k hk, Option.bind_some] at h1
      exact h1
    clear hu
    rw [w64 (x := (i : Int) + 1) (by omega) (by omega)] at hu2
    by_cases cy : 1 ≤ l[i].f0 ∧ l[i].f0 ≤ 3000
    · simp only [decide_eq_true cy, if_true] at hu2
      cases n with
      | false =>
        have := hu2 _ (Nat.le_refl _)
        simp only [Bool.false_eq_true, if_false] at this
        cases this
      | true =>
        simp only [if_true] at hu2
        by_cases e : j = i
        · subst e
          refine ⟨cy, fun h0 => ?_⟩
          have h1 := hu2 _ (Nat.le_refl _)
          have hw1 : wrap64 ((j : Int) - 1) = ((j - 1 : Nat) : Int) := by rw [w64 (by omega) (by omega)]; omega
          have hrd : rd_T64 l ((j - 1 : Nat) : Int) = l[j - 1]'(by omega) := rd_T64_at l (j - 1) (by omega)
          simp only [if_pos (show (j : Int) > 0 by omega), hw1, if_pos (show (0 : Int) ≤ ((j - 1 : Nat) : Int) by omega), if_pos (show ((j - 1 : Nat) : Int) < (l.length : Int) by omega), hrd] at h1
          by_cases c : (l[j - 1]'(by omega)).f0 ≥ l[j].f0
          · rw [if_pos c] at h1
            cases h1
          · omega
        · refine ih (i + 1) (by omega) (by omega) ⟨K + K0, fun k hk => ?_⟩ j hj (by omega)
          have h1 := hu2 k hk
          repeat' split at h1
          all_goals first | exact h1 | cases h1
    · have := hu2 _ (Nat.le_refl _)
      simp only [decide_eq_false cy, Bool.false_eq_true, if_false] at this
      cases this

theorem near2_l (l : List S64) (hl : l.length ≤ 1048576) (hw : ∀ y ∈ l, y.f1.length ≤ 1048576) (n : List ByteArray) (hn : n.length ≤ 1048576) (d : Nat) : ∀ (b i : Nat) (hb : b < l.length), i ≤ l.length → l.length - i = d → (∀ j : Nat, (hj : j < i) → (hj2 : j < l.length) → diffL l[b] n ≤ diffL l[j] n) →
    ∃ (r : Nat) (hr : r < l.length), Ev (fun k => spec_NearestEdition.l0 k l n b i) ((r : Int), diffL l[r] n, 0) ∧ Ev (fun k => impl_NearestEdition.l0 k n b (diffL l[b] n) l l.length i) ((r : Int), diffL l[r] n, 0) ∧ ∀ j : Nat, (hj2 : j < l.length) → diffL l[r] n ≤ diffL l[j] n := by
  induction d with
  | zero =>
    intro b i hb hi hd hq
    refine ⟨b, hb, ev_succ ?_, ev_succ ?_, fun j hj2 => hq j (by omega) hj2⟩
    · simp only [spec_NearestEdition.l0, if_neg (show ¬ (i : Int) < (l.length : Int) by omega), if_pos (show (0 : Int) ≤ (b : Int) by omega), if_pos (show (b : Int) < (l.length : Int) by omega), rd_T64_at _ _ hb]
      refine Ev.bind (differ_ev _ n (hw _ (List.getElem_mem hb)) hn) ?_
      exact ev_const rfl
    · simp only [impl_NearestEdition.l0, if_neg (show ¬ (i : Int) < (l.length : Int) by omega), if_neg (show ¬ (b : Int) < 0 by omega)]
      exact ev_const rfl
  | succ d ih =>
    intro b i hb hi hd hq
    have hlt : i < l.length := by omega
    have wi := hw _ (List.getElem_mem hlt)
    have wb := hw _ (List.getElem_mem hb)
    have l1 := lessL_le l[i].f1 n
    have l2 := lessL_le n l[i].f1
    by_cases c : diffL l[i] n < diffL l[b] n
    · obtain ⟨r, hr, h1, h2, h3⟩ := ih i (i + 1) hlt (by omega) (by omega) (fun j hj hj2 => by
        by_cases e : j = i
        · subst e; exact Int.le_refl _
        · have := hq j (by omega) hj2; omega)
      refine ⟨r, hr, ev_succ ?_, ev_succ ?_, h3⟩
      · simp only [spec_NearestEdition.l0, if_pos (show (i : Int) < (l.length : Int) by omega), if_pos (show (0 : Int) ≤ (i : Int) by omega), if_pos (show (0 : Int) ≤ (b : Int) by omega), if_pos (show (b : Int) < (l.length : Int) by omega), rd_T64_at _ _ hb, rd_T64_at _ _ hlt]
        refine Ev.bind (differ_ev _ n wi hn) (Ev.bind (differ_ev _ n wb hn) ?_)
        simp only [if_pos c, w64 (x := (i : Int) + 1) (by omega) (by omega)]
        exact h1
      · simp only [impl_NearestEdition.l0, if_pos (show (i : Int) < (l.length : Int) by omega), if_pos (show (0 : Int) ≤ (i : Int) by omega), rd_T64_at _ _ hlt]
        refine Ev.bind (less_impl _ _ wi hn) (Ev.bind (less_impl _ _ hn wi) ?_)
        simp only [if_neg (show ¬ (b : Int) < 0 by omega), w64 (x := ((lessL l[i].f1 n).length : Int) + ((lessL n l[i].f1).length : Int)) (by omega) (by omega), if_pos (show ((lessL l[i].f1 n).length : Int) + ((lessL n l[i].f1).length : Int) < diffL l[b] n from c), w64 (x := (i : Int) + 1) (by omega) (by omega)]
        exact h2
    · obtain ⟨r, hr, h1, h2, h3⟩ := ih b (i + 1) hb (by omega) (by omega) (fun j hj hj2 => by
        by_cases e : j = i
        · subst e; omega
        · exact hq j (by omega) hj2)
      refine ⟨r, hr, ev_succ ?_, ev_succ ?_, h3⟩
      · simp only [spec_NearestEdition.l0, if_pos (show (i : Int) < (l.length : Int) by omega), if_pos (show (0 : Int) ≤ (i : Int) by omega), if_pos (show (0 : Int) ≤ (b : Int) by omega), if_pos (show (b : Int) < (l.length : Int) by omega), rd_T64_at _ _ hb, rd_T64_at _ _ hlt]
        refine Ev.bind (differ_ev _ n wi hn) (Ev.bind (differ_ev _ n wb hn) ?_)
        simp only [if_neg c, w64 (x := (i : Int) + 1) (by omega) (by omega)]
        exact h1
      · simp only [impl_NearestEdition.l0, if_pos (show (i : Int) < (l.length : Int) by omega), if_pos (show (0 : Int) ≤ (i : Int) by omega), rd_T64_at _ _ hlt]
        refine Ev.bind (less_impl _ _ wi hn) (Ev.bind (less_impl _ _ hn wi) ?_)
        simp only [if_neg (show ¬ (b : Int) < 0 by omega), w64 (x := ((lessL l[i].f1 n).length : Int) + ((lessL n l[i].f1).length : Int)) (by omega) (by omega), if_neg (show ¬ ((lessL l[i].f1 n).length : Int) + ((lessL n l[i].f1).length : Int) < diffL l[b] n from c), w64 (x := (i : Int) + 1) (by omega) (by omega)]
        exact h2
theorem near2_same (l : List S64) (hl : l.length ≤ 1048576) (hw : ∀ y ∈ l, y.f1.length ≤ 1048576) (n : List ByteArray) (hn : n.length ≤ 1048576) : ∃ k0 nd bad at_ one, Ev (fun k => spec_NearestEdition.f k l n) (k0, nd, bad) ∧ Ev (fun k => impl_NearestEdition.f k l n) (k0, nd, bad) ∧ Ev (fun k => spec_EditionOf.f k l n) (at_, one) ∧ Ev (fun k => impl_EditionOf.f k l n) (at_, one) ∧ (bad = 0 → (one = 0 ↔ nd = 0)) := by
  obtain ⟨v, h1, h2⟩ := editions_same l hl hw
  obtain ⟨v2, g1, g2⟩ := shown_same n hn
  cases v with
  | false =>
    refine ⟨0, 0, 1, 0, 1, ?_, ?_, ?_, ?_, fun h => by omega⟩
    · unfold spec_NearestEdition.f spec_l14Code.f
      refine Ev.bind (a := 1) (Ev.bind h1 (ev_const rfl)) ?_
      simp only [if_neg (show ¬ (1 : Int) = 0 by omega)]
      refine ev_succ ?_
      simp only [spec_NearestEdition.j0, Bool.false_eq_true, if_false]
      refine ev_succ ?_
      simp only [spec_NearestEdition.j1, if_neg (show ¬ (1 : Int) = 0 by omega)]
      exact ev_const rfl
    · unfold impl_NearestEdition.f
      refine Ev.bind h2 (Ev.bind g2 ?_)
      simp only [Option.bind_some, impl_check.f, Bool.false_eq_true, if_false, if_neg (show ¬ (1 : Int) = 0 by omega)]
      exact ev_const rfl
    · unfold spec_EditionOf.f spec_l14Code.f
      refine Ev.bind (a := 1) (Ev.bind h1 (ev_const rfl)) ?_
      simp only [if_neg (show ¬ (1 : Int) = 0 by omega)]
      exact ev_const rfl
    · unfold impl_EditionOf.f
      refine Ev.bind h2 (Ev.bind g2 ?_)
      exact ev_const rfl
  | true =>
    cases v2 with
    | false =>
      refine ⟨0, 0, 2, 0, 2, ?_, ?_, ?_, ?_, fun h => by omega⟩
      · unfold spec_NearestEdition.f spec_l14Code.f
        refine Ev.bind (a := 2) (Ev.bind h1 (by simp only [if_true]; exact Ev.bind g1 (ev_const rfl))) ?_
        simp only [if_neg (show ¬ (2 : Int) = 0 by omega)]
        refine ev_succ ?_
        simp only [spec_NearestEdition.j0, Bool.false_eq_true, if_false]
        refine ev_succ ?_
        simp only [spec_NearestEdition.j1, if_neg (show ¬ (2 : Int) = 0 by omega)]
        exact ev_const rfl
      · unfold impl_NearestEdition.f
        refine Ev.bind h2 (Ev.bind g2 ?_)
        simp only [Option.bind_some, impl_check.f, Bool.false_eq_true, if_false, if_true, if_neg (show ¬ (2 : Int) = 0 by omega)]
        exact ev_const rfl
      · unfold spec_EditionOf.f spec_l14Code.f
        refine Ev.bind (a := 2) (Ev.bind h1 (by simp only [if_true]; exact Ev.bind g1 (ev_const rfl))) ?_
        simp only [if_neg (show ¬ (2 : Int) = 0 by omega)]
        exact ev_const rfl
      · unfold impl_EditionOf.f
        refine Ev.bind h2 (Ev.bind g2 ?_)
        exact ev_const rfl
    | true =>
      have hc : Ev (fun k => spec_l14Code.f k l n) 0 := by
        unfold spec_l14Code.f
        exact Ev.bind h1 (by simp only [if_true]; exact Ev.bind g1 (ev_const rfl))
      have s1 := sedition_l l hl hw n hn l.length 0 (by omega) (by omega)
      have hnp : n.Pairwise BL := chain_lt _ (fun q hq h0 => shown_chain _ hn n.length 0 (by omega) (by omega) g2 q hq (by omega) h0)
      have hep := editions_names l hl hw l.length 0 (by omega) (by omega) h2
      have hcg := idx_congr (fun y : S64 => sameNames y.f1 n) (fun y => decide (diffL y n = 0)) l (fun y hy => by
        obtain ⟨j, hj, rfl⟩ := List.getElem_of_mem hy
        show sameNames (l[j]).f1 n = decide (diffL l[j] n = 0)
        rw [sameNames_val _ n (hw _ hy)]
        exact decide_eq_decide.2 (diff_zero l[j] n (hep j hj (by omega)) hnp).symm)
      rw [List.drop_zero, ← hcg.1, ← hcg.2, Nat.zero_add] at s1
      have t1 : Ev (fun k => spec_EditionOf.f k l n) (if (l.any fun y : S64 => sameNames y.f1 n) = true then (((l.findIdx (fun y => sameNames y.f1 n) : Nat) : Int), 0) else (0, 3)) := by
        unfold spec_EditionOf.f
        refine Ev.bind hc ?_
        simp only [if_true]
        exact s1
      have t2 : Ev (fun k => impl_EditionOf.f k l n) (if (l.any fun y : S64 => sameNames y.f1 n) = true then (((l.findIdx (fun y => sameNames y.f1 n) : Nat) : Int), 0) else (0, 3)) := by
        unfold impl_EditionOf.f
        refine Ev.bind h2 (Ev.bind g2 ?_)
        apply ev_const
        simp only [if_true]
        unfold idxEd_v
        cases ha : l.any (fun y : S64 => sameNames y.f1 n) with
        | false => rfl
        | true =>
          simp only [if_true]
          rw [if_neg (by omega)]
      have hany : (l.any fun y : S64 => sameNames y.f1 n) = (l.any fun y : S64 => decide (diffL y n = 0)) := hcg.2
      have hdec : ∃ at_ one, (if (l.any fun y : S64 => sameNames y.f1 n) = true then (((l.findIdx (fun y => sameNames y.f1 n) : Nat) : Int), (0 : Int)) else (0, 3)) = (at_, one) ∧ (one = 0 ↔ ∃ j : Nat, ∃ hj : j < l.length, diffL l[j] n = 0) := by
        rw [hany]
        by_cases c : (l.any fun y : S64 => decide (diffL y n = 0)) = true
        · rw [if_pos c]
          refine ⟨_, _, rfl, fun _ => ?_, fun _ => rfl⟩
          obtain ⟨x, hx, hq⟩ := List.any_eq_true.1 c
          obtain ⟨j, hj, rfl⟩ := List.getElem_of_mem hx
          exact ⟨j, hj, of_decide_eq_true hq⟩
        · rw [if_neg c]
          refine ⟨_, _, rfl, fun h => by omega, fun h => ?_⟩
          obtain ⟨j, hj, hq⟩ := h
          exact absurd (List.any_eq_true.2 ⟨_, List.getElem_mem hj, decide_eq_true hq⟩) c
      obtain ⟨at_, one, hv, hw1⟩ := hdec
      rw [hv] at t1 t2
      by_cases hz : l.length = 0
      · refine ⟨0, 0, 3, at_, one, ?_, ?_, t1, t2, fun h => by omega⟩
        · unfold spec_NearestEdition.f
          refine Ev.bind hc ?_
          simp only [if_true, hz]
          refine ev_succ ?_
          simp only [spec_NearestEdition.j0, Int.cast_ofNat_Int, beq_self_eq_true, if_true]
          refine ev_succ ?_
          simp only [spec_NearestEdition.j1, if_neg (show ¬ (3 : Int) = 0 by omega)]
          exact ev_const rfl
        · unfold impl_NearestEdition.f
          refine Ev.bind h2 (Ev.bind g2 ?_)
          simp only [Option.bind_some, impl_check.f, if_true]
          refine ev_succ ?_
          simp only [impl_NearestEdition.l0, if_neg (show ¬ (0 : Int) < (l.length : Int) by omega), if_pos (show (-1 : Int) < 0 by omega)]
          exact ev_const rfl
      · have h0 : 0 < l.length := by omega
        have w0 := hw _ (List.getElem_mem h0)
        have l1 := lessL_le l[0].f1 n
        have l2 := lessL_le n l[0].f1
        obtain ⟨r, hr, e1, e2, e3⟩ := near2_l l hl hw n hn (l.length - 1) 0 1 h0 (by omega) rfl (fun j hj hj2 => by
          have : j = 0 := by omega
          subst this; exact Int.le_refl _)
        have hr0 : rd_T64 l 0 = l[0] := rd_T64_at l 0 h0
        refine ⟨(r : Int), diffL l[r] n, 0, at_, one, ?_, ?_, t1, t2, fun _ => ?_⟩
        · unfold spec_NearestEdition.f
          refine Ev.bind hc ?_
          simp only [if_true, beq_eq_false_iff_ne.2 (show ¬ (l.length : Int) = 0 by omega)]
          refine ev_succ ?_
          simp only [spec_NearestEdition.j0, Bool.false_eq_true, if_false]
          refine ev_succ ?_
          simp only [spec_NearestEdition.j1, if_true]
          exact e1
        · unfold impl_NearestEdition.f
          refine Ev.bind h2 (Ev.bind g2 ?_)
          simp only [Option.bind_some, impl_check.f, if_true]
          refine ev_succ ?_
          simp only [impl_NearestEdition.l0, if_pos (show (0 : Int) < (l.length : Int) by omega), if_pos (show (0 : Int) ≤ (0 : Int) by omega), hr0]
          refine Ev.bind (less_impl _ _ w0 hn) (Ev.bind (less_impl _ _ hn w0) ?_)
          simp only [if_pos (show (-1 : Int) < 0 by omega), w64 (x := ((lessL l[0].f1 n).length : Int) + ((lessL n l[0].f1).length : Int)) (by omega) (by omega), w64 (x := (0 : Int) + 1) (by omega) (by omega)]
          exact e2
        · have hge := (diffL_le l[r] n (hw _ (List.getElem_mem hr)) hn).1
          rw [hw1]
          constructor
          · rintro ⟨j, hj, hq⟩
            have := e3 j hj
            omega
          · intro h
            exact ⟨r, hr, h⟩
theorem back2_l (l : List S64) (hl : l.length ≤ 1048576) (y : Int) (i : Nat) : i ≤ l.length → (∀ j : Nat, (hj : i ≤ j) → (hj2 : j < l.length) → y < l[j].f0) → ∃ r c, Ev (fun k => spec_EditionIn.l0 k l y ((i : Int) - 1)) (r, c) ∧ Ev (fun k => impl_EditionIn.l0 k l y ((i : Int) - 1)) (r, c) ∧ (c = 0 → ∃ (j : Nat) (hj : j < l.length), r = (j : Int) ∧ l[j].f0 ≤ y ∧ ∀ (h2 : j + 1 < l.length), y < l[j + 1].f0) := by
  induction i with
  | zero =>
    intro _ _
    refine ⟨0, 3, ev_succ ?_, ev_succ ?_, fun h => by omega⟩
    · simp only [spec_EditionIn.l0, if_neg (show ¬ (((0 : Nat) : Int) - 1) ≥ 0 by omega)]
      exact ev_const rfl
    · simp only [impl_EditionIn.l0, if_neg (show ¬ (((0 : Nat) : Int) - 1) ≥ 0 by omega), if_pos (show (((0 : Nat) : Int) - 1) < 0 by omega)]
      exact ev_const rfl
  | succ i ih =>
    intro hi hq
    have hlt : i < l.length := by omega
    have e : (((i + 1 : Nat) : Int) - 1) = (i : Int) := by omega
    rw [e]
    by_cases c : l[i].f0 ≤ y
    · refine ⟨(i : Int), 0, ev_succ ?_, ev_succ ?_, fun _ => ⟨i, hlt, rfl, c, fun h2 => hq (i + 1) (by omega) h2⟩⟩
      · simp only [spec_EditionIn.l0, if_pos (show (i : Int) ≥ 0 by omega), if_pos (show (0 : Int) ≤ (i : Int) by omega), if_pos (show (i : Int) < (l.length : Int) by omega), rd_T64_at _ _ hlt, if_pos c]
        exact ev_const rfl
      · simp only [impl_EditionIn.l0, if_pos (show (i : Int) ≥ 0 by omega), if_pos (show (0 : Int) ≤ (i : Int) by omega), if_pos (show (i : Int) < (l.length : Int) by omega), rd_T64_at _ _ hlt, if_neg (show ¬ l[i].f0 > y by omega), if_neg (show ¬ (i : Int) < 0 by omega)]
        exact ev_const rfl
    · obtain ⟨r, c2, h1, h2, h3⟩ := ih (by omega) (fun j hj hj2 => by
        by_cases e : j = i
        · subst e; omega
        · exact hq j (by omega) hj2)
      refine ⟨r, c2, ev_succ ?_, ev_succ ?_, h3⟩
      · simp only [spec_EditionIn.l0, if_pos (show (i : Int) ≥ 0 by omega), if_pos (show (0 : Int) ≤ (i : Int) by omega), if_pos (show (i : Int) < (l.length : Int) by omega), rd_T64_at _ _ hlt, if_neg c, w64 (x := (i : Int) - 1) (by omega) (by omega)]
        exact h1
      · simp only [impl_EditionIn.l0, if_pos (show (i : Int) ≥ 0 by omega), if_pos (show (0 : Int) ≤ (i : Int) by omega), if_pos (show (i : Int) < (l.length : Int) by omega), rd_T64_at _ _ hlt, if_pos (show l[i].f0 > y by omega), w64 (x := (i : Int) - 1) (by omega) (by omega)]
        exact h2
theorem edin2_same (l : List S64) (hl : l.length ≤ 1048576) (hw : ∀ y ∈ l, y.f1.length ≤ 1048576) (y : Int) : ∃ r c, Ev (fun k => spec_EditionIn.f k l y) (r, c) ∧ Ev (fun k => impl_EditionIn.f k l y) (r, c) ∧ (c = 0 → ∃ (j : Nat) (hj : j < l.length), r = (j : Int) ∧ l[j].f0 ≤ y ∧ ∀ (h2 : j + 1 < l.length), y < l[j + 1].f0) := by
  obtain ⟨v, h1, h2⟩ := editions_same l hl hw
  cases v with
  | false =>
    refine ⟨0, 1, ?_, ?_, fun h => by omega⟩
    · unfold spec_EditionIn.f
      refine Ev.bind h1 ?_
      simp only [Bool.false_eq_true, if_false]
      exact ev_const rfl
    · unfold impl_EditionIn.f
      refine Ev.bind h2 ?_
      simp only [iyear, Option.bind_some, impl_check.f, Bool.false_eq_true, if_false, if_neg (show ¬ (1 : Int) = 0 by omega)]
      exact ev_const rfl
  | true =>
    by_cases c : 1 ≤ y ∧ y ≤ 3000
    · obtain ⟨r, c2, e1, e2, e3⟩ := back2_l l hl y l.length (Nat.le_refl _) (fun j hj hj2 => by omega)
      refine ⟨r, c2, ?_, ?_, e3⟩
      · unfold spec_EditionIn.f
        refine Ev.bind h1 ?_
        simp only [if_true, syear, Option.bind_some, decide_eq_true c, w64 (x := (l.length : Int) - 1) (by omega) (by omega)]
        exact e1
      · unfold impl_EditionIn.f
        refine Ev.bind h2 ?_
        simp only [iyear, Option.bind_some, impl_check.f, decide_eq_true c, if_true, w64 (x := (l.length : Int) - 1) (by omega) (by omega)]
        exact e2
    · refine ⟨0, 2, ?_, ?_, fun h => by omega⟩
      · unfold spec_EditionIn.f
        refine Ev.bind h1 ?_
        simp only [if_true, syear, Option.bind_some, decide_eq_false c, Bool.false_eq_true, if_false]
        exact ev_const rfl
      · unfold impl_EditionIn.f
        refine Ev.bind h2 ?_
        simp only [iyear, Option.bind_some, impl_check.f, decide_eq_false c, if_true, Bool.false_eq_true, if_false, if_neg (show ¬ (2 : Int) = 0 by omega)]
        exact ev_const rfl
theorem first2_l (l : List S64) (hl : l.length ≤ 1048576) (hw : ∀ y ∈ l, y.f1.length ≤ 1048576) (a : ByteArray) (d : Nat) : ∀ (i : Nat), i ≤ l.length → l.length - i = d →
    ∃ r c, Ev (fun k => spec_FirstShown.l0 k l a i) (r, c) ∧ Ev (fun k => impl_FirstShown.l0 k a l l.length i) (r, c) ∧ (c = 0 → ∃ (j : Nat) (hj : j < l.length), r = l[j].f0 ∧ ∀ q : Nat, (h1 : i ≤ q) → (h2 : q < j) → hasB (l[q]'(by omega)).f1 a = false) := by
  induction d with
  | zero =>
    intro i hi hd
    refine ⟨0, 3, ev_succ ?_, ev_succ ?_, fun h => by omega⟩
    · simp only [spec_FirstShown.l0, if_neg (show ¬ (i : Int) < (l.length : Int) by omega)]
      exact ev_const rfl
    · simp only [impl_FirstShown.l0, if_neg (show ¬ (i : Int) < (l.length : Int) by omega)]
      exact ev_const rfl
  | succ d ih =>
    intro i hi hd
    have hlt : i < l.length := by omega
    have hn := hw _ (List.getElem_mem hlt)
    by_cases c : hasB l[i].f1 a = true
    · refine ⟨l[i].f0, 0, ev_succ ?_, ev_succ ?_, fun _ => ⟨i, hlt, rfl, fun q h1 h2 => by omega⟩⟩
      · simp only [spec_FirstShown.l0, if_pos (show (i : Int) < (l.length : Int) by omega), if_pos (show (0 : Int) ≤ (i : Int) by omega), rd_T64_at _ _ hlt]
        refine Ev.bind (has_spec _ hn a) ?_
        simp only [c, if_true]
        exact ev_const rfl
      · simp only [impl_FirstShown.l0, if_pos (show (i : Int) < (l.length : Int) by omega), if_pos (show (0 : Int) ≤ (i : Int) by omega), rd_T64_at _ _ hlt]
        refine Ev.bind (has_impl _ hn a) ?_
        simp only [c, if_true]
        exact ev_const rfl
    · replace c : hasB l[i].f1 a = false := by simpa using c
      obtain ⟨r, c2, h1, h2, h3⟩ := ih (i + 1) (by omega) (by omega)
      refine ⟨r, c2, ev_succ ?_, ev_succ ?_, fun hc => ?_⟩
      · simp only [spec_FirstShown.l0, if_pos (show (i : Int) < (l.length : Int) by omega), if_pos (show (0 : Int) ≤ (i : Int) by omega), rd_T64_at _ _ hlt]
        refine Ev.bind (has_spec _ hn a) ?_
        simp only [c, Bool.false_eq_true, if_false, w64 (x := (i : Int) + 1) (by omega) (by omega)]
        exact h1
      · simp only [impl_FirstShown.l0, if_pos (show (i : Int) < (l.length : Int) by omega), if_pos (show (0 : Int) ≤ (i : Int) by omega), rd_T64_at _ _ hlt]
        refine Ev.bind (has_impl _ hn a) ?_
        simp only [c, Bool.false_eq_true, if_false, w64 (x := (i : Int) + 1) (by omega) (by omega)]
        exact h2
      · obtain ⟨j, hj, hv, hq⟩ := h3 hc
        refine ⟨j, hj, hv, fun q q1 q2 => ?_⟩
        by_cases e : q = i
        · subst e; exact c
        · exact hq q (by omega) q2
theorem first2_same (l : List S64) (hl : l.length ≤ 1048576) (hw : ∀ y ∈ l, y.f1.length ≤ 1048576) (a : ByteArray) : ∃ r c, Ev (fun k => spec_FirstShown.f k l a) (r, c) ∧ Ev (fun k => impl_FirstShown.f k l a) (r, c) ∧ (c = 0 → ∀ y ∈ l, y.f0 < r → hasB y.f1 a = false) := by
  obtain ⟨v, h1, h2⟩ := editions_same l hl hw
  cases v with
  | false =>
    refine ⟨0, 1, ?_, ?_, fun h => by omega⟩
    · unfold spec_FirstShown.f
      refine Ev.bind h1 ?_
      simp only [Bool.false_eq_true, if_false]
      exact ev_const rfl
    · unfold impl_FirstShown.f
      refine Ev.bind h2 ?_
      simp only [impl_name, Option.bind_some, impl_check.f, Bool.false_eq_true, if_false, if_neg (show ¬ (1 : Int) = 0 by omega)]
      exact ev_const rfl
  | true =>
    by_cases c : IsNm a
    · obtain ⟨r, c2, e1, e2, e3⟩ := first2_l l hl hw a l.length 0 (by omega) (by omega)
      have hy := editions_years l hl hw l.length 0 (by omega) (by omega) h2
      refine ⟨r, c2, ?_, ?_, fun hc y hy1 hlt => ?_⟩
      · unfold spec_FirstShown.f
        refine Ev.bind h1 ?_
        simp only [if_true]
        refine Ev.bind (spec_name a) ?_
        simp only [decide_eq_true c, if_true]
        exact e1
      · unfold impl_FirstShown.f
        refine Ev.bind h2 ?_
        simp only [impl_name, Option.bind_some, impl_check.f, decide_eq_true c, if_true]
        exact e2
      · obtain ⟨j, hj, hv, hq⟩ := e3 hc
        obtain ⟨q, hq1, rfl⟩ := List.getElem_of_mem hy1
        by_cases hqj : q < j
        · exact hq q (by omega) hqj
        · have mono : ∀ d : Nat, ∀ (h : j + d < l.length), l[j].f0 ≤ l[j + d].f0 := by
            intro d
            induction d with
            | zero => intro h; exact Int.le_refl _
            | succ d ihd =>
              intro h
              have h1 := ihd (by omega)
              have h2 := (hy (j + (d + 1)) h (by omega)).2 (by omega)
              simp only [show j + (d + 1) - 1 = j + d by omega] at h2
              omega
          have h1 := mono (q - j) (by omega)
          simp only [show j + (q - j) = q by omega] at h1
          omega
    · refine ⟨0, 2, ?_, ?_, fun h => by omega⟩
      · unfold spec_FirstShown.f
        refine Ev.bind h1 ?_
        simp only [if_true]
        refine Ev.bind (spec_name a) ?_
        simp only [decide_eq_false c, Bool.false_eq_true, if_false]
        exact ev_const rfl
      · unfold impl_FirstShown.f
        refine Ev.bind h2 ?_
        simp only [impl_name, Option.bind_some, impl_check.f, decide_eq_false c, if_true, Bool.false_eq_true, if_false, if_neg (show ¬ (2 : Int) = 0 by omega)]
        exact ev_const rfl
theorem hasB_of_mem (b : List ByteArray) (x : ByteArray) (h : x ∈ b) : hasB b x = true := List.any_eq_true.2 ⟨x, h, decide_eq_true rfl⟩
theorem newold_same (l : List S64) (hl : l.length ≤ 1048576) (hw : ∀ y ∈ l, y.f1.length ≤ 1048576) (a : Int) : ∃ add gone c, Ev (fun k => spec_NewNames.f k l a) (add, c) ∧ Ev (fun k => impl_NewNames.f k l a) (add, c) ∧ Ev (fun k => spec_OldNames.f k l a) (gone, c) ∧ Ev (fun k => impl_OldNames.f k l a) (gone, c) ∧ add.length ≤ 1048576 ∧ gone.length ≤ 1048576 ∧
    (c = 0 → 0 ≤ a ∧ a < (l.length : Int) ∧ (∀ z ∈ add, hasB (rd_T64 l a).f1 z = true ∧ (0 < a → hasB (rd_T64 l (a - 1)).f1 z = false)) ∧ (∀ z ∈ gone, a ≠ 0 ∧ hasB (rd_T64 l a).f1 z = false ∧ hasB (rd_T64 l (a - 1)).f1 z = true)) := by
  obtain ⟨c, h1, h2, h3⟩ := one_same l hl hw a
  by_cases hc : c = 0
  · subst hc
    obtain ⟨a0, a1, _⟩ := h3 rfl
    have w1 := rdE_le l hw a a0 a1
    have w2 := befL_le l hw a a0 a1
    have hlen := lessL_le ((rd_T64 l a).f1) (befL l a)
    have hlen2 := lessL_le (befL l a) ((rd_T64 l a).f1)
    refine ⟨lessL ((rd_T64 l a).f1) (befL l a), lessL (befL l a) ((rd_T64 l a).f1), 0, ?_, ?_, ?_, ?_, by omega, by omega, fun _ => ⟨a0, a1, fun z hz => ?_, fun z hz => ?_⟩⟩
    · unfold spec_NewNames.f
      refine Ev.bind h1 ?_
      simp only [if_true, if_pos a0, if_pos a1, bef_spec l a hl a0 a1, Option.bind_some]
      exact Ev.bind (less_spec _ _ (by omega) (by omega)) (ev_const rfl)
    · unfold impl_NewNames.f
      refine Ev.bind h2 ?_
      simp only [if_true, if_pos a0, if_pos a1, bef_impl l a hl a0 a1, Option.bind_some]
      exact Ev.bind (less_impl _ _ (by omega) (by omega)) (ev_const rfl)
    · unfold spec_OldNames.f
      refine Ev.bind h1 ?_
      simp only [if_true, if_pos a0, if_pos a1, bef_spec l a hl a0 a1, Option.bind_some]
      exact Ev.bind (less_spec _ _ (by omega) (by omega)) (ev_const rfl)
    · unfold impl_OldNames.f
      refine Ev.bind h2 ?_
      simp only [if_true, if_pos a0, if_pos a1, bef_impl l a hl a0 a1, Option.bind_some]
      exact Ev.bind (less_impl _ _ (by omega) (by omega)) (ev_const rfl)
    · obtain ⟨m1, m2⟩ := List.mem_filter.1 hz
      refine ⟨hasB_of_mem _ _ m1, fun hgt => ?_⟩
      have hb : befL l a = (rd_T64 l (a - 1)).f1 := by unfold befL; rw [if_neg (by omega)]
      rw [hb] at m2
      simpa using m2
    · obtain ⟨m1, m2⟩ := List.mem_filter.1 hz
      have hne : a ≠ 0 := by
        intro e
        rw [show befL l a = [] from by unfold befL; rw [if_pos e]] at m1
        cases m1
      have hb : befL l a = (rd_T64 l (a - 1)).f1 := by unfold befL; rw [if_neg hne]
      rw [hb] at m1
      exact ⟨hne, by simpa using m2, hasB_of_mem _ _ m1⟩
  · refine ⟨[], [], c, ?_, ?_, ?_, ?_, by simp, by simp, fun h => absurd h hc⟩
    · unfold spec_NewNames.f
      refine Ev.bind h1 ?_
      simp only [if_neg hc]
      exact ev_const rfl
    · unfold impl_NewNames.f
      refine Ev.bind h2 ?_
      simp only [if_neg hc]
      exact ev_const rfl
    · unfold spec_OldNames.f
      refine Ev.bind h1 ?_
      simp only [if_neg hc]
      exact ev_const rfl
    · unfold impl_OldNames.f
      refine Ev.bind h2 ?_
      simp only [if_neg hc]
      exact ev_const rfl

/-- Bytes. -/
def Bytes (l : List Int) : Prop := ∀ x ∈ l, 0 ≤ x ∧ x ≤ 255
theorem bytes_of {l : List Int} (h : ∀ x ∈ l, (Lit.int .u8 x).wf = true) : Bytes l := by
  intro x hx
  have := h x hx
  simpa [Lit.wf, IntKind.min, IntKind.max, IntKind.signed, IntKind.bits] using this
theorem rd_nat (l : List Int) (i : Nat) (h : i < l.length) : rd l (i : Int) = l[i] := by
  unfold rd
  rw [Int.toNat_natCast, List.getD_eq_getElem?_getD, List.getElem?_eq_getElem h]
  rfl
theorem rd_bytes {l : List Int} (h : Bytes l) {i : Int} (h0 : 0 ≤ i) (hi : i < (l.length : Int)) : 0 ≤ rd l i ∧ rd l i ≤ 255 := by
  obtain ⟨j, rfl⟩ := Int.eq_ofNat_of_zero_le h0
  rw [rd_nat l j (by omega)]
  exact h _ (List.getElem_mem _)
theorem wrap_u64 (n : Int) : IntKind.u64.wrap n = n % 18446744073709551616 := by simp [IntKind.wrap, IntKind.bits, IntKind.signed]
theorem low_byte {x : Int} (h0 : 0 ≤ x) (h1 : x < 18446744073709551616) : Go.bits .and .u64 x 255 = x % 256 :=
  bits_mask .u64 64 (by decide) (fun n h0 h1 => by rw [wrap_u64]; omega) 8 (by decide) x h0 (by simpa using h1)

theorem next_val {l : List Int} (hB : Bytes l) (hl : l.length ≤ 140737488351232) {a s : Int} (h0 : 0 ≤ a) (h1 : a ≤ 1000000000) : ∃ b s', spec_l00Src_next.f l a s = some (b, a + 1, s') ∧ 0 ≤ b ∧ b ≤ 255 := by
  unfold spec_l00Src_next.f
  rw [w64 (x := a + 1) (by omega) (by omega)]
  have hlow : ∀ z : Int, 0 ≤ wrap64 (Go.bits .and .u64 (IntKind.u64.wrap z / 1099511627776) 255) ∧ wrap64 (Go.bits .and .u64 (IntKind.u64.wrap z / 1099511627776) 255) ≤ 255 := by
    intro z
    rw [wrap_u64, low_byte (by omega) (by omega), w64 (by omega) (by omega)]
    omega
  by_cases h : a < (l.length : Int)
  · have hr := rd_bytes hB h0 h
    rw [if_pos h, if_pos h0, if_pos (by omega), w64 (x := rd l a) (by omega) (by omega)]
    exact ⟨_, _, rfl, hr.1, hr.2⟩
  · rw [if_neg h, if_neg (by omega)]
    exact ⟨_, _, rfl, (hlow _).1, (hlow _).2⟩
theorem pick_val {l : List Int} (hB : Bytes l) (hl : l.length ≤ 140737488351232) {a s : Int} (h0 : 0 ≤ a) (h1 : a ≤ 100000000) (n : Int) : ∃ v a' s', spec_l00Src_pick.f l a s n = some (v, a', s') ∧ a ≤ a' ∧ a' ≤ a + 2 ∧ 0 ≤ v ∧ (1 < n → v < n) ∧ (n ≤ 1 → v = 0) := by
  unfold spec_l00Src_pick.f
  by_cases h : n ≤ 1
  · rw [if_pos h]
    exact ⟨0, a, s, rfl, by omega, by omega, by omega, fun h => by omega, fun _ => rfl⟩
  · rw [if_neg h]
    obtain ⟨b, s1, e1, b0, b1⟩ := next_val hB hl (s := s) h0 (by omega)
    rw [e1]
    simp only [Option.bind_some]
    by_cases hn : n > 200
    · obtain ⟨c, s2, e2, c0, c1⟩ := next_val hB hl (a := a + 1) (s := s1) (by omega) (by omega)
      rw [if_pos hn, e2]
      simp only [Option.bind_some]
      rw [if_neg (by omega), w64 (x := b * 256) (by omega) (by omega), w64 (x := b * 256 + c) (by omega) (by omega), tmod_nn (by omega)]
      exact ⟨_, _, _, rfl, by omega, by omega, Int.emod_nonneg _ (by omega), fun _ => Int.emod_lt_of_pos _ (by omega), fun h2 => absurd h2 h⟩
    · rw [if_neg hn, if_neg (by omega), tmod_nn (by omega)]
      exact ⟨_, _, _, rfl, by omega, by omega, Int.emod_nonneg _ (by omega), fun _ => Int.emod_lt_of_pos _ (by omega), fun h2 => absurd h2 h⟩

theorem one_val {l : List Int} (hB : Bytes l) (hl : l.length ≤ 140737488351232) {a s : Int} (h0 : 0 ≤ a) (h1 : a ≤ 100000000) (n : Int) : ∃ v a' s', spec_l00Src_one.f l a s n = some (v, a', s') ∧ a ≤ a' ∧ a' ≤ a + 2 := by
  obtain ⟨v, a', s', e, h2, h3, _⟩ := pick_val hB hl (s := s) h0 h1 n
  unfold spec_l00Src_one.f
  rw [e]
  exact ⟨_, _, _, rfl, h2, h3⟩

theorem among_val {l : List Int} (hB : Bytes l) (hl : l.length ≤ 140737488351232) {a s : Int} (h0 : 0 ≤ a) (h1 : a ≤ 100000000) (m : List Int) (hm : 0 < m.length) : ∃ v a' s', spec_l00Src_among.f l a s m = some (v, a', s') ∧ a ≤ a' ∧ a' ≤ a + 2 ∧ v ∈ m := by
  obtain ⟨v, a', s', e, h2, h3, h4, h5, h6⟩ := pick_val hB hl (s := s) h0 h1 (m.length : Int)
  have hv : v < (m.length : Int) := by
    by_cases h : 1 < (m.length : Int)
    · exact h5 h
    · have := h6 (by omega); omega
  unfold spec_l00Src_among.f
  rw [e]
  simp only [Option.bind_some]
  rw [if_pos h4, if_pos hv]
  obtain ⟨j, rfl⟩ := Int.eq_ofNat_of_zero_le h4
  rw [rd_nat m j (by omega)]
  exact ⟨_, _, _, rfl, h2, h3, List.getElem_mem _⟩

theorem text_val {l : List Int} (hB : Bytes l) (hl : l.length ≤ 140737488351232) {a s : Int} (h0 : 0 ≤ a) (h1 : a ≤ 100000000) (m : List ByteArray) (hm : 0 < m.length) : ∃ v a' s', spec_l00Src_text.f l a s m = some (v, a', s') ∧ a ≤ a' ∧ a' ≤ a + 2 ∧ v ∈ m := by
  obtain ⟨v, a', s', e, h2, h3, h4, h5, h6⟩ := pick_val hB hl (s := s) h0 h1 (m.length : Int)
  have hv : v < (m.length : Int) := by
    by_cases h : 1 < (m.length : Int)
    · exact h5 h
    · have := h6 (by omega); omega
  unfold spec_l00Src_text.f
  rw [e]
  simp only [Option.bind_some]
  rw [if_pos h4, if_pos hv]
  obtain ⟨j, rfl⟩ := Int.eq_ofNat_of_zero_le h4
  rw [rdOf_at _ m j (by omega)]
  exact ⟨_, _, _, rfl, h2, h3, List.getElem_mem _⟩
theorem some_l {l : List Int} (hB : Bytes l) (hl : l.length ≤ 140737488351232) (x : List ByteArray) (hx : x.length ≤ 10) (d : Nat) : ∀ (out : List ByteArray) (i : Nat) (a s : Int), i ≤ x.length → x.length - i = d → out.length ≤ i → 0 ≤ a → a + 2 * (d : Int) ≤ 1000000 →
    ∃ res a' s', Ev (fun k => spec_l14Some.l0 k x out i l a s) (res, a', s') ∧ res.length ≤ x.length ∧ a ≤ a' ∧ a' ≤ a + 2 * (d : Int) := by
  induction d with
  | zero =>
    intro out i a s hi hd ho h0 h1
    refine ⟨out, a, s, ev_succ ?_, by omega, Int.le_refl _, by omega⟩
    simp only [spec_l14Some.l0, if_neg (show ¬ (i : Int) < (x.length : Int) by omega)]
    exact ev_const rfl
  | succ d ih =>
    intro out i a s hi hd ho h0 h1
    have hlt : i < x.length := by omega
    obtain ⟨t, a1, s1, e1, g1, g2⟩ := one_val hB hl (s := s) h0 (by omega) 2
    cases t with
    | true =>
      obtain ⟨res, a2, s2, e2, q1, q2, q3⟩ := ih (out ++ [x[i]]) (i + 1) a1 s1 (by omega) (by omega) (by simp; omega) (by omega) (by omega)
      refine ⟨res, a2, s2, ev_succ ?_, q1, by omega, by omega⟩
      simp only [spec_l14Some.l0, if_pos (show (i : Int) < (x.length : Int) by omega), e1, Option.bind_some, if_true, if_pos (show (0 : Int) ≤ (i : Int) by omega), if_pos (show out.length < 8796093022208 by omega), rdOf_at _ _ _ hlt, w64 (x := (i : Int) + 1) (by omega) (by omega)]
      exact e2
    | false =>
      obtain ⟨res, a2, s2, e2, q1, q2, q3⟩ := ih out (i + 1) a1 s1 (by omega) (by omega) (by omega) (by omega) (by omega)
      refine ⟨res, a2, s2, ev_succ ?_, q1, by omega, by omega⟩
      simp only [spec_l14Some.l0, if_pos (show (i : Int) < (x.length : Int) by omega), e1, Option.bind_some, Bool.false_eq_true, if_false, w64 (x := (i : Int) + 1) (by omega) (by omega)]
      exact e2
theorem some_ev {l : List Int} (hB : Bytes l) (hl : l.length ≤ 140737488351232) {a s : Int} (h0 : 0 ≤ a) (h1 : a ≤ 900000) : ∃ res a' s', Ev (fun k => spec_l14Some.f k l a s) (res, a', s') ∧ res.length ≤ 7 ∧ a ≤ a' ∧ a' ≤ a + 14 := by
  obtain ⟨res, a', s', e, q1, q2, q3⟩ := some_l hB hl ([(⟨#[98, 111, 114, 110, 101, 111]⟩ : ByteArray), (⟨#[99, 104, 111, 115, 101, 110]⟩ : ByteArray), (⟨#[102, 111, 114, 109, 111, 115, 97]⟩ : ByteArray), (⟨#[103, 111, 108, 100, 45, 99, 111, 97, 115, 116]⟩ : ByteArray), (⟨#[110, 101, 119, 45, 115, 112, 97, 105, 110]⟩ : ByteArray), (⟨#[115, 105, 97, 109]⟩ : ByteArray), (⟨#[116, 101, 114, 114, 97, 45, 50]⟩ : ByteArray)] : List ByteArray) (by simp) 7 ([] : List ByteArray) 0 a s (by simp) rfl (by simp) h0 (by omega)
  exact ⟨res, a', s', e, q1, q2, by omega⟩
theorem bent14_l (l : List Int) (a s : Int) (c : Nat) : ∀ (x : List ByteArray), x.length + c ≤ 31 → ∃ res, Ev (fun k => spec_l14Bent.l0 k x (c : Int) l a s) (res, a, s) ∧ res.length ≤ 31 := by
  induction c with
  | zero =>
    intro x hc
    refine ⟨x, ev_succ ?_, by omega⟩
    simp only [spec_l14Bent.l0, if_neg (show ¬ ((0 : Nat) : Int) > 0 by omega)]
    exact ev_const rfl
  | succ c ih =>
    intro x hc
    obtain ⟨res, e, r⟩ := ih (x ++ [strOfNums (([97 + ((((x.length : Int)) % 256) / 26), 97 + ((((x.length : Int)) % 256) % 26)] : List Int))]) (by simp; omega)
    refine ⟨res, ev_succ ?_, r⟩
    simp only [spec_l14Bent.l0, if_pos (show ((c + 1 : Nat) : Int) > 0 by omega), if_pos (show x.length < 8796093022208 by omega), show ((c + 1 : Nat) : Int) - 1 = (c : Int) by omega, w64 (x := (c : Int)) (by omega) (by omega)]
    exact e
theorem bent14_ev {l : List Int} (hB : Bytes l) (hl : l.length ≤ 140737488351232) {a s : Int} (h0 : 0 ≤ a) (h1 : a ≤ 800000) : ∃ res a' s', Ev (fun k => spec_l14Bent.f k l a s) (res, a', s') ∧ res.length ≤ 31 ∧ a ≤ a' ∧ a' ≤ a + 20 := by
  obtain ⟨x, a1, s1, e1, r1, r2, r3⟩ := some_ev hB hl (s := s) h0 (by omega)
  obtain ⟨v, a2, s2, e2, g1, g2, g3, _⟩ := pick_val hB hl (a := a1) (s := s1) (by omega) (by omega) 16
  by_cases c0 : v = 0
  · obtain ⟨n, a3, s3, e3, g4, g5, _⟩ := text_val hB hl (a := a2) (s := s2) (by omega) (by omega) ([(⟨#[]⟩ : ByteArray), (⟨#[83, 105, 97, 109]⟩ : ByteArray), (⟨#[98, 111, 114, 110, 101, 111]⟩ : ByteArray), (⟨#[122, 122]⟩ : ByteArray)] : List ByteArray) (by simp)
    refine ⟨x ++ [n], a3, s3, ?_, by simp; omega, by omega, by omega⟩
    unfold spec_l14Bent.f
    refine Ev.bind e1 ?_
    simp only [e2, Option.bind_some, if_pos c0, e3, if_pos (show x.length < 8796093022208 by omega)]
    exact ev_const rfl
  · by_cases c1 : v = 1
    · obtain ⟨u, a3, s3, e3, g4, g5, g6, g7, _⟩ := pick_val hB hl (a := a2) (s := s2) (by omega) (by omega) 2
      have g7 := g7 (by omega)
      obtain ⟨c, rfl⟩ := Int.eq_ofNat_of_zero_le g6
      obtain ⟨res, e4, q1⟩ := bent14_l l a3 s3 (30 + c) ([] : List ByteArray) (by simp; omega)
      refine ⟨res, a3, s3, ?_, q1, by omega, by omega⟩
      unfold spec_l14Bent.f
      refine Ev.bind e1 ?_
      simp only [e2, Option.bind_some, if_neg c0, if_pos c1, e3, w64 (x := 30 + (c : Int)) (by omega) (by omega)]
      rw [show ((30 + c : Nat) : Int) = 30 + (c : Int) by omega] at e4
      exact e4
    · refine ⟨x, a2, s2, ?_, by omega, by omega, by omega⟩
      unfold spec_l14Bent.f
      refine Ev.bind e1 ?_
      simp only [e2, Option.bind_some, if_neg c0, if_neg c1]
      exact ev_const rfl
/-- A drawn edition's names are few. -/
def NamesS (x : S64) : Prop := x.f1.length ≤ 31
theorem set_namesE {x : List S64} (hq : ∀ y ∈ x, NamesS y) (i : Nat) (v : S64) (hv : NamesS v) : ∀ y ∈ x.set i v, NamesS y := by
  intro y hy
  rcases List.mem_or_eq_of_mem_set hy with h | h
  · exact hq y h
  · rw [h]; exact hv
theorem draw14_l {l : List Int} (hB : Bytes l) (hl : l.length ≤ 140737488351232) (n : Nat) (hn : n ≤ 21) (c : Nat) : ∀ (x : List S64) (y a s : Int), x.length + c = n → (∀ z ∈ x, NamesS z) → 0 ≤ y → y + 20 * (c : Int) ≤ 10000 → 0 ≤ a → a + 20 * (c : Int) ≤ 100000 →
    ∃ res a' s', Ev (fun k => spec_l14Draw.l0 k x y (n : Int) (c : Int) l a s) (res, a', s') ∧ res.length ≤ 21 ∧ (∀ z ∈ res, NamesS z) ∧ a ≤ a' ∧ a' ≤ a + 20 * (c : Int) + 100 := by
  induction c with
  | zero =>
    intro x y a s hc hq y0 y1 h0 h1
    by_cases hz : n = 0
    · refine ⟨x, a, s, ev_succ ?_, by omega, hq, by omega, by omega⟩
      simp only [spec_l14Draw.l0, if_neg (show ¬ ((0 : Nat) : Int) > 0 by omega), if_neg (show ¬ (n : Int) > 0 by omega)]
      exact ev_const rfl
    · obtain ⟨v, a1, s1, e1, g1, g2, g3, g4, g5⟩ := pick_val hB hl (s := s) h0 (by omega) (n : Int)
      have hv : v < (n : Int) := by
        by_cases h : 1 < (n : Int)
        · exact g4 h
        · have := g5 (by omega); omega
      obtain ⟨i, rfl⟩ := Int.eq_ofNat_of_zero_le g3
      have hi : i < x.length := by omega
      have hqi : NamesS x[i] := hq _ (List.getElem_mem hi)
      obtain ⟨u, a2, s2, e2, g6, g7, _⟩ := pick_val hB hl (a := a1) (s := s1) (by omega) (by omega) 20
      by_cases c0 : u = 0
      · obtain ⟨t, a3, s3, e3, g8, g9, _⟩ := among_val hB hl (a := a2) (s := s2) (by omega) (by omega) [(-1), 0, 1, 3000, 3001, 1720] (by simp)
        refine ⟨x.set i ⟨t, x[i].f1⟩, a3, s3, ev_succ ?_, by simp; omega, set_namesE hq _ _ hqi, by omega, by omega⟩
        simp only [spec_l14Draw.l0, if_neg (show ¬ ((0 : Nat) : Int) > 0 by omega), if_pos (show (n : Int) > 0 by omega), e1, Option.bind_some, if_pos g3, if_pos (show (i : Int) < (x.length : Int) by omega), e2, if_pos c0, e3, rd_T64_at _ _ hi, Int.toNat_natCast]
        exact ev_const rfl
      · by_cases c1 : u = 1
        · obtain ⟨t, a3, s3, e3, g8, g9, g10⟩ := bent14_ev hB hl (a := a2) (s := s2) (by omega) (by omega)
          refine ⟨x.set i ⟨x[i].f0, t⟩, a3, s3, ev_succ ?_, by simp; omega, set_namesE hq _ _ g8, by omega, by omega⟩
          simp only [spec_l14Draw.l0, if_neg (show ¬ ((0 : Nat) : Int) > 0 by omega), if_pos (show (n : Int) > 0 by omega), e1, Option.bind_some, if_pos g3, if_pos (show (i : Int) < (x.length : Int) by omega), e2, if_neg c0, if_pos c1]
          refine Ev.bind e3 ?_
          simp only [rd_T64_at _ _ hi, Int.toNat_natCast]
          exact ev_const rfl
        · refine ⟨x, a2, s2, ev_succ ?_, by omega, hq, by omega, by omega⟩
          simp only [spec_l14Draw.l0, if_neg (show ¬ ((0 : Nat) : Int) > 0 by omega), if_pos (show (n : Int) > 0 by omega), e1, Option.bind_some, if_pos g3, if_pos (show (i : Int) < (x.length : Int) by omega), e2, if_neg c0, if_neg c1]
          exact ev_const rfl
  | succ c ih =>
    intro x y a s hc hq y0 y1 h0 h1
    obtain ⟨m, a1, s1, e1, r1, r2, r3⟩ := some_ev hB hl (s := s) h0 (by omega)
    obtain ⟨v, a2, s2, e2, g1, g2, g3, g4, _⟩ := pick_val hB hl (a := a1) (s := s1) (by omega) (by omega) 20
    have g4 := g4 (by omega)
    obtain ⟨res, a3, s3, e3, q1, q2, q3, q4⟩ := ih (x ++ [(⟨y, m⟩ : S64)]) (y + (1 + v)) a2 s2 (by simp; omega) (by
      intro z hz
      rcases List.mem_append.1 hz with h | h
      · exact hq z h
      · rw [List.mem_singleton.1 h]; unfold NamesS; exact Nat.le_trans r1 (by omega)) (by omega) (by omega) (by omega) (by omega)
    refine ⟨res, a3, s3, ev_succ ?_, q1, q2, by omega, by omega⟩
    simp only [spec_l14Draw.l0, if_pos (show ((c + 1 : Nat) : Int) > 0 by omega)]
    refine Ev.bind e1 ?_
    simp only [if_pos (show x.length < 4398046511104 by omega), e2, Option.bind_some, w64 (x := 1 + v) (by omega) (by omega), w64 (x := y + (1 + v)) (by omega) (by omega), show ((c + 1 : Nat) : Int) - 1 = (c : Int) by omega, w64 (x := (c : Int)) (by omega) (by omega)]
    exact e3
theorem draw14_ev {l : List Int} (hB : Bytes l) (hl : l.length ≤ 140737488351232) {a s : Int} (h0 : 0 ≤ a) (h1 : a ≤ 1000) : ∃ res a' s', Ev (fun k => spec_l14Draw.f k l a s) (res, a', s') ∧ res.length ≤ 21 ∧ (∀ z ∈ res, NamesS z) ∧ a ≤ a' ∧ a' ≤ a + 1000 := by
  obtain ⟨v, a1, s1, e1, g1, g2, g3, g4, _⟩ := pick_val hB hl (s := s) h0 (by omega) 40
  have g4 := g4 (by omega)
  obtain ⟨u, a2, s2, e2, g5, g6, g7, g8, _⟩ := pick_val hB hl (a := a1) (s := s1) (by omega) (by omega) 6
  have g8 := g8 (by omega)
  obtain ⟨t, a3, s3, e3, g9, g10⟩ := one_val hB hl (a := a2) (s := s2) (by omega) (by omega) 20
  cases t with
  | true =>
    obtain ⟨w, a4, s4, e4, q5, q6, q7, q8, _⟩ := pick_val hB hl (a := a3) (s := s3) (by omega) (by omega) 2
    have q8 := q8 (by omega)
    obtain ⟨c, rfl⟩ := Int.eq_ofNat_of_zero_le q7
    obtain ⟨res, a5, s5, e5, r1, r2, r3, r4⟩ := draw14_l hB hl (20 + c) (by omega) (20 + c) ([] : List S64) (1700 + v) a4 s4 (by simp) (by simp) (by omega) (by omega) (by omega) (by omega)
    refine ⟨res, a5, s5, ?_, r1, r2, by omega, by omega⟩
    rw [show ((20 + c : Nat) : Int) = 20 + (c : Int) by omega] at e5
    unfold spec_l14Draw.f
    simp only [e1, e2, e3, Option.bind_some, if_true, e4, w64 (x := 1700 + v) (by omega) (by omega), w64 (x := 20 + (c : Int)) (by omega) (by omega)]
    apply ev_succ
    simp only [spec_l14Draw.j0]
    exact e5
  | false =>
    obtain ⟨c, rfl⟩ := Int.eq_ofNat_of_zero_le g7
    obtain ⟨res, a5, s5, e5, r1, r2, r3, r4⟩ := draw14_l hB hl c (by omega) c ([] : List S64) (1700 + v) a3 s3 (by simp) (by simp) (by omega) (by omega) (by omega) (by omega)
    refine ⟨res, a5, s5, ?_, r1, r2, by omega, by omega⟩
    unfold spec_l14Draw.f
    simp only [e1, e2, e3, Option.bind_some, Bool.false_eq_true, if_false, w64 (x := 1700 + v) (by omega) (by omega)]
    apply ev_succ
    simp only [spec_l14Draw.j0]
    exact e5
theorem year14_val {l : List Int} (hB : Bytes l) (hl : l.length ≤ 140737488351232) {a s : Int} (h0 : 0 ≤ a) (h1 : a ≤ 10000) : ∃ v a' s', spec_l14DrawYear.f l a s = some (v, a', s') := by
  obtain ⟨t, a1, s1, e1, g1, g2⟩ := one_val hB hl (s := s) h0 (by omega) 10
  unfold spec_l14DrawYear.f
  cases t with
  | true =>
    obtain ⟨u, a2, s2, e2, _⟩ := among_val hB hl (a := a1) (s := s1) (by omega) (by omega) [(-1), 0, 1, 3000, 3001, (-9223372036854775808)] (by simp)
    simp only [e1, Option.bind_some, if_true, e2]
    exact ⟨_, _, _, rfl⟩
  | false =>
    obtain ⟨u, a2, s2, e2, _⟩ := pick_val hB hl (a := a1) (s := s1) (by omega) (by omega) 250
    simp only [e1, Option.bind_some, Bool.false_eq_true, if_false, e2]
    exact ⟨_, _, _, rfl⟩

theorem f6big_val (l : List Int) : laws_f6big.f l = some (decide ((l.length : Int) > 4096)) := rfl

theorem f6texts_l (l : List ByteArray) (hl : l.length ≤ 1048576) (d : Nat) : ∀ (i : Nat), i ≤ l.length → l.length - i = d → Ev (fun k => laws_f6texts.l0 k l l i) true := by
  induction d with
  | zero =>
    intro i hi hd
    apply ev_succ
    simp only [laws_f6texts.l0, if_neg (show ¬ (i : Int) < (l.length : Int) by omega)]
    exact ev_const rfl
  | succ d ih =>
    intro i hi hd
    have h1 := ih (i + 1) (by omega) (by omega)
    apply ev_succ
    simp only [laws_f6texts.l0, if_pos (show (i : Int) < (l.length : Int) by omega), if_pos (show (0 : Int) ≤ (i : Int) by omega), if_true, w64 (x := (i : Int) + 1) (by omega) (by omega)]
    exact h1
theorem f6texts_ev (l : List ByteArray) (hl : l.length ≤ 1048576) : Ev (fun k => laws_f6texts.f k l l) true := by
  unfold laws_f6texts.f
  simp only [if_true]
  exact f6texts_l l hl l.length 0 (by omega) (by omega)
theorem f6word_l (l : List ByteArray) (hl : l.length ≤ 1048576) (a : ByteArray) (d : Nat) : ∀ (i : Nat), i ≤ l.length → l.length - i = d → Ev (fun k => laws_f6word.l0 k l a i) (hasB (l.drop i) a) := by
  induction d with
  | zero =>
    intro i hi hd
    rw [List.drop_eq_nil_of_le (by omega)]
    apply ev_succ
    simp only [laws_f6word.l0, if_neg (show ¬ (i : Int) < (l.length : Int) by omega)]
    exact ev_const rfl
  | succ d ih =>
    intro i hi hd
    have hlt : i < l.length := by omega
    have h1 := ih (i + 1) (by omega) (by omega)
    have hd : hasB (l.drop i) a = (decide (l[i].toList = a.toList) || hasB (l.drop (i + 1)) a) := by
      unfold hasB
      rw [List.drop_eq_getElem_cons hlt, List.any_cons]
    rw [hd]
    apply ev_succ
    by_cases c : l[i].toList = a.toList
    · rw [decide_eq_true c, Bool.true_or]
      simp only [laws_f6word.l0, if_pos (show (i : Int) < (l.length : Int) by omega), if_pos (show (0 : Int) ≤ (i : Int) by omega), rdOf_at _ _ _ hlt, if_pos c]
      exact ev_const rfl
    · rw [decide_eq_false c, Bool.false_or]
      simp only [laws_f6word.l0, if_pos (show (i : Int) < (l.length : Int) by omega), if_pos (show (0 : Int) ≤ (i : Int) by omega), rdOf_at _ _ _ hlt, if_neg c, w64 (x := (i : Int) + 1) (by omega) (by omega)]
      exact h1
theorem f6word_ev (l : List ByteArray) (hl : l.length ≤ 1048576) (a : ByteArray) : Ev (fun k => laws_f6word.f k l a) (hasB l a) := by
  unfold laws_f6word.f
  exact f6word_l l hl a l.length 0 (by omega) (by omega)

theorem ed_l2 (l : List S64) (hl : l.length ≤ 1048576) (hw : ∀ y ∈ l, y.f1.length ≤ 1048576) (a : ByteArray) (r : Int) (h : ∀ y ∈ l, y.f0 < r → hasB y.f1 a = false) (d : Nat) : ∀ (i : Nat), i ≤ l.length → l.length - i = d → Ev (fun k => laws_FnEditions.l2 k l a r i) true := by
  induction d with
  | zero =>
    intro i hi hd
    apply ev_succ
    simp only [laws_FnEditions.l2, if_neg (show ¬ (i : Int) < (l.length : Int) by omega)]
    exact ev_const rfl
  | succ d ih =>
    intro i hi hd
    have hlt : i < l.length := by omega
    have h1 := ih (i + 1) (by omega) (by omega)
    have hi2 := h _ (List.getElem_mem hlt)
    have q := f6word_ev l[i].f1 (hw _ (List.getElem_mem hlt)) a
    apply ev_succ
    simp only [laws_FnEditions.l2, if_pos (show (i : Int) < (l.length : Int) by omega), if_pos (show (0 : Int) ≤ (i : Int) by omega), rd_T64_at _ _ hlt, w64 (x := (i : Int) + 1) (by omega) (by omega)]
    by_cases c : l[i].f0 < r
    · rw [hi2 c] at q
      simp only [if_pos c]
      refine Ev.bind q ?_
      simp only [Bool.false_eq_true, if_false]
      exact h1
    · simp only [if_neg c]
      exact h1
theorem ed_l1 (b : List S64) (hl : b.length ≤ 1048576) (hw : ∀ y ∈ b, y.f1.length ≤ 1048576) (j : Int) (j0 : 0 ≤ j) (j1 : j < (b.length : Int)) (gone : List ByteArray) (hg : gone.length ≤ 1048576) (c : List S64) (a : ByteArray) (nine r : Int)
    (h : ∀ z ∈ gone, j ≠ 0 ∧ hasB (rd_T64 b j).f1 z = false ∧ hasB (rd_T64 b (j - 1)).f1 z = true) (hR : Ev (fun k => laws_FnEditions.j5 k c a nine r) true) (d : Nat) : ∀ (i : Nat), i ≤ gone.length → gone.length - i = d → Ev (fun k => laws_FnEditions.l1 k b j gone c a nine r i) true := by
  induction d with
  | zero =>
    intro i hi hd
    apply ev_succ
    simp only [laws_FnEditions.l1, if_neg (show ¬ (i : Int) < (gone.length : Int) by omega)]
    exact hR
  | succ d ih =>
    intro i hi hd
    have hlt : i < gone.length := by omega
    have h1 := ih (i + 1) (by omega) (by omega)
    obtain ⟨z0, z1, z2⟩ := h _ (List.getElem_mem hlt)
    have q1 := f6word_ev (rd_T64 b j).f1 (rdE_le b hw j j0 j1) gone[i]
    have q2 := f6word_ev (rd_T64 b (j - 1)).f1 (rdE_le b hw (j - 1) (by omega) (by omega)) gone[i]
    rw [z1] at q1
    rw [z2] at q2
    apply ev_succ
    simp only [laws_FnEditions.l1, if_pos (show (i : Int) < (gone.length : Int) by omega), if_neg z0, if_pos j0, if_pos j1, if_pos (show (0 : Int) ≤ (i : Int) by omega), rdOf_at _ _ _ hlt, w64 (x := (i : Int) + 1) (by omega) (by omega), w64 (x := j - 1) (by omega) (by omega), if_pos (show 0 ≤ j - 1 by omega), if_pos (show j - 1 < (b.length : Int) by omega)]
    refine Ev.bind q1 ?_
    simp only [Bool.false_eq_true, if_false]
    refine Ev.bind q2 ?_
    simp only [if_true]
    exact h1
theorem ed_l0 (b : List S64) (hl : b.length ≤ 1048576) (hw : ∀ y ∈ b, y.f1.length ≤ 1048576) (j : Int) (j0 : 0 ≤ j) (j1 : j < (b.length : Int)) (add gone : List ByteArray) (ha : add.length ≤ 1048576) (c : List S64) (a : ByteArray) (nine r : Int)
    (h : ∀ z ∈ add, hasB (rd_T64 b j).f1 z = true ∧ (0 < j → hasB (rd_T64 b (j - 1)).f1 z = false)) (hR : Ev (fun k => laws_FnEditions.l1 k b j gone c a nine r 0) true) (d : Nat) : ∀ (i : Nat), i ≤ add.length → add.length - i = d → Ev (fun k => laws_FnEditions.l0 k b j add gone c a nine r i) true := by
  induction d with
  | zero =>
    intro i hi hd
    apply ev_succ
    simp only [laws_FnEditions.l0, if_neg (show ¬ (i : Int) < (add.length : Int) by omega)]
    exact hR
  | succ d ih =>
    intro i hi hd
    have hlt : i < add.length := by omega
    have h1 := ih (i + 1) (by omega) (by omega)
    obtain ⟨z1, z2⟩ := h _ (List.getElem_mem hlt)
    have q1 := f6word_ev (rd_T64 b j).f1 (rdE_le b hw j j0 j1) add[i]
    rw [z1] at q1
    apply ev_succ
    simp only [laws_FnEditions.l0, if_pos (show (i : Int) < (add.length : Int) by omega), if_pos j0, if_pos j1, if_pos (show (0 : Int) ≤ (i : Int) by omega), rdOf_at _ _ _ hlt, w64 (x := (i : Int) + 1) (by omega) (by omega)]
    refine Ev.bind q1 ?_
    simp only [if_true]
    by_cases hj : j > 0
    · have q2 := f6word_ev (rd_T64 b (j - 1)).f1 (rdE_le b hw (j - 1) (by omega) (by omega)) add[i]
      rw [z2 hj] at q2
      simp only [if_pos hj, w64 (x := j - 1) (by omega) (by omega), if_pos (show 0 ≤ j - 1 by omega), if_pos (show j - 1 < (b.length : Int) by omega)]
      refine Ev.bind q2 ?_
      simp only [Bool.false_eq_true, if_false]
      exact h1
    · simp only [if_neg hj]
      exact h1
theorem find_ev {l : List Int} (hB : Bytes l) (hl : l.length ≤ 140737488351232) : ∃ x n, Ev (fun k => spec_DrawNearestEdition.f k l) (x, n) ∧ x.length ≤ 21 ∧ (∀ z ∈ x, NamesS z) ∧ n.length ≤ 31 := by
  obtain ⟨x, a1, s1, e1, r1, r2, r3, r4⟩ := draw14_ev hB hl (a := 0) (s := 0) (by omega) (by omega)
  have hfalse : ∀ (a s : Int), 0 ≤ a → a ≤ 5000 → ∃ n, Ev (fun k => spec_l14Find.j0 k x false l a s) (x, n) ∧ n.length ≤ 31 := by
    intro a s h0 h1
    obtain ⟨n, a2, s2, e2, q, _⟩ := bent14_ev hB hl (a := a) (s := s) h0 (by omega)
    refine ⟨n, ev_succ ?_, q⟩
    simp only [spec_l14Find.j0, Bool.false_eq_true, if_false]
    exact Ev.bind e2 (ev_const rfl)
  have key : ∃ n, Ev (fun k => spec_l14Find.f k l) (x, n) ∧ n.length ≤ 31 := by
    by_cases hz : x.length = 0
    · obtain ⟨n, e2, q⟩ := hfalse a1 s1 (by omega) (by omega)
      refine ⟨n, ?_, q⟩
      unfold spec_l14Find.f spec_l00From.f
      simp only [Option.bind_some]
      refine Ev.bind e1 ?_
      simp only [if_neg (show ¬ (x.length : Int) > 0 by omega)]
      exact e2
    · obtain ⟨t, a2, s2, e2, g1, g2⟩ := one_val hB hl (a := a1) (s := s1) (by omega) (by omega) 2
      cases t with
      | false =>
        obtain ⟨n, e3, q⟩ := hfalse a2 s2 (by omega) (by omega)
        refine ⟨n, ?_, q⟩
        unfold spec_l14Find.f spec_l00From.f
        simp only [Option.bind_some]
        refine Ev.bind e1 ?_
        simp only [if_pos (show (x.length : Int) > 0 by omega), e2, Option.bind_some]
        exact e3
      | true =>
        obtain ⟨v, a3, s3, e3, g3, g4, g5, g6, g7⟩ := pick_val hB hl (a := a2) (s := s2) (by omega) (by omega) (x.length : Int)
        have hv : v < (x.length : Int) := by
          by_cases h : 1 < (x.length : Int)
          · exact g6 h
          · have := g7 (by omega); omega
        obtain ⟨i, rfl⟩ := Int.eq_ofNat_of_zero_le g5
        have hi : i < x.length := by omega
        have hs : x[i].f1.length ≤ 31 := r2 _ (List.getElem_mem hi)
        refine ⟨[] ++ x[i].f1, ?_, by simpa using hs⟩
        unfold spec_l14Find.f spec_l00From.f
        simp only [Option.bind_some]
        refine Ev.bind e1 ?_
        simp only [if_pos (show (x.length : Int) > 0 by omega), e2, Option.bind_some]
        apply ev_succ
        simp only [spec_l14Find.j0, if_true, Option.bind_some, e3, if_pos g5, if_pos hv, rd_T64_at _ _ hi, if_pos (show ([] : List ByteArray).length + x[i].f1.length < 8796093022208 by simp; omega)]
        exact ev_const rfl
  obtain ⟨n, e, q⟩ := key
  refine ⟨x, n, ?_, r1, r2, q⟩
  unfold spec_DrawNearestEdition.f
  exact Ev.bind e (ev_const rfl)
theorem edin_ev {l : List Int} (hB : Bytes l) (hl : l.length ≤ 140737488351232) : ∃ x y, Ev (fun k => spec_DrawEditionIn.f k l) (x, y) ∧ x.length ≤ 21 ∧ (∀ z ∈ x, NamesS z) := by
  obtain ⟨x, a1, s1, e1, r1, r2, r3, r4⟩ := draw14_ev hB hl (a := 0) (s := 0) (by omega) (by omega)
  obtain ⟨y, a2, s2, e2⟩ := year14_val hB hl (a := a1) (s := s1) (by omega) (by omega)
  refine ⟨x, y, ?_, r1, r2⟩
  unfold spec_DrawEditionIn.f spec_l00From.f
  simp only [Option.bind_some]
  refine Ev.bind e1 ?_
  simp only [e2, Option.bind_some]
  exact ev_const rfl
theorem pick14_ev {l : List Int} (hB : Bytes l) (hl : l.length ≤ 140737488351232) : ∃ x j, Ev (fun k => spec_DrawNewNames.f k l) (x, j) ∧ x.length ≤ 21 ∧ (∀ z ∈ x, NamesS z) := by
  obtain ⟨x, a1, s1, e1, r1, r2, r3, r4⟩ := draw14_ev hB hl (a := 0) (s := 0) (by omega) (by omega)
  obtain ⟨u, a2, s2, e2, g1, g2, _⟩ := pick_val hB hl (a := a1) (s := s1) (by omega) (by omega) (wrap64 ((x.length : Int) + 1))
  obtain ⟨v, a3, s3, e3, _⟩ := pick_val hB hl (a := a2) (s := s2) (by omega) (by omega) 16
  refine ⟨x, wrap64 (u - wrap64 (Int.tdiv v 15)), ?_, r1, r2⟩
  unfold spec_DrawNewNames.f
  have hp : Ev (fun k => spec_l14Pick.f k l) (x, wrap64 (u - wrap64 (Int.tdiv v 15))) := by
    unfold spec_l14Pick.f spec_l00From.f
    simp only [Option.bind_some]
    refine Ev.bind e1 ?_
    simp only [e2, e3, Option.bind_some]
    exact ev_const rfl
  exact Ev.bind hp (ev_const rfl)
theorem firstdraw_ev {l : List Int} (hB : Bytes l) (hl : l.length ≤ 140737488351232) : ∃ x n, Ev (fun k => spec_DrawFirstShown.f k l) (x, n) ∧ x.length ≤ 21 ∧ (∀ z ∈ x, NamesS z) := by
  obtain ⟨x, a1, s1, e1, r1, r2, r3, r4⟩ := draw14_ev hB hl (a := 0) (s := 0) (by omega) (by omega)
  obtain ⟨n, a2, s2, e2, _⟩ := text_val hB hl (a := a1) (s := s1) (by omega) (by omega) ([(⟨#[115, 105, 97, 109]⟩ : ByteArray), (⟨#[115, 105, 97, 109]⟩ : ByteArray), (⟨#[98, 111, 114, 110, 101, 111]⟩ : ByteArray), (⟨#[99, 104, 111, 115, 101, 110]⟩ : ByteArray), (⟨#[110, 111, 110, 101]⟩ : ByteArray), (⟨#[]⟩ : ByteArray), (⟨#[83, 105, 97, 109]⟩ : ByteArray)] : List ByteArray) (by simp)
  refine ⟨x, n, ?_, r1, r2⟩
  unfold spec_DrawFirstShown.f spec_l00From.f
  simp only [Option.bind_some]
  refine Ev.bind e1 ?_
  simp only [e2, Option.bind_some]
  exact ev_const rfl
theorem FnEditions : laws_FnEditions.Pure := by
  intro l hl hlb
  have hB := bytes_of hlb
  have few : ∀ {x : List S64}, (∀ z ∈ x, NamesS z) → ∀ z ∈ x, z.f1.length ≤ 1048576 := fun h z hz => Nat.le_trans (h z hz) (by omega)
  apply Ev.rounds
  unfold laws_FnEditions.f
  simp only [f6big_val, Option.bind_some]
  by_cases hlong : (l.length : Int) > 4096
  · simp only [hlong, decide_true, if_true]; exact ev_const rfl
  · simp only [hlong, decide_false, Bool.false_eq_true, if_false]
    obtain ⟨x, n, d1, d2, d3, d4⟩ := find_ev hB (by omega)
    obtain ⟨u, y, d5, d6, d7⟩ := edin_ev hB (by omega)
    obtain ⟨b, j, d8, d9, d10⟩ := pick14_ev hB (by omega)
    obtain ⟨c, a, d11, d12, d13⟩ := firstdraw_ev hB (by omega)
    obtain ⟨k0, nd, bad, at_, one, n1, n2, n3, n4, n5⟩ := near2_same x (by omega) (few d3) n (by omega)
    obtain ⟨i0, three, e1, e2, e3⟩ := edin2_same u (by omega) (few d7) y
    obtain ⟨add, gone, five, w1, w2, w3, w4, w5, w6, w7⟩ := newold_same b (by omega) (few d10) j
    obtain ⟨r, nine, f1, f2, f3⟩ := first2_same c (by omega) (few d13) a
    obtain ⟨v, v1, v2⟩ := editions_same x (by omega) (few d3)
    have i1 := f6texts_ev add w5
    have i2 := f6texts_ev gone w6
    refine Ev.bind d1 (Ev.bind n2 (Ev.bind n1 (Ev.bind n4 (Ev.bind n3 (Ev.bind d5 (Ev.bind e2 (Ev.bind e1 (Ev.bind d8 (Ev.bind w2 (Ev.bind w1 (Ev.bind w4 (Ev.bind w3 (Ev.bind d11 (Ev.bind f2 (Ev.bind f1 ?_)))))))))))))))
    simp only [if_true]
    refine Ev.bind i1 ?_
    simp only [if_true]
    refine Ev.bind i2 ?_
    simp only [if_true, spec_ValidEditions.f]
    refine Ev.bind v2 (Ev.bind (Ev.bind v1 (ev_const rfl)) ?_)
    simp only [bne_self_eq_false]
    have hj5 : Ev (fun k => laws_FnEditions.j5 k c a nine r) true := by
      apply ev_succ
      by_cases hz : nine = 0
      · simp only [laws_FnEditions.j5, if_pos hz]
        exact ed_l2 c (by omega) (few d13) a r (f3 hz) c.length 0 (by omega) (by omega)
      · simp only [laws_FnEditions.j5, if_neg hz]
        exact ev_const rfl
    have hj2 : Ev (fun k => laws_FnEditions.j2 k b j five add gone c a nine r false) true := by
      apply ev_succ
      simp only [laws_FnEditions.j2, Bool.false_eq_true, if_false]
      by_cases hz : five = 0
      · obtain ⟨j0, j1, z1, z2⟩ := w7 hz
        simp only [if_pos hz]
        exact ed_l0 b (by omega) (few d10) j j0 j1 add gone w5 c a nine r z1 (ed_l1 b (by omega) (few d10) j j0 j1 gone w6 c a nine r z2 hj5 gone.length 0 (by omega) (by omega)) add.length 0 (by omega) (by omega)
      · simp only [if_neg hz]
        exact hj5
    have hj1 : Ev (fun k => laws_FnEditions.j1 k u y three i0 b j five add gone c a nine r false) true := by
      apply ev_succ
      simp only [laws_FnEditions.j1, Bool.false_eq_true, if_false]
      by_cases hz : three = 0
      · obtain ⟨q, hq, rfl, q1, q2⟩ := e3 hz
        simp only [if_pos hz, if_pos (show (0 : Int) ≤ (q : Int) by omega), if_pos (show (q : Int) < (u.length : Int) by omega), rd_T64_at _ _ hq, if_neg (show ¬ u[q].f0 > y by omega), w64 (x := (q : Int) + 1) (by omega) (by omega)]
        by_cases hl2 : q + 1 < u.length
        · have q3 := q2 hl2
          have hr : rd_T64 u ((q : Int) + 1) = u[q + 1] := rd_T64_at u (q + 1) hl2
          simp only [if_pos (show (q : Int) + 1 < (u.length : Int) by omega), if_pos (show (0 : Int) ≤ (q : Int) + 1 by omega), hr, decide_eq_false (show ¬ u[q + 1].f0 ≤ y by omega)]
          exact hj2
        · simp only [if_neg (show ¬ (q : Int) + 1 < (u.length : Int) by omega)]
          exact hj2
      · simp only [if_neg hz]
        exact hj2
    apply ev_succ
    simp only [laws_FnEditions.j0, Bool.false_eq_true, if_false]
    by_cases hz : bad = 0
    · have q := n5 hz
      have hb : ((one == 0) != (nd == 0)) = false := by
        by_cases c1 : one = 0
        · rw [beq_iff_eq.2 c1, beq_iff_eq.2 (q.1 c1)]; rfl
        · rw [beq_eq_false_iff_ne.2 c1, beq_eq_false_iff_ne.2 (fun h => c1 (q.2 h))]; rfl
      simp only [if_pos hz, hb]
      exact hj1
    · simp only [if_neg hz]
      exact hj1

end Go.Proofs.YtalmeecdjhelkaaDoor.Pure
