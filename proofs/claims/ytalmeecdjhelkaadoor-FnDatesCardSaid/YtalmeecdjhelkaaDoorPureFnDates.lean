/- FnDates: for all bytes: over drawn known names, names and editions the program's functions and the reference's come to the same; all names were used in the first and in the last year that are told, not all of them a year before or behind; and names that are too late are unused in the edition's year. -/
import Derived.Test.YtalmeecdjhelkaaDoorStatFnDates
namespace Go.Proofs.YtalmeecdjhelkaaDoor.Pure
open Go.RowKit Go.Proofs.YtalmeecdjhelkaaDoor.PFnDates Go.Proofs.YtalmeecdjhelkaaDoorW.PrintWords Go.Proofs.YtalmeecdjhelkaaDoorW.PrintLast Go.Proofs.YtalmeecdjhelkaaDoorW.PrintMore
set_option linter.unusedVariables false
set_option linter.unusedSimpArgs false
theorem w64 {x : Int} (h : -9223372036854775808 ≤ x) (h2 : x ≤ 9223372036854775807) : wrap64 x = x := by unfold wrap64; omega
theorem tmod_nn {a b : Int} (h : 0 ≤ a) : Int.tmod a b = a % b := Int.tmod_eq_emod_of_nonneg h
theorem ev_succ {α : Type} {g : Nat → Option α} {r : α} (h : Ev (fun k => g (k + 1)) r) : Ev g r := Ev.step (fun _ => rfl) h
theorem ev_const {α : Type} {g : Option α} {r : α} (h : g = some r) : Ev (fun _ => g) r := ⟨0, fun _ _ => h⟩
theorem ev_uniq {α : Type} {g : Nat → Option α} {a b : α} (h : Ev g a) (h' : Ev g b) : a = b := by
  obtain ⟨K, h⟩ := h
  obtain ⟨K', h'⟩ := h'
  have h1 := h (K + K') (by omega)
  rw [h' (K + K') (by omega)] at h1
  exact (Option.some.inj h1).symm

theorem toList_inj {a b : ByteArray} : a.toList = b.toList ↔ a = b := by
  constructor
  · intro h
    rw [ByteArray.toList_eq, ByteArray.toList_eq] at h
    obtain ⟨⟨x⟩⟩ := a
    obtain ⟨⟨y⟩⟩ := b
    simp at h
    rw [h]
  · intro h; rw [h]
theorem rdOf_at (d : ByteArray) (l : List ByteArray) (i : Nat) (h : i < l.length) : rdOf d l (i : Int) = l[i] := by
  unfold rdOf
  rw [Int.toNat_natCast, List.getD_eq_getElem?_getD, List.getElem?_eq_getElem h]
  rfl

/-- A byte that a name may have. -/
def nameC (c : Int) : Prop := ((97 : Int) ≤ c ∧ c ≤ 122) ∨ ((48 : Int) ≤ c ∧ c ≤ 57) ∨ c = 45
instance instNameC (c : Int) : Decidable (nameC c) := by unfold nameC; infer_instance
/-- A name. -/
def IsNm (s : ByteArray) : Prop := 1 ≤ s.size ∧ s.size ≤ 12 ∧ ((97 : Int) ≤ bt s 0 ∧ bt s 0 ≤ 122) ∧ ∀ i, i < s.size → nameC (bt s (i : Int))
instance instIsNm (s : ByteArray) : Decidable (IsNm s) := by unfold IsNm; infer_instance
theorem toList_nil (s : ByteArray) : s.toList = ([] : List UInt8) ↔ s.size = 0 := by
  rw [ByteArray.toList_eq]
  obtain ⟨⟨x⟩⟩ := s
  show x = [] ↔ x.length = 0
  rw [List.length_eq_zero_iff]
theorem bt_at (s : ByteArray) (i : Nat) (h : i < s.size) : bt s (i : Int) = ((s.data.toList[i]'(by simpa using h)).toNat : Int) := by
  unfold bt
  rw [dif_pos (by simpa using h)]
  rfl
open Classical in
theorem snm_l (s : ByteArray) (hs : s.size ≤ 12) (d : Nat) : ∀ (i : Nat), i ≤ s.size → s.size - i = d → Ev (fun k => spec_IsName.l0 k s i) (decide (∀ j, i ≤ j → j < s.size → nameC (bt s (j : Int)))) := by
  induction d with
  | zero =>
    intro i hi hd
    apply ev_succ
    simp only [spec_IsName.l0, if_neg (show ¬ (i : Int) < (s.size : Int) by omega)]
    refine ev_const ?_
    congr 1
    symm
    rw [decide_eq_true_iff]
    intro j h1 h2; omega
  | succ d ih =>
    intro i hi hd
    have hlt : i < s.size := by omega
    have hih := ih (i + 1) (by omega) (by omega)
    have step : nameC (bt s (i : Int)) → (decide (∀ j, i ≤ j → j < s.size → nameC (bt s (j : Int)))) = decide (∀ j, i + 1 ≤ j → j < s.size → nameC (bt s (j : Int))) := by
      intro hc
      rw [decide_eq_decide]
      constructor
      · intro h j h1 h2; exact h j (by omega) h2
      · intro h j h1 h2
        by_cases e : j = i
        · subst e; exact hc
        · exact h j (by omega) h2
    apply ev_succ
    simp only [spec_IsName.l0, spec_l01Small.f, spec_l01Digit.f, if_pos (show (i : Int) < (s.size : Int) by omega), if_pos (show (0 : Int) ≤ (i : Int) by omega), w64 (x := (i : Int) + 1) (by omega) (by omega)]
    by_cases h1 : 97 ≤ bt s (i : Int) ∧ bt s (i : Int) ≤ 122
    · simp only [ge_iff_le, if_pos h1.1, Option.bind_some, decide_eq_true h1.2, if_true]
      rw [step (.inl h1)]
      exact hih
    · have e1 : (if bt s (i : Int) ≥ 97 then some (decide (bt s (i : Int) ≤ 122)) else some false) = some false := by
        by_cases h : bt s (i : Int) ≥ 97
        · rw [if_pos h, decide_eq_false (fun h2 => h1 ⟨h, h2⟩)]
        · rw [if_neg h]
      simp only [e1, Option.bind_some, Bool.false_eq_true, if_false]
      by_cases h2 : 48 ≤ bt s (i : Int) ∧ bt s (i : Int) ≤ 57
      · simp only [ge_iff_le, if_pos h2.1, Option.bind_some, decide_eq_true h2.2, if_true]
        rw [step (.inr (.inl h2))]
        exact hih
      · have e2 : (if bt s (i : Int) ≥ 48 then some (decide (bt s (i : Int) ≤ 57)) else some false) = some false := by
          by_cases h : bt s (i : Int) ≥ 48
          · rw [if_pos h, decide_eq_false (fun h3 => h2 ⟨h, h3⟩)]
          · rw [if_neg h]
        simp only [e2, Option.bind_some, Bool.false_eq_true, if_false]
        by_cases h3 : bt s (i : Int) = 45
        · simp only [if_pos h3]
          rw [step (.inr (.inr h3))]
          exact hih
        · simp only [if_neg h3]
          refine ev_const ?_
          congr 1
          symm
          rw [decide_eq_false_iff_not]
          intro h
          rcases h i (by omega) hlt with h | h | h
          · exact h1 h
          · exact h2 h
          · exact h3 h
theorem spec_name (s : ByteArray) : Ev (fun k => spec_IsName.f k s) (decide (IsNm s)) := by
  classical
  have no : ¬ IsNm s → Ev (fun k => spec_IsName.j0 k s true) (decide (IsNm s)) := fun h => by
    refine ev_succ ?_
    simp only [spec_IsName.j0, if_true]
    exact ev_const (by rw [decide_eq_false h])
  unfold spec_IsName.f
  by_cases h0 : s.size = 0
  · simp only [if_pos ((toList_nil s).2 h0)]
    exact no (fun h => by have := h.1; omega)
  · simp only [if_neg (fun h => h0 ((toList_nil s).1 h))]
    by_cases h1 : (s.size : Int) > 12
    · simp only [if_pos h1]
      exact no (fun h => by have := h.2.1; omega)
    · simp only [if_neg h1, if_pos (show (0 : Int) < (s.size : Int) by omega), spec_l01Small.f]
      by_cases h2 : 97 ≤ bt s 0 ∧ bt s 0 ≤ 122
      · simp only [ge_iff_le, if_pos h2.1, Option.bind_some, decide_eq_true h2.2, Bool.not_true]
        refine ev_succ ?_
        simp only [spec_IsName.j0, Bool.false_eq_true, if_false]
        have := snm_l s (by omega) s.size 0 (by omega) (by omega)
        have e : (decide (IsNm s)) = decide (∀ j, 0 ≤ j → j < s.size → nameC (bt s (j : Int))) := by
          rw [decide_eq_decide]
          exact ⟨fun h j _ hj => h.2.2.2 j hj, fun h => ⟨by omega, by omega, h2, fun j hj => h j (by omega) hj⟩⟩
        rw [e]
        exact this
      · have e1 : (if bt s 0 ≥ 97 then some (decide (bt s 0 ≤ 122)) else some false) = some false := by
          by_cases h : bt s 0 ≥ 97
          · rw [if_pos h, decide_eq_false (fun h3 => h2 ⟨h, h3⟩)]
          · rw [if_neg h]
        simp only [e1, Option.bind_some, Bool.not_false]
        exact no (fun h => h2 h.2.2.1)

theorem dw_nil (p : UInt8 → Bool) (l : List UInt8) : l.dropWhile p = [] ↔ ∀ b ∈ l, p b = true := by
  induction l with
  | nil => simp
  | cons a l ih =>
    by_cases h : p a = true
    · simp [List.dropWhile, h, ih]
    · simp [List.dropWhile, h]
theorem dw_head (p : UInt8 → Bool) (l : List UInt8) (x : UInt8) (xs : List UInt8) (h : l.dropWhile p = x :: xs) : p x = false := by
  induction l with
  | nil => simp at h
  | cons a l ih =>
    by_cases h2 : p a = true
    · simp only [List.dropWhile, h2] at h
      exact ih h
    · have h3 : p a = false := by simpa using h2
      simp only [List.dropWhile, h3, List.cons.injEq] at h
      rw [← h.1]; exact h3
theorem trimS_nil (l cs : List UInt8) : Go.Lib.trimS l cs = [] ↔ ∀ b ∈ l, cs.contains b = true := by
  unfold Go.Lib.trimS Go.Lib.trimLeftS Go.Lib.trimRightS
  rw [dw_nil]
  constructor
  · intro h b hb
    cases e : l.reverse.dropWhile (cs.contains ·) with
    | nil =>
      rw [dw_nil] at e
      exact e b (by simpa using hb)
    | cons x xs =>
      exfalso
      have h1 := dw_head _ _ _ _ e
      have h2 := h x (by rw [e]; simp)
      rw [h2] at h1
      cases h1
  · intro h b hb
    exact h b (by simpa using (List.dropWhile_sublist _).subset (List.mem_reverse.1 hb))
theorem name_cut (b : UInt8) : ([97, 98, 99, 100, 101, 102, 103, 104, 105, 106, 107, 108, 109, 110, 111, 112, 113, 114, 115, 116, 117, 118, 119, 120, 121, 122, 48, 49, 50, 51, 52, 53, 54, 55, 56, 57, 45] : List UInt8).contains b = decide (nameC (b.toNat : Int)) := by
  have key : ((List.range 256).all fun n => (([97, 98, 99, 100, 101, 102, 103, 104, 105, 106, 107, 108, 109, 110, 111, 112, 113, 114, 115, 116, 117, 118, 119, 120, 121, 122, 48, 49, 50, 51, 52, 53, 54, 55, 56, 57, 45] : List UInt8).contains (UInt8.ofNat n) == decide (((97 : Int) ≤ (n : Int) ∧ (n : Int) ≤ 122) ∨ ((48 : Int) ≤ (n : Int) ∧ (n : Int) ≤ 57) ∨ (n : Int) = 45))) = true := by decide +kernel
  have h := List.all_eq_true.1 key b.toNat (List.mem_range.2 b.toNat_lt)
  rw [UInt8.ofNat_toNat] at h
  rw [beq_iff_eq] at h
  rw [h]
  rfl
theorem impl_name (s : ByteArray) : impl_IsName.f s = some (decide (IsNm s)) := by
  unfold impl_IsName.f
  by_cases h0 : (s.size : Int) < 1
  · rw [if_pos h0, decide_eq_false (fun h => by have := h.1; omega)]
  · rw [if_neg h0]
    by_cases h1 : (s.size : Int) > 12
    · rw [if_pos h1, decide_eq_false (fun h => by have := h.2.1; omega)]
    · rw [if_neg h1, if_pos (by omega)]
      by_cases h2 : bt s 0 < 97
      · rw [if_pos h2, decide_eq_false (fun h => by have := h.2.2.1.1; omega)]
      · rw [if_neg h2]
        by_cases h3 : bt s 0 > 122
        · rw [if_pos h3, decide_eq_false (fun h => by have := h.2.2.1.2; omega)]
        · rw [if_neg h3]
          unfold strings_Trim.f
          rw [if_pos ⟨by omega, by decide, by decide +kernel⟩]
          simp only [Option.bind_some]
          congr 1
          have e : (decide (IsNm s)) = decide (∀ b ∈ s.data.toList, nameC (b.toNat : Int)) := by
            rw [decide_eq_decide]
            constructor
            · intro h b hb
              obtain ⟨j, hj, rfl⟩ := List.getElem_of_mem hb
              have := h.2.2.2 j (by simpa using hj)
              rw [bt_at s j (by simpa using hj)] at this
              exact this
            · intro h
              refine ⟨by omega, by omega, ⟨by omega, by omega⟩, fun j hj => ?_⟩
              rw [bt_at s j hj]
              exact h _ (List.getElem_mem _)
          rw [e]
          have e2 : ∀ t : List UInt8, (({ data := t.toArray } : ByteArray).toList == ([] : List UInt8)) = decide (t = []) := by
            intro t
            rw [ByteArray.toList_eq]
            cases t <;> simp
          rw [e2, decide_eq_decide, trimS_nil]
          constructor
          · intro h b hb
            have := h b hb
            rw [name_cut] at this
            exact of_decide_eq_true this
          · intro h b hb
            rw [name_cut]
            exact decide_eq_true (h b hb)

theorem in_val (a b c : Int) : spec_l00In.f a b c = some (decide (b ≤ a ∧ a ≤ c)) := by
  unfold spec_l00In.f
  by_cases h : a ≥ b <;> by_cases h2 : a ≤ c <;> simp [h, h2] <;> omega
theorem within_val (a b c : Int) : impl_within.f a b c = some (decide (b ≤ a ∧ a ≤ c)) := in_val a b c

theorem rd_T90_at (l : List S90) (i : Nat) (h : i < l.length) : rd_T90 l (i : Int) = l[i] := by
  unfold rd_T90
  rw [Int.toNat_natCast, List.getD_eq_getElem?_getD, List.getElem?_eq_getElem h]
  rfl
theorem rd_T64_at (l : List S64) (i : Nat) (h : i < l.length) : rd_T64 l (i : Int) = l[i] := by
  unfold rd_T64
  rw [Int.toNat_natCast, List.getD_eq_getElem?_getD, List.getElem?_eq_getElem h]
  rfl

theorem known_l (l : List S90) (hl : l.length ≤ 1048576) (d : Nat) : ∀ (i : Nat), i ≤ l.length → l.length - i = d → ∃ r, Ev (fun k => spec_l14Known.l0 k l i) r ∧ Ev (fun k => impl_ValidKnown.l0 k l l l.length i) r := by
  induction d with
  | zero =>
    intro i hi hd
    refine ⟨decide ((l.length : Int) ≤ 30), ev_succ ?_, ev_succ ?_⟩
    · simp only [spec_l14Known.l0, if_neg (show ¬ (i : Int) < (l.length : Int) by omega)]
      exact ev_const rfl
    · simp only [impl_ValidKnown.l0, if_neg (show ¬ (i : Int) < (l.length : Int) by omega)]
      exact ev_const rfl
  | succ d ih =>
    intro i hi hd
    have hlt : i < l.length := by omega
    obtain ⟨r, h1, h2⟩ := ih (i + 1) (by omega) (by omega)
    have hn := spec_name l[i].f0
    have hs : ∀ v, Ev (fun k => (if decide (IsNm l[i].f0) = true then ((spec_l14Year.f l[i].f1).bind fun t111 => (if t111 = true then ((spec_l00In.f l[i].f2 l[i].f1 3000).bind fun t112 => (if t112 = true then (if (i : Int) > 0 then (if 0 ≤ (wrap64 ((i : Int) - 1)) then (if (wrap64 ((i : Int) - 1)) < (l.length : Int) then (if ((Op.bytesLess (((rd_T90 l (wrap64 ((i : Int) - 1))).f0).toList) ((l[i].f0).toList)) = true) then (spec_l14Known.l0 k l (wrap64 ((i : Int) + 1))) else (some false)) else (none)) else (none)) else (spec_l14Known.l0 k l (wrap64 ((i : Int) + 1)))) else (some false))) else (some false))) else (some false))) v → Ev (fun k => spec_l14Known.l0 k l i) v := by
      intro v hv
      refine ev_succ ?_
      simp only [spec_l14Known.l0, if_pos (show (i : Int) < (l.length : Int) by omega), if_pos (show (0 : Int) ≤ (i : Int) by omega), rd_T90_at _ _ hlt]
      exact Ev.bind hn hv
    have hii : ∀ v, Ev (fun k => (if decide (IsNm l[i].f0) = true then ((impl_within.f l[i].f1 1 l[i].f2).bind fun t131 => (if t131 = true then (if l[i].f2 > 3000 then (some false) else (if (i : Int) > 0 then (if 0 ≤ (wrap64 ((i : Int) - 1)) then (if (wrap64 ((i : Int) - 1)) < (l.length : Int) then (if ((Op.bytesLess (((rd_T90 l (wrap64 ((i : Int) - 1))).f0).toList) ((l[i].f0).toList)) = true) then (impl_ValidKnown.l0 k l l l.length (wrap64 ((i : Int) + 1))) else (some false)) else (none)) else (none)) else (impl_ValidKnown.l0 k l l l.length (wrap64 ((i : Int) + 1))))) else (some false))) else (some false))) v → Ev (fun k => impl_ValidKnown.l0 k l l l.length i) v := by
      intro v hv
      refine ev_succ ?_
      simp only [impl_ValidKnown.l0, if_pos (show (i : Int) < (l.length : Int) by omega), if_pos (show (0 : Int) ≤ (i : Int) by omega), rd_T90_at _ _ hlt, impl_name, Option.bind_some]
      exact hv
    by_cases c1 : IsNm l[i].f0
    · by_cases c2 : (1 ≤ l[i].f1 ∧ l[i].f1 ≤ 3000) ∧ (l[i].f1 ≤ l[i].f2 ∧ l[i].f2 ≤ 3000)
      · have cs : spec_l14Year.f l[i].f1 = some true := by unfold spec_l14Year.f; rw [in_val, decide_eq_true c2.1]; rfl
        have ci : impl_within.f l[i].f1 1 l[i].f2 = some true := by rw [within_val, decide_eq_true ⟨c2.1.1, c2.2.1⟩]
        have ct : spec_l00In.f l[i].f2 l[i].f1 3000 = some true := by rw [in_val, decide_eq_true c2.2]
        by_cases c3 : i = 0
        · refine ⟨r, hs r ?_, hii r ?_⟩
          · simp only [decide_eq_true c1, if_true, cs, ct, Option.bind_some, if_neg (show ¬ (i : Int) > 0 by omega), w64 (x := (i : Int) + 1) (by omega) (by omega)]
            exact h1
          · simp only [decide_eq_true c1, if_true, ci, Option.bind_some, if_neg (show ¬ l[i].f2 > 3000 by omega), if_neg (show ¬ (i : Int) > 0 by omega), w64 (x := (i : Int) + 1) (by omega) (by omega)]
            exact h2
        · by_cases c4 : Op.bytesLess (((rd_T90 l ((i : Int) - 1)).f0).toList) ((l[i].f0).toList) = true
          · refine ⟨r, hs r ?_, hii r ?_⟩
            · simp only [decide_eq_true c1, if_true, cs, ct, Option.bind_some, if_pos (show (i : Int) > 0 by omega), w64 (x := (i : Int) - 1) (by omega) (by omega), if_pos (show (0 : Int) ≤ (i : Int) - 1 by omega), if_pos (show (i : Int) - 1 < (l.length : Int) by omega), c4, w64 (x := (i : Int) + 1) (by omega) (by omega)]
              exact h1
            · simp only [decide_eq_true c1, if_true, ci, Option.bind_some, if_neg (show ¬ l[i].f2 > 3000 by omega), if_pos (show (i : Int) > 0 by omega), w64 (x := (i : Int) - 1) (by omega) (by omega), if_pos (show (0 : Int) ≤ (i : Int) - 1 by omega), if_pos (show (i : Int) - 1 < (l.length : Int) by omega), c4, w64 (x := (i : Int) + 1) (by omega) (by omega)]
              exact h2
          · refine ⟨false, hs _ ?_, hii _ ?_⟩
            · simp only [decide_eq_true c1, if_true, cs, ct, Option.bind_some, if_pos (show (i : Int) > 0 by omega), w64 (x := (i : Int) - 1) (by omega) (by omega), if_pos (show (0 : Int) ≤ (i : Int) - 1 by omega), if_pos (show (i : Int) - 1 < (l.length : Int) by omega), if_neg c4]
              exact ev_const rfl
            · simp only [decide_eq_true c1, if_true, ci, Option.bind_some, if_neg (show ¬ l[i].f2 > 3000 by omega), if_pos (show (i : Int) > 0 by omega), w64 (x := (i : Int) - 1) (by omega) (by omega), if_pos (show (0 : Int) ≤ (i : Int) - 1 by omega), if_pos (show (i : Int) - 1 < (l.length : Int) by omega), if_neg c4]
              exact ev_const rfl
      · refine ⟨false, hs _ ?_, hii _ ?_⟩
        · simp only [decide_eq_true c1, if_true]
          by_cases a1 : 1 ≤ l[i].f1 ∧ l[i].f1 ≤ 3000
          · have cs : spec_l14Year.f l[i].f1 = some true := by unfold spec_l14Year.f; rw [in_val, decide_eq_true a1]; rfl
            have ct : spec_l00In.f l[i].f2 l[i].f1 3000 = some false := by rw [in_val, decide_eq_false (fun h => c2 ⟨a1, h⟩)]
            simp only [cs, ct, Option.bind_some, if_true, Bool.false_eq_true, if_false]
            exact ev_const rfl
          · have cs : spec_l14Year.f l[i].f1 = some false := by unfold spec_l14Year.f; rw [in_val, decide_eq_false a1]; rfl
            simp only [cs, Option.bind_some, Bool.false_eq_true, if_false]
            exact ev_const rfl
        · simp only [decide_eq_true c1, if_true]
          by_cases a1 : 1 ≤ l[i].f1 ∧ l[i].f1 ≤ l[i].f2
          · have ci : impl_within.f l[i].f1 1 l[i].f2 = some true := by rw [within_val, decide_eq_true a1]
            simp only [ci, Option.bind_some, if_true, if_pos (show l[i].f2 > 3000 by omega)]
            exact ev_const rfl
          · have ci : impl_within.f l[i].f1 1 l[i].f2 = some false := by rw [within_val, decide_eq_false a1]
            simp only [ci, Option.bind_some, Bool.false_eq_true, if_false]
            exact ev_const rfl
    · refine ⟨false, hs _ ?_, hii _ ?_⟩
      · simp only [decide_eq_false c1, Bool.false_eq_true, if_false]
        exact ev_const rfl
      · simp only [decide_eq_false c1, Bool.false_eq_true, if_false]
        exact ev_const rfl
theorem known_same (l : List S90) (hl : l.length ≤ 1048576) : ∃ r, Ev (fun k => spec_l14Known.f k l) r ∧ Ev (fun k => impl_ValidKnown.f k l) r :=
  known_l l hl l.length 0 (by omega) (by omega)

theorem shown_l (l : List ByteArray) (hl : l.length ≤ 1048576) (d : Nat) : ∀ (i : Nat), i ≤ l.length → l.length - i = d → ∃ r, Ev (fun k => spec_l14Names.l0 k l i) r ∧ Ev (fun k => impl_areShown.l0 k l l l.length i) r := by
  induction d with
  | zero =>
    intro i hi hd
    refine ⟨decide ((l.length : Int) ≤ 30), ev_succ ?_, ev_succ ?_⟩
    · simp only [spec_l14Names.l0, if_neg (show ¬ (i : Int) < (l.length : Int) by omega)]
      exact ev_const rfl
    · simp only [impl_areShown.l0, if_neg (show ¬ (i : Int) < (l.length : Int) by omega)]
      exact ev_const rfl
  | succ d ih =>
    intro i hi hd
    have hlt : i < l.length := by omega
    obtain ⟨r, h1, h2⟩ := ih (i + 1) (by omega) (by omega)
    have hn := spec_name l[i]
    by_cases c1 : IsNm l[i]
    · by_cases c3 : i = 0
      · refine ⟨r, ev_succ ?_, ev_succ ?_⟩
        · simp only [spec_l14Names.l0, if_pos (show (i : Int) < (l.length : Int) by omega), if_pos (show (0 : Int) ≤ (i : Int) by omega), rdOf_at _ _ _ hlt]
          refine Ev.bind hn ?_
          simp only [decide_eq_true c1, if_true, if_neg (show ¬ (i : Int) > 0 by omega), w64 (x := (i : Int) + 1) (by omega) (by omega)]
          exact h1
        · simp only [impl_areShown.l0, if_pos (show (i : Int) < (l.length : Int) by omega), if_pos (show (0 : Int) ≤ (i : Int) by omega), rdOf_at _ _ _ hlt, impl_name, Option.bind_some, decide_eq_true c1, if_true, if_neg (show ¬ (i : Int) > 0 by omega), w64 (x := (i : Int) + 1) (by omega) (by omega)]
          exact h2
      · by_cases c4 : Op.bytesLess ((rdOf ByteArray.empty l ((i : Int) - 1)).toList) ((l[i]).toList) = true
        · refine ⟨r, ev_succ ?_, ev_succ ?_⟩
          · simp only [spec_l14Names.l0, if_pos (show (i : Int) < (l.length : Int) by omega), if_pos (show (0 : Int) ≤ (i : Int) by omega), rdOf_at _ _ _ hlt]
            refine Ev.bind hn ?_
            simp only [decide_eq_true c1, if_true, if_pos (show (i : Int) > 0 by omega), w64 (x := (i : Int) - 1) (by omega) (by omega), if_pos (show (0 : Int) ≤ (i : Int) - 1 by omega), if_pos (show (i : Int) - 1 < (l.length : Int) by omega), c4, w64 (x := (i : Int) + 1) (by omega) (by omega)]
            exact h1
          · simp only [impl_areShown.l0, if_pos (show (i : Int) < (l.length : Int) by omega), if_pos (show (0 : Int) ≤ (i : Int) by omega), rdOf_at _ _ _ hlt, impl_name, Option.bind_some, decide_eq_true c1, if_true, if_pos (show (i : Int) > 0 by omega), w64 (x := (i : Int) - 1) (by omega) (by omega), if_pos (show (0 : Int) ≤ (i : Int) - 1 by omega), if_pos (show (i : Int) - 1 < (l.length : Int) by omega), c4, w64 (x := (i : Int) + 1) (by omega) (by omega)]
            exact h2
        · refine ⟨false, ev_succ ?_, ev_succ ?_⟩
          · simp only [spec_l14Names.l0, if_pos (show (i : Int) < (l.length : Int) by omega), if_pos (show (0 : Int) ≤ (i : Int) by omega), rdOf_at _ _ _ hlt]
            refine Ev.bind hn ?_
            simp only [decide_eq_true c1, if_true, if_pos (show (i : Int) > 0 by omega), w64 (x := (i : Int) - 1) (by omega) (by omega), if_pos (show (0 : Int) ≤ (i : Int) - 1 by omega), if_pos (show (i : Int) - 1 < (l.length : Int) by omega), if_neg c4]
            exact ev_const rfl
          · simp only [impl_areShown.l0, if_pos (show (i : Int) < (l.length : Int) by omega), if_pos (show (0 : Int) ≤ (i : Int) by omega), rdOf_at _ _ _ hlt, impl_name, Option.bind_some, decide_eq_true c1, if_true, if_pos (show (i : Int) > 0 by omega), w64 (x := (i : Int) - 1) (by omega) (by omega), if_pos (show (0 : Int) ≤ (i : Int) - 1 by omega), if_pos (show (i : Int) - 1 < (l.length : Int) by omega), if_neg c4]
            exact ev_const rfl
    · refine ⟨false, ev_succ ?_, ev_succ ?_⟩
      · simp only [spec_l14Names.l0, if_pos (show (i : Int) < (l.length : Int) by omega), if_pos (show (0 : Int) ≤ (i : Int) by omega), rdOf_at _ _ _ hlt]
        refine Ev.bind hn ?_
        simp only [decide_eq_false c1, Bool.false_eq_true, if_false]
        exact ev_const rfl
      · simp only [impl_areShown.l0, if_pos (show (i : Int) < (l.length : Int) by omega), if_pos (show (0 : Int) ≤ (i : Int) by omega), rdOf_at _ _ _ hlt, impl_name, Option.bind_some, decide_eq_false c1, Bool.false_eq_true, if_false]
        exact ev_const rfl
theorem shown_same (l : List ByteArray) (hl : l.length ≤ 1048576) : ∃ r, Ev (fun k => spec_l14Names.f k l) r ∧ Ev (fun k => impl_areShown.f k l) r := shown_l l hl l.length 0 (by omega) (by omega)

/-- Whether a list of texts has one. -/
def hasB (l : List ByteArray) (a : ByteArray) : Bool := l.any (fun x => decide (x.toList = a.toList))
theorem hass_l (l : List ByteArray) (hl : l.length ≤ 1048576) (a : ByteArray) (d : Nat) : ∀ (i : Nat), i ≤ l.length → l.length - i = d → Ev (fun k => spec_l14Has.l0 k l a i) (hasB (l.drop i) a) := by
  induction d with
  | zero =>
    intro i hi hd
    rw [List.drop_eq_nil_of_le (by omega)]
    apply ev_succ
    simp only [spec_l14Has.l0, if_neg (show ¬ (i : Int) < (l.length : Int) by omega)]
    exact ev_const rfl
  | succ d ih =>
    intro i hi hd
    have hlt : i < l.length := by omega
    have h1 := ih (i + 1) (by omega) (by omega)
    have hd : hasB (l.drop i) a = (decide (l[i].toList = a.toList) || hasB (l.drop (i + 1)) a) := by
      unfold hasB
      rw [List.drop_eq_getElem_cons hlt, List.any_cons]
    rw [hd]
    apply ev_succ
    by_cases c : l[i].toList = a.toList
    · rw [decide_eq_true c, Bool.true_or]
      simp only [spec_l14Has.l0, if_pos (show (i : Int) < (l.length : Int) by omega), if_pos (show (0 : Int) ≤ (i : Int) by omega), rdOf_at _ _ _ hlt, if_pos c]
      exact ev_const rfl
    · rw [decide_eq_false c, Bool.false_or]
      simp only [spec_l14Has.l0, if_pos (show (i : Int) < (l.length : Int) by omega), if_pos (show (0 : Int) ≤ (i : Int) by omega), rdOf_at _ _ _ hlt, if_neg c, w64 (x := (i : Int) + 1) (by omega) (by omega)]
      exact h1
theorem has_spec (l : List ByteArray) (hl : l.length ≤ 1048576) (a : ByteArray) : Ev (fun k => spec_l14Has.f k l a) (hasB l a) := hass_l l hl a l.length 0 (by omega) (by omega)

theorem bl_irr : ∀ x : List UInt8, Op.bytesLess x x = false
  | [] => rfl
  | a :: x => by simp [Op.bytesLess, bl_irr x]
theorem bl_trans : ∀ x y z : List UInt8, Op.bytesLess x y = true → Op.bytesLess y z = true → Op.bytesLess x z = true
  | _, [], _, h, _ => by simp [Op.bytesLess] at h
  | _, _ :: _, [], _, h => by simp [Op.bytesLess] at h
  | [], b :: y, c :: z, _, _ => by simp [Op.bytesLess]
  | a :: x, b :: y, c :: z, h1, h2 => by
    simp only [Op.bytesLess, Bool.or_eq_true, decide_eq_true_eq, Bool.and_eq_true, beq_iff_eq] at h1 h2 ⊢
    rcases h1 with h1 | ⟨rfl, h1⟩
    · rcases h2 with h2 | ⟨rfl, h2⟩
      · exact .inl (UInt8.lt_trans h1 h2)
      · exact .inl h1
    · rcases h2 with h2 | ⟨rfl, h2⟩
      · exact .inl h2
      · exact .inr ⟨rfl, bl_trans x y z h1 h2⟩
/-- A list that ascends from neighbour to neighbour has different texts everywhere. -/
theorem chain_ne {α : Type} (g : α → List UInt8) (l : List α) (h : ∀ (j : Nat) (hj : j < l.length), 0 < j → Op.bytesLess (g (l[j - 1]'(by omega))) (g l[j]) = true) : l.Pairwise (fun x y => g x ≠ g y) := by
  have key : ∀ (d i : Nat) (h2 : i + (d + 1) < l.length), Op.bytesLess (g (l[i]'(by omega))) (g l[i + (d + 1)]) = true := by
    intro d
    induction d with
    | zero =>
      intro i h2
      have := h (i + 1) h2 (by omega)
      simpa using this
    | succ d ih =>
      intro i h2
      have h3 := h (i + (d + 1 + 1)) h2 (by omega)
      simp only [show i + (d + 1 + 1) - 1 = i + (d + 1) by omega] at h3
      exact bl_trans _ _ _ (ih i (by omega)) h3
  rw [List.pairwise_iff_getElem]
  intro i j hi hj hij e
  have h1 := key (j - i - 1) i (by omega)
  simp only [show i + (j - i - 1 + 1) = j by omega] at h1
  rw [e, bl_irr] at h1
  cases h1
/-- Names that are shown ascend. -/
theorem shown_chain (l : List ByteArray) (hl : l.length ≤ 1048576) (d : Nat) : ∀ (i : Nat), i ≤ l.length → l.length - i = d → Ev (fun k => impl_areShown.l0 k l l l.length i) true →
    ∀ (j : Nat) (hj : j < l.length), i ≤ j → 0 < j → Op.bytesLess (l[j - 1]'(by omega)).toList (l[j]).toList = true := by
  induction d with
  | zero =>
    intro i hi hd _ j hj hij _
    omega
  | succ d ih =>
    intro i hi hd hE j hj hij hj0
    have hlt : i < l.length := by omega
    obtain ⟨K, hK⟩ := hE
    have hu : ∀ k, K ≤ k → impl_areShown.l0 (k + 1) l l l.length i = some true := fun k hk => hK (k + 1) (by omega)
    simp only [impl_areShown.l0, if_pos (show (i : Int) < (l.length : Int) by omega), if_pos (show (0 : Int) ≤ (i : Int) by omega), rdOf_at _ _ _ hlt, impl_name, Option.bind_some] at hu
    by_cases c1 : IsNm l[i]
    · simp only [decide_eq_true c1, if_true] at hu
      by_cases c3 : i = 0
      · simp only [if_neg (show ¬ (i : Int) > 0 by omega), w64 (x := (i : Int) + 1) (by omega) (by omega)] at hu
        exact ih (i + 1) (by omega) (by omega) ⟨K, hu⟩ j hj (by omega) hj0
      · have hm : i - 1 < l.length := by omega
        have hrd : rdOf ByteArray.empty l ((i : Int) - 1) = l[i - 1] := by rw [show (i : Int) - 1 = ((i - 1 : Nat) : Int) by omega]; exact rdOf_at _ _ _ hm
        simp only [if_pos (show (i : Int) > 0 by omega), w64 (x := (i : Int) - 1) (by omega) (by omega), if_pos (show (0 : Int) ≤ (i : Int) - 1 by omega), if_pos (show (i : Int) - 1 < (l.length : Int) by omega), hrd] at hu
        by_cases c4 : Op.bytesLess (l[i - 1]).toList (l[i]).toList = true
        · simp only [c4, if_true, w64 (x := (i : Int) + 1) (by omega) (by omega)] at hu
          by_cases e : j = i
          · subst e; exact c4
          · exact ih (i + 1) (by omega) (by omega) ⟨K, hu⟩ j hj (by omega) hj0
        · have := hu K (Nat.le_refl _)
          simp only [if_neg c4] at this
          cases this
    · have := hu K (Nat.le_refl _)
      simp only [decide_eq_false c1, Bool.false_eq_true, if_false] at this
      cases this
theorem shown_ne (l : List ByteArray) (hl : l.length ≤ 1048576) (h : Ev (fun k => impl_areShown.f k l) true) : l.Pairwise (fun x y => x.toList ≠ y.toList) :=
  chain_ne (fun x : ByteArray => x.toList) l (fun j hj h0 => shown_chain l hl l.length 0 (by omega) (by omega) h j hj (by omega) h0)

/-- Known names ascend. -/
theorem known_chain (l : List S90) (hl : l.length ≤ 1048576) (d : Nat) : ∀ (i : Nat), i ≤ l.length → l.length - i = d → Ev (fun k => impl_ValidKnown.l0 k l l l.length i) true →
    ∀ (j : Nat) (hj : j < l.length), i ≤ j → 0 < j → Op.bytesLess (l[j - 1]'(by omega)).f0.toList (l[j]).f0.toList = true := by
  induction d with
  | zero =>
    intro i hi hd _ j hj hij _
    omega
  | succ d ih =>
    intro i hi hd hE j hj hij hj0
    have hlt : i < l.length := by omega
    obtain ⟨K, hK⟩ := hE
    have hu : ∀ k, K ≤ k → impl_ValidKnown.l0 (k + 1) l l l.length i = some true := fun k hk => hK (k + 1) (by omega)
    simp only [impl_ValidKnown.l0, if_pos (show (i : Int) < (l.length : Int) by omega), if_pos (show (0 : Int) ≤ (i : Int) by omega), rd_T90_at _ _ hlt, impl_name, within_val, Option.bind_some] at hu
    by_cases c1 : IsNm l[i].f0
    · simp only [decide_eq_true c1, if_true] at hu
      by_cases c2 : 1 ≤ l[i].f1 ∧ l[i].f1 ≤ l[i].f2
      · simp only [decide_eq_true c2, if_true] at hu
        by_cases c5 : l[i].f2 > 3000
        · have := hu K (Nat.le_refl _)
          simp only [if_pos c5] at this
          cases this
        · simp only [if_neg c5] at hu
          by_cases c3 : i = 0
          · simp only [if_neg (show ¬ (i : Int) > 0 by omega), w64 (x := (i : Int) + 1) (by omega) (by omega)] at hu
            exact ih (i + 1) (by omega) (by omega) ⟨K, hu⟩ j hj (by omega) hj0
          · have hm : i - 1 < l.length := by omega
            have hrd : rd_T90 l ((i : Int) - 1) = l[i - 1] := by rw [show (i : Int) - 1 = ((i - 1 : Nat) : Int) by omega]; exact rd_T90_at _ _ hm
            simp only [if_pos (show (i : Int) > 0 by omega), w64 (x := (i : Int) - 1) (by omega) (by omega), if_pos (show (0 : Int) ≤ (i : Int) - 1 by omega), if_pos (show (i : Int) - 1 < (l.length : Int) by omega), hrd] at hu
            by_cases c4 : Op.bytesLess (l[i - 1]).f0.toList (l[i]).f0.toList = true
            · simp only [c4, if_true, w64 (x := (i : Int) + 1) (by omega) (by omega)] at hu
              by_cases e : j = i
              · subst e; exact c4
              · exact ih (i + 1) (by omega) (by omega) ⟨K, hu⟩ j hj (by omega) hj0
            · have := hu K (Nat.le_refl _)
              simp only [if_neg c4] at this
              cases this
      · have := hu K (Nat.le_refl _)
        simp only [decide_eq_false c2, Bool.false_eq_true, if_false] at this
        cases this
    · have := hu K (Nat.le_refl _)
      simp only [decide_eq_false c1, Bool.false_eq_true, if_false] at this
      cases this
theorem known_ne (l : List S90) (hl : l.length ≤ 1048576) (h : Ev (fun k => impl_ValidKnown.f k l) true) : l.Pairwise (fun x y => x.f0.toList ≠ y.f0.toList) :=
  chain_ne (fun x : S90 => x.f0.toList) l (fun j hj h0 => known_chain l hl l.length 0 (by omega) (by omega) h j hj (by omega) h0)

def mxF (S : List S90) (s : Int) : Int := S.foldl (fun m x => max m x.f1) s
def mnF (S : List S90) (s : Int) : Int := S.foldl (fun m x => min m x.f2) s
theorem mxF_le (S : List S90) : ∀ (s v : Int), mxF S s ≤ v ↔ s ≤ v ∧ ∀ x ∈ S, x.f1 ≤ v := by
  induction S with
  | nil => intro s v; simp [mxF]
  | cons a S ih =>
    intro s v
    have := ih (max s a.f1) v
    unfold mxF at this ⊢
    rw [List.foldl_cons, this, List.forall_mem_cons]
    constructor
    · rintro ⟨h1, h2⟩; exact ⟨by omega, by omega, h2⟩
    · rintro ⟨h1, h2, h3⟩; exact ⟨by omega, h3⟩
theorem mnF_le (S : List S90) : ∀ (s v : Int), v ≤ mnF S s ↔ v ≤ s ∧ ∀ x ∈ S, v ≤ x.f2 := by
  induction S with
  | nil => intro s v; simp [mnF]
  | cons a S ih =>
    intro s v
    have := ih (min s a.f2) v
    unfold mnF at this ⊢
    rw [List.foldl_cons, this, List.forall_mem_cons]
    constructor
    · rintro ⟨h1, h2⟩; exact ⟨by omega, by omega, h2⟩
    · rintro ⟨h1, h2, h3⟩; exact ⟨by omega, h3⟩
theorem mxF_same (S T : List S90) (h : ∀ x, x ∈ S ↔ x ∈ T) (s : Int) : mxF S s = mxF T s := by
  have h1 := (mxF_le S s (mxF T s)).2 (by have := (mxF_le T s (mxF T s)).1 (Int.le_refl _); exact ⟨this.1, fun x hx => this.2 x ((h x).1 hx)⟩)
  have h2 := (mxF_le T s (mxF S s)).2 (by have := (mxF_le S s (mxF S s)).1 (Int.le_refl _); exact ⟨this.1, fun x hx => this.2 x ((h x).2 hx)⟩)
  omega
theorem mnF_same (S T : List S90) (h : ∀ x, x ∈ S ↔ x ∈ T) (s : Int) : mnF S s = mnF T s := by
  have h1 := (mnF_le S s (mnF T s)).2 (by have := (mnF_le T s (mnF T s)).1 (Int.le_refl _); exact ⟨this.1, fun x hx => this.2 x ((h x).1 hx)⟩)
  have h2 := (mnF_le T s (mnF S s)).2 (by have := (mnF_le S s (mnF S s)).1 (Int.le_refl _); exact ⟨this.1, fun x hx => this.2 x ((h x).2 hx)⟩)
  omega
def fin2 (F T : Int) : Int × Int × Int := if F > T then (0, 0, 9) else (F, T, 0)
/-- The known names among names. -/
def knownIn (n : List ByteArray) (l : List S90) : List S90 := l.filter (fun x => hasB n x.f0)
theorem sdate_l (l : List S90) (hl : l.length ≤ 1048576) (n : List ByteArray) (hn : n.length ≤ 1048576) (d : Nat) : ∀ (f t : Int) (c : Nat) (i : Nat), i ≤ l.length → l.length - i = d → c ≤ i →
    Ev (fun k => spec_DateBy.l0 k l n f t c i) (if c + (knownIn n (l.drop i)).length < n.length then (0, 0, 3) else fin2 (mxF (knownIn n (l.drop i)) f) (mnF (knownIn n (l.drop i)) t)) := by
  induction d with
  | zero =>
    intro f t c i hi hd hc
    rw [List.drop_eq_nil_of_le (by omega), show knownIn n [] = [] from rfl]
    apply ev_succ
    simp only [spec_DateBy.l0, if_neg (show ¬ (i : Int) < (l.length : Int) by omega), List.length_nil, Nat.add_zero]
    by_cases h : c < n.length
    · simp only [if_pos h, if_pos (show (c : Int) < (n.length : Int) by omega)]
      exact ev_const rfl
    · simp only [if_neg h, if_neg (show ¬ (c : Int) < (n.length : Int) by omega)]
      refine ev_const ?_
      rw [show fin2 (mxF [] f) (mnF [] t) = if f > t then (0, 0, 9) else (f, t, 0) from rfl]
      by_cases hh : f > t
      · rw [if_pos hh, if_pos hh]
      · rw [if_neg hh, if_neg hh]
  | succ d ih =>
    intro f t c i hi hd hc
    have hlt : i < l.length := by omega
    apply ev_succ
    simp only [spec_DateBy.l0, if_pos (show (i : Int) < (l.length : Int) by omega), if_pos (show (0 : Int) ≤ (i : Int) by omega), rd_T90_at _ _ hlt]
    refine Ev.bind (has_spec n hn l[i].f0) ?_
    by_cases h : hasB n l[i].f0 = true
    · have e : knownIn n (l.drop i) = l[i] :: knownIn n (l.drop (i + 1)) := by unfold knownIn; rw [List.drop_eq_getElem_cons hlt, List.filter_cons, h]; rfl
      have h2 := ih (max f l[i].f1) (min t l[i].f2) (c + 1) (i + 1) (by omega) (by omega) (by omega)
      have m1 : spec_l00Max.f f l[i].f1 = some (max f l[i].f1) := by unfold spec_l00Max.f; split <;> (congr 1; omega)
      have m2 : spec_l00Min.f t l[i].f2 = some (min t l[i].f2) := by unfold spec_l00Min.f; split <;> (congr 1; omega)
      rw [e]
      simp only [h, if_true, m1, m2, Option.bind_some, w64 (x := (c : Int) + 1) (by omega) (by omega), w64 (x := (i : Int) + 1) (by omega) (by omega), List.length_cons, show c + ((knownIn n (l.drop (i + 1))).length + 1) = c + 1 + (knownIn n (l.drop (i + 1))).length by omega]
      exact h2
    · replace h : hasB n l[i].f0 = false := by simpa using h
      have e : knownIn n (l.drop i) = knownIn n (l.drop (i + 1)) := by unfold knownIn; rw [List.drop_eq_getElem_cons hlt, List.filter_cons, h]; rfl
      have h2 := ih f t c (i + 1) (by omega) (by omega) (by omega)
      rw [e]
      simp only [h, Bool.false_eq_true, if_false, w64 (x := (i : Int) + 1) (by omega) (by omega)]
      exact h2
/-- Where a name stands in known names. -/
def knAny (l : List S90) (a : ByteArray) : Bool := l.any (fun y => y.f0.toList == a.toList)
def knAt (l : List S90) (a : ByteArray) : S90 := rd_T90 l ((l.findIdx (fun y => y.f0.toList == a.toList) : Nat) : Int)
def imF (l : List S90) : List ByteArray → Int → Int → Int × Int × Int
  | [], f, t => fin2 f t
  | a :: r, f, t => if knAny l a = true then imF l r (max f (knAt l a).f1) (min t (knAt l a).f2) else (0, 0, 3)
theorem knAt_mem (l : List S90) (a : ByteArray) (h : knAny l a = true) : l.findIdx (fun y => y.f0.toList == a.toList) < l.length ∧ knAt l a ∈ l ∧ (knAt l a).f0.toList = a.toList := by
  unfold knAny at h
  obtain ⟨x, hx, hp⟩ := List.any_eq_true.1 h
  have hlt : l.findIdx (fun y => y.f0.toList == a.toList) < l.length := List.findIdx_lt_length_of_exists ⟨x, hx, hp⟩
  have e : knAt l a = l[l.findIdx (fun y => y.f0.toList == a.toList)] := rd_T90_at _ _ hlt
  refine ⟨hlt, by rw [e]; exact List.getElem_mem _, ?_⟩
  rw [e]
  exact beq_iff_eq.1 (List.findIdx_getElem (w := hlt))
theorem idate_l (l : List S90) (hl : l.length ≤ 1048576) (n : List ByteArray) (hn : n.length ≤ 1048576) (d : Nat) : ∀ (f t : Int) (i : Nat), i ≤ n.length → n.length - i = d →
    Ev (fun k => impl_DateBy.l0 k l f t n n.length i) (imF l (n.drop i) f t) := by
  induction d with
  | zero =>
    intro f t i hi hd
    rw [List.drop_eq_nil_of_le (by omega)]
    apply ev_succ
    simp only [impl_DateBy.l0, if_neg (show ¬ (i : Int) < (n.length : Int) by omega)]
    refine ev_const ?_
    unfold imF fin2
    split
    · rfl
    · rfl
  | succ d ih =>
    intro f t i hi hd
    have hlt : i < n.length := by omega
    have h2 := ih (max f (knAt l n[i]).f1) (min t (knAt l n[i]).f2) (i + 1) (by omega) (by omega)
    rw [List.drop_eq_getElem_cons hlt]
    apply ev_succ
    simp only [impl_DateBy.l0, if_pos (show (i : Int) < (n.length : Int) by omega), if_pos (show (0 : Int) ≤ (i : Int) by omega), rdOf_at _ _ _ hlt, impl_knownAt.f, Option.bind_some, imF]
    by_cases h : knAny l n[i] = true
    · have e : idxKnown_v (fun y => y.f0.toList == n[i].toList) l = ((l.findIdx (fun y => y.f0.toList == n[i].toList) : Nat) : Int) := by unfold idxKnown_v; exact if_pos h
      have hk := (knAt_mem l n[i] h).1
      simp only [e, h, if_true, if_neg (show ¬ ((l.findIdx (fun y => y.f0.toList == n[i].toList) : Nat) : Int) < 0 by omega), if_pos (show (0 : Int) ≤ ((l.findIdx (fun y => y.f0.toList == n[i].toList) : Nat) : Int) by omega), if_pos (show ((l.findIdx (fun y => y.f0.toList == n[i].toList) : Nat) : Int) < (l.length : Int) by omega), w64 (x := (i : Int) + 1) (by omega) (by omega)]
      have m1 : mx f (knAt l n[i]).f1 = max f (knAt l n[i]).f1 := by unfold mx; split <;> omega
      have m2 : mn t (knAt l n[i]).f2 = min t (knAt l n[i]).f2 := by unfold mn; split <;> omega
      rw [← m1, ← m2] at h2 ⊢
      exact h2
    · have e : idxKnown_v (fun y => y.f0.toList == n[i].toList) l = -1 := by unfold idxKnown_v; exact if_neg h
      simp only [e, if_neg h, if_pos (show (-1 : Int) < 0 by omega)]
      exact ev_const rfl
theorem imF_all (l : List S90) (n : List ByteArray) : ∀ (f t : Int), (∀ a ∈ n, knAny l a = true) → imF l n f t = fin2 (mxF (n.map (knAt l)) f) (mnF (n.map (knAt l)) t) := by
  induction n with
  | nil => intro f t _; unfold imF; rfl
  | cons a n ih =>
    intro f t h
    rw [List.forall_mem_cons] at h
    rw [imF, if_pos h.1, ih _ _ h.2]
    rfl
theorem imF_not (l : List S90) (n : List ByteArray) : ∀ (f t : Int), ¬ (∀ a ∈ n, knAny l a = true) → imF l n f t = (0, 0, 3) := by
  induction n with
  | nil => intro f t h; exact absurd (by simp) h
  | cons a n ih =>
    intro f t h
    rw [imF]
    by_cases c : knAny l a = true
    · rw [if_pos c]
      exact ih _ _ (fun h2 => h (by rw [List.forall_mem_cons]; exact ⟨c, h2⟩))
    · rw [if_neg c]
theorem count_or {α : Type} (p q : α → Bool) (l : List α) (h : ∀ x ∈ l, ¬ (p x = true ∧ q x = true)) : l.countP (fun x => p x || q x) = l.countP p + l.countP q := by
  induction l with
  | nil => rfl
  | cons a l ih =>
    rw [List.forall_mem_cons] at h
    rw [List.countP_cons, List.countP_cons, List.countP_cons, ih h.2]
    have := h.1
    cases hp : p a <;> cases hq : q a
    · simp
    · simp; omega
    · simp; omega
    · exact absurd ⟨hp, hq⟩ this
theorem count_one (l : List S90) (hl : l.Pairwise (fun x y => x.f0.toList ≠ y.f0.toList)) (a : ByteArray) : l.countP (fun x => decide (a.toList = x.f0.toList)) = if knAny l a = true then 1 else 0 := by
  induction l with
  | nil => rfl
  | cons x l ih =>
    rw [List.pairwise_cons] at hl
    rw [List.countP_cons, ih hl.2]
    unfold knAny
    rw [List.any_cons]
    by_cases c : x.f0.toList = a.toList
    · have h0 : l.any (fun y => y.f0.toList == a.toList) = false := by
        rw [List.any_eq_false]
        intro y hy e
        exact hl.1 y hy (c.trans (beq_iff_eq.1 e).symm)
      rw [h0, beq_iff_eq.2 c, decide_eq_true c.symm]
      simp
    · rw [beq_eq_false_iff_ne.2 c, decide_eq_false (fun e => c e.symm)]
      simp
theorem count_both (l : List S90) (hl : l.Pairwise (fun x y => x.f0.toList ≠ y.f0.toList)) (n : List ByteArray) (hn : n.Pairwise (fun x y => x.toList ≠ y.toList)) : (knownIn n l).length = n.countP (knAny l) := by
  unfold knownIn
  rw [← List.countP_eq_length_filter]
  induction n with
  | nil =>
    rw [List.countP_nil, List.countP_eq_zero]
    intro x _
    simp [hasB]
  | cons a n ih =>
    rw [List.pairwise_cons] at hn
    have e : (fun x : S90 => hasB (a :: n) x.f0) = fun x => decide (a.toList = x.f0.toList) || hasB n x.f0 := by funext x; unfold hasB; rw [List.any_cons]
    rw [e, count_or, count_one l hl, ih hn.2, List.countP_cons]
    · omega
    · rintro x _ ⟨h1, h2⟩
      unfold hasB at h2
      obtain ⟨b, hb, hq⟩ := List.any_eq_true.1 h2
      exact hn.1 b hb ((of_decide_eq_true h1).trans (of_decide_eq_true hq).symm)
theorem key_inj (l : List S90) (hl : l.Pairwise (fun x y => x.f0.toList ≠ y.f0.toList)) (x y : S90) (hx : x ∈ l) (hy : y ∈ l) (e : x.f0.toList = y.f0.toList) : x = y := by
  rw [List.pairwise_iff_getElem] at hl
  obtain ⟨i, hi, rfl⟩ := List.getElem_of_mem hx
  obtain ⟨j, hj, rfl⟩ := List.getElem_of_mem hy
  rcases Nat.lt_trichotomy i j with h | h | h
  · exact absurd e (hl i j hi hj h)
  · subst h; rfl
  · exact absurd e.symm (hl j i hj hi h)
theorem members (l : List S90) (hl : l.Pairwise (fun x y => x.f0.toList ≠ y.f0.toList)) (n : List ByteArray) (h : ∀ a ∈ n, knAny l a = true) (x : S90) : x ∈ knownIn n l ↔ x ∈ n.map (knAt l) := by
  unfold knownIn
  rw [List.mem_filter, List.mem_map]
  constructor
  · rintro ⟨hx, hh⟩
    unfold hasB at hh
    obtain ⟨a, ha, hq⟩ := List.any_eq_true.1 hh
    obtain ⟨_, h2, h3⟩ := knAt_mem l a (h a ha)
    exact ⟨a, ha, key_inj l hl _ _ h2 hx (h3.trans (of_decide_eq_true hq))⟩
  · rintro ⟨a, ha, rfl⟩
    obtain ⟨_, h2, h3⟩ := knAt_mem l a (h a ha)
    exact ⟨h2, List.any_eq_true.2 ⟨a, ha, decide_eq_true h3.symm⟩⟩
theorem dates_eq (l : List S90) (hl : l.Pairwise (fun x y => x.f0.toList ≠ y.f0.toList)) (n : List ByteArray) (hn : n.Pairwise (fun x y => x.toList ≠ y.toList)) (f t : Int) :
    (if 0 + (knownIn n l).length < n.length then ((0, 0, 3) : Int × Int × Int) else fin2 (mxF (knownIn n l) f) (mnF (knownIn n l) t)) = imF l n f t := by
  rw [count_both l hl n hn]
  by_cases h : ∀ a ∈ n, knAny l a = true
  · rw [imF_all l n f t h, List.countP_eq_length.2 h, if_neg (by omega), mxF_same _ _ (members l hl n h) f, mnF_same _ _ (members l hl n h) t]
  · rw [imF_not l n f t h, if_pos]
    have h1 := List.countP_le_length (p := knAny l) (l := n)
    have h2 : n.countP (knAny l) ≠ n.length := fun e => h (List.countP_eq_length.1 e)
    omega
theorem syear (a : Int) : spec_l14Year.f a = some (decide (1 ≤ a ∧ a ≤ 3000)) := by unfold spec_l14Year.f; rw [in_val]; rfl
theorem iyear (a : Int) : impl_isYear.f a = some (decide (1 ≤ a ∧ a ≤ 3000)) := by unfold impl_isYear.f; rw [within_val]; rfl
theorem editions_l (l : List S64) (hl : l.length ≤ 1048576) (hw : ∀ y ∈ l, y.f1.length ≤ 1048576) (d : Nat) : ∀ (i : Nat), i ≤ l.length → l.length - i = d → ∃ r, Ev (fun k => spec_l14Ok.l0 k l i) r ∧ Ev (fun k => impl_ValidEditions.l0 k l l l.length i) r := by
  induction d with
  | zero =>
    intro i hi hd
    refine ⟨decide ((l.length : Int) ≤ 20), ev_succ ?_, ev_succ ?_⟩
    · simp only [spec_l14Ok.l0, if_neg (show ¬ (i : Int) < (l.length : Int) by omega)]
      exact ev_const rfl
    · simp only [impl_ValidEditions.l0, if_neg (show ¬ (i : Int) < (l.length : Int) by omega)]
      exact ev_const rfl
  | succ d ih =>
    intro i hi hd
    have hlt : i < l.length := by omega
    obtain ⟨r, h1, h2⟩ := ih (i + 1) (by omega) (by omega)
    obtain ⟨n, n1, n2⟩ := shown_same l[i].f1 (hw _ (List.getElem_mem hlt))
    by_cases cy : 1 ≤ l[i].f0 ∧ l[i].f0 ≤ 3000
    · have hs : ∀ v, Ev (fun k => if n = true then (if (i : Int) > 0 then (if (rd_T64 l ((i : Int) - 1)).f0 ≥ l[i].f0 then (some false) else (spec_l14Ok.l0 k l ((i + 1 : Nat) : Int))) else (spec_l14Ok.l0 k l ((i + 1 : Nat) : Int))) else (some false)) v → Ev (fun k => spec_l14Ok.l0 k l i) v := by
        intro v hv
        refine ev_succ ?_
        simp only [spec_l14Ok.l0, if_pos (show (i : Int) < (l.length : Int) by omega), if_pos (show (0 : Int) ≤ (i : Int) by omega), rd_T64_at _ _ hlt, syear, Option.bind_some, decide_eq_true cy, if_true]
        refine Ev.bind n1 ?_
        by_cases c3 : (i : Int) > 0
        · simp only [if_pos c3, w64 (x := (i : Int) - 1) (by omega) (by omega), if_pos (show (0 : Int) ≤ (i : Int) - 1 by omega), if_pos (show (i : Int) - 1 < (l.length : Int) by omega), w64 (x := (i : Int) + 1) (by omega) (by omega)] at hv ⊢
          exact hv
        · simp only [if_neg c3, w64 (x := (i : Int) + 1) (by omega) (by omega)] at hv ⊢
          exact hv
      have hi2 : ∀ v, Ev (fun k => if n = true then (if (i : Int) > 0 then (if (rd_T64 l ((i : Int) - 1)).f0 ≥ l[i].f0 then (some false) else (impl_ValidEditions.l0 k l l l.length ((i + 1 : Nat) : Int))) else (impl_ValidEditions.l0 k l l l.length ((i + 1 : Nat) : Int))) else (some false)) v → Ev (fun k => impl_ValidEditions.l0 k l l l.length i) v := by
        intro v hv
        refine ev_succ ?_
        simp only [impl_ValidEditions.l0, if_pos (show (i : Int) < (l.length : Int) by omega), if_pos (show (0 : Int) ≤ (i : Int) by omega), rd_T64_at _ _ hlt, iyear, Option.bind_some, decide_eq_true cy, if_true]
        refine Ev.bind n2 ?_
        by_cases c3 : (i : Int) > 0
        · simp only [if_pos c3, w64 (x := (i : Int) - 1) (by omega) (by omega), if_pos (show (0 : Int) ≤ (i : Int) - 1 by omega), if_pos (show (i : Int) - 1 < (l.length : Int) by omega), w64 (x := (i : Int) + 1) (by omega) (by omega)] at hv ⊢
          exact hv
        · simp only [if_neg c3, w64 (x := (i : Int) + 1) (by omega) (by omega)] at hv ⊢
          exact hv
      cases n with
      | false => exact ⟨false, hs _ (by simp only [Bool.false_eq_true, if_false]; exact ev_const rfl), hi2 _ (by simp only [Bool.false_eq_true, if_false]; exact ev_const rfl)⟩
      | true =>
        by_cases c3 : (i : Int) > 0
        · by_cases c4 : (rd_T64 l ((i : Int) - 1)).f0 ≥ l[i].f0
          · exact ⟨false, hs _ (by simp only [if_true, if_pos c3, if_pos c4]; exact ev_const rfl), hi2 _ (by simp only [if_true, if_pos c3, if_pos c4]; exact ev_const rfl)⟩
          · exact ⟨r, hs _ (by simp only [if_true, if_pos c3, if_neg c4]; exact h1), hi2 _ (by simp only [if_true, if_pos c3, if_neg c4]; exact h2)⟩
        · exact ⟨r, hs _ (by simp only [if_true, if_neg c3]; exact h1), hi2 _ (by simp only [if_true, if_neg c3]; exact h2)⟩
    · refine ⟨false, ev_succ ?_, ev_succ ?_⟩
      · simp only [spec_l14Ok.l0, if_pos (show (i : Int) < (l.length : Int) by omega), if_pos (show (0 : Int) ≤ (i : Int) by omega), rd_T64_at _ _ hlt, syear, Option.bind_some, decide_eq_false cy, Bool.false_eq_true, if_false]
        exact ev_const rfl
      · simp only [impl_ValidEditions.l0, if_pos (show (i : Int) < (l.length : Int) by omega), if_pos (show (0 : Int) ≤ (i : Int) by omega), rd_T64_at _ _ hlt, iyear, Option.bind_some, decide_eq_false cy, Bool.false_eq_true, if_false]
        exact ev_const rfl
theorem editions_same (l : List S64) (hl : l.length ≤ 1048576) (hw : ∀ y ∈ l, y.f1.length ≤ 1048576) : ∃ r, Ev (fun k => spec_l14Ok.f k l) r ∧ Ev (fun k => impl_ValidEditions.f k l) r := editions_l l hl hw l.length 0 (by omega) (by omega)

/-- The code of editions and one of them. -/
theorem one_same (l : List S64) (hl : l.length ≤ 1048576) (hw : ∀ y ∈ l, y.f1.length ≤ 1048576) (a : Int) :
    ∃ c, Ev (fun k => spec_l14One.f k l a) c ∧ Ev (fun k => impl_editionCode.f k l a) c ∧ (c = 0 → 0 ≤ a ∧ a < (l.length : Int) ∧ Ev (fun k => impl_ValidEditions.f k l) true) := by
  obtain ⟨v, h1, h2⟩ := editions_same l hl hw
  have hwr := w64 (x := (l.length : Int) - 1) (by omega) (by omega)
  cases v with
  | false =>
    refine ⟨1, ?_, ?_, fun h => by omega⟩
    · unfold spec_l14One.f
      refine Ev.bind h1 ?_
      simp only [Bool.false_eq_true, if_false]
      exact ev_const rfl
    · unfold impl_editionCode.f
      refine Ev.bind h2 ?_
      simp only [hwr, within_val, Option.bind_some, impl_check.f, Bool.false_eq_true, if_false]
      exact ev_const rfl
  | true =>
    by_cases c : 0 ≤ a ∧ a ≤ (l.length : Int) - 1
    · refine ⟨0, ?_, ?_, fun _ => ⟨by omega, by omega, h2⟩⟩
      · unfold spec_l14One.f
        refine Ev.bind h1 ?_
        simp only [hwr, in_val, Option.bind_some, decide_eq_true c, if_true]
        exact ev_const rfl
      · unfold impl_editionCode.f
        refine Ev.bind h2 ?_
        simp only [hwr, within_val, Option.bind_some, impl_check.f, decide_eq_true c, if_true]
        exact ev_const rfl
    · refine ⟨2, ?_, ?_, fun h => by omega⟩
      · unfold spec_l14One.f
        refine Ev.bind h1 ?_
        simp only [hwr, in_val, Option.bind_some, decide_eq_false c, if_true, Bool.false_eq_true, if_false]
        exact ev_const rfl
      · unfold impl_editionCode.f
        refine Ev.bind h2 ?_
        simp only [hwr, within_val, Option.bind_some, impl_check.f, decide_eq_false c, if_true, Bool.false_eq_true, if_false]
        exact ev_const rfl

def BL (x y : ByteArray) : Prop := Op.bytesLess x.toList y.toList = true
/-- A list that ascends from neighbour to neighbour ascends. -/
theorem chain_lt (l : List ByteArray) (h : ∀ (j : Nat) (hj : j < l.length), 0 < j → Op.bytesLess (l[j - 1]'(by omega)).toList (l[j]).toList = true) : l.Pairwise BL := by
  have key : ∀ (d i : Nat) (h2 : i + (d + 1) < l.length), Op.bytesLess (l[i]'(by omega)).toList (l[i + (d + 1)]).toList = true := by
    intro d
    induction d with
    | zero =>
      intro i h2
      have := h (i + 1) h2 (by omega)
      simpa using this
    | succ d ih =>
      intro i h2
      have h3 := h (i + (d + 1 + 1)) h2 (by omega)
      simp only [show i + (d + 1 + 1) - 1 = i + (d + 1) by omega] at h3
      exact bl_trans _ _ _ (ih i (by omega)) h3
  rw [List.pairwise_iff_getElem]
  intro i j hi hj hij
  have h1 := key (j - i - 1) i (by omega)
  simp only [show i + (j - i - 1 + 1) = j by omega] at h1
  exact h1
theorem names_ext : ∀ (a b : List ByteArray), a.Pairwise BL → b.Pairwise BL → (∀ x, x ∈ a ↔ x ∈ b) → a = b
  | [], [], _, _, _ => rfl
  | [], y :: b, _, _, h => by have := (h y).2 (by simp); simp at this
  | x :: a, [], _, _, h => by have := (h x).1 (by simp); simp at this
  | x :: a, y :: b, h1, h2, h => by
    obtain ⟨g1, g2⟩ := List.pairwise_cons.1 h1
    obtain ⟨f1, f2⟩ := List.pairwise_cons.1 h2
    have irr : ∀ z : ByteArray, ¬ BL z z := fun z hz => by unfold BL at hz; rw [bl_irr] at hz; cases hz
    have e : x = y := by
      rcases List.mem_cons.1 ((h x).1 (by simp)) with e | e
      · exact e
      · rcases List.mem_cons.1 ((h y).2 (by simp)) with e2 | e2
        · exact e2.symm
        · exact absurd (bl_trans _ _ _ (g1 y e2) (f1 x e)) (irr x)
    subst e
    rw [names_ext a b g2 f2 (fun z => ?_)]
    constructor
    · intro hz
      rcases List.mem_cons.1 ((h z).1 (List.mem_cons_of_mem _ hz)) with e | e
      · exact absurd (e ▸ g1 z hz) (irr z)
      · exact e
    · intro hz
      rcases List.mem_cons.1 ((h z).2 (List.mem_cons_of_mem _ hz)) with e | e
      · exact absurd (e ▸ f1 z hz) (irr z)
      · exact e
theorem hasB_mem (b : List ByteArray) (x : ByteArray) : hasB b x = true ↔ x ∈ b := by
  unfold hasB
  rw [List.any_eq_true]
  constructor
  · rintro ⟨y, hy, e⟩
    have e2 := toList_inj.1 (of_decide_eq_true e)
    exact e2 ▸ hy
  · intro h
    exact ⟨x, h, decide_eq_true rfl⟩

/-- In valid editions all names ascend. -/
theorem editions_names (l : List S64) (hl : l.length ≤ 1048576) (hw : ∀ y ∈ l, y.f1.length ≤ 1048576) (d : Nat) : ∀ (i : Nat), i ≤ l.length → l.length - i = d → Ev (fun k => impl_ValidEditions.l0 k l l l.length i) true →
    ∀ (j : Nat) (hj : j < l.length), i ≤ j → (l[j]).f1.Pairwise BL := by
  induction d with
  | zero =>
    intro i hi hd _ j hj hij
    omega
  | succ d ih =>
    intro i hi hd hE j hj hij
    have hlt : i < l.length := by omega
    have wi := hw _ (List.getElem_mem hlt)
    obtain ⟨n, n1, n2⟩ := shown_same l[i].f1 wi
    obtain ⟨K0, hK0⟩ := n2
    obtain ⟨K, hK⟩ := hE
    have hu : ∀ k, K + K0 ≤ k → impl_ValidEditions.l0 (k + 1) l l l.length i = some true := fun k hk => hK (k + 1) (by omega)
    have hv : ∀ k, K + K0 ≤ k → impl_areShown.f k l[i].f1 = some n := fun k hk => hK0 k (by omega)
    simp only [impl_ValidEditions.l0, if_pos (show (i : Int) < (l.length : Int) by omega), if_pos (show (0 : Int) ≤ (i : Int) by omega), rd_T64_at _ _ hlt, iyear, Option.bind_some] at hu
    have hu2 : ∀ k, K + K0 ≤ k → (if decide (1 ≤ l[i].f0 ∧ l[i].f0 ≤ 3000) = true then (if n = true then (if (i : Int) > 0 then (if 0 ≤ wrap64 ((i : Int) - 1) then (if wrap64 ((i : Int) - 1) < (l.length : Int) then (if (rd_T64 l (wrap64 ((i : Int) - 1))).f0 ≥ l[i].f0 then some false else impl_ValidEditions.l0 k l l l.length (wrap64 ((i : Int) + 1))) else none) else none) else impl_ValidEditions.l0 k l l l.length (wrap64 ((i : Int) + 1))) else some false) else some false) = some true := by
      intro k hk
      have h1 := hu k hk
      rw [hv k hk, Option.bind_some] at h1
      exact h1
    clear hu
    rw [w64 (x := (i : Int) + 1) (by omega) (by omega)] at hu2
    by_cases cy : 1 ≤ l[i].f0 ∧ l[i].f0 ≤ 3000
    · simp only [decide_eq_true cy, if_true] at hu2
      cases n with
      | false =>
        have := hu2 _ (Nat.le_refl _)
        simp only [Bool.false_eq_true, if_false] at this
        cases this
      | true =>
        simp only [if_true] at hu2
        by_cases e : j = i
        · subst e
          exact chain_lt _ (fun q hq h0 => shown_chain _ wi l[j].f1.length 0 (by omega) (by omega) ⟨K0, hK0⟩ q hq (by omega) h0)
        · refine ih (i + 1) (by omega) (by omega) ⟨K + K0, fun k hk => ?_⟩ j hj (by omega)
          have h1 := hu2 k hk
          repeat' split at h1
          all_goals first | exact h1 | cases h1
    · have := hu2 _ (Nat.le_refl _)
      simp only [decide_eq_false cy, Bool.false_eq_true, if_false] at this
      cases this

/-- In valid editions the years are years and ascend. -/
theorem editions_years (l : List S64) (hl : l.length ≤ 1048576) (hw : ∀ y ∈ l, y.f1.length ≤ 1048576) (d : Nat) : ∀ (i : Nat), i ≤ l.length → l.length - i = d → Ev (fun k => impl_ValidEditions.l0 k l l l.length i) true →
    ∀ (j : Nat) (hj : j < l.length), i ≤ j → (1 ≤ l[j].f0 ∧ l[j].f0 ≤ 3000) ∧ (0 < j → (l[j - 1]'(by omega)).f0 < l[j].f0) := by
  induction d with
  | zero =>
    intro i hi hd _ j hj hij
    omega
  | succ d ih =>
    intro i hi hd hE j hj hij
    have hlt : i < l.length := by omega
    have wi := hw _ (List.getElem_mem hlt)
    obtain ⟨n, n1, n2⟩ := shown_same l[i].f1 wi
    obtain ⟨K0, hK0⟩ := n2
    obtain ⟨K, hK⟩ := hE
    have hu : ∀ k, K + K0 ≤ k → impl_ValidEditions.l0 (k + 1) l l l.length i = some true := fun k hk => hK (k + 1) (by omega)
    have hv : ∀ k, K + K0 ≤ k → impl_areShown.f k l[i].f1 = some n := fun k hk => hK0 k (by omega)
    simp only [impl_ValidEditions.l0, if_pos (show (i : Int) < (l.length : Int) by omega), if_pos (show (0 : Int) ≤ (i : Int) by omega), rd_T64_at _ _ hlt, iyear, Option.bind_some] at hu
    have hu2 : ∀ k, K + K0 ≤ k → (if decide (1 ≤ l[i].f0 ∧ l[i].f0 ≤ 3000) = true then (if n = true then (if (i : Int) > 0 then (if 0 ≤ wrap64 ((i : Int) - 1) then (if wrap64 ((i : Int) - 1) < (l.length : Int) then (if (rd_T64 l (wrap64 ((i : Int) - 1))).f0 ≥ l[i].f0 then some false else impl_ValidEditions.l0 k l l l.length (wrap64 ((i : Int) + 1))) else none) else none) else impl_ValidEditions.l0 k l l l.length (wrap64 ((i : Int) + 1))) else some false) else some false) = some true := by
      intro k hk
      have h1 := hu k hk
      rw [hv k hk, Option.bind_some] at h1
      exact h1
    clear hu
    rw [w64 (x := (i : Int) + 1) (by omega) (by omega)] at hu2
    by_cases cy : 1 ≤ l[i].f0 ∧ l[i].f0 ≤ 3000
    · simp only [decide_eq_true cy, if_true] at hu2
      cases n with
      | false =>
        have := hu2 _ (Nat.le_refl _)
        simp only [Bool.false_eq_true, if_false] at this
        cases this
      | true =>
        simp only [if_true] at hu2
        by_cases e : j = i
        · subst e
          refine ⟨cy, fun h0 => ?_⟩
          have h1 := hu2 _ (Nat.le_refl _)
          have hw1 : wrap64 ((j : Int) - 1) = ((j - 1 : Nat) : Int) := by rw [w64 (by omega) (by omega)]; omega
          have hrd : rd_T64 l ((j - 1 : Nat) : Int) = l[j - 1]'(by omega) := rd_T64_at l (j - 1) (by omega)
          simp only [if_pos (show (j : Int) > 0 by omega), hw1, if_pos (show (0 : Int) ≤ ((j - 1 : Nat) : Int) by omega), if_pos (show ((j - 1 : Nat) : Int) < (l.length : Int) by omega), hrd] at h1
          by_cases c : (l[j - 1]'(by omega)).f0 ≥ l[j].f0
          · rw [if_pos c] at h1
            cases h1
          · omega
        · refine ih (i + 1) (by omega) (by omega) ⟨K + K0, fun k hk => ?_⟩ j hj (by omega)
          have h1 := hu2 k hk
          repeat' split at h1
          all_goals first | exact h1 | cases h1
    · have := hu2 _ (Nat.le_refl _)
      simp only [decide_eq_false cy, Bool.false_eq_true, if_false] at this
      cases this

/-- The known names that were not used in a year, of those that are shown. -/
def lateK (l : List S90) (y : Int) (n : List ByteArray) : List ByteArray := (l.filter (fun x => hasB n x.f0 && !decide (x.f1 ≤ y ∧ y ≤ x.f2))).map (fun x => x.f0)
def lateN (l : List S90) (y : Int) (n : List ByteArray) : List ByteArray := n.filter (fun a => knAny l a && !decide ((knAt l a).f1 ≤ y ∧ y ≤ (knAt l a).f2))
theorem lateK_le (l : List S90) (y : Int) (n : List ByteArray) : (lateK l y n).length ≤ l.length := by
  unfold lateK
  rw [List.length_map]
  exact List.length_filter_le _ _
theorem late_s (e : List S64) (l : List S90) (hl : l.length ≤ 1048576) (a : Int) (a0 : 0 ≤ a) (a1 : a < (e.length : Int)) (hn : (rd_T64 e a).f1.length ≤ 1048576) (d : Nat) : ∀ (out : List ByteArray) (i : Nat), i ≤ l.length → l.length - i = d → out.length ≤ i →
    Ev (fun k => spec_TooLate.l0 k e l a out i) (out ++ lateK (l.drop i) (rd_T64 e a).f0 (rd_T64 e a).f1, 0) := by
  induction d with
  | zero =>
    intro out i hi hd ho
    rw [List.drop_eq_nil_of_le (by omega), show lateK [] (rd_T64 e a).f0 (rd_T64 e a).f1 = [] from rfl, List.append_nil]
    apply ev_succ
    simp only [spec_TooLate.l0, if_neg (show ¬ (i : Int) < (l.length : Int) by omega)]
    exact ev_const rfl
  | succ d ih =>
    intro out i hi hd ho
    have hlt : i < l.length := by omega
    have g1 := ih out (i + 1) (by omega) (by omega) (by omega)
    have g2 := ih (out ++ [l[i].f0]) (i + 1) (by omega) (by omega) (by simp; omega)
    apply ev_succ
    simp only [spec_TooLate.l0, if_pos (show (i : Int) < (l.length : Int) by omega), if_pos a0, if_pos a1, if_pos (show (0 : Int) ≤ (i : Int) by omega), rd_T90_at _ _ hlt]
    refine Ev.bind (has_spec _ hn l[i].f0) ?_
    by_cases c : hasB (rd_T64 e a).f1 l[i].f0 = true
    · by_cases c2 : l[i].f1 ≤ (rd_T64 e a).f0 ∧ (rd_T64 e a).f0 ≤ l[i].f2
      · rw [show lateK (l.drop i) (rd_T64 e a).f0 (rd_T64 e a).f1 = lateK (l.drop (i + 1)) (rd_T64 e a).f0 (rd_T64 e a).f1 from by unfold lateK; rw [List.drop_eq_getElem_cons hlt, List.filter_cons, c, decide_eq_true c2]; rfl]
        simp only [c, if_true, in_val, Option.bind_some, decide_eq_true c2, w64 (x := (i : Int) + 1) (by omega) (by omega)]
        exact g1
      · rw [show out ++ lateK (l.drop i) (rd_T64 e a).f0 (rd_T64 e a).f1 = (out ++ [l[i].f0]) ++ lateK (l.drop (i + 1)) (rd_T64 e a).f0 (rd_T64 e a).f1 from by unfold lateK; rw [List.drop_eq_getElem_cons hlt, List.filter_cons, c, decide_eq_false c2]; simp]
        simp only [c, if_true, in_val, Option.bind_some, decide_eq_false c2, Bool.false_eq_true, if_false, if_pos (show out.length < 8796093022208 by omega), w64 (x := (i : Int) + 1) (by omega) (by omega)]
        exact g2
    · replace c : hasB (rd_T64 e a).f1 l[i].f0 = false := by simpa using c
      rw [show lateK (l.drop i) (rd_T64 e a).f0 (rd_T64 e a).f1 = lateK (l.drop (i + 1)) (rd_T64 e a).f0 (rd_T64 e a).f1 from by unfold lateK; rw [List.drop_eq_getElem_cons hlt, List.filter_cons, c]; rfl]
      simp only [c, Bool.false_eq_true, if_false, w64 (x := (i : Int) + 1) (by omega) (by omega)]
      exact g1
theorem late_i (e : List S64) (l : List S90) (hl : l.length ≤ 1048576) (a : Int) (a0 : 0 ≤ a) (a1 : a < (e.length : Int)) (n : List ByteArray) (hn : n.length ≤ 1048576) (d : Nat) : ∀ (out : List ByteArray) (i : Nat), i ≤ n.length → n.length - i = d → out.length ≤ i →
    Ev (fun k => impl_TooLate.l0 k e l a out n n.length i) (out ++ lateN l (rd_T64 e a).f0 (n.drop i), 0) := by
  induction d with
  | zero =>
    intro out i hi hd ho
    rw [List.drop_eq_nil_of_le (by omega), show lateN l (rd_T64 e a).f0 [] = [] from rfl, List.append_nil]
    apply ev_succ
    simp only [impl_TooLate.l0, if_neg (show ¬ (i : Int) < (n.length : Int) by omega)]
    exact ev_const rfl
  | succ d ih =>
    intro out i hi hd ho
    have hlt : i < n.length := by omega
    have g1 := ih out (i + 1) (by omega) (by omega) (by omega)
    have g2 := ih (out ++ [n[i]]) (i + 1) (by omega) (by omega) (by simp; omega)
    apply ev_succ
    simp only [impl_TooLate.l0, if_pos (show (i : Int) < (n.length : Int) by omega), if_pos (show (0 : Int) ≤ (i : Int) by omega), rdOf_at _ _ _ hlt, impl_knownAt.f, Option.bind_some]
    by_cases h : knAny l n[i] = true
    · have ei : idxKnown_v (fun y => y.f0.toList == n[i].toList) l = ((l.findIdx (fun y => y.f0.toList == n[i].toList) : Nat) : Int) := by unfold idxKnown_v; exact if_pos h
      have hk := (knAt_mem l n[i] h).1
      have er : rd_T90 l ((l.findIdx (fun y => y.f0.toList == n[i].toList) : Nat) : Int) = knAt l n[i] := rfl
      simp only [ei, if_pos (show ((l.findIdx (fun y => y.f0.toList == n[i].toList) : Nat) : Int) ≥ 0 by omega), if_pos (show (0 : Int) ≤ ((l.findIdx (fun y => y.f0.toList == n[i].toList) : Nat) : Int) by omega), if_pos (show ((l.findIdx (fun y => y.f0.toList == n[i].toList) : Nat) : Int) < (l.length : Int) by omega), if_pos a0, if_pos a1, er, impl_wasUsed.f, within_val, Option.bind_some]
      by_cases c2 : (knAt l n[i]).f1 ≤ (rd_T64 e a).f0 ∧ (rd_T64 e a).f0 ≤ (knAt l n[i]).f2
      · rw [show lateN l (rd_T64 e a).f0 (n.drop i) = lateN l (rd_T64 e a).f0 (n.drop (i + 1)) from by unfold lateN; rw [List.drop_eq_getElem_cons hlt, List.filter_cons, h, decide_eq_true c2]; rfl]
        simp only [decide_eq_true c2, if_true, w64 (x := (i : Int) + 1) (by omega) (by omega)]
        exact g1
      · rw [show out ++ lateN l (rd_T64 e a).f0 (n.drop i) = (out ++ [n[i]]) ++ lateN l (rd_T64 e a).f0 (n.drop (i + 1)) from by unfold lateN; rw [List.drop_eq_getElem_cons hlt, List.filter_cons, h, decide_eq_false c2]; simp]
        simp only [decide_eq_false c2, Bool.false_eq_true, if_false, if_pos (show out.length < 8796093022208 by omega), w64 (x := (i : Int) + 1) (by omega) (by omega)]
        exact g2
    · have ei : idxKnown_v (fun y => y.f0.toList == n[i].toList) l = -1 := by unfold idxKnown_v; exact if_neg h
      replace h : knAny l n[i] = false := by simpa using h
      rw [show lateN l (rd_T64 e a).f0 (n.drop i) = lateN l (rd_T64 e a).f0 (n.drop (i + 1)) from by unfold lateN; rw [List.drop_eq_getElem_cons hlt, List.filter_cons, h]; rfl]
      simp only [ei, if_neg (show ¬ (-1 : Int) ≥ 0 by omega), w64 (x := (i : Int) + 1) (by omega) (by omega)]
      exact g1
theorem late_eq (l : List S90) (hl : (l.map (fun x => x.f0)).Pairwise BL) (hne : l.Pairwise (fun x y => x.f0.toList ≠ y.f0.toList)) (y : Int) (n : List ByteArray) (hn : n.Pairwise BL) : lateK l y n = lateN l y n := by
  refine names_ext _ _ ?_ ?_ ?_
  · unfold lateK
    exact hl.sublist (List.Sublist.map _ List.filter_sublist)
  · unfold lateN
    exact hn.sublist List.filter_sublist
  · intro z
    unfold lateK lateN
    rw [List.mem_map, List.mem_filter]
    constructor
    · rintro ⟨x, hx, rfl⟩
      obtain ⟨h1, h2⟩ := List.mem_filter.1 hx
      rw [Bool.and_eq_true] at h2
      have hk : knAny l x.f0 = true := List.any_eq_true.2 ⟨x, h1, beq_iff_eq.2 rfl⟩
      obtain ⟨_, k2, k3⟩ := knAt_mem l x.f0 hk
      have e := key_inj l hne _ _ k2 h1 k3
      refine ⟨(hasB_mem n x.f0).1 h2.1, ?_⟩
      rw [hk, e]
      exact h2.2
    · rintro ⟨h1, h2⟩
      rw [Bool.and_eq_true] at h2
      obtain ⟨_, k2, k3⟩ := knAt_mem l z h2.1
      refine ⟨knAt l z, List.mem_filter.2 ⟨k2, ?_⟩, toList_inj.1 k3⟩
      rw [toList_inj.1 k3, (hasB_mem n z).2 h1]
      exact h2.2
theorem known_asc (l : List S90) (hl : l.length ≤ 1048576) (h : Ev (fun k => impl_ValidKnown.f k l) true) : (l.map (fun x => x.f0)).Pairwise BL := by
  refine chain_lt _ (fun j hj h0 => ?_)
  rw [List.length_map] at hj
  have := known_chain l hl l.length 0 (by omega) (by omega) h j hj (by omega) h0
  simpa using this
theorem late_same (e : List S64) (he : e.length ≤ 1048576) (hw : ∀ y ∈ e, y.f1.length ≤ 1048576) (l : List S90) (hl : l.length ≤ 1048576) (a : Int) : ∃ res c, Ev (fun k => spec_TooLate.f k e l a) (res, c) ∧ Ev (fun k => impl_TooLate.f k e l a) (res, c) ∧ res.length ≤ 1048576 := by
  obtain ⟨v, h1, h2⟩ := known_same l hl
  obtain ⟨v2, g1, g2⟩ := editions_same e he hw
  obtain ⟨c, o1, o2, o3⟩ := one_same e he hw a
  cases v with
  | false =>
    refine ⟨[], 1, ?_, ?_, by simp⟩
    · unfold spec_TooLate.f
      refine Ev.bind g1 ?_
      cases v2 with
      | true =>
        simp only [if_true]
        refine Ev.bind h1 (ev_succ ?_)
        simp only [spec_TooLate.j0, Bool.not_false, if_true]
        exact ev_const rfl
      | false =>
        simp only [Bool.false_eq_true, if_false]
        refine ev_succ ?_
        simp only [spec_TooLate.j0, if_true]
        exact ev_const rfl
    · unfold impl_TooLate.f
      refine Ev.bind h2 ?_
      simp only [Bool.false_eq_true, if_false]
      exact ev_const rfl
  | true =>
    cases v2 with
    | false =>
      have hc : c = 1 := by
        have e1 : Ev (fun k => impl_editionCode.f k e a) 1 := by
          unfold impl_editionCode.f
          refine Ev.bind g2 ?_
          simp only [within_val, Option.bind_some, impl_check.f, Bool.false_eq_true, if_false]
          exact ev_const rfl
        exact ev_uniq o2 e1
      subst hc
      refine ⟨[], 1, ?_, ?_, by simp⟩
      · unfold spec_TooLate.f
        refine Ev.bind g1 ?_
        simp only [Bool.false_eq_true, if_false]
        refine ev_succ ?_
        simp only [spec_TooLate.j0, if_true]
        exact ev_const rfl
      · unfold impl_TooLate.f
        refine Ev.bind h2 ?_
        simp only [if_true]
        refine Ev.bind o2 ?_
        simp only [if_neg (show ¬ (1 : Int) = 0 by omega)]
        exact ev_const rfl
    | true =>
      by_cases hc : c = 0
      · subst hc
        obtain ⟨a0, a1, _⟩ := o3 rfl
        obtain ⟨j, hj⟩ := Int.eq_ofNat_of_zero_le a0
        have hjl : j < e.length := by omega
        have er : rd_T64 e a = e[j] := by rw [hj]; exact rd_T64_at _ _ hjl
        have wn : (rd_T64 e a).f1.length ≤ 1048576 := by rw [er]; exact hw _ (List.getElem_mem hjl)
        have asc : (rd_T64 e a).f1.Pairwise BL := by rw [er]; exact editions_names e he hw e.length 0 (by omega) (by omega) g2 j hjl (by omega)
        have s1 := late_s e l hl a a0 a1 wn l.length [] 0 (by omega) (by omega) (by simp)
        have s2 := late_i e l hl a a0 a1 (rd_T64 e a).f1 wn (rd_T64 e a).f1.length [] 0 (by omega) (by omega) (by simp)
        rw [List.drop_zero, List.nil_append] at s1 s2
        rw [← late_eq l (known_asc l hl h2) (known_ne l hl h2) _ _ asc] at s2
        have hle := lateK_le l (rd_T64 e a).f0 (rd_T64 e a).f1
        refine ⟨_, 0, ?_, ?_, Nat.le_trans hle hl⟩
        · unfold spec_TooLate.f
          refine Ev.bind g1 ?_
          simp only [if_true]
          refine Ev.bind h1 (ev_succ ?_)
          simp only [spec_TooLate.j0, Bool.not_true, Bool.false_eq_true, if_false]
          refine Ev.bind o1 ?_
          simp only [if_true]
          exact s1
        · unfold impl_TooLate.f
          refine Ev.bind h2 ?_
          simp only [if_true]
          refine Ev.bind o2 ?_
          simp only [if_true, if_pos a0, if_pos a1]
          exact s2
      · refine ⟨[], c, ?_, ?_, by simp⟩
        · unfold spec_TooLate.f
          refine Ev.bind g1 ?_
          simp only [if_true]
          refine Ev.bind h1 (ev_succ ?_)
          simp only [spec_TooLate.j0, Bool.not_true, Bool.false_eq_true, if_false]
          refine Ev.bind o1 ?_
          simp only [if_neg hc]
          exact ev_const rfl
        · unfold impl_TooLate.f
          refine Ev.bind h2 ?_
          simp only [if_true]
          refine Ev.bind o2 ?_
          simp only [if_neg hc]
          exact ev_const rfl

/-- The known names that were not used in a year. -/
def unusedV (l : List S90) (y : Int) : List ByteArray := (l.filter (fun x => !decide (x.f1 ≤ y ∧ y ≤ x.f2))).map (fun x => x.f0)
theorem unusedV_len (l : List S90) (y : Int) : (unusedV l y).length ≤ l.length := by
  unfold unusedV
  rw [List.length_map]
  exact List.length_filter_le _ _
theorem unused2_l (l : List S90) (hl : l.length ≤ 1048576) (y : Int) (d : Nat) : ∀ (out : List ByteArray) (i : Nat), i ≤ l.length → l.length - i = d → out.length ≤ i →
    Ev (fun k => spec_UnusedIn.l0 k l y out i) (out ++ unusedV (l.drop i) y, 0) ∧ Ev (fun k => impl_UnusedIn.l0 k y out l l.length i) (out ++ unusedV (l.drop i) y, 0) := by
  induction d with
  | zero =>
    intro out i hi hd ho
    rw [List.drop_eq_nil_of_le (by omega), show unusedV [] y = [] from rfl, List.append_nil]
    refine ⟨ev_succ ?_, ev_succ ?_⟩
    · simp only [spec_UnusedIn.l0, if_neg (show ¬ (i : Int) < (l.length : Int) by omega)]
      exact ev_const rfl
    · simp only [impl_UnusedIn.l0, if_neg (show ¬ (i : Int) < (l.length : Int) by omega)]
      exact ev_const rfl
  | succ d ih =>
    intro out i hi hd ho
    have hlt : i < l.length := by omega
    by_cases c : l[i].f1 ≤ y ∧ y ≤ l[i].f2
    · obtain ⟨h1, h2⟩ := ih out (i + 1) (by omega) (by omega) (by omega)
      rw [show unusedV (l.drop i) y = unusedV (l.drop (i + 1)) y from by unfold unusedV; rw [List.drop_eq_getElem_cons hlt, List.filter_cons, decide_eq_true c]; rfl]
      refine ⟨ev_succ ?_, ev_succ ?_⟩
      · simp only [spec_UnusedIn.l0, if_pos (show (i : Int) < (l.length : Int) by omega), if_pos (show (0 : Int) ≤ (i : Int) by omega), rd_T90_at _ _ hlt, in_val, Option.bind_some, decide_eq_true c, if_true, w64 (x := (i : Int) + 1) (by omega) (by omega)]
        exact h1
      · simp only [impl_UnusedIn.l0, impl_wasUsed.f, if_pos (show (i : Int) < (l.length : Int) by omega), if_pos (show (0 : Int) ≤ (i : Int) by omega), rd_T90_at _ _ hlt, within_val, Option.bind_some, decide_eq_true c, if_true, w64 (x := (i : Int) + 1) (by omega) (by omega)]
        exact h2
    · obtain ⟨h1, h2⟩ := ih (out ++ [l[i].f0]) (i + 1) (by omega) (by omega) (by simp; omega)
      rw [show out ++ unusedV (l.drop i) y = (out ++ [l[i].f0]) ++ unusedV (l.drop (i + 1)) y from by unfold unusedV; rw [List.drop_eq_getElem_cons hlt, List.filter_cons, decide_eq_false c]; simp]
      refine ⟨ev_succ ?_, ev_succ ?_⟩
      · simp only [spec_UnusedIn.l0, if_pos (show (i : Int) < (l.length : Int) by omega), if_pos (show (0 : Int) ≤ (i : Int) by omega), rd_T90_at _ _ hlt, in_val, Option.bind_some, decide_eq_false c, Bool.false_eq_true, if_false, if_pos (show out.length < 8796093022208 by omega), w64 (x := (i : Int) + 1) (by omega) (by omega)]
        exact h1
      · simp only [impl_UnusedIn.l0, impl_wasUsed.f, if_pos (show (i : Int) < (l.length : Int) by omega), if_pos (show (0 : Int) ≤ (i : Int) by omega), rd_T90_at _ _ hlt, within_val, Option.bind_some, decide_eq_false c, Bool.false_eq_true, if_false, if_pos (show out.length < 8796093022208 by omega), w64 (x := (i : Int) + 1) (by omega) (by omega)]
        exact h2
theorem unused2_val (l : List S90) (hl : l.length ≤ 1048576) (h2 : Ev (fun k => impl_ValidKnown.f k l) true) (y : Int) (c : 1 ≤ y ∧ y ≤ 3000) : Ev (fun k => impl_UnusedIn.f k l y) (unusedV l y, 0) := by
  have h := (unused2_l l hl y l.length [] 0 (by omega) (by omega) (by simp)).2
  rw [List.drop_zero, List.nil_append] at h
  unfold impl_UnusedIn.f
  refine Ev.bind h2 ?_
  simp only [iyear, Option.bind_some, impl_check.f, decide_eq_true c, if_true]
  exact h
theorem unused2_same (l : List S90) (hl : l.length ≤ 1048576) (y : Int) : ∃ res c, Ev (fun k => spec_UnusedIn.f k l y) (res, c) ∧ Ev (fun k => impl_UnusedIn.f k l y) (res, c) ∧ res.length ≤ l.length := by
  obtain ⟨v, h1, h2⟩ := known_same l hl
  cases v with
  | false =>
    refine ⟨[], 1, ?_, ?_, by simp⟩
    · unfold spec_UnusedIn.f
      refine Ev.bind h1 ?_
      simp only [Bool.false_eq_true, if_false]
      exact ev_const rfl
    · unfold impl_UnusedIn.f
      refine Ev.bind h2 ?_
      simp only [iyear, Option.bind_some, impl_check.f, Bool.false_eq_true, if_false, if_neg (show ¬ (1 : Int) = 0 by omega)]
      exact ev_const rfl
  | true =>
    by_cases c : 1 ≤ y ∧ y ≤ 3000
    · have h := (unused2_l l hl y l.length [] 0 (by omega) (by omega) (by simp)).1
      rw [List.drop_zero, List.nil_append] at h
      refine ⟨unusedV l y, 0, ?_, unused2_val l hl h2 y c, unusedV_len l y⟩
      unfold spec_UnusedIn.f
      refine Ev.bind h1 ?_
      simp only [if_true, syear, Option.bind_some, decide_eq_true c]
      exact h
    · refine ⟨[], 2, ?_, ?_, by simp⟩
      · unfold spec_UnusedIn.f
        refine Ev.bind h1 ?_
        simp only [if_true, syear, Option.bind_some, decide_eq_false c, Bool.false_eq_true, if_false]
        exact ev_const rfl
      · unfold impl_UnusedIn.f
        refine Ev.bind h2 ?_
        simp only [iyear, Option.bind_some, impl_check.f, decide_eq_false c, if_true, Bool.false_eq_true, if_false, if_neg (show ¬ (2 : Int) = 0 by omega)]
        exact ev_const rfl
theorem used_not (l : List S90) (hne : l.Pairwise (fun x y => x.f0.toList ≠ y.f0.toList)) (a : ByteArray) (h : knAny l a = true) (y : Int) (hy : (knAt l a).f1 ≤ y ∧ y ≤ (knAt l a).f2) : hasB (unusedV l y) a = false := by
  rw [Bool.eq_false_iff]
  intro hb
  obtain ⟨x, hx, he⟩ := List.mem_map.1 ((hasB_mem _ _).1 hb)
  obtain ⟨h1, h2⟩ := List.mem_filter.1 hx
  obtain ⟨_, k2, k3⟩ := knAt_mem l a h
  have e := key_inj l hne _ _ k2 h1 (by rw [k3, he])
  rw [e] at hy
  rw [decide_eq_true hy] at h2
  cases h2
theorem unused_in (l : List S90) (a : ByteArray) (h : knAny l a = true) (y : Int) (hy : ¬ ((knAt l a).f1 ≤ y ∧ y ≤ (knAt l a).f2)) : hasB (unusedV l y) a = true := by
  obtain ⟨_, k2, k3⟩ := knAt_mem l a h
  refine (hasB_mem _ _).2 (List.mem_map.2 ⟨knAt l a, List.mem_filter.2 ⟨k2, by rw [decide_eq_false hy]; rfl⟩, toList_inj.1 k3⟩)
/-- What the dates tell. -/
def DateOk (l : List S90) (n : List ByteArray) (f t : Int) : Prop := Ev (fun k => impl_ValidKnown.f k l) true ∧ (1 ≤ f ∧ f ≤ t ∧ t ≤ 3000) ∧ (∀ a ∈ n, knAny l a = true ∧ (knAt l a).f1 ≤ f ∧ t ≤ (knAt l a).f2) ∧ (1 < f → ∃ a ∈ n, (knAt l a).f1 = f) ∧ (t < 3000 → ∃ a ∈ n, (knAt l a).f2 = t)
theorem date2_same (l : List S90) (hl : l.length ≤ 1048576) (n : List ByteArray) (hn : n.length ≤ 1048576) : ∃ f t c, Ev (fun k => spec_DateBy.f k l n) (f, t, c) ∧ Ev (fun k => impl_DateBy.f k l n) (f, t, c) ∧ (c = 0 → DateOk l n f t) := by
  obtain ⟨v, h1, h2⟩ := known_same l hl
  obtain ⟨v2, g1, g2⟩ := shown_same n hn
  cases v with
  | false =>
    refine ⟨0, 0, 1, ?_, ?_, fun h => by omega⟩
    · unfold spec_DateBy.f
      refine Ev.bind h1 ?_
      simp only [Bool.false_eq_true, if_false]
      exact ev_const rfl
    · unfold impl_DateBy.f
      refine Ev.bind h2 (Ev.bind g2 ?_)
      simp only [Option.bind_some, impl_check.f, Bool.false_eq_true, if_false, if_neg (show ¬ (1 : Int) = 0 by omega)]
      exact ev_const rfl
  | true =>
    cases v2 with
    | false =>
      refine ⟨0, 0, 2, ?_, ?_, fun h => by omega⟩
      · unfold spec_DateBy.f
        refine Ev.bind h1 ?_
        simp only [if_true]
        refine Ev.bind g1 ?_
        simp only [Bool.false_eq_true, if_false]
        exact ev_const rfl
      · unfold impl_DateBy.f
        refine Ev.bind h2 (Ev.bind g2 ?_)
        simp only [Option.bind_some, impl_check.f, Bool.false_eq_true, if_false, if_true, if_neg (show ¬ (2 : Int) = 0 by omega)]
        exact ev_const rfl
    | true =>
      have e1 := sdate_l l hl n hn l.length 1 3000 0 0 (by omega) (by omega) (by omega)
      have e2 := idate_l l hl n hn n.length 1 3000 0 (by omega) (by omega)
      rw [List.drop_zero] at e1 e2
      rw [dates_eq l (known_ne l hl h2) n (shown_ne n hn g2)] at e1
      have s1 : Ev (fun k => spec_DateBy.f k l n) (imF l n 1 3000) := by
        unfold spec_DateBy.f
        refine Ev.bind h1 ?_
        simp only [if_true]
        refine Ev.bind g1 ?_
        simp only [if_true]
        exact e1
      have s2 : Ev (fun k => impl_DateBy.f k l n) (imF l n 1 3000) := by
        unfold impl_DateBy.f
        refine Ev.bind h2 (Ev.bind g2 ?_)
        simp only [Option.bind_some, impl_check.f, if_true]
        exact e2
      by_cases hall : ∀ a ∈ n, knAny l a = true
      · rw [imF_all l n 1 3000 hall] at s1 s2
        have b1 := (mxF_le (n.map (knAt l)) 1 (mxF (n.map (knAt l)) 1)).1 (Int.le_refl _)
        have b2 := (mnF_le (n.map (knAt l)) 3000 (mnF (n.map (knAt l)) 3000)).1 (Int.le_refl _)
        have b3 : 1 < mxF (n.map (knAt l)) 1 → ∃ a ∈ n, (knAt l a).f1 = mxF (n.map (knAt l)) 1 := by
          intro hgt
          apply Classical.byContradiction
          intro hno
          have := (mxF_le (n.map (knAt l)) 1 (mxF (n.map (knAt l)) 1 - 1)).2 ⟨by omega, fun x hx => by
            have hx1 := b1.2 x hx
            obtain ⟨a, ha, rfl⟩ := List.mem_map.1 hx
            have : ¬ (knAt l a).f1 = mxF (n.map (knAt l)) 1 := fun e => hno ⟨a, ha, e⟩
            omega⟩
          omega
        have b4 : mnF (n.map (knAt l)) 3000 < 3000 → ∃ a ∈ n, (knAt l a).f2 = mnF (n.map (knAt l)) 3000 := by
          intro hgt
          apply Classical.byContradiction
          intro hno
          have := (mnF_le (n.map (knAt l)) 3000 (mnF (n.map (knAt l)) 3000 + 1)).2 ⟨by omega, fun x hx => by
            have hx1 := b2.2 x hx
            obtain ⟨a, ha, rfl⟩ := List.mem_map.1 hx
            have : ¬ (knAt l a).f2 = mnF (n.map (knAt l)) 3000 := fun e => hno ⟨a, ha, e⟩
            omega⟩
          omega
        generalize mxF (n.map (knAt l)) 1 = F at *
        generalize mnF (n.map (knAt l)) 3000 = T at *
        unfold fin2 at s1 s2
        by_cases hFT : F > T
        · rw [if_pos hFT] at s1 s2
          exact ⟨0, 0, 9, s1, s2, fun h => by omega⟩
        · rw [if_neg hFT] at s1 s2
          exact ⟨F, T, 0, s1, s2, fun _ => ⟨h2, ⟨b1.1, by omega, b2.1⟩, fun a ha => ⟨hall a ha, b1.2 _ (List.mem_map.2 ⟨a, ha, rfl⟩), b2.2 _ (List.mem_map.2 ⟨a, ha, rfl⟩)⟩, b3, b4⟩⟩
      · rw [imF_not l n 1 3000 hall] at s1 s2
        exact ⟨0, 0, 3, s1, s2, fun h => by omega⟩
/-- The names that are too late, with what the law asks of them. -/
theorem late2_same (e : List S64) (he : e.length ≤ 1048576) (hw : ∀ y ∈ e, y.f1.length ≤ 1048576) (l : List S90) (hl : l.length ≤ 1048576) (a : Int) : ∃ res c, Ev (fun k => spec_TooLate.f k e l a) (res, c) ∧ Ev (fun k => impl_TooLate.f k e l a) (res, c) ∧ res.length ≤ 1048576 ∧
    (c = 0 → 0 ≤ a ∧ a < (e.length : Int) ∧ (rd_T64 e a).f1.length ≤ 1048576 ∧ Ev (fun k => impl_UnusedIn.f k l (rd_T64 e a).f0) (unusedV l (rd_T64 e a).f0, 0) ∧ ∀ z ∈ res, hasB (unusedV l (rd_T64 e a).f0) z = true ∧ hasB (rd_T64 e a).f1 z = true) := by
  obtain ⟨res, c, h1, h2, h3⟩ := late_same e he hw l hl a
  refine ⟨res, c, h1, h2, h3, fun hc => ?_⟩
  subst hc
  obtain ⟨v, k1, k2⟩ := known_same l hl
  obtain ⟨v2, g1, g2⟩ := editions_same e he hw
  obtain ⟨c, o1, o2, o3⟩ := one_same e he hw a
  -- the program's function comes to code 0 only so
  cases v with
  | false =>
    have q : Ev (fun k => impl_TooLate.f k e l a) ([], 1) := by
      unfold impl_TooLate.f
      refine Ev.bind k2 ?_
      simp only [Bool.false_eq_true, if_false]
      exact ev_const rfl
    have : (0 : Int) = 1 := congrArg Prod.snd (ev_uniq h2 q)
    omega
  | true =>
    by_cases hc : c = 0
    · subst hc
      obtain ⟨a0, a1, a2⟩ := o3 rfl
      obtain ⟨j, hj⟩ := Int.eq_ofNat_of_zero_le a0
      have hjl : j < e.length := by omega
      have er : rd_T64 e a = e[j] := by rw [hj]; exact rd_T64_at _ _ hjl
      have wn : (rd_T64 e a).f1.length ≤ 1048576 := by rw [er]; exact hw _ (List.getElem_mem hjl)
      have yy : 1 ≤ (rd_T64 e a).f0 ∧ (rd_T64 e a).f0 ≤ 3000 := by rw [er]; exact (editions_years e he hw e.length 0 (by omega) (by omega) a2 j hjl (by omega)).1
      have asc : (rd_T64 e a).f1.Pairwise BL := by rw [er]; exact editions_names e he hw e.length 0 (by omega) (by omega) a2 j hjl (by omega)
      have s2 := late_i e l hl a a0 a1 (rd_T64 e a).f1 wn (rd_T64 e a).f1.length [] 0 (by omega) (by omega) (by simp)
      rw [List.drop_zero, List.nil_append] at s2
      rw [← late_eq l (known_asc l hl k2) (known_ne l hl k2) _ _ asc] at s2
      have q : Ev (fun k => impl_TooLate.f k e l a) (lateK l (rd_T64 e a).f0 (rd_T64 e a).f1, 0) := by
        unfold impl_TooLate.f
        refine Ev.bind k2 ?_
        simp only [if_true]
        refine Ev.bind o2 ?_
        simp only [if_true, if_pos a0, if_pos a1]
        exact s2
      have hr : res = lateK l (rd_T64 e a).f0 (rd_T64 e a).f1 := congrArg Prod.fst (ev_uniq h2 q)
      refine ⟨a0, a1, wn, unused2_val l hl k2 _ yy, fun z hz => ?_⟩
      rw [hr] at hz
      unfold lateK at hz
      obtain ⟨x, hx, rfl⟩ := List.mem_map.1 hz
      obtain ⟨m1, m2⟩ := List.mem_filter.1 hx
      rw [Bool.and_eq_true] at m2
      exact ⟨(hasB_mem _ _).2 (List.mem_map.2 ⟨x, List.mem_filter.2 ⟨m1, m2.2⟩, rfl⟩), m2.1⟩
    · have q : Ev (fun k => impl_TooLate.f k e l a) ([], c) := by
        unfold impl_TooLate.f
        refine Ev.bind k2 ?_
        simp only [if_true]
        refine Ev.bind o2 ?_
        simp only [if_neg hc]
        exact ev_const rfl
      have : (0 : Int) = c := congrArg Prod.snd (ev_uniq h2 q)
      exact absurd this.symm hc

/-- Bytes. -/
def Bytes (l : List Int) : Prop := ∀ x ∈ l, 0 ≤ x ∧ x ≤ 255
theorem bytes_of {l : List Int} (h : ∀ x ∈ l, (Lit.int .u8 x).wf = true) : Bytes l := by
  intro x hx
  have := h x hx
  simpa [Lit.wf, IntKind.min, IntKind.max, IntKind.signed, IntKind.bits] using this
theorem rd_nat (l : List Int) (i : Nat) (h : i < l.length) : rd l (i : Int) = l[i] := by
  unfold rd
  rw [Int.toNat_natCast, List.getD_eq_getElem?_getD, List.getElem?_eq_getElem h]
  rfl
theorem rd_bytes {l : List Int} (h : Bytes l) {i : Int} (h0 : 0 ≤ i) (hi : i < (l.length : Int)) : 0 ≤ rd l i ∧ rd l i ≤ 255 := by
  obtain ⟨j, rfl⟩ := Int.eq_ofNat_of_zero_le h0
  rw [rd_nat l j (by omega)]
  exact h _ (List.getElem_mem _)
theorem wrap_u64 (n : Int) : IntKind.u64.wrap n = n % 18446744073709551616 := by simp [IntKind.wrap, IntKind.bits, IntKind.signed]
theorem low_byte {x : Int} (h0 : 0 ≤ x) (h1 : x < 18446744073709551616) : Go.bits .and .u64 x 255 = x % 256 :=
  bits_mask .u64 64 (by decide) (fun n h0 h1 => by rw [wrap_u64]; omega) 8 (by decide) x h0 (by simpa using h1)

theorem next_val {l : List Int} (hB : Bytes l) (hl : l.length ≤ 140737488351232) {a s : Int} (h0 : 0 ≤ a) (h1 : a ≤ 1000000000) : ∃ b s', spec_l00Src_next.f l a s = some (b, a + 1, s') ∧ 0 ≤ b ∧ b ≤ 255 := by
  unfold spec_l00Src_next.f
  rw [w64 (x := a + 1) (by omega) (by omega)]
  have hlow : ∀ z : Int, 0 ≤ wrap64 (Go.bits .and .u64 (IntKind.u64.wrap z / 1099511627776) 255) ∧ wrap64 (Go.bits .and .u64 (IntKind.u64.wrap z / 1099511627776) 255) ≤ 255 := by
    intro z
    rw [wrap_u64, low_byte (by omega) (by omega), w64 (by omega) (by omega)]
    omega
  by_cases h : a < (l.length : Int)
  · have hr := rd_bytes hB h0 h
    rw [if_pos h, if_pos h0, if_pos (by omega), w64 (x := rd l a) (by omega) (by omega)]
    exact ⟨_, _, rfl, hr.1, hr.2⟩
  · rw [if_neg h, if_neg (by omega)]
    exact ⟨_, _, rfl, (hlow _).1, (hlow _).2⟩
theorem pick_val {l : List Int} (hB : Bytes l) (hl : l.length ≤ 140737488351232) {a s : Int} (h0 : 0 ≤ a) (h1 : a ≤ 100000000) (n : Int) : ∃ v a' s', spec_l00Src_pick.f l a s n = some (v, a', s') ∧ a ≤ a' ∧ a' ≤ a + 2 ∧ 0 ≤ v ∧ (1 < n → v < n) ∧ (n ≤ 1 → v = 0) := by
  unfold spec_l00Src_pick.f
  by_cases h : n ≤ 1
  · rw [if_pos h]
    exact ⟨0, a, s, rfl, by omega, by omega, by omega, fun h => by omega, fun _ => rfl⟩
  · rw [if_neg h]
    obtain ⟨b, s1, e1, b0, b1⟩ := next_val hB hl (s := s) h0 (by omega)
    rw [e1]
    simp only [Option.bind_some]
    by_cases hn : n > 200
    · obtain ⟨c, s2, e2, c0, c1⟩ := next_val hB hl (a := a + 1) (s := s1) (by omega) (by omega)
      rw [if_pos hn, e2]
      simp only [Option.bind_some]
      rw [if_neg (by omega), w64 (x := b * 256) (by omega) (by omega), w64 (x := b * 256 + c) (by omega) (by omega), tmod_nn (by omega)]
      exact ⟨_, _, _, rfl, by omega, by omega, Int.emod_nonneg _ (by omega), fun _ => Int.emod_lt_of_pos _ (by omega), fun h2 => absurd h2 h⟩
    · rw [if_neg hn, if_neg (by omega), tmod_nn (by omega)]
      exact ⟨_, _, _, rfl, by omega, by omega, Int.emod_nonneg _ (by omega), fun _ => Int.emod_lt_of_pos _ (by omega), fun h2 => absurd h2 h⟩

theorem one_val {l : List Int} (hB : Bytes l) (hl : l.length ≤ 140737488351232) {a s : Int} (h0 : 0 ≤ a) (h1 : a ≤ 100000000) (n : Int) : ∃ v a' s', spec_l00Src_one.f l a s n = some (v, a', s') ∧ a ≤ a' ∧ a' ≤ a + 2 := by
  obtain ⟨v, a', s', e, h2, h3, _⟩ := pick_val hB hl (s := s) h0 h1 n
  unfold spec_l00Src_one.f
  rw [e]
  exact ⟨_, _, _, rfl, h2, h3⟩

theorem among_val {l : List Int} (hB : Bytes l) (hl : l.length ≤ 140737488351232) {a s : Int} (h0 : 0 ≤ a) (h1 : a ≤ 100000000) (m : List Int) (hm : 0 < m.length) : ∃ v a' s', spec_l00Src_among.f l a s m = some (v, a', s') ∧ a ≤ a' ∧ a' ≤ a + 2 ∧ v ∈ m := by
  obtain ⟨v, a', s', e, h2, h3, h4, h5, h6⟩ := pick_val hB hl (s := s) h0 h1 (m.length : Int)
  have hv : v < (m.length : Int) := by
    by_cases h : 1 < (m.length : Int)
    · exact h5 h
    · have := h6 (by omega); omega
  unfold spec_l00Src_among.f
  rw [e]
  simp only [Option.bind_some]
  rw [if_pos h4, if_pos hv]
  obtain ⟨j, rfl⟩ := Int.eq_ofNat_of_zero_le h4
  rw [rd_nat m j (by omega)]
  exact ⟨_, _, _, rfl, h2, h3, List.getElem_mem _⟩

theorem text_val {l : List Int} (hB : Bytes l) (hl : l.length ≤ 140737488351232) {a s : Int} (h0 : 0 ≤ a) (h1 : a ≤ 100000000) (m : List ByteArray) (hm : 0 < m.length) : ∃ v a' s', spec_l00Src_text.f l a s m = some (v, a', s') ∧ a ≤ a' ∧ a' ≤ a + 2 ∧ v ∈ m := by
  obtain ⟨v, a', s', e, h2, h3, h4, h5, h6⟩ := pick_val hB hl (s := s) h0 h1 (m.length : Int)
  have hv : v < (m.length : Int) := by
    by_cases h : 1 < (m.length : Int)
    · exact h5 h
    · have := h6 (by omega); omega
  unfold spec_l00Src_text.f
  rw [e]
  simp only [Option.bind_some]
  rw [if_pos h4, if_pos hv]
  obtain ⟨j, rfl⟩ := Int.eq_ofNat_of_zero_le h4
  rw [rdOf_at _ m j (by omega)]
  exact ⟨_, _, _, rfl, h2, h3, List.getElem_mem _⟩
theorem some_l {l : List Int} (hB : Bytes l) (hl : l.length ≤ 140737488351232) (x : List ByteArray) (hx : x.length ≤ 10) (d : Nat) : ∀ (out : List ByteArray) (i : Nat) (a s : Int), i ≤ x.length → x.length - i = d → out.length ≤ i → 0 ≤ a → a + 2 * (d : Int) ≤ 1000000 →
    ∃ res a' s', Ev (fun k => spec_l14Some.l0 k x out i l a s) (res, a', s') ∧ res.length ≤ x.length ∧ a ≤ a' ∧ a' ≤ a + 2 * (d : Int) := by
  induction d with
  | zero =>
    intro out i a s hi hd ho h0 h1
    refine ⟨out, a, s, ev_succ ?_, by omega, Int.le_refl _, by omega⟩
    simp only [spec_l14Some.l0, if_neg (show ¬ (i : Int) < (x.length : Int) by omega)]
    exact ev_const rfl
  | succ d ih =>
    intro out i a s hi hd ho h0 h1
    have hlt : i < x.length := by omega
    obtain ⟨t, a1, s1, e1, g1, g2⟩ := one_val hB hl (s := s) h0 (by omega) 2
    cases t with
    | true =>
      obtain ⟨res, a2, s2, e2, q1, q2, q3⟩ := ih (out ++ [x[i]]) (i + 1) a1 s1 (by omega) (by omega) (by simp; omega) (by omega) (by omega)
      refine ⟨res, a2, s2, ev_succ ?_, q1, by omega, by omega⟩
      simp only [spec_l14Some.l0, if_pos (show (i : Int) < (x.length : Int) by omega), e1, Option.bind_some, if_true, if_pos (show (0 : Int) ≤ (i : Int) by omega), if_pos (show out.length < 8796093022208 by omega), rdOf_at _ _ _ hlt, w64 (x := (i : Int) + 1) (by omega) (by omega)]
      exact e2
    | false =>
      obtain ⟨res, a2, s2, e2, q1, q2, q3⟩ := ih out (i + 1) a1 s1 (by omega) (by omega) (by omega) (by omega) (by omega)
      refine ⟨res, a2, s2, ev_succ ?_, q1, by omega, by omega⟩
      simp only [spec_l14Some.l0, if_pos (show (i : Int) < (x.length : Int) by omega), e1, Option.bind_some, Bool.false_eq_true, if_false, w64 (x := (i : Int) + 1) (by omega) (by omega)]
      exact e2
theorem some_ev {l : List Int} (hB : Bytes l) (hl : l.length ≤ 140737488351232) {a s : Int} (h0 : 0 ≤ a) (h1 : a ≤ 900000) : ∃ res a' s', Ev (fun k => spec_l14Some.f k l a s) (res, a', s') ∧ res.length ≤ 7 ∧ a ≤ a' ∧ a' ≤ a + 14 := by
  obtain ⟨res, a', s', e, q1, q2, q3⟩ := some_l hB hl ([(⟨#[98, 111, 114, 110, 101, 111]⟩ : ByteArray), (⟨#[99, 104, 111, 115, 101, 110]⟩ : ByteArray), (⟨#[102, 111, 114, 109, 111, 115, 97]⟩ : ByteArray), (⟨#[103, 111, 108, 100, 45, 99, 111, 97, 115, 116]⟩ : ByteArray), (⟨#[110, 101, 119, 45, 115, 112, 97, 105, 110]⟩ : ByteArray), (⟨#[115, 105, 97, 109]⟩ : ByteArray), (⟨#[116, 101, 114, 114, 97, 45, 50]⟩ : ByteArray)] : List ByteArray) (by simp) 7 ([] : List ByteArray) 0 a s (by simp) rfl (by simp) h0 (by omega)
  exact ⟨res, a', s', e, q1, q2, by omega⟩
theorem bent14_l (l : List Int) (a s : Int) (c : Nat) : ∀ (x : List ByteArray), x.length + c ≤ 31 → ∃ res, Ev (fun k => spec_l14Bent.l0 k x (c : Int) l a s) (res, a, s) ∧ res.length ≤ 31 := by
  induction c with
  | zero =>
    intro x hc
    refine ⟨x, ev_succ ?_, by omega⟩
    simp only [spec_l14Bent.l0, if_neg (show ¬ ((0 : Nat) : Int) > 0 by omega)]
    exact ev_const rfl
  | succ c ih =>
    intro x hc
    obtain ⟨res, e, r⟩ := ih (x ++ [strOfNums (([97 + ((((x.length : Int)) % 256) / 26), 97 + ((((x.length : Int)) % 256) % 26)] : List Int))]) (by simp; omega)
    refine ⟨res, ev_succ ?_, r⟩
    simp only [spec_l14Bent.l0, if_pos (show ((c + 1 : Nat) : Int) > 0 by omega), if_pos (show x.length < 8796093022208 by omega), show ((c + 1 : Nat) : Int) - 1 = (c : Int) by omega, w64 (x := (c : Int)) (by omega) (by omega)]
    exact e
theorem bent14_ev {l : List Int} (hB : Bytes l) (hl : l.length ≤ 140737488351232) {a s : Int} (h0 : 0 ≤ a) (h1 : a ≤ 800000) : ∃ res a' s', Ev (fun k => spec_l14Bent.f k l a s) (res, a', s') ∧ res.length ≤ 31 ∧ a ≤ a' ∧ a' ≤ a + 20 := by
  obtain ⟨x, a1, s1, e1, r1, r2, r3⟩ := some_ev hB hl (s := s) h0 (by omega)
  obtain ⟨v, a2, s2, e2, g1, g2, g3, _⟩ := pick_val hB hl (a := a1) (s := s1) (by omega) (by omega) 16
  by_cases c0 : v = 0
  · obtain ⟨n, a3, s3, e3, g4, g5, _⟩ := text_val hB hl (a := a2) (s := s2) (by omega) (by omega) ([(⟨#[]⟩ : ByteArray), (⟨#[83, 105, 97, 109]⟩ : ByteArray), (⟨#[98, 111, 114, 110, 101, 111]⟩ : ByteArray), (⟨#[122, 122]⟩ : ByteArray)] : List ByteArray) (by simp)
    refine ⟨x ++ [n], a3, s3, ?_, by simp; omega, by omega, by omega⟩
    unfold spec_l14Bent.f
    refine Ev.bind e1 ?_
    simp only [e2, Option.bind_some, if_pos c0, e3, if_pos (show x.length < 8796093022208 by omega)]
    exact ev_const rfl
  · by_cases c1 : v = 1
    · obtain ⟨u, a3, s3, e3, g4, g5, g6, g7, _⟩ := pick_val hB hl (a := a2) (s := s2) (by omega) (by omega) 2
      have g7 := g7 (by omega)
      obtain ⟨c, rfl⟩ := Int.eq_ofNat_of_zero_le g6
      obtain ⟨res, e4, q1⟩ := bent14_l l a3 s3 (30 + c) ([] : List ByteArray) (by simp; omega)
      refine ⟨res, a3, s3, ?_, q1, by omega, by omega⟩
      unfold spec_l14Bent.f
      refine Ev.bind e1 ?_
      simp only [e2, Option.bind_some, if_neg c0, if_pos c1, e3, w64 (x := 30 + (c : Int)) (by omega) (by omega)]
      rw [show ((30 + c : Nat) : Int) = 30 + (c : Int) by omega] at e4
      exact e4
    · refine ⟨x, a2, s2, ?_, by omega, by omega, by omega⟩
      unfold spec_l14Bent.f
      refine Ev.bind e1 ?_
      simp only [e2, Option.bind_some, if_neg c0, if_neg c1]
      exact ev_const rfl
/-- A drawn edition's names are few. -/
def NamesS (x : S64) : Prop := x.f1.length ≤ 31
theorem set_namesE {x : List S64} (hq : ∀ y ∈ x, NamesS y) (i : Nat) (v : S64) (hv : NamesS v) : ∀ y ∈ x.set i v, NamesS y := by
  intro y hy
  rcases List.mem_or_eq_of_mem_set hy with h | h
  · exact hq y h
  · rw [h]; exact hv
theorem draw14_l {l : List Int} (hB : Bytes l) (hl : l.length ≤ 140737488351232) (n : Nat) (hn : n ≤ 21) (c : Nat) : ∀ (x : List S64) (y a s : Int), x.length + c = n → (∀ z ∈ x, NamesS z) → 0 ≤ y → y + 20 * (c : Int) ≤ 10000 → 0 ≤ a → a + 20 * (c : Int) ≤ 100000 →
    ∃ res a' s', Ev (fun k => spec_l14Draw.l0 k x y (n : Int) (c : Int) l a s) (res, a', s') ∧ res.length ≤ 21 ∧ (∀ z ∈ res, NamesS z) ∧ a ≤ a' ∧ a' ≤ a + 20 * (c : Int) + 100 := by
  induction c with
  | zero =>
    intro x y a s hc hq y0 y1 h0 h1
    by_cases hz : n = 0
    · refine ⟨x, a, s, ev_succ ?_, by omega, hq, by omega, by omega⟩
      simp only [spec_l14Draw.l0, if_neg (show ¬ ((0 : Nat) : Int) > 0 by omega), if_neg (show ¬ (n : Int) > 0 by omega)]
      exact ev_const rfl
    · obtain ⟨v, a1, s1, e1, g1, g2, g3, g4, g5⟩ := pick_val hB hl (s := s) h0 (by omega) (n : Int)
      have hv : v < (n : Int) := by
        by_cases h : 1 < (n : Int)
        · exact g4 h
        · have := g5 (by omega); omega
      obtain ⟨i, rfl⟩ := Int.eq_ofNat_of_zero_le g3
      have hi : i < x.length := by omega
      have hqi : NamesS x[i] := hq _ (List.getElem_mem hi)
      obtain ⟨u, a2, s2, e2, g6, g7, _⟩ := pick_val hB hl (a := a1) (s := s1) (by omega) (by omega) 20
      by_cases c0 : u = 0
      · obtain ⟨t, a3, s3, e3, g8, g9, _⟩ := among_val hB hl (a := a2) (s := s2) (by omega) (by omega) [(-1), 0, 1, 3000, 3001, 1720] (by simp)
        refine ⟨x.set i ⟨t, x[i].f1⟩, a3, s3, ev_succ ?_, by simp; omega, set_namesE hq _ _ hqi, by omega, by omega⟩
        simp only [spec_l14Draw.l0, if_neg (show ¬ ((0 : Nat) : Int) > 0 by omega), if_pos (show (n : Int) > 0 by omega), e1, Option.bind_some, if_pos g3, if_pos (show (i : Int) < (x.length : Int) by omega), e2, if_pos c0, e3, rd_T64_at _ _ hi, Int.toNat_natCast]
        exact ev_const rfl
      · by_cases c1 : u = 1
        · obtain ⟨t, a3, s3, e3, g8, g9, g10⟩ := bent14_ev hB hl (a := a2) (s := s2) (by omega) (by omega)
          refine ⟨x.set i ⟨x[i].f0, t⟩, a3, s3, ev_succ ?_, by simp; omega, set_namesE hq _ _ g8, by omega, by omega⟩
          simp only [spec_l14Draw.l0, if_neg (show ¬ ((0 : Nat) : Int) > 0 by omega), if_pos (show (n : Int) > 0 by omega), e1, Option.bind_some, if_pos g3, if_pos (show (i : Int) < (x.length : Int) by omega), e2, if_neg c0, if_pos c1]
          refine Ev.bind e3 ?_
          simp only [rd_T64_at _ _ hi, Int.toNat_natCast]
          exact ev_const rfl
        · refine ⟨x, a2, s2, ev_succ ?_, by omega, hq, by omega, by omega⟩
          simp only [spec_l14Draw.l0, if_neg (show ¬ ((0 : Nat) : Int) > 0 by omega), if_pos (show (n : Int) > 0 by omega), e1, Option.bind_some, if_pos g3, if_pos (show (i : Int) < (x.length : Int) by omega), e2, if_neg c0, if_neg c1]
          exact ev_const rfl
  | succ c ih =>
    intro x y a s hc hq y0 y1 h0 h1
    obtain ⟨m, a1, s1, e1, r1, r2, r3⟩ := some_ev hB hl (s := s) h0 (by omega)
    obtain ⟨v, a2, s2, e2, g1, g2, g3, g4, _⟩ := pick_val hB hl (a := a1) (s := s1) (by omega) (by omega) 20
    have g4 := g4 (by omega)
    obtain ⟨res, a3, s3, e3, q1, q2, q3, q4⟩ := ih (x ++ [(⟨y, m⟩ : S64)]) (y + (1 + v)) a2 s2 (by simp; omega) (by
      intro z hz
      rcases List.mem_append.1 hz with h | h
      · exact hq z h
      · rw [List.mem_singleton.1 h]; unfold NamesS; exact Nat.le_trans r1 (by omega)) (by omega) (by omega) (by omega) (by omega)
    refine ⟨res, a3, s3, ev_succ ?_, q1, q2, by omega, by omega⟩
    simp only [spec_l14Draw.l0, if_pos (show ((c + 1 : Nat) : Int) > 0 by omega)]
    refine Ev.bind e1 ?_
    simp only [if_pos (show x.length < 4398046511104 by omega), e2, Option.bind_some, w64 (x := 1 + v) (by omega) (by omega), w64 (x := y + (1 + v)) (by omega) (by omega), show ((c + 1 : Nat) : Int) - 1 = (c : Int) by omega, w64 (x := (c : Int)) (by omega) (by omega)]
    exact e3
theorem draw14_ev {l : List Int} (hB : Bytes l) (hl : l.length ≤ 140737488351232) {a s : Int} (h0 : 0 ≤ a) (h1 : a ≤ 1000) : ∃ res a' s', Ev (fun k => spec_l14Draw.f k l a s) (res, a', s') ∧ res.length ≤ 21 ∧ (∀ z ∈ res, NamesS z) ∧ a ≤ a' ∧ a' ≤ a + 1000 := by
  obtain ⟨v, a1, s1, e1, g1, g2, g3, g4, _⟩ := pick_val hB hl (s := s) h0 (by omega) 40
  have g4 := g4 (by omega)
  obtain ⟨u, a2, s2, e2, g5, g6, g7, g8, _⟩ := pick_val hB hl (a := a1) (s := s1) (by omega) (by omega) 6
  have g8 := g8 (by omega)
  obtain ⟨t, a3, s3, e3, g9, g10⟩ := one_val hB hl (a := a2) (s := s2) (by omega) (by omega) 20
  cases t with
  | true =>
    obtain ⟨w, a4, s4, e4, q5, q6, q7, q8, _⟩ := pick_val hB hl (a := a3) (s := s3) (by omega) (by omega) 2
    have q8 := q8 (by omega)
    obtain ⟨c, rfl⟩ := Int.eq_ofNat_of_zero_le q7
    obtain ⟨res, a5, s5, e5, r1, r2, r3, r4⟩ := draw14_l hB hl (20 + c) (by omega) (20 + c) ([] : List S64) (1700 + v) a4 s4 (by simp) (by simp) (by omega) (by omega) (by omega) (by omega)
    refine ⟨res, a5, s5, ?_, r1, r2, by omega, by omega⟩
    rw [show ((20 + c : Nat) : Int) = 20 + (c : Int) by omega] at e5
    unfold spec_l14Draw.f
    simp only [e1, e2, e3, Option.bind_some, if_true, e4, w64 (x := 1700 + v) (by omega) (by omega), w64 (x := 20 + (c : Int)) (by omega) (by omega)]
    apply ev_succ
    simp only [spec_l14Draw.j0]
    exact e5
  | false =>
    obtain ⟨c, rfl⟩ := Int.eq_ofNat_of_zero_le g7
    obtain ⟨res, a5, s5, e5, r1, r2, r3, r4⟩ := draw14_l hB hl c (by omega) c ([] : List S64) (1700 + v) a3 s3 (by simp) (by simp) (by omega) (by omega) (by omega) (by omega)
    refine ⟨res, a5, s5, ?_, r1, r2, by omega, by omega⟩
    unfold spec_l14Draw.f
    simp only [e1, e2, e3, Option.bind_some, Bool.false_eq_true, if_false, w64 (x := 1700 + v) (by omega) (by omega)]
    apply ev_succ
    simp only [spec_l14Draw.j0]
    exact e5
theorem year14_val {l : List Int} (hB : Bytes l) (hl : l.length ≤ 140737488351232) {a s : Int} (h0 : 0 ≤ a) (h1 : a ≤ 10000) : ∃ v a' s', spec_l14DrawYear.f l a s = some (v, a', s') := by
  obtain ⟨t, a1, s1, e1, g1, g2⟩ := one_val hB hl (s := s) h0 (by omega) 10
  unfold spec_l14DrawYear.f
  cases t with
  | true =>
    obtain ⟨u, a2, s2, e2, _⟩ := among_val hB hl (a := a1) (s := s1) (by omega) (by omega) [(-1), 0, 1, 3000, 3001, (-9223372036854775808)] (by simp)
    simp only [e1, Option.bind_some, if_true, e2]
    exact ⟨_, _, _, rfl⟩
  | false =>
    obtain ⟨u, a2, s2, e2, _⟩ := pick_val hB hl (a := a1) (s := s1) (by omega) (by omega) 250
    simp only [e1, Option.bind_some, Bool.false_eq_true, if_false, e2]
    exact ⟨_, _, _, rfl⟩

theorem drawk_l {l : List Int} (hB : Bytes l) (hl : l.length ≤ 140737488351232) (n : List ByteArray) (hn : n.length ≤ 31) (d : Nat) : ∀ (x : List S90) (i : Nat) (a s : Int), i ≤ n.length → n.length - i = d → x.length = i → 0 ≤ a → a + 4 * (d : Int) ≤ 100000 →
    ∃ res a' s', Ev (fun k => spec_l14DrawKnown.l0 k n x i l a s) (res, a', s') ∧ res.length ≤ 31 ∧ a ≤ a' ∧ a' ≤ a + 4 * (d : Int) + 100 := by
  induction d with
  | zero =>
    intro x i a s hi hd hx h0 h1
    by_cases hz : x.length = 0
    · refine ⟨x, a, s, ev_succ ?_, by omega, by omega, by omega⟩
      simp only [spec_l14DrawKnown.l0, if_neg (show ¬ (i : Int) < (n.length : Int) by omega), if_neg (show ¬ (x.length : Int) > 0 by omega)]
      exact ev_const rfl
    · obtain ⟨v, a1, s1, e1, g1, g2, g3, g4, g5⟩ := pick_val hB hl (s := s) h0 (by omega) (x.length : Int)
      have hv : v < (x.length : Int) := by
        by_cases h : 1 < (x.length : Int)
        · exact g4 h
        · have := g5 (by omega); omega
      obtain ⟨j, rfl⟩ := Int.eq_ofNat_of_zero_le g3
      have hj : j < x.length := by omega
      obtain ⟨u, a2, s2, e2, g6, g7, _⟩ := pick_val hB hl (a := a1) (s := s1) (by omega) (by omega) 20
      by_cases c0 : u = 0
      · obtain ⟨t, a3, s3, e3, g8, g9, _⟩ := among_val hB hl (a := a2) (s := s2) (by omega) (by omega) [(-1), 0, 1, 3000, 3001] (by simp)
        refine ⟨x.set j ⟨x[j].f0, t, x[j].f2⟩, a3, s3, ev_succ ?_, by simp; omega, by omega, by omega⟩
        simp only [spec_l14DrawKnown.l0, if_neg (show ¬ (i : Int) < (n.length : Int) by omega), if_pos (show (x.length : Int) > 0 by omega), e1, Option.bind_some, if_pos g3, if_pos (show (j : Int) < (x.length : Int) by omega), e2, if_pos c0, e3, rd_T90_at _ _ hj, Int.toNat_natCast]
        exact ev_const rfl
      · by_cases c1 : u = 1
        · obtain ⟨t, a3, s3, e3, g8, g9, _⟩ := among_val hB hl (a := a2) (s := s2) (by omega) (by omega) [(-1), wrap64 (x[j].f1 - 1), x[j].f1, 3000, 3001] (by simp)
          refine ⟨x.set j ⟨x[j].f0, x[j].f1, t⟩, a3, s3, ev_succ ?_, by simp; omega, by omega, by omega⟩
          simp only [spec_l14DrawKnown.l0, if_neg (show ¬ (i : Int) < (n.length : Int) by omega), if_pos (show (x.length : Int) > 0 by omega), e1, Option.bind_some, if_pos g3, if_pos (show (j : Int) < (x.length : Int) by omega), e2, if_neg c0, if_pos c1, rd_T90_at _ _ hj, e3, Int.toNat_natCast]
          exact ev_const rfl
        · refine ⟨x, a2, s2, ev_succ ?_, by omega, by omega, by omega⟩
          simp only [spec_l14DrawKnown.l0, if_neg (show ¬ (i : Int) < (n.length : Int) by omega), if_pos (show (x.length : Int) > 0 by omega), e1, Option.bind_some, if_pos g3, if_pos (show (j : Int) < (x.length : Int) by omega), e2, if_neg c0, if_neg c1]
          exact ev_const rfl
  | succ d ih =>
    intro x i a s hi hd hx h0 h1
    have hlt : i < n.length := by omega
    obtain ⟨v, a1, s1, e1, g1, g2, g3, g4, _⟩ := pick_val hB hl (s := s) h0 (by omega) 100
    have g4 := g4 (by omega)
    obtain ⟨u, a2, s2, e2, g5, g6, g7, g8, _⟩ := pick_val hB hl (a := a1) (s := s1) (by omega) (by omega) 200
    have g8 := g8 (by omega)
    obtain ⟨res, a3, s3, e3, q1, q2, q3⟩ := ih (x ++ [(⟨n[i], 1650 + v, 1650 + v + u⟩ : S90)]) (i + 1) a2 s2 (by omega) (by omega) (by simp; omega) (by omega) (by omega)
    refine ⟨res, a3, s3, ev_succ ?_, q1, by omega, by omega⟩
    simp only [spec_l14DrawKnown.l0, if_pos (show (i : Int) < (n.length : Int) by omega), if_pos (show (0 : Int) ≤ (i : Int) by omega), e1, e2, Option.bind_some, if_pos (show x.length < 4398046511104 by omega), rdOf_at _ _ _ hlt, w64 (x := 1650 + v) (by omega) (by omega), w64 (x := 1650 + v + u) (by omega) (by omega), w64 (x := (i : Int) + 1) (by omega) (by omega)]
    exact e3
theorem drawk_ev {l : List Int} (hB : Bytes l) (hl : l.length ≤ 140737488351232) {a s : Int} (h0 : 0 ≤ a) (h1 : a ≤ 5000) : ∃ res a' s', Ev (fun k => spec_l14DrawKnown.f k l a s) (res, a', s') ∧ res.length ≤ 31 ∧ a ≤ a' ∧ a' ≤ a + 1000 := by
  obtain ⟨n, a1, s1, e1, r1, r2, r3⟩ := bent14_ev hB hl (s := s) h0 (by omega)
  obtain ⟨res, a2, s2, e2, q1, q2, q3⟩ := drawk_l hB hl n r1 n.length ([] : List S90) 0 a1 s1 (by omega) (by omega) (by simp) (by omega) (by omega)
  refine ⟨res, a2, s2, ?_, q1, by omega, by omega⟩
  unfold spec_l14DrawKnown.f
  exact Ev.bind e1 e2
theorem datedraw_l {l : List Int} (hB : Bytes l) (hl : l.length ≤ 140737488351232) (x : List S90) (hx : x.length ≤ 31) (d : Nat) : ∀ (out : List ByteArray) (i : Nat) (a s : Int), i ≤ x.length → x.length - i = d → out.length ≤ i → 0 ≤ a → a + 2 * (d : Int) ≤ 100000 →
    ∃ n, Ev (fun k => spec_DrawDateBy.l0 k x out i l a s) (x, n) ∧ n.length ≤ 31 := by
  induction d with
  | zero =>
    intro out i a s hi hd ho h0 h1
    obtain ⟨t, a1, s1, e1, g1, g2⟩ := one_val hB hl (s := s) h0 (by omega) 6
    cases t with
    | true =>
      obtain ⟨n, a2, s2, e2, q1, _⟩ := bent14_ev hB hl (a := a1) (s := s1) (by omega) (by omega)
      refine ⟨n, ev_succ ?_, q1⟩
      simp only [spec_DrawDateBy.l0, if_neg (show ¬ (i : Int) < (x.length : Int) by omega), e1, Option.bind_some, if_true]
      exact Ev.bind e2 (ev_const rfl)
    | false =>
      refine ⟨out, ev_succ ?_, by omega⟩
      simp only [spec_DrawDateBy.l0, if_neg (show ¬ (i : Int) < (x.length : Int) by omega), e1, Option.bind_some, Bool.false_eq_true, if_false]
      exact ev_const rfl
  | succ d ih =>
    intro out i a s hi hd ho h0 h1
    have hlt : i < x.length := by omega
    obtain ⟨t, a1, s1, e1, g1, g2⟩ := one_val hB hl (s := s) h0 (by omega) 3
    cases t with
    | true =>
      obtain ⟨n, e, q⟩ := ih (out ++ [x[i].f0]) (i + 1) a1 s1 (by omega) (by omega) (by simp; omega) (by omega) (by omega)
      refine ⟨n, ev_succ ?_, q⟩
      simp only [spec_DrawDateBy.l0, if_pos (show (i : Int) < (x.length : Int) by omega), e1, Option.bind_some, if_true, if_pos (show (0 : Int) ≤ (i : Int) by omega), if_pos (show out.length < 8796093022208 by omega), rd_T90_at _ _ hlt, w64 (x := (i : Int) + 1) (by omega) (by omega)]
      exact e
    | false =>
      obtain ⟨n, e, q⟩ := ih out (i + 1) a1 s1 (by omega) (by omega) (by omega) (by omega) (by omega)
      refine ⟨n, ev_succ ?_, q⟩
      simp only [spec_DrawDateBy.l0, if_pos (show (i : Int) < (x.length : Int) by omega), e1, Option.bind_some, Bool.false_eq_true, if_false, w64 (x := (i : Int) + 1) (by omega) (by omega)]
      exact e
theorem datedraw_ev {l : List Int} (hB : Bytes l) (hl : l.length ≤ 140737488351232) : ∃ x n, Ev (fun k => spec_DrawDateBy.f k l) (x, n) ∧ x.length ≤ 31 ∧ n.length ≤ 31 := by
  obtain ⟨x, a1, s1, e1, r1, r2, r3⟩ := drawk_ev hB hl (a := 0) (s := 0) (by omega) (by omega)
  obtain ⟨n, e2, q⟩ := datedraw_l hB hl x r1 x.length ([] : List ByteArray) 0 a1 s1 (by omega) (by omega) (by simp) (by omega) (by omega)
  refine ⟨x, n, ?_, r1, q⟩
  unfold spec_DrawDateBy.f spec_l00From.f
  simp only [Option.bind_some]
  exact Ev.bind e1 e2
theorem unuseddraw_ev {l : List Int} (hB : Bytes l) (hl : l.length ≤ 140737488351232) : ∃ x y, Ev (fun k => spec_DrawUnusedIn.f k l) (x, y) ∧ x.length ≤ 31 := by
  obtain ⟨x, a1, s1, e1, r1, r2, r3⟩ := drawk_ev hB hl (a := 0) (s := 0) (by omega) (by omega)
  obtain ⟨y, a2, s2, e2⟩ := year14_val hB hl (a := a1) (s := s1) (by omega) (by omega)
  refine ⟨x, y, ?_, r1⟩
  unfold spec_DrawUnusedIn.f spec_l00From.f
  simp only [Option.bind_some]
  refine Ev.bind e1 ?_
  simp only [e2, Option.bind_some]
  exact ev_const rfl
theorem latedraw_ev {l : List Int} (hB : Bytes l) (hl : l.length ≤ 140737488351232) : ∃ e x j, Ev (fun k => spec_DrawTooLate.f k l) (e, x, j) ∧ e.length ≤ 21 ∧ (∀ z ∈ e, NamesS z) ∧ x.length ≤ 31 := by
  obtain ⟨e, a0, s0, e0, p1, p2, p3, p4⟩ := draw14_ev hB hl (a := 0) (s := 0) (by omega) (by omega)
  obtain ⟨x, a1, s1, e1, r1, r2, r3⟩ := drawk_ev hB hl (a := a0) (s := s0) (by omega) (by omega)
  obtain ⟨u, a2, s2, e2, g1, g2, _⟩ := pick_val hB hl (a := a1) (s := s1) (by omega) (by omega) (wrap64 ((e.length : Int) + 1))
  obtain ⟨v, a3, s3, e3, _⟩ := pick_val hB hl (a := a2) (s := s2) (by omega) (by omega) 16
  refine ⟨e, x, wrap64 (u - wrap64 (Int.tdiv v 15)), ?_, p1, p2, r1⟩
  · unfold spec_DrawTooLate.f spec_l00From.f
    simp only [Option.bind_some]
    refine Ev.bind e0 (Ev.bind e1 ?_)
    simp only [e2, e3, Option.bind_some]
    exact ev_const rfl

theorem f6big_val (l : List Int) : laws_f6big.f l = some (decide ((l.length : Int) > 4096)) := rfl

theorem f6texts_l (l : List ByteArray) (hl : l.length ≤ 1048576) (d : Nat) : ∀ (i : Nat), i ≤ l.length → l.length - i = d → Ev (fun k => laws_f6texts.l0 k l l i) true := by
  induction d with
  | zero =>
    intro i hi hd
    apply ev_succ
    simp only [laws_f6texts.l0, if_neg (show ¬ (i : Int) < (l.length : Int) by omega)]
    exact ev_const rfl
  | succ d ih =>
    intro i hi hd
    have h1 := ih (i + 1) (by omega) (by omega)
    apply ev_succ
    simp only [laws_f6texts.l0, if_pos (show (i : Int) < (l.length : Int) by omega), if_pos (show (0 : Int) ≤ (i : Int) by omega), if_true, w64 (x := (i : Int) + 1) (by omega) (by omega)]
    exact h1
theorem f6texts_ev (l : List ByteArray) (hl : l.length ≤ 1048576) : Ev (fun k => laws_f6texts.f k l l) true := by
  unfold laws_f6texts.f
  simp only [if_true]
  exact f6texts_l l hl l.length 0 (by omega) (by omega)
theorem f6word_l (l : List ByteArray) (hl : l.length ≤ 1048576) (a : ByteArray) (d : Nat) : ∀ (i : Nat), i ≤ l.length → l.length - i = d → Ev (fun k => laws_f6word.l0 k l a i) (hasB (l.drop i) a) := by
  induction d with
  | zero =>
    intro i hi hd
    rw [List.drop_eq_nil_of_le (by omega)]
    apply ev_succ
    simp only [laws_f6word.l0, if_neg (show ¬ (i : Int) < (l.length : Int) by omega)]
    exact ev_const rfl
  | succ d ih =>
    intro i hi hd
    have hlt : i < l.length := by omega
    have h1 := ih (i + 1) (by omega) (by omega)
    have hd : hasB (l.drop i) a = (decide (l[i].toList = a.toList) || hasB (l.drop (i + 1)) a) := by
      unfold hasB
      rw [List.drop_eq_getElem_cons hlt, List.any_cons]
    rw [hd]
    apply ev_succ
    by_cases c : l[i].toList = a.toList
    · rw [decide_eq_true c, Bool.true_or]
      simp only [laws_f6word.l0, if_pos (show (i : Int) < (l.length : Int) by omega), if_pos (show (0 : Int) ≤ (i : Int) by omega), rdOf_at _ _ _ hlt, if_pos c]
      exact ev_const rfl
    · rw [decide_eq_false c, Bool.false_or]
      simp only [laws_f6word.l0, if_pos (show (i : Int) < (l.length : Int) by omega), if_pos (show (0 : Int) ≤ (i : Int) by omega), rdOf_at _ _ _ hlt, if_neg c, w64 (x := (i : Int) + 1) (by omega) (by omega)]
      exact h1
theorem f6word_ev (l : List ByteArray) (hl : l.length ≤ 1048576) (a : ByteArray) : Ev (fun k => laws_f6word.f k l a) (hasB l a) := by
  unfold laws_f6word.f
  exact f6word_l l hl a l.length 0 (by omega) (by omega)

theorem all_l2 (x : List S90) (n : List ByteArray) (hn : n.length ≤ 31) (f t : Int) (y : Nat) (out : List ByteArray) (ho : out.length ≤ 31) (hw : n.any (hasB out) = decide ((y : Int) > 1)) (hy : y ≤ 3) (hR : Ev (fun k => laws_FnDates.l1 k x n f t ((y : Int) + 1)) true) (d : Nat) : ∀ (b : Bool) (i : Nat), i ≤ n.length → n.length - i = d → (b || (n.drop i).any (hasB out)) = n.any (hasB out) → Ev (fun k => laws_FnDates.l2 k x n f t y out b i) true := by
  induction d with
  | zero =>
    intro b i hi hd hb
    rw [List.drop_eq_nil_of_le (by omega), List.any_nil, Bool.or_false, hw] at hb
    apply ev_succ
    simp only [laws_FnDates.l2, if_neg (show ¬ (i : Int) < (n.length : Int) by omega), hb, bne_self_eq_false, Bool.false_eq_true, if_false, w64 (x := (y : Int) + 1) (by omega) (by omega)]
    exact hR
  | succ d ih =>
    intro b i hi hd hb
    have hlt : i < n.length := by omega
    rw [List.drop_eq_getElem_cons hlt, List.any_cons] at hb
    apply ev_succ
    cases b with
    | true =>
      have h1 := ih true (i + 1) (by omega) (by omega) (by rw [Bool.true_or] at hb ⊢; exact hb)
      simp only [laws_FnDates.l2, if_pos (show (i : Int) < (n.length : Int) by omega), if_true, w64 (x := (i : Int) + 1) (by omega) (by omega)]
      exact h1
    | false =>
      have h1 := ih (hasB out n[i]) (i + 1) (by omega) (by omega) (by rw [Bool.false_or] at hb; exact hb)
      simp only [laws_FnDates.l2, if_pos (show (i : Int) < (n.length : Int) by omega), Bool.false_eq_true, if_false, if_pos (show (0 : Int) ≤ (i : Int) by omega), rdOf_at _ _ _ hlt, w64 (x := (i : Int) + 1) (by omega) (by omega)]
      exact Ev.bind (f6word_ev out (by omega) n[i]) h1
theorem any_not (x : List S90) (n : List ByteArray) (y : Int) (h : ∀ a ∈ n, hasB (unusedV x y) a = false) : n.any (hasB (unusedV x y)) = false := by
  rw [List.any_eq_false]
  intro a ha
  rw [h a ha]
  decide
/-- The year that is asked in round y. -/
def askY (f t : Int) (y : Nat) : Int := if y = 0 then f else if y = 1 then t else if y = 2 then f - 1 else t + 1
theorem year_l1 (x : List S90) (hx : x.length ≤ 31) (n : List ByteArray) (hn : n.length ≤ 31) (f t : Int) (h : DateOk x n f t) (d : Nat) : ∀ (y : Nat), y ≤ 4 → 4 - y = d → Ev (fun k => laws_FnDates.l1 k x n f t y) true := by
  obtain ⟨h1, h2, h3, h4, h5⟩ := h
  induction d with
  | zero =>
    intro y hy hd
    apply ev_succ
    simp only [laws_FnDates.l1, if_neg (show ¬ (y : Int) < 4 by omega)]
    exact ev_const rfl
  | succ d ih =>
    intro y hy hd
    have hR := ih (y + 1) (by omega) (by omega)
    have hrd : rd ([f, t, wrap64 (f - 1), wrap64 (t + 1)] : List Int) (y : Int) = askY f t y := by
      rw [w64 (x := f - 1) (by omega) (by omega), w64 (x := t + 1) (by omega) (by omega)]
      rcases (show y = 0 ∨ y = 1 ∨ y = 2 ∨ y = 3 by omega) with e | e | e | e <;> subst e <;> rfl
    have hbad : ∀ b : Bool, b = true → Ev (fun k => laws_FnDates.j4 k x n f t y (askY f t y) b) true := by
      intro b hb
      subst hb
      apply ev_succ
      simp only [laws_FnDates.j4, if_true, w64 (x := (y : Int) + 1) (by omega) (by omega)]
      exact hR
    apply ev_succ
    simp only [laws_FnDates.l1, if_pos (show (y : Int) < 4 by omega), Option.bind_some, if_pos (show (0 : Int) ≤ (y : Int) by omega), List.length_cons, List.length_nil, if_pos (show (y : Int) < ((0 + 1 + 1 + 1 + 1 : Nat) : Int) by omega), hrd]
    by_cases c1 : askY f t y < 1
    · simp only [if_pos c1]
      exact hbad true rfl
    · simp only [if_neg c1]
      by_cases c2 : askY f t y > 3000
      · exact hbad _ (decide_eq_true c2)
      · rw [decide_eq_false c2]
        apply ev_succ
        simp only [laws_FnDates.j4, Bool.false_eq_true, if_false]
        refine Ev.bind (unused2_val x (by omega) h1 (askY f t y) ⟨by omega, by omega⟩) ?_
        simp only [if_true]
        have hlen := unusedV_len x (askY f t y)
        have hw : n.any (hasB (unusedV x (askY f t y))) = decide ((y : Int) > 1) := by
          rcases (show y = 0 ∨ y = 1 ∨ y = 2 ∨ y = 3 by omega) with e | e | e | e
          · subst e
            exact any_not x n _ (fun a ha => used_not x (known_ne x (by omega) h1) a (h3 a ha).1 _ ⟨(h3 a ha).2.1, by have := (h3 a ha).2.2; show f ≤ _; omega⟩)
          · subst e
            exact any_not x n _ (fun a ha => used_not x (known_ne x (by omega) h1) a (h3 a ha).1 _ ⟨by have := (h3 a ha).2.1; show _ ≤ t; omega, (h3 a ha).2.2⟩)
          · subst e
            have hf : askY f t 2 = f - 1 := rfl
            rw [hf] at c1 c2 ⊢
            obtain ⟨a, ha, e⟩ := h4 (by omega)
            exact List.any_eq_true.2 ⟨a, ha, unused_in x a (h3 a ha).1 _ (by omega)⟩
          · subst e
            have hf : askY f t 3 = t + 1 := rfl
            rw [hf] at c1 c2 ⊢
            obtain ⟨a, ha, e⟩ := h5 (by omega)
            exact List.any_eq_true.2 ⟨a, ha, unused_in x a (h3 a ha).1 _ (by omega)⟩
        exact all_l2 x n hn f t y _ (by omega) hw (by omega) hR n.length false 0 (by omega) (by omega) (by rw [Bool.false_or, List.drop_zero])
theorem late_l0 (x : List S90) (n : List ByteArray) (bad f t : Int) (e : List S64) (a : Int) (a0 : 0 ≤ a) (a1 : a < (e.length : Int)) (wn : (rd_T64 e a).f1.length ≤ 1048576) (res out : List ByteArray) (hr : res.length ≤ 1048576) (ho : out.length ≤ 1048576) (h : ∀ z ∈ res, hasB out z = true ∧ hasB (rd_T64 e a).f1 z = true)
    (hR : Ev (fun k => laws_FnDates.j2 k x n bad f t) true) (d : Nat) : ∀ (i : Nat), i ≤ res.length → res.length - i = d → Ev (fun k => laws_FnDates.l0 k x n bad f t e a res out i) true := by
  induction d with
  | zero =>
    intro i hi hd
    apply ev_succ
    simp only [laws_FnDates.l0, if_neg (show ¬ (i : Int) < (res.length : Int) by omega)]
    exact hR
  | succ d ih =>
    intro i hi hd
    have hlt : i < res.length := by omega
    have h1 := ih (i + 1) (by omega) (by omega)
    have hz := h _ (List.getElem_mem hlt)
    have q1 := f6word_ev out ho res[i]
    have q2 := f6word_ev (rd_T64 e a).f1 wn res[i]
    rw [hz.1] at q1
    rw [hz.2] at q2
    apply ev_succ
    simp only [laws_FnDates.l0, if_pos (show (i : Int) < (res.length : Int) by omega), if_pos (show (0 : Int) ≤ (i : Int) by omega), rdOf_at _ _ _ hlt, w64 (x := (i : Int) + 1) (by omega) (by omega)]
    refine Ev.bind q1 ?_
    simp only [if_true, if_pos a0, if_pos a1]
    refine Ev.bind q2 ?_
    simp only [if_true]
    exact h1
theorem FnDates : laws_FnDates.Pure := by
  intro l hl hlb
  have hB := bytes_of hlb
  apply Ev.rounds
  unfold laws_FnDates.f
  simp only [f6big_val, Option.bind_some]
  by_cases hlong : (l.length : Int) > 4096
  · simp only [hlong, decide_true, if_true]; exact ev_const rfl
  · simp only [hlong, decide_false, Bool.false_eq_true, if_false]
    obtain ⟨x, n, d1, d2, d3⟩ := datedraw_ev hB (by omega)
    obtain ⟨u, y, d4, d5⟩ := unuseddraw_ev hB (by omega)
    obtain ⟨e, v, j, d6, d7, d8, d9⟩ := latedraw_ev hB (by omega)
    have hw : ∀ z ∈ e, z.f1.length ≤ 1048576 := fun z hz => Nat.le_trans (d8 z hz) (by omega)
    obtain ⟨f, t, bad, b1, b2, b3⟩ := date2_same x (by omega) n (by omega)
    obtain ⟨some1, one, c1, c2, c3⟩ := unused2_same u (by omega) y
    obtain ⟨late, three, g1, g2, g3, g4⟩ := late2_same e (by omega) hw v (by omega) j
    obtain ⟨w, k1, k2⟩ := known_same x (by omega)
    have i1 := f6texts_ev some1 (by omega)
    have i2 := f6texts_ev late g3
    refine Ev.bind d1 (Ev.bind b2 (Ev.bind b1 (Ev.bind d4 (Ev.bind c2 (Ev.bind c1 (Ev.bind d6 (Ev.bind g2 (Ev.bind g1 ?_))))))))
    simp only [if_true]
    refine Ev.bind i1 ?_
    simp only [if_true]
    refine Ev.bind i2 ?_
    simp only [if_true, spec_ValidKnown.f]
    refine Ev.bind k2 (Ev.bind (Ev.bind k1 (ev_const rfl)) ?_)
    simp only [bne_self_eq_false]
    have hj2 : Ev (fun k => laws_FnDates.j2 k x n bad f t) true := by
      apply ev_succ
      by_cases hz : bad = 0
      · simp only [laws_FnDates.j2, if_pos hz]
        exact year_l1 x d2 n d3 f t (b3 hz) 4 0 (by omega) (by omega)
      · simp only [laws_FnDates.j2, if_neg hz]
        exact ev_const rfl
    apply ev_succ
    simp only [laws_FnDates.j0, Bool.false_eq_true, if_false]
    by_cases hz : three = 0
    · obtain ⟨a0, a1, wn, q1, q2⟩ := g4 hz
      have hlen := unusedV_len v (rd_T64 e j).f0
      simp only [if_pos hz, if_pos a0, if_pos a1]
      refine Ev.bind q1 ?_
      simp only [if_true]
      exact late_l0 x n bad f t e j a0 a1 wn late _ g3 (by omega) q2 hj2 late.length 0 (by omega) (by omega)
    · simp only [if_neg hz]
      exact hj2

end Go.Proofs.YtalmeecdjhelkaaDoor.Pure
