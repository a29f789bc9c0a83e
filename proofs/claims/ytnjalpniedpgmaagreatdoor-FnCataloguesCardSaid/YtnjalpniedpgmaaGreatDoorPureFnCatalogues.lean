/- FnCatalogues: for all bytes: over drawn catalogues and figures the program's functions and the reference's come to the same; the counts of the classes come to the number of stars, the brighter stars are as many as those of the first classes, and the faintest star is one of the figure's and no other is fainter. -/
import Derived.Test.YtnjalpniedpgmaaGreatDoorStatFnCatalogues
namespace Go.Proofs.YtnjalpniedpgmaaGreatDoor.Pure
open Go.RowKit Go.Proofs.YtnjalpniedpgmaaGreatDoor.PFnCatalogues Go.Proofs.YtnjalpniedpgmaaGreatDoorW.PrintWords Go.Proofs.YtnjalpniedpgmaaGreatDoorW.PrintLast Go.Proofs.YtnjalpniedpgmaaGreatDoorW.PrintMore
set_option linter.unusedVariables false
set_option linter.unusedSimpArgs false
theorem w64 {x : Int} (h : -9223372036854775808 ≤ x) (h2 : x ≤ 9223372036854775807) : wrap64 x = x := by unfold wrap64; omega
theorem tdiv_nn {a b : Int} (h : 0 ≤ a) : Int.tdiv a b = a / b := Int.tdiv_eq_ediv_of_nonneg h
theorem tmod_nn {a b : Int} (h : 0 ≤ a) : Int.tmod a b = a % b := Int.tmod_eq_emod_of_nonneg h
theorem ev_succ {α : Type} {g : Nat → Option α} {r : α} (h : Ev (fun k => g (k + 1)) r) : Ev g r := Ev.step (fun _ => rfl) h
theorem ev_const {α : Type} {g : Option α} {r : α} (h : g = some r) : Ev (fun _ => g) r := ⟨0, fun _ _ => h⟩
theorem rdOf_at (d : ByteArray) (l : List ByteArray) (i : Nat) (h : i < l.length) : rdOf d l (i : Int) = l[i] := by
  unfold rdOf
  rw [Int.toNat_natCast, List.getD_eq_getElem?_getD, List.getElem?_eq_getElem h]
  rfl

/-- A byte that a name may have. -/
def nameC (c : Int) : Prop := ((97 : Int) ≤ c ∧ c ≤ 122) ∨ ((48 : Int) ≤ c ∧ c ≤ 57) ∨ c = 45
instance instNameC (c : Int) : Decidable (nameC c) := by unfold nameC; infer_instance
/-- A name. -/
def IsNm (s : ByteArray) : Prop := 1 ≤ s.size ∧ s.size ≤ 12 ∧ ((97 : Int) ≤ bt s 0 ∧ bt s 0 ≤ 122) ∧ ∀ i, i < s.size → nameC (bt s (i : Int))
instance instIsNm (s : ByteArray) : Decidable (IsNm s) := by unfold IsNm; infer_instance
theorem toList_nil (s : ByteArray) : s.toList = ([] : List UInt8) ↔ s.size = 0 := by
  rw [ByteArray.toList_eq]
  obtain ⟨⟨x⟩⟩ := s
  show x = [] ↔ x.length = 0
  rw [List.length_eq_zero_iff]
theorem bt_at (s : ByteArray) (i : Nat) (h : i < s.size) : bt s (i : Int) = ((s.data.toList[i]'(by simpa using h)).toNat : Int) := by
  unfold bt
  rw [dif_pos (by simpa using h)]
  rfl
open Classical in
theorem snm_l (s : ByteArray) (hs : s.size ≤ 12) (d : Nat) : ∀ (i : Nat), i ≤ s.size → s.size - i = d → Ev (fun k => spec_IsName.l0 k s i) (decide (∀ j, i ≤ j → j < s.size → nameC (bt s (j : Int)))) := by
  induction d with
  | zero =>
    intro i hi hd
    apply ev_succ
    simp only [spec_IsName.l0, if_neg (show ¬ (i : Int) < (s.size : Int) by omega)]
    refine ev_const ?_
    congr 1
    symm
    rw [decide_eq_true_iff]
    intro j h1 h2; omega
  | succ d ih =>
    intro i hi hd
    have hlt : i < s.size := by omega
    have hih := ih (i + 1) (by omega) (by omega)
    have step : nameC (bt s (i : Int)) → (decide (∀ j, i ≤ j → j < s.size → nameC (bt s (j : Int)))) = decide (∀ j, i + 1 ≤ j → j < s.size → nameC (bt s (j : Int))) := by
      intro hc
      rw [decide_eq_decide]
      constructor
      · intro h j h1 h2; exact h j (by omega) h2
      · intro h j h1 h2
        by_cases e : j = i
        · subst e; exact hc
        · exact h j (by omega) h2
    apply ev_succ
    simp only [spec_IsName.l0, spec_l01Small.f, spec_l01Digit.f, if_pos (show (i : Int) < (s.size : Int) by omega), if_pos (show (0 : Int) ≤ (i : Int) by omega), w64 (x := (i : Int) + 1) (by omega) (by omega)]
    by_cases h1 : 97 ≤ bt s (i : Int) ∧ bt s (i : Int) ≤ 122
    · simp only [ge_iff_le, if_pos h1.1, Option.bind_some, decide_eq_true h1.2, if_true]
      rw [step (.inl h1)]
      exact hih
    · have e1 : (if bt s (i : Int) ≥ 97 then some (decide (bt s (i : Int) ≤ 122)) else some false) = some false := by
        by_cases h : bt s (i : Int) ≥ 97
        · rw [if_pos h, decide_eq_false (fun h2 => h1 ⟨h, h2⟩)]
        · rw [if_neg h]
      simp only [e1, Option.bind_some, Bool.false_eq_true, if_false]
      by_cases h2 : 48 ≤ bt s (i : Int) ∧ bt s (i : Int) ≤ 57
      · simp only [ge_iff_le, if_pos h2.1, Option.bind_some, decide_eq_true h2.2, if_true]
        rw [step (.inr (.inl h2))]
        exact hih
      · have e2 : (if bt s (i : Int) ≥ 48 then some (decide (bt s (i : Int) ≤ 57)) else some false) = some false := by
          by_cases h : bt s (i : Int) ≥ 48
          · rw [if_pos h, decide_eq_false (fun h3 => h2 ⟨h, h3⟩)]
          · rw [if_neg h]
        simp only [e2, Option.bind_some, Bool.false_eq_true, if_false]
        by_cases h3 : bt s (i : Int) = 45
        · simp only [if_pos h3]
          rw [step (.inr (.inr h3))]
          exact hih
        · simp only [if_neg h3]
          refine ev_const ?_
          congr 1
          symm
          rw [decide_eq_false_iff_not]
          intro h
          rcases h i (by omega) hlt with h | h | h
          · exact h1 h
          · exact h2 h
          · exact h3 h
theorem spec_name (s : ByteArray) : Ev (fun k => spec_IsName.f k s) (decide (IsNm s)) := by
  classical
  have no : ¬ IsNm s → Ev (fun k => spec_IsName.j0 k s true) (decide (IsNm s)) := fun h => by
    refine ev_succ ?_
    simp only [spec_IsName.j0, if_true]
    exact ev_const (by rw [decide_eq_false h])
  unfold spec_IsName.f
  by_cases h0 : s.size = 0
  · simp only [if_pos ((toList_nil s).2 h0)]
    exact no (fun h => by have := h.1; omega)
  · simp only [if_neg (fun h => h0 ((toList_nil s).1 h))]
    by_cases h1 : (s.size : Int) > 12
    · simp only [if_pos h1]
      exact no (fun h => by have := h.2.1; omega)
    · simp only [if_neg h1, if_pos (show (0 : Int) < (s.size : Int) by omega), spec_l01Small.f]
      by_cases h2 : 97 ≤ bt s 0 ∧ bt s 0 ≤ 122
      · simp only [ge_iff_le, if_pos h2.1, Option.bind_some, decide_eq_true h2.2, Bool.not_true]
        refine ev_succ ?_
        simp only [spec_IsName.j0, Bool.false_eq_true, if_false]
        have := snm_l s (by omega) s.size 0 (by omega) (by omega)
        have e : (decide (IsNm s)) = decide (∀ j, 0 ≤ j → j < s.size → nameC (bt s (j : Int))) := by
          rw [decide_eq_decide]
          exact ⟨fun h j _ hj => h.2.2.2 j hj, fun h => ⟨by omega, by omega, h2, fun j hj => h j (by omega) hj⟩⟩
        rw [e]
        exact this
      · have e1 : (if bt s 0 ≥ 97 then some (decide (bt s 0 ≤ 122)) else some false) = some false := by
          by_cases h : bt s 0 ≥ 97
          · rw [if_pos h, decide_eq_false (fun h3 => h2 ⟨h, h3⟩)]
          · rw [if_neg h]
        simp only [e1, Option.bind_some, Bool.not_false]
        exact no (fun h => h2 h.2.2.1)

theorem dw_nil (p : UInt8 → Bool) (l : List UInt8) : l.dropWhile p = [] ↔ ∀ b ∈ l, p b = true := by
  induction l with
  | nil => simp
  | cons a l ih =>
    by_cases h : p a = true
    · simp [List.dropWhile, h, ih]
    · simp [List.dropWhile, h]
theorem dw_head (p : UInt8 → Bool) (l : List UInt8) (x : UInt8) (xs : List UInt8) (h : l.dropWhile p = x :: xs) : p x = false := by
  induction l with
  | nil => simp at h
  | cons a l ih =>
    by_cases h2 : p a = true
    · simp only [List.dropWhile, h2] at h
      exact ih h
    · have h3 : p a = false := by simpa using h2
      simp only [List.dropWhile, h3, List.cons.injEq] at h
      rw [← h.1]; exact h3
theorem trimS_nil (l cs : List UInt8) : Go.Lib.trimS l cs = [] ↔ ∀ b ∈ l, cs.contains b = true := by
  unfold Go.Lib.trimS Go.Lib.trimLeftS Go.Lib.trimRightS
  rw [dw_nil]
  constructor
  · intro h b hb
    cases e : l.reverse.dropWhile (cs.contains ·) with
    | nil =>
      rw [dw_nil] at e
      exact e b (by simpa using hb)
    | cons x xs =>
      exfalso
      have h1 := dw_head _ _ _ _ e
      have h2 := h x (by rw [e]; simp)
      rw [h2] at h1
      cases h1
  · intro h b hb
    exact h b (by simpa using (List.dropWhile_sublist _).subset (List.mem_reverse.1 hb))
theorem name_cut (b : UInt8) : ([97, 98, 99, 100, 101, 102, 103, 104, 105, 106, 107, 108, 109, 110, 111, 112, 113, 114, 115, 116, 117, 118, 119, 120, 121, 122, 48, 49, 50, 51, 52, 53, 54, 55, 56, 57, 45] : List UInt8).contains b = decide (nameC (b.toNat : Int)) := by
  have key : ((List.range 256).all fun n => (([97, 98, 99, 100, 101, 102, 103, 104, 105, 106, 107, 108, 109, 110, 111, 112, 113, 114, 115, 116, 117, 118, 119, 120, 121, 122, 48, 49, 50, 51, 52, 53, 54, 55, 56, 57, 45] : List UInt8).contains (UInt8.ofNat n) == decide (((97 : Int) ≤ (n : Int) ∧ (n : Int) ≤ 122) ∨ ((48 : Int) ≤ (n : Int) ∧ (n : Int) ≤ 57) ∨ (n : Int) = 45))) = true := by decide +kernel
  have h := List.all_eq_true.1 key b.toNat (List.mem_range.2 b.toNat_lt)
  rw [UInt8.ofNat_toNat] at h
  rw [beq_iff_eq] at h
  rw [h]
  rfl
theorem impl_name (s : ByteArray) : impl_IsName.f s = some (decide (IsNm s)) := by
  unfold impl_IsName.f
  by_cases h0 : (s.size : Int) < 1
  · rw [if_pos h0, decide_eq_false (fun h => by have := h.1; omega)]
  · rw [if_neg h0]
    by_cases h1 : (s.size : Int) > 12
    · rw [if_pos h1, decide_eq_false (fun h => by have := h.2.1; omega)]
    · rw [if_neg h1, if_pos (by omega)]
      by_cases h2 : bt s 0 < 97
      · rw [if_pos h2, decide_eq_false (fun h => by have := h.2.2.1.1; omega)]
      · rw [if_neg h2]
        by_cases h3 : bt s 0 > 122
        · rw [if_pos h3, decide_eq_false (fun h => by have := h.2.2.1.2; omega)]
        · rw [if_neg h3]
          unfold strings_Trim.f
          rw [if_pos ⟨by omega, by decide, by decide +kernel⟩]
          simp only [Option.bind_some]
          congr 1
          have e : (decide (IsNm s)) = decide (∀ b ∈ s.data.toList, nameC (b.toNat : Int)) := by
            rw [decide_eq_decide]
            constructor
            · intro h b hb
              obtain ⟨j, hj, rfl⟩ := List.getElem_of_mem hb
              have := h.2.2.2 j (by simpa using hj)
              rw [bt_at s j (by simpa using hj)] at this
              exact this
            · intro h
              refine ⟨by omega, by omega, ⟨by omega, by omega⟩, fun j hj => ?_⟩
              rw [bt_at s j hj]
              exact h _ (List.getElem_mem _)
          rw [e]
          have e2 : ∀ t : List UInt8, (({ data := t.toArray } : ByteArray).toList == ([] : List UInt8)) = decide (t = []) := by
            intro t
            rw [ByteArray.toList_eq]
            cases t <;> simp
          rw [e2, decide_eq_decide, trimS_nil]
          constructor
          · intro h b hb
            have := h b hb
            rw [name_cut] at this
            exact of_decide_eq_true this
          · intro h b hb
            rw [name_cut]
            exact decide_eq_true (h b hb)

theorem in_val (a b c : Int) : spec_l00In.f a b c = some (decide (b ≤ a ∧ a ≤ c)) := by
  unfold spec_l00In.f
  by_cases h : a ≥ b <;> by_cases h2 : a ≤ c <;> simp [h, h2] <;> omega
theorem within_val (a b c : Int) : impl_within.f a b c = some (decide (b ≤ a ∧ a ≤ c)) := in_val a b c

/-- A valid spot. -/
def SpotP (a b : Int) : Prop := (-324000 ≤ a ∧ a ≤ 324000) ∧ (-648000 ≤ b ∧ b ≤ 647999)
instance (a b : Int) : Decidable (SpotP a b) := by unfold SpotP; infer_instance
theorem l02Ok_val (a b : Int) : spec_l02Ok.f a b = some (decide (SpotP a b)) := by
  unfold spec_l02Ok.f SpotP
  simp only [in_val, Option.bind_some]
  by_cases h : -324000 ≤ a ∧ a ≤ 324000
  · simp only [h, decide_true, if_true, true_and]
  · simp [h]

theorem iValidSpot_val (a b : Int) : impl_ValidSpot.f a b = some (decide (SpotP a b)) := by
  unfold impl_ValidSpot.f SpotP
  simp only [within_val, Option.bind_some]
  by_cases h : -324000 ≤ a ∧ a ≤ 324000
  · simp only [h, decide_true, if_true, true_and]
  · simp [h]

theorem rd_T40_at (l : List S40) (i : Nat) (h : i < l.length) : rd_T40 l (i : Int) = l[i] := by
  unfold rd_T40
  rw [Int.toNat_natCast, List.getD_eq_getElem?_getD, List.getElem?_eq_getElem h]
  rfl
theorem rd_T65_at (l : List S65) (i : Nat) (h : i < l.length) : rd_T65 l (i : Int) = l[i] := by
  unfold rd_T65
  rw [Int.toNat_natCast, List.getD_eq_getElem?_getD, List.getElem?_eq_getElem h]
  rfl

/-- What a star of a catalogue must hold. -/
def StarOk (x : S40) : Prop := IsNm x.f0 ∧ ((1 : Int) ≤ x.f1 ∧ x.f1 ≤ 6) ∧ SpotP x.f2.f0 x.f2.f1
instance instStarOk (x : S40) : Decidable (StarOk x) := by unfold StarOk; infer_instance
theorem spec_star (x : S40) : Ev (fun k => spec_l16One.f k x.f0 x.f1 x.f2.f0 x.f2.f1) (decide (StarOk x)) := by
  unfold spec_l16One.f
  refine Ev.bind (spec_name x.f0) ?_
  by_cases h1 : IsNm x.f0
  · simp only [decide_eq_true h1, if_true, in_val, Option.bind_some, l02Ok_val]
    by_cases h2 : 1 ≤ x.f1 ∧ x.f1 ≤ 6
    · simp only [decide_eq_true h2, if_true]
      exact ev_const (congrArg some (decide_eq_decide.2 ⟨fun h => ⟨h1, h2, h⟩, fun h => h.2.2⟩))
    · simp only [decide_eq_false h2, Bool.false_eq_true, if_false]
      exact ev_const (by rw [decide_eq_false (show ¬ StarOk x from fun h => h2 h.2.1)])
  · simp only [decide_eq_false h1, Bool.false_eq_true, if_false]
    exact ev_const (by rw [decide_eq_false (show ¬ StarOk x from fun h => h1 h.1)])
theorem impl_star (x : S40) : impl_isStar.f x.f0 x.f1 x.f2.f0 x.f2.f1 = some (decide (StarOk x)) := by
  unfold impl_isStar.f impl_isClass.f
  simp only [impl_name, within_val, Option.bind_some, iValidSpot_val]
  by_cases h1 : IsNm x.f0
  · simp only [decide_eq_true h1, if_true]
    by_cases h2 : 1 ≤ x.f1 ∧ x.f1 ≤ 6
    · simp only [decide_eq_true h2, if_true]
      exact congrArg some (decide_eq_decide.2 ⟨fun h => ⟨h1, h2, h⟩, fun h => h.2.2⟩)
    · simp only [decide_eq_false h2, Bool.false_eq_true, if_false]
      rw [decide_eq_false (show ¬ StarOk x from fun h => h2 h.2.1)]
  · simp only [decide_eq_false h1, Bool.false_eq_true, if_false]
    rw [decide_eq_false (show ¬ StarOk x from fun h => h1 h.1)]
theorem starB_val (x : S40) : starB x = decide (StarOk x) := by unfold starB; rw [impl_star]; rfl
/-- A valid catalogue. -/
def catB (l : List S40) : Bool := (List.range l.length).all (starAt l) && decide ((l.length : Int) ≤ 30)
theorem icat_val (l : List S40) : impl_ValidCatalogue.f l = some (catB l) := rfl
theorem starAt_val (l : List S40) (i : Nat) (h : i < l.length) : starAt l i = (decide (StarOk l[i]) && !(l.take i).any (fun y => y.f0.toList == l[i].f0.toList)) := by
  unfold starAt
  rw [rd_T40_at _ _ h, starB_val]
theorem catB_ok {l : List S40} (h : catB l = true) : (l.length : Int) ≤ 30 ∧ ∀ x ∈ l, StarOk x := by
  unfold catB at h
  rw [Bool.and_eq_true, List.all_eq_true] at h
  refine ⟨of_decide_eq_true h.2, fun x hx => ?_⟩
  obtain ⟨j, hj, rfl⟩ := List.getElem_of_mem hx
  have := h.1 j (List.mem_range.2 hj)
  rw [starAt_val _ _ hj, Bool.and_eq_true] at this
  exact of_decide_eq_true this.1
theorem scat_in (l : List S40) (hl : l.length ≤ 1048576) (i : Nat) (hi : i < l.length) (R : Bool) (hR : Ev (fun k => spec_l16Ok.l0 k l ((i + 1 : Nat) : Int)) R) (e : Nat) : ∀ (j : Nat), j ≤ i → i - j = e →
    Ev (fun k => spec_l16Ok.l1 k l i j) (!((l.take i).drop j).any (fun y => y.f0.toList == l[i].f0.toList) && R) := by
  induction e with
  | zero =>
    intro j hj he
    rw [List.drop_eq_nil_of_le (by rw [List.length_take]; omega)]
    apply ev_succ
    simp only [spec_l16Ok.l1, if_neg (show ¬ (j : Int) < (i : Int) by omega), List.any_nil, Bool.not_false, Bool.true_and, w64 (x := (i : Int) + 1) (by omega) (by omega)]
    exact hR
  | succ e ih =>
    intro j hj he
    have hjl : j < l.length := by omega
    have hd : ((l.take i).drop j).any (fun y => y.f0.toList == l[i].f0.toList) = ((l[j].f0.toList == l[i].f0.toList) || ((l.take i).drop (j + 1)).any (fun y => y.f0.toList == l[i].f0.toList)) := by
      rw [List.drop_eq_getElem_cons (show j < (l.take i).length by rw [List.length_take]; omega), List.any_cons, List.getElem_take]
    have h1 := ih (j + 1) (by omega) (by omega)
    rw [hd]
    apply ev_succ
    by_cases c : l[j].f0.toList = l[i].f0.toList
    · simp only [spec_l16Ok.l1, if_pos (show (j : Int) < (i : Int) by omega), if_pos (show (0 : Int) ≤ (j : Int) by omega), if_pos (show (j : Int) < (l.length : Int) by omega), if_pos (show (0 : Int) ≤ (i : Int) by omega), if_pos (show (i : Int) < (l.length : Int) by omega), rd_T40_at _ _ hi, rd_T40_at _ _ hjl, if_pos c, beq_iff_eq.2 c, Bool.true_or, Bool.not_true, Bool.false_and]
      exact ev_const rfl
    · simp only [spec_l16Ok.l1, if_pos (show (j : Int) < (i : Int) by omega), if_pos (show (0 : Int) ≤ (j : Int) by omega), if_pos (show (j : Int) < (l.length : Int) by omega), if_pos (show (0 : Int) ≤ (i : Int) by omega), if_pos (show (i : Int) < (l.length : Int) by omega), rd_T40_at _ _ hi, rd_T40_at _ _ hjl, if_neg c, beq_eq_false_iff_ne.2 c, Bool.false_or, w64 (x := (j : Int) + 1) (by omega) (by omega)]
      exact h1
theorem scat_l (l : List S40) (hl : l.length ≤ 1048576) (d : Nat) : ∀ (i : Nat), i ≤ l.length → l.length - i = d → Ev (fun k => spec_l16Ok.l0 k l i) ((List.range' i d).all (starAt l) && decide ((l.length : Int) ≤ 30)) := by
  induction d with
  | zero =>
    intro i hi hd
    apply ev_succ
    simp only [spec_l16Ok.l0, if_neg (show ¬ (i : Int) < (l.length : Int) by omega)]
    exact ev_const rfl
  | succ d ih =>
    intro i hi hd
    have hlt : i < l.length := by omega
    have h1 := ih (i + 1) (by omega) (by omega)
    rw [List.range'_succ, List.all_cons, starAt_val _ _ hlt]
    apply ev_succ
    simp only [spec_l16Ok.l0, if_pos (show (i : Int) < (l.length : Int) by omega), if_pos (show (0 : Int) ≤ (i : Int) by omega), rd_T40_at _ _ hlt]
    refine Ev.bind (spec_star l[i]) ?_
    by_cases c : StarOk l[i]
    · simp only [decide_eq_true c, if_true, Bool.true_and, Bool.and_assoc]
      exact scat_in l hl i hlt _ h1 i 0 (by omega) (by omega)
    · simp only [decide_eq_false c, Bool.false_eq_true, if_false, Bool.false_and]
      exact ev_const rfl
theorem scat_ev (l : List S40) (hl : l.length ≤ 1048576) : Ev (fun k => spec_l16Ok.f k l) (catB l) := by
  have h := scat_l l hl l.length 0 (by omega) (by omega)
  unfold catB
  rw [List.range_eq_range']
  exact h

/-- What a line of a figure must hold. -/
def LineOk (n : Int) (x : S65) : Prop := (0 : Int) ≤ x.f0 ∧ x.f0 < x.f1 ∧ x.f1 < n
theorem figure_l (l : List S40) (hl : l.length ≤ 1048576) (m : List S65) (hm : m.length ≤ 1048576) (d : Nat) : ∀ (i : Nat), i ≤ m.length → m.length - i = d →
    ∃ r, Ev (fun k => spec_l16Figure.l0 k l m l.length i) r ∧ Ev (fun k => impl_ValidFigure.l0 k l m m m.length i) r ∧ (r = true → (∀ x ∈ m.drop i, LineOk l.length x) ∧ (m.length : Int) ≤ 40 ∧ catB l = true) := by
  induction d with
  | zero =>
    intro i hi hd
    refine ⟨if catB l = true then decide ((m.length : Int) ≤ 40) else false, ev_succ ?_, ev_succ ?_, ?_⟩
    · simp only [spec_l16Figure.l0, if_neg (show ¬ (i : Int) < (m.length : Int) by omega)]
      refine Ev.bind (scat_ev l hl) ?_
      cases catB l
      · exact ev_const rfl
      · exact ev_const rfl
    · simp only [impl_ValidFigure.l0, if_neg (show ¬ (i : Int) < (m.length : Int) by omega), icat_val, Option.bind_some]
      cases catB l
      · exact ev_const rfl
      · exact ev_const rfl
    · rw [List.drop_eq_nil_of_le (by omega)]
      cases catB l
      · simp
      · simp
  | succ d ih =>
    intro i hi hd
    have hlt : i < m.length := by omega
    obtain ⟨r, h1, h2, h3⟩ := ih (i + 1) (by omega) (by omega)
    have hdr : m.drop i = m[i] :: m.drop (i + 1) := List.drop_eq_getElem_cons hlt
    by_cases c : LineOk l.length m[i]
    · have c' : (0 : Int) ≤ m[i].f0 ∧ m[i].f0 < m[i].f1 ∧ m[i].f1 < (l.length : Int) := c
      have hs : ∀ v, Ev (fun k => spec_l16Figure.j1 k l m l.length i false m[i].f0 m[i].f1) v → Ev (fun k => spec_l16Figure.l0 k l m l.length i) v := by
        intro v hv
        apply ev_succ
        simp only [spec_l16Figure.l0, if_pos (show (i : Int) < (m.length : Int) by omega), if_pos (show (0 : Int) ≤ (i : Int) by omega), rd_T65_at _ _ hlt, in_val, Option.bind_some, w64 (x := (l.length : Int) - 1) (by omega) (by omega), w64 (x := m[i].f0 + 1) (by omega) (by omega), decide_eq_true (show (0 : Int) ≤ m[i].f0 ∧ m[i].f0 ≤ (l.length : Int) - 1 by omega), if_true, decide_eq_true (show m[i].f0 + 1 ≤ m[i].f1 ∧ m[i].f1 ≤ (l.length : Int) - 1 by omega), Bool.not_true]
        exact hv
      have hp : ∀ v, Ev (fun k => impl_ValidFigure.j1 k l m i m m.length i false m[i].f0 m[i].f1) v → Ev (fun k => impl_ValidFigure.l0 k l m m m.length i) v := by
        intro v hv
        apply ev_succ
        simp only [impl_ValidFigure.l0, if_pos (show (i : Int) < (m.length : Int) by omega), if_pos (show (0 : Int) ≤ (i : Int) by omega), rd_T65_at _ _ hlt, if_neg (show ¬ m[i].f0 < 0 by omega), if_neg (show ¬ m[i].f0 ≥ m[i].f1 by omega), decide_eq_false (show ¬ m[i].f1 ≥ (l.length : Int) by omega)]
        exact hv
      have hr : r = true → (∀ x ∈ m.drop i, LineOk l.length x) ∧ (m.length : Int) ≤ 40 ∧ catB l = true := by
        intro e
        have h4 := h3 e
        refine ⟨?_, h4.2⟩
        rw [hdr, List.forall_mem_cons]
        exact ⟨c, h4.1⟩
      by_cases c0 : i = 0
      · refine ⟨r, hs _ (ev_succ ?_), hp _ (ev_succ ?_), hr⟩
        · simp only [spec_l16Figure.j1, Bool.false_eq_true, if_false, if_neg (show ¬ (i : Int) > 0 by omega), w64 (x := (i : Int) + 1) (by omega) (by omega)]
          exact h1
        · simp only [impl_ValidFigure.j1, Bool.false_eq_true, if_false, if_neg (show ¬ (i : Int) > 0 by omega), w64 (x := (i : Int) + 1) (by omega) (by omega)]
          exact h2
      · by_cases c1 : (rd_T65 m ((i : Int) - 1)).f0 > m[i].f0
        · refine ⟨false, hs _ (ev_succ ?_), hp _ (ev_succ ?_), by simp⟩
          · simp only [spec_l16Figure.j1, Bool.false_eq_true, if_false, if_pos (show (i : Int) > 0 by omega), w64 (x := (i : Int) - 1) (by omega) (by omega), if_pos (show (0 : Int) ≤ (i : Int) - 1 by omega), if_pos (show (i : Int) - 1 < (m.length : Int) by omega), if_pos c1]
            exact ev_const rfl
          · simp only [impl_ValidFigure.j1, Bool.false_eq_true, if_false, if_pos (show (i : Int) > 0 by omega), w64 (x := (i : Int) - 1) (by omega) (by omega), if_pos (show (0 : Int) ≤ (i : Int) - 1 by omega), if_pos (show (i : Int) - 1 < (m.length : Int) by omega), if_pos c1]
            exact ev_const rfl
        · by_cases c2 : (rd_T65 m ((i : Int) - 1)).f0 = m[i].f0
          · by_cases c3 : (rd_T65 m ((i : Int) - 1)).f1 ≥ m[i].f1
            · refine ⟨false, hs _ (ev_succ ?_), hp _ (ev_succ ?_), by simp⟩
              · simp only [spec_l16Figure.j1, Bool.false_eq_true, if_false, if_pos (show (i : Int) > 0 by omega), w64 (x := (i : Int) - 1) (by omega) (by omega), if_pos (show (0 : Int) ≤ (i : Int) - 1 by omega), if_pos (show (i : Int) - 1 < (m.length : Int) by omega), if_neg c1, if_pos c2, if_pos c3]
                exact ev_const rfl
              · simp only [impl_ValidFigure.j1, Bool.false_eq_true, if_false, if_pos (show (i : Int) > 0 by omega), w64 (x := (i : Int) - 1) (by omega) (by omega), if_pos (show (0 : Int) ≤ (i : Int) - 1 by omega), if_pos (show (i : Int) - 1 < (m.length : Int) by omega), if_neg c1, if_pos c2, if_pos c3]
                exact ev_const rfl
            · refine ⟨r, hs _ (ev_succ ?_), hp _ (ev_succ ?_), hr⟩
              · simp only [spec_l16Figure.j1, Bool.false_eq_true, if_false, if_pos (show (i : Int) > 0 by omega), w64 (x := (i : Int) - 1) (by omega) (by omega), if_pos (show (0 : Int) ≤ (i : Int) - 1 by omega), if_pos (show (i : Int) - 1 < (m.length : Int) by omega), if_neg c1, if_pos c2, if_neg c3, w64 (x := (i : Int) + 1) (by omega) (by omega)]
                exact h1
              · simp only [impl_ValidFigure.j1, Bool.false_eq_true, if_false, if_pos (show (i : Int) > 0 by omega), w64 (x := (i : Int) - 1) (by omega) (by omega), if_pos (show (0 : Int) ≤ (i : Int) - 1 by omega), if_pos (show (i : Int) - 1 < (m.length : Int) by omega), if_neg c1, if_pos c2, if_neg c3, w64 (x := (i : Int) + 1) (by omega) (by omega)]
                exact h2
          · refine ⟨r, hs _ (ev_succ ?_), hp _ (ev_succ ?_), hr⟩
            · simp only [spec_l16Figure.j1, Bool.false_eq_true, if_false, if_pos (show (i : Int) > 0 by omega), w64 (x := (i : Int) - 1) (by omega) (by omega), if_pos (show (0 : Int) ≤ (i : Int) - 1 by omega), if_pos (show (i : Int) - 1 < (m.length : Int) by omega), if_neg c1, if_neg c2, w64 (x := (i : Int) + 1) (by omega) (by omega)]
              exact h1
            · simp only [impl_ValidFigure.j1, Bool.false_eq_true, if_false, if_pos (show (i : Int) > 0 by omega), w64 (x := (i : Int) - 1) (by omega) (by omega), if_pos (show (0 : Int) ≤ (i : Int) - 1 by omega), if_pos (show (i : Int) - 1 < (m.length : Int) by omega), if_neg c1, if_neg c2, w64 (x := (i : Int) + 1) (by omega) (by omega)]
              exact h2
    · have c' : ¬ ((0 : Int) ≤ m[i].f0 ∧ m[i].f0 < m[i].f1 ∧ m[i].f1 < (l.length : Int)) := c
      have hj : Ev (fun k => spec_l16Figure.j1 k l m l.length i true m[i].f0 m[i].f1) false := ev_succ (by simp only [spec_l16Figure.j1, if_true]; exact ev_const rfl)
      have hj2 : Ev (fun k => impl_ValidFigure.j1 k l m i m m.length i true m[i].f0 m[i].f1) false := ev_succ (by simp only [impl_ValidFigure.j1, if_true]; exact ev_const rfl)
      refine ⟨false, ev_succ ?_, ev_succ ?_, by simp⟩
      · simp only [spec_l16Figure.l0, if_pos (show (i : Int) < (m.length : Int) by omega), if_pos (show (0 : Int) ≤ (i : Int) by omega), rd_T65_at _ _ hlt, in_val, Option.bind_some, w64 (x := (l.length : Int) - 1) (by omega) (by omega)]
        by_cases c1 : (0 : Int) ≤ m[i].f0 ∧ m[i].f0 ≤ (l.length : Int) - 1
        · simp only [decide_eq_true c1, if_true, w64 (x := m[i].f0 + 1) (by omega) (by omega), decide_eq_false (show ¬ (m[i].f0 + 1 ≤ m[i].f1 ∧ m[i].f1 ≤ (l.length : Int) - 1) by omega), Bool.not_false]
          exact hj
        · simp only [decide_eq_false c1, Bool.false_eq_true, if_false]
          exact hj
      · simp only [impl_ValidFigure.l0, if_pos (show (i : Int) < (m.length : Int) by omega), if_pos (show (0 : Int) ≤ (i : Int) by omega), rd_T65_at _ _ hlt]
        by_cases c1 : m[i].f0 < 0
        · simp only [if_pos c1]
          exact hj2
        · by_cases c2 : m[i].f0 ≥ m[i].f1
          · simp only [if_neg c1, if_pos c2]
            exact hj2
          · simp only [if_neg c1, if_neg c2, decide_eq_true (show m[i].f1 ≥ (l.length : Int) by omega)]
            exact hj2
theorem figure_same (l : List S40) (hl : l.length ≤ 1048576) (m : List S65) (hm : m.length ≤ 1048576) :
    ∃ r, Ev (fun k => spec_l16Figure.f k l m) r ∧ Ev (fun k => impl_ValidFigure.f k l m) r ∧ (r = true → (∀ x ∈ m, LineOk l.length x) ∧ (m.length : Int) ≤ 40 ∧ catB l = true) :=
  figure_l l hl m hm m.length 0 (by omega) (by omega)

theorem rdn_at (l : List Int) (i : Nat) (h : i < l.length) : rd l (i : Int) = l[i] := by
  unfold rd
  rw [Int.toNat_natCast, List.getD_eq_getElem?_getD, List.getElem?_eq_getElem h]
  rfl
/-- The ends of all lines. -/
def pts (m : List S65) : List Int := m.flatMap (fun x => [x.f0, x.f1])
theorem pts_cons (x : S65) (m : List S65) : pts (x :: m) = x.f0 :: x.f1 :: pts m := rfl
theorem pts_len (m : List S65) : (pts m).length = 2 * m.length := by
  induction m with
  | nil => rfl
  | cons x m ih => rw [pts_cons, List.length_cons, List.length_cons, List.length_cons, ih]; omega
theorem pts_bound {n : Int} {m : List S65} (h : ∀ x ∈ m, LineOk n x) : ∀ y ∈ pts m, 0 ≤ y ∧ y < n := by
  intro y hy
  obtain ⟨x, hx, hy⟩ := List.mem_flatMap.1 hy
  have h2 := h x hx
  unfold LineOk at h2
  simp only [List.mem_cons, List.not_mem_nil, or_false] at hy
  rcases hy with rfl | rfl <;> omega
/-- The stars that stand in lines, in ascending order. -/
def starsV (n : Nat) (m : List S65) : List Int := ((List.range n).filter (fun j : Nat => decide ((j : Int) ∈ pts m))).map (fun j : Nat => (j : Int))
theorem starsV_asc (n : Nat) (m : List S65) : (starsV n m).Pairwise (· < ·) := by
  unfold starsV
  rw [List.pairwise_map]
  refine ((List.pairwise_lt_range (n := n)).filter _).imp ?_
  intro x y h
  omega
theorem starsV_mem {n : Nat} {m : List S65} (h : ∀ x ∈ m, LineOk n x) (y : Int) : y ∈ starsV n m ↔ y ∈ pts m := by
  unfold starsV
  rw [List.mem_map]
  constructor
  · rintro ⟨j, hj, rfl⟩
    exact of_decide_eq_true (List.mem_filter.1 hj).2
  · intro hy
    have := pts_bound h y hy
    refine ⟨y.toNat, List.mem_filter.2 ⟨List.mem_range.2 (by omega), decide_eq_true ?_⟩, by omega⟩
    rw [show ((y.toNat : Nat) : Int) = y by omega]
    exact hy
theorem starsV_len (n : Nat) (m : List S65) : (starsV n m).length ≤ n := by
  unfold starsV
  rw [List.length_map]
  exact Nat.le_trans (List.length_filter_le _ _) (by simp)
theorem asc_ext : ∀ (a b : List Int), a.Pairwise (· < ·) → b.Pairwise (· < ·) → (∀ x, x ∈ a ↔ x ∈ b) → a = b
  | [], [], _, _, _ => rfl
  | [], y :: b, _, _, h => absurd ((h y).2 List.mem_cons_self) (by simp)
  | x :: a, [], _, _, h => absurd ((h x).1 List.mem_cons_self) (by simp)
  | x :: a, y :: b, ha, hb, h => by
    rw [List.pairwise_cons] at ha hb
    have hxy : x = y := by
      rcases List.mem_cons.1 ((h x).1 List.mem_cons_self) with e | e
      · exact e
      · rcases List.mem_cons.1 ((h y).2 List.mem_cons_self) with e2 | e2
        · exact e2.symm
        · have := hb.1 x e
          have := ha.1 y e2
          omega
    subst hxy
    congr 1
    refine asc_ext a b ha.2 hb.2 (fun z => ⟨fun hz => ?_, fun hz => ?_⟩)
    · rcases List.mem_cons.1 ((h z).1 (List.mem_cons_of_mem _ hz)) with e | e
      · subst e
        have := ha.1 z hz
        omega
      · exact e
    · rcases List.mem_cons.1 ((h z).2 (List.mem_cons_of_mem _ hz)) with e | e
      · subst e
        have := hb.1 z hz
        omega
      · exact e
theorem compact_facts (d : Array Int) (hs : ∀ i j, i ≤ j → j < d.size → d[i]! ≤ d[j]!) (m : Nat) : m ≤ d.size → (Go.Lib.compactUpTo d m).Pairwise (· < ·) ∧ ∀ x, x ∈ Go.Lib.compactUpTo d m ↔ ∃ j, j < m ∧ d[j]! = x := by
  induction m with
  | zero =>
    intro _
    exact ⟨by simp [Go.Lib.compactUpTo], fun x => by simp [Go.Lib.compactUpTo]⟩
  | succ m ih =>
    intro hm
    obtain ⟨h1, h2⟩ := ih (by omega)
    rw [Go.Lib.compactUpTo_succ]
    by_cases hk : Go.Lib.keeps d m = true
    · rw [if_pos hk]
      have hk2 : m = 0 ∨ d[m]! ≠ d[m - 1]! := of_decide_eq_true hk
      refine ⟨?_, fun x => ?_⟩
      · rw [List.pairwise_append]
        refine ⟨h1, by simp, fun a ha b hb => ?_⟩
        rw [List.mem_singleton.1 hb]
        obtain ⟨j, hj, rfl⟩ := (h2 a).1 ha
        have q1 := hs j (m - 1) (by omega) (by omega)
        have q2 := hs (m - 1) m (by omega) (by omega)
        rcases hk2 with h | h
        · omega
        · omega
      · rw [List.mem_append, List.mem_singleton, h2]
        constructor
        · rintro (⟨j, hj, rfl⟩ | rfl)
          · exact ⟨j, by omega, rfl⟩
          · exact ⟨m, by omega, rfl⟩
        · rintro ⟨j, hj, rfl⟩
          by_cases e : j = m
          · subst e; exact .inr rfl
          · exact .inl ⟨j, by omega, rfl⟩
    · rw [if_neg hk, List.append_nil]
      have hk2 : ¬ (m = 0 ∨ d[m]! ≠ d[m - 1]!) := fun h => hk (decide_eq_true h)
      refine ⟨h1, fun x => ?_⟩
      rw [h2]
      constructor
      · rintro ⟨j, hj, rfl⟩
        exact ⟨j, by omega, rfl⟩
      · rintro ⟨j, hj, rfl⟩
        by_cases e : j = m
        · subst e
          have : d[j]! = d[j - 1]! := by
            by_cases q : d[j]! = d[j - 1]!
            · exact q
            · exact absurd (.inr q) hk2
          exact ⟨j - 1, by omega, this.symm⟩
        · exact ⟨j, by omega, rfl⟩
theorem sorted_compact (zs : List Int) : (Go.Lib.compact (zs.mergeSort fun x y => decide (x ≤ y))).Pairwise (· < ·) ∧ ∀ x, x ∈ Go.Lib.compact (zs.mergeSort fun x y => decide (x ≤ y)) ↔ x ∈ zs := by
  have hp : (zs.mergeSort fun x y => decide (x ≤ y)).Pairwise (fun a b => decide (a ≤ b) = true) := List.pairwise_mergeSort (fun a b c h1 h2 => by simp only [decide_eq_true_eq] at *; omega) (fun a b => by simp only [Bool.or_eq_true, decide_eq_true_eq]; omega) zs
  have hm : ∀ x, x ∈ (zs.mergeSort fun x y => decide (x ≤ y)) ↔ x ∈ zs := fun x => List.mem_mergeSort
  generalize (zs.mergeSort fun x y => decide (x ≤ y)) = ts at hp hm
  have hget : ∀ j (h : j < ts.length), ts.toArray[j]! = ts[j] := fun j h => by simp [h]
  have hs : ∀ i j, i ≤ j → j < ts.toArray.size → ts.toArray[i]! ≤ ts.toArray[j]! := by
    intro i j hij hj
    have hj' : j < ts.length := by simpa using hj
    rw [hget i (by omega), hget j hj']
    rcases Nat.eq_or_lt_of_le hij with e | e
    · subst e; omega
    · exact of_decide_eq_true (List.pairwise_iff_getElem.1 hp i j (by omega) hj' e)
  obtain ⟨h1, h2⟩ := compact_facts ts.toArray hs ts.length (by simp)
  unfold Go.Lib.compact
  refine ⟨h1, fun x => ?_⟩
  rw [h2, ← hm]
  constructor
  · rintro ⟨j, hj, rfl⟩
    rw [hget j hj]
    exact List.getElem_mem _
  · intro hx
    obtain ⟨j, hj, rfl⟩ := List.getElem_of_mem hx
    exact ⟨j, hj, hget j hj⟩
theorem ascending_val (n : Nat) (m : List S65) (hm : m.length ≤ 40) (h : ∀ x ∈ m, LineOk n x) : impl_ascending.f (pts m) = some (starsV n m) := by
  have hl := pts_len m
  unfold impl_ascending.f
  rw [if_pos (by omega)]
  refine congrArg some ?_
  obtain ⟨h1, h2⟩ := sorted_compact (pts m)
  exact asc_ext _ _ h1 (starsV_asc n m) (fun x => (h2 x).trans (starsV_mem h x).symm)
theorem istars_l (m : List S65) (hm : m.length ≤ 40) (n : Nat) (h : ∀ x ∈ m, LineOk n x) (d : Nat) : ∀ (i : Nat), i ≤ m.length → m.length - i = d → Ev (fun k => impl_starsOf.l0 k (pts (m.take i)) m m.length i) (starsV n m) := by
  induction d with
  | zero =>
    intro i hi hd
    apply ev_succ
    rw [List.take_of_length_le (by omega)]
    simp only [impl_starsOf.l0, if_neg (show ¬ (i : Int) < (m.length : Int) by omega), ascending_val n m hm h, Option.bind_some]
    exact ev_const rfl
  | succ d ih =>
    intro i hi hd
    have hlt : i < m.length := by omega
    have h1 := ih (i + 1) (by omega) (by omega)
    have hl := pts_len (m.take i)
    rw [List.length_take] at hl
    have e : pts (m.take (i + 1)) = pts (m.take i) ++ [m[i].f0, m[i].f1] := by
      rw [List.take_succ_eq_append_getElem hlt]
      unfold pts
      rw [List.flatMap_append]
      rfl
    rw [e] at h1
    apply ev_succ
    simp only [impl_starsOf.l0, if_pos (show (i : Int) < (m.length : Int) by omega), if_pos (show (0 : Int) ≤ (i : Int) by omega), rd_T65_at _ _ hlt, Option.bind_some, List.length_cons, List.length_nil, if_pos (show (pts (m.take i)).length + (0 + 1 + 1) < 17592186044416 by omega), w64 (x := (i : Int) + 1) (by omega) (by omega)]
    exact h1
theorem istars_ev (m : List S65) (hm : m.length ≤ 40) (n : Nat) (h : ∀ x ∈ m, LineOk n x) : Ev (fun k => impl_starsOf.f k m) (starsV n m) := istars_l m hm n h m.length 0 (by omega) (by omega)
/-- How many lines a star has. -/
def lines (m : List S65) (j : Nat) : Int := ((pts m).count (j : Int) : Int)
theorem rd_set (l : List Int) (i j : Nat) (hj : j < l.length) (v : Int) : rd (l.set i v) (j : Int) = if i = j then v else rd l (j : Int) := by
  rw [rdn_at _ _ (show j < (l.set i v).length by simpa using hj), List.getElem_set, rdn_at _ _ hj]
theorem slines_l (n : Nat) (hn : n ≤ 30) (m : List S65) (hm : m.length ≤ 40) (h : ∀ x ∈ m, LineOk n x) (d : Nat) : ∀ (x : List Int) (i : Nat), i ≤ m.length → m.length - i = d → x.length = n → (∀ j, j < n → rd x (j : Int) = lines (m.take i) j) →
    ∃ y, Ev (fun k => spec_l16Lines.l0 k m x i) y ∧ y.length = n ∧ ∀ j, j < n → rd y (j : Int) = lines m j := by
  induction d with
  | zero =>
    intro x i hi hd hx hv
    rw [List.take_of_length_le (by omega)] at hv
    refine ⟨x, ev_succ ?_, hx, hv⟩
    simp only [spec_l16Lines.l0, if_neg (show ¬ (i : Int) < (m.length : Int) by omega)]
    exact ev_const rfl
  | succ d ih =>
    intro x i hi hd hx hv
    have hlt : i < m.length := by omega
    have hL : (0 : Int) ≤ m[i].f0 ∧ m[i].f0 < m[i].f1 ∧ m[i].f1 < (n : Int) := h _ (List.getElem_mem hlt)
    obtain ⟨a, ha⟩ := Int.eq_ofNat_of_zero_le hL.1
    obtain ⟨b, hb⟩ := Int.eq_ofNat_of_zero_le (show 0 ≤ m[i].f1 by omega)
    have hcnt : ∀ j, 0 ≤ lines (m.take i) j ∧ lines (m.take i) j ≤ 80 := by
      intro j
      have h1 := List.count_le_length (a := (j : Int)) (l := pts (m.take i))
      rw [pts_len, List.length_take] at h1
      unfold lines
      omega
    have step : ∀ j, lines (m.take (i + 1)) j = lines (m.take i) j + (if a = j then 1 else 0) + (if b = j then 1 else 0) := by
      intro j
      have e : pts (m.take (i + 1)) = pts (m.take i) ++ [m[i].f0, m[i].f1] := by
        rw [List.take_succ_eq_append_getElem hlt]
        unfold pts
        rw [List.flatMap_append]
        rfl
      unfold lines
      have q : ∀ u : Nat, (if ((u : Int) == (j : Int)) = true then 1 else 0 : Nat) = if u = j then 1 else 0 := by
        intro u
        by_cases c : u = j
        · rw [if_pos c, if_pos (by rw [c]; exact beq_self_eq_true _)]
        · rw [if_neg c, if_neg (by rw [beq_iff_eq]; omega)]
      rw [e, List.count_append, List.count_cons, List.count_cons, List.count_nil, ha, hb, q a, q b]
      by_cases c1 : a = j <;> by_cases c2 : b = j <;> simp only [c1, c2, if_true, if_false] <;> omega
    have ka := hcnt a
    have kb := hcnt b
    obtain ⟨y, e, r1, r2⟩ := ih ((x.set a (rd x (a : Int) + 1)).set b (rd x (b : Int) + 1)) (i + 1) (by omega) (by omega) (by simpa using hx) (fun j hj => by
      rw [rd_set _ _ _ (by simpa using (by omega : j < x.length)), rd_set _ _ _ (by omega), step j, hv a (by omega), hv b (by omega), hv j hj]
      by_cases c1 : a = j
      · by_cases c2 : b = j
        · omega
        · rw [if_neg c2, if_pos c1, if_pos c1, if_neg c2, c1]; omega
      · by_cases c2 : b = j
        · rw [if_pos c2, if_neg c1, if_pos c2, c2]; omega
        · rw [if_neg c2, if_neg c1, if_neg c1, if_neg c2]; omega)
    refine ⟨y, ev_succ ?_, r1, r2⟩
    have hrb : rd (x.set a (rd x (a : Int) + 1)) (b : Int) = rd x (b : Int) := by rw [rd_set _ _ _ (by omega), if_neg (by omega)]
    have va := hv a (by omega)
    have vb := hv b (by omega)
    simp only [spec_l16Lines.l0, if_pos (show (i : Int) < (m.length : Int) by omega), if_pos (show (0 : Int) ≤ (i : Int) by omega), rd_T65_at _ _ hlt, ha, hb, if_pos (show (0 : Int) ≤ (a : Int) by omega), if_pos (show (a : Int) < (x.length : Int) by omega), if_pos (show (0 : Int) ≤ (b : Int) by omega), if_pos (show (b : Int) < (x.length : Int) by omega), Option.bind_some, Int.toNat_natCast, w64 (x := rd x (a : Int) + 1) (by omega) (by omega), hrb, w64 (x := rd x (b : Int) + 1) (by omega) (by omega), w64 (x := (i : Int) + 1) (by omega) (by omega)]
    exact e
theorem slines_ev (l : List S40) (hn : l.length ≤ 30) (m : List S65) (hm : m.length ≤ 40) (h : ∀ x ∈ m, LineOk l.length x) : ∃ y, Ev (fun k => spec_l16Lines.f k l m) y ∧ y.length = l.length ∧ ∀ j, j < l.length → rd y (j : Int) = lines m j := by
  obtain ⟨y, e, r⟩ := slines_l l.length hn m hm h m.length (List.replicate l.length 0) 0 (by omega) (by omega) (by simp) (fun j hj => by
    rw [rdn_at _ _ (by simpa using hj), List.getElem_replicate]
    simp [lines, pts])
  refine ⟨y, ?_, r⟩
  unfold spec_l16Lines.f
  simp only [if_pos (show (0 : Int) ≤ (l.length : Int) by omega), if_pos (show ((l.length : Int)).toNat ≤ 35184372088832 by omega)]
  exact e
theorem lines_pos (m : List S65) (j : Nat) : lines m j > 0 ↔ (j : Int) ∈ pts m := by
  unfold lines
  rw [← List.count_pos_iff]
  omega
theorem sstars_l (m : List S65) (y : List Int) (hy : y.length ≤ 30) (hv : ∀ j, j < y.length → rd y (j : Int) = lines m j) (d : Nat) : ∀ (out : List Int) (i : Nat), i ≤ y.length → y.length - i = d → out.length ≤ i →
    Ev (fun k => spec_l16Stars.l0 k y out i) (out ++ ((List.range' i d).filter (fun j : Nat => decide ((j : Int) ∈ pts m))).map (fun j : Nat => (j : Int))) := by
  induction d with
  | zero =>
    intro out i hi hd ho
    apply ev_succ
    simp only [spec_l16Stars.l0, if_neg (show ¬ (i : Int) < (y.length : Int) by omega)]
    exact ev_const (by simp)
  | succ d ih =>
    intro out i hi hd ho
    have hlt : i < y.length := by omega
    rw [List.range'_succ, List.filter_cons]
    apply ev_succ
    by_cases c : (i : Int) ∈ pts m
    · have h1 := ih (out ++ [(i : Int)]) (i + 1) (by omega) (by omega) (by simp; omega)
      have hp := (lines_pos m i).2 c
      simp only [spec_l16Stars.l0, if_pos (show (i : Int) < (y.length : Int) by omega), if_pos (show (0 : Int) ≤ (i : Int) by omega), hv i hlt, if_pos hp, if_pos (show out.length < 17592186044416 by omega), w64 (x := (i : Int) + 1) (by omega) (by omega), decide_eq_true c, if_true, List.map_cons]
      rw [List.append_assoc] at h1
      exact h1
    · have h1 := ih out (i + 1) (by omega) (by omega) (by omega)
      have hp : ¬ lines m i > 0 := fun h => c ((lines_pos m i).1 h)
      simp only [spec_l16Stars.l0, if_pos (show (i : Int) < (y.length : Int) by omega), if_pos (show (0 : Int) ≤ (i : Int) by omega), hv i hlt, if_neg hp, w64 (x := (i : Int) + 1) (by omega) (by omega), decide_eq_false c, Bool.false_eq_true, if_false]
      exact h1
theorem sstars_ev (l : List S40) (hn : l.length ≤ 30) (m : List S65) (hm : m.length ≤ 40) (h : ∀ x ∈ m, LineOk l.length x) : Ev (fun k => spec_l16Stars.f k l m) (starsV l.length m) := by
  obtain ⟨y, e, r1, r2⟩ := slines_ev l hn m hm h
  have h1 := sstars_l m y (by omega) (fun j hj => r2 j (by omega)) y.length [] 0 (by omega) (by omega) (by simp)
  unfold spec_l16Stars.f
  refine Ev.bind e ?_
  unfold starsV
  rw [List.range_eq_range', ← r1]
  exact h1

/-- The sum of the first c numbers. -/
def psum (x : List Int) : Nat → Int
  | 0 => 0
  | c + 1 => psum x c + rd x (c : Int)
theorem psum_set (x : List Int) (p : Nat) (hp : p < x.length) (v : Int) : ∀ c, c ≤ x.length → psum (x.set p v) c = psum x c + if p < c then v - rd x (p : Int) else 0 := by
  intro c
  induction c with
  | zero => intro _; simp [psum]
  | succ c ih =>
    intro hc
    rw [psum, psum, ih (by omega), rd_set _ _ _ (by omega)]
    by_cases h : p = c
    · subst h
      rw [if_pos rfl, if_neg (by omega), if_pos (by omega)]
      omega
    · rw [if_neg h]
      by_cases h2 : p < c
      · rw [if_pos h2, if_pos (by omega)]; omega
      · rw [if_neg h2, if_neg (by omega)]; omega
theorem psum_bound (x : List Int) (B : Int) (n : Nat) (h : ∀ j : Nat, j < n → 0 ≤ rd x (j : Int) ∧ rd x (j : Int) ≤ B) : ∀ c : Nat, c ≤ n → 0 ≤ psum x c ∧ psum x c ≤ B * c := by
  intro c
  induction c with
  | zero => intro _; simp [psum]
  | succ c ih =>
    intro hc
    have h1 := ih (by omega)
    have h2 := h c (by omega)
    rw [psum]
    rw [show B * ((c + 1 : Nat) : Int) = B * (c : Int) + B by rw [Int.natCast_add, Int.mul_add]; simp]
    omega
theorem count2_l (l : List S40) (hl : l.length ≤ 30) (hs : ∀ x ∈ l, StarOk x) (d : Nat) : ∀ (out : List Int) (i : Nat), i ≤ l.length → l.length - i = d → out.length = 6 → (∀ j : Nat, j < 6 → 0 ≤ rd out (j : Int) ∧ rd out (j : Int) ≤ (i : Int)) → (∀ c : Nat, c ≤ 6 → psum out c = (((l.take i).countP (fun x => decide (x.f1 ≤ (c : Int))) : Nat) : Int)) →
    ∃ res, Ev (fun k => spec_CountClasses.l0 k l out i) (res, 0) ∧ Ev (fun k => impl_CountClasses.l0 k out l l.length i) (res, 0) ∧ res.length = 6 ∧ (∀ j : Nat, j < 6 → 0 ≤ rd res (j : Int) ∧ rd res (j : Int) ≤ 30) ∧ (∀ c : Nat, c ≤ 6 → psum res c = ((l.countP (fun x => decide (x.f1 ≤ (c : Int))) : Nat) : Int)) := by
  induction d with
  | zero =>
    intro out i hi hd ho hb hc
    rw [List.take_of_length_le (by omega)] at hc
    refine ⟨out, ev_succ ?_, ev_succ ?_, ho, fun j hj => ?_, hc⟩
    · simp only [spec_CountClasses.l0, if_neg (show ¬ (i : Int) < (l.length : Int) by omega)]
      exact ev_const rfl
    · simp only [impl_CountClasses.l0, if_neg (show ¬ (i : Int) < (l.length : Int) by omega)]
      exact ev_const rfl
    · have := hb j hj
      omega
  | succ d ih =>
    intro out i hi hd ho hb hc
    have hlt : i < l.length := by omega
    have hx := (hs _ (List.getElem_mem hlt)).2.1
    obtain ⟨p, hp⟩ := Int.eq_ofNat_of_zero_le (show 0 ≤ l[i].f1 - 1 by omega)
    have hbp := hb p (by omega)
    obtain ⟨res, h1, h2, h3⟩ := ih (out.set p (rd out (p : Int) + 1)) (i + 1) (by omega) (by omega) (by simpa using ho) (fun j hj => by
      have hbj := hb j hj
      rw [rd_set _ _ _ (by omega)]
      by_cases e : p = j
      · rw [if_pos e]; omega
      · rw [if_neg e]; omega) (fun c hc6 => by
      rw [psum_set _ _ (by omega) _ _ (by omega), hc c hc6, List.take_succ_eq_append_getElem hlt, List.countP_append, List.countP_cons, List.countP_nil]
      by_cases e : l[i].f1 ≤ (c : Int)
      · rw [if_pos (show p < c by omega), decide_eq_true e]; simp; omega
      · rw [if_neg (show ¬ p < c by omega), decide_eq_false e]; simp)
    refine ⟨res, ev_succ ?_, ev_succ ?_, h3⟩
    · simp only [spec_CountClasses.l0, if_pos (show (i : Int) < (l.length : Int) by omega), if_pos (show (0 : Int) ≤ (i : Int) by omega), rd_T40_at _ _ hlt, hp, w64 (x := (p : Int)) (by omega) (by omega), if_pos (show 0 ≤ (p : Int) by omega), if_pos (show (p : Int) < (out.length : Int) by omega), w64 (x := (i : Int) + 1) (by omega) (by omega), Int.toNat_natCast, w64 (x := rd out (p : Int) + 1) (by omega) (by omega)]
      exact h1
    · simp only [impl_CountClasses.l0, if_pos (show (i : Int) < (l.length : Int) by omega), if_pos (show (0 : Int) ≤ (i : Int) by omega), rd_T40_at _ _ hlt, hp, w64 (x := (p : Int)) (by omega) (by omega), if_pos (show 0 ≤ (p : Int) by omega), if_pos (show (p : Int) < (out.length : Int) by omega), w64 (x := (i : Int) + 1) (by omega) (by omega), Int.toNat_natCast, w64 (x := rd out (p : Int) + 1) (by omega) (by omega)]
      exact h2
theorem count2_same (l : List S40) (hl : l.length ≤ 1048576) : ∃ res c, Ev (fun k => spec_CountClasses.f k l) (res, c) ∧ Ev (fun k => impl_CountClasses.f k l) (res, c) ∧ res.length ≤ 6 ∧ (c = 0 ↔ catB l = true) ∧ (c = 0 → l.length ≤ 30 ∧ res.length = 6 ∧ (∀ j : Nat, j < 6 → 0 ≤ rd res (j : Int) ∧ rd res (j : Int) ≤ 30) ∧ psum res 6 = (l.length : Int) ∧ (∀ c : Nat, c ≤ 6 → psum res c = ((l.countP (fun x => decide (x.f1 ≤ (c : Int))) : Nat) : Int))) := by
  cases hc : catB l with
  | false =>
    refine ⟨[], 1, ?_, ?_, by simp, by simp, fun h => by omega⟩
    · unfold spec_CountClasses.f
      refine Ev.bind (scat_ev l hl) ?_
      simp only [hc, Bool.false_eq_true, if_false]
      exact ev_const rfl
    · unfold impl_CountClasses.f
      simp only [icat_val, hc, Option.bind_some, Bool.false_eq_true, if_false]
      exact ev_const rfl
  | true =>
    obtain ⟨h30, hs⟩ := catB_ok hc
    obtain ⟨res, e1, e2, e3, e4, e5⟩ := count2_l l (by omega) hs l.length (List.replicate 6 0) 0 (by omega) (by omega) (by simp) (fun j hj => by
      rw [rdn_at _ _ (by simpa using hj), List.getElem_replicate]; omega) (fun c hc6 => by
      rw [List.take_zero, List.countP_nil]
      have h := psum_bound (List.replicate 6 0) 0 6 (fun j hj => by rw [rdn_at _ _ (by simpa using hj), List.getElem_replicate]; omega) c hc6
      omega)
    refine ⟨res, 0, ?_, ?_, by omega, by simp, fun _ => ⟨by omega, e3, e4, ?_, e5⟩⟩
    · unfold spec_CountClasses.f
      refine Ev.bind (scat_ev l hl) ?_
      simp only [hc, if_true, if_pos (show 6 ≤ 35184372088832 by omega)]
      exact e1
    · unfold impl_CountClasses.f
      simp only [icat_val, hc, Option.bind_some, if_true, if_pos (show 6 ≤ 35184372088832 by omega)]
      exact e2
    · rw [e5 6 (by omega)]
      congr 1
      rw [List.countP_eq_length]
      intro x hx
      have := (hs x hx).2.1
      exact decide_eq_true (by omega)
theorem bright2_l (l : List S40) (hl : l.length ≤ 30) (c : Int) (d : Nat) : ∀ (out : List Int) (i : Nat), i ≤ l.length → l.length - i = d → out.length = (l.take i).countP (fun x => decide (x.f1 ≤ c)) → out.length ≤ i → (∀ j : Nat, (hj : j < i) → (hj2 : j < l.length) → l[j].f1 ≤ c → (j : Int) ∈ out) →
    ∃ res, Ev (fun k => spec_BrighterThan.l0 k l c out i) (res, 0) ∧ Ev (fun k => impl_BrighterThan.l0 k c out l l.length i) (res, 0) ∧ res.length ≤ l.length ∧ res.length = l.countP (fun x => decide (x.f1 ≤ c)) ∧ (∀ j : Nat, (hj2 : j < l.length) → l[j].f1 ≤ c → (j : Int) ∈ res) := by
  induction d with
  | zero =>
    intro out i hi hd hn ho hm
    rw [List.take_of_length_le (by omega)] at hn
    refine ⟨out, ev_succ ?_, ev_succ ?_, by omega, hn, fun j hj2 => hm j (by omega) hj2⟩
    · simp only [spec_BrighterThan.l0, if_neg (show ¬ (i : Int) < (l.length : Int) by omega)]
      exact ev_const rfl
    · simp only [impl_BrighterThan.l0, if_neg (show ¬ (i : Int) < (l.length : Int) by omega)]
      exact ev_const rfl
  | succ d ih =>
    intro out i hi hd hn ho hm
    have hlt : i < l.length := by omega
    by_cases cc : l[i].f1 ≤ c
    · obtain ⟨res, h1, h2, h3⟩ := ih (out ++ [(i : Int)]) (i + 1) (by omega) (by omega) (by
        rw [List.take_succ_eq_append_getElem hlt, List.countP_append, List.countP_cons, List.countP_nil, decide_eq_true cc, List.length_append, hn]; simp) (by simp; omega) (fun j hj hj2 hc => by
        rw [List.mem_append, List.mem_singleton]
        by_cases e : j = i
        · right; omega
        · left; exact hm j (by omega) hj2 hc)
      refine ⟨res, ev_succ ?_, ev_succ ?_, h3⟩
      · simp only [spec_BrighterThan.l0, if_pos (show (i : Int) < (l.length : Int) by omega), if_pos (show (0 : Int) ≤ (i : Int) by omega), rd_T40_at _ _ hlt, if_pos cc, if_pos (show out.length < 17592186044416 by omega), w64 (x := (i : Int) + 1) (by omega) (by omega)]
        exact h1
      · simp only [impl_BrighterThan.l0, if_pos (show (i : Int) < (l.length : Int) by omega), if_pos (show (0 : Int) ≤ (i : Int) by omega), rd_T40_at _ _ hlt, if_pos cc, if_pos (show out.length < 17592186044416 by omega), w64 (x := (i : Int) + 1) (by omega) (by omega)]
        exact h2
    · obtain ⟨res, h1, h2, h3⟩ := ih out (i + 1) (by omega) (by omega) (by
        rw [List.take_succ_eq_append_getElem hlt, List.countP_append, List.countP_cons, List.countP_nil, decide_eq_false cc, hn]; simp) (by omega) (fun j hj hj2 hc => by
        by_cases e : j = i
        · subst e; exact absurd hc cc
        · exact hm j (by omega) hj2 hc)
      refine ⟨res, ev_succ ?_, ev_succ ?_, h3⟩
      · simp only [spec_BrighterThan.l0, if_pos (show (i : Int) < (l.length : Int) by omega), if_pos (show (0 : Int) ≤ (i : Int) by omega), rd_T40_at _ _ hlt, if_neg cc, w64 (x := (i : Int) + 1) (by omega) (by omega)]
        exact h1
      · simp only [impl_BrighterThan.l0, if_pos (show (i : Int) < (l.length : Int) by omega), if_pos (show (0 : Int) ≤ (i : Int) by omega), rd_T40_at _ _ hlt, if_neg cc, w64 (x := (i : Int) + 1) (by omega) (by omega)]
        exact h2
theorem bright2_same (l : List S40) (hl : l.length ≤ 1048576) (c : Int) : ∃ res cd, Ev (fun k => spec_BrighterThan.f k l c) (res, cd) ∧ Ev (fun k => impl_BrighterThan.f k l c) (res, cd) ∧ res.length ≤ 30 ∧ (cd = 0 ↔ catB l = true ∧ 1 ≤ c ∧ c ≤ 6) ∧ (cd = 0 → res.length = l.countP (fun x => decide (x.f1 ≤ c)) ∧ (∀ j : Nat, (hj2 : j < l.length) → l[j].f1 ≤ c → (j : Int) ∈ res)) := by
  cases hc : catB l with
  | false =>
    refine ⟨[], 1, ?_, ?_, by simp, by simp, fun h => by omega⟩
    · unfold spec_BrighterThan.f
      refine Ev.bind (scat_ev l hl) ?_
      simp only [hc, Bool.false_eq_true, if_false]
      exact ev_const rfl
    · unfold impl_BrighterThan.f impl_isClass.f
      simp only [icat_val, hc, within_val, Option.bind_some, impl_check.f, Bool.false_eq_true, if_false, if_neg (show ¬ (1 : Int) = 0 by omega)]
      exact ev_const rfl
  | true =>
    obtain ⟨h30, hs⟩ := catB_ok hc
    by_cases c1 : 1 ≤ c ∧ c ≤ 6
    · obtain ⟨res, e1, e2, e3, e4⟩ := bright2_l l (by omega) c l.length [] 0 (by omega) (by omega) (by simp) (by simp) (fun j hj => by omega)
      refine ⟨res, 0, ?_, ?_, by omega, by simpa using c1, fun _ => e4⟩
      · unfold spec_BrighterThan.f
        refine Ev.bind (scat_ev l hl) ?_
        simp only [hc, if_true, in_val, Option.bind_some, decide_eq_true c1]
        exact e1
      · unfold impl_BrighterThan.f impl_isClass.f
        simp only [icat_val, hc, within_val, Option.bind_some, impl_check.f, if_true, decide_eq_true c1]
        exact e2
    · refine ⟨[], 2, ?_, ?_, by simp, ?_, fun h => by omega⟩
      · unfold spec_BrighterThan.f
        refine Ev.bind (scat_ev l hl) ?_
        simp only [hc, if_true, in_val, Option.bind_some, decide_eq_false c1, Bool.false_eq_true, if_false]
        exact ev_const rfl
      · unfold impl_BrighterThan.f impl_isClass.f
        simp only [icat_val, hc, within_val, Option.bind_some, impl_check.f, if_true, decide_eq_false c1, Bool.false_eq_true, if_false, if_neg (show ¬ (2 : Int) = 0 by omega)]
        exact ev_const rfl
      · constructor
        · intro h; omega
        · intro h; exact absurd h.2 c1
theorem faint2_l (l : List S40) (hl : l.length ≤ 30) (S : List Int) (hS : S.length ≤ 30) (hb : ∀ y ∈ S, 0 ≤ y ∧ y < (l.length : Int)) (d : Nat) : ∀ (b : Int) (i : Nat), b ∈ S → i ≤ S.length → S.length - i = d → (∀ j : Nat, (hj : j < i) → (hj2 : j < S.length) → (rd_T40 l S[j]).f1 ≤ (rd_T40 l b).f1) →
    ∃ r, Ev (fun k => spec_FaintestOf.l0 k l S b i) (r, 0) ∧ Ev (fun k => impl_FaintestOf.l0 k l b S S.length i) (r, 0) ∧ r ∈ S ∧ ∀ y ∈ S, (rd_T40 l y).f1 ≤ (rd_T40 l r).f1 := by
  induction d with
  | zero =>
    intro b i b0 hi hd hg
    have hx := hb _ b0
    refine ⟨b, ev_succ ?_, ev_succ ?_, b0, fun y hy => ?_⟩
    · simp only [spec_FaintestOf.l0, if_neg (show ¬ (i : Int) < (S.length : Int) by omega)]
      exact ev_const rfl
    · simp only [impl_FaintestOf.l0, if_neg (show ¬ (i : Int) < (S.length : Int) by omega), if_neg (show ¬ b < 0 by omega)]
      exact ev_const rfl
    · obtain ⟨j, hj, rfl⟩ := List.getElem_of_mem hy
      exact hg j (by omega) hj
  | succ d ih =>
    intro b i b0 hi hd hg
    have hlt : i < S.length := by omega
    have hx := hb _ (List.getElem_mem hlt)
    have hy := hb _ b0
    by_cases c : (rd_T40 l S[i]).f1 > (rd_T40 l b).f1
    · obtain ⟨r, h1, h2, h3⟩ := ih S[i] (i + 1) (List.getElem_mem hlt) (by omega) (by omega) (fun j hj hj2 => by
        by_cases e : j = i
        · subst e; exact Int.le_refl _
        · have := hg j (by omega) hj2; omega)
      refine ⟨r, ev_succ ?_, ev_succ ?_, h3⟩
      · simp only [spec_FaintestOf.l0, if_pos (show (i : Int) < (S.length : Int) by omega), if_pos (show (0 : Int) ≤ (i : Int) by omega), rdn_at _ _ hlt, if_pos hx.1, if_pos hx.2, if_pos hy.1, if_pos hy.2, if_pos c, w64 (x := (i : Int) + 1) (by omega) (by omega)]
        exact h1
      · simp only [impl_FaintestOf.l0, if_pos (show (i : Int) < (S.length : Int) by omega), if_pos (show (0 : Int) ≤ (i : Int) by omega), rdn_at _ _ hlt, if_neg (show ¬ b < 0 by omega), if_pos hx.1, if_pos hx.2, if_pos hy.1, if_pos hy.2, if_pos c, w64 (x := (i : Int) + 1) (by omega) (by omega)]
        exact h2
    · obtain ⟨r, h1, h2, h3⟩ := ih b (i + 1) b0 (by omega) (by omega) (fun j hj hj2 => by
        by_cases e : j = i
        · subst e; omega
        · exact hg j (by omega) hj2)
      refine ⟨r, ev_succ ?_, ev_succ ?_, h3⟩
      · simp only [spec_FaintestOf.l0, if_pos (show (i : Int) < (S.length : Int) by omega), if_pos (show (0 : Int) ≤ (i : Int) by omega), rdn_at _ _ hlt, if_pos hx.1, if_pos hx.2, if_pos hy.1, if_pos hy.2, if_neg c, w64 (x := (i : Int) + 1) (by omega) (by omega)]
        exact h1
      · simp only [impl_FaintestOf.l0, if_pos (show (i : Int) < (S.length : Int) by omega), if_pos (show (0 : Int) ≤ (i : Int) by omega), rdn_at _ _ hlt, if_neg (show ¬ b < 0 by omega), if_pos hx.1, if_pos hx.2, if_pos hy.1, if_pos hy.2, if_neg c, w64 (x := (i : Int) + 1) (by omega) (by omega)]
        exact h2
/-- What is the same for both of a figure's stars and its faintest star. -/
theorem faint2_same (l : List S40) (hl : l.length ≤ 1048576) (m : List S65) (hm : m.length ≤ 1048576) : ∃ v own c r cd, Ev (fun k => spec_l16Figure.f k l m) v ∧ Ev (fun k => impl_ValidFigure.f k l m) v ∧
    Ev (fun k => spec_StarsOfFigure.f k l m) (own, c) ∧ Ev (fun k => impl_StarsOfFigure.f k l m) (own, c) ∧ own.length ≤ 30 ∧
    Ev (fun k => spec_FaintestOf.f k l m) (r, cd) ∧ Ev (fun k => impl_FaintestOf.f k l m) (r, cd) ∧ (cd = 0 → r ∈ own ∧ (∀ y ∈ own, (rd_T40 l y).f1 ≤ (rd_T40 l r).f1) ∧ ∀ y ∈ own, 0 ≤ y ∧ y < (l.length : Int)) := by
  obtain ⟨v, h1, h2, h3⟩ := figure_same l hl m hm
  cases v with
  | false =>
    refine ⟨false, [], 1, 0, 1, h1, h2, ?_, ?_, by simp, ?_, ?_, fun h => by omega⟩
    · unfold spec_StarsOfFigure.f
      refine Ev.bind h1 ?_
      simp only [Bool.false_eq_true, if_false]
      exact ev_const rfl
    · unfold impl_StarsOfFigure.f
      refine Ev.bind h2 ?_
      simp only [Bool.false_eq_true, if_false]
      exact ev_const rfl
    · unfold spec_FaintestOf.f
      refine Ev.bind h1 ?_
      simp only [Bool.false_eq_true, if_false]
      exact ev_const rfl
    · unfold impl_FaintestOf.f
      refine Ev.bind h2 ?_
      simp only [Bool.false_eq_true, if_false]
      exact ev_const rfl
  | true =>
    obtain ⟨g1, g2, g3⟩ := h3 rfl
    obtain ⟨h30, _⟩ := catB_ok g3
    have hsl := starsV_len l.length m
    have q1 := sstars_ev l (by omega) m (by omega) g1
    have q2 := istars_ev m (by omega) l.length g1
    have hb : ∀ y ∈ starsV l.length m, 0 ≤ y ∧ y < (l.length : Int) := fun y hy => pts_bound g1 y ((starsV_mem g1 y).1 hy)
    generalize starsV l.length m = S at hsl q1 q2 hb
    have p1 : Ev (fun k => spec_StarsOfFigure.f k l m) (S, 0) := by
      unfold spec_StarsOfFigure.f
      refine Ev.bind h1 ?_
      simp only [if_true]
      exact Ev.bind q1 (ev_const rfl)
    have p2 : Ev (fun k => impl_StarsOfFigure.f k l m) (S, 0) := by
      unfold impl_StarsOfFigure.f
      refine Ev.bind h2 ?_
      simp only [if_true]
      exact Ev.bind q2 (ev_const rfl)
    by_cases hz : S.length = 0
    · refine ⟨true, S, 0, 0, 3, h1, h2, p1, p2, by omega, ?_, ?_, fun h => by omega⟩
      · unfold spec_FaintestOf.f
        refine Ev.bind h1 ?_
        simp only [if_true]
        refine Ev.bind q1 ?_
        simp only [if_pos (show (S.length : Int) = 0 by omega)]
        exact ev_const rfl
      · unfold impl_FaintestOf.f
        refine Ev.bind h2 ?_
        simp only [if_true]
        refine Ev.bind q2 (ev_succ ?_)
        simp only [impl_FaintestOf.l0, if_neg (show ¬ (0 : Int) < (S.length : Int) by omega), if_pos (show (-1 : Int) < 0 by omega)]
        exact ev_const rfl
    · have h0 : 0 < S.length := by omega
      have hr0 : rd S 0 = S[0] := rdn_at S 0 h0
      obtain ⟨r, e1, e2, e3, e4⟩ := faint2_l l (by omega) S (by omega) hb (S.length - 1) S[0] 1 (List.getElem_mem h0) (by omega) rfl (fun j hj hj2 => by
        have : j = 0 := by omega
        subst this; exact Int.le_refl _)
      refine ⟨true, S, 0, r, 0, h1, h2, p1, p2, by omega, ?_, ?_, fun _ => ⟨e3, e4, hb⟩⟩
      · unfold spec_FaintestOf.f
        refine Ev.bind h1 ?_
        simp only [if_true]
        refine Ev.bind q1 ?_
        simp only [if_neg (show ¬ (S.length : Int) = 0 by omega), if_pos (show (0 : Int) < (S.length : Int) by omega), hr0]
        exact e1
      · unfold impl_FaintestOf.f
        refine Ev.bind h2 ?_
        simp only [if_true]
        refine Ev.bind q2 (ev_succ ?_)
        simp only [impl_FaintestOf.l0, if_pos (show (0 : Int) < (S.length : Int) by omega), if_pos (show (0 : Int) ≤ (0 : Int) by omega), hr0, if_pos (show (-1 : Int) < 0 by omega), w64 (x := (0 : Int) + 1) (by omega) (by omega)]
        exact e2

/-- A number's decimal text. -/
def decT (n : Nat) : ByteArray := ⟨(Go.Lib.decDigits n).toArray⟩
theorem dec_all : ((List.range 200).all fun n => decide ((spec_l01Dec.f 5 (n : Int)).map (fun b => b.data.toList) = some (Go.Lib.decDigits n) ∧ (Go.Lib.decDigits n).length ≤ 3)) = true := by kernel_rfl
theorem dec_at (n : Nat) (h : n < 200) : spec_l01Dec.f 5 (n : Int) = some (decT n) ∧ (decT n).size ≤ 3 := by
  have h1 := of_decide_eq_true (List.all_eq_true.1 dec_all n (List.mem_range.2 h))
  obtain ⟨h2, h3⟩ := h1
  obtain ⟨b, hb, hd⟩ := Option.map_eq_some_iff.1 h2
  refine ⟨?_, ?_⟩
  · rw [hb]
    congr 1
    unfold decT
    rw [← hd]
  · show (Go.Lib.decDigits n).toArray.size ≤ 3
    simpa using h3
theorem dec_ev (n : Nat) (h : n < 200) : Ev (fun k => spec_l01Dec.f k (n : Int)) (decT n) := by
  have h1 := (dec_at n h).1
  refine ⟨5, fun k hk => ?_⟩
  show spec_l01Dec.f k (n : Int) = some (decT n)
  induction k with
  | zero => omega
  | succ k ih =>
    by_cases e : k + 1 = 5
    · rw [e]; exact h1
    · exact spec_l01Dec.mono _ _ _ (ih (by omega))
/-- Two digits. -/
def pairT (v : Nat) : ByteArray := decT (v / 10) ++ decT (v % 10)
theorem pair_all : ((List.range 60).all fun v => decide (Go.Lib.decDigits (v / 10) ++ Go.Lib.decDigits (v % 10) = if v < 10 then 48 :: Go.Lib.decDigits v else Go.Lib.decDigits v)) = true := by kernel_rfl
theorem app_mk (a b : List UInt8) : (⟨a.toArray⟩ : ByteArray) ++ (⟨b.toArray⟩ : ByteArray) = (⟨(a ++ b).toArray⟩ : ByteArray) := by
  apply ByteArray.ext
  rw [ByteArray.data_append]
  simp
theorem pair_at (v : Nat) (h : v < 60) : pairT v = if v < 10 then (⟨#[48]⟩ : ByteArray) ++ decT v else decT v := by
  have h1 := of_decide_eq_true (List.all_eq_true.1 pair_all v (List.mem_range.2 h))
  unfold pairT decT
  rw [app_mk, h1]
  split
  · exact (app_mk [48] _).symm
  · rfl
theorem pair_size (v : Nat) (h : v < 60) : (pairT v).size ≤ 6 := by
  unfold pairT
  rw [ByteArray.size_append]
  have h1 := (dec_at (v / 10) (by omega)).2
  have h2 := (dec_at (v % 10) (by omega)).2
  omega
theorem decimal_val (n : Nat) (h : n < 200) : impl_Decimal.f (n : Int) = some (decT n) := by
  unfold impl_Decimal.f strconv_FormatInt.f
  rw [if_pos ⟨rfl, by omega, by omega⟩, Int.toNat_natCast]
  rfl
theorem padded_val (v : Nat) (h : v < 60) : impl_padded.f (v : Int) = some (pairT v) := by
  have hs := (dec_at v (by omega)).2
  unfold impl_padded.f
  rw [decimal_val v (by omega), pair_at v h]
  simp only [Option.bind_some]
  by_cases c : v < 10
  · rw [if_pos (by omega), if_pos (by omega), if_pos c]
  · rw [if_neg (by omega), if_neg c]
theorem pair_ev (v : Nat) (h : v < 60) : Ev (fun k => spec_l02Pair.f k (v : Int)) (pairT v) := by
  have h1 := dec_ev (v / 10) (by omega)
  have h2 := dec_ev (v % 10) (by omega)
  have s1 := (dec_at (v / 10) (by omega)).2
  have s2 := (dec_at (v % 10) (by omega)).2
  unfold spec_l02Pair.f
  rw [tdiv_nn (by omega), tmod_nn (by omega), w64 (x := (v : Int) / 10) (by omega) (by omega), show (v : Int) / 10 = ((v / 10 : Nat) : Int) by omega, show (v : Int) % 10 = ((v % 10 : Nat) : Int) by omega]
  refine Ev.bind h1 (Ev.bind h2 ?_)
  rw [if_pos (by omega)]
  exact ev_const rfl
/-- Degrees, minutes and seconds. -/
def sizT (m : Nat) : ByteArray := (((decT (m / 3600) ++ (⟨#[46]⟩ : ByteArray)) ++ pairT (m / 60 % 60)) ++ (⟨#[46]⟩ : ByteArray)) ++ pairT (m % 60)
theorem one46 : (⟨#[46]⟩ : ByteArray).size = 1 := rfl
theorem siz_size (m : Nat) (h : m ≤ 648000) : (sizT m).size ≤ 17 := by
  have h1 := (dec_at (m / 3600) (by omega)).2
  have h2 := pair_size (m / 60 % 60) (by omega)
  have h3 := pair_size (m % 60) (by omega)
  unfold sizT
  simp only [ByteArray.size_append, one46]
  omega
theorem size_ev (a : Int) (h0 : -648000 ≤ a) (h1 : a ≤ 648000) : Ev (fun k => spec_l02Size.f k a) (sizT a.natAbs) := by
  have hs : spec_l00Size.f a = some (a.natAbs : Int) := by
    unfold spec_l00Size.f
    by_cases c : a < 0
    · rw [if_pos c, w64 (x := -a) (by omega) (by omega)]
      congr 1
      omega
    · rw [if_neg c]
      congr 1
      omega
  have hm : a.natAbs ≤ 648000 := by omega
  generalize a.natAbs = m at hs hm
  have q1 := (dec_at (m / 3600) (by omega)).2
  have q2 := pair_size (m / 60 % 60) (by omega)
  have q3 := pair_size (m % 60) (by omega)
  unfold spec_l02Size.f
  simp only [hs, Option.bind_some, tdiv_nn (show 0 ≤ (m : Int) by omega), w64 (x := (m : Int) / 3600) (by omega) (by omega), w64 (x := ((m / 3600 : Nat) : Int)) (by omega) (by omega), w64 (x := (m : Int) / 60) (by omega) (by omega), tmod_nn (show 0 ≤ (m : Int) / 60 by omega), tmod_nn (show 0 ≤ (m : Int) by omega), show (m : Int) / 3600 = ((m / 3600 : Nat) : Int) by omega, show (m : Int) / 60 % 60 = ((m / 60 % 60 : Nat) : Int) by omega, show (m : Int) % 60 = ((m % 60 : Nat) : Int) by omega]
  refine Ev.bind (dec_ev (m / 3600) (by omega)) ?_
  simp only [if_pos (show (decT (m / 3600)).size + 1 ≤ 9223372036854775807 by omega)]
  refine Ev.bind (pair_ev (m / 60 % 60) (by omega)) ?_
  simp only [ByteArray.size_append, one46, if_pos (show (decT (m / 3600)).size + 1 + (pairT (m / 60 % 60)).size ≤ 9223372036854775807 by omega), if_pos (show (decT (m / 3600)).size + 1 + (pairT (m / 60 % 60)).size + 1 ≤ 9223372036854775807 by omega)]
  refine Ev.bind (pair_ev (m % 60) (by omega)) ?_
  rw [if_pos (by omega)]
  exact ev_const rfl
theorem angle_val (a : Int) (h0 : -648000 ≤ a) (h1 : a ≤ 648000) (p q : ByteArray) (hp : p.size ≤ 10) (hq : q.size ≤ 10) : impl_angleText.f a p q = some (sizT a.natAbs ++ (if a < 0 then q else p)) := by
  have key : ∀ (m : Nat) (s : ByteArray), m ≤ 648000 → s.size ≤ 10 → ((impl_Decimal.f (wrap64 (Int.tdiv (m : Int) 3600))).bind fun t160 => (if t160.size + 1 ≤ 9223372036854775807 then ((impl_padded.f (Int.tmod (wrap64 (Int.tdiv (m : Int) 60)) 60)).bind fun t161 => (if (t160 ++ (⟨#[46]⟩ : ByteArray)).size + t161.size ≤ 9223372036854775807 then (if ((t160 ++ (⟨#[46]⟩ : ByteArray)) ++ t161).size + 1 ≤ 9223372036854775807 then ((impl_padded.f (Int.tmod (m : Int) 60)).bind fun t162 => (if (((t160 ++ (⟨#[46]⟩ : ByteArray)) ++ t161) ++ (⟨#[46]⟩ : ByteArray)).size + t162.size ≤ 9223372036854775807 then (if ((((t160 ++ (⟨#[46]⟩ : ByteArray)) ++ t161) ++ (⟨#[46]⟩ : ByteArray)) ++ t162).size + s.size ≤ 9223372036854775807 then (some (((((t160 ++ (⟨#[46]⟩ : ByteArray)) ++ t161) ++ (⟨#[46]⟩ : ByteArray)) ++ t162) ++ s)) else (none)) else (none))) else (none)) else (none))) else (none))) = some (sizT m ++ s) := by
    intro m s hm hs
    have q1 := (dec_at (m / 3600) (by omega)).2
    have q2 := pair_size (m / 60 % 60) (by omega)
    have q3 := pair_size (m % 60) (by omega)
    simp only [tdiv_nn (show 0 ≤ (m : Int) by omega), w64 (x := (m : Int) / 3600) (by omega) (by omega), w64 (x := ((m / 3600 : Nat) : Int)) (by omega) (by omega), w64 (x := (m : Int) / 60) (by omega) (by omega), tmod_nn (show 0 ≤ (m : Int) / 60 by omega), tmod_nn (show 0 ≤ (m : Int) by omega), show (m : Int) / 3600 = ((m / 3600 : Nat) : Int) by omega, show (m : Int) / 60 % 60 = ((m / 60 % 60 : Nat) : Int) by omega, show (m : Int) % 60 = ((m % 60 : Nat) : Int) by omega, decimal_val (m / 3600) (by omega), padded_val (m / 60 % 60) (by omega), padded_val (m % 60) (by omega), Option.bind_some, ByteArray.size_append, one46]
    rw [if_pos (by omega), if_pos (by omega), if_pos (by omega), if_pos (by omega), if_pos (by omega)]
    rfl
  unfold impl_angleText.f
  by_cases c : a < 0
  · have h := key a.natAbs q (by omega) hq
    rw [if_pos c, if_pos c, w64 (x := -a) (by omega) (by omega), show -a = (a.natAbs : Int) by omega]
    exact h
  · have h := key a.natAbs p (by omega) hp
    rw [show ((a.natAbs : Nat) : Int) = a by omega] at h
    rw [if_neg c, if_neg c]
    exact h
theorem star_same (n : ByteArray) (c x y : Int) : ∃ v, Ev (fun k => spec_l16One.f k n c x y) v ∧ impl_isStar.f n c x y = some v ∧ (v = true → (1 ≤ c ∧ c ≤ 6) ∧ (-324000 ≤ x ∧ x ≤ 324000) ∧ (-648000 ≤ y ∧ y ≤ 647999)) := by
  have hn := spec_name n
  by_cases h1 : IsNm n
  · by_cases h2 : 1 ≤ c ∧ c ≤ 6
    · by_cases h3 : -324000 ≤ x ∧ x ≤ 324000
      · refine ⟨decide (-648000 ≤ y ∧ y ≤ 647999), ?_, ?_, fun h => ⟨h2, h3, of_decide_eq_true h⟩⟩
        · unfold spec_l16One.f spec_l02Ok.f
          refine Ev.bind hn ?_
          simp only [decide_eq_true h1, if_true, in_val, Option.bind_some, decide_eq_true h2, decide_eq_true h3]
          exact ev_const rfl
        · unfold impl_isStar.f impl_isClass.f impl_ValidSpot.f
          simp only [impl_name, decide_eq_true h1, if_true, within_val, Option.bind_some, decide_eq_true h2, decide_eq_true h3]
      · refine ⟨false, ?_, ?_, fun h => by cases h⟩
        · unfold spec_l16One.f spec_l02Ok.f
          refine Ev.bind hn ?_
          simp only [decide_eq_true h1, if_true, in_val, Option.bind_some, decide_eq_true h2, decide_eq_false h3, Bool.false_eq_true, if_false]
          exact ev_const rfl
        · unfold impl_isStar.f impl_isClass.f impl_ValidSpot.f
          simp only [impl_name, decide_eq_true h1, if_true, within_val, Option.bind_some, decide_eq_true h2, decide_eq_false h3, Bool.false_eq_true, if_false]
    · refine ⟨false, ?_, ?_, fun h => by cases h⟩
      · unfold spec_l16One.f
        refine Ev.bind hn ?_
        simp only [decide_eq_true h1, if_true, in_val, Option.bind_some, decide_eq_false h2, Bool.false_eq_true, if_false]
        exact ev_const rfl
      · unfold impl_isStar.f impl_isClass.f
        simp only [impl_name, decide_eq_true h1, if_true, within_val, Option.bind_some, decide_eq_false h2, Bool.false_eq_true, if_false]
  · refine ⟨false, ?_, ?_, fun h => by cases h⟩
    · unfold spec_l16One.f
      refine Ev.bind hn ?_
      simp only [decide_eq_false h1, Bool.false_eq_true, if_false]
      exact ev_const rfl
    · unfold impl_isStar.f
      simp only [impl_name, decide_eq_false h1, Option.bind_some, Bool.false_eq_true, if_false]
theorem lit_s : (⟨#[115, 32]⟩ : ByteArray) = (⟨#[115]⟩ : ByteArray) ++ (⟨#[32]⟩ : ByteArray) := by kernel_rfl
theorem lit_n : (⟨#[110, 32]⟩ : ByteArray) = (⟨#[110]⟩ : ByteArray) ++ (⟨#[32]⟩ : ByteArray) := by kernel_rfl
/-- The text of a spot. -/
def spotT (x y : Int) : ByteArray := ((sizT x.natAbs ++ (if x < 0 then (⟨#[115]⟩ : ByteArray) else (⟨#[110]⟩ : ByteArray))) ++ (⟨#[32]⟩ : ByteArray)) ++ (sizT y.natAbs ++ (if y < 0 then (⟨#[119]⟩ : ByteArray) else (⟨#[101]⟩ : ByteArray)))
theorem spot_impl (x y : Int) (hx : -324000 ≤ x ∧ x ≤ 324000) (hy : -648000 ≤ y ∧ y ≤ 647999) : impl_SpotText.f x y = some (spotT x y) := by
  have s1 := siz_size x.natAbs (by omega)
  have s2 := siz_size y.natAbs (by omega)
  unfold impl_SpotText.f impl_ValidSpot.f
  simp only [within_val, Option.bind_some, decide_eq_true hx, decide_eq_true hy, if_true, angle_val x (by omega) (by omega) (⟨#[110]⟩ : ByteArray) (⟨#[115]⟩ : ByteArray) (by decide) (by decide), angle_val y (by omega) (by omega) (⟨#[101]⟩ : ByteArray) (⟨#[119]⟩ : ByteArray) (by decide) (by decide), ByteArray.size_append]
  have t1 : (if x < 0 then (⟨#[115]⟩ : ByteArray) else (⟨#[110]⟩ : ByteArray)).size = 1 := by split <;> rfl
  have t2 : (if y < 0 then (⟨#[119]⟩ : ByteArray) else (⟨#[101]⟩ : ByteArray)).size = 1 := by split <;> rfl
  have t3 : (⟨#[32]⟩ : ByteArray).size = 1 := rfl
  rw [t1, t2, t3, if_pos (by omega), if_pos (by omega)]
  rfl
theorem spot_spec (x y : Int) (hx : -324000 ≤ x ∧ x ≤ 324000) (hy : -648000 ≤ y ∧ y ≤ 647999) : Ev (fun k => spec_l02Text.f k x y) (spotT x y) := by
  have s1 := siz_size x.natAbs (by omega)
  have s2 := siz_size y.natAbs (by omega)
  have e1 := size_ev x (by omega) (by omega)
  have e2 := size_ev y (by omega) (by omega)
  have l1 : (⟨#[115, 32]⟩ : ByteArray).size = 2 := rfl
  have l2 : (⟨#[110, 32]⟩ : ByteArray).size = 2 := rfl
  unfold spec_l02Text.f spotT
  refine Ev.bind e1 ?_
  by_cases c : x < 0
  · by_cases d : y < 0
    · simp only [if_pos c, if_pos (show (sizT x.natAbs).size + 2 ≤ 9223372036854775807 by omega)]
      refine Ev.bind e2 ?_
      simp only [if_pos d, ByteArray.size_append, l1]
      rw [if_pos (by omega), if_pos (by omega)]
      exact ev_const (by rw [lit_s]; simp only [ByteArray.append_assoc])
    · simp only [if_pos c, if_pos (show (sizT x.natAbs).size + 2 ≤ 9223372036854775807 by omega)]
      refine Ev.bind e2 ?_
      simp only [if_neg d, ByteArray.size_append, l1]
      rw [if_pos (by omega), if_pos (by omega)]
      exact ev_const (by rw [lit_s]; simp only [ByteArray.append_assoc])
  · by_cases d : y < 0
    · simp only [if_neg c, if_pos (show (sizT x.natAbs).size + 2 ≤ 9223372036854775807 by omega)]
      refine Ev.bind e2 ?_
      simp only [if_pos d, ByteArray.size_append, l2]
      rw [if_pos (by omega), if_pos (by omega)]
      exact ev_const (by rw [lit_n]; simp only [ByteArray.append_assoc])
    · simp only [if_neg c, if_pos (show (sizT x.natAbs).size + 2 ≤ 9223372036854775807 by omega)]
      refine Ev.bind e2 ?_
      simp only [if_neg d, ByteArray.size_append, l2]
      rw [if_pos (by omega), if_pos (by omega)]
      exact ev_const (by rw [lit_n]; simp only [ByteArray.append_assoc])
theorem text_same (n : ByteArray) (hn : n.size ≤ 1048576) (c x y : Int) : ∃ r, Ev (fun k => spec_StarText.f k n c x y) r ∧ impl_StarText.f n c x y = some r := by
  obtain ⟨v, h1, h2, h3⟩ := star_same n c x y
  cases v with
  | false =>
    refine ⟨(⟨#[]⟩ : ByteArray), ?_, ?_⟩
    · unfold spec_StarText.f
      refine Ev.bind h1 ?_
      simp only [Bool.false_eq_true, if_false]
      exact ev_const rfl
    · unfold impl_StarText.f
      simp only [h2, Option.bind_some, Bool.false_eq_true, if_false]
  | true =>
    obtain ⟨hc, hx, hy⟩ := h3 rfl
    obtain ⟨m, rfl⟩ := Int.eq_ofNat_of_zero_le (show 0 ≤ c by omega)
    have q1 := (dec_at m (by omega)).2
    have s1 := siz_size x.natAbs (by omega)
    have s2 := siz_size y.natAbs (by omega)
    have t1 : (if x < 0 then (⟨#[115]⟩ : ByteArray) else (⟨#[110]⟩ : ByteArray)).size = 1 := by split <;> rfl
    have t2 : (if y < 0 then (⟨#[119]⟩ : ByteArray) else (⟨#[101]⟩ : ByteArray)).size = 1 := by split <;> rfl
    have t3 : (⟨#[32]⟩ : ByteArray).size = 1 := rfl
    have hsp : (spotT x y).size ≤ 40 := by
      unfold spotT
      simp only [ByteArray.size_append, t1, t2, t3]
      omega
    have e1 := spot_spec x y hx hy
    have e2 := spot_impl x y hx hy
    generalize spotT x y = s at hsp e1 e2
    refine ⟨((((n ++ (⟨#[32]⟩ : ByteArray)) ++ decT m) ++ (⟨#[32]⟩ : ByteArray)) ++ s), ?_, ?_⟩
    · unfold spec_StarText.f
      refine Ev.bind h1 ?_
      simp only [if_true, if_pos (show n.size + 1 ≤ 9223372036854775807 by omega)]
      refine Ev.bind (dec_ev m (by omega)) ?_
      simp only [ByteArray.size_append, t3, if_pos (show n.size + 1 + (decT m).size ≤ 9223372036854775807 by omega), if_pos (show n.size + 1 + (decT m).size + 1 ≤ 9223372036854775807 by omega)]
      refine Ev.bind e1 ?_
      rw [if_pos (by omega)]
      exact ev_const rfl
    · unfold impl_StarText.f
      simp only [h2, Option.bind_some, if_true, if_pos (show n.size + 1 ≤ 9223372036854775807 by omega), decimal_val m (by omega), ByteArray.size_append, t3, e2]
      rw [if_pos (by omega), if_pos (by omega), if_pos (by omega)]

/-- A line's text. -/
def partT (l : List S40) (x : S65) : ByteArray := ((rd_T40 l x.f0).f0 ++ (⟨#[45]⟩ : ByteArray)) ++ (rd_T40 l x.f1).f0
/-- What stands behind the first text. -/
def tailT : ByteArray → List ByteArray → ByteArray
  | out, [] => out
  | out, p :: ps => tailT ((out ++ (⟨#[44, 32]⟩ : ByteArray)) ++ p) ps
theorem ba_app (a b : ByteArray) : (a ++ b).data.toList = a.data.toList ++ b.data.toList := by simp
theorem tailT_list (ps : List ByteArray) : ∀ out : ByteArray, (tailT out ps).data.toList = out.data.toList ++ Go.Lib.joinTail [44, 32] (ps.map (·.data.toList)) := by
  induction ps with
  | nil => intro out; simp [tailT, Go.Lib.joinTail]
  | cons p ps ih =>
    intro out
    rw [tailT, ih, ba_app, ba_app]
    simp [Go.Lib.joinTail]
theorem join_cons (x : List UInt8) (r : List (List UInt8)) (sep : List UInt8) : Go.Lib.join (x :: r) sep = x ++ Go.Lib.joinTail sep r := by
  unfold Go.Lib.join
  induction r generalizing x with
  | nil => simp [Go.Lib.joinTail, List.intercalate]
  | cons y r ih =>
    have h := ih y
    simp only [List.intercalate, List.intersperse_cons_cons, List.flatten_cons] at h ⊢
    rw [h]
    simp [Go.Lib.joinTail]
theorem name_size (l : List S40) (h : ∀ x ∈ l, StarOk x) (i : Int) (h0 : 0 ≤ i) (h1 : i < (l.length : Int)) : (rd_T40 l i).f0.size ≤ 12 := by
  obtain ⟨j, rfl⟩ := Int.eq_ofNat_of_zero_le h0
  rw [rd_T40_at l j (by omega)]
  exact (h _ (List.getElem_mem _)).1.2.1
theorem stail_l (l : List S40) (hl : l.length ≤ 30) (hs : ∀ x ∈ l, StarOk x) (m : List S65) (hm : m.length ≤ 40) (hL : ∀ x ∈ m, LineOk l.length x) (d : Nat) : ∀ (out : ByteArray) (i : Nat), 0 < i → i ≤ m.length → m.length - i = d → out.size ≤ 27 * i →
    Ev (fun k => spec_FigureText.l0 k l m out i) (tailT out ((m.drop i).map (partT l))) := by
  induction d with
  | zero =>
    intro out i hi0 hi hd ho
    rw [List.drop_eq_nil_of_le (by omega)]
    apply ev_succ
    simp only [spec_FigureText.l0, if_neg (show ¬ (i : Int) < (m.length : Int) by omega)]
    exact ev_const rfl
  | succ d ih =>
    intro out i hi0 hi hd ho
    have hlt : i < m.length := by omega
    have hx : (0 : Int) ≤ m[i].f0 ∧ m[i].f0 < m[i].f1 ∧ m[i].f1 < (l.length : Int) := hL _ (List.getElem_mem hlt)
    have n0 := name_size l hs m[i].f0 hx.1 (by omega)
    have n1 := name_size l hs m[i].f1 (by omega) hx.2.2
    have z1 : (⟨#[45]⟩ : ByteArray).size = 1 := rfl
    have z2 : (⟨#[44, 32]⟩ : ByteArray).size = 2 := rfl
    have h2 := ih ((out ++ (⟨#[44, 32]⟩ : ByteArray)) ++ partT l m[i]) (i + 1) (by omega) (by omega) (by omega) (by unfold partT; rw [ByteArray.size_append, ByteArray.size_append, ByteArray.size_append, ByteArray.size_append]; omega)
    rw [List.drop_eq_getElem_cons hlt, List.map_cons, tailT]
    apply ev_succ
    simp only [spec_FigureText.l0, if_pos (show (i : Int) < (m.length : Int) by omega), if_pos (show (i : Int) > 0 by omega), if_pos (show (0 : Int) ≤ (i : Int) by omega), rd_T65_at _ _ hlt, if_pos hx.1, if_pos (show m[i].f0 < (l.length : Int) by omega), if_pos (show 0 ≤ m[i].f1 by omega), if_pos hx.2.2, if_pos (show out.size + 2 ≤ 9223372036854775807 by omega), if_pos (show (rd_T40 l m[i].f0).f0.size + 1 ≤ 9223372036854775807 by omega), if_pos (show ((rd_T40 l m[i].f0).f0 ++ (⟨#[45]⟩ : ByteArray)).size + (rd_T40 l m[i].f1).f0.size ≤ 9223372036854775807 by rw [ByteArray.size_append]; omega), if_pos (show (out ++ (⟨#[44, 32]⟩ : ByteArray)).size + (((rd_T40 l m[i].f0).f0 ++ (⟨#[45]⟩ : ByteArray)) ++ (rd_T40 l m[i].f1).f0).size ≤ 9223372036854775807 by rw [ByteArray.size_append, ByteArray.size_append, ByteArray.size_append]; omega), w64 (x := (i : Int) + 1) (by omega) (by omega)]
    exact h2
theorem iparts_l (l : List S40) (hl : l.length ≤ 30) (hs : ∀ x ∈ l, StarOk x) (m : List S65) (hm : m.length ≤ 40) (hL : ∀ x ∈ m, LineOk l.length x) (r : ByteArray) (hr : strings_Join.f (m.map (partT l)) (⟨#[44, 32]⟩ : ByteArray) = some r) (d : Nat) : ∀ (i : Nat), i ≤ m.length → m.length - i = d →
    Ev (fun k => impl_FigureText.l0 k l ((m.take i).map (partT l)) m m.length i) r := by
  induction d with
  | zero =>
    intro i hi hd
    rw [List.take_of_length_le (by omega)]
    apply ev_succ
    simp only [impl_FigureText.l0, if_neg (show ¬ (i : Int) < (m.length : Int) by omega), hr, Option.bind_some]
    exact ev_const rfl
  | succ d ih =>
    intro i hi hd
    have hlt : i < m.length := by omega
    have hx : (0 : Int) ≤ m[i].f0 ∧ m[i].f0 < m[i].f1 ∧ m[i].f1 < (l.length : Int) := hL _ (List.getElem_mem hlt)
    have n0 := name_size l hs m[i].f0 hx.1 (by omega)
    have n1 := name_size l hs m[i].f1 (by omega) hx.2.2
    have z1 : (⟨#[45]⟩ : ByteArray).size = 1 := rfl
    have h2 := ih (i + 1) (by omega) (by omega)
    rw [List.take_succ_eq_append_getElem hlt, List.map_append] at h2
    apply ev_succ
    simp only [impl_FigureText.l0, if_pos (show (i : Int) < (m.length : Int) by omega), if_pos (show (0 : Int) ≤ (i : Int) by omega), rd_T65_at _ _ hlt, if_pos hx.1, if_pos (show m[i].f0 < (l.length : Int) by omega), if_pos (show 0 ≤ m[i].f1 by omega), if_pos hx.2.2, if_pos (show (rd_T40 l m[i].f0).f0.size + 1 ≤ 9223372036854775807 by omega), if_pos (show ((rd_T40 l m[i].f0).f0 ++ (⟨#[45]⟩ : ByteArray)).size + (rd_T40 l m[i].f1).f0.size ≤ 9223372036854775807 by rw [ByteArray.size_append]; omega), if_pos (show ((m.take i).map (partT l)).length < 8796093022208 by rw [List.length_map, List.length_take]; omega), w64 (x := (i : Int) + 1) (by omega) (by omega)]
    exact h2
theorem tail_len (l : List S40) (hs : ∀ x ∈ l, StarOk x) (m : List S65) (hL : ∀ x ∈ m, LineOk l.length x) : (Go.Lib.joinTail [44, 32] ((m.map (partT l)).map (·.data.toList))).length ≤ 27 * m.length := by
  induction m with
  | nil => simp [Go.Lib.joinTail]
  | cons x m ih =>
    rw [List.forall_mem_cons] at hL
    have h1 := ih hL.2
    have hx : (0 : Int) ≤ x.f0 ∧ x.f0 < x.f1 ∧ x.f1 < (l.length : Int) := hL.1
    have n0 := name_size l hs x.f0 hx.1 (by omega)
    have n1 := name_size l hs x.f1 (by omega) hx.2.2
    have z1 : (⟨#[45]⟩ : ByteArray).size = 1 := rfl
    have hp : (partT l x).data.toList.length ≤ 25 := by
      have : (partT l x).data.toList.length = (partT l x).size := rfl
      rw [this]
      unfold partT
      rw [ByteArray.size_append, ByteArray.size_append]
      omega
    unfold Go.Lib.joinTail at h1 ⊢
    simp only [List.map_cons, List.flatten_cons, List.length_append, List.length_cons, List.length_nil] at h1 ⊢
    omega
theorem ftext_same (l : List S40) (hl : l.length ≤ 1048576) (m : List S65) (hm : m.length ≤ 1048576) : ∃ r, Ev (fun k => spec_FigureText.f k l m) r ∧ Ev (fun k => impl_FigureText.f k l m) r := by
  obtain ⟨v, h1, h2, h3⟩ := figure_same l hl m hm
  cases v with
  | false =>
    refine ⟨(⟨#[]⟩ : ByteArray), ?_, ?_⟩
    · unfold spec_FigureText.f
      refine Ev.bind h1 ?_
      simp only [Bool.false_eq_true, if_false]
      exact ev_const rfl
    · unfold impl_FigureText.f
      refine Ev.bind h2 ?_
      simp only [Bool.false_eq_true, if_false]
      exact ev_const rfl
  | true =>
    obtain ⟨g1, g2, g3⟩ := h3 rfl
    obtain ⟨h30, hs⟩ := catB_ok g3
    cases m with
    | nil =>
      refine ⟨(⟨#[]⟩ : ByteArray), ?_, ?_⟩
      · unfold spec_FigureText.f
        refine Ev.bind h1 ?_
        simp only [if_true]
        refine ev_succ ?_
        simp only [spec_FigureText.l0, List.length_nil, if_neg (show ¬ (0 : Int) < ((0 : Nat) : Int) by omega)]
        exact ev_const rfl
      · unfold impl_FigureText.f
        refine Ev.bind h2 ?_
        simp only [if_true]
        refine ev_succ ?_
        simp only [impl_FigureText.l0, List.length_nil, if_neg (show ¬ (0 : Int) < ((0 : Nat) : Int) by omega)]
        exact ev_const rfl
    | cons x m =>
      have hx : (0 : Int) ≤ x.f0 ∧ x.f0 < x.f1 ∧ x.f1 < (l.length : Int) := g1 x List.mem_cons_self
      have n0 := name_size l hs x.f0 hx.1 (by omega)
      have n1 := name_size l hs x.f1 (by omega) hx.2.2
      have z1 : (⟨#[45]⟩ : ByteArray).size = 1 := rfl
      have z0 : (⟨#[]⟩ : ByteArray).size = 0 := rfl
      have hps : (partT l x).size ≤ 25 := by unfold partT; rw [ByteArray.size_append, ByteArray.size_append]; omega
      have e1 := stail_l l (by omega) hs (x :: m) (by omega) g1 m.length ((⟨#[]⟩ : ByteArray) ++ partT l x) 1 (by omega) (by simp) (by simp) (by rw [ByteArray.size_append]; omega)
      have hdrop : (x :: m).drop 1 = m := rfl
      rw [hdrop] at e1
      have htl := tail_len l hs m (fun y hy => g1 y (List.mem_cons_of_mem _ hy))
      have hml : (x :: m).length = m.length + 1 := rfl
      have hj : Go.Lib.join (((x :: m).map (partT l)).map (·.data.toList)) [44, 32] = (partT l x).data.toList ++ Go.Lib.joinTail [44, 32] ((m.map (partT l)).map (·.data.toList)) := by rw [List.map_cons, List.map_cons, join_cons]
      have hpl : (partT l x).data.toList.length = (partT l x).size := rfl
      have hsep : (⟨#[44, 32]⟩ : ByteArray).data.toList = [44, 32] := rfl
      have hv : strings_Join.f ((x :: m).map (partT l)) (⟨#[44, 32]⟩ : ByteArray) = some (tailT ((⟨#[]⟩ : ByteArray) ++ partT l x) (m.map (partT l))) := by
        unfold strings_Join.f
        rw [hsep, hj, if_pos ⟨by rw [List.length_map]; omega, by rw [List.length_append]; omega⟩]
        refine congrArg some ?_
        have ht := tailT_list (m.map (partT l)) ((⟨#[]⟩ : ByteArray) ++ partT l x)
        rw [ba_app] at ht
        have ht2 : (tailT ((⟨#[]⟩ : ByteArray) ++ partT l x) (m.map (partT l))).data.toList = (partT l x).data.toList ++ Go.Lib.joinTail [44, 32] ((m.map (partT l)).map (·.data.toList)) := ht
        rw [← ht2]
      have e2 := iparts_l l (by omega) hs (x :: m) (by omega) g1 _ hv (x :: m).length 0 (by omega) (by omega)
      refine ⟨tailT ((⟨#[]⟩ : ByteArray) ++ partT l x) (m.map (partT l)), ?_, ?_⟩
      · unfold spec_FigureText.f
        refine Ev.bind h1 ?_
        simp only [if_true]
        refine ev_succ ?_
        have hr0 : rd_T65 (x :: m) 0 = x := rd_T65_at (x :: m) 0 (by simp)
        simp only [spec_FigureText.l0, if_pos (show (0 : Int) < ((x :: m).length : Int) by rw [hml]; omega), if_neg (show ¬ (0 : Int) > 0 by omega), if_pos (show (0 : Int) ≤ 0 by omega), hr0, if_pos hx.1, if_pos (show x.f0 < (l.length : Int) by omega), if_pos (show 0 ≤ x.f1 by omega), if_pos hx.2.2, if_pos (show (rd_T40 l x.f0).f0.size + 1 ≤ 9223372036854775807 by omega), if_pos (show ((rd_T40 l x.f0).f0 ++ (⟨#[45]⟩ : ByteArray)).size + (rd_T40 l x.f1).f0.size ≤ 9223372036854775807 by rw [ByteArray.size_append]; omega), if_pos (show (⟨#[]⟩ : ByteArray).size + (((rd_T40 l x.f0).f0 ++ (⟨#[45]⟩ : ByteArray)) ++ (rd_T40 l x.f1).f0).size ≤ 9223372036854775807 by rw [ByteArray.size_append, ByteArray.size_append]; omega), w64 (x := (0 : Int) + 1) (by omega) (by omega)]
        exact e1
      · unfold impl_FigureText.f
        refine Ev.bind h2 ?_
        simp only [if_true]
        exact e2

/-- Bytes. -/
def Bytes (l : List Int) : Prop := ∀ x ∈ l, 0 ≤ x ∧ x ≤ 255
theorem bytes_of {l : List Int} (h : ∀ x ∈ l, (Lit.int .u8 x).wf = true) : Bytes l := by
  intro x hx
  have := h x hx
  simpa [Lit.wf, IntKind.min, IntKind.max, IntKind.signed, IntKind.bits] using this
theorem rd_nat (l : List Int) (i : Nat) (h : i < l.length) : rd l (i : Int) = l[i] := by
  unfold rd
  rw [Int.toNat_natCast, List.getD_eq_getElem?_getD, List.getElem?_eq_getElem h]
  rfl
theorem rd_bytes {l : List Int} (h : Bytes l) {i : Int} (h0 : 0 ≤ i) (hi : i < (l.length : Int)) : 0 ≤ rd l i ∧ rd l i ≤ 255 := by
  obtain ⟨j, rfl⟩ := Int.eq_ofNat_of_zero_le h0
  rw [rd_nat l j (by omega)]
  exact h _ (List.getElem_mem _)
theorem wrap_u64 (n : Int) : IntKind.u64.wrap n = n % 18446744073709551616 := by simp [IntKind.wrap, IntKind.bits, IntKind.signed]
theorem low_byte {x : Int} (h0 : 0 ≤ x) (h1 : x < 18446744073709551616) : Go.bits .and .u64 x 255 = x % 256 :=
  bits_mask .u64 64 (by decide) (fun n h0 h1 => by rw [wrap_u64]; omega) 8 (by decide) x h0 (by simpa using h1)

theorem next_val {l : List Int} (hB : Bytes l) (hl : l.length ≤ 140737488351232) {a s : Int} (h0 : 0 ≤ a) (h1 : a ≤ 1000000000) : ∃ b s', spec_l00Src_next.f l a s = some (b, a + 1, s') ∧ 0 ≤ b ∧ b ≤ 255 := by
  unfold spec_l00Src_next.f
  rw [w64 (x := a + 1) (by omega) (by omega)]
  have hlow : ∀ z : Int, 0 ≤ wrap64 (Go.bits .and .u64 (IntKind.u64.wrap z / 1099511627776) 255) ∧ wrap64 (Go.bits .and .u64 (IntKind.u64.wrap z / 1099511627776) 255) ≤ 255 := by
    intro z
    rw [wrap_u64, low_byte (by omega) (by omega), w64 (by omega) (by omega)]
    omega
  by_cases h : a < (l.length : Int)
  · have hr := rd_bytes hB h0 h
    rw [if_pos h, if_pos h0, if_pos (by omega), w64 (x := rd l a) (by omega) (by omega)]
    exact ⟨_, _, rfl, hr.1, hr.2⟩
  · rw [if_neg h, if_neg (by omega)]
    exact ⟨_, _, rfl, (hlow _).1, (hlow _).2⟩
theorem pick_val {l : List Int} (hB : Bytes l) (hl : l.length ≤ 140737488351232) {a s : Int} (h0 : 0 ≤ a) (h1 : a ≤ 100000000) (n : Int) : ∃ v a' s', spec_l00Src_pick.f l a s n = some (v, a', s') ∧ a ≤ a' ∧ a' ≤ a + 2 ∧ 0 ≤ v ∧ (1 < n → v < n) ∧ (n ≤ 1 → v = 0) := by
  unfold spec_l00Src_pick.f
  by_cases h : n ≤ 1
  · rw [if_pos h]
    exact ⟨0, a, s, rfl, by omega, by omega, by omega, fun h => by omega, fun _ => rfl⟩
  · rw [if_neg h]
    obtain ⟨b, s1, e1, b0, b1⟩ := next_val hB hl (s := s) h0 (by omega)
    rw [e1]
    simp only [Option.bind_some]
    by_cases hn : n > 200
    · obtain ⟨c, s2, e2, c0, c1⟩ := next_val hB hl (a := a + 1) (s := s1) (by omega) (by omega)
      rw [if_pos hn, e2]
      simp only [Option.bind_some]
      rw [if_neg (by omega), w64 (x := b * 256) (by omega) (by omega), w64 (x := b * 256 + c) (by omega) (by omega), tmod_nn (by omega)]
      exact ⟨_, _, _, rfl, by omega, by omega, Int.emod_nonneg _ (by omega), fun _ => Int.emod_lt_of_pos _ (by omega), fun h2 => absurd h2 h⟩
    · rw [if_neg hn, if_neg (by omega), tmod_nn (by omega)]
      exact ⟨_, _, _, rfl, by omega, by omega, Int.emod_nonneg _ (by omega), fun _ => Int.emod_lt_of_pos _ (by omega), fun h2 => absurd h2 h⟩

theorem one_val {l : List Int} (hB : Bytes l) (hl : l.length ≤ 140737488351232) {a s : Int} (h0 : 0 ≤ a) (h1 : a ≤ 100000000) (n : Int) : ∃ v a' s', spec_l00Src_one.f l a s n = some (v, a', s') ∧ a ≤ a' ∧ a' ≤ a + 2 := by
  obtain ⟨v, a', s', e, h2, h3, _⟩ := pick_val hB hl (s := s) h0 h1 n
  unfold spec_l00Src_one.f
  rw [e]
  exact ⟨_, _, _, rfl, h2, h3⟩

theorem among_val {l : List Int} (hB : Bytes l) (hl : l.length ≤ 140737488351232) {a s : Int} (h0 : 0 ≤ a) (h1 : a ≤ 100000000) (m : List Int) (hm : 0 < m.length) : ∃ v a' s', spec_l00Src_among.f l a s m = some (v, a', s') ∧ a ≤ a' ∧ a' ≤ a + 2 ∧ v ∈ m := by
  obtain ⟨v, a', s', e, h2, h3, h4, h5, h6⟩ := pick_val hB hl (s := s) h0 h1 (m.length : Int)
  have hv : v < (m.length : Int) := by
    by_cases h : 1 < (m.length : Int)
    · exact h5 h
    · have := h6 (by omega); omega
  unfold spec_l00Src_among.f
  rw [e]
  simp only [Option.bind_some]
  rw [if_pos h4, if_pos hv]
  obtain ⟨j, rfl⟩ := Int.eq_ofNat_of_zero_le h4
  rw [rd_nat m j (by omega)]
  exact ⟨_, _, _, rfl, h2, h3, List.getElem_mem _⟩

theorem drawspot_j {l : List Int} (hB : Bytes l) (hl : l.length ≤ 140737488351232) {a s x y : Int} (h0 : 0 ≤ a) (h1 : a ≤ 10000000) (hs : SpotP x y) : ∃ p q a' s', Ev (fun k => spec_l02Draw.j0 k x y l a s) (p, q, a', s') ∧ SpotP p q ∧ a ≤ a' ∧ a' ≤ a + 4 := by
  obtain ⟨v, a1, s1, e1, h2, h3, _⟩ := pick_val hB hl (s := s) h0 (by omega) 12
  by_cases hv : v = 0
  · obtain ⟨u, a2, s2, e2, h4, h5, h6⟩ := among_val hB hl (a := a1) (s := s1) (by omega) (by omega) [(-324000), 0, 324000] (by simp)
    refine ⟨u, y, a2, s2, ev_succ ?_, ⟨?_, hs.2⟩, by omega, by omega⟩
    · simp only [spec_l02Draw.j0, e1, Option.bind_some, if_pos hv, e2]
      exact ev_const rfl
    · simp only [List.mem_cons, List.not_mem_nil, or_false] at h6
      omega
  · by_cases hv1 : v = 1
    · obtain ⟨u, a2, s2, e2, h4, h5, h6⟩ := among_val hB hl (a := a1) (s := s1) (by omega) (by omega) [(-648000), (-324000), 0, 324000, 647999] (by simp)
      refine ⟨x, u, a2, s2, ev_succ ?_, ⟨hs.1, ?_⟩, by omega, by omega⟩
      · simp only [spec_l02Draw.j0, e1, Option.bind_some, if_neg hv, if_pos hv1, e2]
        exact ev_const rfl
      · simp only [List.mem_cons, List.not_mem_nil, or_false] at h6
        omega
    · refine ⟨x, y, a1, s1, ev_succ ?_, hs, by omega, by omega⟩
      simp only [spec_l02Draw.j0, e1, Option.bind_some, if_neg hv, if_neg hv1]
      exact ev_const rfl
theorem drawspot_ev {l : List Int} (hB : Bytes l) (hl : l.length ≤ 140737488351232) {a s : Int} (h0 : 0 ≤ a) (h1 : a ≤ 1000000) : ∃ p q a' s', Ev (fun k => spec_l02Draw.f k l a s) (p, q, a', s') ∧ SpotP p q ∧ a ≤ a' ∧ a' ≤ a + 20 := by
  obtain ⟨v1, a1, s1, e1, g1, g2, g3, g4, _⟩ := pick_val hB hl (s := s) h0 (by omega) 181
  obtain ⟨v2, a2, s2, e2, i1, i2, i3, i4, _⟩ := pick_val hB hl (a := a1) (s := s1) (by omega) (by omega) 180
  obtain ⟨v3, a3, s3, e3, j1, j2⟩ := one_val hB hl (a := a2) (s := s2) (by omega) (by omega) 3
  have g4 := g4 (by omega)
  have i4 := i4 (by omega)
  by_cases h3 : v3 = true
  · obtain ⟨v4, a4, s4, e4, k1, k2, k3, k4, _⟩ := pick_val hB hl (a := a3) (s := s3) (by omega) (by omega) 120
    obtain ⟨v5, a5, s5, e5, m1, m2, m3, m4, _⟩ := pick_val hB hl (a := a4) (s := s4) (by omega) (by omega) 200
    have k4 := k4 (by omega)
    have m4 := m4 (by omega)
    obtain ⟨p, q, a', s', e, hs, n1, n2⟩ := drawspot_j hB hl (a := a5) (s := s5) (x := 1800 * (v1 - 90) + (v4 - 60)) (y := 3600 * (v2 - 90) + 60 * v5) (by omega) (by omega) ⟨by omega, by omega⟩
    refine ⟨p, q, a', s', ?_, hs, by omega, by omega⟩
    simp only [spec_l02Draw.f, e1, e2, e3, Option.bind_some, if_pos h3, e4, e5, w64 (x := v1 - 90) (by omega) (by omega), w64 (x := 1800 * (v1 - 90)) (by omega) (by omega), w64 (x := v2 - 90) (by omega) (by omega), w64 (x := 3600 * (v2 - 90)) (by omega) (by omega), w64 (x := v4 - 60) (by omega) (by omega), w64 (x := 1800 * (v1 - 90) + (v4 - 60)) (by omega) (by omega), w64 (x := 60 * v5) (by omega) (by omega), w64 (x := 3600 * (v2 - 90) + 60 * v5) (by omega) (by omega)]
    exact e
  · obtain ⟨p, q, a', s', e, hs, n1, n2⟩ := drawspot_j hB hl (a := a3) (s := s3) (x := 1800 * (v1 - 90)) (y := 3600 * (v2 - 90)) (by omega) (by omega) ⟨by omega, by omega⟩
    refine ⟨p, q, a', s', ?_, hs, by omega, by omega⟩
    simp only [spec_l02Draw.f, e1, e2, e3, Option.bind_some, if_neg h3, w64 (x := v1 - 90) (by omega) (by omega), w64 (x := 1800 * (v1 - 90)) (by omega) (by omega), w64 (x := v2 - 90) (by omega) (by omega), w64 (x := 3600 * (v2 - 90)) (by omega) (by omega)]
    exact e

theorem text_val {l : List Int} (hB : Bytes l) (hl : l.length ≤ 140737488351232) {a s : Int} (h0 : 0 ≤ a) (h1 : a ≤ 100000000) (m : List ByteArray) (hm : 0 < m.length) : ∃ v a' s', spec_l00Src_text.f l a s m = some (v, a', s') ∧ a ≤ a' ∧ a' ≤ a + 2 ∧ v ∈ m := by
  obtain ⟨v, a', s', e, h2, h3, h4, h5, h6⟩ := pick_val hB hl (s := s) h0 h1 (m.length : Int)
  have hv : v < (m.length : Int) := by
    by_cases h : 1 < (m.length : Int)
    · exact h5 h
    · have := h6 (by omega); omega
  unfold spec_l00Src_text.f
  rw [e]
  simp only [Option.bind_some]
  rw [if_pos h4, if_pos hv]
  obtain ⟨j, rfl⟩ := Int.eq_ofNat_of_zero_le h4
  rw [rdOf_at _ m j (by omega)]
  exact ⟨_, _, _, rfl, h2, h3, List.getElem_mem _⟩
theorem bentspot_ev {l : List Int} (hB : Bytes l) (hl : l.length ≤ 140737488351232) {a s : Int} (h0 : 0 ≤ a) (h1 : a ≤ 900000) : ∃ p q a' s', Ev (fun k => spec_l02Bent.f k l a s) (p, q, a', s') ∧ a ≤ a' ∧ a' ≤ a + 30 := by
  obtain ⟨p, q, a1, s1, e1, _, h2, h3⟩ := drawspot_ev hB hl (s := s) h0 (by omega)
  obtain ⟨v, a2, s2, e2, h4, h5, _⟩ := pick_val hB hl (a := a1) (s := s1) (by omega) (by omega) 16
  by_cases c0 : v = 0
  · obtain ⟨u, a3, s3, e3, h6, h7, _⟩ := among_val hB hl (a := a2) (s := s2) (by omega) (by omega) [(-324001), (-324000), 324000, 324001, (-9223372036854775808)] (by simp)
    refine ⟨u, q, a3, s3, ?_, by omega, by omega⟩
    unfold spec_l02Bent.f
    refine Ev.bind e1 ?_
    simp only [e2, Option.bind_some, if_pos c0, e3]
    exact ev_const rfl
  · by_cases c1 : v = 1
    · obtain ⟨u, a3, s3, e3, h6, h7, _⟩ := among_val hB hl (a := a2) (s := s2) (by omega) (by omega) [(-648001), (-648000), 647999, 648000] (by simp)
      refine ⟨p, u, a3, s3, ?_, by omega, by omega⟩
      unfold spec_l02Bent.f
      refine Ev.bind e1 ?_
      simp only [e2, Option.bind_some, if_neg c0, if_pos c1, e3]
      exact ev_const rfl
    · refine ⟨p, q, a2, s2, ?_, by omega, by omega⟩
      unfold spec_l02Bent.f
      refine Ev.bind e1 ?_
      simp only [e2, Option.bind_some, if_neg c0, if_neg c1]
      exact ev_const rfl
/-- A drawn star's name is short. -/
def NameS (x : S40) : Prop := x.f0.size ≤ 100
theorem stars_l {l : List Int} (hB : Bytes l) (hl : l.length ≤ 140737488351232) (ns : List ByteArray) (hn : ns.length = 8) (hs : ∀ x ∈ ns, x.size ≤ 100) (c : Nat) : ∀ (out : List S40) (a s : Int), out.length + c ≤ 8 → (∀ x ∈ out, NameS x) → 0 ≤ a → a + 22 * (c : Int) ≤ 100000 →
    ∃ res a' s', Ev (fun k => spec_l16Draw.l0 k ns out (c : Int) l a s) (res, a', s') ∧ res.length ≤ 8 ∧ (∀ x ∈ res, NameS x) ∧ a ≤ a' ∧ a' ≤ a + 22 * (c : Int) := by
  induction c with
  | zero =>
    intro out a s hc ho h0 h1
    refine ⟨out, a, s, ev_succ ?_, by omega, ho, Int.le_refl _, by omega⟩
    simp only [spec_l16Draw.l0, if_neg (show ¬ ((0 : Nat) : Int) > 0 by omega)]
    exact ev_const rfl
  | succ c ih =>
    intro out a s hc ho h0 h1
    have hlt : out.length < ns.length := by omega
    obtain ⟨v, a1, s1, e1, g1, g2, g3, g4, _⟩ := pick_val hB hl (s := s) h0 (by omega) 6
    have g4 := g4 (by omega)
    obtain ⟨p, q, a2, s2, e2, _, g5, g6⟩ := drawspot_ev hB hl (a := a1) (s := s1) (by omega) (by omega)
    obtain ⟨res, a3, s3, e3, r1, r2, r3, r4⟩ := ih (out ++ [⟨ns[out.length], 1 + v, ⟨p, q⟩⟩]) a2 s2 (by simp; omega) (by
      intro x hx
      rcases List.mem_append.1 hx with h | h
      · exact ho x h
      · rw [List.mem_singleton.1 h]; exact hs _ (List.getElem_mem hlt)) (by omega) (by omega)
    refine ⟨res, a3, s3, ev_succ ?_, r1, r2, by omega, by omega⟩
    simp only [spec_l16Draw.l0, if_pos (show ((c + 1 : Nat) : Int) > 0 by omega), if_pos (show (0 : Int) ≤ (out.length : Int) by omega), if_pos (show (out.length : Int) < (ns.length : Int) by omega), e1, Option.bind_some]
    refine Ev.bind e2 ?_
    simp only [if_pos (show out.length < 3518437208883 by omega), rdOf_at _ _ _ hlt, w64 (x := 1 + v) (by omega) (by omega), show ((c + 1 : Nat) : Int) - 1 = (c : Int) by omega, w64 (x := (c : Int)) (by omega) (by omega)]
    exact e3
theorem draw_ev {l : List Int} (hB : Bytes l) (hl : l.length ≤ 140737488351232) {a s : Int} (h0 : 0 ≤ a) (h1 : a ≤ 1000) : ∃ res a' s', Ev (fun k => spec_l16Draw.f k l a s) (res, a', s') ∧ res.length ≤ 8 ∧ (∀ x ∈ res, NameS x) ∧ a ≤ a' ∧ a' ≤ a + 200 := by
  obtain ⟨v, a1, s1, e1, g1, g2, g3, g4, _⟩ := pick_val hB hl (s := s) h0 (by omega) 9
  have g4 := g4 (by omega)
  obtain ⟨c, rfl⟩ := Int.eq_ofNat_of_zero_le g3
  obtain ⟨res, a3, s3, e3, r1, r2, r3, r4⟩ := stars_l hB hl (([(⟨#[97, 108, 99, 111, 114]⟩ : ByteArray), (⟨#[100, 101, 110, 101, 98]⟩ : ByteArray), (⟨#[109, 105, 114, 97]⟩ : ByteArray), (⟨#[109, 105, 122, 97, 114]⟩ : ByteArray), (⟨#[114, 105, 103, 101, 108]⟩ : ByteArray), (⟨#[115, 105, 114, 105, 117, 115]⟩ : ByteArray), (⟨#[115, 112, 105, 99, 97]⟩ : ByteArray), (⟨#[118, 101, 103, 97, 45, 50]⟩ : ByteArray)] : List ByteArray)) rfl (by
    intro x hx
    simp only [List.mem_cons, List.not_mem_nil, or_false] at hx
    rcases hx with rfl | rfl | rfl | rfl | rfl | rfl | rfl | rfl <;> decide) c ([] : List S40) a1 s1 (by simp; omega) (by simp) (by omega) (by omega)
  refine ⟨res, a3, s3, ?_, r1, r2, by omega, by omega⟩
  unfold spec_l16Draw.f
  simp only [e1, Option.bind_some]
  exact e3
theorem set_names {x : List S40} (hq : ∀ y ∈ x, NameS y) (i : Nat) (v : S40) (hv : NameS v) : ∀ y ∈ x.set i v, NameS y := by
  intro y hy
  rcases List.mem_or_eq_of_mem_set hy with h | h
  · exact hq y h
  · rw [h]; exact hv
theorem bent_j {l : List Int} (hB : Bytes l) (hl : l.length ≤ 140737488351232) (x : List S40) (hx : x.length ≤ 31) (hq : ∀ y ∈ x, NameS y) {a s : Int} (h0 : 0 ≤ a) (h1 : a ≤ 200000) :
    ∃ res a' s', Ev (fun k => spec_l16Bent.j1 k x l a s) (res, a', s') ∧ res.length ≤ 31 ∧ (∀ y ∈ res, NameS y) ∧ a ≤ a' ∧ a' ≤ a + 60 := by
  by_cases hz : x.length = 0
  · refine ⟨x, a, s, ev_succ ?_, hx, hq, by omega, by omega⟩
    simp only [spec_l16Bent.j1, if_pos (show (x.length : Int) = 0 by omega)]
    exact ev_const rfl
  · obtain ⟨v, a1, s1, e1, g1, g2, g3, g4, g5⟩ := pick_val hB hl (s := s) h0 (by omega) (x.length : Int)
    have hv : v < (x.length : Int) := by
      by_cases h : 1 < (x.length : Int)
      · exact g4 h
      · have := g5 (by omega); omega
    obtain ⟨i, rfl⟩ := Int.eq_ofNat_of_zero_le g3
    have hi : i < x.length := by omega
    have hqi : NameS x[i] := hq _ (List.getElem_mem hi)
    obtain ⟨u, a2, s2, e2, g6, g7, _⟩ := pick_val hB hl (a := a1) (s := s1) (by omega) (by omega) 24
    by_cases c0 : u = 0
    · obtain ⟨n, a3, s3, e3, g8, g9, g10⟩ := text_val hB hl (a := a2) (s := s2) (by omega) (by omega) ([(⟨#[]⟩ : ByteArray), (⟨#[86, 101, 103, 97]⟩ : ByteArray), (⟨#[97, 108, 99, 111, 114]⟩ : ByteArray)] : List ByteArray) (by simp)
      have hn : n.size ≤ 100 := by
        simp only [List.mem_cons, List.not_mem_nil, or_false] at g10
        rcases g10 with rfl | rfl | rfl <;> decide
      refine ⟨x.set i ⟨n, x[i].f1, ⟨x[i].f2.f0, x[i].f2.f1⟩⟩, a3, s3, ev_succ ?_, by simpa using hx, set_names hq _ _ hn, by omega, by omega⟩
      simp only [spec_l16Bent.j1, if_neg (show ¬ (x.length : Int) = 0 by omega), e1, Option.bind_some, if_pos g3, if_pos hv, e2, if_pos c0, e3, rd_T40_at _ _ hi, Int.toNat_natCast]
      exact ev_const rfl
    · by_cases c1 : u = 1
      · obtain ⟨n, a3, s3, e3, g8, g9, _⟩ := among_val hB hl (a := a2) (s := s2) (by omega) (by omega) [(-1), 0, 1, 6, 7, (-9223372036854775808)] (by simp)
        refine ⟨x.set i ⟨x[i].f0, n, ⟨x[i].f2.f0, x[i].f2.f1⟩⟩, a3, s3, ev_succ ?_, by simpa using hx, set_names hq _ _ hqi, by omega, by omega⟩
        simp only [spec_l16Bent.j1, if_neg (show ¬ (x.length : Int) = 0 by omega), e1, Option.bind_some, if_pos g3, if_pos hv, e2, if_neg c0, if_pos c1, e3, rd_T40_at _ _ hi, Int.toNat_natCast]
        exact ev_const rfl
      · by_cases c2 : u = 2
        · obtain ⟨p, q, a3, s3, e3, g8, g9⟩ := bentspot_ev hB hl (a := a2) (s := s2) (by omega) (by omega)
          refine ⟨x.set i ⟨x[i].f0, x[i].f1, ⟨p, q⟩⟩, a3, s3, ev_succ ?_, by simpa using hx, set_names hq _ _ hqi, by omega, by omega⟩
          simp only [spec_l16Bent.j1, if_neg (show ¬ (x.length : Int) = 0 by omega), e1, Option.bind_some, if_pos g3, if_pos hv, e2, if_neg c0, if_neg c1, if_pos c2]
          refine Ev.bind e3 ?_
          simp only [rd_T40_at _ _ hi, Int.toNat_natCast]
          exact ev_const rfl
        · refine ⟨x, a2, s2, ev_succ ?_, hx, hq, by omega, by omega⟩
          simp only [spec_l16Bent.j1, if_neg (show ¬ (x.length : Int) = 0 by omega), e1, Option.bind_some, if_pos g3, if_pos hv, e2, if_neg c0, if_neg c1, if_neg c2]
          exact ev_const rfl
theorem bent_l {l : List Int} (hB : Bytes l) (hl : l.length ≤ 140737488351232) {a s : Int} (h0 : 0 ≤ a) (h1 : a ≤ 200000) (c : Nat) : ∀ (x : List S40), x.length + c ≤ 31 → (∀ y ∈ x, NameS y) →
    ∃ res a' s', Ev (fun k => spec_l16Bent.l0 k x (c : Int) l a s) (res, a', s') ∧ res.length ≤ 31 ∧ (∀ y ∈ res, NameS y) ∧ a ≤ a' ∧ a' ≤ a + 60 := by
  induction c with
  | zero =>
    intro x hc hq
    obtain ⟨res, a1, s1, e, r⟩ := bent_j hB hl x (by omega) hq (s := s) h0 h1
    refine ⟨res, a1, s1, ev_succ ?_, r⟩
    simp only [spec_l16Bent.l0, if_neg (show ¬ ((0 : Nat) : Int) > 0 by omega)]
    exact e
  | succ c ih =>
    intro x hc hq
    obtain ⟨res, a1, s1, e, r⟩ := ih (x ++ [(⟨strOfNums (([97 + ((((x.length : Int)) % 256) / 26), 97 + ((((x.length : Int)) % 256) % 26)] : List Int)), 3, (⟨0, 0⟩ : S38)⟩ : S40)]) (by simp; omega) (by
      intro y hy
      rcases List.mem_append.1 hy with h | h
      · exact hq y h
      · rw [List.mem_singleton.1 h]; unfold NameS; simp [strOfNums, ByteArray.size])
    refine ⟨res, a1, s1, ev_succ ?_, r⟩
    simp only [spec_l16Bent.l0, if_pos (show ((c + 1 : Nat) : Int) > 0 by omega), if_pos (show x.length < 3518437208883 by omega), show ((c + 1 : Nat) : Int) - 1 = (c : Int) by omega, w64 (x := (c : Int)) (by omega) (by omega)]
    exact e
theorem bent_ev {l : List Int} (hB : Bytes l) (hl : l.length ≤ 140737488351232) {a s : Int} (h0 : 0 ≤ a) (h1 : a ≤ 100) : ∃ res a' s', Ev (fun k => spec_l16Bent.f k l a s) (res, a', s') ∧ res.length ≤ 31 ∧ (∀ x ∈ res, NameS x) ∧ a ≤ a' ∧ a' ≤ a + 400 := by
  obtain ⟨x, a1, s1, e1, r1, r2, r3, r4⟩ := draw_ev hB hl (s := s) h0 (by omega)
  obtain ⟨t, a2, s2, e2, r5, r6⟩ := one_val hB hl (a := a1) (s := s1) (by omega) (by omega) 24
  cases t with
  | true =>
    obtain ⟨v, a3, s3, e3, g1, g2, g3, g4, _⟩ := pick_val hB hl (a := a2) (s := s2) (by omega) (by omega) 2
    have g4 := g4 (by omega)
    obtain ⟨c, rfl⟩ := Int.eq_ofNat_of_zero_le g3
    obtain ⟨res, a4, s4, e4, q1, q2, q3, q4⟩ := bent_l hB hl (a := a3) (s := s3) (by omega) (by omega) (30 + c) ([] : List S40) (by simp; omega) (by simp)
    refine ⟨res, a4, s4, ?_, q1, q2, by omega, by omega⟩
    unfold spec_l16Bent.f
    refine Ev.bind e1 ?_
    simp only [e2, Option.bind_some, if_true, e3, w64 (x := 30 + (c : Int)) (by omega) (by omega)]
    rw [show ((30 + c : Nat) : Int) = 30 + (c : Int) by omega] at e4
    exact e4
  | false =>
    obtain ⟨res, a4, s4, e4, q1, q2, q3, q4⟩ := bent_j hB hl x (by omega) r2 (a := a2) (s := s2) (by omega) (by omega)
    refine ⟨res, a4, s4, ?_, q1, q2, by omega, by omega⟩
    unfold spec_l16Bent.f
    refine Ev.bind e1 ?_
    simp only [e2, Option.bind_some, Bool.false_eq_true, if_false]
    exact e4
theorem lines_in {l : List Int} (hB : Bytes l) (hl : l.length ≤ 140737488351232) (x : List S40) (hx : x.length ≤ 31) (r : Int) (i : Nat)
    (hR : ∀ (out : List S65) (a s : Int), out.length ≤ 32 * (i + 1) → 0 ≤ a → a ≤ 1000 + 130 * ((i : Int) + 1) → ∃ res a' s', Ev (fun k => spec_l16DrawLines.l0 k x out r ((i : Int) + 1) l a s) (res, a', s') ∧ res.length ≤ 1100 ∧ 0 ≤ a' ∧ a' ≤ 10000) (hi : i < x.length) (d : Nat) :
    ∀ (j : Nat) (out : List S65) (a s : Int), j ≤ x.length → x.length - j = d → out.length ≤ 32 * i + j → 0 ≤ a → a ≤ 1000 + 130 * (i : Int) + 4 * (j : Int) →
    ∃ res a' s', Ev (fun k => spec_l16DrawLines.l1 k x out r (i : Int) (j : Int) l a s) (res, a', s') ∧ res.length ≤ 1100 ∧ 0 ≤ a' ∧ a' ≤ 10000 := by
  induction d with
  | zero =>
    intro j out a s hj hd ho h0 h1
    obtain ⟨res, a1, s1, e, q⟩ := hR out a s (by omega) h0 (by omega)
    refine ⟨res, a1, s1, ev_succ ?_, q⟩
    simp only [spec_l16DrawLines.l1, if_neg (show ¬ (j : Int) < (x.length : Int) by omega), w64 (x := (i : Int) + 1) (by omega) (by omega)]
    exact e
  | succ d ih =>
    intro j out a s hj hd ho h0 h1
    obtain ⟨t, a1, s1, e1, g1, g2⟩ := one_val hB hl (s := s) h0 (by omega) r
    cases t with
    | true =>
      by_cases c : (out.length : Int) < 40
      · obtain ⟨res, a2, s2, e2, q⟩ := ih (j + 1) (out ++ [(⟨(i : Int), (j : Int)⟩ : S65)]) a1 s1 (by omega) (by omega) (by simp; omega) (by omega) (by omega)
        refine ⟨res, a2, s2, ev_succ ?_, q⟩
        simp only [spec_l16DrawLines.l1, if_pos (show (j : Int) < (x.length : Int) by omega), e1, Option.bind_some, if_true, if_pos c, if_pos (show out.length < 8796093022208 by omega), w64 (x := (j : Int) + 1) (by omega) (by omega)]
        exact e2
      · obtain ⟨t2, a2, s2, e2, g3, g4⟩ := one_val hB hl (a := a1) (s := s1) (by omega) (by omega) 20
        cases t2 with
        | true =>
          obtain ⟨res, a3, s3, e3, q⟩ := ih (j + 1) (out ++ [(⟨(i : Int), (j : Int)⟩ : S65)]) a2 s2 (by omega) (by omega) (by simp; omega) (by omega) (by omega)
          refine ⟨res, a3, s3, ev_succ ?_, q⟩
          simp only [spec_l16DrawLines.l1, if_pos (show (j : Int) < (x.length : Int) by omega), e1, Option.bind_some, if_true, if_neg c, e2, if_pos (show out.length < 8796093022208 by omega), w64 (x := (j : Int) + 1) (by omega) (by omega)]
          exact e3
        | false =>
          obtain ⟨res, a3, s3, e3, q⟩ := ih (j + 1) out a2 s2 (by omega) (by omega) (by omega) (by omega) (by omega)
          refine ⟨res, a3, s3, ev_succ ?_, q⟩
          simp only [spec_l16DrawLines.l1, if_pos (show (j : Int) < (x.length : Int) by omega), e1, Option.bind_some, if_true, if_neg c, e2, Bool.false_eq_true, if_false, w64 (x := (j : Int) + 1) (by omega) (by omega)]
          exact e3
    | false =>
      obtain ⟨res, a3, s3, e3, q⟩ := ih (j + 1) out a1 s1 (by omega) (by omega) (by omega) (by omega) (by omega)
      refine ⟨res, a3, s3, ev_succ ?_, q⟩
      simp only [spec_l16DrawLines.l1, if_pos (show (j : Int) < (x.length : Int) by omega), e1, Option.bind_some, Bool.false_eq_true, if_false, w64 (x := (j : Int) + 1) (by omega) (by omega)]
      exact e3
theorem lines_out {l : List Int} (hB : Bytes l) (hl : l.length ≤ 140737488351232) (x : List S40) (hx : x.length ≤ 31) (r : Int) (d : Nat) : ∀ (i : Nat), i ≤ x.length → x.length - i = d →
    ∀ (out : List S65) (a s : Int), out.length ≤ 32 * i → 0 ≤ a → a ≤ 1000 + 130 * (i : Int) → ∃ res a' s', Ev (fun k => spec_l16DrawLines.l0 k x out r (i : Int) l a s) (res, a', s') ∧ res.length ≤ 1100 ∧ 0 ≤ a' ∧ a' ≤ 10000 := by
  induction d with
  | zero =>
    intro i hi hd out a s ho h0 h1
    obtain ⟨t, a1, s1, e1, g1, g2⟩ := one_val hB hl (s := s) h0 (by omega) 14
    cases t with
    | true =>
      obtain ⟨u, a2, s2, e2, g3, g4, _⟩ := among_val hB hl (a := a1) (s := s1) (by omega) (by omega) [(-1), 0, 1] (by simp)
      obtain ⟨v, a3, s3, e3, g5, g6, _⟩ := among_val hB hl (a := a2) (s := s2) (by omega) (by omega) [0, 1, wrap64 ((x.length : Int) - 1), (x.length : Int)] (by simp)
      refine ⟨out ++ [(⟨u, v⟩ : S65)], a3, s3, ev_succ ?_, by simp; omega, by omega, by omega⟩
      simp only [spec_l16DrawLines.l0, if_neg (show ¬ (i : Int) < (x.length : Int) by omega), e1, Option.bind_some, if_true, e2, e3, if_pos (show out.length < 8796093022208 by omega)]
      exact ev_const rfl
    | false =>
      refine ⟨out, a1, s1, ev_succ ?_, by omega, by omega, by omega⟩
      simp only [spec_l16DrawLines.l0, if_neg (show ¬ (i : Int) < (x.length : Int) by omega), e1, Option.bind_some, Bool.false_eq_true, if_false]
      exact ev_const rfl
  | succ d ih =>
    intro i hi hd out a s ho h0 h1
    obtain ⟨res, a1, s1, e, q⟩ := lines_in hB hl x hx r i (fun o b t q1 q2 q3 => ih (i + 1) (by omega) (by omega) o b t q1 q2 (by omega)) (by omega) (x.length - (i + 1)) (i + 1) out a s (by omega) rfl (by omega) h0 (by omega)
    refine ⟨res, a1, s1, ev_succ ?_, q⟩
    simp only [spec_l16DrawLines.l0, if_pos (show (i : Int) < (x.length : Int) by omega), w64 (x := (i : Int) + 1) (by omega) (by omega)]
    exact e
theorem lines_ev {l : List Int} (hB : Bytes l) (hl : l.length ≤ 140737488351232) (x : List S40) (hx : x.length ≤ 31) {a s : Int} (h0 : 0 ≤ a) (h1 : a ≤ 900) : ∃ res a' s', Ev (fun k => spec_l16DrawLines.f k l a s x) (res, a', s') ∧ res.length ≤ 1100 ∧ 0 ≤ a' ∧ a' ≤ 10000 := by
  obtain ⟨v, a1, s1, e1, g1, g2, _⟩ := pick_val hB hl (s := s) h0 (by omega) 3
  obtain ⟨res, a2, s2, e2, q⟩ := lines_out hB hl x hx (wrap64 (2 + v)) x.length 0 (by omega) (by omega) ([] : List S65) a1 s1 (by simp) (by omega) (by omega)
  refine ⟨res, a2, s2, ?_, q⟩
  unfold spec_l16DrawLines.f
  simp only [e1, Option.bind_some]
  exact e2
theorem class_val {l : List Int} (hB : Bytes l) (hl : l.length ≤ 140737488351232) {a s : Int} (h0 : 0 ≤ a) (h1 : a ≤ 10000) : ∃ v a' s', spec_l16Class.f l a s = some (v, a', s') := by
  obtain ⟨t, a1, s1, e1, g1, g2⟩ := one_val hB hl (s := s) h0 (by omega) 8
  unfold spec_l16Class.f
  cases t with
  | true =>
    obtain ⟨u, a2, s2, e2, _⟩ := among_val hB hl (a := a1) (s := s1) (by omega) (by omega) [(-1), 0, 1, 6, 7] (by simp)
    simp only [e1, Option.bind_some, if_true, e2]
    exact ⟨_, _, _, rfl⟩
  | false =>
    obtain ⟨u, a2, s2, e2, _⟩ := pick_val hB hl (a := a1) (s := s1) (by omega) (by omega) 6
    simp only [e1, Option.bind_some, Bool.false_eq_true, if_false, e2]
    exact ⟨_, _, _, rfl⟩
theorem both_ev {l : List Int} (hB : Bytes l) (hl : l.length ≤ 140737488351232) : ∃ x m, Ev (fun k => spec_l16Both.f k l) (x, m) ∧ x.length ≤ 31 ∧ m.length ≤ 1100 ∧ ∀ y ∈ x, NameS y := by
  obtain ⟨x, a1, s1, e1, r1, r2, r3, r4⟩ := bent_ev hB hl (a := 0) (s := 0) (by omega) (by omega)
  obtain ⟨m, a2, s2, e2, q1, _⟩ := lines_ev hB hl x r1 (a := a1) (s := s1) (by omega) (by omega)
  refine ⟨x, m, ?_, r1, q1, r2⟩
  unfold spec_l16Both.f spec_l00From.f
  simp only [Option.bind_some]
  exact Ev.bind e1 (Ev.bind e2 (ev_const rfl))

theorem f6big_val (l : List Int) : laws_f6big.f l = some (decide ((l.length : Int) > 4096)) := rfl
theorem f6ints_l (l : List Int) (hl : l.length ≤ 1048576) (d : Nat) : ∀ (i : Nat), i ≤ l.length → l.length - i = d → Ev (fun k => laws_f6ints.l0 k l l i) true := by
  induction d with
  | zero =>
    intro i hi hd
    apply ev_succ
    simp only [laws_f6ints.l0, if_neg (show ¬ (i : Int) < (l.length : Int) by omega)]
    exact ev_const rfl
  | succ d ih =>
    intro i hi hd
    have h1 := ih (i + 1) (by omega) (by omega)
    apply ev_succ
    simp only [laws_f6ints.l0, if_pos (show (i : Int) < (l.length : Int) by omega), if_pos (show (0 : Int) ≤ (i : Int) by omega), if_true, w64 (x := (i : Int) + 1) (by omega) (by omega)]
    exact h1
theorem f6ints_ev (l : List Int) (hl : l.length ≤ 1048576) : Ev (fun k => laws_f6ints.f k l l) true := by
  unfold laws_f6ints.f
  simp only [if_true]
  exact f6ints_l l hl l.length 0 (by omega) (by omega)
theorem f6has_l (l : List Int) (hl : l.length ≤ 1048576) (v : Int) (d : Nat) : ∀ (i : Nat), i ≤ l.length → l.length - i = d → v ∈ l.drop i → Ev (fun k => laws_f6has.l0 k l v i) true := by
  induction d with
  | zero =>
    intro i hi hd hv
    rw [List.drop_eq_nil_of_le (by omega)] at hv
    cases hv
  | succ d ih =>
    intro i hi hd hv
    have hlt : i < l.length := by omega
    apply ev_succ
    by_cases c : l[i] = v
    · simp only [laws_f6has.l0, if_pos (show (i : Int) < (l.length : Int) by omega), if_pos (show (0 : Int) ≤ (i : Int) by omega), rdn_at _ _ hlt, if_pos c]
      exact ev_const rfl
    · rw [List.drop_eq_getElem_cons hlt, List.mem_cons] at hv
      have h1 := ih (i + 1) (by omega) (by omega) (hv.resolve_left (fun h => c h.symm))
      simp only [laws_f6has.l0, if_pos (show (i : Int) < (l.length : Int) by omega), if_pos (show (0 : Int) ≤ (i : Int) by omega), rdn_at _ _ hlt, if_neg c, w64 (x := (i : Int) + 1) (by omega) (by omega)]
      exact h1
theorem f6has_ev (l : List Int) (hl : l.length ≤ 1048576) (v : Int) (h : v ∈ l) : Ev (fun k => laws_f6has.f k l v) true := by
  unfold laws_f6has.f
  exact f6has_l l hl v l.length 0 (by omega) (by omega) (by simpa using h)

theorem sum_l (x : List Int) (hx : x.length ≤ 100) (hb : ∀ j : Nat, j < x.length → 0 ≤ rd x (j : Int) ∧ rd x (j : Int) ≤ 30) (d : Nat) : ∀ (i : Nat), i ≤ x.length → x.length - i = d → Ev (fun k => laws_f6sum.l0 k x (psum x i) i) (psum x x.length) := by
  induction d with
  | zero =>
    intro i hi hd
    rw [show i = x.length by omega]
    apply ev_succ
    simp only [laws_f6sum.l0, if_neg (show ¬ (x.length : Int) < (x.length : Int) by omega)]
    exact ev_const rfl
  | succ d ih =>
    intro i hi hd
    have h1 := ih (i + 1) (by omega) (by omega)
    have hp := psum_bound x 30 x.length hb i hi
    have hq := hb i (by omega)
    rw [psum] at h1
    apply ev_succ
    simp only [laws_f6sum.l0, if_pos (show (i : Int) < (x.length : Int) by omega), if_pos (show (0 : Int) ≤ (i : Int) by omega), w64 (x := psum x i + rd x (i : Int)) (by omega) (by omega), w64 (x := (i : Int) + 1) (by omega) (by omega)]
    exact h1
theorem part_l (x : List Int) (hx : x.length = 6) (hb : ∀ j : Nat, j < 6 → 0 ≤ rd x (j : Int) ∧ rd x (j : Int) ≤ 30) (res : List Int) (c : Nat) (hc : c ≤ 6) (hr : (res.length : Int) = psum x c) (d : Nat) : ∀ (i : Nat), i ≤ c → c - i = d → Ev (fun k => laws_FnCatalogues.l1 k c res x (psum x i) i) true := by
  induction d with
  | zero =>
    intro i hi hd
    rw [show i = c by omega]
    apply ev_succ
    simp only [laws_FnCatalogues.l1, if_neg (show ¬ (c : Int) < (c : Int) by omega)]
    exact ev_const (by rw [hr, beq_self_eq_true])
  | succ d ih =>
    intro i hi hd
    have h1 := ih (i + 1) (by omega) (by omega)
    have hp := psum_bound x 30 6 hb i (by omega)
    have hq := hb i (by omega)
    rw [psum] at h1
    apply ev_succ
    simp only [laws_FnCatalogues.l1, if_pos (show (i : Int) < (c : Int) by omega), if_pos (show (i : Int) < (x.length : Int) by omega), if_pos (show (0 : Int) ≤ (i : Int) by omega), w64 (x := psum x i + rd x (i : Int)) (by omega) (by omega), w64 (x := (i : Int) + 1) (by omega) (by omega)]
    exact h1
theorem own_l (cl cd : Int) (res many : List Int) (l : List S40) (hl : l.length ≤ 31) (f : Int) (own : List Int) (ho : own.length ≤ 30) (hf : f ∈ own) (hg : ∀ y ∈ own, (rd_T40 l y).f1 ≤ (rd_T40 l f).f1) (hb : ∀ y ∈ own, 0 ≤ y ∧ y < (l.length : Int))
    (hR : Ev (fun k => laws_FnCatalogues.j3 k cl cd res many) true) (d : Nat) : ∀ (i : Nat), i ≤ own.length → own.length - i = d → Ev (fun k => laws_FnCatalogues.l0 k cl cd res many l f own i) true := by
  have hx := hb _ hf
  induction d with
  | zero =>
    intro i hi hd
    apply ev_succ
    simp only [laws_FnCatalogues.l0, if_neg (show ¬ (i : Int) < (own.length : Int) by omega)]
    exact hR
  | succ d ih =>
    intro i hi hd
    have hlt : i < own.length := by omega
    have h1 := ih (i + 1) (by omega) (by omega)
    have hy := hb _ (List.getElem_mem hlt)
    have hz := hg _ (List.getElem_mem hlt)
    apply ev_succ
    simp only [laws_FnCatalogues.l0, if_pos (show (i : Int) < (own.length : Int) by omega), if_pos (show (0 : Int) ≤ (i : Int) by omega), rdn_at _ _ hlt, if_pos hy.1, if_pos hy.2, if_pos hx.1, if_pos hx.2, if_neg (show ¬ (rd_T40 l own[i]).f1 > (rd_T40 l f).f1 by omega), w64 (x := (i : Int) + 1) (by omega) (by omega)]
    exact h1
theorem bright_ev {l : List Int} (hB : Bytes l) (hl : l.length ≤ 140737488351232) : ∃ x c, Ev (fun k => spec_DrawBrighterThan.f k l) (x, c) ∧ x.length ≤ 31 := by
  obtain ⟨x, a1, s1, e1, r1, r2, r3, r4⟩ := bent_ev hB hl (a := 0) (s := 0) (by omega) (by omega)
  obtain ⟨c, a2, s2, e2⟩ := class_val hB hl (a := a1) (s := s1) (by omega) (by omega)
  refine ⟨x, c, ?_, r1⟩
  unfold spec_DrawBrighterThan.f spec_l00From.f
  simp only [Option.bind_some]
  refine Ev.bind e1 ?_
  simp only [e2, Option.bind_some]
  exact ev_const rfl
theorem first_ev {l : List Int} (hB : Bytes l) (hl : l.length ≤ 140737488351232) : ∃ n c x y, Ev (fun k => spec_DrawStarText.f k l) (n, c, x, y) ∧ n.size ≤ 100 := by
  obtain ⟨x, a1, s1, e1, r1, r2, r3, r4⟩ := bent_ev hB hl (a := 0) (s := 0) (by omega) (by omega)
  by_cases h : x.length = 0
  · refine ⟨(⟨#[]⟩ : ByteArray), 0, 0, 0, ?_, by decide⟩
    unfold spec_DrawStarText.f spec_l00From.f
    simp only [Option.bind_some]
    refine Ev.bind e1 ?_
    simp only [if_pos (show (x.length : Int) = 0 by omega)]
    exact ev_const rfl
  · have h0 : 0 < x.length := by omega
    have hr : rd_T40 x 0 = x[0] := rd_T40_at x 0 h0
    refine ⟨x[0].f0, x[0].f1, x[0].f2.f0, x[0].f2.f1, ?_, r2 _ (List.getElem_mem h0)⟩
    unfold spec_DrawStarText.f spec_l00From.f
    simp only [Option.bind_some]
    refine Ev.bind e1 ?_
    simp only [if_neg (show ¬ (x.length : Int) = 0 by omega), if_pos (show (0 : Int) < (x.length : Int) by omega), hr]
    exact ev_const rfl
theorem faintdraw_ev {l : List Int} (hB : Bytes l) (hl : l.length ≤ 140737488351232) : ∃ x m, Ev (fun k => spec_DrawFaintestOf.f k l) (x, m) ∧ x.length ≤ 31 ∧ m.length ≤ 1100 := by
  obtain ⟨x, m, e, h1, h2, _⟩ := both_ev hB hl
  refine ⟨x, m, ?_, h1, h2⟩
  unfold spec_DrawFaintestOf.f
  exact Ev.bind e (ev_const rfl)
theorem FnCatalogues : laws_FnCatalogues.Pure := by
  intro l hl hlb
  have hB := bytes_of hlb
  apply Ev.rounds
  unfold laws_FnCatalogues.f
  simp only [f6big_val, Option.bind_some]
  by_cases hlong : (l.length : Int) > 4096
  · simp only [hlong, decide_true, if_true]; exact ev_const rfl
  · simp only [hlong, decide_false, Bool.false_eq_true, if_false]
    obtain ⟨x, c, d1, d2⟩ := bright_ev hB (by omega)
    obtain ⟨z, m, d3, d4, d5⟩ := faintdraw_ev hB (by omega)
    obtain ⟨n, e, p, q, d6, d7⟩ := first_ev hB (by omega)
    obtain ⟨some1, bad, b1, b2, b3, b4, b5⟩ := bright2_same x (by omega) c
    obtain ⟨many, one, c1, c2, c3, c4, c5⟩ := count2_same x (by omega)
    obtain ⟨v, own, five, f, three, f1, f2, f3, f4, f5, f6, f7, f8⟩ := faint2_same z (by omega) m (by omega)
    obtain ⟨t, t1, t2⟩ := text_same n (by omega) e p q
    obtain ⟨u, u1, u2⟩ := ftext_same z (by omega) m (by omega)
    have i1 := f6ints_ev some1 (by omega)
    have i2 := f6ints_ev many (by omega)
    have i3 := f6ints_ev own (by omega)
    refine Ev.bind d1 (Ev.bind b2 (Ev.bind b1 (Ev.bind c2 (Ev.bind c1 (Ev.bind d3 (Ev.bind f7 (Ev.bind f6 (Ev.bind f4 (Ev.bind f3 (Ev.bind d6 ?_))))))))))
    simp only [if_true]
    refine Ev.bind i1 ?_
    simp only [if_true]
    refine Ev.bind i2 ?_
    simp only [if_true]
    refine Ev.bind i3 ?_
    simp only [if_true, t2, Option.bind_some]
    refine Ev.bind t1 ?_
    simp only [if_true]
    refine Ev.bind u2 (Ev.bind u1 ?_)
    simp only [if_true, icat_val, Option.bind_some, spec_ValidCatalogue.f, spec_ValidFigure.f]
    refine Ev.bind (Ev.bind (scat_ev x (by omega)) (ev_const rfl)) ?_
    simp only [bne_self_eq_false, Bool.false_eq_true, if_false]
    refine Ev.bind f2 (Ev.bind (Ev.bind f1 (ev_const rfl)) ?_)
    simp only [bne_self_eq_false]
    have hj3 : Ev (fun k => laws_FnCatalogues.j3 k c bad some1 many) true := by
      apply ev_succ
      by_cases hz : bad = 0
      · have hk := b4.1 hz
        obtain ⟨g1, g2, g3, g4, g5⟩ := c5 (c4.2 hk.1)
        obtain ⟨j, rfl⟩ := Int.eq_ofNat_of_zero_le (show 0 ≤ c by omega)
        have := part_l many g2 g3 some1 j (by omega) (by rw [(b5 hz).1, g5 j (by omega)]) j 0 (by omega) (by omega)
        simp only [laws_FnCatalogues.j3, if_pos hz]
        exact this
      · simp only [laws_FnCatalogues.j3, if_neg hz]
        exact ev_const rfl
    have hj1 : Ev (fun k => laws_FnCatalogues.j1 k c bad some1 many z three f own false) true := by
      apply ev_succ
      simp only [laws_FnCatalogues.j1, Bool.false_eq_true, if_false]
      by_cases hz : three = 0
      · obtain ⟨g1, g2, g3⟩ := f8 hz
        simp only [if_pos hz]
        refine Ev.bind (f6has_ev own (by omega) f g1) ?_
        simp only [if_true]
        exact own_l c bad some1 many z (by omega) f own (by omega) g1 g2 g3 hj3 own.length 0 (by omega) (by omega)
      · simp only [if_neg hz]
        exact hj3
    apply ev_succ
    simp only [laws_FnCatalogues.j0, Bool.false_eq_true, if_false]
    by_cases hz : one = 0
    · obtain ⟨g1, g2, g3, g4, g5⟩ := c5 hz
      have hs := sum_l many (by omega) (by rw [g2]; exact g3) many.length 0 (by omega) (by omega)
      simp only [if_pos hz]
      have hs2 : Ev (fun k => laws_f6sum.f k many) (x.length : Int) := by
        unfold laws_f6sum.f
        rw [← g4, ← g2]
        exact hs
      refine Ev.bind hs2 ?_
      simp only [bne_self_eq_false]
      exact hj1
    · simp only [if_neg hz]
      exact hj1

end Go.Proofs.YtnjalpniedpgmaaGreatDoor.Pure
