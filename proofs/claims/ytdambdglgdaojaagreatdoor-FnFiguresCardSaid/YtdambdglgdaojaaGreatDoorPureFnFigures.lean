/- FnFigures: for all bytes: over drawn catalogues and figures the program's functions and the reference's come to the same; the ends of a figure are among its stars, a figure in one stroke is one piece and has at most two ends, and one without faint stars has only stars of the wanted classes. -/
import Derived.Test.YtdambdglgdaojaaGreatDoorStatFnFigures
namespace Go.Proofs.YtdambdglgdaojaaGreatDoor.Pure
open Go.RowKit Go.Proofs.YtdambdglgdaojaaGreatDoor.PFnFigures Go.Proofs.YtdambdglgdaojaaGreatDoorW.PrintWords Go.Proofs.YtdambdglgdaojaaGreatDoorW.PrintLast Go.Proofs.YtdambdglgdaojaaGreatDoorW.PrintMore
set_option linter.unusedVariables false
set_option linter.unusedSimpArgs false
theorem w64 {x : Int} (h : -9223372036854775808 ≤ x) (h2 : x ≤ 9223372036854775807) : wrap64 x = x := by unfold wrap64; omega
theorem tmod_nn {a b : Int} (h : 0 ≤ a) : Int.tmod a b = a % b := Int.tmod_eq_emod_of_nonneg h
theorem ev_succ {α : Type} {g : Nat → Option α} {r : α} (h : Ev (fun k => g (k + 1)) r) : Ev g r := Ev.step (fun _ => rfl) h
theorem ev_const {α : Type} {g : Option α} {r : α} (h : g = some r) : Ev (fun _ => g) r := ⟨0, fun _ _ => h⟩
theorem rdOf_at (d : ByteArray) (l : List ByteArray) (i : Nat) (h : i < l.length) : rdOf d l (i : Int) = l[i] := by
  unfold rdOf
  rw [Int.toNat_natCast, List.getD_eq_getElem?_getD, List.getElem?_eq_getElem h]
  rfl

/-- A byte that a name may have. -/
def nameC (c : Int) : Prop := ((97 : Int) ≤ c ∧ c ≤ 122) ∨ ((48 : Int) ≤ c ∧ c ≤ 57) ∨ c = 45
instance instNameC (c : Int) : Decidable (nameC c) := by unfold nameC; infer_instance
/-- A name. -/
def IsNm (s : ByteArray) : Prop := 1 ≤ s.size ∧ s.size ≤ 12 ∧ ((97 : Int) ≤ bt s 0 ∧ bt s 0 ≤ 122) ∧ ∀ i, i < s.size → nameC (bt s (i : Int))
instance instIsNm (s : ByteArray) : Decidable (IsNm s) := by unfold IsNm; infer_instance
theorem toList_nil (s : ByteArray) : s.toList = ([] : List UInt8) ↔ s.size = 0 := by
  rw [ByteArray.toList_eq]
  obtain ⟨⟨x⟩⟩ := s
  show x = [] ↔ x.length = 0
  rw [List.length_eq_zero_iff]
theorem bt_at (s : ByteArray) (i : Nat) (h : i < s.size) : bt s (i : Int) = ((s.data.toList[i]'(by simpa using h)).toNat : Int) := by
  unfold bt
  rw [dif_pos (by simpa using h)]
  rfl
open Classical in
theorem snm_l (s : ByteArray) (hs : s.size ≤ 12) (d : Nat) : ∀ (i : Nat), i ≤ s.size → s.size - i = d → Ev (fun k => spec_IsName.l0 k s i) (decide (∀ j, i ≤ j → j < s.size → nameC (bt s (j : Int)))) := by
  induction d with
  | zero =>
    intro i hi hd
    apply ev_succ
    simp only [spec_IsName.l0, if_neg (show ¬ (i : Int) < (s.size : Int) by omega)]
    refine ev_const ?_
    congr 1
    symm
    rw [decide_eq_true_iff]
    intro j h1 h2; omega
  | succ d ih =>
    intro i hi hd
    have hlt : i < s.size := by omega
    have hih := ih (i + 1) (by omega) (by omega)
    have step : nameC (bt s (i : Int)) → (decide (∀ j, i ≤ j → j < s.size → nameC (bt s (j : Int)))) = decide (∀ j, i + 1 ≤ j → j < s.size → nameC (bt s (j : Int))) := by
      intro hc
      rw [decide_eq_decide]
      constructor
      · intro h j h1 h2; exact h j (by omega) h2
      · intro h j h1 h2
        by_cases e : j = i
        · subst e; exact hc
        · exact h j (by omega) h2
    apply ev_succ
    simp only [spec_IsName.l0, spec_l01Small.f, spec_l01Digit.f, if_pos (show (i : Int) < (s.size : Int) by omega), if_pos (show (0 : Int) ≤ (i : Int) by omega), w64 (x := (i : Int) + 1) (by omega) (by omega)]
    by_cases h1 : 97 ≤ bt s (i : Int) ∧ bt s (i : Int) ≤ 122
    · simp only [ge_iff_le, if_pos h1.1, Option.bind_some, decide_eq_true h1.2, if_true]
      rw [step (.inl h1)]
      exact hih
    · have e1 : (if bt s (i : Int) ≥ 97 then some (decide (bt s (i : Int) ≤ 122)) else some false) = some false := by
        by_cases h : bt s (i : Int) ≥ 97
        · rw [if_pos h, decide_eq_false (fun h2 => h1 ⟨h, h2⟩)]
        · rw [if_neg h]
      simp only [e1, Option.bind_some, Bool.false_eq_true, if_false]
      by_cases h2 : 48 ≤ bt s (i : Int) ∧ bt s (i : Int) ≤ 57
      · simp only [ge_iff_le, if_pos h2.1, Option.bind_some, decide_eq_true h2.2, if_true]
        rw [step (.inr (.inl h2))]
        exact hih
      · have e2 : (if bt s (i : Int) ≥ 48 then some (decide (bt s (i : Int) ≤ 57)) else some false) = some false := by
          by_cases h : bt s (i : Int) ≥ 48
          · rw [if_pos h, decide_eq_false (fun h3 => h2 ⟨h, h3⟩)]
          · rw [if_neg h]
        simp only [e2, Option.bind_some, Bool.false_eq_true, if_false]
        by_cases h3 : bt s (i : Int) = 45
        · simp only [if_pos h3]
          rw [step (.inr (.inr h3))]
          exact hih
        · simp only [if_neg h3]
          refine ev_const ?_
          congr 1
          symm
          rw [decide_eq_false_iff_not]
          intro h
          rcases h i (by omega) hlt with h | h | h
          · exact h1 h
          · exact h2 h
          · exact h3 h
theorem spec_name (s : ByteArray) : Ev (fun k => spec_IsName.f k s) (decide (IsNm s)) := by
  classical
  have no : ¬ IsNm s → Ev (fun k => spec_IsName.j0 k s true) (decide (IsNm s)) := fun h => by
    refine ev_succ ?_
    simp only [spec_IsName.j0, if_true]
    exact ev_const (by rw [decide_eq_false h])
  unfold spec_IsName.f
  by_cases h0 : s.size = 0
  · simp only [if_pos ((toList_nil s).2 h0)]
    exact no (fun h => by have := h.1; omega)
  · simp only [if_neg (fun h => h0 ((toList_nil s).1 h))]
    by_cases h1 : (s.size : Int) > 12
    · simp only [if_pos h1]
      exact no (fun h => by have := h.2.1; omega)
    · simp only [if_neg h1, if_pos (show (0 : Int) < (s.size : Int) by omega), spec_l01Small.f]
      by_cases h2 : 97 ≤ bt s 0 ∧ bt s 0 ≤ 122
      · simp only [ge_iff_le, if_pos h2.1, Option.bind_some, decide_eq_true h2.2, Bool.not_true]
        refine ev_succ ?_
        simp only [spec_IsName.j0, Bool.false_eq_true, if_false]
        have := snm_l s (by omega) s.size 0 (by omega) (by omega)
        have e : (decide (IsNm s)) = decide (∀ j, 0 ≤ j → j < s.size → nameC (bt s (j : Int))) := by
          rw [decide_eq_decide]
          exact ⟨fun h j _ hj => h.2.2.2 j hj, fun h => ⟨by omega, by omega, h2, fun j hj => h j (by omega) hj⟩⟩
        rw [e]
        exact this
      · have e1 : (if bt s 0 ≥ 97 then some (decide (bt s 0 ≤ 122)) else some false) = some false := by
          by_cases h : bt s 0 ≥ 97
          · rw [if_pos h, decide_eq_false (fun h3 => h2 ⟨h, h3⟩)]
          · rw [if_neg h]
        simp only [e1, Option.bind_some, Bool.not_false]
        exact no (fun h => h2 h.2.2.1)

theorem dw_nil (p : UInt8 → Bool) (l : List UInt8) : l.dropWhile p = [] ↔ ∀ b ∈ l, p b = true := by
  induction l with
  | nil => simp
  | cons a l ih =>
    by_cases h : p a = true
    · simp [List.dropWhile, h, ih]
    · simp [List.dropWhile, h]
theorem dw_head (p : UInt8 → Bool) (l : List UInt8) (x : UInt8) (xs : List UInt8) (h : l.dropWhile p = x :: xs) : p x = false := by
  induction l with
  | nil => simp at h
  | cons a l ih =>
    by_cases h2 : p a = true
    · simp only [List.dropWhile, h2] at h
      exact ih h
    · have h3 : p a = false := by simpa using h2
      simp only [List.dropWhile, h3, List.cons.injEq] at h
      rw [← h.1]; exact h3
theorem trimS_nil (l cs : List UInt8) : Go.Lib.trimS l cs = [] ↔ ∀ b ∈ l, cs.contains b = true := by
  unfold Go.Lib.trimS Go.Lib.trimLeftS Go.Lib.trimRightS
  rw [dw_nil]
  constructor
  · intro h b hb
    cases e : l.reverse.dropWhile (cs.contains ·) with
    | nil =>
      rw [dw_nil] at e
      exact e b (by simpa using hb)
    | cons x xs =>
      exfalso
      have h1 := dw_head _ _ _ _ e
      have h2 := h x (by rw [e]; simp)
      rw [h2] at h1
      cases h1
  · intro h b hb
    exact h b (by simpa using (List.dropWhile_sublist _).subset (List.mem_reverse.1 hb))
theorem name_cut (b : UInt8) : ([97, 98, 99, 100, 101, 102, 103, 104, 105, 106, 107, 108, 109, 110, 111, 112, 113, 114, 115, 116, 117, 118, 119, 120, 121, 122, 48, 49, 50, 51, 52, 53, 54, 55, 56, 57, 45] : List UInt8).contains b = decide (nameC (b.toNat : Int)) := by
  have key : ((List.range 256).all fun n => (([97, 98, 99, 100, 101, 102, 103, 104, 105, 106, 107, 108, 109, 110, 111, 112, 113, 114, 115, 116, 117, 118, 119, 120, 121, 122, 48, 49, 50, 51, 52, 53, 54, 55, 56, 57, 45] : List UInt8).contains (UInt8.ofNat n) == decide (((97 : Int) ≤ (n : Int) ∧ (n : Int) ≤ 122) ∨ ((48 : Int) ≤ (n : Int) ∧ (n : Int) ≤ 57) ∨ (n : Int) = 45))) = true := by decide +kernel
  have h := List.all_eq_true.1 key b.toNat (List.mem_range.2 b.toNat_lt)
  rw [UInt8.ofNat_toNat] at h
  rw [beq_iff_eq] at h
  rw [h]
  rfl
theorem impl_name (s : ByteArray) : impl_IsName.f s = some (decide (IsNm s)) := by
  unfold impl_IsName.f
  by_cases h0 : (s.size : Int) < 1
  · rw [if_pos h0, decide_eq_false (fun h => by have := h.1; omega)]
  · rw [if_neg h0]
    by_cases h1 : (s.size : Int) > 12
    · rw [if_pos h1, decide_eq_false (fun h => by have := h.2.1; omega)]
    · rw [if_neg h1, if_pos (by omega)]
      by_cases h2 : bt s 0 < 97
      · rw [if_pos h2, decide_eq_false (fun h => by have := h.2.2.1.1; omega)]
      · rw [if_neg h2]
        by_cases h3 : bt s 0 > 122
        · rw [if_pos h3, decide_eq_false (fun h => by have := h.2.2.1.2; omega)]
        · rw [if_neg h3]
          unfold strings_Trim.f
          rw [if_pos ⟨by omega, by decide, by decide +kernel⟩]
          simp only [Option.bind_some]
          congr 1
          have e : (decide (IsNm s)) = decide (∀ b ∈ s.data.toList, nameC (b.toNat : Int)) := by
            rw [decide_eq_decide]
            constructor
            · intro h b hb
              obtain ⟨j, hj, rfl⟩ := List.getElem_of_mem hb
              have := h.2.2.2 j (by simpa using hj)
              rw [bt_at s j (by simpa using hj)] at this
              exact this
            · intro h
              refine ⟨by omega, by omega, ⟨by omega, by omega⟩, fun j hj => ?_⟩
              rw [bt_at s j hj]
              exact h _ (List.getElem_mem _)
          rw [e]
          have e2 : ∀ t : List UInt8, (({ data := t.toArray } : ByteArray).toList == ([] : List UInt8)) = decide (t = []) := by
            intro t
            rw [ByteArray.toList_eq]
            cases t <;> simp
          rw [e2, decide_eq_decide, trimS_nil]
          constructor
          · intro h b hb
            have := h b hb
            rw [name_cut] at this
            exact of_decide_eq_true this
          · intro h b hb
            rw [name_cut]
            exact decide_eq_true (h b hb)

theorem in_val (a b c : Int) : spec_l00In.f a b c = some (decide (b ≤ a ∧ a ≤ c)) := by
  unfold spec_l00In.f
  by_cases h : a ≥ b <;> by_cases h2 : a ≤ c <;> simp [h, h2] <;> omega
theorem within_val (a b c : Int) : impl_within.f a b c = some (decide (b ≤ a ∧ a ≤ c)) := in_val a b c

/-- A valid spot. -/
def SpotP (a b : Int) : Prop := (-324000 ≤ a ∧ a ≤ 324000) ∧ (-648000 ≤ b ∧ b ≤ 647999)
instance (a b : Int) : Decidable (SpotP a b) := by unfold SpotP; infer_instance
theorem l02Ok_val (a b : Int) : spec_l02Ok.f a b = some (decide (SpotP a b)) := by
  unfold spec_l02Ok.f SpotP
  simp only [in_val, Option.bind_some]
  by_cases h : -324000 ≤ a ∧ a ≤ 324000
  · simp only [h, decide_true, if_true, true_and]
  · simp [h]

theorem iValidSpot_val (a b : Int) : impl_ValidSpot.f a b = some (decide (SpotP a b)) := by
  unfold impl_ValidSpot.f SpotP
  simp only [within_val, Option.bind_some]
  by_cases h : -324000 ≤ a ∧ a ≤ 324000
  · simp only [h, decide_true, if_true, true_and]
  · simp [h]

theorem rd_T53_at (l : List S53) (i : Nat) (h : i < l.length) : rd_T53 l (i : Int) = l[i] := by
  unfold rd_T53
  rw [Int.toNat_natCast, List.getD_eq_getElem?_getD, List.getElem?_eq_getElem h]
  rfl
theorem rd_T39_at (l : List S39) (i : Nat) (h : i < l.length) : rd_T39 l (i : Int) = l[i] := by
  unfold rd_T39
  rw [Int.toNat_natCast, List.getD_eq_getElem?_getD, List.getElem?_eq_getElem h]
  rfl

/-- What a star of a catalogue must hold. -/
def StarOk (x : S53) : Prop := IsNm x.f0 ∧ ((1 : Int) ≤ x.f1 ∧ x.f1 ≤ 6) ∧ SpotP x.f2.f0 x.f2.f1
instance instStarOk (x : S53) : Decidable (StarOk x) := by unfold StarOk; infer_instance
theorem spec_star (x : S53) : Ev (fun k => spec_l16One.f k x.f0 x.f1 x.f2.f0 x.f2.f1) (decide (StarOk x)) := by
  unfold spec_l16One.f
  refine Ev.bind (spec_name x.f0) ?_
  by_cases h1 : IsNm x.f0
  · simp only [decide_eq_true h1, if_true, in_val, Option.bind_some, l02Ok_val]
    by_cases h2 : 1 ≤ x.f1 ∧ x.f1 ≤ 6
    · simp only [decide_eq_true h2, if_true]
      exact ev_const (congrArg some (decide_eq_decide.2 ⟨fun h => ⟨h1, h2, h⟩, fun h => h.2.2⟩))
    · simp only [decide_eq_false h2, Bool.false_eq_true, if_false]
      exact ev_const (by rw [decide_eq_false (show ¬ StarOk x from fun h => h2 h.2.1)])
  · simp only [decide_eq_false h1, Bool.false_eq_true, if_false]
    exact ev_const (by rw [decide_eq_false (show ¬ StarOk x from fun h => h1 h.1)])
theorem impl_star (x : S53) : impl_isStar.f x.f0 x.f1 x.f2.f0 x.f2.f1 = some (decide (StarOk x)) := by
  unfold impl_isStar.f impl_isClass.f
  simp only [impl_name, within_val, Option.bind_some, iValidSpot_val]
  by_cases h1 : IsNm x.f0
  · simp only [decide_eq_true h1, if_true]
    by_cases h2 : 1 ≤ x.f1 ∧ x.f1 ≤ 6
    · simp only [decide_eq_true h2, if_true]
      exact congrArg some (decide_eq_decide.2 ⟨fun h => ⟨h1, h2, h⟩, fun h => h.2.2⟩)
    · simp only [decide_eq_false h2, Bool.false_eq_true, if_false]
      rw [decide_eq_false (show ¬ StarOk x from fun h => h2 h.2.1)]
  · simp only [decide_eq_false h1, Bool.false_eq_true, if_false]
    rw [decide_eq_false (show ¬ StarOk x from fun h => h1 h.1)]
theorem starB_val (x : S53) : starB x = decide (StarOk x) := by unfold starB; rw [impl_star]; rfl
/-- A valid catalogue. -/
def catB (l : List S53) : Bool := (List.range l.length).all (starAt l) && decide ((l.length : Int) ≤ 30)
theorem icat_val (l : List S53) : impl_ValidCatalogue.f l = some (catB l) := rfl
theorem starAt_val (l : List S53) (i : Nat) (h : i < l.length) : starAt l i = (decide (StarOk l[i]) && !(l.take i).any (fun y => y.f0.toList == l[i].f0.toList)) := by
  unfold starAt
  rw [rd_T53_at _ _ h, starB_val]
theorem catB_ok {l : List S53} (h : catB l = true) : (l.length : Int) ≤ 30 ∧ ∀ x ∈ l, StarOk x := by
  unfold catB at h
  rw [Bool.and_eq_true, List.all_eq_true] at h
  refine ⟨of_decide_eq_true h.2, fun x hx => ?_⟩
  obtain ⟨j, hj, rfl⟩ := List.getElem_of_mem hx
  have := h.1 j (List.mem_range.2 hj)
  rw [starAt_val _ _ hj, Bool.and_eq_true] at this
  exact of_decide_eq_true this.1
theorem scat_in (l : List S53) (hl : l.length ≤ 1048576) (i : Nat) (hi : i < l.length) (R : Bool) (hR : Ev (fun k => spec_l16Ok.l0 k l ((i + 1 : Nat) : Int)) R) (e : Nat) : ∀ (j : Nat), j ≤ i → i - j = e →
    Ev (fun k => spec_l16Ok.l1 k l i j) (!((l.take i).drop j).any (fun y => y.f0.toList == l[i].f0.toList) && R) := by
  induction e with
  | zero =>
    intro j hj he
    rw [List.drop_eq_nil_of_le (by rw [List.length_take]; omega)]
    apply ev_succ
    simp only [spec_l16Ok.l1, if_neg (show ¬ (j : Int) < (i : Int) by omega), List.any_nil, Bool.not_false, Bool.true_and, w64 (x := (i : Int) + 1) (by omega) (by omega)]
    exact hR
  | succ e ih =>
    intro j hj he
    have hjl : j < l.length := by omega
    have hd : ((l.take i).drop j).any (fun y => y.f0.toList == l[i].f0.toList) = ((l[j].f0.toList == l[i].f0.toList) || ((l.take i).drop (j + 1)).any (fun y => y.f0.toList == l[i].f0.toList)) := by
      rw [List.drop_eq_getElem_cons (show j < (l.take i).length by rw [List.length_take]; omega), List.any_cons, List.getElem_take]
    have h1 := ih (j + 1) (by omega) (by omega)
    rw [hd]
    apply ev_succ
    by_cases c : l[j].f0.toList = l[i].f0.toList
    · simp only [spec_l16Ok.l1, if_pos (show (j : Int) < (i : Int) by omega), if_pos (show (0 : Int) ≤ (j : Int) by omega), if_pos (show (j : Int) < (l.length : Int) by omega), if_pos (show (0 : Int) ≤ (i : Int) by omega), if_pos (show (i : Int) < (l.length : Int) by omega), rd_T53_at _ _ hi, rd_T53_at _ _ hjl, if_pos c, beq_iff_eq.2 c, Bool.true_or, Bool.not_true, Bool.false_and]
      exact ev_const rfl
    · simp only [spec_l16Ok.l1, if_pos (show (j : Int) < (i : Int) by omega), if_pos (show (0 : Int) ≤ (j : Int) by omega), if_pos (show (j : Int) < (l.length : Int) by omega), if_pos (show (0 : Int) ≤ (i : Int) by omega), if_pos (show (i : Int) < (l.length : Int) by omega), rd_T53_at _ _ hi, rd_T53_at _ _ hjl, if_neg c, beq_eq_false_iff_ne.2 c, Bool.false_or, w64 (x := (j : Int) + 1) (by omega) (by omega)]
      exact h1
theorem scat_l (l : List S53) (hl : l.length ≤ 1048576) (d : Nat) : ∀ (i : Nat), i ≤ l.length → l.length - i = d → Ev (fun k => spec_l16Ok.l0 k l i) ((List.range' i d).all (starAt l) && decide ((l.length : Int) ≤ 30)) := by
  induction d with
  | zero =>
    intro i hi hd
    apply ev_succ
    simp only [spec_l16Ok.l0, if_neg (show ¬ (i : Int) < (l.length : Int) by omega)]
    exact ev_const rfl
  | succ d ih =>
    intro i hi hd
    have hlt : i < l.length := by omega
    have h1 := ih (i + 1) (by omega) (by omega)
    rw [List.range'_succ, List.all_cons, starAt_val _ _ hlt]
    apply ev_succ
    simp only [spec_l16Ok.l0, if_pos (show (i : Int) < (l.length : Int) by omega), if_pos (show (0 : Int) ≤ (i : Int) by omega), rd_T53_at _ _ hlt]
    refine Ev.bind (spec_star l[i]) ?_
    by_cases c : StarOk l[i]
    · simp only [decide_eq_true c, if_true, Bool.true_and, Bool.and_assoc]
      exact scat_in l hl i hlt _ h1 i 0 (by omega) (by omega)
    · simp only [decide_eq_false c, Bool.false_eq_true, if_false, Bool.false_and]
      exact ev_const rfl
theorem scat_ev (l : List S53) (hl : l.length ≤ 1048576) : Ev (fun k => spec_l16Ok.f k l) (catB l) := by
  have h := scat_l l hl l.length 0 (by omega) (by omega)
  unfold catB
  rw [List.range_eq_range']
  exact h

/-- What a line of a figure must hold. -/
def LineOk (n : Int) (x : S39) : Prop := (0 : Int) ≤ x.f0 ∧ x.f0 < x.f1 ∧ x.f1 < n
theorem figure_l (l : List S53) (hl : l.length ≤ 1048576) (m : List S39) (hm : m.length ≤ 1048576) (d : Nat) : ∀ (i : Nat), i ≤ m.length → m.length - i = d →
    ∃ r, Ev (fun k => spec_l16Figure.l0 k l m l.length i) r ∧ Ev (fun k => impl_ValidFigure.l0 k l m m m.length i) r ∧ (r = true → (∀ x ∈ m.drop i, LineOk l.length x) ∧ (m.length : Int) ≤ 40 ∧ catB l = true) := by
  induction d with
  | zero =>
    intro i hi hd
    refine ⟨if catB l = true then decide ((m.length : Int) ≤ 40) else false, ev_succ ?_, ev_succ ?_, ?_⟩
    · simp only [spec_l16Figure.l0, if_neg (show ¬ (i : Int) < (m.length : Int) by omega)]
      refine Ev.bind (scat_ev l hl) ?_
      cases catB l
      · exact ev_const rfl
      · exact ev_const rfl
    · simp only [impl_ValidFigure.l0, if_neg (show ¬ (i : Int) < (m.length : Int) by omega), icat_val, Option.bind_some]
      cases catB l
      · exact ev_const rfl
      · exact ev_const rfl
    · rw [List.drop_eq_nil_of_le (by omega)]
      cases catB l
      · simp
      · simp
  | succ d ih =>
    intro i hi hd
    have hlt : i < m.length := by omega
    obtain ⟨r, h1, h2, h3⟩ := ih (i + 1) (by omega) (by omega)
    have hdr : m.drop i = m[i] :: m.drop (i + 1) := List.drop_eq_getElem_cons hlt
    by_cases c : LineOk l.length m[i]
    · have c' : (0 : Int) ≤ m[i].f0 ∧ m[i].f0 < m[i].f1 ∧ m[i].f1 < (l.length : Int) := c
      have hs : ∀ v, Ev (fun k => spec_l16Figure.j1 k l m l.length i false m[i].f0 m[i].f1) v → Ev (fun k => spec_l16Figure.l0 k l m l.length i) v := by
        intro v hv
        apply ev_succ
        simp only [spec_l16Figure.l0, if_pos (show (i : Int) < (m.length : Int) by omega), if_pos (show (0 : Int) ≤ (i : Int) by omega), rd_T39_at _ _ hlt, in_val, Option.bind_some, w64 (x := (l.length : Int) - 1) (by omega) (by omega), w64 (x := m[i].f0 + 1) (by omega) (by omega), decide_eq_true (show (0 : Int) ≤ m[i].f0 ∧ m[i].f0 ≤ (l.length : Int) - 1 by omega), if_true, decide_eq_true (show m[i].f0 + 1 ≤ m[i].f1 ∧ m[i].f1 ≤ (l.length : Int) - 1 by omega), Bool.not_true]
        exact hv
      have hp : ∀ v, Ev (fun k => impl_ValidFigure.j1 k l m i m m.length i false m[i].f0 m[i].f1) v → Ev (fun k => impl_ValidFigure.l0 k l m m m.length i) v := by
        intro v hv
        apply ev_succ
        simp only [impl_ValidFigure.l0, if_pos (show (i : Int) < (m.length : Int) by omega), if_pos (show (0 : Int) ≤ (i : Int) by omega), rd_T39_at _ _ hlt, if_neg (show ¬ m[i].f0 < 0 by omega), if_neg (show ¬ m[i].f0 ≥ m[i].f1 by omega), decide_eq_false (show ¬ m[i].f1 ≥ (l.length : Int) by omega)]
        exact hv
      have hr : r = true → (∀ x ∈ m.drop i, LineOk l.length x) ∧ (m.length : Int) ≤ 40 ∧ catB l = true := by
        intro e
        have h4 := h3 e
        refine ⟨?_, h4.2⟩
        rw [hdr, List.forall_mem_cons]
        exact ⟨c, h4.1⟩
      by_cases c0 : i = 0
      · refine ⟨r, hs _ (ev_succ ?_), hp _ (ev_succ ?_), hr⟩
        · simp only [spec_l16Figure.j1, Bool.false_eq_true, if_false, if_neg (show ¬ (i : Int) > 0 by omega), w64 (x := (i : Int) + 1) (by omega) (by omega)]
          exact h1
        · simp only [impl_ValidFigure.j1, Bool.false_eq_true, if_false, if_neg (show ¬ (i : Int) > 0 by omega), w64 (x := (i : Int) + 1) (by omega) (by omega)]
          exact h2
      · by_cases c1 : (rd_T39 m ((i : Int) - 1)).f0 > m[i].f0
        · refine ⟨false, hs _ (ev_succ ?_), hp _ (ev_succ ?_), by simp⟩
          · simp only [spec_l16Figure.j1, Bool.false_eq_true, if_false, if_pos (show (i : Int) > 0 by omega), w64 (x := (i : Int) - 1) (by omega) (by omega), if_pos (show (0 : Int) ≤ (i : Int) - 1 by omega), if_pos (show (i : Int) - 1 < (m.length : Int) by omega), if_pos c1]
            exact ev_const rfl
          · simp only [impl_ValidFigure.j1, Bool.false_eq_true, if_false, if_pos (show (i : Int) > 0 by omega), w64 (x := (i : Int) - 1) (by omega) (by omega), if_pos (show (0 : Int) ≤ (i : Int) - 1 by omega), if_pos (show (i : Int) - 1 < (m.length : Int) by omega), if_pos c1]
            exact ev_const rfl
        · by_cases c2 : (rd_T39 m ((i : Int) - 1)).f0 = m[i].f0
          · by_cases c3 : (rd_T39 m ((i : Int) - 1)).f1 ≥ m[i].f1
            · refine ⟨false, hs _ (ev_succ ?_), hp _ (ev_succ ?_), by simp⟩
              · simp only [spec_l16Figure.j1, Bool.false_eq_true, if_false, if_pos (show (i : Int) > 0 by omega), w64 (x := (i : Int) - 1) (by omega) (by omega), if_pos (show (0 : Int) ≤ (i : Int) - 1 by omega), if_pos (show (i : Int) - 1 < (m.length : Int) by omega), if_neg c1, if_pos c2, if_pos c3]
                exact ev_const rfl
              · simp only [impl_ValidFigure.j1, Bool.false_eq_true, if_false, if_pos (show (i : Int) > 0 by omega), w64 (x := (i : Int) - 1) (by omega) (by omega), if_pos (show (0 : Int) ≤ (i : Int) - 1 by omega), if_pos (show (i : Int) - 1 < (m.length : Int) by omega), if_neg c1, if_pos c2, if_pos c3]
                exact ev_const rfl
            · refine ⟨r, hs _ (ev_succ ?_), hp _ (ev_succ ?_), hr⟩
              · simp only [spec_l16Figure.j1, Bool.false_eq_true, if_false, if_pos (show (i : Int) > 0 by omega), w64 (x := (i : Int) - 1) (by omega) (by omega), if_pos (show (0 : Int) ≤ (i : Int) - 1 by omega), if_pos (show (i : Int) - 1 < (m.length : Int) by omega), if_neg c1, if_pos c2, if_neg c3, w64 (x := (i : Int) + 1) (by omega) (by omega)]
                exact h1
              · simp only [impl_ValidFigure.j1, Bool.false_eq_true, if_false, if_pos (show (i : Int) > 0 by omega), w64 (x := (i : Int) - 1) (by omega) (by omega), if_pos (show (0 : Int) ≤ (i : Int) - 1 by omega), if_pos (show (i : Int) - 1 < (m.length : Int) by omega), if_neg c1, if_pos c2, if_neg c3, w64 (x := (i : Int) + 1) (by omega) (by omega)]
                exact h2
          · refine ⟨r, hs _ (ev_succ ?_), hp _ (ev_succ ?_), hr⟩
            · simp only [spec_l16Figure.j1, Bool.false_eq_true, if_false, if_pos (show (i : Int) > 0 by omega), w64 (x := (i : Int) - 1) (by omega) (by omega), if_pos (show (0 : Int) ≤ (i : Int) - 1 by omega), if_pos (show (i : Int) - 1 < (m.length : Int) by omega), if_neg c1, if_neg c2, w64 (x := (i : Int) + 1) (by omega) (by omega)]
              exact h1
            · simp only [impl_ValidFigure.j1, Bool.false_eq_true, if_false, if_pos (show (i : Int) > 0 by omega), w64 (x := (i : Int) - 1) (by omega) (by omega), if_pos (show (0 : Int) ≤ (i : Int) - 1 by omega), if_pos (show (i : Int) - 1 < (m.length : Int) by omega), if_neg c1, if_neg c2, w64 (x := (i : Int) + 1) (by omega) (by omega)]
              exact h2
    · have c' : ¬ ((0 : Int) ≤ m[i].f0 ∧ m[i].f0 < m[i].f1 ∧ m[i].f1 < (l.length : Int)) := c
      have hj : Ev (fun k => spec_l16Figure.j1 k l m l.length i true m[i].f0 m[i].f1) false := ev_succ (by simp only [spec_l16Figure.j1, if_true]; exact ev_const rfl)
      have hj2 : Ev (fun k => impl_ValidFigure.j1 k l m i m m.length i true m[i].f0 m[i].f1) false := ev_succ (by simp only [impl_ValidFigure.j1, if_true]; exact ev_const rfl)
      refine ⟨false, ev_succ ?_, ev_succ ?_, by simp⟩
      · simp only [spec_l16Figure.l0, if_pos (show (i : Int) < (m.length : Int) by omega), if_pos (show (0 : Int) ≤ (i : Int) by omega), rd_T39_at _ _ hlt, in_val, Option.bind_some, w64 (x := (l.length : Int) - 1) (by omega) (by omega)]
        by_cases c1 : (0 : Int) ≤ m[i].f0 ∧ m[i].f0 ≤ (l.length : Int) - 1
        · simp only [decide_eq_true c1, if_true, w64 (x := m[i].f0 + 1) (by omega) (by omega), decide_eq_false (show ¬ (m[i].f0 + 1 ≤ m[i].f1 ∧ m[i].f1 ≤ (l.length : Int) - 1) by omega), Bool.not_false]
          exact hj
        · simp only [decide_eq_false c1, Bool.false_eq_true, if_false]
          exact hj
      · simp only [impl_ValidFigure.l0, if_pos (show (i : Int) < (m.length : Int) by omega), if_pos (show (0 : Int) ≤ (i : Int) by omega), rd_T39_at _ _ hlt]
        by_cases c1 : m[i].f0 < 0
        · simp only [if_pos c1]
          exact hj2
        · by_cases c2 : m[i].f0 ≥ m[i].f1
          · simp only [if_neg c1, if_pos c2]
            exact hj2
          · simp only [if_neg c1, if_neg c2, decide_eq_true (show m[i].f1 ≥ (l.length : Int) by omega)]
            exact hj2
theorem figure_same (l : List S53) (hl : l.length ≤ 1048576) (m : List S39) (hm : m.length ≤ 1048576) :
    ∃ r, Ev (fun k => spec_l16Figure.f k l m) r ∧ Ev (fun k => impl_ValidFigure.f k l m) r ∧ (r = true → (∀ x ∈ m, LineOk l.length x) ∧ (m.length : Int) ≤ 40 ∧ catB l = true) :=
  figure_l l hl m hm m.length 0 (by omega) (by omega)

theorem rdn_at (l : List Int) (i : Nat) (h : i < l.length) : rd l (i : Int) = l[i] := by
  unfold rd
  rw [Int.toNat_natCast, List.getD_eq_getElem?_getD, List.getElem?_eq_getElem h]
  rfl
/-- The ends of all lines. -/
def pts (m : List S39) : List Int := m.flatMap (fun x => [x.f0, x.f1])
theorem pts_cons (x : S39) (m : List S39) : pts (x :: m) = x.f0 :: x.f1 :: pts m := rfl
theorem pts_len (m : List S39) : (pts m).length = 2 * m.length := by
  induction m with
  | nil => rfl
  | cons x m ih => rw [pts_cons, List.length_cons, List.length_cons, List.length_cons, ih]; omega
theorem pts_bound {n : Int} {m : List S39} (h : ∀ x ∈ m, LineOk n x) : ∀ y ∈ pts m, 0 ≤ y ∧ y < n := by
  intro y hy
  obtain ⟨x, hx, hy⟩ := List.mem_flatMap.1 hy
  have h2 := h x hx
  unfold LineOk at h2
  simp only [List.mem_cons, List.not_mem_nil, or_false] at hy
  rcases hy with rfl | rfl <;> omega
/-- The stars that stand in lines, in ascending order. -/
def starsV (n : Nat) (m : List S39) : List Int := ((List.range n).filter (fun j : Nat => decide ((j : Int) ∈ pts m))).map (fun j : Nat => (j : Int))
theorem starsV_asc (n : Nat) (m : List S39) : (starsV n m).Pairwise (· < ·) := by
  unfold starsV
  rw [List.pairwise_map]
  refine ((List.pairwise_lt_range (n := n)).filter _).imp ?_
  intro x y h
  omega
theorem starsV_mem {n : Nat} {m : List S39} (h : ∀ x ∈ m, LineOk n x) (y : Int) : y ∈ starsV n m ↔ y ∈ pts m := by
  unfold starsV
  rw [List.mem_map]
  constructor
  · rintro ⟨j, hj, rfl⟩
    exact of_decide_eq_true (List.mem_filter.1 hj).2
  · intro hy
    have := pts_bound h y hy
    refine ⟨y.toNat, List.mem_filter.2 ⟨List.mem_range.2 (by omega), decide_eq_true ?_⟩, by omega⟩
    rw [show ((y.toNat : Nat) : Int) = y by omega]
    exact hy
theorem starsV_len (n : Nat) (m : List S39) : (starsV n m).length ≤ n := by
  unfold starsV
  rw [List.length_map]
  exact Nat.le_trans (List.length_filter_le _ _) (by simp)
theorem asc_ext : ∀ (a b : List Int), a.Pairwise (· < ·) → b.Pairwise (· < ·) → (∀ x, x ∈ a ↔ x ∈ b) → a = b
  | [], [], _, _, _ => rfl
  | [], y :: b, _, _, h => absurd ((h y).2 List.mem_cons_self) (by simp)
  | x :: a, [], _, _, h => absurd ((h x).1 List.mem_cons_self) (by simp)
  | x :: a, y :: b, ha, hb, h => by
    rw [List.pairwise_cons] at ha hb
    have hxy : x = y := by
      rcases List.mem_cons.1 ((h x).1 List.mem_cons_self) with e | e
      · exact e
      · rcases List.mem_cons.1 ((h y).2 List.mem_cons_self) with e2 | e2
        · exact e2.symm
        · have := hb.1 x e
          have := ha.1 y e2
          omega
    subst hxy
    congr 1
    refine asc_ext a b ha.2 hb.2 (fun z => ⟨fun hz => ?_, fun hz => ?_⟩)
    · rcases List.mem_cons.1 ((h z).1 (List.mem_cons_of_mem _ hz)) with e | e
      · subst e
        have := ha.1 z hz
        omega
      · exact e
    · rcases List.mem_cons.1 ((h z).2 (List.mem_cons_of_mem _ hz)) with e | e
      · subst e
        have := hb.1 z hz
        omega
      · exact e
theorem compact_facts (d : Array Int) (hs : ∀ i j, i ≤ j → j < d.size → d[i]! ≤ d[j]!) (m : Nat) : m ≤ d.size → (Go.Lib.compactUpTo d m).Pairwise (· < ·) ∧ ∀ x, x ∈ Go.Lib.compactUpTo d m ↔ ∃ j, j < m ∧ d[j]! = x := by
  induction m with
  | zero =>
    intro _
    exact ⟨by simp [Go.Lib.compactUpTo], fun x => by simp [Go.Lib.compactUpTo]⟩
  | succ m ih =>
    intro hm
    obtain ⟨h1, h2⟩ := ih (by omega)
    rw [Go.Lib.compactUpTo_succ]
    by_cases hk : Go.Lib.keeps d m = true
    · rw [if_pos hk]
      have hk2 : m = 0 ∨ d[m]! ≠ d[m - 1]! := of_decide_eq_true hk
      refine ⟨?_, fun x => ?_⟩
      · rw [List.pairwise_append]
        refine ⟨h1, by simp, fun a ha b hb => ?_⟩
        rw [List.mem_singleton.1 hb]
        obtain ⟨j, hj, rfl⟩ := (h2 a).1 ha
        have q1 := hs j (m - 1) (by omega) (by omega)
        have q2 := hs (m - 1) m (by omega) (by omega)
        rcases hk2 with h | h
        · omega
        · omega
      · rw [List.mem_append, List.mem_singleton, h2]
        constructor
        · rintro (⟨j, hj, rfl⟩ | rfl)
          · exact ⟨j, by omega, rfl⟩
          · exact ⟨m, by omega, rfl⟩
        · rintro ⟨j, hj, rfl⟩
          by_cases e : j = m
          · subst e; exact .inr rfl
          · exact .inl ⟨j, by omega, rfl⟩
    · rw [if_neg hk, List.append_nil]
      have hk2 : ¬ (m = 0 ∨ d[m]! ≠ d[m - 1]!) := fun h => hk (decide_eq_true h)
      refine ⟨h1, fun x => ?_⟩
      rw [h2]
      constructor
      · rintro ⟨j, hj, rfl⟩
        exact ⟨j, by omega, rfl⟩
      · rintro ⟨j, hj, rfl⟩
        by_cases e : j = m
        · subst e
          have : d[j]! = d[j - 1]! := by
            by_cases q : d[j]! = d[j - 1]!
            · exact q
            · exact absurd (.inr q) hk2
          exact ⟨j - 1, by omega, this.symm⟩
        · exact ⟨j, by omega, rfl⟩
theorem sorted_compact (zs : List Int) : (Go.Lib.compact (zs.mergeSort fun x y => decide (x ≤ y))).Pairwise (· < ·) ∧ ∀ x, x ∈ Go.Lib.compact (zs.mergeSort fun x y => decide (x ≤ y)) ↔ x ∈ zs := by
  have hp : (zs.mergeSort fun x y => decide (x ≤ y)).Pairwise (fun a b => decide (a ≤ b) = true) := List.pairwise_mergeSort (fun a b c h1 h2 => by simp only [decide_eq_true_eq] at *; omega) (fun a b => by simp only [Bool.or_eq_true, decide_eq_true_eq]; omega) zs
  have hm : ∀ x, x ∈ (zs.mergeSort fun x y => decide (x ≤ y)) ↔ x ∈ zs := fun x => List.mem_mergeSort
  generalize (zs.mergeSort fun x y => decide (x ≤ y)) = ts at hp hm
  have hget : ∀ j (h : j < ts.length), ts.toArray[j]! = ts[j] := fun j h => by simp [h]
  have hs : ∀ i j, i ≤ j → j < ts.toArray.size → ts.toArray[i]! ≤ ts.toArray[j]! := by
    intro i j hij hj
    have hj' : j < ts.length := by simpa using hj
    rw [hget i (by omega), hget j hj']
    rcases Nat.eq_or_lt_of_le hij with e | e
    · subst e; omega
    · exact of_decide_eq_true (List.pairwise_iff_getElem.1 hp i j (by omega) hj' e)
  obtain ⟨h1, h2⟩ := compact_facts ts.toArray hs ts.length (by simp)
  unfold Go.Lib.compact
  refine ⟨h1, fun x => ?_⟩
  rw [h2, ← hm]
  constructor
  · rintro ⟨j, hj, rfl⟩
    rw [hget j hj]
    exact List.getElem_mem _
  · intro hx
    obtain ⟨j, hj, rfl⟩ := List.getElem_of_mem hx
    exact ⟨j, hj, hget j hj⟩
theorem ascending_val (n : Nat) (m : List S39) (hm : m.length ≤ 40) (h : ∀ x ∈ m, LineOk n x) : impl_ascending.f (pts m) = some (starsV n m) := by
  have hl := pts_len m
  unfold impl_ascending.f
  rw [if_pos (by omega)]
  refine congrArg some ?_
  obtain ⟨h1, h2⟩ := sorted_compact (pts m)
  exact asc_ext _ _ h1 (starsV_asc n m) (fun x => (h2 x).trans (starsV_mem h x).symm)
theorem istars_l (m : List S39) (hm : m.length ≤ 40) (n : Nat) (h : ∀ x ∈ m, LineOk n x) (d : Nat) : ∀ (i : Nat), i ≤ m.length → m.length - i = d → Ev (fun k => impl_starsOf.l0 k (pts (m.take i)) m m.length i) (starsV n m) := by
  induction d with
  | zero =>
    intro i hi hd
    apply ev_succ
    rw [List.take_of_length_le (by omega)]
    simp only [impl_starsOf.l0, if_neg (show ¬ (i : Int) < (m.length : Int) by omega), ascending_val n m hm h, Option.bind_some]
    exact ev_const rfl
  | succ d ih =>
    intro i hi hd
    have hlt : i < m.length := by omega
    have h1 := ih (i + 1) (by omega) (by omega)
    have hl := pts_len (m.take i)
    rw [List.length_take] at hl
    have e : pts (m.take (i + 1)) = pts (m.take i) ++ [m[i].f0, m[i].f1] := by
      rw [List.take_succ_eq_append_getElem hlt]
      unfold pts
      rw [List.flatMap_append]
      rfl
    rw [e] at h1
    apply ev_succ
    simp only [impl_starsOf.l0, if_pos (show (i : Int) < (m.length : Int) by omega), if_pos (show (0 : Int) ≤ (i : Int) by omega), rd_T39_at _ _ hlt, Option.bind_some, List.length_cons, List.length_nil, if_pos (show (pts (m.take i)).length + (0 + 1 + 1) < 17592186044416 by omega), w64 (x := (i : Int) + 1) (by omega) (by omega)]
    exact h1
theorem istars_ev (m : List S39) (hm : m.length ≤ 40) (n : Nat) (h : ∀ x ∈ m, LineOk n x) : Ev (fun k => impl_starsOf.f k m) (starsV n m) := istars_l m hm n h m.length 0 (by omega) (by omega)
/-- How many lines a star has. -/
def lines (m : List S39) (j : Nat) : Int := ((pts m).count (j : Int) : Int)
theorem rd_set (l : List Int) (i j : Nat) (hj : j < l.length) (v : Int) : rd (l.set i v) (j : Int) = if i = j then v else rd l (j : Int) := by
  rw [rdn_at _ _ (show j < (l.set i v).length by simpa using hj), List.getElem_set, rdn_at _ _ hj]
theorem slines_l (n : Nat) (hn : n ≤ 30) (m : List S39) (hm : m.length ≤ 40) (h : ∀ x ∈ m, LineOk n x) (d : Nat) : ∀ (x : List Int) (i : Nat), i ≤ m.length → m.length - i = d → x.length = n → (∀ j, j < n → rd x (j : Int) = lines (m.take i) j) →
    ∃ y, Ev (fun k => spec_l16Lines.l0 k m x i) y ∧ y.length = n ∧ ∀ j, j < n → rd y (j : Int) = lines m j := by
  induction d with
  | zero =>
    intro x i hi hd hx hv
    rw [List.take_of_length_le (by omega)] at hv
    refine ⟨x, ev_succ ?_, hx, hv⟩
    simp only [spec_l16Lines.l0, if_neg (show ¬ (i : Int) < (m.length : Int) by omega)]
    exact ev_const rfl
  | succ d ih =>
    intro x i hi hd hx hv
    have hlt : i < m.length := by omega
    have hL : (0 : Int) ≤ m[i].f0 ∧ m[i].f0 < m[i].f1 ∧ m[i].f1 < (n : Int) := h _ (List.getElem_mem hlt)
    obtain ⟨a, ha⟩ := Int.eq_ofNat_of_zero_le hL.1
    obtain ⟨b, hb⟩ := Int.eq_ofNat_of_zero_le (show 0 ≤ m[i].f1 by omega)
    have hcnt : ∀ j, 0 ≤ lines (m.take i) j ∧ lines (m.take i) j ≤ 80 := by
      intro j
      have h1 := List.count_le_length (a := (j : Int)) (l := pts (m.take i))
      rw [pts_len, List.length_take] at h1
      unfold lines
      omega
    have step : ∀ j, lines (m.take (i + 1)) j = lines (m.take i) j + (if a = j then 1 else 0) + (if b = j then 1 else 0) := by
      intro j
      have e : pts (m.take (i + 1)) = pts (m.take i) ++ [m[i].f0, m[i].f1] := by
        rw [List.take_succ_eq_append_getElem hlt]
        unfold pts
        rw [List.flatMap_append]
        rfl
      unfold lines
      have q : ∀ u : Nat, (if ((u : Int) == (j : Int)) = true then 1 else 0 : Nat) = if u = j then 1 else 0 := by
        intro u
        by_cases c : u = j
        · rw [if_pos c, if_pos (by rw [c]; exact beq_self_eq_true _)]
        · rw [if_neg c, if_neg (by rw [beq_iff_eq]; omega)]
      rw [e, List.count_append, List.count_cons, List.count_cons, List.count_nil, ha, hb, q a, q b]
      by_cases c1 : a = j <;> by_cases c2 : b = j <;> simp only [c1, c2, if_true, if_false] <;> omega
    have ka := hcnt a
    have kb := hcnt b
    obtain ⟨y, e, r1, r2⟩ := ih ((x.set a (rd x (a : Int) + 1)).set b (rd x (b : Int) + 1)) (i + 1) (by omega) (by omega) (by simpa using hx) (fun j hj => by
      rw [rd_set _ _ _ (by simpa using (by omega : j < x.length)), rd_set _ _ _ (by omega), step j, hv a (by omega), hv b (by omega), hv j hj]
      by_cases c1 : a = j
      · by_cases c2 : b = j
        · omega
        · rw [if_neg c2, if_pos c1, if_pos c1, if_neg c2, c1]; omega
      · by_cases c2 : b = j
        · rw [if_pos c2, if_neg c1, if_pos c2, c2]; omega
        · rw [if_neg c2, if_neg c1, if_neg c1, if_neg c2]; omega)
    refine ⟨y, ev_succ ?_, r1, r2⟩
    have hrb : rd (x.set a (rd x (a : Int) + 1)) (b : Int) = rd x (b : Int) := by rw [rd_set _ _ _ (by omega), if_neg (by omega)]
    have va := hv a (by omega)
    have vb := hv b (by omega)
    simp only [spec_l16Lines.l0, if_pos (show (i : Int) < (m.length : Int) by omega), if_pos (show (0 : Int) ≤ (i : Int) by omega), rd_T39_at _ _ hlt, ha, hb, if_pos (show (0 : Int) ≤ (a : Int) by omega), if_pos (show (a : Int) < (x.length : Int) by omega), if_pos (show (0 : Int) ≤ (b : Int) by omega), if_pos (show (b : Int) < (x.length : Int) by omega), Option.bind_some, Int.toNat_natCast, w64 (x := rd x (a : Int) + 1) (by omega) (by omega), hrb, w64 (x := rd x (b : Int) + 1) (by omega) (by omega), w64 (x := (i : Int) + 1) (by omega) (by omega)]
    exact e
theorem slines_ev (l : List S53) (hn : l.length ≤ 30) (m : List S39) (hm : m.length ≤ 40) (h : ∀ x ∈ m, LineOk l.length x) : ∃ y, Ev (fun k => spec_l16Lines.f k l m) y ∧ y.length = l.length ∧ ∀ j, j < l.length → rd y (j : Int) = lines m j := by
  obtain ⟨y, e, r⟩ := slines_l l.length hn m hm h m.length (List.replicate l.length 0) 0 (by omega) (by omega) (by simp) (fun j hj => by
    rw [rdn_at _ _ (by simpa using hj), List.getElem_replicate]
    simp [lines, pts])
  refine ⟨y, ?_, r⟩
  unfold spec_l16Lines.f
  simp only [if_pos (show (0 : Int) ≤ (l.length : Int) by omega), if_pos (show ((l.length : Int)).toNat ≤ 35184372088832 by omega)]
  exact e
theorem lines_pos (m : List S39) (j : Nat) : lines m j > 0 ↔ (j : Int) ∈ pts m := by
  unfold lines
  rw [← List.count_pos_iff]
  omega
theorem sstars_l (m : List S39) (y : List Int) (hy : y.length ≤ 30) (hv : ∀ j, j < y.length → rd y (j : Int) = lines m j) (d : Nat) : ∀ (out : List Int) (i : Nat), i ≤ y.length → y.length - i = d → out.length ≤ i →
    Ev (fun k => spec_l16Stars.l0 k y out i) (out ++ ((List.range' i d).filter (fun j : Nat => decide ((j : Int) ∈ pts m))).map (fun j : Nat => (j : Int))) := by
  induction d with
  | zero =>
    intro out i hi hd ho
    apply ev_succ
    simp only [spec_l16Stars.l0, if_neg (show ¬ (i : Int) < (y.length : Int) by omega)]
    exact ev_const (by simp)
  | succ d ih =>
    intro out i hi hd ho
    have hlt : i < y.length := by omega
    rw [List.range'_succ, List.filter_cons]
    apply ev_succ
    by_cases c : (i : Int) ∈ pts m
    · have h1 := ih (out ++ [(i : Int)]) (i + 1) (by omega) (by omega) (by simp; omega)
      have hp := (lines_pos m i).2 c
      simp only [spec_l16Stars.l0, if_pos (show (i : Int) < (y.length : Int) by omega), if_pos (show (0 : Int) ≤ (i : Int) by omega), hv i hlt, if_pos hp, if_pos (show out.length < 17592186044416 by omega), w64 (x := (i : Int) + 1) (by omega) (by omega), decide_eq_true c, if_true, List.map_cons]
      rw [List.append_assoc] at h1
      exact h1
    · have h1 := ih out (i + 1) (by omega) (by omega) (by omega)
      have hp : ¬ lines m i > 0 := fun h => c ((lines_pos m i).1 h)
      simp only [spec_l16Stars.l0, if_pos (show (i : Int) < (y.length : Int) by omega), if_pos (show (0 : Int) ≤ (i : Int) by omega), hv i hlt, if_neg hp, w64 (x := (i : Int) + 1) (by omega) (by omega), decide_eq_false c, Bool.false_eq_true, if_false]
      exact h1
theorem sstars_ev (l : List S53) (hn : l.length ≤ 30) (m : List S39) (hm : m.length ≤ 40) (h : ∀ x ∈ m, LineOk l.length x) : Ev (fun k => spec_l16Stars.f k l m) (starsV l.length m) := by
  obtain ⟨y, e, r1, r2⟩ := slines_ev l hn m hm h
  have h1 := sstars_l m y (by omega) (fun j hj => r2 j (by omega)) y.length [] 0 (by omega) (by omega) (by simp)
  unfold spec_l16Stars.f
  refine Ev.bind e ?_
  unfold starsV
  rw [List.range_eq_range', ← r1]
  exact h1

theorem has00_l (l : List Int) (hl : l.length ≤ 1000) (a : Int) (d : Nat) : ∀ (i : Nat), i ≤ l.length → l.length - i = d → Ev (fun k => spec_l00Has.l0 k l a i) (decide (a ∈ l.drop i)) ∧ ∃ v : Int, Ev (fun k => slices_Index_int64_int64.l0 k l a l.length i) v ∧ decide (v ≥ 0) = decide (a ∈ l.drop i) := by
  induction d with
  | zero =>
    intro i hi hd
    rw [List.drop_eq_nil_of_le (by omega)]
    refine ⟨ev_succ ?_, -1, ev_succ ?_, by simp⟩
    · simp only [spec_l00Has.l0, if_neg (show ¬ (i : Int) < (l.length : Int) by omega)]
      exact ev_const (by simp)
    · simp only [slices_Index_int64_int64.l0, if_neg (show ¬ (i : Int) < (l.length : Int) by omega)]
      exact ev_const rfl
  | succ d ih =>
    intro i hi hd
    have hlt : i < l.length := by omega
    obtain ⟨h1, v, h2, h3⟩ := ih (i + 1) (by omega) (by omega)
    rw [List.drop_eq_getElem_cons hlt]
    by_cases c : l[i] = a
    · rw [decide_eq_true (show a ∈ l[i] :: l.drop (i + 1) from by rw [c]; exact List.mem_cons_self)]
      refine ⟨ev_succ ?_, i, ev_succ ?_, decide_eq_true (by omega)⟩
      · simp only [spec_l00Has.l0, if_pos (show (i : Int) < (l.length : Int) by omega), if_pos (show (0 : Int) ≤ (i : Int) by omega), rdn_at _ _ hlt, if_pos c]
        exact ev_const rfl
      · simp only [slices_Index_int64_int64.l0, if_pos (show (i : Int) < (l.length : Int) by omega), if_pos (show (0 : Int) ≤ (i : Int) by omega), rdn_at _ _ hlt, if_pos c.symm]
        exact ev_const rfl
    · have e : decide (a ∈ l[i] :: l.drop (i + 1)) = decide (a ∈ l.drop (i + 1)) := decide_eq_decide.2 ⟨fun h => (List.mem_cons.1 h).resolve_left (fun q => c q.symm), fun h => List.mem_cons_of_mem _ h⟩
      rw [e]
      refine ⟨ev_succ ?_, v, ev_succ ?_, h3⟩
      · simp only [spec_l00Has.l0, if_pos (show (i : Int) < (l.length : Int) by omega), if_pos (show (0 : Int) ≤ (i : Int) by omega), rdn_at _ _ hlt, if_neg c, w64 (x := (i : Int) + 1) (by omega) (by omega)]
        exact h1
      · simp only [slices_Index_int64_int64.l0, if_pos (show (i : Int) < (l.length : Int) by omega), if_pos (show (0 : Int) ≤ (i : Int) by omega), rdn_at _ _ hlt, if_neg (show ¬ a = l[i] from fun q => c q.symm), w64 (x := (i : Int) + 1) (by omega) (by omega)]
        exact h2
theorem has00_spec (l : List Int) (hl : l.length ≤ 1000) (a : Int) : Ev (fun k => spec_l00Has.f k l a) (decide (a ∈ l)) := (has00_l l hl a l.length 0 (by omega) (by omega)).1
theorem has00_impl (l : List Int) (hl : l.length ≤ 1000) (a : Int) : Ev (fun k => slices_Contains_int64_int64.f k l a) (decide (a ∈ l)) := by
  obtain ⟨_, v, h2, h3⟩ := has00_l l hl a l.length 0 (by omega) (by omega)
  unfold slices_Contains_int64_int64.f
  refine Ev.bind h2 ?_
  rw [h3]
  exact ev_const rfl
/-- Different numbers from 0 to n - 1. -/
def Diff (n : Nat) (l : List Int) : Prop := (∀ a, l.count a ≤ 1) ∧ ∀ y ∈ l, 0 ≤ y ∧ y < (n : Int)
theorem diff_le (n : Nat) : ∀ (l : List Int), Diff n l → l.length ≤ n := by
  induction n with
  | zero =>
    intro l h
    cases l with
    | nil => simp
    | cons a l => have := h.2 a List.mem_cons_self; omega
  | succ n ih =>
    intro l h
    have h1 := ih (l.filter (fun y => !(y == (n : Int)))) ⟨fun a => Nat.le_trans (List.Sublist.count_le a (List.filter_sublist)) (h.1 a), fun y hy => by
      obtain ⟨hy1, hy2⟩ := List.mem_filter.1 hy
      have := h.2 y hy1
      have hne : ¬ y = (n : Int) := by simpa using hy2
      omega⟩
    have h2 := List.length_eq_countP_add_countP (l := l) (fun y => y == (n : Int))
    have h3 : l.countP (fun y => y == (n : Int)) ≤ 1 := h.1 (n : Int)
    rw [← List.countP_eq_length_filter] at h1
    have h4 : l.countP (fun a => decide ¬(a == (n : Int)) = true) = l.countP (fun y => !(y == (n : Int))) := by
      congr 1
      funext y
      cases (y == (n : Int)) <;> rfl
    omega
theorem diff_app {n : Nat} {l : List Int} (h : Diff n l) {z : Int} (hz : ¬ z ∈ l) (h0 : 0 ≤ z) (h1 : z < (n : Int)) : Diff n (l ++ [z]) := by
  refine ⟨fun a => ?_, fun y hy => ?_⟩
  · rw [List.count_append, List.count_cons, List.count_nil]
    by_cases c : z = a
    · subst c
      rw [List.count_eq_zero.2 hz]
      simp
    · rw [if_neg (by rw [beq_iff_eq]; exact c)]
      have := h.1 a
      omega
  · rcases List.mem_append.1 hy with q | q
    · exact h.2 y q
    · rw [List.mem_singleton.1 q]; exact ⟨h0, h1⟩
theorem rd_app (l : List Int) (z : Int) (i : Nat) (h : i < l.length) : rd (l ++ [z]) (i : Int) = rd l (i : Int) := by
  rw [rdn_at _ _ (show i < (l ++ [z]).length by rw [List.length_append]; omega), rdn_at _ _ h, List.getElem_append_left h]
theorem rd_mem (l : List Int) (i : Nat) (h : i < l.length) : rd l (i : Int) ∈ l := by rw [rdn_at _ _ h]; exact List.getElem_mem _
/-- One round over the lines: both reach the same stars. -/
theorem round_l (n : Nat) (hn : n ≤ 30) (m : List S39) (hm : m.length ≤ 40) (hL : ∀ x ∈ m, LineOk n x) (S : List Int) (at_ : Nat) (d : Nat) : ∀ (seen : List Int) (i : Nat), i ≤ m.length → m.length - i = d → Diff n seen → at_ < seen.length →
    ∃ seen', Diff n seen' ∧ seen.length ≤ seen'.length ∧ (∀ v, Ev (fun k => spec_l16Piece.l0 k m S seen' ((at_ + 1 : Nat) : Int)) v → Ev (fun k => spec_l16Piece.l1 k m S seen at_ i) v) ∧ (∀ v, Ev (fun k => impl_isOnePiece.l0 k m seen' ((at_ + 1 : Nat) : Int)) v → Ev (fun k => impl_isOnePiece.l1 k m seen at_ m m.length i) v) := by
  induction d with
  | zero =>
    intro seen i hi hd hD hat
    have hlen := diff_le n seen hD
    refine ⟨seen, hD, Nat.le_refl _, fun v hv => ev_succ ?_, fun v hv => ev_succ ?_⟩
    · simp only [spec_l16Piece.l1, if_neg (show ¬ (i : Int) < (m.length : Int) by omega), w64 (x := (at_ : Int) + 1) (by omega) (by omega)]
      exact hv
    · simp only [impl_isOnePiece.l1, if_neg (show ¬ (i : Int) < (m.length : Int) by omega), w64 (x := (at_ : Int) + 1) (by omega) (by omega)]
      exact hv
  | succ d ih =>
    intro seen i hi hd hD hat
    have hlen := diff_le n seen hD
    have hlt : i < m.length := by omega
    have hx : (0 : Int) ≤ m[i].f0 ∧ m[i].f0 < m[i].f1 ∧ m[i].f1 < (n : Int) := hL _ (List.getElem_mem hlt)
    have hr := rd_mem seen at_ hat
    -- the reference's step: what stands in 'seen' behind it
    have go : ∀ (seen2 : List Int), Diff n seen2 → seen.length ≤ seen2.length →
        (∀ v, Ev (fun k => spec_l16Piece.l1 k m S seen2 at_ ((i + 1 : Nat) : Int)) v → Ev (fun k => spec_l16Piece.l1 k m S seen at_ i) v) →
        (∀ v, Ev (fun k => impl_isOnePiece.l1 k m seen2 at_ m m.length ((i + 1 : Nat) : Int)) v → Ev (fun k => impl_isOnePiece.l1 k m seen at_ m m.length i) v) →
        ∃ seen', Diff n seen' ∧ seen.length ≤ seen'.length ∧ (∀ v, Ev (fun k => spec_l16Piece.l0 k m S seen' ((at_ + 1 : Nat) : Int)) v → Ev (fun k => spec_l16Piece.l1 k m S seen at_ i) v) ∧ (∀ v, Ev (fun k => impl_isOnePiece.l0 k m seen' ((at_ + 1 : Nat) : Int)) v → Ev (fun k => impl_isOnePiece.l1 k m seen at_ m m.length i) v) := by
      intro seen2 hD2 hl2 hs hi2
      obtain ⟨seen3, q1, q2, q3, q4⟩ := ih seen2 (i + 1) (by omega) (by omega) hD2 (by omega)
      exact ⟨seen3, q1, by omega, fun v hv => hs v (q3 v hv), fun v hv => hi2 v (q4 v hv)⟩
    -- the entry of the program's inner loop
    have ent : ∀ v, Ev (fun k => impl_isOnePiece.l2 k m seen at_ m m.length i [m[i].f0, m[i].f1] 2 0 m[i].f0 m[i].f1) v → Ev (fun k => impl_isOnePiece.l1 k m seen at_ m m.length i) v := by
      intro v hv
      apply ev_succ
      simp only [impl_isOnePiece.l1, if_pos (show (i : Int) < (m.length : Int) by omega), if_pos (show (0 : Int) ≤ (i : Int) by omega), rd_T39_at _ _ hlt, Option.bind_some, List.length_cons, List.length_nil]
      exact hv
    have r0 : rd [m[i].f0, m[i].f1] 0 = m[i].f0 := rfl
    have r1 : rd [m[i].f0, m[i].f1] 1 = m[i].f1 := rfl
    have lv : ∀ (s2 : List Int) v, Ev (fun k => impl_isOnePiece.l1 k m s2 at_ m m.length ((i + 1 : Nat) : Int)) v → Ev (fun k => impl_isOnePiece.l2 k m s2 at_ m m.length i [m[i].f0, m[i].f1] 2 2 m[i].f0 m[i].f1) v := by
      intro s2 v hv
      apply ev_succ
      simp only [impl_isOnePiece.l2, if_neg (show ¬ (2 : Int) < 2 by omega), w64 (x := (i : Int) + 1) (by omega) (by omega)]
      exact hv
    have two : (([m[i].f0, m[i].f1] : List Int).length : Int) = 2 := rfl
    by_cases cA : m[i].f0 = rd seen (at_ : Int)
    · have cB : ¬ m[i].f1 = rd seen (at_ : Int) := by omega
      -- next = A: already there
      have first : ∀ v, Ev (fun k => impl_isOnePiece.l2 k m seen at_ m m.length i [m[i].f0, m[i].f1] 2 1 m[i].f0 m[i].f1) v → Ev (fun k => impl_isOnePiece.l2 k m seen at_ m m.length i [m[i].f0, m[i].f1] 2 0 m[i].f0 m[i].f1) v := by
        intro v hv
        apply ev_succ
        simp only [impl_isOnePiece.l2, if_pos (show (0 : Int) < 2 by omega), if_pos (show (0 : Int) ≤ 0 by omega), two, if_pos (show (0 : Int) ≤ (at_ : Int) by omega), if_pos (show (at_ : Int) < (seen.length : Int) by omega), if_pos cA, r0]
        refine Ev.bind (has00_impl seen (by omega) _) ?_
        simp only [decide_eq_true (show m[i].f0 ∈ seen by rw [cA]; exact hr), if_true, w64 (x := (0 : Int) + 1) (by omega) (by omega)]
        exact hv
      by_cases cM : m[i].f1 ∈ seen
      · refine go seen hD (Nat.le_refl _) (fun v hv => ev_succ ?_) (fun v hv => ent v (first v (ev_succ ?_)))
        · simp only [spec_l16Piece.l1, if_pos (show (i : Int) < (m.length : Int) by omega), if_pos (show (0 : Int) ≤ (i : Int) by omega), if_pos (show (0 : Int) ≤ (at_ : Int) by omega), if_pos (show (at_ : Int) < (seen.length : Int) by omega), rd_T39_at _ _ hlt, if_pos cA]
          refine Ev.bind (has00_spec seen (by omega) _) ?_
          simp only [decide_eq_true cM, Bool.not_true]
          refine ev_succ ?_
          simp only [spec_l16Piece.j2, Bool.false_eq_true, if_false, if_pos (show (i : Int) < (m.length : Int) by omega), if_pos (show (0 : Int) ≤ (i : Int) by omega), if_pos (show (0 : Int) ≤ (at_ : Int) by omega), if_pos (show (at_ : Int) < (seen.length : Int) by omega), rd_T39_at _ _ hlt, if_neg cB, w64 (x := (i : Int) + 1) (by omega) (by omega)]
          exact hv
        · simp only [impl_isOnePiece.l2, if_pos (show (1 : Int) < 2 by omega), if_pos (show (0 : Int) ≤ 1 by omega), two, if_pos (show (0 : Int) ≤ (at_ : Int) by omega), if_pos (show (at_ : Int) < (seen.length : Int) by omega), if_pos cA, r1]
          refine Ev.bind (has00_impl seen (by omega) _) ?_
          simp only [decide_eq_true cM, if_true, w64 (x := (1 : Int) + 1) (by omega) (by omega)]
          exact lv seen v hv
      · refine go (seen ++ [m[i].f1]) (diff_app hD cM (by omega) hx.2.2) (by rw [List.length_append]; omega) (fun v hv => ev_succ ?_) (fun v hv => ent v (first v (ev_succ ?_)))
        · simp only [spec_l16Piece.l1, if_pos (show (i : Int) < (m.length : Int) by omega), if_pos (show (0 : Int) ≤ (i : Int) by omega), if_pos (show (0 : Int) ≤ (at_ : Int) by omega), if_pos (show (at_ : Int) < (seen.length : Int) by omega), rd_T39_at _ _ hlt, if_pos cA]
          refine Ev.bind (has00_spec seen (by omega) _) ?_
          simp only [decide_eq_false cM, Bool.not_false]
          refine ev_succ ?_
          simp only [spec_l16Piece.j2, if_true, if_pos (show (i : Int) < (m.length : Int) by omega), if_pos (show (0 : Int) ≤ (i : Int) by omega), if_pos (show seen.length < 17592186044416 by omega), Option.bind_some, if_pos (show (0 : Int) ≤ (at_ : Int) by omega), if_pos (show (at_ : Int) < ((seen ++ [m[i].f1]).length : Int) by rw [List.length_append]; omega), rd_T39_at _ _ hlt, rd_app _ _ _ hat, if_neg cB, w64 (x := (i : Int) + 1) (by omega) (by omega)]
          exact hv
        · simp only [impl_isOnePiece.l2, if_pos (show (1 : Int) < 2 by omega), if_pos (show (0 : Int) ≤ 1 by omega), two, if_pos (show (0 : Int) ≤ (at_ : Int) by omega), if_pos (show (at_ : Int) < (seen.length : Int) by omega), if_pos cA, r1]
          refine Ev.bind (has00_impl seen (by omega) _) ?_
          simp only [decide_eq_false cM, Bool.false_eq_true, if_false, if_pos (show seen.length < 17592186044416 by omega), w64 (x := (1 : Int) + 1) (by omega) (by omega)]
          exact lv _ v hv
    · by_cases cB : m[i].f1 = rd seen (at_ : Int)
      · by_cases cM : m[i].f0 ∈ seen
        · refine go seen hD (Nat.le_refl _) (fun v hv => ev_succ ?_) (fun v hv => ent v (ev_succ ?_))
          · simp only [spec_l16Piece.l1, if_pos (show (i : Int) < (m.length : Int) by omega), if_pos (show (0 : Int) ≤ (i : Int) by omega), if_pos (show (0 : Int) ≤ (at_ : Int) by omega), if_pos (show (at_ : Int) < (seen.length : Int) by omega), rd_T39_at _ _ hlt, if_neg cA]
            refine ev_succ ?_
            simp only [spec_l16Piece.j2, Bool.false_eq_true, if_false, if_pos (show (i : Int) < (m.length : Int) by omega), if_pos (show (0 : Int) ≤ (i : Int) by omega), if_pos (show (0 : Int) ≤ (at_ : Int) by omega), if_pos (show (at_ : Int) < (seen.length : Int) by omega), rd_T39_at _ _ hlt, if_pos cB]
            refine Ev.bind (has00_spec seen (by omega) _) ?_
            simp only [decide_eq_true cM, if_true, w64 (x := (i : Int) + 1) (by omega) (by omega)]
            exact hv
          · simp only [impl_isOnePiece.l2, if_pos (show (0 : Int) < 2 by omega), if_pos (show (0 : Int) ≤ 0 by omega), two, if_pos (show (0 : Int) ≤ (at_ : Int) by omega), if_pos (show (at_ : Int) < (seen.length : Int) by omega), if_neg cA, if_pos cB, r0]
            refine Ev.bind (has00_impl seen (by omega) _) ?_
            simp only [decide_eq_true cM, if_true, w64 (x := (0 : Int) + 1) (by omega) (by omega)]
            refine ev_succ ?_
            simp only [impl_isOnePiece.l2, show (0 : Int) + 1 = 1 from rfl, if_pos (show (1 : Int) < 2 by omega), if_pos (show (0 : Int) ≤ 1 by omega), two, if_pos (show (0 : Int) ≤ (at_ : Int) by omega), if_pos (show (at_ : Int) < (seen.length : Int) by omega), if_neg cA, if_pos cB, r1]
            refine Ev.bind (has00_impl seen (by omega) _) ?_
            simp only [decide_eq_true (show m[i].f1 ∈ seen by rw [cB]; exact hr), if_true, w64 (x := (1 : Int) + 1) (by omega) (by omega)]
            exact lv seen v hv
        · have hat2 : at_ < (seen ++ [m[i].f0]).length := by rw [List.length_append]; omega
          refine go (seen ++ [m[i].f0]) (diff_app hD cM hx.1 (by omega)) (by rw [List.length_append]; omega) (fun v hv => ev_succ ?_) (fun v hv => ent v (ev_succ ?_))
          · simp only [spec_l16Piece.l1, if_pos (show (i : Int) < (m.length : Int) by omega), if_pos (show (0 : Int) ≤ (i : Int) by omega), if_pos (show (0 : Int) ≤ (at_ : Int) by omega), if_pos (show (at_ : Int) < (seen.length : Int) by omega), rd_T39_at _ _ hlt, if_neg cA]
            refine ev_succ ?_
            simp only [spec_l16Piece.j2, Bool.false_eq_true, if_false, if_pos (show (i : Int) < (m.length : Int) by omega), if_pos (show (0 : Int) ≤ (i : Int) by omega), if_pos (show (0 : Int) ≤ (at_ : Int) by omega), if_pos (show (at_ : Int) < (seen.length : Int) by omega), rd_T39_at _ _ hlt, if_pos cB]
            refine Ev.bind (has00_spec seen (by omega) _) ?_
            simp only [decide_eq_false cM, Bool.false_eq_true, if_false, if_pos (show seen.length < 17592186044416 by omega), w64 (x := (i : Int) + 1) (by omega) (by omega)]
            exact hv
          · simp only [impl_isOnePiece.l2, if_pos (show (0 : Int) < 2 by omega), if_pos (show (0 : Int) ≤ 0 by omega), two, if_pos (show (0 : Int) ≤ (at_ : Int) by omega), if_pos (show (at_ : Int) < (seen.length : Int) by omega), if_neg cA, if_pos cB, r0]
            refine Ev.bind (has00_impl seen (by omega) _) ?_
            simp only [decide_eq_false cM, Bool.false_eq_true, if_false, if_pos (show seen.length < 17592186044416 by omega), w64 (x := (0 : Int) + 1) (by omega) (by omega)]
            refine ev_succ ?_
            simp only [impl_isOnePiece.l2, show (0 : Int) + 1 = 1 from rfl, if_pos (show (1 : Int) < 2 by omega), if_pos (show (0 : Int) ≤ 1 by omega), two, if_pos (show (0 : Int) ≤ (at_ : Int) by omega), if_pos (show (at_ : Int) < ((seen ++ [m[i].f0]).length : Int) by omega), rd_app _ _ _ hat, if_neg cA, if_pos cB, r1]
            refine Ev.bind (has00_impl (seen ++ [m[i].f0]) (by rw [List.length_append, List.length_singleton]; omega) _) ?_
            simp only [decide_eq_true (show m[i].f1 ∈ seen ++ [m[i].f0] by rw [cB]; exact List.mem_append_left _ hr), if_true, w64 (x := (1 : Int) + 1) (by omega) (by omega)]
            exact lv _ v hv
      · refine go seen hD (Nat.le_refl _) (fun v hv => ev_succ ?_) (fun v hv => ent v (ev_succ ?_))
        · simp only [spec_l16Piece.l1, if_pos (show (i : Int) < (m.length : Int) by omega), if_pos (show (0 : Int) ≤ (i : Int) by omega), if_pos (show (0 : Int) ≤ (at_ : Int) by omega), if_pos (show (at_ : Int) < (seen.length : Int) by omega), rd_T39_at _ _ hlt, if_neg cA]
          refine ev_succ ?_
          simp only [spec_l16Piece.j2, Bool.false_eq_true, if_false, if_pos (show (i : Int) < (m.length : Int) by omega), if_pos (show (0 : Int) ≤ (i : Int) by omega), if_pos (show (0 : Int) ≤ (at_ : Int) by omega), if_pos (show (at_ : Int) < (seen.length : Int) by omega), rd_T39_at _ _ hlt, if_neg cB, w64 (x := (i : Int) + 1) (by omega) (by omega)]
          exact hv
        · simp only [impl_isOnePiece.l2, if_pos (show (0 : Int) < 2 by omega), if_pos (show (0 : Int) ≤ 0 by omega), two, if_pos (show (0 : Int) ≤ (at_ : Int) by omega), if_pos (show (at_ : Int) < (seen.length : Int) by omega), if_neg cA, if_neg cB, w64 (x := (0 : Int) + 1) (by omega) (by omega)]
          refine ev_succ ?_
          simp only [impl_isOnePiece.l2, show (0 : Int) + 1 = 1 from rfl, if_pos (show (1 : Int) < 2 by omega), if_pos (show (0 : Int) ≤ 1 by omega), two, if_pos (show (0 : Int) ≤ (at_ : Int) by omega), if_pos (show (at_ : Int) < (seen.length : Int) by omega), if_neg cA, if_neg cB, w64 (x := (1 : Int) + 1) (by omega) (by omega)]
          exact lv seen v hv
theorem reach_l (n : Nat) (hn : n ≤ 30) (m : List S39) (hm : m.length ≤ 40) (hL : ∀ x ∈ m, LineOk n x) (e : Nat) : ∀ (seen : List Int) (at_ : Nat), at_ ≤ seen.length → n - at_ = e → Diff n seen →
    ∃ r, Ev (fun k => spec_l16Piece.l0 k m (starsV n m) seen at_) r ∧ Ev (fun k => impl_isOnePiece.l0 k m seen at_) r := by
  induction e with
  | zero =>
    intro seen at_ ha he hD
    have hlen := diff_le n seen hD
    refine ⟨((seen.length : Int) == ((starsV n m).length : Int)), ev_succ ?_, ev_succ ?_⟩
    · simp only [spec_l16Piece.l0, if_neg (show ¬ (at_ : Int) < (seen.length : Int) by omega)]
      exact ev_const rfl
    · simp only [impl_isOnePiece.l0, if_neg (show ¬ (at_ : Int) < (seen.length : Int) by omega)]
      exact Ev.bind (istars_ev m hm n hL) (ev_const rfl)
  | succ e ih =>
    intro seen at_ ha he hD
    have hlen := diff_le n seen hD
    by_cases c : at_ < seen.length
    · obtain ⟨seen', q1, q2, q3, q4⟩ := round_l n hn m hm hL (starsV n m) at_ m.length seen 0 (by omega) (by omega) hD c
      have hlen' := diff_le n seen' q1
      obtain ⟨r, h1, h2⟩ := ih seen' (at_ + 1) (by omega) (by omega) q1
      refine ⟨r, ev_succ ?_, ev_succ ?_⟩
      · simp only [spec_l16Piece.l0, if_pos (show (at_ : Int) < (seen.length : Int) by omega)]
        exact q3 r h1
      · simp only [impl_isOnePiece.l0, if_pos (show (at_ : Int) < (seen.length : Int) by omega)]
        exact q4 r h2
    · refine ⟨((seen.length : Int) == ((starsV n m).length : Int)), ev_succ ?_, ev_succ ?_⟩
      · simp only [spec_l16Piece.l0, if_neg (show ¬ (at_ : Int) < (seen.length : Int) by omega)]
        exact ev_const rfl
      · simp only [impl_isOnePiece.l0, if_neg (show ¬ (at_ : Int) < (seen.length : Int) by omega)]
        exact Ev.bind (istars_ev m hm n hL) (ev_const rfl)
/-- The lines of a figure ascend by their first stars. -/
theorem fig_chain (l : List S53) (hl : l.length ≤ 30) (m : List S39) (hm : m.length ≤ 40) (hL : ∀ x ∈ m, LineOk l.length x) (d : Nat) : ∀ (i : Nat), i ≤ m.length → m.length - i = d → Ev (fun k => impl_ValidFigure.l0 k l m m m.length i) true →
    ∀ (j : Nat) (hj : j < m.length), i ≤ j → 0 < j → (m[j - 1]'(by omega)).f0 ≤ (m[j]).f0 := by
  induction d with
  | zero =>
    intro i hi hd _ j hj hij _
    omega
  | succ d ih =>
    intro i hi hd hE j hj hij hj0
    have hlt : i < m.length := by omega
    have hx : (0 : Int) ≤ m[i].f0 ∧ m[i].f0 < m[i].f1 ∧ m[i].f1 < (l.length : Int) := hL _ (List.getElem_mem hlt)
    obtain ⟨K, hK⟩ := hE
    have hu : ∀ k, K ≤ k → impl_ValidFigure.l0 (k + 1 + 1) l m m m.length i = some true := fun k hk => hK (k + 1 + 1) (by omega)
    simp only [impl_ValidFigure.l0, if_pos (show (i : Int) < (m.length : Int) by omega), if_pos (show (0 : Int) ≤ (i : Int) by omega), rd_T39_at _ _ hlt, if_neg (show ¬ m[i].f0 < 0 by omega), if_neg (show ¬ m[i].f0 ≥ m[i].f1 by omega), decide_eq_false (show ¬ m[i].f1 ≥ (l.length : Int) by omega), impl_ValidFigure.j1, Bool.false_eq_true, if_false] at hu
    by_cases c3 : i = 0
    · simp only [if_neg (show ¬ (i : Int) > 0 by omega), w64 (x := (i : Int) + 1) (by omega) (by omega)] at hu
      exact ih (i + 1) (by omega) (by omega) ⟨K, hu⟩ j hj (by omega) hj0
    · have hmi : i - 1 < m.length := by omega
      have hrd : rd_T39 m ((i : Int) - 1) = m[i - 1] := by rw [show (i : Int) - 1 = ((i - 1 : Nat) : Int) by omega]; exact rd_T39_at _ _ hmi
      simp only [if_pos (show (i : Int) > 0 by omega), w64 (x := (i : Int) - 1) (by omega) (by omega), if_pos (show (0 : Int) ≤ (i : Int) - 1 by omega), if_pos (show (i : Int) - 1 < (m.length : Int) by omega), hrd, w64 (x := (i : Int) + 1) (by omega) (by omega)] at hu
      by_cases c4 : m[i - 1].f0 > m[i].f0
      · have := hu K (Nat.le_refl _)
        simp only [if_pos c4] at this
        cases this
      · simp only [if_neg c4] at hu
        by_cases e : j = i
        · subst e; omega
        · refine ih (i + 1) (by omega) (by omega) ⟨K, fun k hk => ?_⟩ j hj (by omega) hj0
          have h := hu k hk
          by_cases c5 : m[i - 1].f0 = m[i].f0
          · simp only [if_pos c5] at h
            by_cases c6 : m[i - 1].f1 ≥ m[i].f1
            · simp only [if_pos c6] at h
              cases h
            · simp only [if_neg c6] at h
              exact h
          · simp only [if_neg c5] at h
            exact h
theorem first_star (n : Nat) (m : List S39) (hL : ∀ x ∈ m, LineOk n x) (h0 : 0 < m.length) (hc : ∀ (j : Nat) (hj : j < m.length), 0 < j → (m[j - 1]'(by omega)).f0 ≤ (m[j]).f0) : ∃ h : 0 < (starsV n m).length, (starsV n m)[0] = m[0].f0 := by
  have hle : ∀ (j : Nat) (hj : j < m.length), m[0].f0 ≤ m[j].f0 := by
    intro j
    induction j with
    | zero => intro hj; exact Int.le_refl _
    | succ j ih =>
      intro hj
      have h1 := ih (by omega)
      have h2 := hc (j + 1) hj (by omega)
      simp only [Nat.add_sub_cancel] at h2
      omega
  have hmin : ∀ y ∈ pts m, m[0].f0 ≤ y := by
    intro y hy
    obtain ⟨x, hx, hy⟩ := List.mem_flatMap.1 hy
    obtain ⟨j, hj, rfl⟩ := List.getElem_of_mem hx
    have h1 := hle j hj
    have h2 := hL _ (List.getElem_mem hj)
    unfold LineOk at h2
    simp only [List.mem_cons, List.not_mem_nil, or_false] at hy
    rcases hy with rfl | rfl <;> omega
  have hin : m[0].f0 ∈ pts m := List.mem_flatMap.2 ⟨m[0], List.getElem_mem h0, by simp⟩
  have hin2 := (starsV_mem hL m[0].f0).2 hin
  have hp := starsV_asc n m
  have hpos : 0 < (starsV n m).length := List.length_pos_of_mem hin2
  refine ⟨hpos, ?_⟩
  have h1 := hmin _ ((starsV_mem hL _).1 (List.getElem_mem hpos))
  obtain ⟨j, hj, he⟩ := List.getElem_of_mem hin2
  rcases Nat.eq_zero_or_pos j with q | q
  · subst q; exact he
  · have := List.pairwise_iff_getElem.1 hp 0 j hpos hj q
    omega
theorem onepiece_same (l : List S53) (hl : l.length ≤ 30) (m : List S39) (hm : m.length ≤ 40) (hL : ∀ x ∈ m, LineOk l.length x) (hV : Ev (fun k => impl_ValidFigure.f k l m) true) : ∃ r, Ev (fun k => spec_l16Piece.f k l m) r ∧ Ev (fun k => impl_isOnePiece.f k m) r := by
  have q1 := sstars_ev l (by omega) m (by omega) hL
  have hc := fig_chain l hl m hm hL m.length 0 (by omega) (by omega) hV
  rcases Nat.eq_zero_or_pos m.length with hz | h0
  · obtain rfl := List.length_eq_zero_iff.1 hz
    have hS : starsV l.length [] = [] := by unfold starsV pts; simp
    refine ⟨true, ?_, ?_⟩
    · unfold spec_l16Piece.f
      refine Ev.bind q1 ?_
      rw [hS]
      exact ev_const rfl
    · unfold impl_isOnePiece.f
      exact ev_const rfl
  · obtain ⟨hpos, hf⟩ := first_star l.length m hL h0 (fun j hj hj0 => hc j hj (by omega) hj0)
    have hx : (0 : Int) ≤ m[0].f0 ∧ m[0].f0 < m[0].f1 ∧ m[0].f1 < (l.length : Int) := hL _ (List.getElem_mem h0)
    obtain ⟨r, e1, e2⟩ := reach_l l.length hl m hm hL l.length [m[0].f0] 0 (by simp) (by omega) ⟨fun a => by rw [List.count_cons, List.count_nil]; split <;> omega, fun y hy => by rw [List.mem_singleton.1 hy]; omega⟩
    refine ⟨r, ?_, ?_⟩
    · unfold spec_l16Piece.f
      refine Ev.bind q1 ?_
      simp only [if_neg (show ¬ ((starsV l.length m).length : Int) = 0 by omega), if_pos (show (0 : Int) < ((starsV l.length m).length : Int) by omega), show rd (starsV l.length m) 0 = m[0].f0 from (rdn_at (starsV l.length m) 0 hpos).trans hf]
      exact e1
    · unfold impl_isOnePiece.f
      simp only [if_neg (show ¬ (m.length : Int) = 0 by omega), if_pos (show (0 : Int) < (m.length : Int) by omega), show (rd_T39 m 0).f0 = m[0].f0 from congrArg (·.f0) (rd_T39_at m 0 h0)]
      exact e2

theorem linesAt_l (n : Nat) (m : List S39) (hm : m.length ≤ 40) (hL : ∀ x ∈ m, LineOk n x) (s : Nat) (d : Nat) : ∀ (i : Nat), i ≤ m.length → m.length - i = d → Ev (fun k => impl_linesAt.l0 k s (lines (m.take i) s) m m.length i) (lines m s) := by
  induction d with
  | zero =>
    intro i hi hd
    apply ev_succ
    rw [List.take_of_length_le (by omega)]
    simp only [impl_linesAt.l0, if_neg (show ¬ (i : Int) < (m.length : Int) by omega)]
    exact ev_const rfl
  | succ d ih =>
    intro i hi hd
    have hlt : i < m.length := by omega
    have hx : (0 : Int) ≤ m[i].f0 ∧ m[i].f0 < m[i].f1 ∧ m[i].f1 < (n : Int) := hL _ (List.getElem_mem hlt)
    have h1 := ih (i + 1) (by omega) (by omega)
    have hcnt : 0 ≤ lines (m.take i) s ∧ lines (m.take i) s ≤ 80 := by
      have h1 := List.count_le_length (a := (s : Int)) (l := pts (m.take i))
      rw [pts_len, List.length_take] at h1
      unfold lines
      omega
    have step : lines (m.take (i + 1)) s = lines (m.take i) s + (if m[i].f0 = (s : Int) then 1 else 0) + (if m[i].f1 = (s : Int) then 1 else 0) := by
      have e : pts (m.take (i + 1)) = pts (m.take i) ++ [m[i].f0, m[i].f1] := by
        rw [List.take_succ_eq_append_getElem hlt]
        unfold pts
        rw [List.flatMap_append]
        rfl
      unfold lines
      rw [e, List.count_append, List.count_cons, List.count_cons, List.count_nil]
      simp only [beq_iff_eq]
      split <;> split <;> omega
    rw [step] at h1
    apply ev_succ
    by_cases c1 : m[i].f0 = (s : Int)
    · rw [if_pos c1, if_neg (show ¬ m[i].f1 = (s : Int) by omega), Int.add_zero] at h1
      simp only [impl_linesAt.l0, if_pos (show (i : Int) < (m.length : Int) by omega), if_pos (show (0 : Int) ≤ (i : Int) by omega), rd_T39_at _ _ hlt, if_pos c1, w64 (x := lines (m.take i) s + 1) (by omega) (by omega), w64 (x := (i : Int) + 1) (by omega) (by omega)]
      exact h1
    · by_cases c2 : m[i].f1 = (s : Int)
      · rw [if_neg c1, if_pos c2, Int.add_zero] at h1
        simp only [impl_linesAt.l0, if_pos (show (i : Int) < (m.length : Int) by omega), if_pos (show (0 : Int) ≤ (i : Int) by omega), rd_T39_at _ _ hlt, if_neg c1, if_pos c2, w64 (x := lines (m.take i) s + 1) (by omega) (by omega), w64 (x := (i : Int) + 1) (by omega) (by omega)]
        exact h1
      · rw [if_neg c1, if_neg c2, Int.add_zero, Int.add_zero] at h1
        simp only [impl_linesAt.l0, if_pos (show (i : Int) < (m.length : Int) by omega), if_pos (show (0 : Int) ≤ (i : Int) by omega), rd_T39_at _ _ hlt, if_neg c1, if_neg c2, w64 (x := (i : Int) + 1) (by omega) (by omega)]
        exact h1
theorem linesAt_ev (n : Nat) (m : List S39) (hm : m.length ≤ 40) (hL : ∀ x ∈ m, LineOk n x) (s : Nat) : Ev (fun k => impl_linesAt.f k m s) (lines m s) := by
  have h := linesAt_l n m hm hL s m.length 0 (by omega) (by omega)
  have e : lines (m.take 0) s = 0 := by simp [lines, pts]
  rw [e] at h
  exact h

/-- How many of some stars have an odd number of lines. -/
def oddL (m : List S39) : List Nat → Int
  | [] => 0
  | j :: js => lines m j % 2 + oddL m js
theorem oddL_filter (m : List S39) (js : List Nat) : oddL m (js.filter (fun j : Nat => decide ((j : Int) ∈ pts m))) = oddL m js := by
  induction js with
  | nil => rfl
  | cons j js ih =>
    rw [List.filter_cons]
    by_cases c : (j : Int) ∈ pts m
    · rw [decide_eq_true c, if_pos rfl, oddL, oddL, ih]
    · have hz : lines m j = 0 := by unfold lines; rw [List.count_eq_zero.2 c]; rfl
      rw [decide_eq_false c, if_neg (by decide), oddL, ih, hz]
      omega
theorem lines_nn (m : List S39) (j : Nat) : 0 ≤ lines m j := by unfold lines; omega
theorem sstroke_l (l : List S53) (m : List S39) (y : List Int) (hy : y.length ≤ 30) (hv : ∀ j, j < y.length → rd y (j : Int) = lines m j) (P : Bool) (hP : Ev (fun k => spec_l16Piece.f k l m) P) (d : Nat) : ∀ (o : Int) (i : Nat), i ≤ y.length → y.length - i = d → 0 ≤ o → o ≤ i →
    Ev (fun k => spec_OneStroke.l0 k l m y o i) (P && decide (o + oddL m (List.range' i d) ≤ 2), 0) := by
  induction d with
  | zero =>
    intro o i hi hd h0 h1
    apply ev_succ
    simp only [spec_OneStroke.l0, if_neg (show ¬ (i : Int) < (y.length : Int) by omega), List.range'_zero, oddL, Int.add_zero]
    by_cases c : o ≤ 2
    · simp only [if_pos c, decide_eq_true c, Bool.and_true]
      exact Ev.bind hP (ev_const rfl)
    · simp only [if_neg c, decide_eq_false c, Bool.and_false]
      exact ev_const rfl
  | succ d ih =>
    intro o i hi hd h0 h1
    have hlt : i < y.length := by omega
    have hn := lines_nn m i
    have g1 := Int.emod_nonneg (lines m i) (show (2 : Int) ≠ 0 by omega)
    have g2 := Int.emod_lt_of_pos (lines m i) (show (0 : Int) < 2 by omega)
    rw [List.range'_succ, oddL]
    apply ev_succ
    by_cases c : lines m i % 2 = 1
    · have h2 := ih (o + 1) (i + 1) (by omega) (by omega) (by omega) (by omega)
      simp only [spec_OneStroke.l0, if_pos (show (i : Int) < (y.length : Int) by omega), if_pos (show (0 : Int) ≤ (i : Int) by omega), hv i hlt, tmod_nn hn, if_pos c, w64 (x := o + 1) (by omega) (by omega), w64 (x := (i : Int) + 1) (by omega) (by omega)]
      rw [c, show o + (1 + oddL m (List.range' (i + 1) d)) = o + 1 + oddL m (List.range' (i + 1) d) by omega]
      exact h2
    · have h2 := ih o (i + 1) (by omega) (by omega) (by omega) (by omega)
      simp only [spec_OneStroke.l0, if_pos (show (i : Int) < (y.length : Int) by omega), if_pos (show (0 : Int) ≤ (i : Int) by omega), hv i hlt, tmod_nn hn, if_neg c, w64 (x := (i : Int) + 1) (by omega) (by omega)]
      rw [show lines m i % 2 = 0 by omega, show o + (0 + oddL m (List.range' (i + 1) d)) = o + oddL m (List.range' (i + 1) d) by omega]
      exact h2
theorem istroke_l (n : Nat) (m : List S39) (hm : m.length ≤ 40) (hL : ∀ x ∈ m, LineOk n x) (T : List Nat) (hT : T.length ≤ 30) (P : Bool) (hP : Ev (fun k => impl_isOnePiece.f k m) P) (d : Nat) : ∀ (o : Int) (i : Nat), i ≤ T.length → T.length - i = d → 0 ≤ o → o ≤ i →
    Ev (fun k => impl_OneStroke.l0 k m o (T.map (fun j : Nat => (j : Int))) ((T.map (fun j : Nat => (j : Int))).length : Int) i) (P && decide (o + oddL m (T.drop i) ≤ 2), 0) := by
  induction d with
  | zero =>
    intro o i hi hd h0 h1
    rw [List.drop_eq_nil_of_le (by omega)]
    apply ev_succ
    simp only [impl_OneStroke.l0, List.length_map, if_neg (show ¬ (i : Int) < (T.length : Int) by omega), oddL, Int.add_zero]
    refine Ev.bind hP ?_
    cases P
    · exact ev_const rfl
    · exact ev_const rfl
  | succ d ih =>
    intro o i hi hd h0 h1
    have hlt : i < T.length := by omega
    have hn := lines_nn m T[i]
    have g1 := Int.emod_nonneg (lines m T[i]) (show (2 : Int) ≠ 0 by omega)
    have g2 := Int.emod_lt_of_pos (lines m T[i]) (show (0 : Int) < 2 by omega)
    have hr : rd (T.map (fun j : Nat => (j : Int))) (i : Int) = (T[i] : Int) := by rw [rdn_at _ _ (by simpa using hlt), List.getElem_map]
    rw [List.drop_eq_getElem_cons hlt, oddL]
    have h2 := ih (o + lines m T[i] % 2) (i + 1) (by omega) (by omega) (by omega) (by omega)
    rw [show o + lines m T[i] % 2 + oddL m (T.drop (i + 1)) = o + (lines m T[i] % 2 + oddL m (T.drop (i + 1))) by omega] at h2
    apply ev_succ
    simp only [impl_OneStroke.l0, List.length_map, if_pos (show (i : Int) < (T.length : Int) by omega), if_pos (show (0 : Int) ≤ (i : Int) by omega), hr]
    refine Ev.bind (linesAt_ev n m hm hL T[i]) ?_
    simp only [tmod_nn hn, w64 (x := o + lines m T[i] % 2) (by omega) (by omega), w64 (x := (i : Int) + 1) (by omega) (by omega)]
    simp only [List.length_map] at h2
    exact h2
theorem linesV_val (n : Nat) (m : List S39) (hm : m.length ≤ 40) (hL : ∀ x ∈ m, LineOk n x) (s : Nat) : linesV m (s : Int) = lines m s := by
  obtain ⟨K, hK⟩ := linesAt_ev n m hm hL s
  have h1 := linesV_eq m (by omega) (s : Int)
  have h2 : ∀ d, impl_linesAt.f (m.length + 1 + d) m (s : Int) = some (linesV m (s : Int)) := by
    intro d
    induction d with
    | zero => exact h1
    | succ d ih => exact impl_linesAt.mono m (s : Int) (m.length + 1 + d) _ ih
  have h3 : impl_linesAt.f (m.length + 1 + K) m (s : Int) = some (lines m s) := hK (m.length + 1 + K) (by omega)
  rw [h2 K] at h3
  exact Option.some.inj h3
theorem sends_l (m : List S39) (y : List Int) (hy : y.length ≤ 30) (hv : ∀ j, j < y.length → rd y (j : Int) = lines m j) (d : Nat) : ∀ (out : List Int) (i : Nat), i ≤ y.length → y.length - i = d → out.length ≤ i →
    Ev (fun k => spec_EndsOfFigure.l0 k y out i) (out ++ ((List.range' i d).filter (fun j : Nat => decide (lines m j = 1))).map (fun j : Nat => (j : Int)), 0) := by
  induction d with
  | zero =>
    intro out i hi hd ho
    apply ev_succ
    simp only [spec_EndsOfFigure.l0, if_neg (show ¬ (i : Int) < (y.length : Int) by omega)]
    exact ev_const (by simp)
  | succ d ih =>
    intro out i hi hd ho
    have hlt : i < y.length := by omega
    rw [List.range'_succ, List.filter_cons]
    apply ev_succ
    by_cases c : lines m i = 1
    · have h1 := ih (out ++ [(i : Int)]) (i + 1) (by omega) (by omega) (by simp; omega)
      simp only [spec_EndsOfFigure.l0, if_pos (show (i : Int) < (y.length : Int) by omega), if_pos (show (0 : Int) ≤ (i : Int) by omega), hv i hlt, if_pos c, if_pos (show out.length < 17592186044416 by omega), w64 (x := (i : Int) + 1) (by omega) (by omega), decide_eq_true c, if_true, List.map_cons]
      rw [List.append_assoc] at h1
      exact h1
    · have h1 := ih out (i + 1) (by omega) (by omega) (by omega)
      simp only [spec_EndsOfFigure.l0, if_pos (show (i : Int) < (y.length : Int) by omega), if_pos (show (0 : Int) ≤ (i : Int) by omega), hv i hlt, if_neg c, w64 (x := (i : Int) + 1) (by omega) (by omega), decide_eq_false c, Bool.false_eq_true, if_false]
      exact h1
theorem ends_eq (n : Nat) (m : List S39) (hm : m.length ≤ 40) (hL : ∀ x ∈ m, LineOk n x) : (starsV n m).filter (fun x => !endsBad m x) = ((List.range n).filter (fun j : Nat => decide (lines m j = 1))).map (fun j : Nat => (j : Int)) := by
  unfold starsV
  rw [List.filter_map, List.filter_filter]
  congr 1
  apply List.filter_congr
  intro j _
  have e : endsBad m (j : Int) = (lines m j != 1) := by unfold endsBad; rw [linesV_val n m hm hL j]
  show ((!endsBad m (j : Int)) && decide ((j : Int) ∈ pts m)) = decide (lines m j = 1)
  rw [e]
  by_cases c : lines m j = 1
  · have hp := (lines_pos m j).1 (by omega)
    rw [decide_eq_true c, decide_eq_true hp, c]
    rfl
  · rw [decide_eq_false c, bne_iff_ne.2 c]
    rfl
/-- Bytes. -/
def Bytes (l : List Int) : Prop := ∀ x ∈ l, 0 ≤ x ∧ x ≤ 255
theorem bytes_of {l : List Int} (h : ∀ x ∈ l, (Lit.int .u8 x).wf = true) : Bytes l := by
  intro x hx
  have := h x hx
  simpa [Lit.wf, IntKind.min, IntKind.max, IntKind.signed, IntKind.bits] using this
theorem rd_nat (l : List Int) (i : Nat) (h : i < l.length) : rd l (i : Int) = l[i] := by
  unfold rd
  rw [Int.toNat_natCast, List.getD_eq_getElem?_getD, List.getElem?_eq_getElem h]
  rfl
theorem rd_bytes {l : List Int} (h : Bytes l) {i : Int} (h0 : 0 ≤ i) (hi : i < (l.length : Int)) : 0 ≤ rd l i ∧ rd l i ≤ 255 := by
  obtain ⟨j, rfl⟩ := Int.eq_ofNat_of_zero_le h0
  rw [rd_nat l j (by omega)]
  exact h _ (List.getElem_mem _)
theorem wrap_u64 (n : Int) : IntKind.u64.wrap n = n % 18446744073709551616 := by simp [IntKind.wrap, IntKind.bits, IntKind.signed]
theorem low_byte {x : Int} (h0 : 0 ≤ x) (h1 : x < 18446744073709551616) : Go.bits .and .u64 x 255 = x % 256 :=
  bits_mask .u64 64 (by decide) (fun n h0 h1 => by rw [wrap_u64]; omega) 8 (by decide) x h0 (by simpa using h1)

theorem next_val {l : List Int} (hB : Bytes l) (hl : l.length ≤ 140737488351232) {a s : Int} (h0 : 0 ≤ a) (h1 : a ≤ 1000000000) : ∃ b s', spec_l00Src_next.f l a s = some (b, a + 1, s') ∧ 0 ≤ b ∧ b ≤ 255 := by
  unfold spec_l00Src_next.f
  rw [w64 (x := a + 1) (by omega) (by omega)]
  have hlow : ∀ z : Int, 0 ≤ wrap64 (Go.bits .and .u64 (IntKind.u64.wrap z / 1099511627776) 255) ∧ wrap64 (Go.bits .and .u64 (IntKind.u64.wrap z / 1099511627776) 255) ≤ 255 := by
    intro z
    rw [wrap_u64, low_byte (by omega) (by omega), w64 (by omega) (by omega)]
    omega
  by_cases h : a < (l.length : Int)
  · have hr := rd_bytes hB h0 h
    rw [if_pos h, if_pos h0, if_pos (by omega), w64 (x := rd l a) (by omega) (by omega)]
    exact ⟨_, _, rfl, hr.1, hr.2⟩
  · rw [if_neg h, if_neg (by omega)]
    exact ⟨_, _, rfl, (hlow _).1, (hlow _).2⟩
theorem pick_val {l : List Int} (hB : Bytes l) (hl : l.length ≤ 140737488351232) {a s : Int} (h0 : 0 ≤ a) (h1 : a ≤ 100000000) (n : Int) : ∃ v a' s', spec_l00Src_pick.f l a s n = some (v, a', s') ∧ a ≤ a' ∧ a' ≤ a + 2 ∧ 0 ≤ v ∧ (1 < n → v < n) ∧ (n ≤ 1 → v = 0) := by
  unfold spec_l00Src_pick.f
  by_cases h : n ≤ 1
  · rw [if_pos h]
    exact ⟨0, a, s, rfl, by omega, by omega, by omega, fun h => by omega, fun _ => rfl⟩
  · rw [if_neg h]
    obtain ⟨b, s1, e1, b0, b1⟩ := next_val hB hl (s := s) h0 (by omega)
    rw [e1]
    simp only [Option.bind_some]
    by_cases hn : n > 200
    · obtain ⟨c, s2, e2, c0, c1⟩ := next_val hB hl (a := a + 1) (s := s1) (by omega) (by omega)
      rw [if_pos hn, e2]
      simp only [Option.bind_some]
      rw [if_neg (by omega), w64 (x := b * 256) (by omega) (by omega), w64 (x := b * 256 + c) (by omega) (by omega), tmod_nn (by omega)]
      exact ⟨_, _, _, rfl, by omega, by omega, Int.emod_nonneg _ (by omega), fun _ => Int.emod_lt_of_pos _ (by omega), fun h2 => absurd h2 h⟩
    · rw [if_neg hn, if_neg (by omega), tmod_nn (by omega)]
      exact ⟨_, _, _, rfl, by omega, by omega, Int.emod_nonneg _ (by omega), fun _ => Int.emod_lt_of_pos _ (by omega), fun h2 => absurd h2 h⟩

theorem one_val {l : List Int} (hB : Bytes l) (hl : l.length ≤ 140737488351232) {a s : Int} (h0 : 0 ≤ a) (h1 : a ≤ 100000000) (n : Int) : ∃ v a' s', spec_l00Src_one.f l a s n = some (v, a', s') ∧ a ≤ a' ∧ a' ≤ a + 2 := by
  obtain ⟨v, a', s', e, h2, h3, _⟩ := pick_val hB hl (s := s) h0 h1 n
  unfold spec_l00Src_one.f
  rw [e]
  exact ⟨_, _, _, rfl, h2, h3⟩

theorem among_val {l : List Int} (hB : Bytes l) (hl : l.length ≤ 140737488351232) {a s : Int} (h0 : 0 ≤ a) (h1 : a ≤ 100000000) (m : List Int) (hm : 0 < m.length) : ∃ v a' s', spec_l00Src_among.f l a s m = some (v, a', s') ∧ a ≤ a' ∧ a' ≤ a + 2 ∧ v ∈ m := by
  obtain ⟨v, a', s', e, h2, h3, h4, h5, h6⟩ := pick_val hB hl (s := s) h0 h1 (m.length : Int)
  have hv : v < (m.length : Int) := by
    by_cases h : 1 < (m.length : Int)
    · exact h5 h
    · have := h6 (by omega); omega
  unfold spec_l00Src_among.f
  rw [e]
  simp only [Option.bind_some]
  rw [if_pos h4, if_pos hv]
  obtain ⟨j, rfl⟩ := Int.eq_ofNat_of_zero_le h4
  rw [rd_nat m j (by omega)]
  exact ⟨_, _, _, rfl, h2, h3, List.getElem_mem _⟩

theorem drawspot_j {l : List Int} (hB : Bytes l) (hl : l.length ≤ 140737488351232) {a s x y : Int} (h0 : 0 ≤ a) (h1 : a ≤ 10000000) (hs : SpotP x y) : ∃ p q a' s', Ev (fun k => spec_l02Draw.j0 k x y l a s) (p, q, a', s') ∧ SpotP p q ∧ a ≤ a' ∧ a' ≤ a + 4 := by
  obtain ⟨v, a1, s1, e1, h2, h3, _⟩ := pick_val hB hl (s := s) h0 (by omega) 12
  by_cases hv : v = 0
  · obtain ⟨u, a2, s2, e2, h4, h5, h6⟩ := among_val hB hl (a := a1) (s := s1) (by omega) (by omega) [(-324000), 0, 324000] (by simp)
    refine ⟨u, y, a2, s2, ev_succ ?_, ⟨?_, hs.2⟩, by omega, by omega⟩
    · simp only [spec_l02Draw.j0, e1, Option.bind_some, if_pos hv, e2]
      exact ev_const rfl
    · simp only [List.mem_cons, List.not_mem_nil, or_false] at h6
      omega
  · by_cases hv1 : v = 1
    · obtain ⟨u, a2, s2, e2, h4, h5, h6⟩ := among_val hB hl (a := a1) (s := s1) (by omega) (by omega) [(-648000), (-324000), 0, 324000, 647999] (by simp)
      refine ⟨x, u, a2, s2, ev_succ ?_, ⟨hs.1, ?_⟩, by omega, by omega⟩
      · simp only [spec_l02Draw.j0, e1, Option.bind_some, if_neg hv, if_pos hv1, e2]
        exact ev_const rfl
      · simp only [List.mem_cons, List.not_mem_nil, or_false] at h6
        omega
    · refine ⟨x, y, a1, s1, ev_succ ?_, hs, by omega, by omega⟩
      simp only [spec_l02Draw.j0, e1, Option.bind_some, if_neg hv, if_neg hv1]
      exact ev_const rfl
theorem drawspot_ev {l : List Int} (hB : Bytes l) (hl : l.length ≤ 140737488351232) {a s : Int} (h0 : 0 ≤ a) (h1 : a ≤ 1000000) : ∃ p q a' s', Ev (fun k => spec_l02Draw.f k l a s) (p, q, a', s') ∧ SpotP p q ∧ a ≤ a' ∧ a' ≤ a + 20 := by
  obtain ⟨v1, a1, s1, e1, g1, g2, g3, g4, _⟩ := pick_val hB hl (s := s) h0 (by omega) 181
  obtain ⟨v2, a2, s2, e2, i1, i2, i3, i4, _⟩ := pick_val hB hl (a := a1) (s := s1) (by omega) (by omega) 180
  obtain ⟨v3, a3, s3, e3, j1, j2⟩ := one_val hB hl (a := a2) (s := s2) (by omega) (by omega) 3
  have g4 := g4 (by omega)
  have i4 := i4 (by omega)
  by_cases h3 : v3 = true
  · obtain ⟨v4, a4, s4, e4, k1, k2, k3, k4, _⟩ := pick_val hB hl (a := a3) (s := s3) (by omega) (by omega) 120
    obtain ⟨v5, a5, s5, e5, m1, m2, m3, m4, _⟩ := pick_val hB hl (a := a4) (s := s4) (by omega) (by omega) 200
    have k4 := k4 (by omega)
    have m4 := m4 (by omega)
    obtain ⟨p, q, a', s', e, hs, n1, n2⟩ := drawspot_j hB hl (a := a5) (s := s5) (x := 1800 * (v1 - 90) + (v4 - 60)) (y := 3600 * (v2 - 90) + 60 * v5) (by omega) (by omega) ⟨by omega, by omega⟩
    refine ⟨p, q, a', s', ?_, hs, by omega, by omega⟩
    simp only [spec_l02Draw.f, e1, e2, e3, Option.bind_some, if_pos h3, e4, e5, w64 (x := v1 - 90) (by omega) (by omega), w64 (x := 1800 * (v1 - 90)) (by omega) (by omega), w64 (x := v2 - 90) (by omega) (by omega), w64 (x := 3600 * (v2 - 90)) (by omega) (by omega), w64 (x := v4 - 60) (by omega) (by omega), w64 (x := 1800 * (v1 - 90) + (v4 - 60)) (by omega) (by omega), w64 (x := 60 * v5) (by omega) (by omega), w64 (x := 3600 * (v2 - 90) + 60 * v5) (by omega) (by omega)]
    exact e
  · obtain ⟨p, q, a', s', e, hs, n1, n2⟩ := drawspot_j hB hl (a := a3) (s := s3) (x := 1800 * (v1 - 90)) (y := 3600 * (v2 - 90)) (by omega) (by omega) ⟨by omega, by omega⟩
    refine ⟨p, q, a', s', ?_, hs, by omega, by omega⟩
    simp only [spec_l02Draw.f, e1, e2, e3, Option.bind_some, if_neg h3, w64 (x := v1 - 90) (by omega) (by omega), w64 (x := 1800 * (v1 - 90)) (by omega) (by omega), w64 (x := v2 - 90) (by omega) (by omega), w64 (x := 3600 * (v2 - 90)) (by omega) (by omega)]
    exact e

theorem text_val {l : List Int} (hB : Bytes l) (hl : l.length ≤ 140737488351232) {a s : Int} (h0 : 0 ≤ a) (h1 : a ≤ 100000000) (m : List ByteArray) (hm : 0 < m.length) : ∃ v a' s', spec_l00Src_text.f l a s m = some (v, a', s') ∧ a ≤ a' ∧ a' ≤ a + 2 ∧ v ∈ m := by
  obtain ⟨v, a', s', e, h2, h3, h4, h5, h6⟩ := pick_val hB hl (s := s) h0 h1 (m.length : Int)
  have hv : v < (m.length : Int) := by
    by_cases h : 1 < (m.length : Int)
    · exact h5 h
    · have := h6 (by omega); omega
  unfold spec_l00Src_text.f
  rw [e]
  simp only [Option.bind_some]
  rw [if_pos h4, if_pos hv]
  obtain ⟨j, rfl⟩ := Int.eq_ofNat_of_zero_le h4
  rw [rdOf_at _ m j (by omega)]
  exact ⟨_, _, _, rfl, h2, h3, List.getElem_mem _⟩
theorem bentspot_ev {l : List Int} (hB : Bytes l) (hl : l.length ≤ 140737488351232) {a s : Int} (h0 : 0 ≤ a) (h1 : a ≤ 900000) : ∃ p q a' s', Ev (fun k => spec_l02Bent.f k l a s) (p, q, a', s') ∧ a ≤ a' ∧ a' ≤ a + 30 := by
  obtain ⟨p, q, a1, s1, e1, _, h2, h3⟩ := drawspot_ev hB hl (s := s) h0 (by omega)
  obtain ⟨v, a2, s2, e2, h4, h5, _⟩ := pick_val hB hl (a := a1) (s := s1) (by omega) (by omega) 16
  by_cases c0 : v = 0
  · obtain ⟨u, a3, s3, e3, h6, h7, _⟩ := among_val hB hl (a := a2) (s := s2) (by omega) (by omega) [(-324001), (-324000), 324000, 324001, (-9223372036854775808)] (by simp)
    refine ⟨u, q, a3, s3, ?_, by omega, by omega⟩
    unfold spec_l02Bent.f
    refine Ev.bind e1 ?_
    simp only [e2, Option.bind_some, if_pos c0, e3]
    exact ev_const rfl
  · by_cases c1 : v = 1
    · obtain ⟨u, a3, s3, e3, h6, h7, _⟩ := among_val hB hl (a := a2) (s := s2) (by omega) (by omega) [(-648001), (-648000), 647999, 648000] (by simp)
      refine ⟨p, u, a3, s3, ?_, by omega, by omega⟩
      unfold spec_l02Bent.f
      refine Ev.bind e1 ?_
      simp only [e2, Option.bind_some, if_neg c0, if_pos c1, e3]
      exact ev_const rfl
    · refine ⟨p, q, a2, s2, ?_, by omega, by omega⟩
      unfold spec_l02Bent.f
      refine Ev.bind e1 ?_
      simp only [e2, Option.bind_some, if_neg c0, if_neg c1]
      exact ev_const rfl
/-- A drawn star's name is short. -/
def NameS (x : S53) : Prop := x.f0.size ≤ 100
theorem stars_l {l : List Int} (hB : Bytes l) (hl : l.length ≤ 140737488351232) (ns : List ByteArray) (hn : ns.length = 8) (hs : ∀ x ∈ ns, x.size ≤ 100) (c : Nat) : ∀ (out : List S53) (a s : Int), out.length + c ≤ 8 → (∀ x ∈ out, NameS x) → 0 ≤ a → a + 22 * (c : Int) ≤ 100000 →
    ∃ res a' s', Ev (fun k => spec_l16Draw.l0 k ns out (c : Int) l a s) (res, a', s') ∧ res.length ≤ 8 ∧ (∀ x ∈ res, NameS x) ∧ a ≤ a' ∧ a' ≤ a + 22 * (c : Int) := by
  induction c with
  | zero =>
    intro out a s hc ho h0 h1
    refine ⟨out, a, s, ev_succ ?_, by omega, ho, Int.le_refl _, by omega⟩
    simp only [spec_l16Draw.l0, if_neg (show ¬ ((0 : Nat) : Int) > 0 by omega)]
    exact ev_const rfl
  | succ c ih =>
    intro out a s hc ho h0 h1
    have hlt : out.length < ns.length := by omega
    obtain ⟨v, a1, s1, e1, g1, g2, g3, g4, _⟩ := pick_val hB hl (s := s) h0 (by omega) 6
    have g4 := g4 (by omega)
    obtain ⟨p, q, a2, s2, e2, _, g5, g6⟩ := drawspot_ev hB hl (a := a1) (s := s1) (by omega) (by omega)
    obtain ⟨res, a3, s3, e3, r1, r2, r3, r4⟩ := ih (out ++ [⟨ns[out.length], 1 + v, ⟨p, q⟩⟩]) a2 s2 (by simp; omega) (by
      intro x hx
      rcases List.mem_append.1 hx with h | h
      · exact ho x h
      · rw [List.mem_singleton.1 h]; exact hs _ (List.getElem_mem hlt)) (by omega) (by omega)
    refine ⟨res, a3, s3, ev_succ ?_, r1, r2, by omega, by omega⟩
    simp only [spec_l16Draw.l0, if_pos (show ((c + 1 : Nat) : Int) > 0 by omega), if_pos (show (0 : Int) ≤ (out.length : Int) by omega), if_pos (show (out.length : Int) < (ns.length : Int) by omega), e1, Option.bind_some]
    refine Ev.bind e2 ?_
    simp only [if_pos (show out.length < 3518437208883 by omega), rdOf_at _ _ _ hlt, w64 (x := 1 + v) (by omega) (by omega), show ((c + 1 : Nat) : Int) - 1 = (c : Int) by omega, w64 (x := (c : Int)) (by omega) (by omega)]
    exact e3
theorem draw_ev {l : List Int} (hB : Bytes l) (hl : l.length ≤ 140737488351232) {a s : Int} (h0 : 0 ≤ a) (h1 : a ≤ 1000) : ∃ res a' s', Ev (fun k => spec_l16Draw.f k l a s) (res, a', s') ∧ res.length ≤ 8 ∧ (∀ x ∈ res, NameS x) ∧ a ≤ a' ∧ a' ≤ a + 200 := by
  obtain ⟨v, a1, s1, e1, g1, g2, g3, g4, _⟩ := pick_val hB hl (s := s) h0 (by omega) 9
  have g4 := g4 (by omega)
  obtain ⟨c, rfl⟩ := Int.eq_ofNat_of_zero_le g3
  obtain ⟨res, a3, s3, e3, r1, r2, r3, r4⟩ := stars_l hB hl (([(⟨#[97, 108, 99, 111, 114]⟩ : ByteArray), (⟨#[100, 101, 110, 101, 98]⟩ : ByteArray), (⟨#[109, 105, 114, 97]⟩ : ByteArray), (⟨#[109, 105, 122, 97, 114]⟩ : ByteArray), (⟨#[114, 105, 103, 101, 108]⟩ : ByteArray), (⟨#[115, 105, 114, 105, 117, 115]⟩ : ByteArray), (⟨#[115, 112, 105, 99, 97]⟩ : ByteArray), (⟨#[118, 101, 103, 97, 45, 50]⟩ : ByteArray)] : List ByteArray)) rfl (by
    intro x hx
    simp only [List.mem_cons, List.not_mem_nil, or_false] at hx
    rcases hx with rfl | rfl | rfl | rfl | rfl | rfl | rfl | rfl <;> decide) c ([] : List S53) a1 s1 (by simp; omega) (by simp) (by omega) (by omega)
  refine ⟨res, a3, s3, ?_, r1, r2, by omega, by omega⟩
  unfold spec_l16Draw.f
  simp only [e1, Option.bind_some]
  exact e3
theorem set_names {x : List S53} (hq : ∀ y ∈ x, NameS y) (i : Nat) (v : S53) (hv : NameS v) : ∀ y ∈ x.set i v, NameS y := by
  intro y hy
  rcases List.mem_or_eq_of_mem_set hy with h | h
  · exact hq y h
  · rw [h]; exact hv
theorem bent_j {l : List Int} (hB : Bytes l) (hl : l.length ≤ 140737488351232) (x : List S53) (hx : x.length ≤ 31) (hq : ∀ y ∈ x, NameS y) {a s : Int} (h0 : 0 ≤ a) (h1 : a ≤ 200000) :
    ∃ res a' s', Ev (fun k => spec_l16Bent.j1 k x l a s) (res, a', s') ∧ res.length ≤ 31 ∧ (∀ y ∈ res, NameS y) ∧ a ≤ a' ∧ a' ≤ a + 60 := by
  by_cases hz : x.length = 0
  · refine ⟨x, a, s, ev_succ ?_, hx, hq, by omega, by omega⟩
    simp only [spec_l16Bent.j1, if_pos (show (x.length : Int) = 0 by omega)]
    exact ev_const rfl
  · obtain ⟨v, a1, s1, e1, g1, g2, g3, g4, g5⟩ := pick_val hB hl (s := s) h0 (by omega) (x.length : Int)
    have hv : v < (x.length : Int) := by
      by_cases h : 1 < (x.length : Int)
      · exact g4 h
      · have := g5 (by omega); omega
    obtain ⟨i, rfl⟩ := Int.eq_ofNat_of_zero_le g3
    have hi : i < x.length := by omega
    have hqi : NameS x[i] := hq _ (List.getElem_mem hi)
    obtain ⟨u, a2, s2, e2, g6, g7, _⟩ := pick_val hB hl (a := a1) (s := s1) (by omega) (by omega) 24
    by_cases c0 : u = 0
    · obtain ⟨n, a3, s3, e3, g8, g9, g10⟩ := text_val hB hl (a := a2) (s := s2) (by omega) (by omega) ([(⟨#[]⟩ : ByteArray), (⟨#[86, 101, 103, 97]⟩ : ByteArray), (⟨#[97, 108, 99, 111, 114]⟩ : ByteArray)] : List ByteArray) (by simp)
      have hn : n.size ≤ 100 := by
        simp only [List.mem_cons, List.not_mem_nil, or_false] at g10
        rcases g10 with rfl | rfl | rfl <;> decide
      refine ⟨x.set i ⟨n, x[i].f1, ⟨x[i].f2.f0, x[i].f2.f1⟩⟩, a3, s3, ev_succ ?_, by simpa using hx, set_names hq _ _ hn, by omega, by omega⟩
      simp only [spec_l16Bent.j1, if_neg (show ¬ (x.length : Int) = 0 by omega), e1, Option.bind_some, if_pos g3, if_pos hv, e2, if_pos c0, e3, rd_T53_at _ _ hi, Int.toNat_natCast]
      exact ev_const rfl
    · by_cases c1 : u = 1
      · obtain ⟨n, a3, s3, e3, g8, g9, _⟩ := among_val hB hl (a := a2) (s := s2) (by omega) (by omega) [(-1), 0, 1, 6, 7, (-9223372036854775808)] (by simp)
        refine ⟨x.set i ⟨x[i].f0, n, ⟨x[i].f2.f0, x[i].f2.f1⟩⟩, a3, s3, ev_succ ?_, by simpa using hx, set_names hq _ _ hqi, by omega, by omega⟩
        simp only [spec_l16Bent.j1, if_neg (show ¬ (x.length : Int) = 0 by omega), e1, Option.bind_some, if_pos g3, if_pos hv, e2, if_neg c0, if_pos c1, e3, rd_T53_at _ _ hi, Int.toNat_natCast]
        exact ev_const rfl
      · by_cases c2 : u = 2
        · obtain ⟨p, q, a3, s3, e3, g8, g9⟩ := bentspot_ev hB hl (a := a2) (s := s2) (by omega) (by omega)
          refine ⟨x.set i ⟨x[i].f0, x[i].f1, ⟨p, q⟩⟩, a3, s3, ev_succ ?_, by simpa using hx, set_names hq _ _ hqi, by omega, by omega⟩
          simp only [spec_l16Bent.j1, if_neg (show ¬ (x.length : Int) = 0 by omega), e1, Option.bind_some, if_pos g3, if_pos hv, e2, if_neg c0, if_neg c1, if_pos c2]
          refine Ev.bind e3 ?_
          simp only [rd_T53_at _ _ hi, Int.toNat_natCast]
          exact ev_const rfl
        · refine ⟨x, a2, s2, ev_succ ?_, hx, hq, by omega, by omega⟩
          simp only [spec_l16Bent.j1, if_neg (show ¬ (x.length : Int) = 0 by omega), e1, Option.bind_some, if_pos g3, if_pos hv, e2, if_neg c0, if_neg c1, if_neg c2]
          exact ev_const rfl
theorem bent_l {l : List Int} (hB : Bytes l) (hl : l.length ≤ 140737488351232) {a s : Int} (h0 : 0 ≤ a) (h1 : a ≤ 200000) (c : Nat) : ∀ (x : List S53), x.length + c ≤ 31 → (∀ y ∈ x, NameS y) →
    ∃ res a' s', Ev (fun k => spec_l16Bent.l0 k x (c : Int) l a s) (res, a', s') ∧ res.length ≤ 31 ∧ (∀ y ∈ res, NameS y) ∧ a ≤ a' ∧ a' ≤ a + 60 := by
  induction c with
  | zero =>
    intro x hc hq
    obtain ⟨res, a1, s1, e, r⟩ := bent_j hB hl x (by omega) hq (s := s) h0 h1
    refine ⟨res, a1, s1, ev_succ ?_, r⟩
    simp only [spec_l16Bent.l0, if_neg (show ¬ ((0 : Nat) : Int) > 0 by omega)]
    exact e
  | succ c ih =>
    intro x hc hq
    obtain ⟨res, a1, s1, e, r⟩ := ih (x ++ [(⟨strOfNums (([97 + ((((x.length : Int)) % 256) / 26), 97 + ((((x.length : Int)) % 256) % 26)] : List Int)), 3, (⟨0, 0⟩ : S51)⟩ : S53)]) (by simp; omega) (by
      intro y hy
      rcases List.mem_append.1 hy with h | h
      · exact hq y h
      · rw [List.mem_singleton.1 h]; unfold NameS; simp [strOfNums, ByteArray.size])
    refine ⟨res, a1, s1, ev_succ ?_, r⟩
    simp only [spec_l16Bent.l0, if_pos (show ((c + 1 : Nat) : Int) > 0 by omega), if_pos (show x.length < 3518437208883 by omega), show ((c + 1 : Nat) : Int) - 1 = (c : Int) by omega, w64 (x := (c : Int)) (by omega) (by omega)]
    exact e
theorem bent_ev {l : List Int} (hB : Bytes l) (hl : l.length ≤ 140737488351232) {a s : Int} (h0 : 0 ≤ a) (h1 : a ≤ 100) : ∃ res a' s', Ev (fun k => spec_l16Bent.f k l a s) (res, a', s') ∧ res.length ≤ 31 ∧ (∀ x ∈ res, NameS x) ∧ a ≤ a' ∧ a' ≤ a + 400 := by
  obtain ⟨x, a1, s1, e1, r1, r2, r3, r4⟩ := draw_ev hB hl (s := s) h0 (by omega)
  obtain ⟨t, a2, s2, e2, r5, r6⟩ := one_val hB hl (a := a1) (s := s1) (by omega) (by omega) 24
  cases t with
  | true =>
    obtain ⟨v, a3, s3, e3, g1, g2, g3, g4, _⟩ := pick_val hB hl (a := a2) (s := s2) (by omega) (by omega) 2
    have g4 := g4 (by omega)
    obtain ⟨c, rfl⟩ := Int.eq_ofNat_of_zero_le g3
    obtain ⟨res, a4, s4, e4, q1, q2, q3, q4⟩ := bent_l hB hl (a := a3) (s := s3) (by omega) (by omega) (30 + c) ([] : List S53) (by simp; omega) (by simp)
    refine ⟨res, a4, s4, ?_, q1, q2, by omega, by omega⟩
    unfold spec_l16Bent.f
    refine Ev.bind e1 ?_
    simp only [e2, Option.bind_some, if_true, e3, w64 (x := 30 + (c : Int)) (by omega) (by omega)]
    rw [show ((30 + c : Nat) : Int) = 30 + (c : Int) by omega] at e4
    exact e4
  | false =>
    obtain ⟨res, a4, s4, e4, q1, q2, q3, q4⟩ := bent_j hB hl x (by omega) r2 (a := a2) (s := s2) (by omega) (by omega)
    refine ⟨res, a4, s4, ?_, q1, q2, by omega, by omega⟩
    unfold spec_l16Bent.f
    refine Ev.bind e1 ?_
    simp only [e2, Option.bind_some, Bool.false_eq_true, if_false]
    exact e4
theorem lines_in {l : List Int} (hB : Bytes l) (hl : l.length ≤ 140737488351232) (x : List S53) (hx : x.length ≤ 31) (r : Int) (i : Nat)
    (hR : ∀ (out : List S39) (a s : Int), out.length ≤ 32 * (i + 1) → 0 ≤ a → a ≤ 1000 + 130 * ((i : Int) + 1) → ∃ res a' s', Ev (fun k => spec_l16DrawLines.l0 k x out r ((i : Int) + 1) l a s) (res, a', s') ∧ res.length ≤ 1100 ∧ 0 ≤ a' ∧ a' ≤ 10000) (hi : i < x.length) (d : Nat) :
    ∀ (j : Nat) (out : List S39) (a s : Int), j ≤ x.length → x.length - j = d → out.length ≤ 32 * i + j → 0 ≤ a → a ≤ 1000 + 130 * (i : Int) + 4 * (j : Int) →
    ∃ res a' s', Ev (fun k => spec_l16DrawLines.l1 k x out r (i : Int) (j : Int) l a s) (res, a', s') ∧ res.length ≤ 1100 ∧ 0 ≤ a' ∧ a' ≤ 10000 := by
  induction d with
  | zero =>
    intro j out a s hj hd ho h0 h1
    obtain ⟨res, a1, s1, e, q⟩ := hR out a s (by omega) h0 (by omega)
    refine ⟨res, a1, s1, ev_succ ?_, q⟩
    simp only [spec_l16DrawLines.l1, if_neg (show ¬ (j : Int) < (x.length : Int) by omega), w64 (x := (i : Int) + 1) (by omega) (by omega)]
    exact e
  | succ d ih =>
    intro j out a s hj hd ho h0 h1
    obtain ⟨t, a1, s1, e1, g1, g2⟩ := one_val hB hl (s := s) h0 (by omega) r
    cases t with
    | true =>
      by_cases c : (out.length : Int) < 40
      · obtain ⟨res, a2, s2, e2, q⟩ := ih (j + 1) (out ++ [(⟨(i : Int), (j : Int)⟩ : S39)]) a1 s1 (by omega) (by omega) (by simp; omega) (by omega) (by omega)
        refine ⟨res, a2, s2, ev_succ ?_, q⟩
        simp only [spec_l16DrawLines.l1, if_pos (show (j : Int) < (x.length : Int) by omega), e1, Option.bind_some, if_true, if_pos c, if_pos (show out.length < 8796093022208 by omega), w64 (x := (j : Int) + 1) (by omega) (by omega)]
        exact e2
      · obtain ⟨t2, a2, s2, e2, g3, g4⟩ := one_val hB hl (a := a1) (s := s1) (by omega) (by omega) 20
        cases t2 with
        | true =>
          obtain ⟨res, a3, s3, e3, q⟩ := ih (j + 1) (out ++ [(⟨(i : Int), (j : Int)⟩ : S39)]) a2 s2 (by omega) (by omega) (by simp; omega) (by omega) (by omega)
          refine ⟨res, a3, s3, ev_succ ?_, q⟩
          simp only [spec_l16DrawLines.l1, if_pos (show (j : Int) < (x.length : Int) by omega), e1, Option.bind_some, if_true, if_neg c, e2, if_pos (show out.length < 8796093022208 by omega), w64 (x := (j : Int) + 1) (by omega) (by omega)]
          exact e3
        | false =>
          obtain ⟨res, a3, s3, e3, q⟩ := ih (j + 1) out a2 s2 (by omega) (by omega) (by omega) (by omega) (by omega)
          refine ⟨res, a3, s3, ev_succ ?_, q⟩
          simp only [spec_l16DrawLines.l1, if_pos (show (j : Int) < (x.length : Int) by omega), e1, Option.bind_some, if_true, if_neg c, e2, Bool.false_eq_true, if_false, w64 (x := (j : Int) + 1) (by omega) (by omega)]
          exact e3
    | false =>
      obtain ⟨res, a3, s3, e3, q⟩ := ih (j + 1) out a1 s1 (by omega) (by omega) (by omega) (by omega) (by omega)
      refine ⟨res, a3, s3, ev_succ ?_, q⟩
      simp only [spec_l16DrawLines.l1, if_pos (show (j : Int) < (x.length : Int) by omega), e1, Option.bind_some, Bool.false_eq_true, if_false, w64 (x := (j : Int) + 1) (by omega) (by omega)]
      exact e3
theorem lines_out {l : List Int} (hB : Bytes l) (hl : l.length ≤ 140737488351232) (x : List S53) (hx : x.length ≤ 31) (r : Int) (d : Nat) : ∀ (i : Nat), i ≤ x.length → x.length - i = d →
    ∀ (out : List S39) (a s : Int), out.length ≤ 32 * i → 0 ≤ a → a ≤ 1000 + 130 * (i : Int) → ∃ res a' s', Ev (fun k => spec_l16DrawLines.l0 k x out r (i : Int) l a s) (res, a', s') ∧ res.length ≤ 1100 ∧ 0 ≤ a' ∧ a' ≤ 10000 := by
  induction d with
  | zero =>
    intro i hi hd out a s ho h0 h1
    obtain ⟨t, a1, s1, e1, g1, g2⟩ := one_val hB hl (s := s) h0 (by omega) 14
    cases t with
    | true =>
      obtain ⟨u, a2, s2, e2, g3, g4, _⟩ := among_val hB hl (a := a1) (s := s1) (by omega) (by omega) [(-1), 0, 1] (by simp)
      obtain ⟨v, a3, s3, e3, g5, g6, _⟩ := among_val hB hl (a := a2) (s := s2) (by omega) (by omega) [0, 1, wrap64 ((x.length : Int) - 1), (x.length : Int)] (by simp)
      refine ⟨out ++ [(⟨u, v⟩ : S39)], a3, s3, ev_succ ?_, by simp; omega, by omega, by omega⟩
      simp only [spec_l16DrawLines.l0, if_neg (show ¬ (i : Int) < (x.length : Int) by omega), e1, Option.bind_some, if_true, e2, e3, if_pos (show out.length < 8796093022208 by omega)]
      exact ev_const rfl
    | false =>
      refine ⟨out, a1, s1, ev_succ ?_, by omega, by omega, by omega⟩
      simp only [spec_l16DrawLines.l0, if_neg (show ¬ (i : Int) < (x.length : Int) by omega), e1, Option.bind_some, Bool.false_eq_true, if_false]
      exact ev_const rfl
  | succ d ih =>
    intro i hi hd out a s ho h0 h1
    obtain ⟨res, a1, s1, e, q⟩ := lines_in hB hl x hx r i (fun o b t q1 q2 q3 => ih (i + 1) (by omega) (by omega) o b t q1 q2 (by omega)) (by omega) (x.length - (i + 1)) (i + 1) out a s (by omega) rfl (by omega) h0 (by omega)
    refine ⟨res, a1, s1, ev_succ ?_, q⟩
    simp only [spec_l16DrawLines.l0, if_pos (show (i : Int) < (x.length : Int) by omega), w64 (x := (i : Int) + 1) (by omega) (by omega)]
    exact e
theorem lines_ev {l : List Int} (hB : Bytes l) (hl : l.length ≤ 140737488351232) (x : List S53) (hx : x.length ≤ 31) {a s : Int} (h0 : 0 ≤ a) (h1 : a ≤ 900) : ∃ res a' s', Ev (fun k => spec_l16DrawLines.f k l a s x) (res, a', s') ∧ res.length ≤ 1100 ∧ 0 ≤ a' ∧ a' ≤ 10000 := by
  obtain ⟨v, a1, s1, e1, g1, g2, _⟩ := pick_val hB hl (s := s) h0 (by omega) 3
  obtain ⟨res, a2, s2, e2, q⟩ := lines_out hB hl x hx (wrap64 (2 + v)) x.length 0 (by omega) (by omega) ([] : List S39) a1 s1 (by simp) (by omega) (by omega)
  refine ⟨res, a2, s2, ?_, q⟩
  unfold spec_l16DrawLines.f
  simp only [e1, Option.bind_some]
  exact e2
theorem class_val {l : List Int} (hB : Bytes l) (hl : l.length ≤ 140737488351232) {a s : Int} (h0 : 0 ≤ a) (h1 : a ≤ 10000) : ∃ v a' s', spec_l16Class.f l a s = some (v, a', s') := by
  obtain ⟨t, a1, s1, e1, g1, g2⟩ := one_val hB hl (s := s) h0 (by omega) 8
  unfold spec_l16Class.f
  cases t with
  | true =>
    obtain ⟨u, a2, s2, e2, _⟩ := among_val hB hl (a := a1) (s := s1) (by omega) (by omega) [(-1), 0, 1, 6, 7] (by simp)
    simp only [e1, Option.bind_some, if_true, e2]
    exact ⟨_, _, _, rfl⟩
  | false =>
    obtain ⟨u, a2, s2, e2, _⟩ := pick_val hB hl (a := a1) (s := s1) (by omega) (by omega) 6
    simp only [e1, Option.bind_some, Bool.false_eq_true, if_false, e2]
    exact ⟨_, _, _, rfl⟩
theorem both_ev {l : List Int} (hB : Bytes l) (hl : l.length ≤ 140737488351232) : ∃ x m, Ev (fun k => spec_l16Both.f k l) (x, m) ∧ x.length ≤ 31 ∧ m.length ≤ 1100 ∧ ∀ y ∈ x, NameS y := by
  obtain ⟨x, a1, s1, e1, r1, r2, r3, r4⟩ := bent_ev hB hl (a := 0) (s := 0) (by omega) (by omega)
  obtain ⟨m, a2, s2, e2, q1, _⟩ := lines_ev hB hl x r1 (a := a1) (s := s1) (by omega) (by omega)
  refine ⟨x, m, ?_, r1, q1, r2⟩
  unfold spec_l16Both.f spec_l00From.f
  simp only [Option.bind_some]
  exact Ev.bind e1 (Ev.bind e2 (ev_const rfl))

theorem f6big_val (l : List Int) : laws_f6big.f l = some (decide ((l.length : Int) > 4096)) := rfl
theorem f6ints_l (l : List Int) (hl : l.length ≤ 1048576) (d : Nat) : ∀ (i : Nat), i ≤ l.length → l.length - i = d → Ev (fun k => laws_f6ints.l0 k l l i) true := by
  induction d with
  | zero =>
    intro i hi hd
    apply ev_succ
    simp only [laws_f6ints.l0, if_neg (show ¬ (i : Int) < (l.length : Int) by omega)]
    exact ev_const rfl
  | succ d ih =>
    intro i hi hd
    have h1 := ih (i + 1) (by omega) (by omega)
    apply ev_succ
    simp only [laws_f6ints.l0, if_pos (show (i : Int) < (l.length : Int) by omega), if_pos (show (0 : Int) ≤ (i : Int) by omega), if_true, w64 (x := (i : Int) + 1) (by omega) (by omega)]
    exact h1
theorem f6ints_ev (l : List Int) (hl : l.length ≤ 1048576) : Ev (fun k => laws_f6ints.f k l l) true := by
  unfold laws_f6ints.f
  simp only [if_true]
  exact f6ints_l l hl l.length 0 (by omega) (by omega)
theorem f6has_l (l : List Int) (hl : l.length ≤ 1048576) (v : Int) (d : Nat) : ∀ (i : Nat), i ≤ l.length → l.length - i = d → v ∈ l.drop i → Ev (fun k => laws_f6has.l0 k l v i) true := by
  induction d with
  | zero =>
    intro i hi hd hv
    rw [List.drop_eq_nil_of_le (by omega)] at hv
    cases hv
  | succ d ih =>
    intro i hi hd hv
    have hlt : i < l.length := by omega
    apply ev_succ
    by_cases c : l[i] = v
    · simp only [laws_f6has.l0, if_pos (show (i : Int) < (l.length : Int) by omega), if_pos (show (0 : Int) ≤ (i : Int) by omega), rdn_at _ _ hlt, if_pos c]
      exact ev_const rfl
    · rw [List.drop_eq_getElem_cons hlt, List.mem_cons] at hv
      have h1 := ih (i + 1) (by omega) (by omega) (hv.resolve_left (fun h => c h.symm))
      simp only [laws_f6has.l0, if_pos (show (i : Int) < (l.length : Int) by omega), if_pos (show (0 : Int) ≤ (i : Int) by omega), rdn_at _ _ hlt, if_neg c, w64 (x := (i : Int) + 1) (by omega) (by omega)]
      exact h1
theorem f6has_ev (l : List Int) (hl : l.length ≤ 1048576) (v : Int) (h : v ∈ l) : Ev (fun k => laws_f6has.f k l v) true := by
  unfold laws_f6has.f
  exact f6has_l l hl v l.length 0 (by omega) (by omega) (by simpa using h)

theorem bright2_l (l : List S53) (hl : l.length ≤ 30) (c : Int) (d : Nat) : ∀ (out : List Int) (i : Nat), i ≤ l.length → l.length - i = d → out.length = (l.take i).countP (fun x => decide (x.f1 ≤ c)) → out.length ≤ i → (∀ j : Nat, (hj : j < i) → (hj2 : j < l.length) → l[j].f1 ≤ c → (j : Int) ∈ out) →
    ∃ res, Ev (fun k => impl_BrighterThan.l0 k c out l l.length i) (res, 0) ∧ res.length ≤ l.length ∧ res.length = l.countP (fun x => decide (x.f1 ≤ c)) ∧ (∀ j : Nat, (hj2 : j < l.length) → l[j].f1 ≤ c → (j : Int) ∈ res) := by
  induction d with
  | zero =>
    intro out i hi hd hn ho hm
    rw [List.take_of_length_le (by omega)] at hn
    refine ⟨out, ev_succ ?_, by omega, hn, fun j hj2 => hm j (by omega) hj2⟩
    · simp only [impl_BrighterThan.l0, if_neg (show ¬ (i : Int) < (l.length : Int) by omega)]
      exact ev_const rfl
  | succ d ih =>
    intro out i hi hd hn ho hm
    have hlt : i < l.length := by omega
    by_cases cc : l[i].f1 ≤ c
    · obtain ⟨res, h2, h3⟩ := ih (out ++ [(i : Int)]) (i + 1) (by omega) (by omega) (by
        rw [List.take_succ_eq_append_getElem hlt, List.countP_append, List.countP_cons, List.countP_nil, decide_eq_true cc, List.length_append, hn]; simp) (by simp; omega) (fun j hj hj2 hc => by
        rw [List.mem_append, List.mem_singleton]
        by_cases e : j = i
        · right; omega
        · left; exact hm j (by omega) hj2 hc)
      refine ⟨res, ev_succ ?_, h3⟩
      · simp only [impl_BrighterThan.l0, if_pos (show (i : Int) < (l.length : Int) by omega), if_pos (show (0 : Int) ≤ (i : Int) by omega), rd_T53_at _ _ hlt, if_pos cc, if_pos (show out.length < 17592186044416 by omega), w64 (x := (i : Int) + 1) (by omega) (by omega)]
        exact h2
    · obtain ⟨res, h2, h3⟩ := ih out (i + 1) (by omega) (by omega) (by
        rw [List.take_succ_eq_append_getElem hlt, List.countP_append, List.countP_cons, List.countP_nil, decide_eq_false cc, hn]; simp) (by omega) (fun j hj hj2 hc => by
        by_cases e : j = i
        · subst e; exact absurd hc cc
        · exact hm j (by omega) hj2 hc)
      refine ⟨res, ev_succ ?_, h3⟩
      · simp only [impl_BrighterThan.l0, if_pos (show (i : Int) < (l.length : Int) by omega), if_pos (show (0 : Int) ≤ (i : Int) by omega), rd_T53_at _ _ hlt, if_neg cc, w64 (x := (i : Int) + 1) (by omega) (by omega)]
        exact h2
theorem bright2_same (l : List S53) (hl : l.length ≤ 1048576) (c : Int) : ∃ res cd, Ev (fun k => impl_BrighterThan.f k l c) (res, cd) ∧ res.length ≤ 30 ∧ (cd = 0 ↔ catB l = true ∧ 1 ≤ c ∧ c ≤ 6) ∧ (cd = 0 → res.length = l.countP (fun x => decide (x.f1 ≤ c)) ∧ (∀ j : Nat, (hj2 : j < l.length) → l[j].f1 ≤ c → (j : Int) ∈ res)) := by
  cases hc : catB l with
  | false =>
    refine ⟨[], 1, ?_, by simp, by simp, fun h => by omega⟩
    · unfold impl_BrighterThan.f impl_isClass.f
      simp only [icat_val, hc, within_val, Option.bind_some, impl_check.f, Bool.false_eq_true, if_false, if_neg (show ¬ (1 : Int) = 0 by omega)]
      exact ev_const rfl
  | true =>
    obtain ⟨h30, hs⟩ := catB_ok hc
    by_cases c1 : 1 ≤ c ∧ c ≤ 6
    · obtain ⟨res, e2, e3, e4⟩ := bright2_l l (by omega) c l.length [] 0 (by omega) (by omega) (by simp) (by simp) (fun j hj => by omega)
      refine ⟨res, 0, ?_, by omega, by simpa using c1, fun _ => e4⟩
      · unfold impl_BrighterThan.f impl_isClass.f
        simp only [icat_val, hc, within_val, Option.bind_some, impl_check.f, if_true, decide_eq_true c1]
        exact e2
    · refine ⟨[], 2, ?_, by simp, ?_, fun h => by omega⟩
      · unfold impl_BrighterThan.f impl_isClass.f
        simp only [icat_val, hc, within_val, Option.bind_some, impl_check.f, if_true, decide_eq_false c1, Bool.false_eq_true, if_false, if_neg (show ¬ (2 : Int) = 0 by omega)]
        exact ev_const rfl
      · constructor
        · intro h; omega
        · intro h; exact absurd h.2 c1
/-- Both stars of a line are of the first c classes. -/
def BothBr (l : List S53) (c : Int) (x : S39) : Prop := (0 ≤ x.f0 ∧ x.f0 < (l.length : Int) ∧ (rd_T53 l x.f0).f1 ≤ c) ∧ (0 ≤ x.f1 ∧ x.f1 < (l.length : Int) ∧ (rd_T53 l x.f1).f1 ≤ c)
theorem without2_l (l : List S53) (hl : l.length ≤ 30) (m : List S39) (hm : m.length ≤ 40) (hs : ∀ x ∈ m, LineOk l.length x) (c : Int) (d : Nat) : ∀ (out : List S39) (i : Nat), i ≤ m.length → m.length - i = d → out.length ≤ i → (∀ x ∈ out, BothBr l c x) →
    ∃ res, Ev (fun k => spec_FigureWithout.l0 k l m c out i) (res, 0) ∧ Ev (fun k => impl_FigureWithout.l0 k l c out m m.length i) (res, 0) ∧ res.length ≤ m.length ∧ (∀ x ∈ res, BothBr l c x) := by
  induction d with
  | zero =>
    intro out i hi hd ho hq
    refine ⟨out, ev_succ ?_, ev_succ ?_, by omega, hq⟩
    · simp only [spec_FigureWithout.l0, if_neg (show ¬ (i : Int) < (m.length : Int) by omega)]
      exact ev_const rfl
    · simp only [impl_FigureWithout.l0, if_neg (show ¬ (i : Int) < (m.length : Int) by omega)]
      exact ev_const rfl
  | succ d ih =>
    intro out i hi hd ho hq
    have hlt : i < m.length := by omega
    have hx : (0 : Int) ≤ m[i].f0 ∧ m[i].f0 < m[i].f1 ∧ m[i].f1 < (l.length : Int) := hs _ (List.getElem_mem hlt)
    obtain ⟨r1, e1, e2, e3⟩ := ih out (i + 1) (by omega) (by omega) (by omega) hq
    by_cases c1 : (rd_T53 l m[i].f0).f1 ≤ c
    · by_cases c2 : (rd_T53 l m[i].f1).f1 ≤ c
      · obtain ⟨r2, f1, f2, f3⟩ := ih (out ++ [m[i]]) (i + 1) (by omega) (by omega) (by simp; omega) (by
          intro x hx2
          rcases List.mem_append.1 hx2 with h | h
          · exact hq x h
          · rw [List.mem_singleton.1 h]
            exact ⟨⟨hx.1, by omega, c1⟩, by omega, hx.2.2, c2⟩)
        refine ⟨r2, ev_succ ?_, ev_succ ?_, f3⟩
        · simp only [spec_FigureWithout.l0, if_pos (show (i : Int) < (m.length : Int) by omega), if_pos (show (0 : Int) ≤ (i : Int) by omega), rd_T39_at _ _ hlt, if_pos hx.1, if_pos (show m[i].f0 < (l.length : Int) by omega), if_pos c1, if_pos (show 0 ≤ m[i].f1 by omega), if_pos hx.2.2, if_pos c2, if_pos (show out.length < 4398046511104 by omega), if_pos (show out.length < 8796093022208 by omega), w64 (x := (i : Int) + 1) (by omega) (by omega)]
          exact f1
        · simp only [impl_FigureWithout.l0, if_pos (show (i : Int) < (m.length : Int) by omega), if_pos (show (0 : Int) ≤ (i : Int) by omega), rd_T39_at _ _ hlt, if_pos hx.1, if_pos (show m[i].f0 < (l.length : Int) by omega), if_pos c1, if_pos (show 0 ≤ m[i].f1 by omega), if_pos hx.2.2, if_pos c2, if_pos (show out.length < 4398046511104 by omega), if_pos (show out.length < 8796093022208 by omega), w64 (x := (i : Int) + 1) (by omega) (by omega)]
          exact f2
      · refine ⟨r1, ev_succ ?_, ev_succ ?_, e3⟩
        · simp only [spec_FigureWithout.l0, if_pos (show (i : Int) < (m.length : Int) by omega), if_pos (show (0 : Int) ≤ (i : Int) by omega), rd_T39_at _ _ hlt, if_pos hx.1, if_pos (show m[i].f0 < (l.length : Int) by omega), if_pos c1, if_pos (show 0 ≤ m[i].f1 by omega), if_pos hx.2.2, if_neg c2, w64 (x := (i : Int) + 1) (by omega) (by omega)]
          exact e1
        · simp only [impl_FigureWithout.l0, if_pos (show (i : Int) < (m.length : Int) by omega), if_pos (show (0 : Int) ≤ (i : Int) by omega), rd_T39_at _ _ hlt, if_pos hx.1, if_pos (show m[i].f0 < (l.length : Int) by omega), if_pos c1, if_pos (show 0 ≤ m[i].f1 by omega), if_pos hx.2.2, if_neg c2, w64 (x := (i : Int) + 1) (by omega) (by omega)]
          exact e2
    · refine ⟨r1, ev_succ ?_, ev_succ ?_, e3⟩
      · simp only [spec_FigureWithout.l0, if_pos (show (i : Int) < (m.length : Int) by omega), if_pos (show (0 : Int) ≤ (i : Int) by omega), rd_T39_at _ _ hlt, if_pos hx.1, if_pos (show m[i].f0 < (l.length : Int) by omega), if_neg c1, w64 (x := (i : Int) + 1) (by omega) (by omega)]
        exact e1
      · simp only [impl_FigureWithout.l0, if_pos (show (i : Int) < (m.length : Int) by omega), if_pos (show (0 : Int) ≤ (i : Int) by omega), rd_T39_at _ _ hlt, if_pos hx.1, if_pos (show m[i].f0 < (l.length : Int) by omega), if_neg c1, w64 (x := (i : Int) + 1) (by omega) (by omega)]
        exact e2
theorem without2_same (l : List S53) (hl : l.length ≤ 1048576) (m : List S39) (hm : m.length ≤ 1048576) (c : Int) : ∃ res cd, Ev (fun k => spec_FigureWithout.f k l m c) (res, cd) ∧ Ev (fun k => impl_FigureWithout.f k l m c) (res, cd) ∧ res.length ≤ 40 ∧ (cd = 0 → catB l = true ∧ (1 ≤ c ∧ c ≤ 6) ∧ res.length ≤ m.length ∧ ∀ x ∈ res, BothBr l c x) := by
  obtain ⟨v, h1, h2, h3⟩ := figure_same l hl m hm
  cases v with
  | false =>
    refine ⟨[], 1, ?_, ?_, by simp, fun h => by omega⟩
    · unfold spec_FigureWithout.f
      refine Ev.bind h1 ?_
      simp only [Bool.false_eq_true, if_false]
      exact ev_const rfl
    · unfold impl_FigureWithout.f impl_isClass.f
      refine Ev.bind h2 ?_
      simp only [within_val, Option.bind_some, impl_check.f, Bool.false_eq_true, if_false, if_neg (show ¬ (1 : Int) = 0 by omega)]
      exact ev_const rfl
  | true =>
    obtain ⟨g1, g2, g3⟩ := h3 rfl
    obtain ⟨h30, _⟩ := catB_ok g3
    by_cases c1 : 1 ≤ c ∧ c ≤ 6
    · obtain ⟨res, e1, e2, e3, e4⟩ := without2_l l (by omega) m (by omega) g1 c m.length [] 0 (by omega) (by omega) (by simp) (by simp)
      refine ⟨res, 0, ?_, ?_, by omega, fun _ => ⟨g3, c1, e3, e4⟩⟩
      · unfold spec_FigureWithout.f
        refine Ev.bind h1 ?_
        simp only [if_true, in_val, Option.bind_some, decide_eq_true c1]
        exact e1
      · unfold impl_FigureWithout.f impl_isClass.f
        refine Ev.bind h2 ?_
        simp only [within_val, Option.bind_some, impl_check.f, if_true, decide_eq_true c1]
        exact e2
    · refine ⟨[], 2, ?_, ?_, by simp, fun h => by omega⟩
      · unfold spec_FigureWithout.f
        refine Ev.bind h1 ?_
        simp only [if_true, in_val, Option.bind_some, decide_eq_false c1, Bool.false_eq_true, if_false]
        exact ev_const rfl
      · unfold impl_FigureWithout.f impl_isClass.f
        refine Ev.bind h2 ?_
        simp only [within_val, Option.bind_some, impl_check.f, if_true, decide_eq_false c1, Bool.false_eq_true, if_false, if_neg (show ¬ (2 : Int) = 0 by omega)]
        exact ev_const rfl
theorem ends_odd (m : List S39) (js : List Nat) : ((js.filter (fun j : Nat => decide (lines m j = 1))).length : Int) ≤ oddL m js := by
  induction js with
  | nil => simp [oddL]
  | cons j js ih =>
    have h1 := Int.emod_nonneg (lines m j) (show (2 : Int) ≠ 0 by omega)
    rw [List.filter_cons, oddL]
    by_cases c : lines m j = 1
    · rw [decide_eq_true c, if_pos rfl, List.length_cons, c]; omega
    · rw [decide_eq_false c, if_neg (by decide)]; omega
/-- What holds of a figure: its stroke, its piece, its ends and its stars. -/
theorem fig2_same (l : List S53) (hl : l.length ≤ 1048576) (m : List S39) (hm : m.length ≤ 1048576) : ∃ is one whole three tips five, Ev (fun k => spec_OneStroke.f k l m) (is, one) ∧ Ev (fun k => impl_OneStroke.f k l m) (is, one) ∧ Ev (fun k => spec_IsOnePiece.f k l m) (whole, three) ∧ Ev (fun k => impl_IsOnePiece.f k l m) (whole, three) ∧
    Ev (fun k => spec_EndsOfFigure.f k l m) (tips, five) ∧ Ev (fun k => impl_EndsOfFigure.f k l m) (tips, five) ∧ tips.length ≤ 30 ∧ (is = true → whole = true ∧ (tips.length : Int) ≤ 2) ∧
    (five = 0 → ∃ stars, Ev (fun k => impl_StarsOfFigure.f k l m) (stars, 0) ∧ stars.length ≤ 30 ∧ ∀ y ∈ tips, y ∈ stars) := by
  obtain ⟨v, h1, h2, h3⟩ := figure_same l hl m hm
  cases v with
  | false =>
    refine ⟨false, 1, false, 1, [], 1, ?_, ?_, ?_, ?_, ?_, ?_, by simp, (fun h => absurd h (by decide)), fun h => by omega⟩
    · unfold spec_OneStroke.f
      refine Ev.bind h1 ?_
      simp only [Bool.false_eq_true, if_false]
      exact ev_const rfl
    · unfold impl_OneStroke.f
      refine Ev.bind h2 ?_
      simp only [Bool.false_eq_true, if_false]
      exact ev_const rfl
    · unfold spec_IsOnePiece.f
      refine Ev.bind h1 ?_
      simp only [Bool.false_eq_true, if_false]
      exact ev_const rfl
    · unfold impl_IsOnePiece.f
      refine Ev.bind h2 ?_
      simp only [Bool.false_eq_true, if_false]
      exact ev_const rfl
    · unfold spec_EndsOfFigure.f
      refine Ev.bind h1 ?_
      simp only [Bool.false_eq_true, if_false]
      exact ev_const rfl
    · unfold impl_EndsOfFigure.f
      refine Ev.bind h2 ?_
      simp only [Bool.false_eq_true, if_false]
      exact ev_const rfl
  | true =>
    obtain ⟨g1, g2, g3⟩ := h3 rfl
    obtain ⟨h30, _⟩ := catB_ok g3
    have hsl := starsV_len l.length m
    obtain ⟨P, e1, e2⟩ := onepiece_same l (by omega) m (by omega) g1 h2
    obtain ⟨y, l1, l2, l3⟩ := slines_ev l (by omega) m (by omega) g1
    have s1 := sstroke_l l m y (by omega) (fun j hj => l3 j (by omega)) P e1 y.length 0 0 (by omega) (by omega) (by omega) (by omega)
    have q2 := istars_ev m (by omega) l.length g1
    have hTl : ((List.range l.length).filter (fun j : Nat => decide ((j : Int) ∈ pts m))).length ≤ 30 := Nat.le_trans (List.length_filter_le _ _) (by simp; omega)
    have s2 := istroke_l l.length m (by omega) g1 ((List.range l.length).filter (fun j : Nat => decide ((j : Int) ∈ pts m))) hTl P e2 _ 0 0 (by omega) rfl (by omega) (by omega)
    rw [List.drop_zero, oddL_filter] at s2
    rw [← List.range_eq_range', l2] at s1
    have s3 := sends_l m y (by omega) (fun j hj => l3 j (by omega)) y.length [] 0 (by omega) (by omega) (by simp)
    rw [List.nil_append, ← List.range_eq_range', l2, ← ends_eq l.length m (by omega) g1] at s3
    have hodd := ends_odd m (List.range l.length)
    have hlen : ((starsV l.length m).filter (fun x => !endsBad m x)).length = ((List.range l.length).filter (fun j : Nat => decide (lines m j = 1))).length := by
      rw [ends_eq l.length m (by omega) g1, List.length_map]
    refine ⟨(P && decide (0 + oddL m (List.range l.length) ≤ 2)), 0, P, 0, (starsV l.length m).filter (fun x => !endsBad m x), 0, ?_, ?_, ?_, ?_, ?_, ?_, Nat.le_trans (List.length_filter_le _ _) (by omega), ?_, fun _ => ⟨starsV l.length m, ?_, by omega, fun y hy => (List.mem_filter.1 hy).1⟩⟩
    · unfold spec_OneStroke.f
      refine Ev.bind h1 ?_
      simp only [if_true]
      exact Ev.bind l1 s1
    · unfold impl_OneStroke.f
      refine Ev.bind h2 ?_
      simp only [if_true]
      exact Ev.bind q2 s2
    · unfold spec_IsOnePiece.f
      refine Ev.bind h1 ?_
      simp only [if_true]
      exact Ev.bind e1 (ev_const rfl)
    · unfold impl_IsOnePiece.f
      refine Ev.bind h2 ?_
      simp only [if_true]
      exact Ev.bind e2 (ev_const rfl)
    · unfold spec_EndsOfFigure.f
      refine Ev.bind h1 ?_
      simp only [if_true]
      exact Ev.bind l1 s3
    · unfold impl_EndsOfFigure.f
      refine Ev.bind h2 ?_
      simp only [if_true]
      refine Ev.bind q2 ?_
      simp only [if_pos (show (starsV l.length m).length ≤ 1000000 by omega)]
      exact ev_const rfl
    · intro h
      rw [Bool.and_eq_true] at h
      have h5 := of_decide_eq_true h.2
      refine ⟨h.1, ?_⟩
      rw [hlen]
      omega
    · unfold impl_StarsOfFigure.f
      refine Ev.bind h2 ?_
      simp only [if_true]
      exact Ev.bind q2 (ev_const rfl)
theorem end_l2 (model : List S39) (hm : model.length ≤ 40) (bright : List Int) (hb : bright.length ≤ 30) (h : ∀ x ∈ model, x.f0 ∈ bright ∧ x.f1 ∈ bright) (d : Nat) : ∀ (i : Nat), i ≤ model.length → model.length - i = d → Ev (fun k => laws_FnFigures.l2 k model bright i) true := by
  induction d with
  | zero =>
    intro i hi hd
    apply ev_succ
    simp only [laws_FnFigures.l2, if_neg (show ¬ (i : Int) < (model.length : Int) by omega)]
    exact ev_const rfl
  | succ d ih =>
    intro i hi hd
    have hlt : i < model.length := by omega
    have h1 := ih (i + 1) (by omega) (by omega)
    have hx := h _ (List.getElem_mem hlt)
    apply ev_succ
    simp only [laws_FnFigures.l2, if_pos (show (i : Int) < (model.length : Int) by omega), if_pos (show (0 : Int) ≤ (i : Int) by omega), rd_T39_at _ _ hlt, w64 (x := (i : Int) + 1) (by omega) (by omega)]
    refine Ev.bind (f6has_ev bright (by omega) _ hx.1) ?_
    simp only [if_true]
    refine Ev.bind (f6has_ev bright (by omega) _ hx.2) ?_
    simp only [if_true]
    exact h1
theorem end_j4 (l : List S53) (hl : l.length ≤ 1048576) (m : List S39) (c bad : Int) (model : List S39) (hm : model.length ≤ 40) (h : bad = 0 → catB l = true ∧ (1 ≤ c ∧ c ≤ 6) ∧ model.length ≤ m.length ∧ ∀ x ∈ model, BothBr l c x) : Ev (fun k => laws_FnFigures.j4 k l m c bad model) true := by
  apply ev_succ
  by_cases hz : bad = 0
  · obtain ⟨h1, h2, h3, h4⟩ := h hz
    obtain ⟨bright, cd, b2, b3, b4, b5⟩ := bright2_same l hl c
    have h0 := b4.2 ⟨h1, h2.1, h2.2⟩
    subst h0
    have h6 := (b5 rfl).2
    have one : ∀ y : Int, 0 ≤ y → y < (l.length : Int) → (rd_T53 l y).f1 ≤ c → y ∈ bright := by
      intro y y0 y1 y2
      obtain ⟨j, rfl⟩ := Int.eq_ofNat_of_zero_le y0
      have hj : j < l.length := by omega
      rw [rd_T53_at _ _ hj] at y2
      exact h6 j hj y2
    simp only [laws_FnFigures.j4, if_pos hz]
    refine Ev.bind b2 ?_
    simp only [if_true, decide_eq_false (show ¬ (model.length : Int) > (m.length : Int) by omega)]
    apply ev_succ
    simp only [laws_FnFigures.j5, Bool.false_eq_true, if_false]
    exact end_l2 model hm bright b3 (fun x hx => ⟨one _ (h4 x hx).1.1 (h4 x hx).1.2.1 (h4 x hx).1.2.2, one _ (h4 x hx).2.1 (h4 x hx).2.2.1 (h4 x hx).2.2.2⟩) model.length 0 (by omega) (by omega)
  · simp only [laws_FnFigures.j4, if_neg hz]
    exact ev_const rfl
theorem end_l1 (l : List S53) (m : List S39) (c bad : Int) (model : List S39) (hR : Ev (fun k => laws_FnFigures.j4 k l m c bad model) true) (tips stars : List Int) (ht : tips.length ≤ 30) (hs : stars.length ≤ 30) (h : ∀ y ∈ tips, y ∈ stars) (d : Nat) : ∀ (i : Nat), i ≤ tips.length → tips.length - i = d → Ev (fun k => laws_FnFigures.l1 k l m c bad model tips stars i) true := by
  induction d with
  | zero =>
    intro i hi hd
    apply ev_succ
    simp only [laws_FnFigures.l1, if_neg (show ¬ (i : Int) < (tips.length : Int) by omega)]
    exact hR
  | succ d ih =>
    intro i hi hd
    have hlt : i < tips.length := by omega
    have h1 := ih (i + 1) (by omega) (by omega)
    apply ev_succ
    simp only [laws_FnFigures.l1, if_pos (show (i : Int) < (tips.length : Int) by omega), if_pos (show (0 : Int) ≤ (i : Int) by omega), rdn_at _ _ hlt, w64 (x := (i : Int) + 1) (by omega) (by omega)]
    refine Ev.bind (f6has_ev stars (by omega) _ (h _ (List.getElem_mem hlt))) ?_
    simp only [if_true]
    exact h1
theorem same_l0 (l : List S53) (m : List S39) (c bad : Int) (model : List S39) (hm : model.length ≤ 40) (a : List S53) (b : List S39) (one five : Int) (is whole : Bool) (tips : List Int) (hq : is = true → whole = true ∧ (tips.length : Int) ≤ 2) (hR : Ev (fun k => laws_FnFigures.j2 k l m c bad model a b five tips false) true) (d : Nat) : ∀ (i : Nat), i ≤ model.length → model.length - i = d → Ev (fun k => laws_FnFigures.l0 k l m c model bad model a b one is whole five tips i) true := by
  induction d with
  | zero =>
    intro i hi hd
    apply ev_succ
    simp only [laws_FnFigures.l0, if_neg (show ¬ (i : Int) < (model.length : Int) by omega)]
    by_cases hz : one = 0
    · simp only [if_pos hz]
      cases is with
      | false =>
        simp only [Bool.false_eq_true, if_false]
        exact hR
      | true =>
        obtain ⟨h1, h2⟩ := hq rfl
        simp only [if_true, h1, decide_eq_false (show ¬ (tips.length : Int) > 2 by omega)]
        exact hR
    · simp only [if_neg hz]
      exact hR
  | succ d ih =>
    intro i hi hd
    have h1 := ih (i + 1) (by omega) (by omega)
    apply ev_succ
    simp only [laws_FnFigures.l0, if_pos (show (i : Int) < (model.length : Int) by omega), if_pos (show (0 : Int) ≤ (i : Int) by omega), beq_self_eq_true, Bool.not_true, Bool.or_self, Bool.false_eq_true, if_false, w64 (x := (i : Int) + 1) (by omega) (by omega)]
    exact h1
theorem withoutdraw_ev {l : List Int} (hB : Bytes l) (hl : l.length ≤ 140737488351232) : ∃ x m c, Ev (fun k => spec_DrawFigureWithout.f k l) (x, m, c) ∧ x.length ≤ 31 ∧ m.length ≤ 1100 := by
  obtain ⟨x, a1, s1, e1, r1, r2, r3, r4⟩ := bent_ev hB hl (a := 0) (s := 0) (by omega) (by omega)
  obtain ⟨m, a2, s2, e2, q1, q2, q3⟩ := lines_ev hB hl x r1 (a := a1) (s := s1) (by omega) (by omega)
  obtain ⟨c, a3, s3, e3⟩ := class_val hB hl (a := a2) (s := s2) (by omega) (by omega)
  refine ⟨x, m, c, ?_, r1, q1⟩
  unfold spec_DrawFigureWithout.f spec_l00From.f
  simp only [Option.bind_some]
  refine Ev.bind e1 (Ev.bind e2 ?_)
  simp only [e3, Option.bind_some]
  exact ev_const rfl
theorem strokedraw_ev {l : List Int} (hB : Bytes l) (hl : l.length ≤ 140737488351232) : ∃ x m, Ev (fun k => spec_DrawOneStroke.f k l) (x, m) ∧ x.length ≤ 31 ∧ m.length ≤ 1100 := by
  obtain ⟨x, m, e, h1, h2, _⟩ := both_ev hB hl
  refine ⟨x, m, ?_, h1, h2⟩
  unfold spec_DrawOneStroke.f
  exact Ev.bind e (ev_const rfl)
theorem FnFigures : laws_FnFigures.Pure := by
  intro l hl hlb
  have hB := bytes_of hlb
  apply Ev.rounds
  unfold laws_FnFigures.f
  simp only [f6big_val, Option.bind_some]
  by_cases hlong : (l.length : Int) > 4096
  · simp only [hlong, decide_true, if_true]; exact ev_const rfl
  · simp only [hlong, decide_false, Bool.false_eq_true, if_false]
    obtain ⟨x, m, c, d1, d2, d3⟩ := withoutdraw_ev hB (by omega)
    obtain ⟨a, b, d4, d5, d6⟩ := strokedraw_ev hB (by omega)
    obtain ⟨model, bad, w1, w2, w3, w4⟩ := without2_same x (by omega) m (by omega) c
    obtain ⟨is, one, whole, three, tips, five, f1, f2, f3, f4, f5, f6, f7, f8, f9⟩ := fig2_same a (by omega) b (by omega)
    have i1 := f6ints_ev tips (by omega)
    refine Ev.bind d1 (Ev.bind w2 (Ev.bind w1 (Ev.bind d4 (Ev.bind f2 (Ev.bind f1 (Ev.bind f4 (Ev.bind f3 (Ev.bind f6 (Ev.bind f5 ?_)))))))))
    simp only [if_true, bne_self_eq_false, Bool.false_eq_true, if_false]
    refine Ev.bind i1 ?_
    simp only [Bool.not_true]
    have hj4 := end_j4 x (by omega) m c bad model w3 w4
    have hj2 : Ev (fun k => laws_FnFigures.j2 k x m c bad model a b five tips false) true := by
      apply ev_succ
      simp only [laws_FnFigures.j2, Bool.false_eq_true, if_false]
      by_cases hz : five = 0
      · obtain ⟨stars, s1, s2, s3⟩ := f9 hz
        simp only [if_pos hz]
        refine Ev.bind s1 ?_
        simp only [if_true]
        exact end_l1 x m c bad model hj4 tips stars f7 s2 s3 tips.length 0 (by omega) (by omega)
      · simp only [if_neg hz]
        exact hj4
    apply ev_succ
    simp only [laws_FnFigures.j0, Bool.false_eq_true, if_false]
    exact same_l0 x m c bad model w3 a b one five is whole tips f8 hj2 model.length 0 (by omega) (by omega)

end Go.Proofs.YtdambdglgdaojaaGreatDoor.Pure
