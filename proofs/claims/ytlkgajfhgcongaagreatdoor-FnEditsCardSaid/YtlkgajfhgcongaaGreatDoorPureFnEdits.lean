/- FnEdits: for all bytes: the edits between two drawn plates lead from one to the other and back; drawn edits that fit a plate lead back as well, the short edits are the edits between the plates and lead to the same plate, and each of them is read back from its text. -/
import Derived.Test.YtlkgajfhgcongaaGreatDoorStatFnEdits
namespace Go.Proofs.YtlkgajfhgcongaaGreatDoor.Pure
open Go.RowKit Go.Proofs.YtlkgajfhgcongaaGreatDoor.PFnEdits Go.Proofs.YtlkgajfhgcongaaGreatDoorW.PrintWords Go.Proofs.YtlkgajfhgcongaaGreatDoorW.PrintLast Go.Proofs.YtlkgajfhgcongaaGreatDoorW.PrintMore
set_option linter.unusedVariables false
set_option linter.unusedSimpArgs false
theorem w64 {x : Int} (h : -9223372036854775808 ≤ x) (h2 : x ≤ 9223372036854775807) : wrap64 x = x := by unfold wrap64; omega
theorem tmod_nn {a b : Int} (h : 0 ≤ a) : Int.tmod a b = a % b := Int.tmod_eq_emod_of_nonneg h
theorem ev_succ {α : Type} {g : Nat → Option α} {r : α} (h : Ev (fun k => g (k + 1)) r) : Ev g r := Ev.step (fun _ => rfl) h
theorem ev_const {α : Type} {g : Option α} {r : α} (h : g = some r) : Ev (fun _ => g) r := ⟨0, fun _ _ => h⟩
theorem toList_inj {a b : ByteArray} : a.toList = b.toList ↔ a = b := by
  constructor
  · intro h
    rw [ByteArray.toList_eq, ByteArray.toList_eq] at h
    obtain ⟨⟨x⟩⟩ := a
    obtain ⟨⟨y⟩⟩ := b
    simp at h
    rw [h]
  · intro h; rw [h]
theorem rdOf_at (d : ByteArray) (l : List ByteArray) (i : Nat) (h : i < l.length) : rdOf d l (i : Int) = l[i] := by
  unfold rdOf
  rw [Int.toNat_natCast, List.getD_eq_getElem?_getD, List.getElem?_eq_getElem h]
  rfl

/-- A byte that a name may have. -/
def nameC (c : Int) : Prop := ((97 : Int) ≤ c ∧ c ≤ 122) ∨ ((48 : Int) ≤ c ∧ c ≤ 57) ∨ c = 45
instance instNameC (c : Int) : Decidable (nameC c) := by unfold nameC; infer_instance
/-- A name. -/
def IsNm (s : ByteArray) : Prop := 1 ≤ s.size ∧ s.size ≤ 12 ∧ ((97 : Int) ≤ bt s 0 ∧ bt s 0 ≤ 122) ∧ ∀ i, i < s.size → nameC (bt s (i : Int))
instance instIsNm (s : ByteArray) : Decidable (IsNm s) := by unfold IsNm; infer_instance
theorem toList_nil (s : ByteArray) : s.toList = ([] : List UInt8) ↔ s.size = 0 := by
  rw [ByteArray.toList_eq]
  obtain ⟨⟨x⟩⟩ := s
  show x = [] ↔ x.length = 0
  rw [List.length_eq_zero_iff]
theorem bt_at (s : ByteArray) (i : Nat) (h : i < s.size) : bt s (i : Int) = ((s.data.toList[i]'(by simpa using h)).toNat : Int) := by
  unfold bt
  rw [dif_pos (by simpa using h)]
  rfl
open Classical in

theorem dw_nil (p : UInt8 → Bool) (l : List UInt8) : l.dropWhile p = [] ↔ ∀ b ∈ l, p b = true := by
  induction l with
  | nil => simp
  | cons a l ih =>
    by_cases h : p a = true
    · simp [List.dropWhile, h, ih]
    · simp [List.dropWhile, h]
theorem dw_head (p : UInt8 → Bool) (l : List UInt8) (x : UInt8) (xs : List UInt8) (h : l.dropWhile p = x :: xs) : p x = false := by
  induction l with
  | nil => simp at h
  | cons a l ih =>
    by_cases h2 : p a = true
    · simp only [List.dropWhile, h2] at h
      exact ih h
    · have h3 : p a = false := by simpa using h2
      simp only [List.dropWhile, h3, List.cons.injEq] at h
      rw [← h.1]; exact h3
theorem trimS_nil (l cs : List UInt8) : Go.Lib.trimS l cs = [] ↔ ∀ b ∈ l, cs.contains b = true := by
  unfold Go.Lib.trimS Go.Lib.trimLeftS Go.Lib.trimRightS
  rw [dw_nil]
  constructor
  · intro h b hb
    cases e : l.reverse.dropWhile (cs.contains ·) with
    | nil =>
      rw [dw_nil] at e
      exact e b (by simpa using hb)
    | cons x xs =>
      exfalso
      have h1 := dw_head _ _ _ _ e
      have h2 := h x (by rw [e]; simp)
      rw [h2] at h1
      cases h1
  · intro h b hb
    exact h b (by simpa using (List.dropWhile_sublist _).subset (List.mem_reverse.1 hb))
theorem name_cut (b : UInt8) : ([97, 98, 99, 100, 101, 102, 103, 104, 105, 106, 107, 108, 109, 110, 111, 112, 113, 114, 115, 116, 117, 118, 119, 120, 121, 122, 48, 49, 50, 51, 52, 53, 54, 55, 56, 57, 45] : List UInt8).contains b = decide (nameC (b.toNat : Int)) := by
  have key : ((List.range 256).all fun n => (([97, 98, 99, 100, 101, 102, 103, 104, 105, 106, 107, 108, 109, 110, 111, 112, 113, 114, 115, 116, 117, 118, 119, 120, 121, 122, 48, 49, 50, 51, 52, 53, 54, 55, 56, 57, 45] : List UInt8).contains (UInt8.ofNat n) == decide (((97 : Int) ≤ (n : Int) ∧ (n : Int) ≤ 122) ∨ ((48 : Int) ≤ (n : Int) ∧ (n : Int) ≤ 57) ∨ (n : Int) = 45))) = true := by decide +kernel
  have h := List.all_eq_true.1 key b.toNat (List.mem_range.2 b.toNat_lt)
  rw [UInt8.ofNat_toNat] at h
  rw [beq_iff_eq] at h
  rw [h]
  rfl
theorem impl_name (s : ByteArray) : impl_IsName.f s = some (decide (IsNm s)) := by
  unfold impl_IsName.f
  by_cases h0 : (s.size : Int) < 1
  · rw [if_pos h0, decide_eq_false (fun h => by have := h.1; omega)]
  · rw [if_neg h0]
    by_cases h1 : (s.size : Int) > 12
    · rw [if_pos h1, decide_eq_false (fun h => by have := h.2.1; omega)]
    · rw [if_neg h1, if_pos (by omega)]
      by_cases h2 : bt s 0 < 97
      · rw [if_pos h2, decide_eq_false (fun h => by have := h.2.2.1.1; omega)]
      · rw [if_neg h2]
        by_cases h3 : bt s 0 > 122
        · rw [if_pos h3, decide_eq_false (fun h => by have := h.2.2.1.2; omega)]
        · rw [if_neg h3]
          unfold strings_Trim.f
          rw [if_pos ⟨by omega, by decide, by decide +kernel⟩]
          simp only [Option.bind_some]
          congr 1
          have e : (decide (IsNm s)) = decide (∀ b ∈ s.data.toList, nameC (b.toNat : Int)) := by
            rw [decide_eq_decide]
            constructor
            · intro h b hb
              obtain ⟨j, hj, rfl⟩ := List.getElem_of_mem hb
              have := h.2.2.2 j (by simpa using hj)
              rw [bt_at s j (by simpa using hj)] at this
              exact this
            · intro h
              refine ⟨by omega, by omega, ⟨by omega, by omega⟩, fun j hj => ?_⟩
              rw [bt_at s j hj]
              exact h _ (List.getElem_mem _)
          rw [e]
          have e2 : ∀ t : List UInt8, (({ data := t.toArray } : ByteArray).toList == ([] : List UInt8)) = decide (t = []) := by
            intro t
            rw [ByteArray.toList_eq]
            cases t <;> simp
          rw [e2, decide_eq_decide, trimS_nil]
          constructor
          · intro h b hb
            have := h b hb
            rw [name_cut] at this
            exact of_decide_eq_true this
          · intro h b hb
            rw [name_cut]
            exact decide_eq_true (h b hb)

theorem within_val (a b c : Int) : impl_within.f a b c = some (decide (b ≤ a ∧ a ≤ c)) := by
  unfold impl_within.f
  by_cases h : a ≥ b <;> by_cases h2 : a ≤ c <;> simp [h, h2] <;> omega

/-- A name or none. -/
def Engr (s : ByteArray) : Prop := s.size = 0 ∨ IsNm s
instance instEngr (s : ByteArray) : Decidable (Engr s) := by unfold Engr; infer_instance
theorem impl_engr (s : ByteArray) : impl_isEngraved.f s = some (decide (Engr s)) := by
  unfold impl_isEngraved.f
  by_cases h : s.size = 0
  · rw [if_pos ((toList_nil s).2 h), decide_eq_true (show Engr s from .inl h)]
  · rw [if_neg (fun e => h ((toList_nil s).1 e)), impl_name]
    have e : decide (Engr s) = decide (IsNm s) := by
      rw [decide_eq_decide]
      exact ⟨fun x => x.resolve_left h, .inr⟩
    rw [e]
    rfl

/-- What a plate must hold. -/
def PlateOk (l : List ByteArray) : Prop := (∀ s ∈ l, Engr s) ∧ (1 : Int) ≤ l.length ∧ (l.length : Int) ≤ 12
instance instPlateOk (l : List ByteArray) : Decidable (PlateOk l) := by unfold PlateOk; infer_instance
def Suff (l : List ByteArray) (i : Nat) : Prop := (∀ s ∈ l.drop i, Engr s) ∧ (1 : Int) ≤ l.length ∧ (l.length : Int) ≤ 12
instance instSuff (l : List ByteArray) (i : Nat) : Decidable (Suff l i) := by unfold Suff; infer_instance
theorem iplate_val (l : List ByteArray) : impl_ValidPlate.f l = some (decide (PlateOk l)) := by
  have hb : ∀ x, impl_isEngravedBad x = !decide (Engr x) := fun x => by unfold impl_isEngravedBad; rw [impl_engr]; rfl
  have ha : (!l.any impl_isEngravedBad) = decide (∀ s ∈ l, Engr s) := by
    rw [show impl_isEngravedBad = fun x => !decide (Engr x) from funext hb]
    rw [Bool.eq_iff_iff]
    simp
  unfold impl_ValidPlate.f
  rw [ha]
  by_cases h1 : (l.length : Int) ≥ 1
  · by_cases h2 : (l.length : Int) ≤ 12
    · rw [if_pos h1, if_pos h2]
      exact congrArg some (decide_eq_decide.2 ⟨fun h => ⟨h, h1, h2⟩, fun h => h.1⟩)
    · rw [if_pos h1, if_neg h2, decide_eq_false (show ¬ PlateOk l from fun h => h2 h.2.2)]
  · rw [if_neg h1, decide_eq_false (show ¬ PlateOk l from fun h => h1 h.2.1)]

theorem rdL_at (l : List (List ByteArray)) (i : Nat) (h : i < l.length) : rd_L2 l (i : Int) = l[i] := by
  unfold rd_L2
  rw [Int.toNat_natCast, List.getD_eq_getElem?_getD, List.getElem?_eq_getElem h]
  rfl
def AllPlates (l : List (List ByteArray)) (i : Nat) : Prop := ∀ p ∈ l.drop i, PlateOk p
instance instAllPlates (l : List (List ByteArray)) (i : Nat) : Decidable (AllPlates l i) := by unfold AllPlates; infer_instance
def SameLen (l : List (List ByteArray)) (n i : Nat) : Prop := ∀ p ∈ l.drop i, p.length = n
instance instSameLen (l : List (List ByteArray)) (n i : Nat) : Decidable (SameLen l n i) := by unfold SameLen; infer_instance
theorem plates1_l (l : List (List ByteArray)) (hl : l.length ≤ 1000) (h0 : 0 < l.length) (d : Nat) : ∀ (i : Nat), i ≤ l.length → l.length - i = d → Ev (fun k => impl_platesCode.l1 k l l l.length i) (if SameLen l l[0].length i then 0 else 2) := by
  induction d with
  | zero =>
    intro i hi hd
    apply ev_succ
    simp only [impl_platesCode.l1, if_neg (show ¬ (i : Int) < (l.length : Int) by omega)]
    rw [if_pos (show SameLen l l[0].length i from by unfold SameLen; rw [List.drop_eq_nil_of_le (by omega)]; simp)]
    exact ev_const rfl
  | succ d ih =>
    intro i hi hd
    have hlt : i < l.length := by omega
    have r0 : rd_L2 l 0 = l[0] := rdL_at l 0 h0
    apply ev_succ
    simp only [impl_platesCode.l1, if_pos (show (i : Int) < (l.length : Int) by omega), if_pos (show (0 : Int) ≤ (i : Int) by omega), if_pos (show (0 : Int) < (l.length : Int) by omega), rdL_at _ _ hlt, r0, w64 (x := (i : Int) + 1) (by omega) (by omega)]
    have hd2 : SameLen l l[0].length i ↔ (l[i].length = l[0].length ∧ SameLen l l[0].length (i + 1)) := by
      unfold SameLen
      rw [List.drop_eq_getElem_cons hlt, List.forall_mem_cons]
    by_cases h : l[i].length = l[0].length
    · simp only [if_pos (show (l[i].length : Int) = (l[0].length : Int) by omega)]
      have e : (if SameLen l l[0].length i then (0 : Int) else 2) = if SameLen l l[0].length (i + 1) then 0 else 2 := by
        by_cases h2 : SameLen l l[0].length (i + 1)
        · rw [if_pos h2, if_pos (hd2.2 ⟨h, h2⟩)]
        · rw [if_neg h2, if_neg (fun x => h2 (hd2.1 x).2)]
      rw [e]
      exact ih (i + 1) (by omega) (by omega)
    · simp only [if_neg (show ¬ (l[i].length : Int) = (l[0].length : Int) by omega)]
      rw [if_neg (fun x => h (hd2.1 x).1)]
      exact ev_const rfl
theorem plates0_l (l : List (List ByteArray)) (hl : l.length ≤ 1000) (h0 : 0 < l.length) (d : Nat) : ∀ (i : Nat), i ≤ l.length → l.length - i = d → Ev (fun k => impl_platesCode.l0 k l l l.length i) (if AllPlates l i then (if SameLen l l[0].length 0 then 0 else 2) else 1) := by
  induction d with
  | zero =>
    intro i hi hd
    apply ev_succ
    simp only [impl_platesCode.l0, if_neg (show ¬ (i : Int) < (l.length : Int) by omega)]
    rw [if_pos (show AllPlates l i from by unfold AllPlates; rw [List.drop_eq_nil_of_le (by omega)]; simp)]
    exact plates1_l l hl h0 l.length 0 (by omega) (by omega)
  | succ d ih =>
    intro i hi hd
    have hlt : i < l.length := by omega
    apply ev_succ
    simp only [impl_platesCode.l0, if_pos (show (i : Int) < (l.length : Int) by omega), if_pos (show (0 : Int) ≤ (i : Int) by omega), rdL_at _ _ hlt, iplate_val, Option.bind_some, w64 (x := (i : Int) + 1) (by omega) (by omega)]
    have hd2 : AllPlates l i ↔ (PlateOk l[i] ∧ AllPlates l (i + 1)) := by
      unfold AllPlates
      rw [List.drop_eq_getElem_cons hlt, List.forall_mem_cons]
    by_cases h : PlateOk l[i]
    · simp only [decide_eq_true h, if_true]
      have e : (if AllPlates l i then (if SameLen l l[0].length 0 then (0 : Int) else 2) else 1) = if AllPlates l (i + 1) then (if SameLen l l[0].length 0 then 0 else 2) else 1 := by
        by_cases h2 : AllPlates l (i + 1)
        · rw [if_pos h2, if_pos (hd2.2 ⟨h, h2⟩)]
        · rw [if_neg h2, if_neg (fun x => h2 (hd2.1 x).2)]
      rw [e]
      exact ih (i + 1) (by omega) (by omega)
    · simp only [decide_eq_false h, Bool.false_eq_true, if_false]
      rw [if_neg (fun x => h (hd2.1 x).1)]
      exact ev_const rfl
theorem plates_ev (l : List (List ByteArray)) (hl : l.length ≤ 1000) (h0 : 0 < l.length) : Ev (fun k => impl_platesCode.f k l) (if AllPlates l 0 then (if SameLen l l[0].length 0 then 0 else 2) else 1) :=
  plates0_l l hl h0 l.length 0 (by omega) (by omega)

/-- The code of three plates. -/
def threeV (o a b : List ByteArray) : Int := if PlateOk o ∧ PlateOk a ∧ PlateOk b then (if a.length = o.length ∧ b.length = o.length then 0 else 2) else 1
theorem rd_T36_at (l : List S36) (i : Nat) (h : i < l.length) : rd_T36 l (i : Int) = l[i] := by
  unfold rd_T36
  rw [Int.toNat_natCast, List.getD_eq_getElem?_getD, List.getElem?_eq_getElem h]
  rfl

/-- What an edit must hold. -/
def EditOk (x : S36) : Prop := ((0 : Int) ≤ x.f0 ∧ x.f0 ≤ 11) ∧ Engr x.f1 ∧ Engr x.f2 ∧ x.f1 ≠ x.f2
instance instEditOk (x : S36) : Decidable (EditOk x) := by
  unfold EditOk
  exact @instDecidableAnd _ _ inferInstance (@instDecidableAnd _ _ inferInstance (@instDecidableAnd _ _ inferInstance (decidable_of_iff (¬ x.f1.toList = x.f2.toList) (by rw [toList_inj]))))
theorem impl_edit (x : S36) : impl_isEdit.f x.f0 x.f1 x.f2 = some (decide (EditOk x)) := by
  unfold impl_isEdit.f
  simp only [within_val, impl_engr, Option.bind_some]
  by_cases h1 : 0 ≤ x.f0 ∧ x.f0 ≤ 11
  · simp only [decide_eq_true h1, if_true]
    by_cases h2 : Engr x.f1
    · simp only [decide_eq_true h2, if_true]
      by_cases h3 : Engr x.f2
      · simp only [decide_eq_true h3, if_true]
        refine congrArg some ?_
        by_cases h4 : x.f1 = x.f2
        · rw [decide_eq_false (show ¬ EditOk x from fun h => h.2.2.2 h4), h4]
          simp
        · rw [decide_eq_true (show EditOk x from ⟨h1, h2, h3, h4⟩)]
          simp only [bne_iff_ne, ne_eq]
          rw [toList_inj]
          exact h4
      · simp only [decide_eq_false h3, Bool.false_eq_true, if_false]
        rw [decide_eq_false (show ¬ EditOk x from fun h => h3 h.2.2.1)]
    · simp only [decide_eq_false h2, Bool.false_eq_true, if_false]
      rw [decide_eq_false (show ¬ EditOk x from fun h => h2 h.2.1)]
  · simp only [decide_eq_false h1, Bool.false_eq_true, if_false]
    rw [decide_eq_false (show ¬ EditOk x from fun h => h1 h.1)]
/-- What edits must hold. -/
def EditsOk (l : List S36) : Prop := (∀ x ∈ l, EditOk x) ∧ (l.length : Int) ≤ 20
instance instEditsOk (l : List S36) : Decidable (EditsOk l) := by unfold EditsOk; infer_instance
def EditsFrom (l : List S36) (i : Nat) : Prop := (∀ x ∈ l.drop i, EditOk x) ∧ (l.length : Int) ≤ 20
instance instEditsFrom (l : List S36) (i : Nat) : Decidable (EditsFrom l i) := by unfold EditsFrom; infer_instance
theorem iedits_val (l : List S36) : impl_ValidEdits.f l = some (decide (EditsOk l)) := by
  have hb : ∀ x, impl_isEditBad x = !decide (EditOk x) := fun x => by unfold impl_isEditBad; rw [impl_edit]; rfl
  have ha : (!l.any impl_isEditBad) = decide (∀ s ∈ l, EditOk s) := by
    rw [show impl_isEditBad = fun x => !decide (EditOk x) from funext hb]
    rw [Bool.eq_iff_iff]
    simp
  unfold impl_ValidEdits.f
  rw [ha]
  by_cases h2 : (l.length : Int) ≤ 20
  · rw [if_pos h2]
    exact congrArg some (decide_eq_decide.2 ⟨fun h => ⟨h, h2⟩, fun h => h.1⟩)
  · rw [if_neg h2, decide_eq_false (show ¬ EditsOk l from fun h => h2 h.2)]

theorem turn_len (l : List S36) : (turnL l).length = l.length := by unfold turnL; rw [List.length_map, comeB_length]
theorem turn_at (l : List S36) (j : Nat) (h : j < l.length) : rd_T36 (turnL l) (j : Int) = ⟨(l[l.length - 1 - j]'(by omega)).f0, (l[l.length - 1 - j]'(by omega)).f2, (l[l.length - 1 - j]'(by omega)).f1⟩ := by
  rw [rd_T36_at (turnL l) j (by rw [turn_len]; exact h)]
  simp only [turnL, comeB, List.getElem_map, List.getElem_range, swapE]
  rw [rd_T36_at l (l.length - 1 - j) (by omega)]
abbrev ED := S36
theorem ed_eq {x y : ED} (h0 : x.f0 = y.f0) (h1 : x.f1 = y.f1) (h2 : x.f2 = y.f2) : x = y := by
  cases x; cases y; simp_all
/-- What is known of a place: nothing yet, or its first and its last text. -/
abbrev St := Option (ByteArray × ByteArray)
/-- The edits of one place, one behind the other: none: they clash. -/
def runP (p : Int) : St → List ED → Option St
  | st, [] => some st
  | st, x :: xs => if x.f0 = p then (match st with | none => runP p (some (x.f1, x.f2)) xs | some (o, n) => if n.toList = x.f1.toList then runP p (some (o, x.f2)) xs else none) else runP p st xs
theorem runP_ne {p : Int} {st : St} {x : ED} {xs : List ED} (h : x.f0 ≠ p) : runP p st (x :: xs) = runP p st xs := by
  show (if x.f0 = p then _ else _) = _
  rw [if_neg h]
theorem runP_first {x : ED} {xs : List ED} : runP x.f0 none (x :: xs) = runP x.f0 (some (x.f1, x.f2)) xs := by
  show (if x.f0 = x.f0 then _ else _) = _
  rw [if_pos rfl]
theorem runP_next {x : ED} {xs : List ED} (o n : ByteArray) : runP x.f0 (some (o, n)) (x :: xs) = if n.toList = x.f1.toList then runP x.f0 (some (o, x.f2)) xs else none := by
  show (if x.f0 = x.f0 then _ else _) = _
  rw [if_pos rfl]
def Asc (l : List ED) : Prop := l.Pairwise (fun a b => a.f0 < b.f0)
def InR (l : List ED) : Prop := ∀ x ∈ l, 0 ≤ x.f0 ∧ x.f0 ≤ 11
/-- A list holds what is known of a place. -/
def Rel (l : List ED) (p : Int) : St → Prop
  | none => ∀ y ∈ l, y.f0 ≠ p
  | some (o, n) => (⟨p, o, n⟩ : ED) ∈ l
theorem asc_one {l : List ED} (h : Asc l) {x y : ED} (hx : x ∈ l) (hy : y ∈ l) (e : x.f0 = y.f0) : x = y := by
  unfold Asc at h
  induction l with
  | nil => cases hx
  | cons a l ih =>
    obtain ⟨h1, h2⟩ := List.pairwise_cons.1 h
    rcases List.mem_cons.1 hx with ex | hx2
    · rcases List.mem_cons.1 hy with ey | hy2
      · rw [ex, ey]
      · have := h1 y hy2; rw [← ex] at this; omega
    · rcases List.mem_cons.1 hy with ey | hy2
      · have := h1 x hx2; rw [← ey] at this; omega
      · exact ih h2 hx2 hy2
theorem asc_same : ∀ (a b : List ED), Asc a → Asc b → (∀ x, x ∈ a ↔ x ∈ b) → a = b
  | [], [], _, _, _ => rfl
  | [], y :: b, _, _, h => by have := (h y).2 (by simp); simp at this
  | x :: a, [], _, _, h => by have := (h x).1 (by simp); simp at this
  | x :: a, y :: b, h1, h2, h => by
    obtain ⟨g1, g2⟩ := List.pairwise_cons.1 h1
    obtain ⟨f1, f2⟩ := List.pairwise_cons.1 h2
    have e : x = y := by
      rcases List.mem_cons.1 ((h x).1 (by simp)) with e | e
      · exact e
      · rcases List.mem_cons.1 ((h y).2 (by simp)) with e2 | e2
        · exact e2.symm
        · have := g1 y e2; have := f1 x e; omega
    subst e
    rw [asc_same a b g2 f2 (fun z => ?_)]
    constructor
    · intro hz
      rcases List.mem_cons.1 ((h z).1 (List.mem_cons_of_mem _ hz)) with e | e
      · have := g1 z hz; rw [e] at this; omega
      · exact e
    · intro hz
      rcases List.mem_cons.1 ((h z).2 (List.mem_cons_of_mem _ hz)) with e | e
      · have := f1 z hz; rw [e] at this; omega
      · exact e
/-! Where a place stands -/
theorem bsGo_at {l : List ED} (ha : Asc l) (hr : InR l) (p : Int) (h0 : 0 ≤ p) (h1 : p ≤ 11) : ∀ (k i j : Nat), j ≤ i + k → i ≤ j → j ≤ l.length → (∀ t (ht : t < l.length), t < i → (l[t]).f0 < p) → (∀ t (ht : t < l.length), j ≤ t → p ≤ (l[t]).f0) →
    bsGo l p k i j ≤ l.length ∧ (∀ t (ht : t < l.length), t < bsGo l p k i j → (l[t]).f0 < p) ∧ (∀ t (ht : t < l.length), bsGo l p k i j ≤ t → p ≤ (l[t]).f0)
  | 0, i, j, hk, hij, hj, hA, hB => by
    obtain rfl : i = j := by omega
    exact ⟨hj, hA, hB⟩
  | k + 1, i, j, hk, hij, hj, hA, hB => by
    unfold bsGo
    by_cases c : i < j
    · rw [if_pos c]
      have hm : (i + j) / 2 < l.length := by omega
      have hrd : rd_T36 l (((i + j) / 2 : Nat) : Int) = l[(i + j) / 2] := rd_T36_at l _ hm
      have hin := hr _ (List.getElem_mem hm)
      rw [hrd, w64 (x := (l[(i + j) / 2]).f0 - p) (by omega) (by omega)]
      have hpw := List.pairwise_iff_getElem.1 ha
      by_cases c2 : (l[(i + j) / 2]).f0 - p < 0
      · rw [if_pos c2]
        refine bsGo_at ha hr p h0 h1 k ((i + j) / 2 + 1) j (by omega) (by omega) hj (fun t ht htl => ?_) hB
        rcases Nat.lt_or_ge t ((i + j) / 2) with q | q
        · have := hpw t ((i + j) / 2) ht hm q
          omega
        · obtain rfl : t = (i + j) / 2 := by omega
          omega
      · rw [if_neg c2]
        refine bsGo_at ha hr p h0 h1 k i ((i + j) / 2) (by omega) (by omega) (by omega) hA (fun t ht htl => ?_)
        rcases Nat.lt_or_ge ((i + j) / 2) t with q | q
        · have := hpw ((i + j) / 2) t hm ht q
          omega
        · obtain rfl : t = (i + j) / 2 := by omega
          omega
    · rw [if_neg c]
      obtain rfl : i = j := by omega
      exact ⟨hj, hA, hB⟩
theorem bsI_at {l : List ED} (ha : Asc l) (hr : InR l) (p : Int) (h0 : 0 ≤ p) (h1 : p ≤ 11) : bsI l p ≤ l.length ∧ (∀ t (ht : t < l.length), t < bsI l p → (l[t]).f0 < p) ∧ (∀ t (ht : t < l.length), bsI l p ≤ t → p ≤ (l[t]).f0) :=
  bsGo_at ha hr p h0 h1 l.length 0 l.length (by omega) (by omega) (by omega) (fun t ht h => by omega) (fun t ht h => by omega)
/-- The place is known: its edit stands at the index that the search tells. -/
theorem found_at {l : List ED} (ha : Asc l) (hr : InR l) (x : ED) (h0 : 0 ≤ x.f0) (h1 : x.f0 ≤ 11) (h : fdE l x = true) : ∃ hk : bsI l x.f0 < l.length, (l[bsI l x.f0]).f0 = x.f0 := by
  unfold fdE at h
  obtain ⟨h2, h3⟩ := Bool.and_eq_true_iff.1 h
  have hk := of_decide_eq_true h2
  have h4 := of_decide_eq_true h3
  have hin := hr _ (List.getElem_mem hk)
  rw [rd_T36_at l _ hk, w64 (by omega) (by omega)] at h4
  exact ⟨hk, by omega⟩
theorem missed_at {l : List ED} (ha : Asc l) (hr : InR l) (x : ED) (h0 : 0 ≤ x.f0) (h1 : x.f0 ≤ 11) (h : fdE l x = false) : ∀ y ∈ l, y.f0 ≠ x.f0 := by
  obtain ⟨b1, b2, b3⟩ := bsI_at ha hr x.f0 h0 h1
  intro y hy e
  obtain ⟨t, ht, rfl⟩ := List.getElem_of_mem hy
  have hpw := List.pairwise_iff_getElem.1 ha
  have hge : bsI l x.f0 ≤ t := by
    rcases Nat.lt_or_ge t (bsI l x.f0) with q | q
    · have := b2 t ht q; omega
    · exact q
  have hk : bsI l x.f0 < l.length := by omega
  have h5 := b3 _ hk (Nat.le_refl _)
  have h6 : (l[bsI l x.f0]).f0 = x.f0 := by
    rcases Nat.lt_or_ge (bsI l x.f0) t with q | q
    · have := hpw _ t hk ht q; omega
    · have : bsI l x.f0 = t := by omega
      simp only [this]; exact e
  unfold fdE at h
  rw [rd_T36_at l _ hk, h6, Int.sub_self, decide_eq_true hk] at h
  simp [wrap64] at h
/-- One step of the program's. -/
theorem step_facts {l : List ED} (ha : Asc l) (hr : InR l) (x : ED) (h0 : 0 ≤ x.f0) (h1 : x.f0 ≤ 11) (xs : List ED) :
    (∀ l', shStep l x = some l' → Asc l' ∧ InR l' ∧ ∀ p st, Rel l p st → ∃ st', Rel l' p st' ∧ runP p st (x :: xs) = runP p st' xs) ∧
    (shStep l x = none → ∀ st, Rel l x.f0 st → runP x.f0 st (x :: xs) = none) := by
  cases hf : fdE l x with
  | true =>
    obtain ⟨hk, hke⟩ := found_at ha hr x h0 h1 hf
    have hrd : rd_T36 l (bsI l x.f0 : Int) = l[bsI l x.f0] := rd_T36_at l _ hk
    have hmem := List.getElem_mem hk
    generalize hkk : bsI l x.f0 = k at hk hke hrd hmem
    have hst : shStep l x = if (l[k]).f2.toList = x.f1.toList then some (l.set k ⟨(l[k]).f0, (l[k]).f1, x.f2⟩) else none := by
      unfold shStep
      rw [hf, if_pos rfl, hkk, hrd]
    have only : ∀ st, Rel l x.f0 st → st = some ((l[k]).f1, (l[k]).f2) := by
      intro st hR
      cases st with
      | none => exact absurd hke (hR _ hmem)
      | some q =>
        obtain ⟨o, n⟩ := q
        have := asc_one ha (show (⟨x.f0, o, n⟩ : ED) ∈ l from hR) hmem hke.symm
        rw [← this]
    by_cases c : (l[k]).f2.toList = x.f1.toList
    · rw [if_pos c] at hst
      refine ⟨fun l' hl' => ?_, fun h => by rw [hst] at h; cases h⟩
      rw [hst] at hl'
      obtain rfl := Option.some.inj hl'
      have hpw := List.pairwise_iff_getElem.1 ha
      have gf : ∀ t (ht : t < (l.set k ⟨(l[k]).f0, (l[k]).f1, x.f2⟩).length), ((l.set k ⟨(l[k]).f0, (l[k]).f1, x.f2⟩)[t]).f0 = (l[t]'(by simpa using ht)).f0 := by
        intro t ht
        rw [List.getElem_set]
        split
        · rename_i e; subst e; rfl
        · rfl
      refine ⟨?_, ?_, ?_⟩
      · unfold Asc
        rw [List.pairwise_iff_getElem]
        intro i j hi hj hij
        rw [gf i hi, gf j hj]
        exact hpw i j _ _ hij
      · intro y hy
        obtain ⟨t, ht, rfl⟩ := List.getElem_of_mem hy
        rw [gf t ht]
        exact hr _ (List.getElem_mem _)
      · intro p st hR
        by_cases e : x.f0 = p
        · subst e
          have hs := only st hR
          subst hs
          refine ⟨some ((l[k]).f1, x.f2), ?_, ?_⟩
          · show (⟨x.f0, (l[k]).f1, x.f2⟩ : ED) ∈ l.set k ⟨(l[k]).f0, (l[k]).f1, x.f2⟩
            rw [← hke]
            exact List.mem_set hk _
          · rw [runP_next, if_pos c]
        · refine ⟨st, ?_, runP_ne e⟩
          cases st with
          | none =>
            intro y hy
            obtain ⟨t, ht, rfl⟩ := List.getElem_of_mem hy
            rw [gf t ht]
            exact hR _ (List.getElem_mem _)
          | some q =>
            obtain ⟨o, n⟩ := q
            have hm : (⟨p, o, n⟩ : ED) ∈ l := hR
            obtain ⟨t, ht, he⟩ := List.getElem_of_mem hm
            have htk : k ≠ t := by
              rintro rfl
              rw [he] at hke
              exact e hke.symm
            show (⟨p, o, n⟩ : ED) ∈ l.set k ⟨(l[k]).f0, (l[k]).f1, x.f2⟩
            rw [← he]
            have : (l.set k ⟨(l[k]).f0, (l[k]).f1, x.f2⟩)[t]'(by simpa using ht) = l[t] := List.getElem_set_ne htk _
            rw [← this]
            exact List.getElem_mem _
    · rw [if_neg c] at hst
      refine ⟨fun l' hl' => (by rw [hst] at hl'; cases hl'), fun _ st hR => ?_⟩
      have hs := only st hR
      subst hs
      rw [runP_next, if_neg c]
  | false =>
    have hmiss := missed_at ha hr x h0 h1 hf
    obtain ⟨b1, b2, b3⟩ := bsI_at ha hr x.f0 h0 h1
    have hst : shStep l x = some (l.take (bsI l x.f0) ++ x :: l.drop (bsI l x.f0)) := by
      unfold shStep
      rw [hf]
      rfl
    generalize bsI l x.f0 = k at b1 b2 b3 hst
    refine ⟨fun l' hl' => ?_, fun h => by rw [hst] at h; cases h⟩
    rw [hst] at hl'
    obtain rfl := Option.some.inj hl'
    have hmem : ∀ y, y ∈ l.take k ++ x :: l.drop k ↔ y = x ∨ y ∈ l := by
      intro y
      rw [List.mem_append, List.mem_cons]
      constructor
      · rintro (h | h | h)
        · exact .inr (List.mem_of_mem_take h)
        · exact .inl h
        · exact .inr (List.mem_of_mem_drop h)
      · rintro (h | h)
        · exact .inr (.inl h)
        · rw [← List.take_append_drop k l, List.mem_append] at h
          rcases h with h | h
          · exact .inl h
          · exact .inr (.inr h)
    refine ⟨?_, ?_, ?_⟩
    · unfold Asc
      rw [List.pairwise_append]
      refine ⟨ha.take, List.pairwise_cons.2 ⟨fun y hy => ?_, ha.drop⟩, fun y hy z hz => ?_⟩
      · obtain ⟨t, ht, rfl⟩ := List.getElem_of_mem hy
        rw [List.length_drop] at ht
        rw [List.getElem_drop]
        have h3 := b3 (k + t) (by omega) (by omega)
        have h4 := hmiss _ (List.getElem_mem (show k + t < l.length by omega))
        omega
      · obtain ⟨t, ht, rfl⟩ := List.getElem_of_mem hy
        rw [List.length_take] at ht
        rw [List.getElem_take]
        have h3 := b2 t (by omega) (by omega)
        rcases List.mem_cons.1 hz with rfl | hz
        · exact h3
        · obtain ⟨u, hu, rfl⟩ := List.getElem_of_mem hz
          rw [List.length_drop] at hu
          rw [List.getElem_drop]
          exact List.pairwise_iff_getElem.1 ha t (k + u) (by omega) (by omega) (by omega)
    · intro y hy
      rcases (hmem y).1 hy with rfl | hy
      · exact ⟨h0, h1⟩
      · exact hr y hy
    · intro p st hR
      by_cases e : x.f0 = p
      · subst e
        cases st with
        | none => exact ⟨some (x.f1, x.f2), (hmem _).2 (.inl rfl), runP_first⟩
        | some q =>
          obtain ⟨o, n⟩ := q
          exact absurd rfl (hmiss ⟨x.f0, o, n⟩ hR)
      · refine ⟨st, ?_, runP_ne e⟩
        cases st with
        | none =>
          intro y hy
          rcases (hmem y).1 hy with rfl | hy
          · exact e
          · exact hR y hy
        | some q =>
          obtain ⟨o, n⟩ := q
          exact (hmem _).2 (.inr hR)
/-- The whole run of the program's. -/
theorem all_facts : ∀ (xs l : List ED), Asc l → InR l → InR xs → (∀ l', shAll l xs = some l' → Asc l' ∧ InR l' ∧ ∀ p st, Rel l p st → ∃ st', Rel l' p st' ∧ runP p st xs = some st') ∧ (shAll l xs = none → ∃ x ∈ xs, ∀ st, Rel l x.f0 st → runP x.f0 st xs = none)
  | [], l, ha, hr, _ => ⟨fun l' h => by obtain rfl := Option.some.inj h; exact ⟨ha, hr, fun p st hR => ⟨st, hR, rfl⟩⟩, fun h => by cases h⟩
  | x :: xs, l, ha, hr, hx => by
    obtain ⟨h0, h1⟩ := hx x (by simp)
    obtain ⟨s1, s2⟩ := step_facts ha hr x h0 h1 xs
    have hxs : InR xs := fun y hy => hx y (List.mem_cons_of_mem _ hy)
    unfold shAll
    cases hs : shStep l x with
    | none => exact ⟨fun l' h => (by cases h), fun _ => ⟨x, by simp, fun st hR => s2 hs st hR⟩⟩
    | some l1 =>
      obtain ⟨a1, r1, q1⟩ := s1 l1 hs
      obtain ⟨t1, t2⟩ := all_facts xs l1 a1 r1 hxs
      refine ⟨fun l' h => ?_, fun h => ?_⟩
      · obtain ⟨a2, r2, q2⟩ := t1 l' h
        refine ⟨a2, r2, fun p st hR => ?_⟩
        obtain ⟨st1, hR1, e1⟩ := q1 p st hR
        obtain ⟨st2, hR2, e2⟩ := q2 p st1 hR1
        exact ⟨st2, hR2, e1.trans e2⟩
      · obtain ⟨y, hy, hn⟩ := t2 h
        refine ⟨y, List.mem_cons_of_mem _ hy, fun st hR => ?_⟩
        obtain ⟨st1, hR1, e1⟩ := q1 y.f0 st hR
        rw [e1]
        exact hn st1 hR1
/-! The reference's list -/
def mkB (l : List UInt8) : ByteArray := ⟨l.toArray⟩
theorem mkB_toList (l : List UInt8) : (mkB l).toList = l := by rw [ByteArray.toList_eq]; rfl
theorem mkB_of (s : ByteArray) : mkB s.data.toList = s := rfl
theorem mkB_size (l : List UInt8) : (mkB l).size = l.length := by unfold mkB; simp [ByteArray.size]
theorem mkB_extract (l : List UInt8) (i j : Nat) : (mkB l).extract i j = mkB ((l.drop i).take (j - i)) := by
  apply ByteArray.ext
  rw [ByteArray.data_extract]
  apply Array.toList_inj.1
  rw [Array.toList_extract]
  show List.extract l i j = (l.drop i).take (j - i)
  rw [List.extract_eq_take_drop]
theorem mkB_append (a b : List UInt8) : mkB a ++ mkB b = mkB (a ++ b) := by
  apply ByteArray.ext
  rw [ByteArray.data_append]
  simp [mkB]
/-- A text cut at its blanks; acc: what stands ahead of it. -/
def splitA (acc : List UInt8) : List UInt8 → List (List UInt8)
  | [] => [acc]
  | c :: r => if c.toNat = 32 then acc :: splitA [] r else splitA (acc ++ [c]) r
def noSp (l : List UInt8) : Prop := ∀ c ∈ l, c.toNat ≠ 32
def joinA : List (List UInt8) → List UInt8
  | [] => []
  | [w] => w
  | w :: v :: ws => w ++ (32 :: joinA (v :: ws))
theorem splitA_ne (acc l : List UInt8) : splitA acc l ≠ [] := by
  induction l generalizing acc with
  | nil => simp [splitA]
  | cons c r ih =>
    unfold splitA
    split
    · simp
    · exact ih _
theorem splitA_join : ∀ (l acc : List UInt8), noSp acc → joinA (splitA acc l) = acc ++ l ∧ ∀ w ∈ splitA acc l, noSp w
  | [], acc, h => by
    unfold splitA
    exact ⟨by simp [joinA], fun w hw => by rw [List.mem_singleton.1 hw]; exact h⟩
  | c :: r, acc, h => by
    unfold splitA
    by_cases hc : c.toNat = 32
    · rw [if_pos hc]
      obtain ⟨h1, h2⟩ := splitA_join r [] (fun c hc => by cases hc)
      refine ⟨?_, fun w hw => ?_⟩
      · have e : c = 32 := UInt8.toNat_inj.1 (by rw [hc]; rfl)
        cases hs : splitA [] r with
        | nil => exact absurd hs (splitA_ne _ _)
        | cons v ws =>
          rw [hs] at h1
          show acc ++ (32 :: joinA (v :: ws)) = _
          rw [h1, e]
          rfl
      · rcases List.mem_cons.1 hw with rfl | hw
        · exact h
        · exact h2 w hw
    · rw [if_neg hc]
      have := splitA_join r (acc ++ [c]) (fun d hd => by
        rcases List.mem_append.1 hd with hd | hd
        · exact h d hd
        · rw [List.mem_singleton.1 hd]; exact hc)
      rw [List.append_assoc] at this
      exact this
theorem splitA_word : ∀ (w acc r : List UInt8), noSp w → splitA acc (w ++ 32 :: r) = (acc ++ w) :: splitA [] r
  | [], acc, r, _ => by
    show (if (32 : UInt8).toNat = 32 then _ else _) = _
    rw [if_pos (show (32 : UInt8).toNat = 32 from rfl), List.append_nil]
  | c :: w, acc, r, h => by
    show (if c.toNat = 32 then _ else splitA (acc ++ [c]) (w ++ 32 :: r)) = _
    rw [if_neg (h c (by simp)), splitA_word w (acc ++ [c]) r (fun d hd => h d (List.mem_cons_of_mem _ hd)), List.append_assoc]
    rfl
theorem splitA_last : ∀ (w acc : List UInt8), noSp w → splitA acc w = [acc ++ w]
  | [], acc, _ => by simp [splitA]
  | c :: w, acc, h => by
    show (if c.toNat = 32 then _ else splitA (acc ++ [c]) w) = _
    rw [if_neg (h c (by simp)), splitA_last w (acc ++ [c]) (fun d hd => h d (List.mem_cons_of_mem _ hd)), List.append_assoc]
    rfl
theorem splitA_four (a b c d : List UInt8) (ha : noSp a) (hb : noSp b) (hc : noSp c) (hd : noSp d) : splitA [] (joinA [a, b, c, d]) = [a, b, c, d] := by
  show splitA [] (a ++ 32 :: (b ++ 32 :: (c ++ 32 :: d))) = _
  rw [splitA_word a [] _ ha, splitA_word b [] _ hb, splitA_word c [] _ hc, splitA_last d [] hd]
  simp
/-! The reference's cut -/
theorem index_ne1 (x b : UInt8) (s : List UInt8) (h : b ≠ x) : Go.Lib.index (b :: s) [x] = if Go.Lib.index s [x] == -1 then -1 else Go.Lib.index s [x] + 1 := by
  have hp : ([x] : List UInt8).isPrefixOf (b :: s) = false := by simp [List.isPrefixOf, Ne.symm h]
  rw [Go.Lib.index, hp]
  simp
theorem index_eq1 (x : UInt8) (s : List UInt8) : Go.Lib.index (x :: s) [x] = 0 := by
  rw [Go.Lib.index]
  simp [List.isPrefixOf]
theorem is32 {c : UInt8} : c = 32 ↔ c.toNat = 32 := ⟨fun h => by rw [h]; rfl, fun h => UInt8.toNat_inj.1 (by rw [h]; rfl)⟩
theorem isplit : ∀ (s acc : List UInt8), (Go.Lib.splitK [32] 0 (Go.Lib.count s [32]) s).head? = some ((Go.Lib.splitK [32] 0 (Go.Lib.count s [32]) s).headD []) ∧ splitA acc s = (acc ++ (Go.Lib.splitK [32] 0 (Go.Lib.count s [32]) s).headD []) :: (Go.Lib.splitK [32] 0 (Go.Lib.count s [32]) s).tail
  | [], acc => by
    have h : Go.Lib.count ([] : List UInt8) [32] = 0 := by rw [Go.Lib.count_one]; rfl
    rw [h]
    simp [Go.Lib.splitK, splitA]
  | c :: s, acc => by
    by_cases h : c = 32
    · subst h
      rw [Go.Lib.count_cons_eq, Nat.add_comm]
      have e : Go.Lib.splitK [32] 0 (Go.Lib.count s [32] + 1) (32 :: s) = [] :: Go.Lib.splitK [32] 0 (Go.Lib.count s [32]) s := by
        rw [Go.Lib.splitK, index_eq1]
        rfl
      rw [e]
      obtain ⟨h1, h2⟩ := isplit s []
      refine ⟨rfl, ?_⟩
      show (if (32 : UInt8).toNat = 32 then _ else _) = _
      rw [if_pos (show (32 : UInt8).toNat = 32 from rfl), h2, List.nil_append]
      cases hk : Go.Lib.splitK [32] 0 (Go.Lib.count s [32]) s with
      | nil => rw [hk] at h1; cases h1
      | cons v ws => simp
    · rw [Go.Lib.count_cons_ne c 32 s h]
      obtain ⟨h1, h2⟩ := isplit s (acc ++ [c])
      have hn : ¬ c.toNat = 32 := fun e => h (is32.2 e)
      show _ ∧ (if c.toNat = 32 then _ else splitA (acc ++ [c]) s) = _
      rw [if_neg hn, h2]
      cases hq : Go.Lib.count s [32] with
      | zero =>
        simp [Go.Lib.splitK]
      | succ q =>
        have hix : ¬ Go.Lib.index s [32] = -1 := fun e => by rw [Go.Lib.count_miss e] at hq; cases hq
        have hge := Go.Lib.index_ge s [32]
        obtain ⟨j, hj⟩ := Int.eq_ofNat_of_zero_le (show 0 ≤ Go.Lib.index s [32] by omega)
        have hix2 : Go.Lib.index (c :: s) [32] = ((j + 1 : Nat) : Int) := by
          rw [index_ne1 32 c s h, if_neg (by simpa using hix), hj]
          omega
        have e1 : ¬ (Go.Lib.index s [32] == -1) = true := by simpa using hix
        have e2 : ¬ (Go.Lib.index (c :: s) [32] == -1) = true := by rw [hix2]; simp; omega
        rw [Go.Lib.splitK, Go.Lib.splitK, if_neg e1, if_neg e2, hj, hix2]
        simp
theorem isplit_eq (s : List UInt8) : Go.Lib.splitK [32] 0 (Go.Lib.count s [32]) s = splitA [] s := by
  obtain ⟨h1, h2⟩ := isplit s []
  rw [h2]
  cases hk : Go.Lib.splitK [32] 0 (Go.Lib.count s [32]) s with
  | nil => rw [hk] at h1; cases h1
  | cons v ws => simp
theorem lsplit_val (s : ByteArray) (hs : s.size ≤ 1048576) : strings_Split.f s (⟨#[32]⟩ : ByteArray) = some ((splitA [] s.data.toList).map mkB) := by
  unfold strings_Split.f
  rw [if_pos ⟨by omega, of_decide_eq_true (by kernel_rfl)⟩]
  have h := Go.Lib.splitB_data (⟨#[32]⟩ : ByteArray) 0 (Go.Lib.countB s (⟨#[32]⟩ : ByteArray)) s
  have h2 : Go.Lib.splitK (⟨#[32]⟩ : ByteArray).data.toList 0 (Go.Lib.countB s (⟨#[32]⟩ : ByteArray)) s.data.toList = splitA [] s.data.toList := isplit_eq s.data.toList
  rw [h2] at h
  rw [← h, List.map_map]
  congr 1
  symm
  exact List.map_id'' (fun x => rfl) _
/-! Numbers -/
abbrev DG (p : Nat) : List UInt8 := Go.Lib.decDigits p
theorem ip_0 : Go.Lib.parseIntB 64 (DG 0) = .ok 0 := by kernel_rfl
theorem ip_1 : Go.Lib.parseIntB 64 (DG 1) = .ok 1 := by kernel_rfl
theorem ip_2 : Go.Lib.parseIntB 64 (DG 2) = .ok 2 := by kernel_rfl
theorem ip_3 : Go.Lib.parseIntB 64 (DG 3) = .ok 3 := by kernel_rfl
theorem ip_4 : Go.Lib.parseIntB 64 (DG 4) = .ok 4 := by kernel_rfl
theorem ip_5 : Go.Lib.parseIntB 64 (DG 5) = .ok 5 := by kernel_rfl
theorem ip_6 : Go.Lib.parseIntB 64 (DG 6) = .ok 6 := by kernel_rfl
theorem ip_7 : Go.Lib.parseIntB 64 (DG 7) = .ok 7 := by kernel_rfl
theorem ip_8 : Go.Lib.parseIntB 64 (DG 8) = .ok 8 := by kernel_rfl
theorem ip_9 : Go.Lib.parseIntB 64 (DG 9) = .ok 9 := by kernel_rfl
theorem ip_10 : Go.Lib.parseIntB 64 (DG 10) = .ok 10 := by kernel_rfl
theorem ip_11 : Go.Lib.parseIntB 64 (DG 11) = .ok 11 := by kernel_rfl
theorem twelve {P : Nat → Prop} (h0 : P 0) (h1 : P 1) (h2 : P 2) (h3 : P 3) (h4 : P 4) (h5 : P 5) (h6 : P 6) (h7 : P 7) (h8 : P 8) (h9 : P 9) (h10 : P 10) (h11 : P 11) (p : Nat) (h : p ≤ 11) : P p := by
  have : p = 0 ∨ p = 1 ∨ p = 2 ∨ p = 3 ∨ p = 4 ∨ p = 5 ∨ p = 6 ∨ p = 7 ∨ p = 8 ∨ p = 9 ∨ p = 10 ∨ p = 11 := by omega
  rcases this with rfl | rfl | rfl | rfl | rfl | rfl | rfl | rfl | rfl | rfl | rfl | rfl <;> assumption
theorem parse_val (p : Nat) (h : p ≤ 11) : Go.Lib.parseIntB 64 (DG p) = .ok (p : Int) :=
  twelve (P := fun p => Go.Lib.parseIntB 64 (DG p) = .ok (p : Int)) ip_0 ip_1 ip_2 ip_3 ip_4 ip_5 ip_6 ip_7 ip_8 ip_9 ip_10 ip_11 p h
theorem dg_facts (p : Nat) (h : p ≤ 11) : ((DG p).length = 1 ∨ (DG p).length = 2) ∧ (DG p).all (fun c => decide (c.toNat ≠ 32 ∧ c.toNat ≠ 45)) = true := by
  have := twelve (P := fun p => (decide ((DG p).length = 1 ∨ (DG p).length = 2) && (DG p).all (fun c => decide (c.toNat ≠ 32 ∧ c.toNat ≠ 45))) = true) (by kernel_rfl) (by kernel_rfl) (by kernel_rfl) (by kernel_rfl) (by kernel_rfl) (by kernel_rfl) (by kernel_rfl) (by kernel_rfl) (by kernel_rfl) (by kernel_rfl) (by kernel_rfl) (by kernel_rfl) p h
  rw [Bool.and_eq_true] at this
  exact ⟨of_decide_eq_true this.1, this.2⟩
theorem dg_noSp (p : Nat) (h : p ≤ 11) : noSp (DG p) := fun c hc => (of_decide_eq_true (List.all_eq_true.1 (dg_facts p h).2 c hc)).1
/-- What is known of a number that is read: it is told with its own decimal form. -/
def Good (t : ByteArray) (r : Int × Bool) : Prop := r.2 = true → ∀ p : Nat, p ≤ 11 → r.1 = (p : Int) → t = mkB (DG p)
def trimL (c : UInt8) : List UInt8 → List UInt8
  | [] => []
  | x :: r => if x = c then r else x :: r
theorem trimL_length (c : UInt8) : ∀ a : List UInt8, (trimL c a).length ≤ a.length
  | [] => Nat.le_refl _
  | x :: r => by
    show (if x = c then r else x :: r).length ≤ (x :: r).length
    split
    · rw [List.length_cons]; omega
    · exact Nat.le_refl _
theorem trim_val (c : UInt8) (a : List UInt8) : strings_TrimPrefix.f (mkB a) (⟨#[c]⟩ : ByteArray) = some (mkB (trimL c a)) := by
  have h1 : (⟨#[c]⟩ : ByteArray).size = 1 := rfl
  have h2 : (⟨#[c]⟩ : ByteArray).toList = [c] := mkB_toList [c]
  unfold strings_TrimPrefix.f stringslite_TrimPrefix.f stringslite_HasPrefix.f
  simp only [h1, h2, mkB_size, mkB_extract, mkB_toList]
  cases a with
  | nil =>
    rw [if_neg (by simp)]
    simp [trimL]
  | cons x r =>
    rw [if_pos (by simp; omega), if_pos (by omega), if_pos (by simp; omega)]
    have e : (List.take (((1 : Nat) : Int).toNat - 0) (List.drop 0 (x :: r)) == [c]) = decide (x = c) := by
      rw [Bool.eq_iff_iff, beq_iff_eq, decide_eq_true_iff]
      simp
    rw [e]
    by_cases hx : x = c
    · simp [hx, trimL]
      omega
    · simp [hx, trimL]
theorem fmt_val (v : Int) (h1 : -9223372036854775808 ≤ v) (h2 : v ≤ 9223372036854775807) : impl_Decimal.f v = some (mkB (Go.Lib.itoa v)) := by
  unfold impl_Decimal.f strconv_FormatInt.f
  rw [if_pos ⟨rfl, h1, h2⟩]
  rfl
theorem readD_any (a : List UInt8) (ha : a.length ≤ 1048576) : ∃ r : Int × Bool, impl_ReadDecimal.f (mkB a) = some r ∧ Good (mkB a) r := by
  unfold impl_ReadDecimal.f
  rw [if_pos (by rw [mkB_size]; omega)]
  show ∃ r : Int × Bool, (match Go.Lib.parseIntB 64 a with | .ok v => (impl_Decimal.f v).bind fun t => (if t.toList = (mkB a).toList then ((strings_TrimPrefix.f (mkB a) (⟨#[45]⟩ : ByteArray)).bind fun u => if 18 < (u.size : Int) then some (0, false) else some (v, true)) else some (0, false)) | _ => some (0, false)) = some r ∧ Good (mkB a) r
  cases hp : Go.Lib.parseIntB 64 a with
  | «syntax» => exact ⟨(0, false), rfl, fun h => by cases h⟩
  | range => exact ⟨(0, false), rfl, fun h => by cases h⟩
  | ok v =>
    have hb := Go.Lib.parseIntB_bounds hp
    have e63 : (((2 : Nat) ^ (64 - 1) : Nat) : Int) = 9223372036854775808 := by decide
    rw [e63] at hb
    simp only [fmt_val v hb.1 (by omega), Option.bind_some, mkB_toList, trim_val]
    by_cases h : Go.Lib.itoa v = a
    · rw [if_pos h]
      by_cases h2 : 18 < ((mkB (trimL 45 a)).size : Int)
      · rw [if_pos h2]
        exact ⟨(0, false), rfl, fun h => by cases h⟩
      · rw [if_neg h2]
        refine ⟨(v, true), rfl, ?_⟩
        intro _ p hp2 hv
        have hv2 : v = (p : Int) := hv
        rw [← h, hv2, Go.Lib.itoa_nonneg]
    · rw [if_neg h]
      exact ⟨(0, false), rfl, fun h => by cases h⟩
theorem readD_val (p : Nat) (h : p ≤ 11) : impl_ReadDecimal.f (mkB (DG p)) = some ((p : Int), true) := by
  obtain ⟨hl, hc⟩ := dg_facts p h
  unfold impl_ReadDecimal.f
  rw [if_pos (by rw [mkB_size]; omega)]
  show (match Go.Lib.parseIntB 64 (DG p) with | .ok v => (impl_Decimal.f v).bind fun t => (if t.toList = (mkB (DG p)).toList then ((strings_TrimPrefix.f (mkB (DG p)) (⟨#[45]⟩ : ByteArray)).bind fun u => if 18 < (u.size : Int) then some (0, false) else some (v, true)) else some (0, false)) | _ => some (0, false)) = some ((p : Int), true)
  rw [parse_val p h]
  have ht : trimL 45 (DG p) = DG p := by
    cases hd : DG p with
    | nil => rfl
    | cons x r =>
      rw [hd] at hc
      have := (of_decide_eq_true (List.all_eq_true.1 hc x (by simp))).2
      show (if x = 45 then r else x :: r) = x :: r
      rw [if_neg (fun e => this (by rw [e]; rfl))]
  show (impl_Decimal.f (p : Int)).bind (fun t => (if t.toList = (mkB (DG p)).toList then ((strings_TrimPrefix.f (mkB (DG p)) (⟨#[45]⟩ : ByteArray)).bind fun u => if 18 < (u.size : Int) then some (0, false) else some ((p : Int), true)) else some (0, false))) = some ((p : Int), true)
  rw [fmt_val _ (by omega) (by omega), Option.bind_some, Go.Lib.itoa_nonneg, if_pos rfl, trim_val, Option.bind_some, ht, if_neg (by rw [mkB_size]; omega)]
/-! Words -/
def rdW (w : List UInt8) : ByteArray := if w = [45] then (⟨#[]⟩ : ByteArray) else mkB w
theorem ird_val (w : List UInt8) : impl_readEngraved.f (mkB w) = some (rdW w) := by
  unfold impl_readEngraved.f rdW
  rw [mkB_toList]
  split <;> rfl
def wordT (s : ByteArray) : ByteArray := if s.toList = ([] : List UInt8) then (⟨#[45]⟩ : ByteArray) else s
theorem iword_val (s : ByteArray) : impl_engravedText.f s = some (wordT s) := by unfold impl_engravedText.f wordT; split <;> rfl
theorem word_size (s : ByteArray) (h : Engr s) : (wordT s).size ≤ 12 := by
  unfold wordT
  split
  · exact of_decide_eq_true (by kernel_rfl)
  · rcases h with h | h
    · omega
    · exact h.2.1
/-- The word of a text that is read from a word. -/
def wd (w : List UInt8) : List UInt8 := if w = [] then [45] else w
theorem word_rd (w : List UInt8) : wordT (rdW w) = mkB (wd w) := by
  unfold wordT rdW wd
  by_cases h : w = [45]
  · subst h
    rw [if_pos rfl, if_pos (show (⟨#[]⟩ : ByteArray).toList = ([] : List UInt8) by rw [ByteArray.toList_eq]), if_neg (show ¬ ([45] : List UInt8) = [] by simp)]
    rfl
  · rw [if_neg h, mkB_toList]
    split
    · rfl
    · rfl
theorem wd_ne (w : List UInt8) : wd w ≠ [] := by
  unfold wd
  split
  · simp
  · assumption
theorem wd_noSp (w : List UInt8) (h : noSp w) : noSp (wd w) := by
  unfold wd
  split
  · intro c hc
    rw [List.mem_singleton.1 hc]
    decide
  · exact h
theorem text_val (p : Nat) (hp : p ≤ 11) (b d : List UInt8) (h : EditOk ⟨(p : Int), rdW b, rdW d⟩) : impl_EditText.f (p : Int) (rdW b) (rdW d) = some (mkB (joinA [35 :: DG p, wd b, [62], wd d])) := by
  have he : impl_isEdit.f (p : Int) (rdW b) (rdW d) = some true := by
    have := impl_edit ⟨(p : Int), rdW b, rdW d⟩
    rw [decide_eq_true h] at this
    exact this
  have zb : (mkB (wd b)).size ≤ 12 := by rw [← word_rd]; exact word_size _ h.2.1
  have zd : (mkB (wd d)).size ≤ 12 := by rw [← word_rd]; exact word_size _ h.2.2.1
  have hl : (mkB (DG p)).size ≤ 2 := by
    have := (dg_facts p hp).1
    rw [mkB_size]
    omega
  have q1 : (⟨#[35]⟩ : ByteArray).size = 1 := rfl
  have q2 : (⟨#[32]⟩ : ByteArray).size = 1 := rfl
  have q3 : (⟨#[32, 62, 32]⟩ : ByteArray).size = 3 := rfl
  have hf : impl_Decimal.f (p : Int) = some (mkB (DG p)) := by
    rw [fmt_val _ (by omega) (by omega), Go.Lib.itoa_nonneg]
  unfold impl_EditText.f
  simp only [he, hf, iword_val, Option.bind_some, if_true, ByteArray.size_append, q1, q2, q3, if_pos (show 1 + (mkB (DG p)).size ≤ 9223372036854775807 by omega), if_pos (show 1 + (mkB (DG p)).size + 1 ≤ 9223372036854775807 by omega), if_pos (show 1 + (mkB (DG p)).size + 1 + (mkB (wd b)).size ≤ 9223372036854775807 by omega), if_pos (show 1 + (mkB (DG p)).size + 1 + (mkB (wd b)).size + 3 ≤ 9223372036854775807 by omega), if_pos (show 1 + (mkB (DG p)).size + 1 + (mkB (wd b)).size + 3 + (mkB (wd d)).size ≤ 9223372036854775807 by omega), word_rd]
  rw [show (⟨#[35]⟩ : ByteArray) = mkB [35] from rfl, show (⟨#[32]⟩ : ByteArray) = mkB [32] from rfl, show (⟨#[32, 62, 32]⟩ : ByteArray) = mkB [32, 62, 32] from rfl, mkB_append, mkB_append, mkB_append, mkB_append, mkB_append]
  congr 2
  simp [joinA]
abbrev Res := Int × ByteArray × ByteArray × Bool
def zeroR : Res := (0, (⟨#[]⟩ : ByteArray), (⟨#[]⟩ : ByteArray), false)
def resOk (p : Nat) (b d : List UInt8) : Res := if EditOk ⟨(p : Int), rdW b, rdW d⟩ then ((p : Int), rdW b, rdW d, true) else zeroR
theorem rd0 (a b c d : List UInt8) : rdOf ByteArray.empty ([a, b, c, d].map mkB) 0 = mkB a := rfl
theorem rd1 (a b c d : List UInt8) : rdOf ByteArray.empty ([a, b, c, d].map mkB) 1 = mkB b := rfl
theorem rd3 (a b c d : List UInt8) : rdOf ByteArray.empty ([a, b, c, d].map mkB) 3 = mkB d := rfl
theorem len4 (a b c d : List UInt8) : ([a, b, c, d].map mkB).length = 4 := rfl
/-- The text is that of an edit: which place, which words. -/
def isF (W : List (List UInt8)) (p : Nat) (b d : List UInt8) : Prop := p ≤ 11 ∧ W = [35 :: DG p, b, [62], d] ∧ b ≠ [] ∧ d ≠ []
theorem impl_read (s : ByteArray) (hs : s.size ≤ 1048576) : ∃ r : Res, impl_ReadEdit.f s = some r ∧ (r = zeroR ∨ ∃ p b d, isF (splitA [] s.data.toList) p b d ∧ r = resOk p b d) ∧ (∀ p b d, isF (splitA [] s.data.toList) p b d → r = resOk p b d) := by
  have h0 := lsplit_val s hs
  obtain ⟨hj, hw⟩ := splitA_join s.data.toList [] (fun c hc => by cases hc)
  rw [List.nil_append] at hj
  have hS : ∀ l : List UInt8, (mkB l = s) ↔ l = s.data.toList := fun l => ⟨fun h => by rw [← h]; rfl, fun h => by rw [h, mkB_of]⟩
  have hlen : ∀ w ∈ splitA [] s.data.toList, w.length ≤ 1048576 := by
    have jl : ∀ ws : List (List UInt8), ∀ w ∈ ws, w.length ≤ (joinA ws).length := by
      intro ws
      induction ws with
      | nil => intro w hw; cases hw
      | cons v ws ih =>
        intro w hw
        cases ws with
        | nil =>
          rw [List.mem_singleton.1 hw]
          exact Nat.le_refl _
        | cons u us =>
          show w.length ≤ (v ++ (32 :: joinA (u :: us))).length
          rw [List.length_append, List.length_cons]
          rcases List.mem_cons.1 hw with rfl | hw
          · omega
          · have := ih w hw
            omega
    intro w hw2
    have h1 := jl _ w hw2
    rw [hj] at h1
    have h2 : s.data.toList.length = s.size := by rw [← mkB_size, mkB_of]
    omega
  have four : ∀ a b c d, noSp a → noSp b → noSp c → noSp d → joinA [a, b, c, d] = s.data.toList → splitA [] s.data.toList = [a, b, c, d] := by
    intro a b c d ha hb hc hd e
    rw [← e]
    exact splitA_four a b c d ha hb hc hd
  generalize splitA [] s.data.toList = W at h0 hj hw hlen four
  by_cases h4 : W.length = 4
  · obtain ⟨a, b, c, d, rfl⟩ : ∃ a b c d, W = [a, b, c, d] := by
      match W, h4 with
      | [a, b, c, d], _ => exact ⟨a, b, c, d, rfl⟩
    obtain ⟨⟨n, ok⟩, hn, hg⟩ := readD_any (trimL 35 a) (by
      have h1 := hlen a (by simp)
      have h2 := trimL_length 35 a
      omega)
    have hf : impl_ReadEdit.f s = some (if ok = true then (if EditOk ⟨n, rdW b, rdW d⟩ then (if joinA [35 :: DG n.toNat, wd b, [62], wd d] = s.data.toList then ((n, rdW b, rdW d, true) : Res) else zeroR) else zeroR) else zeroR) := by
      unfold impl_ReadEdit.f
      rw [h0]
      simp only [Option.bind_some, len4, rd0, rd1, rd3, if_pos (show ((4 : Nat) : Int) = 4 by omega), if_pos (show (0 : Int) < ((4 : Nat) : Int) by omega), if_pos (show (1 : Int) < ((4 : Nat) : Int) by omega), if_pos (show (3 : Int) < ((4 : Nat) : Int) by omega), trim_val, hn, ird_val]
      cases ok with
      | false => simp only [Bool.false_eq_true, if_false]; rfl
      | true =>
        simp only [if_true]
        have hE := impl_edit ⟨n, rdW b, rdW d⟩
        by_cases he : EditOk ⟨n, rdW b, rdW d⟩
        · rw [decide_eq_true he] at hE
          have hE2 : impl_isEdit.f n (rdW b) (rdW d) = some true := hE
          obtain ⟨m, rfl⟩ := Int.eq_ofNat_of_zero_le he.1.1
          have hm : m ≤ 11 := by have h9 : (m : Int) ≤ 11 := he.1.2; omega
          simp only [hE2, Option.bind_some, if_true, text_val m hm b d he, if_pos he, Int.toNat_natCast]
          by_cases hq : joinA [35 :: DG m, wd b, [62], wd d] = s.data.toList
          · rw [if_pos hq, if_pos (by rw [hq, mkB_of])]
          · rw [if_neg hq, if_neg (fun e => hq ((hS _).1 (toList_inj.1 e)))]
            rfl
        · rw [decide_eq_false he] at hE
          have hE2 : impl_isEdit.f n (rdW b) (rdW d) = some false := hE
          simp only [hE2, Option.bind_some, Bool.false_eq_true, if_false, if_neg he]
          rfl
    refine ⟨_, hf, ?_, ?_⟩
    · cases ok with
      | false => exact .inl rfl
      | true =>
        rw [if_pos rfl]
        by_cases he : EditOk ⟨n, rdW b, rdW d⟩
        · rw [if_pos he]
          obtain ⟨m, rfl⟩ := Int.eq_ofNat_of_zero_le he.1.1
          have hm : m ≤ 11 := by have h9 : (m : Int) ≤ 11 := he.1.2; omega
          rw [Int.toNat_natCast]
          by_cases hq : joinA [35 :: DG m, wd b, [62], wd d] = s.data.toList
          · rw [if_pos hq]
            have h35 : noSp (35 :: DG m) := fun c hc => by
              rcases List.mem_cons.1 hc with rfl | hc
              · decide
              · exact dg_noSp m hm c hc
            have h62 : noSp [62] := fun c hc => by rw [List.mem_singleton.1 hc]; decide
            have e := four _ _ _ _ h35 (wd_noSp b (hw b (by simp))) h62 (wd_noSp d (hw d (by simp))) hq
            injection e with e1 e
            injection e with e2 e
            injection e with e3 e
            injection e with e4 e
            have nb : b ≠ [] := fun h => wd_ne b (by rw [← e2]; exact h)
            have nd : d ≠ [] := fun h => wd_ne d (by rw [← e4]; exact h)
            refine .inr ⟨m, b, d, ⟨hm, by rw [e1, e3], nb, nd⟩, ?_⟩
            unfold resOk
            rw [if_pos he]
          · rw [if_neg hq]
            exact .inl rfl
        · rw [if_neg he]
          exact .inl rfl
    · rintro p b' d' ⟨hp, hW, hb, hd⟩
      injection hW with e1 hW
      injection hW with e2 hW
      injection hW with e3 hW
      injection hW with e4 hW
      subst e1 e2 e3 e4
      have ht : trimL 35 (35 :: DG p) = DG p := by
        show (if (35 : UInt8) = 35 then DG p else 35 :: DG p) = DG p
        rw [if_pos rfl]
      rw [ht, readD_val p hp] at hn
      obtain ⟨rfl, rfl⟩ := Prod.mk.inj (Option.some.inj hn)
      rw [if_pos rfl]
      unfold resOk
      by_cases he : EditOk ⟨(p : Int), rdW b, rdW d⟩
      · rw [if_pos he, if_pos he, Int.toNat_natCast]
        have ew : ∀ w : List UInt8, w ≠ [] → wd w = w := fun w h => by unfold wd; rw [if_neg h]
        rw [ew b hb, ew d hd, if_pos hj]
      · rw [if_neg he, if_neg he]
  · refine ⟨zeroR, ?_, .inl rfl, ?_⟩
    · unfold impl_ReadEdit.f
      rw [h0]
      simp only [Option.bind_some, List.length_map, if_neg (show ¬ (W.length : Int) = 4 by omega)]
      rfl
    · rintro p b d ⟨_, hW, _, _⟩
      exfalso
      apply h4
      rw [hW]
      rfl

/-! What edits do to a plate -/
/-- An edit fits a plate. -/
def Fit1 (o : List ByteArray) (x : S36) : Prop := 0 ≤ x.f0 ∧ x.f0 < (o.length : Int) ∧ rdOf ByteArray.empty o x.f0 = x.f1
def put1 (o : List ByteArray) (x : S36) : List ByteArray := o.set (x.f0).toNat x.f2
def Fits : List ByteArray → List S36 → Prop
  | _, [] => True
  | o, x :: xs => Fit1 o x ∧ Fits (put1 o x) xs
def endP : List ByteArray → List S36 → List ByteArray
  | o, [] => o
  | o, x :: xs => endP (put1 o x) xs
theorem endP_len (l : List S36) : ∀ o : List ByteArray, (endP o l).length = o.length := by
  induction l with
  | nil => intro o; rfl
  | cons x xs ih => intro o; rw [endP, ih, put1, List.length_set]
theorem fits_app (l m : List S36) : ∀ o : List ByteArray, Fits o (l ++ m) ↔ Fits o l ∧ Fits (endP o l) m := by
  induction l with
  | nil => intro o; simp [Fits, endP]
  | cons x xs ih =>
    intro o
    rw [List.cons_append, Fits, Fits, endP, ih]
    exact ⟨fun h => ⟨⟨h.1, h.2.1⟩, h.2.2⟩, fun h => ⟨h.1.1, h.1.2, h.2⟩⟩
theorem endP_app (l m : List S36) : ∀ o : List ByteArray, endP o (l ++ m) = endP (endP o l) m := by
  induction l with
  | nil => intro o; rfl
  | cons x xs ih => intro o; rw [List.cons_append, endP, endP, ih]
/-- An edit, turned round. -/
def revE (x : S36) : S36 := ⟨x.f0, x.f2, x.f1⟩
theorem put_back (o : List ByteArray) (x : S36) (h : Fit1 o x) : Fit1 (put1 o x) (revE x) ∧ put1 (put1 o x) (revE x) = o := by
  obtain ⟨h0, h1, h2⟩ := h
  obtain ⟨j, hj⟩ := Int.eq_ofNat_of_zero_le h0
  have hjl : j < o.length := by omega
  have ht : (x.f0).toNat = j := by omega
  rw [hj, rdOf_at _ o j hjl] at h2
  refine ⟨⟨h0, ?_, ?_⟩, ?_⟩
  · show x.f0 < ((put1 o x).length : Int)
    rw [put1, List.length_set]; exact h1
  · show rdOf ByteArray.empty (put1 o x) x.f0 = x.f2
    have hjs : j < (put1 o x).length := by rw [put1, List.length_set]; exact hjl
    rw [hj, rdOf_at _ (put1 o x) j hjs]
    simp only [put1, ht, List.getElem_set_self]
  · show (o.set (x.f0).toNat x.f2).set (x.f0).toNat x.f1 = o
    rw [ht, List.set_set, ← h2]
    exact List.set_getElem_self hjl
theorem undo_fits (l : List S36) : ∀ o : List ByteArray, Fits o l → Fits (endP o l) (l.reverse.map revE) ∧ endP (endP o l) (l.reverse.map revE) = o := by
  induction l with
  | nil => intro o _; exact ⟨trivial, rfl⟩
  | cons x xs ih =>
    intro o h
    obtain ⟨h1, h2⟩ := ih (put1 o x) h.2
    obtain ⟨p1, p2⟩ := put_back o x h.1
    rw [List.reverse_cons, List.map_append, fits_app, endP_app, endP]
    refine ⟨⟨h1, ?_⟩, ?_⟩
    · rw [h2]
      exact ⟨p1, trivial⟩
    · rw [h2]
      show put1 (put1 o x) (revE x) = o
      exact p2
/-- The edits between two plates. -/
def betV (a b : List ByteArray) (i d : Nat) : List S36 := ((List.range' i d).filter (fun j : Nat => !decide (rdOf ByteArray.empty a (j : Int) = rdOf ByteArray.empty b (j : Int)))).map (fun j : Nat => ⟨(j : Int), rdOf ByteArray.empty a (j : Int), rdOf ByteArray.empty b (j : Int)⟩)
theorem betV_mem (a b : List ByteArray) (n : Nat) (x : S36) : x ∈ betV a b 0 n ↔ 0 ≤ x.f0 ∧ x.f0 < (n : Int) ∧ x.f1 = rdOf ByteArray.empty a x.f0 ∧ x.f2 = rdOf ByteArray.empty b x.f0 ∧ x.f1 ≠ x.f2 := by
  unfold betV
  rw [List.mem_map]
  constructor
  · rintro ⟨j, hj, rfl⟩
    obtain ⟨h1, h2⟩ := List.mem_filter.1 hj
    rw [List.mem_range'_1] at h1
    refine ⟨by show (0 : Int) ≤ (j : Int); omega, by show (j : Int) < (n : Int); omega, rfl, rfl, ?_⟩
    intro e
    have e2 : rdOf ByteArray.empty a (j : Int) = rdOf ByteArray.empty b (j : Int) := e
    rw [decide_eq_true e2] at h2
    cases h2
  · rintro ⟨h0, h1, h2, h3, h4⟩
    obtain ⟨p, o, m⟩ := x
    obtain ⟨j, hj⟩ := Int.eq_ofNat_of_zero_le h0
    have hj' : p = (j : Int) := hj
    subst hj'
    have e1 : o = rdOf ByteArray.empty a (j : Int) := h2
    have e2 : m = rdOf ByteArray.empty b (j : Int) := h3
    subst e1
    subst e2
    refine ⟨j, List.mem_filter.2 ⟨?_, ?_⟩, rfl⟩
    · rw [List.mem_range'_1]
      have : (j : Int) < (n : Int) := h1
      omega
    · rw [decide_eq_false h4]; rfl
theorem betV_asc (a b : List ByteArray) (i d : Nat) : (betV a b i d).Pairwise (fun x y => x.f0 < y.f0) := by
  unfold betV
  rw [List.pairwise_map]
  refine ((List.pairwise_lt_range' (s := i) (n := d)).filter _).imp ?_
  intro x y h
  show (x : Int) < (y : Int)
  omega
theorem betV_len (a b : List ByteArray) (i d : Nat) : (betV a b i d).length ≤ d := by
  unfold betV
  rw [List.length_map]
  exact Nat.le_trans (List.length_filter_le _ _) (by simp)
theorem bet_fits (a b : List ByteArray) (hab : a.length = b.length) (d : Nat) : ∀ (i : Nat), i + d = a.length → ∀ o : List ByteArray, o.length = a.length → (∀ j, i ≤ j → j < a.length → rdOf ByteArray.empty o (j : Int) = rdOf ByteArray.empty a (j : Int)) → (∀ j, j < i → rdOf ByteArray.empty o (j : Int) = rdOf ByteArray.empty b (j : Int)) →
    Fits o (betV a b i d) ∧ ∀ j, j < a.length → rdOf ByteArray.empty (endP o (betV a b i d)) (j : Int) = rdOf ByteArray.empty b (j : Int) := by
  induction d with
  | zero =>
    intro i hi o ho h1 h2
    exact ⟨trivial, fun j hj => h2 j (by omega)⟩
  | succ d ih =>
    intro i hi o ho h1 h2
    by_cases c : rdOf ByteArray.empty a (i : Int) = rdOf ByteArray.empty b (i : Int)
    · have e : betV a b i (d + 1) = betV a b (i + 1) d := by
        unfold betV
        rw [List.range'_succ, List.filter_cons, decide_eq_true c]; rfl
      rw [e]
      refine ih (i + 1) (by omega) o ho (fun j hj hj2 => h1 j (by omega) hj2) (fun j hj => ?_)
      by_cases q : j = i
      · subst q; rw [h1 j (by omega) (by omega), c]
      · exact h2 j (by omega)
    · have e : betV a b i (d + 1) = (⟨(i : Int), rdOf ByteArray.empty a (i : Int), rdOf ByteArray.empty b (i : Int)⟩ : S36) :: betV a b (i + 1) d := by
        unfold betV
        rw [List.range'_succ, List.filter_cons, decide_eq_false c]; rfl
      rw [e]
      have hset : ∀ j, j < o.length → rdOf ByteArray.empty (o.set i (rdOf ByteArray.empty b (i : Int))) (j : Int) = if i = j then rdOf ByteArray.empty b (i : Int) else rdOf ByteArray.empty o (j : Int) := by
        intro j hj
        rw [rdOf_at _ (o.set i (rdOf ByteArray.empty b (i : Int))) j (by rw [List.length_set]; exact hj), List.getElem_set, rdOf_at _ o j hj]
      obtain ⟨g1, g2⟩ := ih (i + 1) (by omega) (o.set i (rdOf ByteArray.empty b (i : Int))) (by rw [List.length_set]; exact ho) (fun j hj hj2 => by
        rw [hset j (by omega), if_neg (by omega)]; exact h1 j (by omega) hj2) (fun j hj => by
        rw [hset j (by omega)]
        by_cases q : i = j
        · rw [if_pos q, q]
        · rw [if_neg q]; exact h2 j (by omega))
      have hp : put1 o (⟨(i : Int), rdOf ByteArray.empty a (i : Int), rdOf ByteArray.empty b (i : Int)⟩ : S36) = o.set i (rdOf ByteArray.empty b (i : Int)) := by
        show o.set ((i : Int)).toNat _ = _
        rw [Int.toNat_natCast]
      rw [Fits, endP, hp]
      exact ⟨⟨⟨by show (0 : Int) ≤ (i : Int); omega, by show (i : Int) < (o.length : Int); omega, h1 i (by omega) (by omega)⟩, g1⟩, g2⟩
theorem plate_ext (x y : List ByteArray) (h : x.length = y.length) (hr : ∀ j, j < x.length → rdOf ByteArray.empty x (j : Int) = rdOf ByteArray.empty y (j : Int)) : x = y := by
  refine List.ext_getElem h (fun j h1 h2 => ?_)
  have := hr j h1
  rw [rdOf_at _ x j h1, rdOf_at _ y j h2] at this
  exact this
theorem bet_all (a b : List ByteArray) (hab : a.length = b.length) : Fits a (betV a b 0 a.length) ∧ endP a (betV a b 0 a.length) = b := by
  obtain ⟨h1, h2⟩ := bet_fits a b hab a.length 0 (by omega) a rfl (fun j _ _ => rfl) (fun j hj => by omega)
  refine ⟨h1, plate_ext _ _ (by rw [endP_len]; exact hab) (fun j hj => h2 j (by rw [endP_len] at hj; exact hj))⟩
/-! The program's functions -/
theorem bet_l (a b : List ByteArray) (hl : a.length ≤ 12) (hb : a.length = b.length) (d : Nat) : ∀ (out : List S36) (i : Nat), i ≤ a.length → a.length - i = d → out.length ≤ i →
    Ev (fun k => impl_EditsBetween.l0 k a b out a.length i) (out ++ betV a b i d, 0) := by
  induction d with
  | zero =>
    intro out i hi hd ho
    apply ev_succ
    simp only [impl_EditsBetween.l0, if_neg (show ¬ (i : Int) < (a.length : Int) by omega)]
    exact ev_const (by simp [betV])
  | succ d ih =>
    intro out i hi hd ho
    have hlt : i < a.length := by omega
    have hlb : i < b.length := by omega
    have ra := rdOf_at ByteArray.empty a i hlt
    have rb := rdOf_at ByteArray.empty b i hlb
    apply ev_succ
    by_cases hc : a[i].toList = b[i].toList
    · have e : betV a b i (d + 1) = betV a b (i + 1) d := by
        unfold betV
        rw [List.range'_succ, List.filter_cons, decide_eq_true (show rdOf ByteArray.empty a (i : Int) = rdOf ByteArray.empty b (i : Int) by rw [ra, rb]; exact toList_inj.1 hc)]; rfl
      rw [e]
      simp only [impl_EditsBetween.l0, if_pos (show (i : Int) < (a.length : Int) by omega), if_pos (show (i : Int) < (b.length : Int) by omega), if_pos (show (0 : Int) ≤ (i : Int) by omega), ra, rb, if_pos hc, w64 (x := (i : Int) + 1) (by omega) (by omega)]
      exact ih out (i + 1) (by omega) (by omega) (by omega)
    · have h1 := ih (out ++ [⟨(i : Int), a[i], b[i]⟩]) (i + 1) (by omega) (by omega) (by simp; omega)
      have hne : ¬ rdOf ByteArray.empty a (i : Int) = rdOf ByteArray.empty b (i : Int) := by rw [ra, rb]; exact fun h => hc (by rw [h])
      have e : betV a b i (d + 1) = (⟨(i : Int), a[i], b[i]⟩ : S36) :: betV a b (i + 1) d := by
        unfold betV
        rw [List.range'_succ, List.filter_cons, decide_eq_false hne]
        simp only [Bool.not_false, if_true, List.map_cons, ra, rb]
      rw [e]
      rw [List.append_assoc] at h1
      simp only [impl_EditsBetween.l0, if_pos (show (i : Int) < (a.length : Int) by omega), if_pos (show (i : Int) < (b.length : Int) by omega), if_pos (show (0 : Int) ≤ (i : Int) by omega), ra, rb, if_neg hc, if_pos (show out.length < 3518437208883 by omega), w64 (x := (i : Int) + 1) (by omega) (by omega)]
      exact h1
theorem bet_ev (a b : List ByteArray) (ha : PlateOk a) (hb : PlateOk b) (hab : a.length = b.length) : Ev (fun k => impl_EditsBetween.f k a b) (betV a b 0 a.length, 0) := by
  have ha2 := ha.2.2
  have hb2 := hb.2.2
  have hp := plates_ev [a, b] (by simp) (by simp)
  have hA : AllPlates [a, b] 0 ↔ (PlateOk a ∧ PlateOk b) := by unfold AllPlates; simp
  have hS : SameLen [a, b] ([a, b][0]'(by simp)).length 0 ↔ b.length = a.length := by unfold SameLen; simp
  rw [if_pos (hA.2 ⟨ha, hb⟩), if_pos (hS.2 hab.symm)] at hp
  have e2 := bet_l a b (by omega) hab a.length [] 0 (by omega) (by omega) (by simp)
  unfold impl_EditsBetween.f
  refine Ev.bind hp ?_
  simp only [if_true]
  exact e2
theorem apv_l (l : List S36) (hl : l.length ≤ 1048576) (d : Nat) : ∀ (out : List ByteArray) (i : Nat), i ≤ l.length → l.length - i = d → Fits out (l.drop i) → Ev (fun k => impl_applyEdits.l0 k out l l.length i) (endP out (l.drop i), 0) := by
  induction d with
  | zero =>
    intro out i hi hd _
    rw [List.drop_eq_nil_of_le (by omega)]
    apply ev_succ
    simp only [impl_applyEdits.l0, if_neg (show ¬ (i : Int) < (l.length : Int) by omega)]
    exact ev_const rfl
  | succ d ih =>
    intro out i hi hd hf
    have hlt : i < l.length := by omega
    rw [List.drop_eq_getElem_cons hlt] at hf ⊢
    obtain ⟨⟨f0, f1, f2⟩, f3⟩ := hf
    have h1 := ih (put1 out l[i]) (i + 1) (by omega) (by omega) f3
    rw [endP]
    apply ev_succ
    simp only [impl_applyEdits.l0, if_pos (show (i : Int) < (l.length : Int) by omega), if_pos (show (0 : Int) ≤ (i : Int) by omega), rd_T36_at _ _ hlt, if_neg (show ¬ l[i].f0 ≥ (out.length : Int) by omega), if_pos f0, if_pos f1, f2, if_true, w64 (x := (i : Int) + 1) (by omega) (by omega)]
    exact h1
theorem apply_ev (n : List ByteArray) (hn : PlateOk n) (l : List S36) (hl : EditsOk l) (hf : Fits n l) : Ev (fun k => impl_ApplyEdits.f k n l) (endP n l, 0) := by
  have h1 := hn.2.2
  have h2 := hl.2
  have e := apv_l l (by omega) l.length n 0 (by omega) (by omega) (by rw [List.drop_zero]; exact hf)
  rw [List.drop_zero] at e
  unfold impl_ApplyEdits.f impl_applyEdits.f
  simp only [iplate_val, iedits_val, decide_eq_true hn, decide_eq_true hl, Option.bind_some, if_true, slices_Clone_string_string.f, if_pos (show n.length < 8796093022208 by omega)]
  exact Ev.bind e (ev_const rfl)
theorem turnL_rev (l : List S36) : turnL l = l.reverse.map revE := by
  refine List.ext_getElem ?_ (fun j h1 h2 => ?_)
  · rw [turn_len, List.length_map, List.length_reverse]
  · have h3 : j < l.length := by rw [turn_len] at h1; exact h1
    have h4 := turn_at l j h3
    rw [rd_T36_at (turnL l) j h1] at h4
    rw [h4, List.getElem_map, List.getElem_reverse]
    rfl
theorem undo_ev (n : List ByteArray) (hn : PlateOk n) (l : List S36) (hl : EditsOk l) (hf : Fits n (l.reverse.map revE)) : Ev (fun k => impl_UndoEdits.f k n l) (endP n (l.reverse.map revE), 0) := by
  have h1 := hn.2.2
  have h2 := hl.2
  have hlen : (l.reverse.map revE).length = l.length := by rw [List.length_map, List.length_reverse]
  have e := apv_l (l.reverse.map revE) (by omega) (l.reverse.map revE).length n 0 (by omega) (by omega) (by rw [List.drop_zero]; exact hf)
  rw [List.drop_zero] at e
  unfold impl_UndoEdits.f impl_applyEdits.f
  simp only [iplate_val, iedits_val, decide_eq_true hn, decide_eq_true hl, Option.bind_some, if_true, slices_Clone_string_string.f, if_pos (show n.length < 8796093022208 by omega), turnL_rev]
  exact e
theorem put_plate (o : List ByteArray) (h : ∀ s ∈ o, Engr s) (x : S36) (hx : Engr x.f2) : ∀ s ∈ put1 o x, Engr s := by
  intro s hs
  rcases List.mem_or_eq_of_mem_set hs with h1 | h1
  · exact h s h1
  · rw [h1]; exact hx
theorem end_plate (l : List S36) (hl : ∀ x ∈ l, EditOk x) : ∀ o : List ByteArray, PlateOk o → PlateOk (endP o l) := by
  induction l with
  | nil => intro o h; exact h
  | cons x xs ih =>
    intro o h
    rw [List.forall_mem_cons] at hl
    rw [endP]
    refine ih hl.2 (put1 o x) ⟨put_plate o h.1 x hl.1.2.2.1, ?_, ?_⟩
    · rw [put1, List.length_set]; exact h.2.1
    · rw [put1, List.length_set]; exact h.2.2
theorem rd_engr (a : List ByteArray) (h : ∀ s ∈ a, Engr s) (i : Int) (h0 : 0 ≤ i) (h1 : i < (a.length : Int)) : Engr (rdOf ByteArray.empty a i) := by
  obtain ⟨j, rfl⟩ := Int.eq_ofNat_of_zero_le h0
  rw [rdOf_at _ a j (by omega)]
  exact h _ (List.getElem_mem _)
theorem bet_ok (a b : List ByteArray) (ha : PlateOk a) (hb : PlateOk b) (hab : a.length = b.length) : EditsOk (betV a b 0 a.length) := by
  have h2 := ha.2.2
  refine ⟨fun x hx => ?_, ?_⟩
  · obtain ⟨p0, p1, p2, p3, p4⟩ := (betV_mem a b a.length x).1 hx
    refine ⟨⟨p0, by omega⟩, ?_, ?_, p4⟩
    · rw [p2]; exact rd_engr a ha.1 _ p0 p1
    · rw [p3]; exact rd_engr b hb.1 _ p0 (by omega)
  · have := betV_len a b 0 a.length
    omega
/-! The short edits are the edits between -/
theorem run_fits (p : Int) (hp0 : 0 ≤ p) (xs : List S36) : ∀ (o : List ByteArray) (st : St), Fits o xs → (∀ u v, st = some (u, v) → v = rdOf ByteArray.empty o p) →
    ∃ st', runP p st xs = some st' ∧ (∀ u v, st' = some (u, v) → v = rdOf ByteArray.empty (endP o xs) p) ∧ (st' = none → st = none ∧ rdOf ByteArray.empty (endP o xs) p = rdOf ByteArray.empty o p) ∧ (∀ u v u0 v0, st' = some (u, v) → st = some (u0, v0) → u = u0) ∧ (∀ u v, st' = some (u, v) → st = none → u = rdOf ByteArray.empty o p) := by
  induction xs with
  | nil =>
    intro o st _ hv
    exact ⟨st, rfl, hv, fun h => ⟨h, rfl⟩, (fun u v u0 v0 h1 h2 => by rw [h1] at h2; exact (Prod.mk.inj (Option.some.inj h2)).1), (fun u v h1 h2 => by rw [h1] at h2; cases h2)⟩
  | cons x xs ih =>
    intro o st hf hv
    obtain ⟨⟨f0, f1, f2⟩, f3⟩ := hf
    obtain ⟨j, hj⟩ := Int.eq_ofNat_of_zero_le f0
    have hjl : j < o.length := by omega
    have ht : (x.f0).toNat = j := by omega
    have hsame : rdOf ByteArray.empty (put1 o x) x.f0 = x.f2 := by
      rw [hj, rdOf_at _ (put1 o x) j (by rw [put1, List.length_set]; exact hjl)]
      simp only [put1, ht, List.getElem_set_self]
    by_cases e : x.f0 = p
    · subst e
      cases st with
      | none =>
        obtain ⟨st', r1, r2, r3, r4, r5⟩ := ih (put1 o x) (some (x.f1, x.f2)) f3 (fun u v h => by rw [← (Prod.mk.inj (Option.some.inj h)).2, hsame])
        refine ⟨st', by rw [runP_first]; exact r1, r2, (fun h => by have := (r3 h).1; cases this), (fun u v u0 v0 h1 h2 => by cases h2), fun u v h1 _ => ?_⟩
        rw [r4 u v x.f1 x.f2 h1 rfl, f2]
      | some q =>
        obtain ⟨u0, v0⟩ := q
        have hv0 := hv u0 v0 rfl
        obtain ⟨st', r1, r2, r3, r4, r5⟩ := ih (put1 o x) (some (u0, x.f2)) f3 (fun u v h => by rw [← (Prod.mk.inj (Option.some.inj h)).2, hsame])
        refine ⟨st', by rw [runP_next, if_pos (by rw [hv0, f2])]; exact r1, r2, (fun h => by have := (r3 h).1; cases this), fun u v u1 v1 h1 h2 => ?_, (fun u v h1 h2 => by cases h2)⟩
        rw [r4 u v u0 x.f2 h1 rfl]
        exact (Prod.mk.inj (Option.some.inj h2)).1
    · have hne : rdOf ByteArray.empty (put1 o x) p = rdOf ByteArray.empty o p := by
        unfold rdOf put1
        rw [ht, List.getD_eq_getElem?_getD, List.getD_eq_getElem?_getD]
        by_cases q : p.toNat = j
        · omega
        · rw [List.getElem?_set_ne (fun h => q h.symm)]
      obtain ⟨st', r1, r2, r3, r4, r5⟩ := ih (put1 o x) st f3 (fun u v h => by rw [hne]; exact hv u v h)
      refine ⟨st', by rw [runP_ne e]; exact r1, r2, fun h => ⟨(r3 h).1, by rw [endP, (r3 h).2, hne]⟩, r4, fun u v h1 h2 => by rw [r5 u v h1 h2, hne]⟩
theorem shStep_len (o : List S36) (x : S36) (o' : List S36) (h : shStep o x = some o') : o'.length ≤ o.length + 1 := by
  unfold shStep at h
  split at h
  · split at h
    · rw [← Option.some.inj h, List.length_set]; omega
    · cases h
  · rw [← Option.some.inj h, List.length_append, List.length_cons, List.length_take, List.length_drop]
    omega
theorem shAll_len (xs : List S36) : ∀ (o o' : List S36), shAll o xs = some o' → o'.length ≤ o.length + xs.length := by
  induction xs with
  | nil => intro o o' h; rw [← Option.some.inj h]; simp
  | cons x xs ih =>
    intro o o' h
    unfold shAll at h
    cases hs : shStep o x with
    | none => rw [hs] at h; cases h
    | some o1 =>
      rw [hs] at h
      have h1 := ih o1 o' h
      have h2 := shStep_len o x o1 hs
      rw [List.length_cons]
      omega
theorem short_val (o : List ByteArray) (ho : PlateOk o) (l : List S36) (hl : EditsOk l) (hf : Fits o l) : impl_ShortEdits.f l = some (betV o (endP o l) 0 o.length, 0) ∧ (betV o (endP o l) 0 o.length).length ≤ l.length := by
  have hr : InR l := fun x hx => (hl.1 x hx).1
  have ho2 := ho.2.2
  obtain ⟨h1, h2⟩ := all_facts l [] List.Pairwise.nil (fun x hx => by cases hx) hr
  have hrun := fun p (h0 : 0 ≤ p) => run_fits p h0 l o none hf (fun u v h => by cases h)
  cases hs : shAll [] l with
  | none =>
    obtain ⟨x, hx, hn⟩ := h2 hs
    obtain ⟨st, e, _⟩ := hrun x.f0 (hr x hx).1
    rw [hn none (fun y hy => by cases hy)] at e
    cases e
  | some q =>
    obtain ⟨ha, hq, hR⟩ := h1 q hs
    have hlen := shAll_len l [] q hs
    have heq : q.filter (fun x => !sameE x) = betV o (endP o l) 0 o.length := by
      refine asc_same _ _ (ha.filter _) (betV_asc _ _ _ _) (fun x => ?_)
      rw [List.mem_filter, betV_mem]
      have key : 0 ≤ x.f0 → ∃ st', Rel q x.f0 st' ∧ (∀ u v, st' = some (u, v) → v = rdOf ByteArray.empty (endP o l) x.f0) ∧ (st' = none → rdOf ByteArray.empty (endP o l) x.f0 = rdOf ByteArray.empty o x.f0) ∧ (∀ u v, st' = some (u, v) → u = rdOf ByteArray.empty o x.f0) := by
        intro h0
        obtain ⟨st', hRel, he⟩ := hR x.f0 none (fun y hy => by cases hy)
        obtain ⟨st, e, r2, r3, r4, r5⟩ := hrun x.f0 h0
        rw [he] at e
        have e2 := Option.some.inj e
        subst e2
        exact ⟨st', hRel, r2, fun h => (r3 h).2, fun u v h => r5 u v h rfl⟩
      constructor
      · rintro ⟨hx, hne⟩
        have hin := hq x hx
        obtain ⟨st', hRel, r2, r3, r5⟩ := key hin.1
        cases st' with
        | none => exact absurd rfl (hRel x hx)
        | some w =>
          obtain ⟨u, v⟩ := w
          have ex := asc_one ha hx (show (⟨x.f0, u, v⟩ : S36) ∈ q from hRel) rfl
          have e1 : x.f1 = u := by rw [ex]
          have e3 : x.f2 = v := by rw [ex]
          have hv := r2 u v rfl
          have hu := r5 u v rfl
          have hxn : x.f1 ≠ x.f2 := by
            intro h
            unfold sameE at hne
            rw [h, beq_self_eq_true] at hne
            cases hne
          refine ⟨hin.1, ?_, by rw [e1, hu], by rw [e3, hv], hxn⟩
          apply Classical.byContradiction
          intro hge
          apply hxn
          have z : ∀ m : List ByteArray, m.length = o.length → rdOf ByteArray.empty m x.f0 = ByteArray.empty := by
            intro m hm
            obtain ⟨j, hj⟩ := Int.eq_ofNat_of_zero_le hin.1
            unfold rdOf
            rw [hj, Int.toNat_natCast, List.getD_eq_getElem?_getD, List.getElem?_eq_none (by omega)]
            rfl
          rw [e1, e3, hu, hv, z o rfl, z _ (endP_len l o)]
      · rintro ⟨p0, p1, p2, p3, p4⟩
        obtain ⟨st', hRel, r2, r3, r5⟩ := key p0
        cases st' with
        | none =>
          have := r3 rfl
          exact absurd (by rw [p2, p3, this]) p4
        | some w =>
          obtain ⟨u, v⟩ := w
          have hv := r2 u v rfl
          have hu := r5 u v rfl
          have ex : x = (⟨x.f0, u, v⟩ : S36) := ed_eq rfl (by rw [p2]; exact hu.symm) (by rw [p3]; exact hv.symm)
          refine ⟨by rw [ex]; exact hRel, ?_⟩
          unfold sameE
          rw [Bool.not_eq_true', beq_eq_false_iff_ne]
          exact fun h => p4 (toList_inj.1 h)
    refine ⟨?_, ?_⟩
    · unfold impl_ShortEdits.f
      rw [iedits_val, decide_eq_true hl, Option.bind_some, if_pos rfl, hs]
      simp only [heq]
    · rw [← heq]
      refine Nat.le_trans (List.length_filter_le _ _) ?_
      rw [List.length_nil] at hlen
      omega
/-! An edit is read back from its text -/
def wl (s : ByteArray) : List UInt8 := if s.size = 0 then [45] else s.data.toList
theorem wl_facts (s : ByteArray) (h : Engr s) : rdW (wl s) = s ∧ wl s ≠ [] ∧ noSp (wl s) := by
  unfold wl
  by_cases c : s.size = 0
  · rw [if_pos c]
    refine ⟨?_, by simp, fun x hx => by rw [List.mem_singleton.1 hx]; decide⟩
    unfold rdW
    rw [if_pos rfl]
    refine toList_inj.1 ?_
    rw [(toList_nil s).2 c, ByteArray.toList_eq]
  · rw [if_neg c]
    obtain ⟨h1, h2, h3, h4⟩ := h.resolve_left c
    have hsz : s.data.toList.length = s.size := rfl
    have hbt : ∀ i (hi : i < s.data.toList.length), bt s (i : Int) = ((s.data.toList[i]).toNat : Int) := by
      intro i hi
      exact bt_at s i (by omega)
    refine ⟨?_, fun e => by rw [e] at hsz; simp at hsz; omega, fun x hx => ?_⟩
    · unfold rdW
      rw [if_neg]
      · rfl
      · intro e
        have h0 := hbt 0 (by omega)
        simp only [e] at h0
        have : bt s 0 = 45 := h0
        omega
    · obtain ⟨i, hi, rfl⟩ := List.getElem_of_mem hx
      have h5 := h4 i (by omega)
      rw [hbt i hi] at h5
      intro e
      rw [e] at h5
      revert h5
      decide
theorem read_back (x : S36) (h : EditOk x) : ∃ t, impl_EditText.f x.f0 x.f1 x.f2 = some t ∧ impl_ReadEdit.f t = some (x.f0, x.f1, x.f2, true) := by
  obtain ⟨p, o, n⟩ := x
  have h' : EditOk ⟨p, o, n⟩ := h
  obtain ⟨⟨p0, p1⟩, ho, hn, hne⟩ := h
  obtain ⟨j, hj⟩ := Int.eq_ofNat_of_zero_le p0
  have hj' : p = (j : Int) := hj
  subst hj'
  have hj11 : j ≤ 11 := by have : (j : Int) ≤ 11 := p1; omega
  obtain ⟨o1, o2, o3⟩ := wl_facts o ho
  obtain ⟨n1, n2, n3⟩ := wl_facts n hn
  have hE : EditOk ⟨(j : Int), rdW (wl o), rdW (wl n)⟩ := by rw [o1, n1]; exact h'
  have t1 := text_val j hj11 (wl o) (wl n) hE
  have w1 : wd (wl o) = wl o := if_neg o2
  have w2 : wd (wl n) = wl n := if_neg n2
  rw [o1, n1, w1, w2] at t1
  refine ⟨_, t1, ?_⟩
  have zo : (wl o).length ≤ 12 := by
    have := word_size (rdW (wl o)) hE.2.1
    rw [word_rd, w1, mkB_size] at this
    exact this
  have zn : (wl n).length ≤ 12 := by
    have := word_size (rdW (wl n)) hE.2.2.1
    rw [word_rd, w2, mkB_size] at this
    exact this
  have zd := (dg_facts j hj11).1
  have hsz : (mkB (joinA [35 :: DG j, wl o, [62], wl n])).size ≤ 1048576 := by
    rw [mkB_size]
    simp only [joinA, List.length_append, List.length_cons, List.length_nil]
    omega
  obtain ⟨r, r1, _, r3⟩ := impl_read _ hsz
  have hsp : splitA [] (mkB (joinA [35 :: DG j, wl o, [62], wl n])).data.toList = [35 :: DG j, wl o, [62], wl n] := by
    refine splitA_four _ _ _ _ (fun c hc => ?_) o3 (fun c hc => by rw [List.mem_singleton.1 hc]; decide) n3
    rcases List.mem_cons.1 hc with e | e
    · rw [e]; decide
    · exact dg_noSp j hj11 c e
  have hr := r3 j (wl o) (wl n) ⟨hj11, hsp, o2, n2⟩
  rw [r1, hr]
  unfold resOk
  rw [if_pos hE, o1, n1]

/-- Bytes. -/
def Bytes (l : List Int) : Prop := ∀ x ∈ l, 0 ≤ x ∧ x ≤ 255
theorem bytes_of {l : List Int} (h : ∀ x ∈ l, (Lit.int .u8 x).wf = true) : Bytes l := by
  intro x hx
  have := h x hx
  simpa [Lit.wf, IntKind.min, IntKind.max, IntKind.signed, IntKind.bits] using this
theorem rd_nat (l : List Int) (i : Nat) (h : i < l.length) : rd l (i : Int) = l[i] := by
  unfold rd
  rw [Int.toNat_natCast, List.getD_eq_getElem?_getD, List.getElem?_eq_getElem h]
  rfl
theorem rd_bytes {l : List Int} (h : Bytes l) {i : Int} (h0 : 0 ≤ i) (hi : i < (l.length : Int)) : 0 ≤ rd l i ∧ rd l i ≤ 255 := by
  obtain ⟨j, rfl⟩ := Int.eq_ofNat_of_zero_le h0
  rw [rd_nat l j (by omega)]
  exact h _ (List.getElem_mem _)
theorem wrap_u64 (n : Int) : IntKind.u64.wrap n = n % 18446744073709551616 := by simp [IntKind.wrap, IntKind.bits, IntKind.signed]
theorem low_byte {x : Int} (h0 : 0 ≤ x) (h1 : x < 18446744073709551616) : Go.bits .and .u64 x 255 = x % 256 :=
  bits_mask .u64 64 (by decide) (fun n h0 h1 => by rw [wrap_u64]; omega) 8 (by decide) x h0 (by simpa using h1)

theorem next_val {l : List Int} (hB : Bytes l) (hl : l.length ≤ 140737488351232) {a s : Int} (h0 : 0 ≤ a) (h1 : a ≤ 1000000000) : ∃ b s', spec_l00Src_next.f l a s = some (b, a + 1, s') ∧ 0 ≤ b ∧ b ≤ 255 := by
  unfold spec_l00Src_next.f
  rw [w64 (x := a + 1) (by omega) (by omega)]
  have hlow : ∀ z : Int, 0 ≤ wrap64 (Go.bits .and .u64 (IntKind.u64.wrap z / 1099511627776) 255) ∧ wrap64 (Go.bits .and .u64 (IntKind.u64.wrap z / 1099511627776) 255) ≤ 255 := by
    intro z
    rw [wrap_u64, low_byte (by omega) (by omega), w64 (by omega) (by omega)]
    omega
  by_cases h : a < (l.length : Int)
  · have hr := rd_bytes hB h0 h
    rw [if_pos h, if_pos h0, if_pos (by omega), w64 (x := rd l a) (by omega) (by omega)]
    exact ⟨_, _, rfl, hr.1, hr.2⟩
  · rw [if_neg h, if_neg (by omega)]
    exact ⟨_, _, rfl, (hlow _).1, (hlow _).2⟩
theorem pick_val {l : List Int} (hB : Bytes l) (hl : l.length ≤ 140737488351232) {a s : Int} (h0 : 0 ≤ a) (h1 : a ≤ 100000000) (n : Int) : ∃ v a' s', spec_l00Src_pick.f l a s n = some (v, a', s') ∧ a ≤ a' ∧ a' ≤ a + 2 ∧ 0 ≤ v ∧ (1 < n → v < n) ∧ (n ≤ 1 → v = 0) := by
  unfold spec_l00Src_pick.f
  by_cases h : n ≤ 1
  · rw [if_pos h]
    exact ⟨0, a, s, rfl, by omega, by omega, by omega, fun h => by omega, fun _ => rfl⟩
  · rw [if_neg h]
    obtain ⟨b, s1, e1, b0, b1⟩ := next_val hB hl (s := s) h0 (by omega)
    rw [e1]
    simp only [Option.bind_some]
    by_cases hn : n > 200
    · obtain ⟨c, s2, e2, c0, c1⟩ := next_val hB hl (a := a + 1) (s := s1) (by omega) (by omega)
      rw [if_pos hn, e2]
      simp only [Option.bind_some]
      rw [if_neg (by omega), w64 (x := b * 256) (by omega) (by omega), w64 (x := b * 256 + c) (by omega) (by omega), tmod_nn (by omega)]
      exact ⟨_, _, _, rfl, by omega, by omega, Int.emod_nonneg _ (by omega), fun _ => Int.emod_lt_of_pos _ (by omega), fun h2 => absurd h2 h⟩
    · rw [if_neg hn, if_neg (by omega), tmod_nn (by omega)]
      exact ⟨_, _, _, rfl, by omega, by omega, Int.emod_nonneg _ (by omega), fun _ => Int.emod_lt_of_pos _ (by omega), fun h2 => absurd h2 h⟩

theorem one_val {l : List Int} (hB : Bytes l) (hl : l.length ≤ 140737488351232) {a s : Int} (h0 : 0 ≤ a) (h1 : a ≤ 100000000) (n : Int) : ∃ v a' s', spec_l00Src_one.f l a s n = some (v, a', s') ∧ a ≤ a' ∧ a' ≤ a + 2 := by
  obtain ⟨v, a', s', e, h2, h3, _⟩ := pick_val hB hl (s := s) h0 h1 n
  unfold spec_l00Src_one.f
  rw [e]
  exact ⟨_, _, _, rfl, h2, h3⟩

theorem a2Long_val (l m : List Int) : laws_a2Long.f l m = some (decide ((l.length : Int) > 3000 ∨ (m.length : Int) > 3000)) := by
  unfold laws_a2Long.f
  by_cases h : (l.length : Int) > 3000
  · simp [h]
  · simp [h]
theorem srctext_val {l : List Int} (hB : Bytes l) (hl : l.length ≤ 140737488351232) {a s : Int} (h0 : 0 ≤ a) (h1 : a ≤ 100000000) (m : List ByteArray) (hm : 0 < m.length) : ∃ v a' s', spec_l00Src_text.f l a s m = some (v, a', s') ∧ a ≤ a' ∧ a' ≤ a + 2 ∧ v ∈ m := by
  obtain ⟨v, a', s', e, h2, h3, h4, h5, h6⟩ := pick_val hB hl (s := s) h0 h1 (m.length : Int)
  have hv : v < (m.length : Int) := by
    by_cases h : 1 < (m.length : Int)
    · exact h5 h
    · have := h6 (by omega); omega
  unfold spec_l00Src_text.f
  rw [e]
  simp only [Option.bind_some]
  rw [if_pos h4, if_pos hv]
  obtain ⟨j, rfl⟩ := Int.eq_ofNat_of_zero_le h4
  rw [rdOf_at _ m j (by omega)]
  exact ⟨_, _, _, rfl, h2, h3, List.getElem_mem _⟩
theorem words_engr : ∀ v ∈ ([(⟨#[]⟩ : ByteArray), (⟨#[99, 97, 112, 101, 45, 50]⟩ : ByteArray), (⟨#[98, 97, 121]⟩ : ByteArray), (⟨#[105, 115, 108, 101]⟩ : ByteArray), (⟨#[112, 111, 114, 116]⟩ : ByteArray)] : List ByteArray), Engr v := by
  intro v hv
  simp only [List.mem_cons, List.not_mem_nil, or_false] at hv
  rcases hv with rfl | rfl | rfl | rfl | rfl <;> exact of_decide_eq_true (by decide +kernel)
theorem word_val {l : List Int} (hB : Bytes l) (hl : l.length ≤ 140737488351232) {a s : Int} (h0 : 0 ≤ a) (h1 : a ≤ 100000000) : ∃ v a' s', spec_l13Word2.f l a s = some (v, a', s') ∧ a ≤ a' ∧ a' ≤ a + 2 ∧ Engr v := by
  unfold spec_l13Word2.f
  obtain ⟨v, a', s', e, h2, h3, h4⟩ := srctext_val hB hl (s := s) h0 h1 ([(⟨#[]⟩ : ByteArray), (⟨#[99, 97, 112, 101, 45, 50]⟩ : ByteArray), (⟨#[98, 97, 121]⟩ : ByteArray), (⟨#[105, 115, 108, 101]⟩ : ByteArray), (⟨#[112, 111, 114, 116]⟩ : ByteArray)] : List ByteArray) (by simp)
  rw [e]
  exact ⟨v, a', s', rfl, h2, h3, words_engr v h4⟩
theorem plate_l {l : List Int} (hB : Bytes l) (hl : l.length ≤ 140737488351232) (c : Nat) : ∀ (out : List ByteArray) (a s : Int), 0 ≤ a → a + 2 * (c : Int) ≤ 100000000 → out.length + c ≤ 1000 → (∀ x ∈ out, Engr x) →
    ∃ res a' s', Ev (fun k => spec_l13Draw.l0 k out (c : Int) l a s) (res, a', s') ∧ res.length = out.length + c ∧ (∀ x ∈ res, Engr x) ∧ a ≤ a' ∧ a' ≤ a + 2 * (c : Int) := by
  induction c with
  | zero =>
    intro out a s h0 h1 hc ho
    refine ⟨out, a, s, ev_succ ?_, rfl, ho, Int.le_refl _, by omega⟩
    simp only [spec_l13Draw.l0, if_neg (show ¬ ((0 : Nat) : Int) > 0 by omega)]
    exact ev_const rfl
  | succ c ih =>
    intro out a s h0 h1 hc ho
    obtain ⟨v, a1, s1, e, h2, h3, h4⟩ := word_val hB hl (s := s) h0 (by omega)
    obtain ⟨res, a2, s2, e2, r1, r2, r3, r4⟩ := ih (out ++ [v]) a1 s1 (by omega) (by omega) (by simp; omega) (by intro x hx; rcases List.mem_append.1 hx with h | h; exact ho x h; rw [List.mem_singleton.1 h]; exact h4)
    refine ⟨res, a2, s2, ev_succ ?_, by rw [r1]; simp; omega, r2, by omega, by omega⟩
    simp only [spec_l13Draw.l0, if_pos (show ((c + 1 : Nat) : Int) > 0 by omega), e, Option.bind_some, if_pos (show out.length < 8796093022208 by omega), w64 (x := ((c + 1 : Nat) : Int) - 1) (by omega) (by omega), show ((c + 1 : Nat) : Int) - 1 = (c : Int) by omega, w64 (x := (c : Int)) (by omega) (by omega)]
    exact e2
theorem three_l {l : List Int} (hB : Bytes l) (hl : l.length ≤ 140737488351232) (o : List ByteArray) (ho : o.length ≤ 1000) (hE : ∀ x ∈ o, Engr x) (d : Nat) : ∀ (x y : List ByteArray) (i : Nat) (a s : Int), i ≤ o.length → o.length - i = d → x.length = i → y.length = i → (∀ z ∈ x, Engr z) → (∀ z ∈ y, Engr z) → 0 ≤ a → a ≤ 10000 + 8 * (i : Int) →
    ∃ X Y, Ev (fun k => spec_A2Plates.l0 k o x y i l a s) (o, X, Y) ∧ X.length = o.length ∧ Y.length = o.length ∧ (∀ z ∈ X, Engr z) ∧ (∀ z ∈ Y, Engr z) := by
  induction d with
  | zero =>
    intro x y i a s hi hd hx hy ex ey h0 h1
    refine ⟨x, y, ev_succ ?_, by omega, by omega, ex, ey⟩
    simp only [spec_A2Plates.l0, if_neg (show ¬ (i : Int) < (o.length : Int) by omega)]
    exact ev_const rfl
  | succ d ih =>
    intro x y i a s hi hd hx hy ex ey h0 h1
    have hlt : i < o.length := by omega
    have app : ∀ (m : List ByteArray) (v : ByteArray), (∀ z ∈ m, Engr z) → Engr v → ∀ z ∈ m ++ [v], Engr z := by
      intro m v hm hv z hz
      rcases List.mem_append.1 hz with h | h
      · exact hm z h
      · rw [List.mem_singleton.1 h]; exact hv
    have second : ∀ (v : ByteArray) (a1 s1 : Int), Engr v → 0 ≤ a1 → a1 ≤ 10000 + 8 * (i : Int) + 4 → ∃ X Y, Ev (fun k => spec_A2Plates.j1 k o x y i v o[i] l a1 s1) (o, X, Y) ∧ X.length = o.length ∧ Y.length = o.length ∧ (∀ z ∈ X, Engr z) ∧ (∀ z ∈ Y, Engr z) := by
      intro v a1 s1 hv h2 h3
      obtain ⟨t, a2, s2, e, h4, h5⟩ := one_val hB hl (s := s1) h2 (by omega) 3
      cases t with
      | true =>
        obtain ⟨w, a3, s3, e3, h6, h7, h8⟩ := word_val hB hl (a := a2) (s := s2) (by omega) (by omega)
        obtain ⟨X, Y, e4, q⟩ := ih (x ++ [v]) (y ++ [w]) (i + 1) a3 s3 (by omega) (by omega) (by simp; omega) (by simp; omega) (app x v ex hv) (app y w ey h8) (by omega) (by omega)
        refine ⟨X, Y, ev_succ ?_, q⟩
        simp only [spec_A2Plates.j1, e, e3, Option.bind_some, if_true, if_pos (show x.length < 8796093022208 by omega), if_pos (show y.length < 8796093022208 by omega), w64 (x := (i : Int) + 1) (by omega) (by omega)]
        exact e4
      | false =>
        obtain ⟨X, Y, e4, q⟩ := ih (x ++ [v]) (y ++ [o[i]]) (i + 1) a2 s2 (by omega) (by omega) (by simp; omega) (by simp; omega) (app x v ex hv) (app y _ ey (hE _ (List.getElem_mem hlt))) (by omega) (by omega)
        refine ⟨X, Y, ev_succ ?_, q⟩
        simp only [spec_A2Plates.j1, e, Option.bind_some, Bool.false_eq_true, if_false, if_pos (show x.length < 8796093022208 by omega), if_pos (show y.length < 8796093022208 by omega), w64 (x := (i : Int) + 1) (by omega) (by omega)]
        exact e4
    obtain ⟨t, a1, s1, e, h4, h5⟩ := one_val hB hl (s := s) h0 (by omega) 3
    cases t with
    | true =>
      obtain ⟨w, a2, s2, e2, h6, h7, h8⟩ := word_val hB hl (a := a1) (s := s1) (by omega) (by omega)
      obtain ⟨X, Y, e4, q⟩ := second w a2 s2 h8 (by omega) (by omega)
      refine ⟨X, Y, ev_succ ?_, q⟩
      simp only [spec_A2Plates.l0, if_pos (show (i : Int) < (o.length : Int) by omega), if_pos (show (0 : Int) ≤ (i : Int) by omega), rdOf_at _ _ _ hlt, e, e2, Option.bind_some, if_true]
      exact e4
    | false =>
      obtain ⟨X, Y, e4, q⟩ := second o[i] a1 s1 (hE _ (List.getElem_mem hlt)) (by omega) (by omega)
      refine ⟨X, Y, ev_succ ?_, q⟩
      simp only [spec_A2Plates.l0, if_pos (show (i : Int) < (o.length : Int) by omega), if_pos (show (0 : Int) ≤ (i : Int) by omega), rdOf_at _ _ _ hlt, e, Option.bind_some, Bool.false_eq_true, if_false]
      exact e4
theorem plates_drawn {l : List Int} (hB : Bytes l) (hl : l.length ≤ 140737488351232) : ∃ o a b, Ev (fun k => spec_A2Plates.f k l) (o, a, b) ∧ threeV o a b = 0 := by
  obtain ⟨c, a1, s1, e, h2, h3, h4, h5, _⟩ := pick_val hB hl (a := 0) (s := 0) (by omega) (by omega) 6
  obtain ⟨cn, rfl⟩ := Int.eq_ofNat_of_zero_le h4
  have hc := h5 (by omega)
  obtain ⟨o, a2, s2, e2, r1, r2, r3, r4⟩ := plate_l hB hl (1 + cn) [] a1 s1 (by omega) (by omega) (by simp; omega) (by simp)
  obtain ⟨a, b, e3, q1, q2, q3, q4⟩ := three_l hB hl o (by simp at r1; omega) r2 o.length [] [] 0 a2 s2 (by omega) (by omega) rfl rfl (by simp) (by simp) (by omega) (by omega)
  refine ⟨o, a, b, ?_, ?_⟩
  · unfold spec_A2Plates.f spec_l00From.f spec_l13Draw.f
    simp only [Option.bind_some, e, w64 (x := 1 + (cn : Int)) (by omega) (by omega)]
    have e2' : Ev (fun k => spec_l13Draw.l0 k [] (1 + (cn : Int)) l a1 s1) (o, a2, s2) := by
      have := e2
      rw [show ((1 + cn : Nat) : Int) = 1 + (cn : Int) by omega] at this
      exact this
    exact Ev.bind e2' e3
  · simp only [List.length_nil, Nat.zero_add] at r1
    unfold threeV
    have po : PlateOk o := ⟨r2, by omega, by omega⟩
    have pa : PlateOk a := ⟨q3, by omega, by omega⟩
    have pb : PlateOk b := ⟨q4, by omega, by omega⟩
    rw [if_pos ⟨po, pa, pb⟩, if_pos ⟨q1, q2⟩]
theorem sameP_l (a : List ByteArray) (hl : a.length ≤ 1048576) (d : Nat) : ∀ (i : Nat), i ≤ a.length → a.length - i = d → Ev (fun k => spec_SamePlate.l0 k a a i) true := by
  induction d with
  | zero =>
    intro i hi hd
    apply ev_succ
    simp only [spec_SamePlate.l0, if_neg (show ¬ (i : Int) < (a.length : Int) by omega)]
    exact ev_const rfl
  | succ d ih =>
    intro i hi hd
    have h1 := ih (i + 1) (by omega) (by omega)
    apply ev_succ
    simp only [spec_SamePlate.l0, if_pos (show (i : Int) < (a.length : Int) by omega), if_pos (show (0 : Int) ≤ (i : Int) by omega), if_true, w64 (x := (i : Int) + 1) (by omega) (by omega)]
    exact h1
theorem sameP_ev (a : List ByteArray) (hl : a.length ≤ 1048576) : Ev (fun k => spec_SamePlate.f k a a) true := by
  unfold spec_SamePlate.f
  simp only [if_true]
  exact sameP_l a hl a.length 0 (by omega) (by omega)
theorem fit_edits_l {l : List Int} (hB : Bytes l) (hl : l.length ≤ 140737488351232) (base : List ByteArray) (hbase : PlateOk base) (c : Nat) : ∀ (now : List ByteArray) (out : List S36) (a s : Int), now = endP base out → Fits base out → (∀ x ∈ out, EditOk x) → out.length + c ≤ 6 → 0 ≤ a → a + 4 * (c : Int) ≤ 10000 →
    ∃ res, Ev (fun k => spec_A2Edits.l0 k now out (c : Int) l a s) res ∧ Fits base res ∧ (∀ x ∈ res, EditOk x) ∧ res.length ≤ 6 := by
  induction c with
  | zero =>
    intro now out a s hn hf he hc h0 h1
    refine ⟨out, ev_succ ?_, hf, he, by omega⟩
    simp only [spec_A2Edits.l0, if_neg (show ¬ ((0 : Nat) : Int) > 0 by omega)]
    exact ev_const rfl
  | succ c ih =>
    intro now out a s hn hf he hc h0 h1
    have hp : PlateOk now := by rw [hn]; exact end_plate out he base hbase
    have hp1 := hp.2.1
    have hp2 := hp.2.2
    obtain ⟨v, a1, s1, e1, g1, g2, g3, g4, g5⟩ := pick_val hB hl (s := s) h0 (by omega) (now.length : Int)
    have hv : v < (now.length : Int) := by
      by_cases h : 1 < (now.length : Int)
      · exact g4 h
      · have := g5 (by omega); omega
    obtain ⟨i, rfl⟩ := Int.eq_ofNat_of_zero_le g3
    have hi : i < now.length := by omega
    obtain ⟨w, a2, s2, e2, g6, g7, g8⟩ := word_val hB hl (a := a1) (s := s1) (by omega) (by omega)
    have hw64 : wrap64 (((c + 1 : Nat) : Int) - 1) = (c : Int) := by rw [w64 (by omega) (by omega)]; omega
    by_cases hq : now[i].toList = w.toList
    · obtain ⟨res, e3, q⟩ := ih now out a2 s2 hn hf he (by omega) (by omega) (by omega)
      refine ⟨res, ev_succ ?_, q⟩
      simp only [spec_A2Edits.l0, if_pos (show ((c + 1 : Nat) : Int) > 0 by omega), e1, Option.bind_some, if_pos g3, if_pos hv, e2, rdOf_at _ _ _ hi, if_pos hq, hw64]
      exact e3
    · have hfit : Fit1 now (⟨(i : Int), now[i], w⟩ : S36) := ⟨g3, hv, rdOf_at _ now i hi⟩
      have hput : put1 now (⟨(i : Int), now[i], w⟩ : S36) = now.set i w := by
        show now.set ((i : Int)).toNat w = _
        rw [Int.toNat_natCast]
      have hok : EditOk (⟨(i : Int), now[i], w⟩ : S36) := ⟨⟨g3, by show (i : Int) ≤ 11; omega⟩, hp.1 _ (List.getElem_mem hi), g8, fun e => hq (by rw [show now[i] = w from e])⟩
      obtain ⟨res, e3, q⟩ := ih (now.set i w) (out ++ [(⟨(i : Int), now[i], w⟩ : S36)]) a2 s2 (by
          rw [endP_app, ← hn, endP, endP, hput]) (by
          rw [fits_app, ← hn]
          exact ⟨hf, hfit, trivial⟩) (by
          intro x hx
          rcases List.mem_append.1 hx with h | h
          · exact he x h
          · rw [List.mem_singleton.1 h]; exact hok) (by simp; omega) (by omega) (by omega)
      refine ⟨res, ev_succ ?_, q⟩
      simp only [spec_A2Edits.l0, if_pos (show ((c + 1 : Nat) : Int) > 0 by omega), e1, Option.bind_some, if_pos g3, if_pos hv, e2, rdOf_at _ _ _ hi, if_neg hq, if_pos (show out.length < 3518437208883 by omega), Int.toNat_natCast, hw64]
      exact e3
theorem fit_edits {l : List Int} (hB : Bytes l) (hl : l.length ≤ 140737488351232) (base : List ByteArray) (hbase : PlateOk base) : ∃ res, Ev (fun k => spec_A2Edits.f k l base) res ∧ Fits base res ∧ EditsOk res := by
  have h2 := hbase.2.2
  obtain ⟨v, a1, s1, e1, g1, g2, g3, g4, _⟩ := pick_val hB hl (a := 0) (s := 0) (by omega) (by omega) 7
  have g4 := g4 (by omega)
  obtain ⟨c, rfl⟩ := Int.eq_ofNat_of_zero_le g3
  obtain ⟨res, e2, q1, q2, q3⟩ := fit_edits_l hB hl base hbase c base ([] : List S36) a1 s1 rfl trivial (by simp) (by simp; omega) (by omega) (by omega)
  refine ⟨res, ?_, q1, q2, by omega⟩
  unfold spec_A2Edits.f spec_l00From.f
  simp only [Option.bind_some, List.length_nil, List.nil_append, if_pos (show 0 + base.length < 8796093022208 by omega), e1]
  exact e2
theorem read_l (l : List S36) (hl : l.length ≤ 12) (he : ∀ x ∈ l, EditOk x) (d : Nat) : ∀ (i : Nat), i ≤ l.length → l.length - i = d → Ev (fun k => laws_FnEdits.l0 k l l i) true := by
  induction d with
  | zero =>
    intro i hi hd
    apply ev_succ
    simp only [laws_FnEdits.l0, if_neg (show ¬ (i : Int) < (l.length : Int) by omega)]
    exact ev_const rfl
  | succ d ih =>
    intro i hi hd
    have hlt : i < l.length := by omega
    have h1 := ih (i + 1) (by omega) (by omega)
    obtain ⟨t, t1, t2⟩ := read_back l[i] (he _ (List.getElem_mem hlt))
    apply ev_succ
    simp only [laws_FnEdits.l0, if_pos (show (i : Int) < (l.length : Int) by omega), if_pos (show (0 : Int) ≤ (i : Int) by omega), rd_T36_at _ _ hlt, t1, t2, Option.bind_some, beq_self_eq_true, Bool.not_true, Bool.or_self, Bool.false_eq_true, if_false, if_true, w64 (x := (i : Int) + 1) (by omega) (by omega)]
    exact h1
theorem FnEdits : laws_FnEdits.Pure := by
  intro l m hl hlb hm hmb
  have hB := bytes_of hlb
  have hM := bytes_of hmb
  apply Ev.rounds
  unfold laws_FnEdits.f
  rw [a2Long_val]
  by_cases hlong : (l.length : Int) > 3000 ∨ (m.length : Int) > 3000
  · simp only [hlong, decide_true, Option.bind_some, if_true]; exact ev_const rfl
  · simp only [hlong, decide_false, Option.bind_some, Bool.false_eq_true, if_false]
    obtain ⟨o, a, b, d1, hv⟩ := plates_drawn hB (by omega)
    have hT : PlateOk o ∧ PlateOk a ∧ a.length = o.length := by
      unfold threeV at hv
      by_cases h1 : PlateOk o ∧ PlateOk a ∧ PlateOk b
      · rw [if_pos h1] at hv
        by_cases h2 : a.length = o.length ∧ b.length = o.length
        · exact ⟨h1.1, h1.2.1, h2.1⟩
        · rw [if_neg h2] at hv; omega
      · rw [if_neg h1] at hv; omega
    obtain ⟨po, pa, hao⟩ := hT
    have ho2 := po.2.2
    have ha2 := pa.2.2
    obtain ⟨f1, f2⟩ := bet_all o a hao.symm
    have k1 := bet_ok o a po pa hao.symm
    obtain ⟨u1, u2⟩ := undo_fits (betV o a 0 o.length) o f1
    rw [f2] at u1 u2
    have e1 := bet_ev o a po pa hao.symm
    have e2 := apply_ev o po (betV o a 0 o.length) k1 f1
    have e3 := undo_ev a pa (betV o a 0 o.length) k1 u1
    rw [f2] at e2
    rw [u2] at e3
    have s1 := sameP_ev a (by omega)
    have s2 := sameP_ev o (by omega)
    refine Ev.bind d1 (Ev.bind e1 (Ev.bind e2 (Ev.bind e3 ?_)))
    simp only [if_true]
    refine Ev.bind s1 ?_
    simp only [if_true]
    refine Ev.bind s2 ?_
    simp only [Bool.not_true]
    obtain ⟨x, x1, x2, x3⟩ := fit_edits hM (by omega) o po
    have pe := end_plate x x3.1 o po
    have hel := endP_len x o
    have y1 := apply_ev o po x x3 x2
    obtain ⟨v1, v2⟩ := undo_fits x o x2
    have y2 := undo_ev (endP o x) pe x x3 v1
    rw [v2] at y2
    obtain ⟨y3, y4⟩ := short_val o po x x3 x2
    obtain ⟨g1, g2⟩ := bet_all o (endP o x) hel.symm
    have k2 := bet_ok o (endP o x) po pe hel.symm
    have y5 := apply_ev o po (betV o (endP o x) 0 o.length) k2 g1
    rw [g2] at y5
    have y6 := bet_ev o (endP o x) po pe hel.symm
    have s3 := sameP_ev (endP o x) (by omega)
    have hlen := betV_len o (endP o x) 0 o.length
    apply ev_succ
    simp only [laws_FnEdits.j0, Bool.false_eq_true, if_false]
    refine Ev.bind x1 (Ev.bind y1 (Ev.bind y2 ?_))
    simp only [y3, Option.bind_some]
    refine Ev.bind y5 (Ev.bind y6 ?_)
    simp only [if_true]
    refine Ev.bind s2 ?_
    simp only [if_true, if_neg (show ¬ ((betV o (endP o x) 0 o.length).length : Int) > (x.length : Int) by omega)]
    refine Ev.bind s3 ?_
    simp only [if_true, bne_self_eq_false]
    apply ev_succ
    simp only [laws_FnEdits.j1, Bool.false_eq_true, if_false]
    exact read_l _ (by omega) k2.1 _ 0 (by omega) rfl

end Go.Proofs.YtlkgajfhgcongaaGreatDoor.Pure
