/- FnMerges: over three drawn plates of one size, the conflicts are the same in both orders and ascend, both mergings come to the same code and, where there is no conflict, to the same plate, which has all corrections. -/
import Derived.Test.YtgeeojchgfomjaaDoorStatFnMerges
namespace Go.Proofs.YtgeeojchgfomjaaDoor.Pure
open Go.RowKit Go.Proofs.YtgeeojchgfomjaaDoor.PFnMerges Go.Proofs.YtgeeojchgfomjaaDoorW.PrintWords Go.Proofs.YtgeeojchgfomjaaDoorW.PrintLast Go.Proofs.YtgeeojchgfomjaaDoorW.PrintMore
set_option linter.unusedVariables false
set_option linter.unusedSimpArgs false
theorem wfb {a : Int} (h : (Lit.int .i64 a).wf = true) : -9223372036854775808 ≤ a ∧ a ≤ 9223372036854775807 := by
  simpa [Lit.wf, IntKind.min, IntKind.max, IntKind.signed, IntKind.bits] using h
theorem w64 {x : Int} (h : -9223372036854775808 ≤ x) (h2 : x ≤ 9223372036854775807) : wrap64 x = x := by unfold wrap64; omega
theorem tdiv_nn {a b : Int} (h : 0 ≤ a) : Int.tdiv a b = a / b := Int.tdiv_eq_ediv_of_nonneg h
theorem tmod_nn {a b : Int} (h : 0 ≤ a) : Int.tmod a b = a % b := Int.tmod_eq_emod_of_nonneg h
theorem floor_val (a b : Int) (hb : 0 < b) : (if Int.tmod a b < 0 then Int.tdiv a b - 1 else Int.tdiv a b) = a / b := by
  have h1 := Int.mul_tdiv_add_tmod a b
  have hlt : Int.tmod a b < b := Int.tmod_lt_of_pos a hb
  have hgt : -b < Int.tmod a b := by
    have h2 := Int.tmod_lt_of_pos (-a) hb
    rw [Int.neg_tmod] at h2
    omega
  symm
  split
  · rename_i hneg
    refine ((Int.ediv_emod_unique hb (r := Int.tmod a b + b)).2 ⟨?_, by omega, by omega⟩).1
    rw [Int.mul_sub, Int.mul_one]
    omega
  · rename_i hneg
    exact ((Int.ediv_emod_unique hb (r := Int.tmod a b)).2 ⟨by omega, by omega, by omega⟩).1
theorem ediv_bd {a b : Int} (hb : 0 < b) (B : Int) (h0 : -B ≤ a) (h1 : a ≤ B) (hB : 0 ≤ B) : -B ≤ a / b ∧ a / b ≤ B := by
  constructor
  · rw [Int.le_ediv_iff_mul_le hb]
    have : B * 1 ≤ B * b := Int.mul_le_mul_of_nonneg_left (by omega) hB
    rw [Int.neg_mul]; omega
  · have h2 : a / b ≤ B / b := Int.ediv_le_ediv hb h1
    have h3 : B / b ≤ B := Int.ediv_le_self b hB
    omega
theorem ceil_alt (a b : Int) (hb : 0 < b) : (a + b - 1) / b = -((-a) / b) := by
  have h1 := Int.mul_ediv_add_emod (-a) b
  have h2 := Int.emod_nonneg (-a) (b := b) (by omega)
  have h3 := Int.emod_lt_of_pos (-a) hb
  refine ((Int.ediv_emod_unique hb (r := b - 1 - (-a) % b)).2 ⟨?_, by omega, by omega⟩).1
  rw [Int.mul_neg]
  omega

theorem ev_succ {α : Type} {g : Nat → Option α} {r : α} (h : Ev (fun k => g (k + 1)) r) : Ev g r := Ev.step (fun _ => rfl) h
theorem ev_const {α : Type} {g : Option α} {r : α} (h : g = some r) : Ev (fun _ => g) r := ⟨0, fun _ _ => h⟩
theorem ev_uniq {α : Type} {g : Nat → Option α} {a b : α} (h : Ev g a) (h' : Ev g b) : a = b := by
  obtain ⟨K, h⟩ := h
  obtain ⟨K', h'⟩ := h'
  have h1 := h (K + K') (by omega)
  rw [h' (K + K') (by omega)] at h1
  exact (Option.some.inj h1).symm

theorem toList_inj {a b : ByteArray} : a.toList = b.toList ↔ a = b := by
  constructor
  · intro h
    rw [ByteArray.toList_eq, ByteArray.toList_eq] at h
    obtain ⟨⟨x⟩⟩ := a
    obtain ⟨⟨y⟩⟩ := b
    simp at h
    rw [h]
  · intro h; rw [h]
def sizes (l : List ByteArray) : Int := (l.map (fun s => (s.size : Int))).sum
theorem sizes_cons (s : ByteArray) (l : List ByteArray) : sizes (s :: l) = s.size + sizes l := by simp [sizes]
theorem sizes_nn (l : List ByteArray) : 0 ≤ sizes l := by
  induction l with
  | nil => simp [sizes]
  | cons s l ih => rw [sizes_cons]; omega
theorem sizes_drop (l : List ByteArray) (i : Nat) (h : i < l.length) : sizes (l.drop i) = (l[i]).size + sizes (l.drop (i + 1)) := by
  rw [List.drop_eq_getElem_cons h, sizes_cons]
theorem rdOf_at (d : ByteArray) (l : List ByteArray) (i : Nat) (h : i < l.length) : rdOf d l (i : Int) = l[i] := by
  unfold rdOf
  rw [Int.toNat_natCast, List.getD_eq_getElem?_getD, List.getElem?_eq_getElem h]
  rfl

/-- A byte that a name may have. -/
def nameC (c : Int) : Prop := ((97 : Int) ≤ c ∧ c ≤ 122) ∨ ((48 : Int) ≤ c ∧ c ≤ 57) ∨ c = 45
instance instNameC (c : Int) : Decidable (nameC c) := by unfold nameC; infer_instance
/-- A name. -/
def IsNm (s : ByteArray) : Prop := 1 ≤ s.size ∧ s.size ≤ 12 ∧ ((97 : Int) ≤ bt s 0 ∧ bt s 0 ≤ 122) ∧ ∀ i, i < s.size → nameC (bt s (i : Int))
instance instIsNm (s : ByteArray) : Decidable (IsNm s) := by unfold IsNm; infer_instance
theorem toList_nil (s : ByteArray) : s.toList = ([] : List UInt8) ↔ s.size = 0 := by
  rw [ByteArray.toList_eq]
  obtain ⟨⟨x⟩⟩ := s
  show x = [] ↔ x.length = 0
  rw [List.length_eq_zero_iff]
theorem bt_at (s : ByteArray) (i : Nat) (h : i < s.size) : bt s (i : Int) = ((s.data.toList[i]'(by simpa using h)).toNat : Int) := by
  unfold bt
  rw [dif_pos (by simpa using h)]
  rfl
open Classical in

theorem dw_nil (p : UInt8 → Bool) (l : List UInt8) : l.dropWhile p = [] ↔ ∀ b ∈ l, p b = true := by
  induction l with
  | nil => simp
  | cons a l ih =>
    by_cases h : p a = true
    · simp [List.dropWhile, h, ih]
    · simp [List.dropWhile, h]
theorem dw_head (p : UInt8 → Bool) (l : List UInt8) (x : UInt8) (xs : List UInt8) (h : l.dropWhile p = x :: xs) : p x = false := by
  induction l with
  | nil => simp at h
  | cons a l ih =>
    by_cases h2 : p a = true
    · simp only [List.dropWhile, h2] at h
      exact ih h
    · have h3 : p a = false := by simpa using h2
      simp only [List.dropWhile, h3, List.cons.injEq] at h
      rw [← h.1]; exact h3
theorem trimS_nil (l cs : List UInt8) : Go.Lib.trimS l cs = [] ↔ ∀ b ∈ l, cs.contains b = true := by
  unfold Go.Lib.trimS Go.Lib.trimLeftS Go.Lib.trimRightS
  rw [dw_nil]
  constructor
  · intro h b hb
    cases e : l.reverse.dropWhile (cs.contains ·) with
    | nil =>
      rw [dw_nil] at e
      exact e b (by simpa using hb)
    | cons x xs =>
      exfalso
      have h1 := dw_head _ _ _ _ e
      have h2 := h x (by rw [e]; simp)
      rw [h2] at h1
      cases h1
  · intro h b hb
    exact h b (by simpa using (List.dropWhile_sublist _).subset (List.mem_reverse.1 hb))
theorem name_cut (b : UInt8) : ([97, 98, 99, 100, 101, 102, 103, 104, 105, 106, 107, 108, 109, 110, 111, 112, 113, 114, 115, 116, 117, 118, 119, 120, 121, 122, 48, 49, 50, 51, 52, 53, 54, 55, 56, 57, 45] : List UInt8).contains b = decide (nameC (b.toNat : Int)) := by
  have key : ((List.range 256).all fun n => (([97, 98, 99, 100, 101, 102, 103, 104, 105, 106, 107, 108, 109, 110, 111, 112, 113, 114, 115, 116, 117, 118, 119, 120, 121, 122, 48, 49, 50, 51, 52, 53, 54, 55, 56, 57, 45] : List UInt8).contains (UInt8.ofNat n) == decide (((97 : Int) ≤ (n : Int) ∧ (n : Int) ≤ 122) ∨ ((48 : Int) ≤ (n : Int) ∧ (n : Int) ≤ 57) ∨ (n : Int) = 45))) = true := by decide +kernel
  have h := List.all_eq_true.1 key b.toNat (List.mem_range.2 b.toNat_lt)
  rw [UInt8.ofNat_toNat] at h
  rw [beq_iff_eq] at h
  rw [h]
  rfl
theorem impl_name (s : ByteArray) : impl_IsName.f s = some (decide (IsNm s)) := by
  unfold impl_IsName.f
  by_cases h0 : (s.size : Int) < 1
  · rw [if_pos h0, decide_eq_false (fun h => by have := h.1; omega)]
  · rw [if_neg h0]
    by_cases h1 : (s.size : Int) > 12
    · rw [if_pos h1, decide_eq_false (fun h => by have := h.2.1; omega)]
    · rw [if_neg h1, if_pos (by omega)]
      by_cases h2 : bt s 0 < 97
      · rw [if_pos h2, decide_eq_false (fun h => by have := h.2.2.1.1; omega)]
      · rw [if_neg h2]
        by_cases h3 : bt s 0 > 122
        · rw [if_pos h3, decide_eq_false (fun h => by have := h.2.2.1.2; omega)]
        · rw [if_neg h3]
          unfold strings_Trim.f
          rw [if_pos ⟨by omega, by decide, by decide +kernel⟩]
          simp only [Option.bind_some]
          congr 1
          have e : (decide (IsNm s)) = decide (∀ b ∈ s.data.toList, nameC (b.toNat : Int)) := by
            rw [decide_eq_decide]
            constructor
            · intro h b hb
              obtain ⟨j, hj, rfl⟩ := List.getElem_of_mem hb
              have := h.2.2.2 j (by simpa using hj)
              rw [bt_at s j (by simpa using hj)] at this
              exact this
            · intro h
              refine ⟨by omega, by omega, ⟨by omega, by omega⟩, fun j hj => ?_⟩
              rw [bt_at s j hj]
              exact h _ (List.getElem_mem _)
          rw [e]
          have e2 : ∀ t : List UInt8, (({ data := t.toArray } : ByteArray).toList == ([] : List UInt8)) = decide (t = []) := by
            intro t
            rw [ByteArray.toList_eq]
            cases t <;> simp
          rw [e2, decide_eq_decide, trimS_nil]
          constructor
          · intro h b hb
            have := h b hb
            rw [name_cut] at this
            exact of_decide_eq_true this
          · intro h b hb
            rw [name_cut]
            exact decide_eq_true (h b hb)

/-- A name or none. -/
def Engr (s : ByteArray) : Prop := s.size = 0 ∨ IsNm s
instance instEngr (s : ByteArray) : Decidable (Engr s) := by unfold Engr; infer_instance
theorem impl_engr (s : ByteArray) : impl_isEngraved.f s = some (decide (Engr s)) := by
  unfold impl_isEngraved.f
  by_cases h : s.size = 0
  · rw [if_pos ((toList_nil s).2 h), decide_eq_true (show Engr s from .inl h)]
  · rw [if_neg (fun e => h ((toList_nil s).1 e)), impl_name]
    have e : decide (Engr s) = decide (IsNm s) := by
      rw [decide_eq_decide]
      exact ⟨fun x => x.resolve_left h, .inr⟩
    rw [e]
    rfl

/-- What a plate must hold. -/
def PlateOk (l : List ByteArray) : Prop := (∀ s ∈ l, Engr s) ∧ (1 : Int) ≤ l.length ∧ (l.length : Int) ≤ 12
instance instPlateOk (l : List ByteArray) : Decidable (PlateOk l) := by unfold PlateOk; infer_instance
def Suff (l : List ByteArray) (i : Nat) : Prop := (∀ s ∈ l.drop i, Engr s) ∧ (1 : Int) ≤ l.length ∧ (l.length : Int) ≤ 12
instance instSuff (l : List ByteArray) (i : Nat) : Decidable (Suff l i) := by unfold Suff; infer_instance
theorem iplate_val (l : List ByteArray) : impl_ValidPlate.f l = some (decide (PlateOk l)) := by
  have hb : ∀ x, impl_isEngravedBad x = !decide (Engr x) := fun x => by unfold impl_isEngravedBad; rw [impl_engr]; rfl
  have ha : (!l.any impl_isEngravedBad) = decide (∀ s ∈ l, Engr s) := by
    rw [show impl_isEngravedBad = fun x => !decide (Engr x) from funext hb]
    rw [Bool.eq_iff_iff]
    simp
  unfold impl_ValidPlate.f
  rw [ha]
  by_cases h1 : (l.length : Int) ≥ 1
  · by_cases h2 : (l.length : Int) ≤ 12
    · rw [if_pos h1, if_pos h2]
      exact congrArg some (decide_eq_decide.2 ⟨fun h => ⟨h, h1, h2⟩, fun h => h.1⟩)
    · rw [if_pos h1, if_neg h2, decide_eq_false (show ¬ PlateOk l from fun h => h2 h.2.2)]
  · rw [if_neg h1, decide_eq_false (show ¬ PlateOk l from fun h => h1 h.2.1)]

theorem rdL_at (l : List (List ByteArray)) (i : Nat) (h : i < l.length) : rd_L2 l (i : Int) = l[i] := by
  unfold rd_L2
  rw [Int.toNat_natCast, List.getD_eq_getElem?_getD, List.getElem?_eq_getElem h]
  rfl
def AllPlates (l : List (List ByteArray)) (i : Nat) : Prop := ∀ p ∈ l.drop i, PlateOk p
instance instAllPlates (l : List (List ByteArray)) (i : Nat) : Decidable (AllPlates l i) := by unfold AllPlates; infer_instance
def SameLen (l : List (List ByteArray)) (n i : Nat) : Prop := ∀ p ∈ l.drop i, p.length = n
instance instSameLen (l : List (List ByteArray)) (n i : Nat) : Decidable (SameLen l n i) := by unfold SameLen; infer_instance
theorem plates1_l (l : List (List ByteArray)) (hl : l.length ≤ 1000) (h0 : 0 < l.length) (d : Nat) : ∀ (i : Nat), i ≤ l.length → l.length - i = d → Ev (fun k => impl_platesCode.l1 k l l l.length i) (if SameLen l l[0].length i then 0 else 2) := by
  induction d with
  | zero =>
    intro i hi hd
    apply ev_succ
    simp only [impl_platesCode.l1, if_neg (show ¬ (i : Int) < (l.length : Int) by omega)]
    rw [if_pos (show SameLen l l[0].length i from by unfold SameLen; rw [List.drop_eq_nil_of_le (by omega)]; simp)]
    exact ev_const rfl
  | succ d ih =>
    intro i hi hd
    have hlt : i < l.length := by omega
    have r0 : rd_L2 l 0 = l[0] := rdL_at l 0 h0
    apply ev_succ
    simp only [impl_platesCode.l1, if_pos (show (i : Int) < (l.length : Int) by omega), if_pos (show (0 : Int) ≤ (i : Int) by omega), if_pos (show (0 : Int) < (l.length : Int) by omega), rdL_at _ _ hlt, r0, w64 (x := (i : Int) + 1) (by omega) (by omega)]
    have hd2 : SameLen l l[0].length i ↔ (l[i].length = l[0].length ∧ SameLen l l[0].length (i + 1)) := by
      unfold SameLen
      rw [List.drop_eq_getElem_cons hlt, List.forall_mem_cons]
    by_cases h : l[i].length = l[0].length
    · simp only [if_pos (show (l[i].length : Int) = (l[0].length : Int) by omega)]
      have e : (if SameLen l l[0].length i then (0 : Int) else 2) = if SameLen l l[0].length (i + 1) then 0 else 2 := by
        by_cases h2 : SameLen l l[0].length (i + 1)
        · rw [if_pos h2, if_pos (hd2.2 ⟨h, h2⟩)]
        · rw [if_neg h2, if_neg (fun x => h2 (hd2.1 x).2)]
      rw [e]
      exact ih (i + 1) (by omega) (by omega)
    · simp only [if_neg (show ¬ (l[i].length : Int) = (l[0].length : Int) by omega)]
      rw [if_neg (fun x => h (hd2.1 x).1)]
      exact ev_const rfl
theorem plates0_l (l : List (List ByteArray)) (hl : l.length ≤ 1000) (h0 : 0 < l.length) (d : Nat) : ∀ (i : Nat), i ≤ l.length → l.length - i = d → Ev (fun k => impl_platesCode.l0 k l l l.length i) (if AllPlates l i then (if SameLen l l[0].length 0 then 0 else 2) else 1) := by
  induction d with
  | zero =>
    intro i hi hd
    apply ev_succ
    simp only [impl_platesCode.l0, if_neg (show ¬ (i : Int) < (l.length : Int) by omega)]
    rw [if_pos (show AllPlates l i from by unfold AllPlates; rw [List.drop_eq_nil_of_le (by omega)]; simp)]
    exact plates1_l l hl h0 l.length 0 (by omega) (by omega)
  | succ d ih =>
    intro i hi hd
    have hlt : i < l.length := by omega
    apply ev_succ
    simp only [impl_platesCode.l0, if_pos (show (i : Int) < (l.length : Int) by omega), if_pos (show (0 : Int) ≤ (i : Int) by omega), rdL_at _ _ hlt, iplate_val, Option.bind_some, w64 (x := (i : Int) + 1) (by omega) (by omega)]
    have hd2 : AllPlates l i ↔ (PlateOk l[i] ∧ AllPlates l (i + 1)) := by
      unfold AllPlates
      rw [List.drop_eq_getElem_cons hlt, List.forall_mem_cons]
    by_cases h : PlateOk l[i]
    · simp only [decide_eq_true h, if_true]
      have e : (if AllPlates l i then (if SameLen l l[0].length 0 then (0 : Int) else 2) else 1) = if AllPlates l (i + 1) then (if SameLen l l[0].length 0 then 0 else 2) else 1 := by
        by_cases h2 : AllPlates l (i + 1)
        · rw [if_pos h2, if_pos (hd2.2 ⟨h, h2⟩)]
        · rw [if_neg h2, if_neg (fun x => h2 (hd2.1 x).2)]
      rw [e]
      exact ih (i + 1) (by omega) (by omega)
    · simp only [decide_eq_false h, Bool.false_eq_true, if_false]
      rw [if_neg (fun x => h (hd2.1 x).1)]
      exact ev_const rfl
theorem plates_ev (l : List (List ByteArray)) (hl : l.length ≤ 1000) (h0 : 0 < l.length) : Ev (fun k => impl_platesCode.f k l) (if AllPlates l 0 then (if SameLen l l[0].length 0 then 0 else 2) else 1) :=
  plates0_l l hl h0 l.length 0 (by omega) (by omega)

/-- The code of three plates. -/
def threeV (o a b : List ByteArray) : Int := if PlateOk o ∧ PlateOk a ∧ PlateOk b then (if a.length = o.length ∧ b.length = o.length then 0 else 2) else 1
theorem three_impl (o a b : List ByteArray) : Ev (fun k => impl_platesCode.f k [o, a, b]) (threeV o a b) := by
  have hp := plates_ev [o, a, b] (by simp) (by simp)
  have hA : AllPlates [o, a, b] 0 ↔ (PlateOk o ∧ PlateOk a ∧ PlateOk b) := by unfold AllPlates; simp
  have hS : SameLen [o, a, b] ([o, a, b][0]'(by simp)).length 0 ↔ (a.length = o.length ∧ b.length = o.length) := by unfold SameLen; simp
  have e : threeV o a b = if AllPlates [o, a, b] 0 then (if SameLen [o, a, b] ([o, a, b][0]'(by simp)).length 0 then 0 else 2) else 1 := by
    unfold threeV
    simp only [hA, hS]
  rw [e]
  exact hp
theorem three_zero {o a b : List ByteArray} (h : threeV o a b = 0) : (o.length ≤ 12 ∧ a.length = o.length ∧ b.length = o.length) := by
  unfold threeV at h
  by_cases h1 : PlateOk o ∧ PlateOk a ∧ PlateOk b
  · rw [if_pos h1] at h
    by_cases h2 : a.length = o.length ∧ b.length = o.length
    · exact ⟨by have := h1.1.2.2; omega, h2.1, h2.2⟩
    · rw [if_neg h2] at h; omega
  · rw [if_neg h1] at h; omega

/-- Bytes. -/
def Bytes (l : List Int) : Prop := ∀ x ∈ l, 0 ≤ x ∧ x ≤ 255
theorem bytes_of {l : List Int} (h : ∀ x ∈ l, (Lit.int .u8 x).wf = true) : Bytes l := by
  intro x hx
  have := h x hx
  simpa [Lit.wf, IntKind.min, IntKind.max, IntKind.signed, IntKind.bits] using this
theorem rd_nat (l : List Int) (i : Nat) (h : i < l.length) : rd l (i : Int) = l[i] := by
  unfold rd
  rw [Int.toNat_natCast, List.getD_eq_getElem?_getD, List.getElem?_eq_getElem h]
  rfl
theorem rd_bytes {l : List Int} (h : Bytes l) {i : Int} (h0 : 0 ≤ i) (hi : i < (l.length : Int)) : 0 ≤ rd l i ∧ rd l i ≤ 255 := by
  obtain ⟨j, rfl⟩ := Int.eq_ofNat_of_zero_le h0
  rw [rd_nat l j (by omega)]
  exact h _ (List.getElem_mem _)
theorem wrap_u64 (n : Int) : IntKind.u64.wrap n = n % 18446744073709551616 := by simp [IntKind.wrap, IntKind.bits, IntKind.signed]
theorem low_byte {x : Int} (h0 : 0 ≤ x) (h1 : x < 18446744073709551616) : Go.bits .and .u64 x 255 = x % 256 :=
  bits_mask .u64 64 (by decide) (fun n h0 h1 => by rw [wrap_u64]; omega) 8 (by decide) x h0 (by simpa using h1)

theorem next_val {l : List Int} (hB : Bytes l) (hl : l.length ≤ 140737488351232) {a s : Int} (h0 : 0 ≤ a) (h1 : a ≤ 1000000000) : ∃ b s', spec_l00Src_next.f l a s = some (b, a + 1, s') ∧ 0 ≤ b ∧ b ≤ 255 := by
  unfold spec_l00Src_next.f
  rw [w64 (x := a + 1) (by omega) (by omega)]
  have hlow : ∀ z : Int, 0 ≤ wrap64 (Go.bits .and .u64 (IntKind.u64.wrap z / 1099511627776) 255) ∧ wrap64 (Go.bits .and .u64 (IntKind.u64.wrap z / 1099511627776) 255) ≤ 255 := by
    intro z
    rw [wrap_u64, low_byte (by omega) (by omega), w64 (by omega) (by omega)]
    omega
  by_cases h : a < (l.length : Int)
  · have hr := rd_bytes hB h0 h
    rw [if_pos h, if_pos h0, if_pos (by omega), w64 (x := rd l a) (by omega) (by omega)]
    exact ⟨_, _, rfl, hr.1, hr.2⟩
  · rw [if_neg h, if_neg (by omega)]
    exact ⟨_, _, rfl, (hlow _).1, (hlow _).2⟩
theorem pick_val {l : List Int} (hB : Bytes l) (hl : l.length ≤ 140737488351232) {a s : Int} (h0 : 0 ≤ a) (h1 : a ≤ 100000000) (n : Int) : ∃ v a' s', spec_l00Src_pick.f l a s n = some (v, a', s') ∧ a ≤ a' ∧ a' ≤ a + 2 ∧ 0 ≤ v ∧ (1 < n → v < n) ∧ (n ≤ 1 → v = 0) := by
  unfold spec_l00Src_pick.f
  by_cases h : n ≤ 1
  · rw [if_pos h]
    exact ⟨0, a, s, rfl, by omega, by omega, by omega, fun h => by omega, fun _ => rfl⟩
  · rw [if_neg h]
    obtain ⟨b, s1, e1, b0, b1⟩ := next_val hB hl (s := s) h0 (by omega)
    rw [e1]
    simp only [Option.bind_some]
    by_cases hn : n > 200
    · obtain ⟨c, s2, e2, c0, c1⟩ := next_val hB hl (a := a + 1) (s := s1) (by omega) (by omega)
      rw [if_pos hn, e2]
      simp only [Option.bind_some]
      rw [if_neg (by omega), w64 (x := b * 256) (by omega) (by omega), w64 (x := b * 256 + c) (by omega) (by omega), tmod_nn (by omega)]
      exact ⟨_, _, _, rfl, by omega, by omega, Int.emod_nonneg _ (by omega), fun _ => Int.emod_lt_of_pos _ (by omega), fun h2 => absurd h2 h⟩
    · rw [if_neg hn, if_neg (by omega), tmod_nn (by omega)]
      exact ⟨_, _, _, rfl, by omega, by omega, Int.emod_nonneg _ (by omega), fun _ => Int.emod_lt_of_pos _ (by omega), fun h2 => absurd h2 h⟩

theorem one_val {l : List Int} (hB : Bytes l) (hl : l.length ≤ 140737488351232) {a s : Int} (h0 : 0 ≤ a) (h1 : a ≤ 100000000) (n : Int) : ∃ v a' s', spec_l00Src_one.f l a s n = some (v, a', s') ∧ a ≤ a' ∧ a' ≤ a + 2 := by
  obtain ⟨v, a', s', e, h2, h3, _⟩ := pick_val hB hl (s := s) h0 h1 n
  unfold spec_l00Src_one.f
  rw [e]
  exact ⟨_, _, _, rfl, h2, h3⟩

theorem a2Long_val (l m : List Int) : laws_a2Long.f l m = some (decide ((l.length : Int) > 3000 ∨ (m.length : Int) > 3000)) := by
  unfold laws_a2Long.f
  by_cases h : (l.length : Int) > 3000
  · simp [h]
  · simp [h]
theorem text_val {l : List Int} (hB : Bytes l) (hl : l.length ≤ 140737488351232) {a s : Int} (h0 : 0 ≤ a) (h1 : a ≤ 100000000) (m : List ByteArray) (hm : 0 < m.length) : ∃ v a' s', spec_l00Src_text.f l a s m = some (v, a', s') ∧ a ≤ a' ∧ a' ≤ a + 2 ∧ v ∈ m := by
  obtain ⟨v, a', s', e, h2, h3, h4, h5, h6⟩ := pick_val hB hl (s := s) h0 h1 (m.length : Int)
  have hv : v < (m.length : Int) := by
    by_cases h : 1 < (m.length : Int)
    · exact h5 h
    · have := h6 (by omega); omega
  unfold spec_l00Src_text.f
  rw [e]
  simp only [Option.bind_some]
  rw [if_pos h4, if_pos hv]
  obtain ⟨j, rfl⟩ := Int.eq_ofNat_of_zero_le h4
  rw [rdOf_at _ m j (by omega)]
  exact ⟨_, _, _, rfl, h2, h3, List.getElem_mem _⟩
theorem words_engr : ∀ v ∈ ([(⟨#[]⟩ : ByteArray), (⟨#[99, 97, 112, 101, 45, 50]⟩ : ByteArray), (⟨#[98, 97, 121]⟩ : ByteArray), (⟨#[105, 115, 108, 101]⟩ : ByteArray), (⟨#[112, 111, 114, 116]⟩ : ByteArray)] : List ByteArray), Engr v := by
  intro v hv
  simp only [List.mem_cons, List.not_mem_nil, or_false] at hv
  rcases hv with rfl | rfl | rfl | rfl | rfl <;> exact of_decide_eq_true (by decide +kernel)
theorem word_val {l : List Int} (hB : Bytes l) (hl : l.length ≤ 140737488351232) {a s : Int} (h0 : 0 ≤ a) (h1 : a ≤ 100000000) : ∃ v a' s', spec_l13Word2.f l a s = some (v, a', s') ∧ a ≤ a' ∧ a' ≤ a + 2 ∧ Engr v := by
  unfold spec_l13Word2.f
  obtain ⟨v, a', s', e, h2, h3, h4⟩ := text_val hB hl (s := s) h0 h1 ([(⟨#[]⟩ : ByteArray), (⟨#[99, 97, 112, 101, 45, 50]⟩ : ByteArray), (⟨#[98, 97, 121]⟩ : ByteArray), (⟨#[105, 115, 108, 101]⟩ : ByteArray), (⟨#[112, 111, 114, 116]⟩ : ByteArray)] : List ByteArray) (by simp)
  rw [e]
  exact ⟨v, a', s', rfl, h2, h3, words_engr v h4⟩
theorem plate_l {l : List Int} (hB : Bytes l) (hl : l.length ≤ 140737488351232) (c : Nat) : ∀ (out : List ByteArray) (a s : Int), 0 ≤ a → a + 2 * (c : Int) ≤ 100000000 → out.length + c ≤ 1000 → (∀ x ∈ out, Engr x) →
    ∃ res a' s', Ev (fun k => spec_l13Draw.l0 k out (c : Int) l a s) (res, a', s') ∧ res.length = out.length + c ∧ (∀ x ∈ res, Engr x) ∧ a ≤ a' ∧ a' ≤ a + 2 * (c : Int) := by
  induction c with
  | zero =>
    intro out a s h0 h1 hc ho
    refine ⟨out, a, s, ev_succ ?_, rfl, ho, Int.le_refl _, by omega⟩
    simp only [spec_l13Draw.l0, if_neg (show ¬ ((0 : Nat) : Int) > 0 by omega)]
    exact ev_const rfl
  | succ c ih =>
    intro out a s h0 h1 hc ho
    obtain ⟨v, a1, s1, e, h2, h3, h4⟩ := word_val hB hl (s := s) h0 (by omega)
    obtain ⟨res, a2, s2, e2, r1, r2, r3, r4⟩ := ih (out ++ [v]) a1 s1 (by omega) (by omega) (by simp; omega) (by intro x hx; rcases List.mem_append.1 hx with h | h; exact ho x h; rw [List.mem_singleton.1 h]; exact h4)
    refine ⟨res, a2, s2, ev_succ ?_, by rw [r1]; simp; omega, r2, by omega, by omega⟩
    simp only [spec_l13Draw.l0, if_pos (show ((c + 1 : Nat) : Int) > 0 by omega), e, Option.bind_some, if_pos (show out.length < 8796093022208 by omega), w64 (x := ((c + 1 : Nat) : Int) - 1) (by omega) (by omega), show ((c + 1 : Nat) : Int) - 1 = (c : Int) by omega, w64 (x := (c : Int)) (by omega) (by omega)]
    exact e2
theorem three_l {l : List Int} (hB : Bytes l) (hl : l.length ≤ 140737488351232) (o : List ByteArray) (ho : o.length ≤ 1000) (hE : ∀ x ∈ o, Engr x) (d : Nat) : ∀ (x y : List ByteArray) (i : Nat) (a s : Int), i ≤ o.length → o.length - i = d → x.length = i → y.length = i → (∀ z ∈ x, Engr z) → (∀ z ∈ y, Engr z) → 0 ≤ a → a ≤ 10000 + 8 * (i : Int) →
    ∃ X Y, Ev (fun k => spec_A2Plates.l0 k o x y i l a s) (o, X, Y) ∧ X.length = o.length ∧ Y.length = o.length ∧ (∀ z ∈ X, Engr z) ∧ (∀ z ∈ Y, Engr z) := by
  induction d with
  | zero =>
    intro x y i a s hi hd hx hy ex ey h0 h1
    refine ⟨x, y, ev_succ ?_, by omega, by omega, ex, ey⟩
    simp only [spec_A2Plates.l0, if_neg (show ¬ (i : Int) < (o.length : Int) by omega)]
    exact ev_const rfl
  | succ d ih =>
    intro x y i a s hi hd hx hy ex ey h0 h1
    have hlt : i < o.length := by omega
    have app : ∀ (m : List ByteArray) (v : ByteArray), (∀ z ∈ m, Engr z) → Engr v → ∀ z ∈ m ++ [v], Engr z := by
      intro m v hm hv z hz
      rcases List.mem_append.1 hz with h | h
      · exact hm z h
      · rw [List.mem_singleton.1 h]; exact hv
    have second : ∀ (v : ByteArray) (a1 s1 : Int), Engr v → 0 ≤ a1 → a1 ≤ 10000 + 8 * (i : Int) + 4 → ∃ X Y, Ev (fun k => spec_A2Plates.j1 k o x y i v o[i] l a1 s1) (o, X, Y) ∧ X.length = o.length ∧ Y.length = o.length ∧ (∀ z ∈ X, Engr z) ∧ (∀ z ∈ Y, Engr z) := by
      intro v a1 s1 hv h2 h3
      obtain ⟨t, a2, s2, e, h4, h5⟩ := one_val hB hl (s := s1) h2 (by omega) 3
      cases t with
      | true =>
        obtain ⟨w, a3, s3, e3, h6, h7, h8⟩ := word_val hB hl (a := a2) (s := s2) (by omega) (by omega)
        obtain ⟨X, Y, e4, q⟩ := ih (x ++ [v]) (y ++ [w]) (i + 1) a3 s3 (by omega) (by omega) (by simp; omega) (by simp; omega) (app x v ex hv) (app y w ey h8) (by omega) (by omega)
        refine ⟨X, Y, ev_succ ?_, q⟩
        simp only [spec_A2Plates.j1, e, e3, Option.bind_some, if_true, if_pos (show x.length < 8796093022208 by omega), if_pos (show y.length < 8796093022208 by omega), w64 (x := (i : Int) + 1) (by omega) (by omega)]
        exact e4
      | false =>
        obtain ⟨X, Y, e4, q⟩ := ih (x ++ [v]) (y ++ [o[i]]) (i + 1) a2 s2 (by omega) (by omega) (by simp; omega) (by simp; omega) (app x v ex hv) (app y _ ey (hE _ (List.getElem_mem hlt))) (by omega) (by omega)
        refine ⟨X, Y, ev_succ ?_, q⟩
        simp only [spec_A2Plates.j1, e, Option.bind_some, Bool.false_eq_true, if_false, if_pos (show x.length < 8796093022208 by omega), if_pos (show y.length < 8796093022208 by omega), w64 (x := (i : Int) + 1) (by omega) (by omega)]
        exact e4
    obtain ⟨t, a1, s1, e, h4, h5⟩ := one_val hB hl (s := s) h0 (by omega) 3
    cases t with
    | true =>
      obtain ⟨w, a2, s2, e2, h6, h7, h8⟩ := word_val hB hl (a := a1) (s := s1) (by omega) (by omega)
      obtain ⟨X, Y, e4, q⟩ := second w a2 s2 h8 (by omega) (by omega)
      refine ⟨X, Y, ev_succ ?_, q⟩
      simp only [spec_A2Plates.l0, if_pos (show (i : Int) < (o.length : Int) by omega), if_pos (show (0 : Int) ≤ (i : Int) by omega), rdOf_at _ _ _ hlt, e, e2, Option.bind_some, if_true]
      exact e4
    | false =>
      obtain ⟨X, Y, e4, q⟩ := second o[i] a1 s1 (hE _ (List.getElem_mem hlt)) (by omega) (by omega)
      refine ⟨X, Y, ev_succ ?_, q⟩
      simp only [spec_A2Plates.l0, if_pos (show (i : Int) < (o.length : Int) by omega), if_pos (show (0 : Int) ≤ (i : Int) by omega), rdOf_at _ _ _ hlt, e, Option.bind_some, Bool.false_eq_true, if_false]
      exact e4
theorem plates_drawn {l : List Int} (hB : Bytes l) (hl : l.length ≤ 140737488351232) : ∃ o a b, Ev (fun k => spec_A2Plates.f k l) (o, a, b) ∧ threeV o a b = 0 := by
  obtain ⟨c, a1, s1, e, h2, h3, h4, h5, _⟩ := pick_val hB hl (a := 0) (s := 0) (by omega) (by omega) 6
  obtain ⟨cn, rfl⟩ := Int.eq_ofNat_of_zero_le h4
  have hc := h5 (by omega)
  obtain ⟨o, a2, s2, e2, r1, r2, r3, r4⟩ := plate_l hB hl (1 + cn) [] a1 s1 (by omega) (by omega) (by simp; omega) (by simp)
  obtain ⟨a, b, e3, q1, q2, q3, q4⟩ := three_l hB hl o (by simp at r1; omega) r2 o.length [] [] 0 a2 s2 (by omega) (by omega) rfl rfl (by simp) (by simp) (by omega) (by omega)
  refine ⟨o, a, b, ?_, ?_⟩
  · unfold spec_A2Plates.f spec_l00From.f spec_l13Draw.f
    simp only [Option.bind_some, e, w64 (x := 1 + (cn : Int)) (by omega) (by omega)]
    have e2' : Ev (fun k => spec_l13Draw.l0 k [] (1 + (cn : Int)) l a1 s1) (o, a2, s2) := by
      have := e2
      rw [show ((1 + cn : Nat) : Int) = 1 + (cn : Int) by omega] at this
      exact this
    exact Ev.bind e2' e3
  · simp only [List.length_nil, Nat.zero_add] at r1
    unfold threeV
    have po : PlateOk o := ⟨r2, by omega, by omega⟩
    have pa : PlateOk a := ⟨q3, by omega, by omega⟩
    have pb : PlateOk b := ⟨q4, by omega, by omega⟩
    rw [if_pos ⟨po, pa, pb⟩, if_pos ⟨q1, q2⟩]
/-- What stands at a place. -/
abbrev pt (l : List ByteArray) (j : Nat) : List UInt8 := (rdOf ByteArray.empty l (j : Int)).toList
def confAt (o a b : List ByteArray) (j : Nat) : Bool := !decide (pt a j = pt b j) && !decide (pt a j = pt o j) && !decide (pt b j = pt o j)
def confL (o a b : List ByteArray) : List Int := ((List.range o.length).filter (confAt o a b)).map (fun j : Nat => (j : Int))
theorem confAt_sym (o a b : List ByteArray) (j : Nat) : confAt o a b j = confAt o b a j := by
  unfold confAt
  rw [decide_eq_decide.2 (show pt a j = pt b j ↔ pt b j = pt a j from ⟨Eq.symm, Eq.symm⟩), Bool.and_assoc, Bool.and_assoc, Bool.and_comm (!decide (pt a j = pt o j))]
theorem confL_sym (o a b : List ByteArray) : confL o a b = confL o b a := by
  unfold confL
  rw [show confAt o a b = confAt o b a from funext (confAt_sym o a b)]
theorem confv_l (o a b : List ByteArray) (hl : o.length ≤ 12) (ha : a.length = o.length) (hb : b.length = o.length) (d : Nat) : ∀ (out : List Int) (i : Nat), i ≤ o.length → o.length - i = d → out.length ≤ i →
    Ev (fun k => impl_conflictsOf.l0 k o a b out o.length i) (out ++ ((List.range' i d).filter (confAt o a b)).map (fun j : Nat => (j : Int))) := by
  induction d with
  | zero =>
    intro out i hi hd ho
    apply ev_succ
    simp only [impl_conflictsOf.l0, if_neg (show ¬ (i : Int) < (o.length : Int) by omega)]
    exact ev_const (by simp)
  | succ d ih =>
    intro out i hi hd ho
    have h0 : i < o.length := by omega
    have e1 := ih out (i + 1) (by omega) (by omega) (by omega)
    have e2 := ih (out ++ [(i : Int)]) (i + 1) (by omega) (by omega) (by simp; omega)
    rw [List.range'_succ, List.filter_cons]
    apply ev_succ
    simp only [impl_conflictsOf.l0, if_pos (show (i : Int) < (o.length : Int) by omega), if_pos (show (i : Int) < (a.length : Int) by omega), if_pos (show (i : Int) < (b.length : Int) by omega), if_pos (show (0 : Int) ≤ (i : Int) by omega), if_pos (show out.length < 17592186044416 by omega), w64 (x := (i : Int) + 1) (by omega) (by omega)]
    by_cases c1 : pt a i = pt b i
    · rw [show confAt o a b i = false by unfold confAt; simp [c1]]
      simp only [if_pos c1, Bool.false_eq_true, if_false]
      exact e1
    · by_cases c2 : pt a i = pt o i
      · rw [show confAt o a b i = false by unfold confAt; simp [c2]]
        simp only [if_neg c1, if_pos c2, Bool.false_eq_true, if_false]
        exact e1
      · by_cases c3 : pt b i = pt o i
        · rw [show confAt o a b i = false by unfold confAt; simp [c3]]
          simp only [if_neg c1, if_neg c2, if_pos c3, Bool.false_eq_true, if_false]
          exact e1
        · rw [show confAt o a b i = true by unfold confAt; simp [c1, c2, c3]]
          simp only [if_neg c1, if_neg c2, if_neg c3, if_true, List.map_cons]
          rw [List.append_assoc] at e2
          exact e2
theorem confv (o a b : List ByteArray) (hl : o.length ≤ 12) (ha : a.length = o.length) (hb : b.length = o.length) : Ev (fun k => impl_conflictsOf.f k o a b) (confL o a b) := by
  have h := confv_l o a b hl ha hb o.length [] 0 (by omega) (by omega) (by simp)
  unfold confL
  rw [List.range_eq_range']
  exact h
theorem confL_asc (o a b : List ByteArray) : (confL o a b).Pairwise (· < ·) ∧ ∀ x ∈ confL o a b, 0 ≤ x ∧ x < (o.length : Int) := by
  unfold confL
  constructor
  · rw [List.pairwise_map]
    refine ((List.pairwise_lt_range (n := o.length)).filter _).imp ?_
    intro x y h
    omega
  · intro x hx
    obtain ⟨j, hj, rfl⟩ := List.mem_map.1 hx
    have := List.mem_range.1 (List.mem_filter.1 hj).1
    omega
theorem rdI_at (l : List Int) (i : Nat) (h : i < l.length) : rd l (i : Int) = l[i] := rd_nat l i h
theorem rises_l (l : List Int) (hl : l.length ≤ 1000) (n : Int) (hp : l.Pairwise (· < ·)) (hb : ∀ x ∈ l, 0 ≤ x ∧ x < n) (d : Nat) : ∀ (i : Nat), i ≤ l.length → l.length - i = d → Ev (fun k => laws_a2Rises.l0 k l n i) true := by
  induction d with
  | zero =>
    intro i hi hd
    apply ev_succ
    simp only [laws_a2Rises.l0, if_neg (show ¬ (i : Int) < (l.length : Int) by omega)]
    exact ev_const rfl
  | succ d ih =>
    intro i hi hd
    have hlt : i < l.length := by omega
    have hx := hb _ (List.getElem_mem hlt)
    have h1 := ih (i + 1) (by omega) (by omega)
    apply ev_succ
    by_cases c : i = 0
    · simp only [laws_a2Rises.l0, if_pos (show (i : Int) < (l.length : Int) by omega), if_pos (show (0 : Int) ≤ (i : Int) by omega), rdI_at _ _ hlt, if_neg (show ¬ l[i] < 0 by omega), if_neg (show ¬ l[i] ≥ n by omega), if_neg (show ¬ (i : Int) > 0 by omega), w64 (x := (i : Int) + 1) (by omega) (by omega)]
      exact h1
    · have hm : i - 1 < l.length := by omega
      have hr : rd l ((i : Int) - 1) = l[i - 1] := by rw [show (i : Int) - 1 = ((i - 1 : Nat) : Int) by omega]; exact rdI_at _ _ hm
      have hlt2 : l[i - 1] < l[i] := List.pairwise_iff_getElem.1 hp (i - 1) i hm hlt (by omega)
      simp only [laws_a2Rises.l0, if_pos (show (i : Int) < (l.length : Int) by omega), if_pos (show (0 : Int) ≤ (i : Int) by omega), rdI_at _ _ hlt, if_neg (show ¬ l[i] < 0 by omega), if_neg (show ¬ l[i] ≥ n by omega), if_pos (show (i : Int) > 0 by omega), w64 (x := (i : Int) - 1) (by omega) (by omega), if_pos (show (0 : Int) ≤ (i : Int) - 1 by omega), if_pos (show (i : Int) - 1 < (l.length : Int) by omega), hr, if_neg (show ¬ l[i - 1] ≥ l[i] by omega), w64 (x := (i : Int) + 1) (by omega) (by omega)]
      exact h1
theorem same_l (l : List Int) (hl : l.length ≤ 1000) (d : Nat) : ∀ (i : Nat), i ≤ l.length → l.length - i = d → Ev (fun k => laws_a2Same.l0 k l l i) true := by
  induction d with
  | zero =>
    intro i hi hd
    apply ev_succ
    simp only [laws_a2Same.l0, if_neg (show ¬ (i : Int) < (l.length : Int) by omega)]
    exact ev_const rfl
  | succ d ih =>
    intro i hi hd
    have h1 := ih (i + 1) (by omega) (by omega)
    apply ev_succ
    simp only [laws_a2Same.l0, if_pos (show (i : Int) < (l.length : Int) by omega), if_pos (show (0 : Int) ≤ (i : Int) by omega), if_true, w64 (x := (i : Int) + 1) (by omega) (by omega)]
    exact h1
theorem plateSame_l (x y : List ByteArray) (hl : x.length ≤ 1000) (hy : y.length = x.length) (h : ∀ j, j < x.length → pt x j = pt y j) (d : Nat) : ∀ (i : Nat), i ≤ x.length → x.length - i = d → Ev (fun k => spec_SamePlate.l0 k x y i) true := by
  induction d with
  | zero =>
    intro i hi hd
    apply ev_succ
    simp only [spec_SamePlate.l0, if_neg (show ¬ (i : Int) < (x.length : Int) by omega)]
    exact ev_const rfl
  | succ d ih =>
    intro i hi hd
    have h1 := ih (i + 1) (by omega) (by omega)
    apply ev_succ
    simp only [spec_SamePlate.l0, if_pos (show (i : Int) < (x.length : Int) by omega), if_pos (show (i : Int) < (y.length : Int) by omega), if_pos (show (0 : Int) ≤ (i : Int) by omega), if_pos (h i (by omega)), w64 (x := (i : Int) + 1) (by omega) (by omega)]
    exact h1
theorem pt_set (l : List ByteArray) (i j : Nat) (hj : j < l.length) (v : ByteArray) : pt (l.set i v) j = if i = j then v.toList else pt l j := by
  unfold pt
  rw [rdOf_at _ _ _ (show j < (l.set i v).length by simpa using hj), List.getElem_set, rdOf_at _ _ _ hj]
  split <;> rfl
theorem mergev_l (o a b : List ByteArray) (hl : o.length ≤ 12) (ha : a.length = o.length) (hb : b.length = o.length) (d : Nat) : ∀ (out : List ByteArray) (i : Nat), i ≤ o.length → o.length - i = d → out.length = o.length →
    ∃ res, Ev (fun k => impl_MergePlates.l0 k o a b out o.length i) (res, 0) ∧ res.length = o.length ∧ ∀ j, j < o.length → pt res j = if i ≤ j ∧ pt a j = pt o j then pt b j else pt out j := by
  induction d with
  | zero =>
    intro out i hi hd ho
    refine ⟨out, ev_succ ?_, ho, fun j hj => by rw [if_neg (fun h => by omega)]⟩
    simp only [impl_MergePlates.l0, if_neg (show ¬ (i : Int) < (o.length : Int) by omega)]
    exact ev_const rfl
  | succ d ih =>
    intro out i hi hd ho
    by_cases c : pt a i = pt o i
    · obtain ⟨res, e, h1, h2⟩ := ih (out.set i (rdOf ByteArray.empty b (i : Int))) (i + 1) (by omega) (by omega) (by simpa using ho)
      refine ⟨res, ev_succ ?_, h1, ?_⟩
      · simp only [impl_MergePlates.l0, if_pos (show (i : Int) < (o.length : Int) by omega), if_pos (show (i : Int) < (a.length : Int) by omega), if_pos (show (i : Int) < (b.length : Int) by omega), if_pos (show (i : Int) < (out.length : Int) by omega), if_pos (show (0 : Int) ≤ (i : Int) by omega), if_pos c, Int.toNat_natCast, w64 (x := (i : Int) + 1) (by omega) (by omega)]
        exact e
      · intro j hj
        rw [h2 j hj, pt_set _ _ _ (by omega)]
        by_cases e1 : i = j
        · subst e1
          rw [if_neg (fun h => by omega), if_pos rfl, if_pos ⟨Nat.le_refl _, c⟩]
        · by_cases e2 : i ≤ j ∧ pt a j = pt o j
          · rw [if_pos e2, if_pos ⟨by omega, e2.2⟩]
          · rw [if_neg e2, if_neg (fun h => e2 ⟨by omega, h.2⟩), if_neg e1]
    · obtain ⟨res, e, h1, h2⟩ := ih out (i + 1) (by omega) (by omega) ho
      refine ⟨res, ev_succ ?_, h1, ?_⟩
      · simp only [impl_MergePlates.l0, if_pos (show (i : Int) < (o.length : Int) by omega), if_pos (show (i : Int) < (a.length : Int) by omega), if_pos (show (0 : Int) ≤ (i : Int) by omega), if_neg c, w64 (x := (i : Int) + 1) (by omega) (by omega)]
        exact e
      · intro j hj
        rw [h2 j hj]
        by_cases e2 : i ≤ j ∧ pt a j = pt o j
        · have e1 : i ≠ j := by intro h; subst h; exact c e2.2
          rw [if_pos e2, if_pos ⟨by omega, e2.2⟩]
        · rw [if_neg e2, if_neg (fun h => e2 ⟨by omega, h.2⟩)]
theorem threeV_sym {o a b : List ByteArray} (h : threeV o a b = 0) : threeV o b a = 0 := by
  unfold threeV at h ⊢
  by_cases h1 : PlateOk o ∧ PlateOk a ∧ PlateOk b
  · rw [if_pos h1] at h
    by_cases h2 : a.length = o.length ∧ b.length = o.length
    · rw [if_pos ⟨h1.1, h1.2.2, h1.2.1⟩, if_pos ⟨h2.2, h2.1⟩]
    · rw [if_neg h2] at h; omega
  · rw [if_neg h1] at h; omega
theorem conflicts_v (o a b : List ByteArray) (h : threeV o a b = 0) : Ev (fun k => impl_ConflictsOf.f k o a b) (confL o a b, 0) := by
  obtain ⟨z1, z2, z3⟩ := three_zero h
  have h2 := three_impl o a b
  rw [h] at h2
  unfold impl_ConflictsOf.f
  refine Ev.bind h2 ?_
  simp only [if_true]
  exact Ev.bind (confv o a b z1 z2 z3) (ev_const rfl)
/-- Merging: a clash, or each place of the one plate or of the other. -/
theorem merge_v (o a b : List ByteArray) (h : threeV o a b = 0) : ∃ res c, Ev (fun k => impl_MergePlates.f k o a b) (res, c) ∧ (((confL o a b).length : Int) > 0 → c = 9) ∧ (¬ ((confL o a b).length : Int) > 0 → c = 0 ∧ res.length = o.length ∧ ∀ j, j < o.length → pt res j = if pt a j = pt o j then pt b j else pt a j) := by
  obtain ⟨z1, z2, z3⟩ := three_zero h
  have h2 := three_impl o a b
  rw [h] at h2
  by_cases hc : ((confL o a b).length : Int) > 0
  · refine ⟨[], 9, ?_, fun _ => rfl, fun hn => absurd hc hn⟩
    unfold impl_MergePlates.f
    refine Ev.bind h2 ?_
    simp only [if_true]
    refine Ev.bind (confv o a b z1 z2 z3) ?_
    simp only [if_pos hc]
    exact ev_const rfl
  · obtain ⟨res, e, r1, r2⟩ := mergev_l o a b z1 z2 z3 o.length a 0 (by omega) (by omega) z2
    refine ⟨res, 0, ?_, fun hp => absurd hp hc, fun _ => ⟨rfl, r1, fun j hj => ?_⟩⟩
    · unfold impl_MergePlates.f
      refine Ev.bind h2 ?_
      simp only [if_true]
      refine Ev.bind (confv o a b z1 z2 z3) ?_
      simp only [if_neg hc, slices_Clone_string_string.f, if_pos (show a.length < 8796093022208 by omega), Option.bind_some]
      exact e
    · rw [r2 j hj]
      by_cases c : pt a j = pt o j
      · rw [if_pos ⟨by omega, c⟩, if_pos c]
      · rw [if_neg (fun h => c h.2), if_neg c]
theorem check_l (o a b x : List ByteArray) (hl : o.length ≤ 12) (ha : a.length = o.length) (hb : b.length = o.length) (hx : x.length = o.length) (hn : ∀ j, j < o.length → (pt a j = pt b j ∨ pt a j = pt o j ∨ pt b j = pt o j)) (hr : ∀ j, j < o.length → pt x j = if pt a j = pt o j then pt b j else pt a j) (d : Nat) :
    ∀ (i : Nat), i ≤ o.length → o.length - i = d → Ev (fun k => laws_FnMerges.l0 k o a b x i) true := by
  induction d with
  | zero =>
    intro i hi hd
    apply ev_succ
    simp only [laws_FnMerges.l0, if_neg (show ¬ (i : Int) < (o.length : Int) by omega)]
    exact ev_const rfl
  | succ d ih =>
    intro i hi hd
    have h1 := ih (i + 1) (by omega) (by omega)
    have h2 := hn i (by omega)
    have h3 := hr i (by omega)
    apply ev_succ
    simp only [laws_FnMerges.l0, if_pos (show (i : Int) < (o.length : Int) by omega), if_pos (show (i : Int) < (a.length : Int) by omega), if_pos (show (i : Int) < (b.length : Int) by omega), if_pos (show (i : Int) < (x.length : Int) by omega), if_pos (show (0 : Int) ≤ (i : Int) by omega), w64 (x := (i : Int) + 1) (by omega) (by omega)]
    by_cases c1 : pt a i = pt o i
    · rw [if_pos c1] at h3
      simp only [if_pos c1]
      by_cases c2 : pt b i = pt o i
      · simp only [if_pos c2, if_pos (show pt x i = pt o i from h3.trans c2)]
        exact h1
      · simp only [if_neg c2, if_pos (show pt x i = pt b i from h3)]
        exact h1
    · rw [if_neg c1] at h3
      simp only [if_neg c1, if_pos (show pt x i = pt a i from h3)]
      by_cases c2 : pt b i = pt o i
      · simp only [if_pos c2]
        exact h1
      · have c3 : pt a i = pt b i := by rcases h2 with h | h | h; exact h; exact absurd h c1; exact absurd h c2
        simp only [if_neg c2, if_pos (show pt x i = pt b i from h3.trans c3)]
        exact h1
theorem FnMerges : laws_FnMerges.Pure := by
  intro l hl hw
  apply Ev.rounds
  unfold laws_FnMerges.f
  simp only [a2Long_val, Option.bind_some]
  by_cases hbig : (l.length : Int) > 3000 ∨ (([] : List Int).length : Int) > 3000
  · simp only [decide_eq_true hbig, if_true]
    exact ev_const rfl
  simp only [decide_eq_false hbig, Bool.false_eq_true, if_false]
  have hl3 : l.length ≤ 140737488351232 := by
    have : ¬ (l.length : Int) > 3000 := fun h => hbig (.inl h)
    omega
  obtain ⟨o, a, b, e0, hz⟩ := plates_drawn (bytes_of hw) hl3
  obtain ⟨z1, z2, z3⟩ := three_zero hz
  have hz2 := threeV_sym hz
  have k1 := conflicts_v o a b hz
  have k2 := conflicts_v o b a hz2
  obtain ⟨x, c, m1, p1, p2⟩ := merge_v o a b hz
  obtain ⟨y, c2, m2, q1, q2⟩ := merge_v o b a hz2
  rw [confL_sym o b a] at k2 q1 q2
  obtain ⟨asc, bnd⟩ := confL_asc o a b
  have hcl : (confL o a b).length ≤ 1000 := by
    have h1 : (confL o a b).length ≤ o.length := by
      unfold confL
      rw [List.length_map]
      exact Nat.le_trans (List.length_filter_le _ _) (by simp)
    omega
  have r1 : Ev (fun k => laws_a2Rises.f k (confL o a b) (o.length : Int)) true := rises_l _ hcl _ asc bnd _ 0 (by omega) rfl
  have r2 : Ev (fun k => laws_a2Same.f k (confL o a b) (confL o a b)) true := by
    unfold laws_a2Same.f
    simp only [if_true]
    exact same_l _ hcl _ 0 (by omega) rfl
  refine Ev.bind e0 (Ev.bind k1 (Ev.bind k2 (Ev.bind m1 (Ev.bind m2 ?_))))
  simp only [if_true]
  refine Ev.bind r1 ?_
  simp only [if_true]
  refine Ev.bind r2 ?_
  simp only [if_true]
  by_cases hc : ((confL o a b).length : Int) > 0
  · have e1 := p1 hc
    have e2 := q1 hc
    subst e1
    subst e2
    simp only [if_true, decide_eq_true hc, beq_self_eq_true, bne_self_eq_false]
    refine ev_succ ?_
    simp only [laws_FnMerges.j0, Bool.false_eq_true, if_false, if_neg (show ¬ (9 : Int) = 0 by omega)]
    exact ev_const rfl
  · obtain ⟨rfl, x1, x2⟩ := p2 hc
    obtain ⟨rfl, y1, y2⟩ := q2 hc
    have hno : ∀ j, j < o.length → (pt a j = pt b j ∨ pt a j = pt o j ∨ pt b j = pt o j) := by
      intro j hj
      have hnil : confL o a b = [] := List.length_eq_zero_iff.1 (by omega)
      unfold confL at hnil
      rw [List.map_eq_nil_iff, List.filter_eq_nil_iff] at hnil
      have := hnil j (List.mem_range.2 hj)
      unfold confAt at this
      by_cases c1 : pt a j = pt b j
      · exact .inl c1
      · by_cases c2 : pt a j = pt o j
        · exact .inr (.inl c2)
        · by_cases c3 : pt b j = pt o j
          · exact .inr (.inr c3)
          · exact absurd (by simp [c1, c2, c3]) this
    have hs : Ev (fun k => spec_SamePlate.f k x y) true := by
      unfold spec_SamePlate.f
      simp only [if_pos (show (x.length : Int) = (y.length : Int) by omega)]
      refine plateSame_l x y (by omega) (by omega) (fun j hj => ?_) x.length 0 (by omega) (by omega)
      rw [x2 j (by omega), y2 j (by omega)]
      have h2 := hno j (by omega)
      by_cases c1 : pt a j = pt o j
      · rw [if_pos c1]
        by_cases c2 : pt b j = pt o j
        · rw [if_pos c2]; exact c2.trans c1.symm
        · rw [if_neg c2]
      · rw [if_neg c1]
        by_cases c2 : pt b j = pt o j
        · rw [if_pos c2]
        · rw [if_neg c2]
          rcases h2 with h | h | h
          · exact h
          · exact absurd h c1
          · exact absurd h c2
    simp only [if_true, decide_eq_false hc, show ((0 : Int) == 9) = false from rfl, bne_self_eq_false]
    refine ev_succ ?_
    simp only [laws_FnMerges.j0, Bool.false_eq_true, if_false, if_true]
    refine Ev.bind hs ?_
    simp only [if_true, show ((x.length : Int) != (o.length : Int)) = false from by rw [x1]; exact bne_self_eq_false _]
    refine ev_succ ?_
    simp only [laws_FnMerges.j1, Bool.false_eq_true, if_false]
    exact check_l o a b x z1 z2 z3 x1 hno x2 o.length 0 (by omega) (by omega)

end Go.Proofs.YtgeeojchgfomjaaDoor.Pure
