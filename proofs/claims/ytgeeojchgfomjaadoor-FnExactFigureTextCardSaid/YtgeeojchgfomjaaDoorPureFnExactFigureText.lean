/- FnExactFigureText: the program's FigureText and the reference's come to the same text, for all lists of stars and of lines. -/
import Derived.Test.YtgeeojchgfomjaaDoorStatFnExactFigureText
namespace Go.Proofs.YtgeeojchgfomjaaDoor.Pure
open Go.RowKit Go.Proofs.YtgeeojchgfomjaaDoor.PFnExactFigureText Go.Proofs.YtgeeojchgfomjaaDoorW.PrintWords Go.Proofs.YtgeeojchgfomjaaDoorW.PrintLast Go.Proofs.YtgeeojchgfomjaaDoorW.PrintMore
set_option linter.unusedVariables false
set_option linter.unusedSimpArgs false
theorem wfb {a : Int} (h : (Lit.int .i64 a).wf = true) : -9223372036854775808 ≤ a ∧ a ≤ 9223372036854775807 := by
  simpa [Lit.wf, IntKind.min, IntKind.max, IntKind.signed, IntKind.bits] using h
theorem w64 {x : Int} (h : -9223372036854775808 ≤ x) (h2 : x ≤ 9223372036854775807) : wrap64 x = x := by unfold wrap64; omega
theorem tdiv_nn {a b : Int} (h : 0 ≤ a) : Int.tdiv a b = a / b := Int.tdiv_eq_ediv_of_nonneg h
theorem tmod_nn {a b : Int} (h : 0 ≤ a) : Int.tmod a b = a % b := Int.tmod_eq_emod_of_nonneg h
theorem floor_val (a b : Int) (hb : 0 < b) : (if Int.tmod a b < 0 then Int.tdiv a b - 1 else Int.tdiv a b) = a / b := by
  have h1 := Int.mul_tdiv_add_tmod a b
  have hlt : Int.tmod a b < b := Int.tmod_lt_of_pos a hb
  have hgt : -b < Int.tmod a b := by
    have h2 := Int.tmod_lt_of_pos (-a) hb
    rw [Int.neg_tmod] at h2
    omega
  symm
  split
  · rename_i hneg
    refine ((Int.ediv_emod_unique hb (r := Int.tmod a b + b)).2 ⟨?_, by omega, by omega⟩).1
    rw [Int.mul_sub, Int.mul_one]
    omega
  · rename_i hneg
    exact ((Int.ediv_emod_unique hb (r := Int.tmod a b)).2 ⟨by omega, by omega, by omega⟩).1
theorem ediv_bd {a b : Int} (hb : 0 < b) (B : Int) (h0 : -B ≤ a) (h1 : a ≤ B) (hB : 0 ≤ B) : -B ≤ a / b ∧ a / b ≤ B := by
  constructor
  · rw [Int.le_ediv_iff_mul_le hb]
    have : B * 1 ≤ B * b := Int.mul_le_mul_of_nonneg_left (by omega) hB
    rw [Int.neg_mul]; omega
  · have h2 : a / b ≤ B / b := Int.ediv_le_ediv hb h1
    have h3 : B / b ≤ B := Int.ediv_le_self b hB
    omega
theorem ceil_alt (a b : Int) (hb : 0 < b) : (a + b - 1) / b = -((-a) / b) := by
  have h1 := Int.mul_ediv_add_emod (-a) b
  have h2 := Int.emod_nonneg (-a) (b := b) (by omega)
  have h3 := Int.emod_lt_of_pos (-a) hb
  refine ((Int.ediv_emod_unique hb (r := b - 1 - (-a) % b)).2 ⟨?_, by omega, by omega⟩).1
  rw [Int.mul_neg]
  omega

theorem ev_succ {α : Type} {g : Nat → Option α} {r : α} (h : Ev (fun k => g (k + 1)) r) : Ev g r := Ev.step (fun _ => rfl) h
theorem ev_const {α : Type} {g : Option α} {r : α} (h : g = some r) : Ev (fun _ => g) r := ⟨0, fun _ _ => h⟩
theorem ev_uniq {α : Type} {g : Nat → Option α} {a b : α} (h : Ev g a) (h' : Ev g b) : a = b := by
  obtain ⟨K, h⟩ := h
  obtain ⟨K', h'⟩ := h'
  have h1 := h (K + K') (by omega)
  rw [h' (K + K') (by omega)] at h1
  exact (Option.some.inj h1).symm

theorem toList_inj {a b : ByteArray} : a.toList = b.toList ↔ a = b := by
  constructor
  · intro h
    rw [ByteArray.toList_eq, ByteArray.toList_eq] at h
    obtain ⟨⟨x⟩⟩ := a
    obtain ⟨⟨y⟩⟩ := b
    simp at h
    rw [h]
  · intro h; rw [h]
def sizes (l : List ByteArray) : Int := (l.map (fun s => (s.size : Int))).sum
theorem sizes_cons (s : ByteArray) (l : List ByteArray) : sizes (s :: l) = s.size + sizes l := by simp [sizes]
theorem sizes_nn (l : List ByteArray) : 0 ≤ sizes l := by
  induction l with
  | nil => simp [sizes]
  | cons s l ih => rw [sizes_cons]; omega
theorem sizes_drop (l : List ByteArray) (i : Nat) (h : i < l.length) : sizes (l.drop i) = (l[i]).size + sizes (l.drop (i + 1)) := by
  rw [List.drop_eq_getElem_cons h, sizes_cons]
theorem rdOf_at (d : ByteArray) (l : List ByteArray) (i : Nat) (h : i < l.length) : rdOf d l (i : Int) = l[i] := by
  unfold rdOf
  rw [Int.toNat_natCast, List.getD_eq_getElem?_getD, List.getElem?_eq_getElem h]
  rfl

/-- A byte that a name may have. -/
def nameC (c : Int) : Prop := ((97 : Int) ≤ c ∧ c ≤ 122) ∨ ((48 : Int) ≤ c ∧ c ≤ 57) ∨ c = 45
instance instNameC (c : Int) : Decidable (nameC c) := by unfold nameC; infer_instance
/-- A name. -/
def IsNm (s : ByteArray) : Prop := 1 ≤ s.size ∧ s.size ≤ 12 ∧ ((97 : Int) ≤ bt s 0 ∧ bt s 0 ≤ 122) ∧ ∀ i, i < s.size → nameC (bt s (i : Int))
instance instIsNm (s : ByteArray) : Decidable (IsNm s) := by unfold IsNm; infer_instance
theorem toList_nil (s : ByteArray) : s.toList = ([] : List UInt8) ↔ s.size = 0 := by
  rw [ByteArray.toList_eq]
  obtain ⟨⟨x⟩⟩ := s
  show x = [] ↔ x.length = 0
  rw [List.length_eq_zero_iff]
theorem bt_at (s : ByteArray) (i : Nat) (h : i < s.size) : bt s (i : Int) = ((s.data.toList[i]'(by simpa using h)).toNat : Int) := by
  unfold bt
  rw [dif_pos (by simpa using h)]
  rfl
open Classical in
theorem snm_l (s : ByteArray) (hs : s.size ≤ 12) (d : Nat) : ∀ (i : Nat), i ≤ s.size → s.size - i = d → Ev (fun k => spec_IsName.l0 k s i) (decide (∀ j, i ≤ j → j < s.size → nameC (bt s (j : Int)))) := by
  induction d with
  | zero =>
    intro i hi hd
    apply ev_succ
    simp only [spec_IsName.l0, if_neg (show ¬ (i : Int) < (s.size : Int) by omega)]
    refine ev_const ?_
    congr 1
    symm
    rw [decide_eq_true_iff]
    intro j h1 h2; omega
  | succ d ih =>
    intro i hi hd
    have hlt : i < s.size := by omega
    have hih := ih (i + 1) (by omega) (by omega)
    have step : nameC (bt s (i : Int)) → (decide (∀ j, i ≤ j → j < s.size → nameC (bt s (j : Int)))) = decide (∀ j, i + 1 ≤ j → j < s.size → nameC (bt s (j : Int))) := by
      intro hc
      rw [decide_eq_decide]
      constructor
      · intro h j h1 h2; exact h j (by omega) h2
      · intro h j h1 h2
        by_cases e : j = i
        · subst e; exact hc
        · exact h j (by omega) h2
    apply ev_succ
    simp only [spec_IsName.l0, spec_l01Small.f, spec_l01Digit.f, if_pos (show (i : Int) < (s.size : Int) by omega), if_pos (show (0 : Int) ≤ (i : Int) by omega), w64 (x := (i : Int) + 1) (by omega) (by omega)]
    by_cases h1 : 97 ≤ bt s (i : Int) ∧ bt s (i : Int) ≤ 122
    · simp only [ge_iff_le, if_pos h1.1, Option.bind_some, decide_eq_true h1.2, if_true]
      rw [step (.inl h1)]
      exact hih
    · have e1 : (if bt s (i : Int) ≥ 97 then some (decide (bt s (i : Int) ≤ 122)) else some false) = some false := by
        by_cases h : bt s (i : Int) ≥ 97
        · rw [if_pos h, decide_eq_false (fun h2 => h1 ⟨h, h2⟩)]
        · rw [if_neg h]
      simp only [e1, Option.bind_some, Bool.false_eq_true, if_false]
      by_cases h2 : 48 ≤ bt s (i : Int) ∧ bt s (i : Int) ≤ 57
      · simp only [ge_iff_le, if_pos h2.1, Option.bind_some, decide_eq_true h2.2, if_true]
        rw [step (.inr (.inl h2))]
        exact hih
      · have e2 : (if bt s (i : Int) ≥ 48 then some (decide (bt s (i : Int) ≤ 57)) else some false) = some false := by
          by_cases h : bt s (i : Int) ≥ 48
          · rw [if_pos h, decide_eq_false (fun h3 => h2 ⟨h, h3⟩)]
          · rw [if_neg h]
        simp only [e2, Option.bind_some, Bool.false_eq_true, if_false]
        by_cases h3 : bt s (i : Int) = 45
        · simp only [if_pos h3]
          rw [step (.inr (.inr h3))]
          exact hih
        · simp only [if_neg h3]
          refine ev_const ?_
          congr 1
          symm
          rw [decide_eq_false_iff_not]
          intro h
          rcases h i (by omega) hlt with h | h | h
          · exact h1 h
          · exact h2 h
          · exact h3 h
theorem spec_name (s : ByteArray) : Ev (fun k => spec_IsName.f k s) (decide (IsNm s)) := by
  classical
  have no : ¬ IsNm s → Ev (fun k => spec_IsName.j0 k s true) (decide (IsNm s)) := fun h => by
    refine ev_succ ?_
    simp only [spec_IsName.j0, if_true]
    exact ev_const (by rw [decide_eq_false h])
  unfold spec_IsName.f
  by_cases h0 : s.size = 0
  · simp only [if_pos ((toList_nil s).2 h0)]
    exact no (fun h => by have := h.1; omega)
  · simp only [if_neg (fun h => h0 ((toList_nil s).1 h))]
    by_cases h1 : (s.size : Int) > 12
    · simp only [if_pos h1]
      exact no (fun h => by have := h.2.1; omega)
    · simp only [if_neg h1, if_pos (show (0 : Int) < (s.size : Int) by omega), spec_l01Small.f]
      by_cases h2 : 97 ≤ bt s 0 ∧ bt s 0 ≤ 122
      · simp only [ge_iff_le, if_pos h2.1, Option.bind_some, decide_eq_true h2.2, Bool.not_true]
        refine ev_succ ?_
        simp only [spec_IsName.j0, Bool.false_eq_true, if_false]
        have := snm_l s (by omega) s.size 0 (by omega) (by omega)
        have e : (decide (IsNm s)) = decide (∀ j, 0 ≤ j → j < s.size → nameC (bt s (j : Int))) := by
          rw [decide_eq_decide]
          exact ⟨fun h j _ hj => h.2.2.2 j hj, fun h => ⟨by omega, by omega, h2, fun j hj => h j (by omega) hj⟩⟩
        rw [e]
        exact this
      · have e1 : (if bt s 0 ≥ 97 then some (decide (bt s 0 ≤ 122)) else some false) = some false := by
          by_cases h : bt s 0 ≥ 97
          · rw [if_pos h, decide_eq_false (fun h3 => h2 ⟨h, h3⟩)]
          · rw [if_neg h]
        simp only [e1, Option.bind_some, Bool.not_false]
        exact no (fun h => h2 h.2.2.1)

theorem dw_nil (p : UInt8 → Bool) (l : List UInt8) : l.dropWhile p = [] ↔ ∀ b ∈ l, p b = true := by
  induction l with
  | nil => simp
  | cons a l ih =>
    by_cases h : p a = true
    · simp [List.dropWhile, h, ih]
    · simp [List.dropWhile, h]
theorem dw_head (p : UInt8 → Bool) (l : List UInt8) (x : UInt8) (xs : List UInt8) (h : l.dropWhile p = x :: xs) : p x = false := by
  induction l with
  | nil => simp at h
  | cons a l ih =>
    by_cases h2 : p a = true
    · simp only [List.dropWhile, h2] at h
      exact ih h
    · have h3 : p a = false := by simpa using h2
      simp only [List.dropWhile, h3, List.cons.injEq] at h
      rw [← h.1]; exact h3
theorem trimS_nil (l cs : List UInt8) : Go.Lib.trimS l cs = [] ↔ ∀ b ∈ l, cs.contains b = true := by
  unfold Go.Lib.trimS Go.Lib.trimLeftS Go.Lib.trimRightS
  rw [dw_nil]
  constructor
  · intro h b hb
    cases e : l.reverse.dropWhile (cs.contains ·) with
    | nil =>
      rw [dw_nil] at e
      exact e b (by simpa using hb)
    | cons x xs =>
      exfalso
      have h1 := dw_head _ _ _ _ e
      have h2 := h x (by rw [e]; simp)
      rw [h2] at h1
      cases h1
  · intro h b hb
    exact h b (by simpa using (List.dropWhile_sublist _).subset (List.mem_reverse.1 hb))
theorem name_cut (b : UInt8) : ([97, 98, 99, 100, 101, 102, 103, 104, 105, 106, 107, 108, 109, 110, 111, 112, 113, 114, 115, 116, 117, 118, 119, 120, 121, 122, 48, 49, 50, 51, 52, 53, 54, 55, 56, 57, 45] : List UInt8).contains b = decide (nameC (b.toNat : Int)) := by
  have key : ((List.range 256).all fun n => (([97, 98, 99, 100, 101, 102, 103, 104, 105, 106, 107, 108, 109, 110, 111, 112, 113, 114, 115, 116, 117, 118, 119, 120, 121, 122, 48, 49, 50, 51, 52, 53, 54, 55, 56, 57, 45] : List UInt8).contains (UInt8.ofNat n) == decide (((97 : Int) ≤ (n : Int) ∧ (n : Int) ≤ 122) ∨ ((48 : Int) ≤ (n : Int) ∧ (n : Int) ≤ 57) ∨ (n : Int) = 45))) = true := by decide +kernel
  have h := List.all_eq_true.1 key b.toNat (List.mem_range.2 b.toNat_lt)
  rw [UInt8.ofNat_toNat] at h
  rw [beq_iff_eq] at h
  rw [h]
  rfl
theorem impl_name (s : ByteArray) : impl_IsName.f s = some (decide (IsNm s)) := by
  unfold impl_IsName.f
  by_cases h0 : (s.size : Int) < 1
  · rw [if_pos h0, decide_eq_false (fun h => by have := h.1; omega)]
  · rw [if_neg h0]
    by_cases h1 : (s.size : Int) > 12
    · rw [if_pos h1, decide_eq_false (fun h => by have := h.2.1; omega)]
    · rw [if_neg h1, if_pos (by omega)]
      by_cases h2 : bt s 0 < 97
      · rw [if_pos h2, decide_eq_false (fun h => by have := h.2.2.1.1; omega)]
      · rw [if_neg h2]
        by_cases h3 : bt s 0 > 122
        · rw [if_pos h3, decide_eq_false (fun h => by have := h.2.2.1.2; omega)]
        · rw [if_neg h3]
          unfold strings_Trim.f
          rw [if_pos ⟨by omega, by decide, by decide +kernel⟩]
          simp only [Option.bind_some]
          congr 1
          have e : (decide (IsNm s)) = decide (∀ b ∈ s.data.toList, nameC (b.toNat : Int)) := by
            rw [decide_eq_decide]
            constructor
            · intro h b hb
              obtain ⟨j, hj, rfl⟩ := List.getElem_of_mem hb
              have := h.2.2.2 j (by simpa using hj)
              rw [bt_at s j (by simpa using hj)] at this
              exact this
            · intro h
              refine ⟨by omega, by omega, ⟨by omega, by omega⟩, fun j hj => ?_⟩
              rw [bt_at s j hj]
              exact h _ (List.getElem_mem _)
          rw [e]
          have e2 : ∀ t : List UInt8, (({ data := t.toArray } : ByteArray).toList == ([] : List UInt8)) = decide (t = []) := by
            intro t
            rw [ByteArray.toList_eq]
            cases t <;> simp
          rw [e2, decide_eq_decide, trimS_nil]
          constructor
          · intro h b hb
            have := h b hb
            rw [name_cut] at this
            exact of_decide_eq_true this
          · intro h b hb
            rw [name_cut]
            exact decide_eq_true (h b hb)

theorem in_val (a b c : Int) : spec_l00In.f a b c = some (decide (b ≤ a ∧ a ≤ c)) := by
  unfold spec_l00In.f
  by_cases h : a ≥ b <;> by_cases h2 : a ≤ c <;> simp [h, h2] <;> omega
theorem within_val (a b c : Int) : impl_within.f a b c = some (decide (b ≤ a ∧ a ≤ c)) := in_val a b c

/-- A valid spot. -/
def SpotP (a b : Int) : Prop := (-324000 ≤ a ∧ a ≤ 324000) ∧ (-648000 ≤ b ∧ b ≤ 647999)
instance (a b : Int) : Decidable (SpotP a b) := by unfold SpotP; infer_instance
theorem l02Ok_val (a b : Int) : spec_l02Ok.f a b = some (decide (SpotP a b)) := by
  unfold spec_l02Ok.f SpotP
  simp only [in_val, Option.bind_some]
  by_cases h : -324000 ≤ a ∧ a ≤ 324000
  · simp only [h, decide_true, if_true, true_and]
  · simp [h]

theorem iValidSpot_val (a b : Int) : impl_ValidSpot.f a b = some (decide (SpotP a b)) := by
  unfold impl_ValidSpot.f SpotP
  simp only [within_val, Option.bind_some]
  by_cases h : -324000 ≤ a ∧ a ≤ 324000
  · simp only [h, decide_true, if_true, true_and]
  · simp [h]

theorem rd_T44_at (l : List S44) (i : Nat) (h : i < l.length) : rd_T44 l (i : Int) = l[i] := by
  unfold rd_T44
  rw [Int.toNat_natCast, List.getD_eq_getElem?_getD, List.getElem?_eq_getElem h]
  rfl

theorem rd_T49_at (l : List S49) (i : Nat) (h : i < l.length) : rd_T49 l (i : Int) = l[i] := by
  unfold rd_T49
  rw [Int.toNat_natCast, List.getD_eq_getElem?_getD, List.getElem?_eq_getElem h]
  rfl

def cvStar (x : S44) : S49 := ⟨x.f0, x.f1, ⟨x.f2.f0, x.f2.f1⟩⟩
theorem take_set_Star (x : List S49) (i : Nat) (v : S49) (h : i < x.length) : (x.set i v).take (i + 1) = x.take i ++ [v] := by
  rw [List.take_succ_eq_append_getElem (by simpa using h), List.getElem_set_self, List.take_set_of_le (Nat.le_refl _)]
theorem toStar_l (l : List S44) (hl : l.length ≤ 1048576) (d : Nat) : ∀ (x : List S49) (i : Nat), i ≤ l.length → l.length - i = d → x.length = l.length → x.take i = (l.map cvStar).take i → Ev (fun k => laws_toStarS.l0 k l x i) (l.map cvStar) := by
  induction d with
  | zero =>
    intro x i hi hd hx ht
    apply ev_succ
    simp only [laws_toStarS.l0]
    rw [List.take_of_length_le (by omega), List.take_of_length_le (by simp; omega)] at ht
    simp only [if_neg (show ¬ (i : Int) < (l.length : Int) by omega)]
    rw [ht]
    exact ev_const rfl
  | succ d ih =>
    intro x i hi hd hx ht
    have hlt : i < l.length := by omega
    apply ev_succ
    simp only [laws_toStarS.l0, laws_toStar.f, laws_toSpot.f, Option.bind_some, if_pos (show (i : Int) < (l.length : Int) by omega), if_pos (show (0 : Int) ≤ (i : Int) by omega), if_pos (show (i : Int) < (x.length : Int) by omega), rd_T44_at _ _ hlt, w64 (x := (i : Int) + 1) (by omega) (by omega), Int.toNat_natCast]
    exact ih (x.set i (cvStar l[i])) (i + 1) (by omega) (by omega) (by simpa using hx) (by rw [take_set_Star _ _ _ (by omega), List.take_succ_eq_append_getElem (by simpa using hlt), ht, List.getElem_map])
theorem toStar_ev (l : List S44) (hl : l.length ≤ 1048576) : Ev (fun k => laws_toStarS.f k l) (l.map cvStar) := by
  refine Ev.congr (fun k => by unfold laws_toStarS.f; rw [if_pos (by omega), if_pos (by omega)]) ?_
  exact toStar_l l hl l.length _ 0 (by omega) (by omega) (by simp) (by simp)

theorem eqStar_l (x : List S49) (hl : x.length ≤ 1048576) (d : Nat) : ∀ (i : Nat), i ≤ x.length → x.length - i = d → Ev (fun k => laws_eqStarS.l0 k x x i) true := by
  induction d with
  | zero =>
    intro i hi hd
    apply ev_succ
    simp only [laws_eqStarS.l0, if_neg (show ¬ (i : Int) < (x.length : Int) by omega)]
    exact ev_const rfl
  | succ d ih =>
    intro i hi hd
    apply ev_succ
    simp only [laws_eqStarS.l0, laws_eqStar.f, laws_eqSpot.f, if_true, Option.bind_some, if_pos (show (i : Int) < (x.length : Int) by omega), if_pos (show (0 : Int) ≤ (i : Int) by omega), w64 (x := (i : Int) + 1) (by omega) (by omega)]
    exact ih (i + 1) (by omega) (by omega)
theorem eqStar_ev (x : List S49) (hl : x.length ≤ 1048576) : Ev (fun k => laws_eqStarS.f k x x) true := by
  unfold laws_eqStarS.f
  simp only [if_true]
  exact eqStar_l x hl x.length 0 (by omega) (by omega)

theorem szStar1 (x : S44) (hx : x.f0.size ≤ maxLen) {a : Int} (h0 : 0 ≤ a) (h1 : a ≤ 1048576) : laws_szStar.f x.f0 x.f1 x.f2.f0 x.f2.f1 a = some (-1) ∨ ∃ b, laws_szStar.f x.f0 x.f1 x.f2.f0 x.f2.f1 a = some b ∧ 0 ≤ b ∧ b ≤ a := by
  unfold maxLen at hx
  unfold laws_szStar.f
  rw [w64 (x := a - (x.f0.size : Int)) (by omega) (by omega)]
  by_cases c0 : a - (x.f0.size : Int) < 0
  · left; rw [if_pos c0]
  · rw [if_neg c0]
    exact .inr ⟨_, rfl, by omega, by omega⟩
theorem szStar_l (l : List S44) (hl : l.length ≤ maxLen) (hw : ∀ y ∈ l, y.f0.size ≤ maxLen) (d : Nat) : ∀ (a : Int) (i : Nat), i ≤ l.length → l.length - i = d → 0 ≤ a → a ≤ 1048576 →
    Ev (fun k => laws_szStarS.l0 k l a i) (-1) ∨ ∃ b, Ev (fun k => laws_szStarS.l0 k l a i) b ∧ 0 ≤ b ∧ b ≤ a := by
  unfold maxLen at hl
  induction d with
  | zero =>
    intro a i hi hd h0 h1
    refine .inr ⟨a, ev_succ ?_, h0, Int.le_refl _⟩
    simp only [laws_szStarS.l0, if_neg (show ¬ (i : Int) < (l.length : Int) by omega)]
    exact ev_const rfl
  | succ d ih =>
    intro a i hi hd h0 h1
    have hlt : i < l.length := by omega
    rcases szStar1 l[i] (hw _ (List.getElem_mem hlt)) h0 h1 with e | ⟨b, e, b0, b1⟩
    · refine .inl (ev_succ ?_)
      simp only [laws_szStarS.l0, if_pos (show (i : Int) < (l.length : Int) by omega), if_pos (show (0 : Int) ≤ (i : Int) by omega), rd_T44_at _ _ hlt, e, Option.bind_some, if_pos (show (-1 : Int) < 0 by omega)]
      exact ev_const rfl
    · rcases ih b (i + 1) (by omega) (by omega) b0 (by omega) with e2 | ⟨c, e2, c0, c1⟩
      · refine .inl (ev_succ ?_)
        simp only [laws_szStarS.l0, if_pos (show (i : Int) < (l.length : Int) by omega), if_pos (show (0 : Int) ≤ (i : Int) by omega), rd_T44_at _ _ hlt, e, Option.bind_some, if_neg (show ¬ b < 0 by omega), w64 (x := (i : Int) + 1) (by omega) (by omega)]
        exact e2
      · refine .inr ⟨c, ev_succ ?_, c0, by omega⟩
        simp only [laws_szStarS.l0, if_pos (show (i : Int) < (l.length : Int) by omega), if_pos (show (0 : Int) ≤ (i : Int) by omega), rd_T44_at _ _ hlt, e, Option.bind_some, if_neg (show ¬ b < 0 by omega), w64 (x := (i : Int) + 1) (by omega) (by omega)]
        exact e2
/-- The count of a list: none is left (the law then says nothing), or the list is short. -/
theorem szStar_ev (l : List S44) (hl : l.length ≤ maxLen) (hw : ∀ y ∈ l, y.f0.size ≤ maxLen) {a : Int} (h0 : 0 ≤ a) (h1 : a ≤ 1048576) :
    Ev (fun k => laws_szStarS.f k l a) (-1) ∨ ∃ b, Ev (fun k => laws_szStarS.f k l a) b ∧ 0 ≤ b ∧ b ≤ a - l.length := by
  have hm := hl
  unfold maxLen at hm
  by_cases h : a - (l.length : Int) < 0
  · refine .inl (Ev.congr (fun k => by unfold laws_szStarS.f; rw [w64 (x := a - (l.length : Int)) (by omega) (by omega), if_pos h]) (Ev.now (-1)))
  · rcases szStar_l l hl hw l.length (a - l.length) 0 (by omega) (by omega) (by omega) (by omega) with e | ⟨b, e, b0, b1⟩
    · exact .inl (Ev.congr (fun k => by unfold laws_szStarS.f; rw [w64 (x := a - (l.length : Int)) (by omega) (by omega), if_neg h]; rfl) e)
    · exact .inr ⟨b, Ev.congr (fun k => by unfold laws_szStarS.f; rw [w64 (x := a - (l.length : Int)) (by omega) (by omega), if_neg h]; rfl) e, b0, b1⟩

theorem rd_T105_at (l : List S105) (i : Nat) (h : i < l.length) : rd_T105 l (i : Int) = l[i] := by
  unfold rd_T105
  rw [Int.toNat_natCast, List.getD_eq_getElem?_getD, List.getElem?_eq_getElem h]
  rfl

theorem rd_T103_at (l : List S103) (i : Nat) (h : i < l.length) : rd_T103 l (i : Int) = l[i] := by
  unfold rd_T103
  rw [Int.toNat_natCast, List.getD_eq_getElem?_getD, List.getElem?_eq_getElem h]
  rfl

def cvLine (x : S105) : S103 := ⟨x.f0, x.f1⟩
theorem take_set_Line (x : List S103) (i : Nat) (v : S103) (h : i < x.length) : (x.set i v).take (i + 1) = x.take i ++ [v] := by
  rw [List.take_succ_eq_append_getElem (by simpa using h), List.getElem_set_self, List.take_set_of_le (Nat.le_refl _)]
theorem toLine_l (l : List S105) (hl : l.length ≤ 1048576) (d : Nat) : ∀ (x : List S103) (i : Nat), i ≤ l.length → l.length - i = d → x.length = l.length → x.take i = (l.map cvLine).take i → Ev (fun k => laws_toLineS.l0 k l x i) (l.map cvLine) := by
  induction d with
  | zero =>
    intro x i hi hd hx ht
    apply ev_succ
    simp only [laws_toLineS.l0]
    rw [List.take_of_length_le (by omega), List.take_of_length_le (by simp; omega)] at ht
    simp only [if_neg (show ¬ (i : Int) < (l.length : Int) by omega)]
    rw [ht]
    exact ev_const rfl
  | succ d ih =>
    intro x i hi hd hx ht
    have hlt : i < l.length := by omega
    apply ev_succ
    simp only [laws_toLineS.l0, laws_toLine.f, Option.bind_some, if_pos (show (i : Int) < (l.length : Int) by omega), if_pos (show (0 : Int) ≤ (i : Int) by omega), if_pos (show (i : Int) < (x.length : Int) by omega), rd_T105_at _ _ hlt, w64 (x := (i : Int) + 1) (by omega) (by omega), Int.toNat_natCast]
    exact ih (x.set i (cvLine l[i])) (i + 1) (by omega) (by omega) (by simpa using hx) (by rw [take_set_Line _ _ _ (by omega), List.take_succ_eq_append_getElem (by simpa using hlt), ht, List.getElem_map])
theorem toLine_ev (l : List S105) (hl : l.length ≤ 1048576) : Ev (fun k => laws_toLineS.f k l) (l.map cvLine) := by
  refine Ev.congr (fun k => by unfold laws_toLineS.f; rw [if_pos (by omega), if_pos (by omega)]) ?_
  exact toLine_l l hl l.length _ 0 (by omega) (by omega) (by simp) (by simp)

theorem eqLine_l (x : List S103) (hl : x.length ≤ 1048576) (d : Nat) : ∀ (i : Nat), i ≤ x.length → x.length - i = d → Ev (fun k => laws_eqLineS.l0 k x x i) true := by
  induction d with
  | zero =>
    intro i hi hd
    apply ev_succ
    simp only [laws_eqLineS.l0, if_neg (show ¬ (i : Int) < (x.length : Int) by omega)]
    exact ev_const rfl
  | succ d ih =>
    intro i hi hd
    apply ev_succ
    simp only [laws_eqLineS.l0, laws_eqLine.f, if_true, Option.bind_some, if_pos (show (i : Int) < (x.length : Int) by omega), if_pos (show (0 : Int) ≤ (i : Int) by omega), w64 (x := (i : Int) + 1) (by omega) (by omega)]
    exact ih (i + 1) (by omega) (by omega)
theorem eqLine_ev (x : List S103) (hl : x.length ≤ 1048576) : Ev (fun k => laws_eqLineS.f k x x) true := by
  unfold laws_eqLineS.f
  simp only [if_true]
  exact eqLine_l x hl x.length 0 (by omega) (by omega)

theorem szLine_val (l : List S105) (hl : l.length ≤ maxLen) {a : Int} (h0 : 0 ≤ a) (h1 : a ≤ 1048576) : laws_szLineS.f l a = some (-1) ∨ (laws_szLineS.f l a = some (a - l.length) ∧ 0 ≤ a - l.length) := by
  unfold maxLen at hl
  unfold laws_szLineS.f
  rw [w64 (x := a - (l.length : Int)) (by omega) (by omega)]
  by_cases h : a - (l.length : Int) < 0
  · left; rw [if_pos h]
  · right; rw [if_neg h]; exact ⟨rfl, by omega⟩

/-- What a star of a catalogue must hold. -/
def StarOk (x : S49) : Prop := IsNm x.f0 ∧ ((1 : Int) ≤ x.f1 ∧ x.f1 ≤ 6) ∧ SpotP x.f2.f0 x.f2.f1
instance instStarOk (x : S49) : Decidable (StarOk x) := by unfold StarOk; infer_instance
theorem spec_star (x : S49) : Ev (fun k => spec_l16One.f k x.f0 x.f1 x.f2.f0 x.f2.f1) (decide (StarOk x)) := by
  unfold spec_l16One.f
  refine Ev.bind (spec_name x.f0) ?_
  by_cases h1 : IsNm x.f0
  · simp only [decide_eq_true h1, if_true, in_val, Option.bind_some, l02Ok_val]
    by_cases h2 : 1 ≤ x.f1 ∧ x.f1 ≤ 6
    · simp only [decide_eq_true h2, if_true]
      exact ev_const (congrArg some (decide_eq_decide.2 ⟨fun h => ⟨h1, h2, h⟩, fun h => h.2.2⟩))
    · simp only [decide_eq_false h2, Bool.false_eq_true, if_false]
      exact ev_const (by rw [decide_eq_false (show ¬ StarOk x from fun h => h2 h.2.1)])
  · simp only [decide_eq_false h1, Bool.false_eq_true, if_false]
    exact ev_const (by rw [decide_eq_false (show ¬ StarOk x from fun h => h1 h.1)])
theorem impl_star (x : S49) : impl_isStar.f x.f0 x.f1 x.f2.f0 x.f2.f1 = some (decide (StarOk x)) := by
  unfold impl_isStar.f impl_isClass.f
  simp only [impl_name, within_val, Option.bind_some, iValidSpot_val]
  by_cases h1 : IsNm x.f0
  · simp only [decide_eq_true h1, if_true]
    by_cases h2 : 1 ≤ x.f1 ∧ x.f1 ≤ 6
    · simp only [decide_eq_true h2, if_true]
      exact congrArg some (decide_eq_decide.2 ⟨fun h => ⟨h1, h2, h⟩, fun h => h.2.2⟩)
    · simp only [decide_eq_false h2, Bool.false_eq_true, if_false]
      rw [decide_eq_false (show ¬ StarOk x from fun h => h2 h.2.1)]
  · simp only [decide_eq_false h1, Bool.false_eq_true, if_false]
    rw [decide_eq_false (show ¬ StarOk x from fun h => h1 h.1)]
theorem starB_val (x : S49) : starB x = decide (StarOk x) := by unfold starB; rw [impl_star]; rfl
/-- A valid catalogue. -/
def catB (l : List S49) : Bool := (List.range l.length).all (starAt l) && decide ((l.length : Int) ≤ 30)
theorem icat_val (l : List S49) : impl_ValidCatalogue.f l = some (catB l) := rfl
theorem starAt_val (l : List S49) (i : Nat) (h : i < l.length) : starAt l i = (decide (StarOk l[i]) && !(l.take i).any (fun y => y.f0.toList == l[i].f0.toList)) := by
  unfold starAt
  rw [rd_T49_at _ _ h, starB_val]
theorem catB_ok {l : List S49} (h : catB l = true) : (l.length : Int) ≤ 30 ∧ ∀ x ∈ l, StarOk x := by
  unfold catB at h
  rw [Bool.and_eq_true, List.all_eq_true] at h
  refine ⟨of_decide_eq_true h.2, fun x hx => ?_⟩
  obtain ⟨j, hj, rfl⟩ := List.getElem_of_mem hx
  have := h.1 j (List.mem_range.2 hj)
  rw [starAt_val _ _ hj, Bool.and_eq_true] at this
  exact of_decide_eq_true this.1
theorem scat_in (l : List S49) (hl : l.length ≤ 1048576) (i : Nat) (hi : i < l.length) (R : Bool) (hR : Ev (fun k => spec_l16Ok.l0 k l ((i + 1 : Nat) : Int)) R) (e : Nat) : ∀ (j : Nat), j ≤ i → i - j = e →
    Ev (fun k => spec_l16Ok.l1 k l i j) (!((l.take i).drop j).any (fun y => y.f0.toList == l[i].f0.toList) && R) := by
  induction e with
  | zero =>
    intro j hj he
    rw [List.drop_eq_nil_of_le (by rw [List.length_take]; omega)]
    apply ev_succ
    simp only [spec_l16Ok.l1, if_neg (show ¬ (j : Int) < (i : Int) by omega), List.any_nil, Bool.not_false, Bool.true_and, w64 (x := (i : Int) + 1) (by omega) (by omega)]
    exact hR
  | succ e ih =>
    intro j hj he
    have hjl : j < l.length := by omega
    have hd : ((l.take i).drop j).any (fun y => y.f0.toList == l[i].f0.toList) = ((l[j].f0.toList == l[i].f0.toList) || ((l.take i).drop (j + 1)).any (fun y => y.f0.toList == l[i].f0.toList)) := by
      rw [List.drop_eq_getElem_cons (show j < (l.take i).length by rw [List.length_take]; omega), List.any_cons, List.getElem_take]
    have h1 := ih (j + 1) (by omega) (by omega)
    rw [hd]
    apply ev_succ
    by_cases c : l[j].f0.toList = l[i].f0.toList
    · simp only [spec_l16Ok.l1, if_pos (show (j : Int) < (i : Int) by omega), if_pos (show (0 : Int) ≤ (j : Int) by omega), if_pos (show (j : Int) < (l.length : Int) by omega), if_pos (show (0 : Int) ≤ (i : Int) by omega), if_pos (show (i : Int) < (l.length : Int) by omega), rd_T49_at _ _ hi, rd_T49_at _ _ hjl, if_pos c, beq_iff_eq.2 c, Bool.true_or, Bool.not_true, Bool.false_and]
      exact ev_const rfl
    · simp only [spec_l16Ok.l1, if_pos (show (j : Int) < (i : Int) by omega), if_pos (show (0 : Int) ≤ (j : Int) by omega), if_pos (show (j : Int) < (l.length : Int) by omega), if_pos (show (0 : Int) ≤ (i : Int) by omega), if_pos (show (i : Int) < (l.length : Int) by omega), rd_T49_at _ _ hi, rd_T49_at _ _ hjl, if_neg c, beq_eq_false_iff_ne.2 c, Bool.false_or, w64 (x := (j : Int) + 1) (by omega) (by omega)]
      exact h1
theorem scat_l (l : List S49) (hl : l.length ≤ 1048576) (d : Nat) : ∀ (i : Nat), i ≤ l.length → l.length - i = d → Ev (fun k => spec_l16Ok.l0 k l i) ((List.range' i d).all (starAt l) && decide ((l.length : Int) ≤ 30)) := by
  induction d with
  | zero =>
    intro i hi hd
    apply ev_succ
    simp only [spec_l16Ok.l0, if_neg (show ¬ (i : Int) < (l.length : Int) by omega)]
    exact ev_const rfl
  | succ d ih =>
    intro i hi hd
    have hlt : i < l.length := by omega
    have h1 := ih (i + 1) (by omega) (by omega)
    rw [List.range'_succ, List.all_cons, starAt_val _ _ hlt]
    apply ev_succ
    simp only [spec_l16Ok.l0, if_pos (show (i : Int) < (l.length : Int) by omega), if_pos (show (0 : Int) ≤ (i : Int) by omega), rd_T49_at _ _ hlt]
    refine Ev.bind (spec_star l[i]) ?_
    by_cases c : StarOk l[i]
    · simp only [decide_eq_true c, if_true, Bool.true_and, Bool.and_assoc]
      exact scat_in l hl i hlt _ h1 i 0 (by omega) (by omega)
    · simp only [decide_eq_false c, Bool.false_eq_true, if_false, Bool.false_and]
      exact ev_const rfl
theorem scat_ev (l : List S49) (hl : l.length ≤ 1048576) : Ev (fun k => spec_l16Ok.f k l) (catB l) := by
  have h := scat_l l hl l.length 0 (by omega) (by omega)
  unfold catB
  rw [List.range_eq_range']
  exact h

/-- What a line of a figure must hold. -/
def LineOk (n : Int) (x : S103) : Prop := (0 : Int) ≤ x.f0 ∧ x.f0 < x.f1 ∧ x.f1 < n
theorem figure_l (l : List S49) (hl : l.length ≤ 1048576) (m : List S103) (hm : m.length ≤ 1048576) (d : Nat) : ∀ (i : Nat), i ≤ m.length → m.length - i = d →
    ∃ r, Ev (fun k => spec_l16Figure.l0 k l m l.length i) r ∧ Ev (fun k => impl_ValidFigure.l0 k l m m m.length i) r ∧ (r = true → (∀ x ∈ m.drop i, LineOk l.length x) ∧ (m.length : Int) ≤ 40 ∧ catB l = true) := by
  induction d with
  | zero =>
    intro i hi hd
    refine ⟨if catB l = true then decide ((m.length : Int) ≤ 40) else false, ev_succ ?_, ev_succ ?_, ?_⟩
    · simp only [spec_l16Figure.l0, if_neg (show ¬ (i : Int) < (m.length : Int) by omega)]
      refine Ev.bind (scat_ev l hl) ?_
      cases catB l
      · exact ev_const rfl
      · exact ev_const rfl
    · simp only [impl_ValidFigure.l0, if_neg (show ¬ (i : Int) < (m.length : Int) by omega), icat_val, Option.bind_some]
      cases catB l
      · exact ev_const rfl
      · exact ev_const rfl
    · rw [List.drop_eq_nil_of_le (by omega)]
      cases catB l
      · simp
      · simp
  | succ d ih =>
    intro i hi hd
    have hlt : i < m.length := by omega
    obtain ⟨r, h1, h2, h3⟩ := ih (i + 1) (by omega) (by omega)
    have hdr : m.drop i = m[i] :: m.drop (i + 1) := List.drop_eq_getElem_cons hlt
    by_cases c : LineOk l.length m[i]
    · have c' : (0 : Int) ≤ m[i].f0 ∧ m[i].f0 < m[i].f1 ∧ m[i].f1 < (l.length : Int) := c
      have hs : ∀ v, Ev (fun k => spec_l16Figure.j1 k l m l.length i false m[i].f0 m[i].f1) v → Ev (fun k => spec_l16Figure.l0 k l m l.length i) v := by
        intro v hv
        apply ev_succ
        simp only [spec_l16Figure.l0, if_pos (show (i : Int) < (m.length : Int) by omega), if_pos (show (0 : Int) ≤ (i : Int) by omega), rd_T103_at _ _ hlt, in_val, Option.bind_some, w64 (x := (l.length : Int) - 1) (by omega) (by omega), w64 (x := m[i].f0 + 1) (by omega) (by omega), decide_eq_true (show (0 : Int) ≤ m[i].f0 ∧ m[i].f0 ≤ (l.length : Int) - 1 by omega), if_true, decide_eq_true (show m[i].f0 + 1 ≤ m[i].f1 ∧ m[i].f1 ≤ (l.length : Int) - 1 by omega), Bool.not_true]
        exact hv
      have hp : ∀ v, Ev (fun k => impl_ValidFigure.j1 k l m i m m.length i false m[i].f0 m[i].f1) v → Ev (fun k => impl_ValidFigure.l0 k l m m m.length i) v := by
        intro v hv
        apply ev_succ
        simp only [impl_ValidFigure.l0, if_pos (show (i : Int) < (m.length : Int) by omega), if_pos (show (0 : Int) ≤ (i : Int) by omega), rd_T103_at _ _ hlt, if_neg (show ¬ m[i].f0 < 0 by omega), if_neg (show ¬ m[i].f0 ≥ m[i].f1 by omega), decide_eq_false (show ¬ m[i].f1 ≥ (l.length : Int) by omega)]
        exact hv
      have hr : r = true → (∀ x ∈ m.drop i, LineOk l.length x) ∧ (m.length : Int) ≤ 40 ∧ catB l = true := by
        intro e
        have h4 := h3 e
        refine ⟨?_, h4.2⟩
        rw [hdr, List.forall_mem_cons]
        exact ⟨c, h4.1⟩
      by_cases c0 : i = 0
      · refine ⟨r, hs _ (ev_succ ?_), hp _ (ev_succ ?_), hr⟩
        · simp only [spec_l16Figure.j1, Bool.false_eq_true, if_false, if_neg (show ¬ (i : Int) > 0 by omega), w64 (x := (i : Int) + 1) (by omega) (by omega)]
          exact h1
        · simp only [impl_ValidFigure.j1, Bool.false_eq_true, if_false, if_neg (show ¬ (i : Int) > 0 by omega), w64 (x := (i : Int) + 1) (by omega) (by omega)]
          exact h2
      · by_cases c1 : (rd_T103 m ((i : Int) - 1)).f0 > m[i].f0
        · refine ⟨false, hs _ (ev_succ ?_), hp _ (ev_succ ?_), by simp⟩
          · simp only [spec_l16Figure.j1, Bool.false_eq_true, if_false, if_pos (show (i : Int) > 0 by omega), w64 (x := (i : Int) - 1) (by omega) (by omega), if_pos (show (0 : Int) ≤ (i : Int) - 1 by omega), if_pos (show (i : Int) - 1 < (m.length : Int) by omega), if_pos c1]
            exact ev_const rfl
          · simp only [impl_ValidFigure.j1, Bool.false_eq_true, if_false, if_pos (show (i : Int) > 0 by omega), w64 (x := (i : Int) - 1) (by omega) (by omega), if_pos (show (0 : Int) ≤ (i : Int) - 1 by omega), if_pos (show (i : Int) - 1 < (m.length : Int) by omega), if_pos c1]
            exact ev_const rfl
        · by_cases c2 : (rd_T103 m ((i : Int) - 1)).f0 = m[i].f0
          · by_cases c3 : (rd_T103 m ((i : Int) - 1)).f1 ≥ m[i].f1
            · refine ⟨false, hs _ (ev_succ ?_), hp _ (ev_succ ?_), by simp⟩
              · simp only [spec_l16Figure.j1, Bool.false_eq_true, if_false, if_pos (show (i : Int) > 0 by omega), w64 (x := (i : Int) - 1) (by omega) (by omega), if_pos (show (0 : Int) ≤ (i : Int) - 1 by omega), if_pos (show (i : Int) - 1 < (m.length : Int) by omega), if_neg c1, if_pos c2, if_pos c3]
                exact ev_const rfl
              · simp only [impl_ValidFigure.j1, Bool.false_eq_true, if_false, if_pos (show (i : Int) > 0 by omega), w64 (x := (i : Int) - 1) (by omega) (by omega), if_pos (show (0 : Int) ≤ (i : Int) - 1 by omega), if_pos (show (i : Int) - 1 < (m.length : Int) by omega), if_neg c1, if_pos c2, if_pos c3]
                exact ev_const rfl
            · refine ⟨r, hs _ (ev_succ ?_), hp _ (ev_succ ?_), hr⟩
              · simp only [spec_l16Figure.j1, Bool.false_eq_true, if_false, if_pos (show (i : Int) > 0 by omega), w64 (x := (i : Int) - 1) (by omega) (by omega), if_pos (show (0 : Int) ≤ (i : Int) - 1 by omega), if_pos (show (i : Int) - 1 < (m.length : Int) by omega), if_neg c1, if_pos c2, if_neg c3, w64 (x := (i : Int) + 1) (by omega) (by omega)]
                exact h1
              · simp only [impl_ValidFigure.j1, Bool.false_eq_true, if_false, if_pos (show (i : Int) > 0 by omega), w64 (x := (i : Int) - 1) (by omega) (by omega), if_pos (show (0 : Int) ≤ (i : Int) - 1 by omega), if_pos (show (i : Int) - 1 < (m.length : Int) by omega), if_neg c1, if_pos c2, if_neg c3, w64 (x := (i : Int) + 1) (by omega) (by omega)]
                exact h2
          · refine ⟨r, hs _ (ev_succ ?_), hp _ (ev_succ ?_), hr⟩
            · simp only [spec_l16Figure.j1, Bool.false_eq_true, if_false, if_pos (show (i : Int) > 0 by omega), w64 (x := (i : Int) - 1) (by omega) (by omega), if_pos (show (0 : Int) ≤ (i : Int) - 1 by omega), if_pos (show (i : Int) - 1 < (m.length : Int) by omega), if_neg c1, if_neg c2, w64 (x := (i : Int) + 1) (by omega) (by omega)]
              exact h1
            · simp only [impl_ValidFigure.j1, Bool.false_eq_true, if_false, if_pos (show (i : Int) > 0 by omega), w64 (x := (i : Int) - 1) (by omega) (by omega), if_pos (show (0 : Int) ≤ (i : Int) - 1 by omega), if_pos (show (i : Int) - 1 < (m.length : Int) by omega), if_neg c1, if_neg c2, w64 (x := (i : Int) + 1) (by omega) (by omega)]
              exact h2
    · have c' : ¬ ((0 : Int) ≤ m[i].f0 ∧ m[i].f0 < m[i].f1 ∧ m[i].f1 < (l.length : Int)) := c
      have hj : Ev (fun k => spec_l16Figure.j1 k l m l.length i true m[i].f0 m[i].f1) false := ev_succ (by simp only [spec_l16Figure.j1, if_true]; exact ev_const rfl)
      have hj2 : Ev (fun k => impl_ValidFigure.j1 k l m i m m.length i true m[i].f0 m[i].f1) false := ev_succ (by simp only [impl_ValidFigure.j1, if_true]; exact ev_const rfl)
      refine ⟨false, ev_succ ?_, ev_succ ?_, by simp⟩
      · simp only [spec_l16Figure.l0, if_pos (show (i : Int) < (m.length : Int) by omega), if_pos (show (0 : Int) ≤ (i : Int) by omega), rd_T103_at _ _ hlt, in_val, Option.bind_some, w64 (x := (l.length : Int) - 1) (by omega) (by omega)]
        by_cases c1 : (0 : Int) ≤ m[i].f0 ∧ m[i].f0 ≤ (l.length : Int) - 1
        · simp only [decide_eq_true c1, if_true, w64 (x := m[i].f0 + 1) (by omega) (by omega), decide_eq_false (show ¬ (m[i].f0 + 1 ≤ m[i].f1 ∧ m[i].f1 ≤ (l.length : Int) - 1) by omega), Bool.not_false]
          exact hj
        · simp only [decide_eq_false c1, Bool.false_eq_true, if_false]
          exact hj
      · simp only [impl_ValidFigure.l0, if_pos (show (i : Int) < (m.length : Int) by omega), if_pos (show (0 : Int) ≤ (i : Int) by omega), rd_T103_at _ _ hlt]
        by_cases c1 : m[i].f0 < 0
        · simp only [if_pos c1]
          exact hj2
        · by_cases c2 : m[i].f0 ≥ m[i].f1
          · simp only [if_neg c1, if_pos c2]
            exact hj2
          · simp only [if_neg c1, if_neg c2, decide_eq_true (show m[i].f1 ≥ (l.length : Int) by omega)]
            exact hj2
theorem figure_same (l : List S49) (hl : l.length ≤ 1048576) (m : List S103) (hm : m.length ≤ 1048576) :
    ∃ r, Ev (fun k => spec_l16Figure.f k l m) r ∧ Ev (fun k => impl_ValidFigure.f k l m) r ∧ (r = true → (∀ x ∈ m, LineOk l.length x) ∧ (m.length : Int) ≤ 40 ∧ catB l = true) :=
  figure_l l hl m hm m.length 0 (by omega) (by omega)

/-- A line's text. -/
def partT (l : List S49) (x : S103) : ByteArray := ((rd_T49 l x.f0).f0 ++ (⟨#[45]⟩ : ByteArray)) ++ (rd_T49 l x.f1).f0
/-- What stands behind the first text. -/
def tailT : ByteArray → List ByteArray → ByteArray
  | out, [] => out
  | out, p :: ps => tailT ((out ++ (⟨#[44, 32]⟩ : ByteArray)) ++ p) ps
theorem ba_app (a b : ByteArray) : (a ++ b).data.toList = a.data.toList ++ b.data.toList := by simp
theorem tailT_list (ps : List ByteArray) : ∀ out : ByteArray, (tailT out ps).data.toList = out.data.toList ++ Go.Lib.joinTail [44, 32] (ps.map (·.data.toList)) := by
  induction ps with
  | nil => intro out; simp [tailT, Go.Lib.joinTail]
  | cons p ps ih =>
    intro out
    rw [tailT, ih, ba_app, ba_app]
    simp [Go.Lib.joinTail]
theorem join_cons (x : List UInt8) (r : List (List UInt8)) (sep : List UInt8) : Go.Lib.join (x :: r) sep = x ++ Go.Lib.joinTail sep r := by
  unfold Go.Lib.join
  induction r generalizing x with
  | nil => simp [Go.Lib.joinTail, List.intercalate]
  | cons y r ih =>
    have h := ih y
    simp only [List.intercalate, List.intersperse_cons_cons, List.flatten_cons] at h ⊢
    rw [h]
    simp [Go.Lib.joinTail]
theorem name_size (l : List S49) (h : ∀ x ∈ l, StarOk x) (i : Int) (h0 : 0 ≤ i) (h1 : i < (l.length : Int)) : (rd_T49 l i).f0.size ≤ 12 := by
  obtain ⟨j, rfl⟩ := Int.eq_ofNat_of_zero_le h0
  rw [rd_T49_at l j (by omega)]
  exact (h _ (List.getElem_mem _)).1.2.1
theorem stail_l (l : List S49) (hl : l.length ≤ 30) (hs : ∀ x ∈ l, StarOk x) (m : List S103) (hm : m.length ≤ 40) (hL : ∀ x ∈ m, LineOk l.length x) (d : Nat) : ∀ (out : ByteArray) (i : Nat), 0 < i → i ≤ m.length → m.length - i = d → out.size ≤ 27 * i →
    Ev (fun k => spec_FigureText.l0 k l m out i) (tailT out ((m.drop i).map (partT l))) := by
  induction d with
  | zero =>
    intro out i hi0 hi hd ho
    rw [List.drop_eq_nil_of_le (by omega)]
    apply ev_succ
    simp only [spec_FigureText.l0, if_neg (show ¬ (i : Int) < (m.length : Int) by omega)]
    exact ev_const rfl
  | succ d ih =>
    intro out i hi0 hi hd ho
    have hlt : i < m.length := by omega
    have hx : (0 : Int) ≤ m[i].f0 ∧ m[i].f0 < m[i].f1 ∧ m[i].f1 < (l.length : Int) := hL _ (List.getElem_mem hlt)
    have n0 := name_size l hs m[i].f0 hx.1 (by omega)
    have n1 := name_size l hs m[i].f1 (by omega) hx.2.2
    have z1 : (⟨#[45]⟩ : ByteArray).size = 1 := rfl
    have z2 : (⟨#[44, 32]⟩ : ByteArray).size = 2 := rfl
    have h2 := ih ((out ++ (⟨#[44, 32]⟩ : ByteArray)) ++ partT l m[i]) (i + 1) (by omega) (by omega) (by omega) (by unfold partT; rw [ByteArray.size_append, ByteArray.size_append, ByteArray.size_append, ByteArray.size_append]; omega)
    rw [List.drop_eq_getElem_cons hlt, List.map_cons, tailT]
    apply ev_succ
    simp only [spec_FigureText.l0, if_pos (show (i : Int) < (m.length : Int) by omega), if_pos (show (i : Int) > 0 by omega), if_pos (show (0 : Int) ≤ (i : Int) by omega), rd_T103_at _ _ hlt, if_pos hx.1, if_pos (show m[i].f0 < (l.length : Int) by omega), if_pos (show 0 ≤ m[i].f1 by omega), if_pos hx.2.2, if_pos (show out.size + 2 ≤ 9223372036854775807 by omega), if_pos (show (rd_T49 l m[i].f0).f0.size + 1 ≤ 9223372036854775807 by omega), if_pos (show ((rd_T49 l m[i].f0).f0 ++ (⟨#[45]⟩ : ByteArray)).size + (rd_T49 l m[i].f1).f0.size ≤ 9223372036854775807 by rw [ByteArray.size_append]; omega), if_pos (show (out ++ (⟨#[44, 32]⟩ : ByteArray)).size + (((rd_T49 l m[i].f0).f0 ++ (⟨#[45]⟩ : ByteArray)) ++ (rd_T49 l m[i].f1).f0).size ≤ 9223372036854775807 by rw [ByteArray.size_append, ByteArray.size_append, ByteArray.size_append]; omega), w64 (x := (i : Int) + 1) (by omega) (by omega)]
    exact h2
theorem iparts_l (l : List S49) (hl : l.length ≤ 30) (hs : ∀ x ∈ l, StarOk x) (m : List S103) (hm : m.length ≤ 40) (hL : ∀ x ∈ m, LineOk l.length x) (r : ByteArray) (hr : strings_Join.f (m.map (partT l)) (⟨#[44, 32]⟩ : ByteArray) = some r) (d : Nat) : ∀ (i : Nat), i ≤ m.length → m.length - i = d →
    Ev (fun k => impl_FigureText.l0 k l ((m.take i).map (partT l)) m m.length i) r := by
  induction d with
  | zero =>
    intro i hi hd
    rw [List.take_of_length_le (by omega)]
    apply ev_succ
    simp only [impl_FigureText.l0, if_neg (show ¬ (i : Int) < (m.length : Int) by omega), hr, Option.bind_some]
    exact ev_const rfl
  | succ d ih =>
    intro i hi hd
    have hlt : i < m.length := by omega
    have hx : (0 : Int) ≤ m[i].f0 ∧ m[i].f0 < m[i].f1 ∧ m[i].f1 < (l.length : Int) := hL _ (List.getElem_mem hlt)
    have n0 := name_size l hs m[i].f0 hx.1 (by omega)
    have n1 := name_size l hs m[i].f1 (by omega) hx.2.2
    have z1 : (⟨#[45]⟩ : ByteArray).size = 1 := rfl
    have h2 := ih (i + 1) (by omega) (by omega)
    rw [List.take_succ_eq_append_getElem hlt, List.map_append] at h2
    apply ev_succ
    simp only [impl_FigureText.l0, if_pos (show (i : Int) < (m.length : Int) by omega), if_pos (show (0 : Int) ≤ (i : Int) by omega), rd_T103_at _ _ hlt, if_pos hx.1, if_pos (show m[i].f0 < (l.length : Int) by omega), if_pos (show 0 ≤ m[i].f1 by omega), if_pos hx.2.2, if_pos (show (rd_T49 l m[i].f0).f0.size + 1 ≤ 9223372036854775807 by omega), if_pos (show ((rd_T49 l m[i].f0).f0 ++ (⟨#[45]⟩ : ByteArray)).size + (rd_T49 l m[i].f1).f0.size ≤ 9223372036854775807 by rw [ByteArray.size_append]; omega), if_pos (show ((m.take i).map (partT l)).length < 8796093022208 by rw [List.length_map, List.length_take]; omega), w64 (x := (i : Int) + 1) (by omega) (by omega)]
    exact h2
theorem tail_len (l : List S49) (hs : ∀ x ∈ l, StarOk x) (m : List S103) (hL : ∀ x ∈ m, LineOk l.length x) : (Go.Lib.joinTail [44, 32] ((m.map (partT l)).map (·.data.toList))).length ≤ 27 * m.length := by
  induction m with
  | nil => simp [Go.Lib.joinTail]
  | cons x m ih =>
    rw [List.forall_mem_cons] at hL
    have h1 := ih hL.2
    have hx : (0 : Int) ≤ x.f0 ∧ x.f0 < x.f1 ∧ x.f1 < (l.length : Int) := hL.1
    have n0 := name_size l hs x.f0 hx.1 (by omega)
    have n1 := name_size l hs x.f1 (by omega) hx.2.2
    have z1 : (⟨#[45]⟩ : ByteArray).size = 1 := rfl
    have hp : (partT l x).data.toList.length ≤ 25 := by
      have : (partT l x).data.toList.length = (partT l x).size := rfl
      rw [this]
      unfold partT
      rw [ByteArray.size_append, ByteArray.size_append]
      omega
    unfold Go.Lib.joinTail at h1 ⊢
    simp only [List.map_cons, List.flatten_cons, List.length_append, List.length_cons, List.length_nil] at h1 ⊢
    omega
theorem ftext_same (l : List S49) (hl : l.length ≤ 1048576) (m : List S103) (hm : m.length ≤ 1048576) : ∃ r, Ev (fun k => spec_FigureText.f k l m) r ∧ Ev (fun k => impl_FigureText.f k l m) r := by
  obtain ⟨v, h1, h2, h3⟩ := figure_same l hl m hm
  cases v with
  | false =>
    refine ⟨(⟨#[]⟩ : ByteArray), ?_, ?_⟩
    · unfold spec_FigureText.f
      refine Ev.bind h1 ?_
      simp only [Bool.false_eq_true, if_false]
      exact ev_const rfl
    · unfold impl_FigureText.f
      refine Ev.bind h2 ?_
      simp only [Bool.false_eq_true, if_false]
      exact ev_const rfl
  | true =>
    obtain ⟨g1, g2, g3⟩ := h3 rfl
    obtain ⟨h30, hs⟩ := catB_ok g3
    cases m with
    | nil =>
      refine ⟨(⟨#[]⟩ : ByteArray), ?_, ?_⟩
      · unfold spec_FigureText.f
        refine Ev.bind h1 ?_
        simp only [if_true]
        refine ev_succ ?_
        simp only [spec_FigureText.l0, List.length_nil, if_neg (show ¬ (0 : Int) < ((0 : Nat) : Int) by omega)]
        exact ev_const rfl
      · unfold impl_FigureText.f
        refine Ev.bind h2 ?_
        simp only [if_true]
        refine ev_succ ?_
        simp only [impl_FigureText.l0, List.length_nil, if_neg (show ¬ (0 : Int) < ((0 : Nat) : Int) by omega)]
        exact ev_const rfl
    | cons x m =>
      have hx : (0 : Int) ≤ x.f0 ∧ x.f0 < x.f1 ∧ x.f1 < (l.length : Int) := g1 x List.mem_cons_self
      have n0 := name_size l hs x.f0 hx.1 (by omega)
      have n1 := name_size l hs x.f1 (by omega) hx.2.2
      have z1 : (⟨#[45]⟩ : ByteArray).size = 1 := rfl
      have z0 : (⟨#[]⟩ : ByteArray).size = 0 := rfl
      have hps : (partT l x).size ≤ 25 := by unfold partT; rw [ByteArray.size_append, ByteArray.size_append]; omega
      have e1 := stail_l l (by omega) hs (x :: m) (by omega) g1 m.length ((⟨#[]⟩ : ByteArray) ++ partT l x) 1 (by omega) (by simp) (by simp) (by rw [ByteArray.size_append]; omega)
      have hdrop : (x :: m).drop 1 = m := rfl
      rw [hdrop] at e1
      have htl := tail_len l hs m (fun y hy => g1 y (List.mem_cons_of_mem _ hy))
      have hml : (x :: m).length = m.length + 1 := rfl
      have hj : Go.Lib.join (((x :: m).map (partT l)).map (·.data.toList)) [44, 32] = (partT l x).data.toList ++ Go.Lib.joinTail [44, 32] ((m.map (partT l)).map (·.data.toList)) := by rw [List.map_cons, List.map_cons, join_cons]
      have hpl : (partT l x).data.toList.length = (partT l x).size := rfl
      have hsep : (⟨#[44, 32]⟩ : ByteArray).data.toList = [44, 32] := rfl
      have hv : strings_Join.f ((x :: m).map (partT l)) (⟨#[44, 32]⟩ : ByteArray) = some (tailT ((⟨#[]⟩ : ByteArray) ++ partT l x) (m.map (partT l))) := by
        unfold strings_Join.f
        rw [hsep, hj, if_pos ⟨by rw [List.length_map]; omega, by rw [List.length_append]; omega⟩]
        refine congrArg some ?_
        have ht := tailT_list (m.map (partT l)) ((⟨#[]⟩ : ByteArray) ++ partT l x)
        rw [ba_app] at ht
        have ht2 : (tailT ((⟨#[]⟩ : ByteArray) ++ partT l x) (m.map (partT l))).data.toList = (partT l x).data.toList ++ Go.Lib.joinTail [44, 32] ((m.map (partT l)).map (·.data.toList)) := ht
        rw [← ht2]
      have e2 := iparts_l l (by omega) hs (x :: m) (by omega) g1 _ hv (x :: m).length 0 (by omega) (by omega)
      refine ⟨tailT ((⟨#[]⟩ : ByteArray) ++ partT l x) (m.map (partT l)), ?_, ?_⟩
      · unfold spec_FigureText.f
        refine Ev.bind h1 ?_
        simp only [if_true]
        refine ev_succ ?_
        have hr0 : rd_T103 (x :: m) 0 = x := rd_T103_at (x :: m) 0 (by simp)
        simp only [spec_FigureText.l0, if_pos (show (0 : Int) < ((x :: m).length : Int) by rw [hml]; omega), if_neg (show ¬ (0 : Int) > 0 by omega), if_pos (show (0 : Int) ≤ 0 by omega), hr0, if_pos hx.1, if_pos (show x.f0 < (l.length : Int) by omega), if_pos (show 0 ≤ x.f1 by omega), if_pos hx.2.2, if_pos (show (rd_T49 l x.f0).f0.size + 1 ≤ 9223372036854775807 by omega), if_pos (show ((rd_T49 l x.f0).f0 ++ (⟨#[45]⟩ : ByteArray)).size + (rd_T49 l x.f1).f0.size ≤ 9223372036854775807 by rw [ByteArray.size_append]; omega), if_pos (show (⟨#[]⟩ : ByteArray).size + (((rd_T49 l x.f0).f0 ++ (⟨#[45]⟩ : ByteArray)) ++ (rd_T49 l x.f1).f0).size ≤ 9223372036854775807 by rw [ByteArray.size_append, ByteArray.size_append]; omega), w64 (x := (0 : Int) + 1) (by omega) (by omega)]
        exact e1
      · unfold impl_FigureText.f
        refine Ev.bind h2 ?_
        simp only [if_true]
        exact e2
theorem FnExactFigureText : laws_FnExactFigureText.Pure := by
  intro l m hl hw hm hwm
  apply Ev.rounds
  unfold laws_FnExactFigureText.f
  rcases szStar_ev l hl (fun y hy => (hw y hy).1) (a := 1048576) (by omega) (by omega) with e | ⟨b, e, b0, b1⟩
  · refine Ev.bind e ?_
    simp only [if_pos (show (-1 : Int) < 0 by omega)]
    exact ev_const rfl
  · refine Ev.bind e ?_
    simp only [if_neg (show ¬ b < 0 by omega)]
    rcases szLine_val m hm (a := b) (by omega) (by omega) with e2 | ⟨e2, c0⟩
    · simp only [e2, Option.bind_some, if_pos (show (-1 : Int) < 0 by omega)]
      exact ev_const rfl
    · simp only [e2, Option.bind_some, if_neg (show ¬ b - (m.length : Int) < 0 by omega)]
      have t0 := toStar_ev l (by omega)
      have t1 := toLine_ev m (by omega)
      have hml : (l.map cvStar).length ≤ 1048576 := by rw [List.length_map]; omega
      have hmm : (m.map cvLine).length ≤ 1048576 := by rw [List.length_map]; omega
      obtain ⟨r, s1, s2⟩ := ftext_same (l.map cvStar) hml (m.map cvLine) hmm
      refine Ev.bind t0 (Ev.bind t1 (Ev.bind s1 (Ev.bind t0 (Ev.bind t1 (Ev.bind s2 ?_)))))
      simp only [if_true]
      refine Ev.bind t0 (Ev.bind (eqStar_ev _ hml) ?_)
      simp only [if_true]
      refine Ev.bind t1 (Ev.bind (eqLine_ev _ hmm) ?_)
      simp only [if_true]
      exact ev_const rfl

end Go.Proofs.YtgeeojchgfomjaaDoor.Pure
