/- FnExactEndsOfFigure: the program's EndsOfFigure and the reference's come to the same, for all lists of stars and of lines: the same code, and the same stars with one line. -/
import Derived.Test.YtgeeojchgfomjaaDoorStatFnExactEndsOfFigure
namespace Go.Proofs.YtgeeojchgfomjaaDoor.Pure
open Go.RowKit Go.Proofs.YtgeeojchgfomjaaDoor.PFnExactEndsOfFigure Go.Proofs.YtgeeojchgfomjaaDoorW.PrintWords Go.Proofs.YtgeeojchgfomjaaDoorW.PrintLast Go.Proofs.YtgeeojchgfomjaaDoorW.PrintMore
set_option linter.unusedVariables false
set_option linter.unusedSimpArgs false
theorem wfb {a : Int} (h : (Lit.int .i64 a).wf = true) : -9223372036854775808 ≤ a ∧ a ≤ 9223372036854775807 := by
  simpa [Lit.wf, IntKind.min, IntKind.max, IntKind.signed, IntKind.bits] using h
theorem w64 {x : Int} (h : -9223372036854775808 ≤ x) (h2 : x ≤ 9223372036854775807) : wrap64 x = x := by unfold wrap64; omega
theorem tdiv_nn {a b : Int} (h : 0 ≤ a) : Int.tdiv a b = a / b := Int.tdiv_eq_ediv_of_nonneg h
theorem tmod_nn {a b : Int} (h : 0 ≤ a) : Int.tmod a b = a % b := Int.tmod_eq_emod_of_nonneg h
theorem floor_val (a b : Int) (hb : 0 < b) : (if Int.tmod a b < 0 then Int.tdiv a b - 1 else Int.tdiv a b) = a / b := by
  have h1 := Int.mul_tdiv_add_tmod a b
  have hlt : Int.tmod a b < b := Int.tmod_lt_of_pos a hb
  have hgt : -b < Int.tmod a b := by
    have h2 := Int.tmod_lt_of_pos (-a) hb
    rw [Int.neg_tmod] at h2
    omega
  symm
  split
  · rename_i hneg
    refine ((Int.ediv_emod_unique hb (r := Int.tmod a b + b)).2 ⟨?_, by omega, by omega⟩).1
    rw [Int.mul_sub, Int.mul_one]
    omega
  · rename_i hneg
    exact ((Int.ediv_emod_unique hb (r := Int.tmod a b)).2 ⟨by omega, by omega, by omega⟩).1
theorem ediv_bd {a b : Int} (hb : 0 < b) (B : Int) (h0 : -B ≤ a) (h1 : a ≤ B) (hB : 0 ≤ B) : -B ≤ a / b ∧ a / b ≤ B := by
  constructor
  · rw [Int.le_ediv_iff_mul_le hb]
    have : B * 1 ≤ B * b := Int.mul_le_mul_of_nonneg_left (by omega) hB
    rw [Int.neg_mul]; omega
  · have h2 : a / b ≤ B / b := Int.ediv_le_ediv hb h1
    have h3 : B / b ≤ B := Int.ediv_le_self b hB
    omega
theorem ceil_alt (a b : Int) (hb : 0 < b) : (a + b - 1) / b = -((-a) / b) := by
  have h1 := Int.mul_ediv_add_emod (-a) b
  have h2 := Int.emod_nonneg (-a) (b := b) (by omega)
  have h3 := Int.emod_lt_of_pos (-a) hb
  refine ((Int.ediv_emod_unique hb (r := b - 1 - (-a) % b)).2 ⟨?_, by omega, by omega⟩).1
  rw [Int.mul_neg]
  omega

theorem ev_succ {α : Type} {g : Nat → Option α} {r : α} (h : Ev (fun k => g (k + 1)) r) : Ev g r := Ev.step (fun _ => rfl) h
theorem ev_const {α : Type} {g : Option α} {r : α} (h : g = some r) : Ev (fun _ => g) r := ⟨0, fun _ _ => h⟩
theorem ev_uniq {α : Type} {g : Nat → Option α} {a b : α} (h : Ev g a) (h' : Ev g b) : a = b := by
  obtain ⟨K, h⟩ := h
  obtain ⟨K', h'⟩ := h'
  have h1 := h (K + K') (by omega)
  rw [h' (K + K') (by omega)] at h1
  exact (Option.some.inj h1).symm

theorem toList_inj {a b : ByteArray} : a.toList = b.toList ↔ a = b := by
  constructor
  · intro h
    rw [ByteArray.toList_eq, ByteArray.toList_eq] at h
    obtain ⟨⟨x⟩⟩ := a
    obtain ⟨⟨y⟩⟩ := b
    simp at h
    rw [h]
  · intro h; rw [h]
def sizes (l : List ByteArray) : Int := (l.map (fun s => (s.size : Int))).sum
theorem sizes_cons (s : ByteArray) (l : List ByteArray) : sizes (s :: l) = s.size + sizes l := by simp [sizes]
theorem sizes_nn (l : List ByteArray) : 0 ≤ sizes l := by
  induction l with
  | nil => simp [sizes]
  | cons s l ih => rw [sizes_cons]; omega
theorem sizes_drop (l : List ByteArray) (i : Nat) (h : i < l.length) : sizes (l.drop i) = (l[i]).size + sizes (l.drop (i + 1)) := by
  rw [List.drop_eq_getElem_cons h, sizes_cons]
theorem rdOf_at (d : ByteArray) (l : List ByteArray) (i : Nat) (h : i < l.length) : rdOf d l (i : Int) = l[i] := by
  unfold rdOf
  rw [Int.toNat_natCast, List.getD_eq_getElem?_getD, List.getElem?_eq_getElem h]
  rfl

/-- A byte that a name may have. -/
def nameC (c : Int) : Prop := ((97 : Int) ≤ c ∧ c ≤ 122) ∨ ((48 : Int) ≤ c ∧ c ≤ 57) ∨ c = 45
instance instNameC (c : Int) : Decidable (nameC c) := by unfold nameC; infer_instance
/-- A name. -/
def IsNm (s : ByteArray) : Prop := 1 ≤ s.size ∧ s.size ≤ 12 ∧ ((97 : Int) ≤ bt s 0 ∧ bt s 0 ≤ 122) ∧ ∀ i, i < s.size → nameC (bt s (i : Int))
instance instIsNm (s : ByteArray) : Decidable (IsNm s) := by unfold IsNm; infer_instance
theorem toList_nil (s : ByteArray) : s.toList = ([] : List UInt8) ↔ s.size = 0 := by
  rw [ByteArray.toList_eq]
  obtain ⟨⟨x⟩⟩ := s
  show x = [] ↔ x.length = 0
  rw [List.length_eq_zero_iff]
theorem bt_at (s : ByteArray) (i : Nat) (h : i < s.size) : bt s (i : Int) = ((s.data.toList[i]'(by simpa using h)).toNat : Int) := by
  unfold bt
  rw [dif_pos (by simpa using h)]
  rfl
open Classical in
theorem snm_l (s : ByteArray) (hs : s.size ≤ 12) (d : Nat) : ∀ (i : Nat), i ≤ s.size → s.size - i = d → Ev (fun k => spec_IsName.l0 k s i) (decide (∀ j, i ≤ j → j < s.size → nameC (bt s (j : Int)))) := by
  induction d with
  | zero =>
    intro i hi hd
    apply ev_succ
    simp only [spec_IsName.l0, if_neg (show ¬ (i : Int) < (s.size : Int) by omega)]
    refine ev_const ?_
    congr 1
    symm
    rw [decide_eq_true_iff]
    intro j h1 h2; omega
  | succ d ih =>
    intro i hi hd
    have hlt : i < s.size := by omega
    have hih := ih (i + 1) (by omega) (by omega)
    have step : nameC (bt s (i : Int)) → (decide (∀ j, i ≤ j → j < s.size → nameC (bt s (j : Int)))) = decide (∀ j, i + 1 ≤ j → j < s.size → nameC (bt s (j : Int))) := by
      intro hc
      rw [decide_eq_decide]
      constructor
      · intro h j h1 h2; exact h j (by omega) h2
      · intro h j h1 h2
        by_cases e : j = i
        · subst e; exact hc
        · exact h j (by omega) h2
    apply ev_succ
    simp only [spec_IsName.l0, spec_l01Small.f, spec_l01Digit.f, if_pos (show (i : Int) < (s.size : Int) by omega), if_pos (show (0 : Int) ≤ (i : Int) by omega), w64 (x := (i : Int) + 1) (by omega) (by omega)]
    by_cases h1 : 97 ≤ bt s (i : Int) ∧ bt s (i : Int) ≤ 122
    · simp only [ge_iff_le, if_pos h1.1, Option.bind_some, decide_eq_true h1.2, if_true]
      rw [step (.inl h1)]
      exact hih
    · have e1 : (if bt s (i : Int) ≥ 97 then some (decide (bt s (i : Int) ≤ 122)) else some false) = some false := by
        by_cases h : bt s (i : Int) ≥ 97
        · rw [if_pos h, decide_eq_false (fun h2 => h1 ⟨h, h2⟩)]
        · rw [if_neg h]
      simp only [e1, Option.bind_some, Bool.false_eq_true, if_false]
      by_cases h2 : 48 ≤ bt s (i : Int) ∧ bt s (i : Int) ≤ 57
      · simp only [ge_iff_le, if_pos h2.1, Option.bind_some, decide_eq_true h2.2, if_true]
        rw [step (.inr (.inl h2))]
        exact hih
      · have e2 : (if bt s (i : Int) ≥ 48 then some (decide (bt s (i : Int) ≤ 57)) else some false) = some false := by
          by_cases h : bt s (i : Int) ≥ 48
          · rw [if_pos h, decide_eq_false (fun h3 => h2 ⟨h, h3⟩)]
          · rw [if_neg h]
        simp only [e2, Option.bind_some, Bool.false_eq_true, if_false]
        by_cases h3 : bt s (i : Int) = 45
        · simp only [if_pos h3]
          rw [step (.inr (.inr h3))]
          exact hih
        · simp only [if_neg h3]
          refine ev_const ?_
          congr 1
          symm
          rw [decide_eq_false_iff_not]
          intro h
          rcases h i (by omega) hlt with h | h | h
          · exact h1 h
          · exact h2 h
          · exact h3 h
theorem spec_name (s : ByteArray) : Ev (fun k => spec_IsName.f k s) (decide (IsNm s)) := by
  classical
  have no : ¬ IsNm s → Ev (fun k => spec_IsName.j0 k s true) (decide (IsNm s)) := fun h => by
    refine ev_succ ?_
    simp only [spec_IsName.j0, if_true]
    exact ev_const (by rw [decide_eq_false h])
  unfold spec_IsName.f
  by_cases h0 : s.size = 0
  · simp only [if_pos ((toList_nil s).2 h0)]
    exact no (fun h => by have := h.1; omega)
  · simp only [if_neg (fun h => h0 ((toList_nil s).1 h))]
    by_cases h1 : (s.size : Int) > 12
    · simp only [if_pos h1]
      exact no (fun h => by have := h.2.1; omega)
    · simp only [if_neg h1, if_pos (show (0 : Int) < (s.size : Int) by omega), spec_l01Small.f]
      by_cases h2 : 97 ≤ bt s 0 ∧ bt s 0 ≤ 122
      · simp only [ge_iff_le, if_pos h2.1, Option.bind_some, decide_eq_true h2.2, Bool.not_true]
        refine ev_succ ?_
        simp only [spec_IsName.j0, Bool.false_eq_true, if_false]
        have := snm_l s (by omega) s.size 0 (by omega) (by omega)
        have e : (decide (IsNm s)) = decide (∀ j, 0 ≤ j → j < s.size → nameC (bt s (j : Int))) := by
          rw [decide_eq_decide]
          exact ⟨fun h j _ hj => h.2.2.2 j hj, fun h => ⟨by omega, by omega, h2, fun j hj => h j (by omega) hj⟩⟩
        rw [e]
        exact this
      · have e1 : (if bt s 0 ≥ 97 then some (decide (bt s 0 ≤ 122)) else some false) = some false := by
          by_cases h : bt s 0 ≥ 97
          · rw [if_pos h, decide_eq_false (fun h3 => h2 ⟨h, h3⟩)]
          · rw [if_neg h]
        simp only [e1, Option.bind_some, Bool.not_false]
        exact no (fun h => h2 h.2.2.1)

theorem dw_nil (p : UInt8 → Bool) (l : List UInt8) : l.dropWhile p = [] ↔ ∀ b ∈ l, p b = true := by
  induction l with
  | nil => simp
  | cons a l ih =>
    by_cases h : p a = true
    · simp [List.dropWhile, h, ih]
    · simp [List.dropWhile, h]
theorem dw_head (p : UInt8 → Bool) (l : List UInt8) (x : UInt8) (xs : List UInt8) (h : l.dropWhile p = x :: xs) : p x = false := by
  induction l with
  | nil => simp at h
  | cons a l ih =>
    by_cases h2 : p a = true
    · simp only [List.dropWhile, h2] at h
      exact ih h
    · have h3 : p a = false := by simpa using h2
      simp only [List.dropWhile, h3, List.cons.injEq] at h
      rw [← h.1]; exact h3
theorem trimS_nil (l cs : List UInt8) : Go.Lib.trimS l cs = [] ↔ ∀ b ∈ l, cs.contains b = true := by
  unfold Go.Lib.trimS Go.Lib.trimLeftS Go.Lib.trimRightS
  rw [dw_nil]
  constructor
  · intro h b hb
    cases e : l.reverse.dropWhile (cs.contains ·) with
    | nil =>
      rw [dw_nil] at e
      exact e b (by simpa using hb)
    | cons x xs =>
      exfalso
      have h1 := dw_head _ _ _ _ e
      have h2 := h x (by rw [e]; simp)
      rw [h2] at h1
      cases h1
  · intro h b hb
    exact h b (by simpa using (List.dropWhile_sublist _).subset (List.mem_reverse.1 hb))
theorem name_cut (b : UInt8) : ([97, 98, 99, 100, 101, 102, 103, 104, 105, 106, 107, 108, 109, 110, 111, 112, 113, 114, 115, 116, 117, 118, 119, 120, 121, 122, 48, 49, 50, 51, 52, 53, 54, 55, 56, 57, 45] : List UInt8).contains b = decide (nameC (b.toNat : Int)) := by
  have key : ((List.range 256).all fun n => (([97, 98, 99, 100, 101, 102, 103, 104, 105, 106, 107, 108, 109, 110, 111, 112, 113, 114, 115, 116, 117, 118, 119, 120, 121, 122, 48, 49, 50, 51, 52, 53, 54, 55, 56, 57, 45] : List UInt8).contains (UInt8.ofNat n) == decide (((97 : Int) ≤ (n : Int) ∧ (n : Int) ≤ 122) ∨ ((48 : Int) ≤ (n : Int) ∧ (n : Int) ≤ 57) ∨ (n : Int) = 45))) = true := by decide +kernel
  have h := List.all_eq_true.1 key b.toNat (List.mem_range.2 b.toNat_lt)
  rw [UInt8.ofNat_toNat] at h
  rw [beq_iff_eq] at h
  rw [h]
  rfl
theorem impl_name (s : ByteArray) : impl_IsName.f s = some (decide (IsNm s)) := by
  unfold impl_IsName.f
  by_cases h0 : (s.size : Int) < 1
  · rw [if_pos h0, decide_eq_false (fun h => by have := h.1; omega)]
  · rw [if_neg h0]
    by_cases h1 : (s.size : Int) > 12
    · rw [if_pos h1, decide_eq_false (fun h => by have := h.2.1; omega)]
    · rw [if_neg h1, if_pos (by omega)]
      by_cases h2 : bt s 0 < 97
      · rw [if_pos h2, decide_eq_false (fun h => by have := h.2.2.1.1; omega)]
      · rw [if_neg h2]
        by_cases h3 : bt s 0 > 122
        · rw [if_pos h3, decide_eq_false (fun h => by have := h.2.2.1.2; omega)]
        · rw [if_neg h3]
          unfold strings_Trim.f
          rw [if_pos ⟨by omega, by decide, by decide +kernel⟩]
          simp only [Option.bind_some]
          congr 1
          have e : (decide (IsNm s)) = decide (∀ b ∈ s.data.toList, nameC (b.toNat : Int)) := by
            rw [decide_eq_decide]
            constructor
            · intro h b hb
              obtain ⟨j, hj, rfl⟩ := List.getElem_of_mem hb
              have := h.2.2.2 j (by simpa using hj)
              rw [bt_at s j (by simpa using hj)] at this
              exact this
            · intro h
              refine ⟨by omega, by omega, ⟨by omega, by omega⟩, fun j hj => ?_⟩
              rw [bt_at s j hj]
              exact h _ (List.getElem_mem _)
          rw [e]
          have e2 : ∀ t : List UInt8, (({ data := t.toArray } : ByteArray).toList == ([] : List UInt8)) = decide (t = []) := by
            intro t
            rw [ByteArray.toList_eq]
            cases t <;> simp
          rw [e2, decide_eq_decide, trimS_nil]
          constructor
          · intro h b hb
            have := h b hb
            rw [name_cut] at this
            exact of_decide_eq_true this
          · intro h b hb
            rw [name_cut]
            exact decide_eq_true (h b hb)

theorem in_val (a b c : Int) : spec_l00In.f a b c = some (decide (b ≤ a ∧ a ≤ c)) := by
  unfold spec_l00In.f
  by_cases h : a ≥ b <;> by_cases h2 : a ≤ c <;> simp [h, h2] <;> omega
theorem within_val (a b c : Int) : impl_within.f a b c = some (decide (b ≤ a ∧ a ≤ c)) := in_val a b c

/-- A valid spot. -/
def SpotP (a b : Int) : Prop := (-324000 ≤ a ∧ a ≤ 324000) ∧ (-648000 ≤ b ∧ b ≤ 647999)
instance (a b : Int) : Decidable (SpotP a b) := by unfold SpotP; infer_instance
theorem l02Ok_val (a b : Int) : spec_l02Ok.f a b = some (decide (SpotP a b)) := by
  unfold spec_l02Ok.f SpotP
  simp only [in_val, Option.bind_some]
  by_cases h : -324000 ≤ a ∧ a ≤ 324000
  · simp only [h, decide_true, if_true, true_and]
  · simp [h]

theorem iValidSpot_val (a b : Int) : impl_ValidSpot.f a b = some (decide (SpotP a b)) := by
  unfold impl_ValidSpot.f SpotP
  simp only [within_val, Option.bind_some]
  by_cases h : -324000 ≤ a ∧ a ≤ 324000
  · simp only [h, decide_true, if_true, true_and]
  · simp [h]

theorem rd_T44_at (l : List S44) (i : Nat) (h : i < l.length) : rd_T44 l (i : Int) = l[i] := by
  unfold rd_T44
  rw [Int.toNat_natCast, List.getD_eq_getElem?_getD, List.getElem?_eq_getElem h]
  rfl

theorem rd_T49_at (l : List S49) (i : Nat) (h : i < l.length) : rd_T49 l (i : Int) = l[i] := by
  unfold rd_T49
  rw [Int.toNat_natCast, List.getD_eq_getElem?_getD, List.getElem?_eq_getElem h]
  rfl

def cvStar (x : S44) : S49 := ⟨x.f0, x.f1, ⟨x.f2.f0, x.f2.f1⟩⟩
theorem take_set_Star (x : List S49) (i : Nat) (v : S49) (h : i < x.length) : (x.set i v).take (i + 1) = x.take i ++ [v] := by
  rw [List.take_succ_eq_append_getElem (by simpa using h), List.getElem_set_self, List.take_set_of_le (Nat.le_refl _)]
theorem toStar_l (l : List S44) (hl : l.length ≤ 1048576) (d : Nat) : ∀ (x : List S49) (i : Nat), i ≤ l.length → l.length - i = d → x.length = l.length → x.take i = (l.map cvStar).take i → Ev (fun k => laws_toStarS.l0 k l x i) (l.map cvStar) := by
  induction d with
  | zero =>
    intro x i hi hd hx ht
    apply ev_succ
    simp only [laws_toStarS.l0]
    rw [List.take_of_length_le (by omega), List.take_of_length_le (by simp; omega)] at ht
    simp only [if_neg (show ¬ (i : Int) < (l.length : Int) by omega)]
    rw [ht]
    exact ev_const rfl
  | succ d ih =>
    intro x i hi hd hx ht
    have hlt : i < l.length := by omega
    apply ev_succ
    simp only [laws_toStarS.l0, laws_toStar.f, laws_toSpot.f, Option.bind_some, if_pos (show (i : Int) < (l.length : Int) by omega), if_pos (show (0 : Int) ≤ (i : Int) by omega), if_pos (show (i : Int) < (x.length : Int) by omega), rd_T44_at _ _ hlt, w64 (x := (i : Int) + 1) (by omega) (by omega), Int.toNat_natCast]
    exact ih (x.set i (cvStar l[i])) (i + 1) (by omega) (by omega) (by simpa using hx) (by rw [take_set_Star _ _ _ (by omega), List.take_succ_eq_append_getElem (by simpa using hlt), ht, List.getElem_map])
theorem toStar_ev (l : List S44) (hl : l.length ≤ 1048576) : Ev (fun k => laws_toStarS.f k l) (l.map cvStar) := by
  refine Ev.congr (fun k => by unfold laws_toStarS.f; rw [if_pos (by omega), if_pos (by omega)]) ?_
  exact toStar_l l hl l.length _ 0 (by omega) (by omega) (by simp) (by simp)

theorem eqStar_l (x : List S49) (hl : x.length ≤ 1048576) (d : Nat) : ∀ (i : Nat), i ≤ x.length → x.length - i = d → Ev (fun k => laws_eqStarS.l0 k x x i) true := by
  induction d with
  | zero =>
    intro i hi hd
    apply ev_succ
    simp only [laws_eqStarS.l0, if_neg (show ¬ (i : Int) < (x.length : Int) by omega)]
    exact ev_const rfl
  | succ d ih =>
    intro i hi hd
    apply ev_succ
    simp only [laws_eqStarS.l0, laws_eqStar.f, laws_eqSpot.f, if_true, Option.bind_some, if_pos (show (i : Int) < (x.length : Int) by omega), if_pos (show (0 : Int) ≤ (i : Int) by omega), w64 (x := (i : Int) + 1) (by omega) (by omega)]
    exact ih (i + 1) (by omega) (by omega)
theorem eqStar_ev (x : List S49) (hl : x.length ≤ 1048576) : Ev (fun k => laws_eqStarS.f k x x) true := by
  unfold laws_eqStarS.f
  simp only [if_true]
  exact eqStar_l x hl x.length 0 (by omega) (by omega)

theorem szStar1 (x : S44) (hx : x.f0.size ≤ maxLen) {a : Int} (h0 : 0 ≤ a) (h1 : a ≤ 1048576) : laws_szStar.f x.f0 x.f1 x.f2.f0 x.f2.f1 a = some (-1) ∨ ∃ b, laws_szStar.f x.f0 x.f1 x.f2.f0 x.f2.f1 a = some b ∧ 0 ≤ b ∧ b ≤ a := by
  unfold maxLen at hx
  unfold laws_szStar.f
  rw [w64 (x := a - (x.f0.size : Int)) (by omega) (by omega)]
  by_cases c0 : a - (x.f0.size : Int) < 0
  · left; rw [if_pos c0]
  · rw [if_neg c0]
    exact .inr ⟨_, rfl, by omega, by omega⟩
theorem szStar_l (l : List S44) (hl : l.length ≤ maxLen) (hw : ∀ y ∈ l, y.f0.size ≤ maxLen) (d : Nat) : ∀ (a : Int) (i : Nat), i ≤ l.length → l.length - i = d → 0 ≤ a → a ≤ 1048576 →
    Ev (fun k => laws_szStarS.l0 k l a i) (-1) ∨ ∃ b, Ev (fun k => laws_szStarS.l0 k l a i) b ∧ 0 ≤ b ∧ b ≤ a := by
  unfold maxLen at hl
  induction d with
  | zero =>
    intro a i hi hd h0 h1
    refine .inr ⟨a, ev_succ ?_, h0, Int.le_refl _⟩
    simp only [laws_szStarS.l0, if_neg (show ¬ (i : Int) < (l.length : Int) by omega)]
    exact ev_const rfl
  | succ d ih =>
    intro a i hi hd h0 h1
    have hlt : i < l.length := by omega
    rcases szStar1 l[i] (hw _ (List.getElem_mem hlt)) h0 h1 with e | ⟨b, e, b0, b1⟩
    · refine .inl (ev_succ ?_)
      simp only [laws_szStarS.l0, if_pos (show (i : Int) < (l.length : Int) by omega), if_pos (show (0 : Int) ≤ (i : Int) by omega), rd_T44_at _ _ hlt, e, Option.bind_some, if_pos (show (-1 : Int) < 0 by omega)]
      exact ev_const rfl
    · rcases ih b (i + 1) (by omega) (by omega) b0 (by omega) with e2 | ⟨c, e2, c0, c1⟩
      · refine .inl (ev_succ ?_)
        simp only [laws_szStarS.l0, if_pos (show (i : Int) < (l.length : Int) by omega), if_pos (show (0 : Int) ≤ (i : Int) by omega), rd_T44_at _ _ hlt, e, Option.bind_some, if_neg (show ¬ b < 0 by omega), w64 (x := (i : Int) + 1) (by omega) (by omega)]
        exact e2
      · refine .inr ⟨c, ev_succ ?_, c0, by omega⟩
        simp only [laws_szStarS.l0, if_pos (show (i : Int) < (l.length : Int) by omega), if_pos (show (0 : Int) ≤ (i : Int) by omega), rd_T44_at _ _ hlt, e, Option.bind_some, if_neg (show ¬ b < 0 by omega), w64 (x := (i : Int) + 1) (by omega) (by omega)]
        exact e2
/-- The count of a list: none is left (the law then says nothing), or the list is short. -/
theorem szStar_ev (l : List S44) (hl : l.length ≤ maxLen) (hw : ∀ y ∈ l, y.f0.size ≤ maxLen) {a : Int} (h0 : 0 ≤ a) (h1 : a ≤ 1048576) :
    Ev (fun k => laws_szStarS.f k l a) (-1) ∨ ∃ b, Ev (fun k => laws_szStarS.f k l a) b ∧ 0 ≤ b ∧ b ≤ a - l.length := by
  have hm := hl
  unfold maxLen at hm
  by_cases h : a - (l.length : Int) < 0
  · refine .inl (Ev.congr (fun k => by unfold laws_szStarS.f; rw [w64 (x := a - (l.length : Int)) (by omega) (by omega), if_pos h]) (Ev.now (-1)))
  · rcases szStar_l l hl hw l.length (a - l.length) 0 (by omega) (by omega) (by omega) (by omega) with e | ⟨b, e, b0, b1⟩
    · exact .inl (Ev.congr (fun k => by unfold laws_szStarS.f; rw [w64 (x := a - (l.length : Int)) (by omega) (by omega), if_neg h]; rfl) e)
    · exact .inr ⟨b, Ev.congr (fun k => by unfold laws_szStarS.f; rw [w64 (x := a - (l.length : Int)) (by omega) (by omega), if_neg h]; rfl) e, b0, b1⟩

theorem rd_T105_at (l : List S105) (i : Nat) (h : i < l.length) : rd_T105 l (i : Int) = l[i] := by
  unfold rd_T105
  rw [Int.toNat_natCast, List.getD_eq_getElem?_getD, List.getElem?_eq_getElem h]
  rfl

theorem rd_T103_at (l : List S103) (i : Nat) (h : i < l.length) : rd_T103 l (i : Int) = l[i] := by
  unfold rd_T103
  rw [Int.toNat_natCast, List.getD_eq_getElem?_getD, List.getElem?_eq_getElem h]
  rfl

def cvLine (x : S105) : S103 := ⟨x.f0, x.f1⟩
theorem take_set_Line (x : List S103) (i : Nat) (v : S103) (h : i < x.length) : (x.set i v).take (i + 1) = x.take i ++ [v] := by
  rw [List.take_succ_eq_append_getElem (by simpa using h), List.getElem_set_self, List.take_set_of_le (Nat.le_refl _)]
theorem toLine_l (l : List S105) (hl : l.length ≤ 1048576) (d : Nat) : ∀ (x : List S103) (i : Nat), i ≤ l.length → l.length - i = d → x.length = l.length → x.take i = (l.map cvLine).take i → Ev (fun k => laws_toLineS.l0 k l x i) (l.map cvLine) := by
  induction d with
  | zero =>
    intro x i hi hd hx ht
    apply ev_succ
    simp only [laws_toLineS.l0]
    rw [List.take_of_length_le (by omega), List.take_of_length_le (by simp; omega)] at ht
    simp only [if_neg (show ¬ (i : Int) < (l.length : Int) by omega)]
    rw [ht]
    exact ev_const rfl
  | succ d ih =>
    intro x i hi hd hx ht
    have hlt : i < l.length := by omega
    apply ev_succ
    simp only [laws_toLineS.l0, laws_toLine.f, Option.bind_some, if_pos (show (i : Int) < (l.length : Int) by omega), if_pos (show (0 : Int) ≤ (i : Int) by omega), if_pos (show (i : Int) < (x.length : Int) by omega), rd_T105_at _ _ hlt, w64 (x := (i : Int) + 1) (by omega) (by omega), Int.toNat_natCast]
    exact ih (x.set i (cvLine l[i])) (i + 1) (by omega) (by omega) (by simpa using hx) (by rw [take_set_Line _ _ _ (by omega), List.take_succ_eq_append_getElem (by simpa using hlt), ht, List.getElem_map])
theorem toLine_ev (l : List S105) (hl : l.length ≤ 1048576) : Ev (fun k => laws_toLineS.f k l) (l.map cvLine) := by
  refine Ev.congr (fun k => by unfold laws_toLineS.f; rw [if_pos (by omega), if_pos (by omega)]) ?_
  exact toLine_l l hl l.length _ 0 (by omega) (by omega) (by simp) (by simp)

theorem eqLine_l (x : List S103) (hl : x.length ≤ 1048576) (d : Nat) : ∀ (i : Nat), i ≤ x.length → x.length - i = d → Ev (fun k => laws_eqLineS.l0 k x x i) true := by
  induction d with
  | zero =>
    intro i hi hd
    apply ev_succ
    simp only [laws_eqLineS.l0, if_neg (show ¬ (i : Int) < (x.length : Int) by omega)]
    exact ev_const rfl
  | succ d ih =>
    intro i hi hd
    apply ev_succ
    simp only [laws_eqLineS.l0, laws_eqLine.f, if_true, Option.bind_some, if_pos (show (i : Int) < (x.length : Int) by omega), if_pos (show (0 : Int) ≤ (i : Int) by omega), w64 (x := (i : Int) + 1) (by omega) (by omega)]
    exact ih (i + 1) (by omega) (by omega)
theorem eqLine_ev (x : List S103) (hl : x.length ≤ 1048576) : Ev (fun k => laws_eqLineS.f k x x) true := by
  unfold laws_eqLineS.f
  simp only [if_true]
  exact eqLine_l x hl x.length 0 (by omega) (by omega)

theorem szLine_val (l : List S105) (hl : l.length ≤ maxLen) {a : Int} (h0 : 0 ≤ a) (h1 : a ≤ 1048576) : laws_szLineS.f l a = some (-1) ∨ (laws_szLineS.f l a = some (a - l.length) ∧ 0 ≤ a - l.length) := by
  unfold maxLen at hl
  unfold laws_szLineS.f
  rw [w64 (x := a - (l.length : Int)) (by omega) (by omega)]
  by_cases h : a - (l.length : Int) < 0
  · left; rw [if_pos h]
  · right; rw [if_neg h]; exact ⟨rfl, by omega⟩

theorem rd_at (l : List Int) (i : Nat) (h : i < l.length) : rd l (i : Int) = l[i] := by
  unfold rd
  rw [Int.toNat_natCast, List.getD_eq_getElem?_getD, List.getElem?_eq_getElem h]
  rfl

theorem eqInt64_l (x : List Int) (hl : x.length ≤ 17592186044416) (d : Nat) : ∀ (i : Nat), i ≤ x.length → x.length - i = d → Ev (fun k => laws_eqInt64S.l0 k x x i) true := by
  induction d with
  | zero =>
    intro i hi hd
    apply ev_succ
    simp only [laws_eqInt64S.l0, if_neg (show ¬ (i : Int) < (x.length : Int) by omega)]
    exact ev_const rfl
  | succ d ih =>
    intro i hi hd
    apply ev_succ
    simp only [laws_eqInt64S.l0, if_true, Option.bind_some, if_pos (show (i : Int) < (x.length : Int) by omega), if_pos (show (0 : Int) ≤ (i : Int) by omega), w64 (x := (i : Int) + 1) (by omega) (by omega)]
    exact ih (i + 1) (by omega) (by omega)
theorem eqInt64_ev (x : List Int) (hl : x.length ≤ 17592186044416) : Ev (fun k => laws_eqInt64S.f k x x) true := by
  unfold laws_eqInt64S.f
  simp only [if_true]
  exact eqInt64_l x hl x.length 0 (by omega) (by omega)

def mkInt64 (x : Int) (a : Int) : Int := a
theorem markInt64_l (n : Nat) (hn : n ≤ 17592186044416) (d : Nat) : ∀ (x : List Int) (a : Int) (i : Nat), x.length = n → i ≤ n → n - i = d → 0 ≤ a → a ≤ 1000000 + 1 * (i : Int) →
    ∃ b y, Ev (fun k => laws_markInt64S.l0 k x a i) (b, y) ∧ Ev (fun k => laws_heldInt64S.l0 k y a i) b ∧ y.length = n ∧ y.take i = x.take i ∧ 0 ≤ b := by
  induction d with
  | zero =>
    intro x a i hx hi hd h0 h1
    refine ⟨a, x, ev_succ ?_, ev_succ ?_, hx, rfl, h0⟩
    · simp only [laws_markInt64S.l0, if_neg (show ¬ (i : Int) < (x.length : Int) by omega)]
      exact ev_const rfl
    · simp only [laws_heldInt64S.l0, if_neg (show ¬ (i : Int) < (x.length : Int) by omega)]
      exact ev_const rfl
  | succ d ih =>
    intro x a i hx hi hd h0 h1
    have hlt : i < x.length := by omega
    obtain ⟨b, y, e1, e2, hy, ht, hb⟩ := ih (x.set i (mkInt64 x[i] a)) (a + 1) (i + 1) (by simpa using hx) (by omega) (by omega) (by omega) (by omega)
    have hyi : y[i]'(by omega) = mkInt64 x[i] a := by
      have h2 : y[i]'(by omega) = (y.take (i + 1))[i]'(by rw [List.length_take]; omega) := by rw [List.getElem_take]
      rw [h2]
      simp only [ht, List.getElem_take, List.getElem_set_self]
    refine ⟨b, y, ev_succ ?_, ev_succ ?_, hy, ?_, hb⟩
    · simp only [laws_markInt64S.l0, Option.bind_some, Int.toNat_natCast, if_pos (show (i : Int) < (x.length : Int) by omega), if_pos (show (0 : Int) ≤ (i : Int) by omega)]
      simp only [w64 (x := a + 1) (by omega) (by omega), w64 (x := (i : Int) + 1) (by omega) (by omega)]
      exact e1
    · simp only [laws_heldInt64S.l0, if_pos (show (i : Int) < (y.length : Int) by omega), if_pos (show (0 : Int) ≤ (i : Int) by omega)]
      simp only [rd_at _ _ (show i < y.length by omega), hyi, mkInt64, if_true, w64 (x := a + 1) (by omega) (by omega), w64 (x := (i : Int) + 1) (by omega) (by omega)]
      exact e2
    · have h3 : y.take i = (y.take (i + 1)).take i := by rw [List.take_take]; congr 1; omega
      rw [h3, ht, List.take_take, Nat.min_eq_left (by omega), List.take_set_of_le (Nat.le_refl _)]
theorem markInt64_ev (x : List Int) (hn : x.length ≤ 17592186044416) {a : Int} (h0 : 0 ≤ a) (h1 : a ≤ 1000000) : ∃ b y, Ev (fun k => laws_markInt64S.f k x a) (b, y) ∧ Ev (fun k => laws_heldInt64S.f k y a) b ∧ y.length = x.length ∧ 0 ≤ b := by
  obtain ⟨b, y, e1, e2, hy, _, hb⟩ := markInt64_l x.length hn x.length x a 0 rfl (by omega) (by omega) h0 (by omega)
  exact ⟨b, y, e1, e2, hy, hb⟩

/-- What a star of a catalogue must hold. -/
def StarOk (x : S49) : Prop := IsNm x.f0 ∧ ((1 : Int) ≤ x.f1 ∧ x.f1 ≤ 6) ∧ SpotP x.f2.f0 x.f2.f1
instance instStarOk (x : S49) : Decidable (StarOk x) := by unfold StarOk; infer_instance
theorem spec_star (x : S49) : Ev (fun k => spec_l16One.f k x.f0 x.f1 x.f2.f0 x.f2.f1) (decide (StarOk x)) := by
  unfold spec_l16One.f
  refine Ev.bind (spec_name x.f0) ?_
  by_cases h1 : IsNm x.f0
  · simp only [decide_eq_true h1, if_true, in_val, Option.bind_some, l02Ok_val]
    by_cases h2 : 1 ≤ x.f1 ∧ x.f1 ≤ 6
    · simp only [decide_eq_true h2, if_true]
      exact ev_const (congrArg some (decide_eq_decide.2 ⟨fun h => ⟨h1, h2, h⟩, fun h => h.2.2⟩))
    · simp only [decide_eq_false h2, Bool.false_eq_true, if_false]
      exact ev_const (by rw [decide_eq_false (show ¬ StarOk x from fun h => h2 h.2.1)])
  · simp only [decide_eq_false h1, Bool.false_eq_true, if_false]
    exact ev_const (by rw [decide_eq_false (show ¬ StarOk x from fun h => h1 h.1)])
theorem impl_star (x : S49) : impl_isStar.f x.f0 x.f1 x.f2.f0 x.f2.f1 = some (decide (StarOk x)) := by
  unfold impl_isStar.f impl_isClass.f
  simp only [impl_name, within_val, Option.bind_some, iValidSpot_val]
  by_cases h1 : IsNm x.f0
  · simp only [decide_eq_true h1, if_true]
    by_cases h2 : 1 ≤ x.f1 ∧ x.f1 ≤ 6
    · simp only [decide_eq_true h2, if_true]
      exact congrArg some (decide_eq_decide.2 ⟨fun h => ⟨h1, h2, h⟩, fun h => h.2.2⟩)
    · simp only [decide_eq_false h2, Bool.false_eq_true, if_false]
      rw [decide_eq_false (show ¬ StarOk x from fun h => h2 h.2.1)]
  · simp only [decide_eq_false h1, Bool.false_eq_true, if_false]
    rw [decide_eq_false (show ¬ StarOk x from fun h => h1 h.1)]
theorem starB_val (x : S49) : starB x = decide (StarOk x) := by unfold starB; rw [impl_star]; rfl
/-- A valid catalogue. -/
def catB (l : List S49) : Bool := (List.range l.length).all (starAt l) && decide ((l.length : Int) ≤ 30)
theorem icat_val (l : List S49) : impl_ValidCatalogue.f l = some (catB l) := rfl
theorem starAt_val (l : List S49) (i : Nat) (h : i < l.length) : starAt l i = (decide (StarOk l[i]) && !(l.take i).any (fun y => y.f0.toList == l[i].f0.toList)) := by
  unfold starAt
  rw [rd_T49_at _ _ h, starB_val]
theorem catB_ok {l : List S49} (h : catB l = true) : (l.length : Int) ≤ 30 ∧ ∀ x ∈ l, StarOk x := by
  unfold catB at h
  rw [Bool.and_eq_true, List.all_eq_true] at h
  refine ⟨of_decide_eq_true h.2, fun x hx => ?_⟩
  obtain ⟨j, hj, rfl⟩ := List.getElem_of_mem hx
  have := h.1 j (List.mem_range.2 hj)
  rw [starAt_val _ _ hj, Bool.and_eq_true] at this
  exact of_decide_eq_true this.1
theorem scat_in (l : List S49) (hl : l.length ≤ 1048576) (i : Nat) (hi : i < l.length) (R : Bool) (hR : Ev (fun k => spec_l16Ok.l0 k l ((i + 1 : Nat) : Int)) R) (e : Nat) : ∀ (j : Nat), j ≤ i → i - j = e →
    Ev (fun k => spec_l16Ok.l1 k l i j) (!((l.take i).drop j).any (fun y => y.f0.toList == l[i].f0.toList) && R) := by
  induction e with
  | zero =>
    intro j hj he
    rw [List.drop_eq_nil_of_le (by rw [List.length_take]; omega)]
    apply ev_succ
    simp only [spec_l16Ok.l1, if_neg (show ¬ (j : Int) < (i : Int) by omega), List.any_nil, Bool.not_false, Bool.true_and, w64 (x := (i : Int) + 1) (by omega) (by omega)]
    exact hR
  | succ e ih =>
    intro j hj he
    have hjl : j < l.length := by omega
    have hd : ((l.take i).drop j).any (fun y => y.f0.toList == l[i].f0.toList) = ((l[j].f0.toList == l[i].f0.toList) || ((l.take i).drop (j + 1)).any (fun y => y.f0.toList == l[i].f0.toList)) := by
      rw [List.drop_eq_getElem_cons (show j < (l.take i).length by rw [List.length_take]; omega), List.any_cons, List.getElem_take]
    have h1 := ih (j + 1) (by omega) (by omega)
    rw [hd]
    apply ev_succ
    by_cases c : l[j].f0.toList = l[i].f0.toList
    · simp only [spec_l16Ok.l1, if_pos (show (j : Int) < (i : Int) by omega), if_pos (show (0 : Int) ≤ (j : Int) by omega), if_pos (show (j : Int) < (l.length : Int) by omega), if_pos (show (0 : Int) ≤ (i : Int) by omega), if_pos (show (i : Int) < (l.length : Int) by omega), rd_T49_at _ _ hi, rd_T49_at _ _ hjl, if_pos c, beq_iff_eq.2 c, Bool.true_or, Bool.not_true, Bool.false_and]
      exact ev_const rfl
    · simp only [spec_l16Ok.l1, if_pos (show (j : Int) < (i : Int) by omega), if_pos (show (0 : Int) ≤ (j : Int) by omega), if_pos (show (j : Int) < (l.length : Int) by omega), if_pos (show (0 : Int) ≤ (i : Int) by omega), if_pos (show (i : Int) < (l.length : Int) by omega), rd_T49_at _ _ hi, rd_T49_at _ _ hjl, if_neg c, beq_eq_false_iff_ne.2 c, Bool.false_or, w64 (x := (j : Int) + 1) (by omega) (by omega)]
      exact h1
theorem scat_l (l : List S49) (hl : l.length ≤ 1048576) (d : Nat) : ∀ (i : Nat), i ≤ l.length → l.length - i = d → Ev (fun k => spec_l16Ok.l0 k l i) ((List.range' i d).all (starAt l) && decide ((l.length : Int) ≤ 30)) := by
  induction d with
  | zero =>
    intro i hi hd
    apply ev_succ
    simp only [spec_l16Ok.l0, if_neg (show ¬ (i : Int) < (l.length : Int) by omega)]
    exact ev_const rfl
  | succ d ih =>
    intro i hi hd
    have hlt : i < l.length := by omega
    have h1 := ih (i + 1) (by omega) (by omega)
    rw [List.range'_succ, List.all_cons, starAt_val _ _ hlt]
    apply ev_succ
    simp only [spec_l16Ok.l0, if_pos (show (i : Int) < (l.length : Int) by omega), if_pos (show (0 : Int) ≤ (i : Int) by omega), rd_T49_at _ _ hlt]
    refine Ev.bind (spec_star l[i]) ?_
    by_cases c : StarOk l[i]
    · simp only [decide_eq_true c, if_true, Bool.true_and, Bool.and_assoc]
      exact scat_in l hl i hlt _ h1 i 0 (by omega) (by omega)
    · simp only [decide_eq_false c, Bool.false_eq_true, if_false, Bool.false_and]
      exact ev_const rfl
theorem scat_ev (l : List S49) (hl : l.length ≤ 1048576) : Ev (fun k => spec_l16Ok.f k l) (catB l) := by
  have h := scat_l l hl l.length 0 (by omega) (by omega)
  unfold catB
  rw [List.range_eq_range']
  exact h

/-- What a line of a figure must hold. -/
def LineOk (n : Int) (x : S103) : Prop := (0 : Int) ≤ x.f0 ∧ x.f0 < x.f1 ∧ x.f1 < n
theorem figure_l (l : List S49) (hl : l.length ≤ 1048576) (m : List S103) (hm : m.length ≤ 1048576) (d : Nat) : ∀ (i : Nat), i ≤ m.length → m.length - i = d →
    ∃ r, Ev (fun k => spec_l16Figure.l0 k l m l.length i) r ∧ Ev (fun k => impl_ValidFigure.l0 k l m m m.length i) r ∧ (r = true → (∀ x ∈ m.drop i, LineOk l.length x) ∧ (m.length : Int) ≤ 40 ∧ catB l = true) := by
  induction d with
  | zero =>
    intro i hi hd
    refine ⟨if catB l = true then decide ((m.length : Int) ≤ 40) else false, ev_succ ?_, ev_succ ?_, ?_⟩
    · simp only [spec_l16Figure.l0, if_neg (show ¬ (i : Int) < (m.length : Int) by omega)]
      refine Ev.bind (scat_ev l hl) ?_
      cases catB l
      · exact ev_const rfl
      · exact ev_const rfl
    · simp only [impl_ValidFigure.l0, if_neg (show ¬ (i : Int) < (m.length : Int) by omega), icat_val, Option.bind_some]
      cases catB l
      · exact ev_const rfl
      · exact ev_const rfl
    · rw [List.drop_eq_nil_of_le (by omega)]
      cases catB l
      · simp
      · simp
  | succ d ih =>
    intro i hi hd
    have hlt : i < m.length := by omega
    obtain ⟨r, h1, h2, h3⟩ := ih (i + 1) (by omega) (by omega)
    have hdr : m.drop i = m[i] :: m.drop (i + 1) := List.drop_eq_getElem_cons hlt
    by_cases c : LineOk l.length m[i]
    · have c' : (0 : Int) ≤ m[i].f0 ∧ m[i].f0 < m[i].f1 ∧ m[i].f1 < (l.length : Int) := c
      have hs : ∀ v, Ev (fun k => spec_l16Figure.j1 k l m l.length i false m[i].f0 m[i].f1) v → Ev (fun k => spec_l16Figure.l0 k l m l.length i) v := by
        intro v hv
        apply ev_succ
        simp only [spec_l16Figure.l0, if_pos (show (i : Int) < (m.length : Int) by omega), if_pos (show (0 : Int) ≤ (i : Int) by omega), rd_T103_at _ _ hlt, in_val, Option.bind_some, w64 (x := (l.length : Int) - 1) (by omega) (by omega), w64 (x := m[i].f0 + 1) (by omega) (by omega), decide_eq_true (show (0 : Int) ≤ m[i].f0 ∧ m[i].f0 ≤ (l.length : Int) - 1 by omega), if_true, decide_eq_true (show m[i].f0 + 1 ≤ m[i].f1 ∧ m[i].f1 ≤ (l.length : Int) - 1 by omega), Bool.not_true]
        exact hv
      have hp : ∀ v, Ev (fun k => impl_ValidFigure.j1 k l m i m m.length i false m[i].f0 m[i].f1) v → Ev (fun k => impl_ValidFigure.l0 k l m m m.length i) v := by
        intro v hv
        apply ev_succ
        simp only [impl_ValidFigure.l0, if_pos (show (i : Int) < (m.length : Int) by omega), if_pos (show (0 : Int) ≤ (i : Int) by omega), rd_T103_at _ _ hlt, if_neg (show ¬ m[i].f0 < 0 by omega), if_neg (show ¬ m[i].f0 ≥ m[i].f1 by omega), decide_eq_false (show ¬ m[i].f1 ≥ (l.length : Int) by omega)]
        exact hv
      have hr : r = true → (∀ x ∈ m.drop i, LineOk l.length x) ∧ (m.length : Int) ≤ 40 ∧ catB l = true := by
        intro e
        have h4 := h3 e
        refine ⟨?_, h4.2⟩
        rw [hdr, List.forall_mem_cons]
        exact ⟨c, h4.1⟩
      by_cases c0 : i = 0
      · refine ⟨r, hs _ (ev_succ ?_), hp _ (ev_succ ?_), hr⟩
        · simp only [spec_l16Figure.j1, Bool.false_eq_true, if_false, if_neg (show ¬ (i : Int) > 0 by omega), w64 (x := (i : Int) + 1) (by omega) (by omega)]
          exact h1
        · simp only [impl_ValidFigure.j1, Bool.false_eq_true, if_false, if_neg (show ¬ (i : Int) > 0 by omega), w64 (x := (i : Int) + 1) (by omega) (by omega)]
          exact h2
      · by_cases c1 : (rd_T103 m ((i : Int) - 1)).f0 > m[i].f0
        · refine ⟨false, hs _ (ev_succ ?_), hp _ (ev_succ ?_), by simp⟩
          · simp only [spec_l16Figure.j1, Bool.false_eq_true, if_false, if_pos (show (i : Int) > 0 by omega), w64 (x := (i : Int) - 1) (by omega) (by omega), if_pos (show (0 : Int) ≤ (i : Int) - 1 by omega), if_pos (show (i : Int) - 1 < (m.length : Int) by omega), if_pos c1]
            exact ev_const rfl
          · simp only [impl_ValidFigure.j1, Bool.false_eq_true, if_false, if_pos (show (i : Int) > 0 by omega), w64 (x := (i : Int) - 1) (by omega) (by omega), if_pos (show (0 : Int) ≤ (i : Int) - 1 by omega), if_pos (show (i : Int) - 1 < (m.length : Int) by omega), if_pos c1]
            exact ev_const rfl
        · by_cases c2 : (rd_T103 m ((i : Int) - 1)).f0 = m[i].f0
          · by_cases c3 : (rd_T103 m ((i : Int) - 1)).f1 ≥ m[i].f1
            · refine ⟨false, hs _ (ev_succ ?_), hp _ (ev_succ ?_), by simp⟩
              · simp only [spec_l16Figure.j1, Bool.false_eq_true, if_false, if_pos (show (i : Int) > 0 by omega), w64 (x := (i : Int) - 1) (by omega) (by omega), if_pos (show (0 : Int) ≤ (i : Int) - 1 by omega), if_pos (show (i : Int) - 1 < (m.length : Int) by omega), if_neg c1, if_pos c2, if_pos c3]
                exact ev_const rfl
              · simp only [impl_ValidFigure.j1, Bool.false_eq_true, if_false, if_pos (show (i : Int) > 0 by omega), w64 (x := (i : Int) - 1) (by omega) (by omega), if_pos (show (0 : Int) ≤ (i : Int) - 1 by omega), if_pos (show (i : Int) - 1 < (m.length : Int) by omega), if_neg c1, if_pos c2, if_pos c3]
                exact ev_const rfl
            · refine ⟨r, hs _ (ev_succ ?_), hp _ (ev_succ ?_), hr⟩
              · simp only [spec_l16Figure.j1, Bool.false_eq_true, if_false, if_pos (show (i : Int) > 0 by omega), w64 (x := (i : Int) - 1) (by omega) (by omega), if_pos (show (0 : Int) ≤ (i : Int) - 1 by omega), if_pos (show (i : Int) - 1 < (m.length : Int) by omega), if_neg c1, if_pos c2, if_neg c3, w64 (x := (i : Int) + 1) (by omega) (by omega)]
                exact h1
              · simp only [impl_ValidFigure.j1, Bool.false_eq_true, if_false, if_pos (show (i : Int) > 0 by omega), w64 (x := (i : Int) - 1) (by omega) (by omega), if_pos (show (0 : Int) ≤ (i : Int) - 1 by omega), if_pos (show (i : Int) - 1 < (m.length : Int) by omega), if_neg c1, if_pos c2, if_neg c3, w64 (x := (i : Int) + 1) (by omega) (by omega)]
                exact h2
          · refine ⟨r, hs _ (ev_succ ?_), hp _ (ev_succ ?_), hr⟩
            · simp only [spec_l16Figure.j1, Bool.false_eq_true, if_false, if_pos (show (i : Int) > 0 by omega), w64 (x := (i : Int) - 1) (by omega) (by omega), if_pos (show (0 : Int) ≤ (i : Int) - 1 by omega), if_pos (show (i : Int) - 1 < (m.length : Int) by omega), if_neg c1, if_neg c2, w64 (x := (i : Int) + 1) (by omega) (by omega)]
              exact h1
            · simp only [impl_ValidFigure.j1, Bool.false_eq_true, if_false, if_pos (show (i : Int) > 0 by omega), w64 (x := (i : Int) - 1) (by omega) (by omega), if_pos (show (0 : Int) ≤ (i : Int) - 1 by omega), if_pos (show (i : Int) - 1 < (m.length : Int) by omega), if_neg c1, if_neg c2, w64 (x := (i : Int) + 1) (by omega) (by omega)]
              exact h2
    · have c' : ¬ ((0 : Int) ≤ m[i].f0 ∧ m[i].f0 < m[i].f1 ∧ m[i].f1 < (l.length : Int)) := c
      have hj : Ev (fun k => spec_l16Figure.j1 k l m l.length i true m[i].f0 m[i].f1) false := ev_succ (by simp only [spec_l16Figure.j1, if_true]; exact ev_const rfl)
      have hj2 : Ev (fun k => impl_ValidFigure.j1 k l m i m m.length i true m[i].f0 m[i].f1) false := ev_succ (by simp only [impl_ValidFigure.j1, if_true]; exact ev_const rfl)
      refine ⟨false, ev_succ ?_, ev_succ ?_, by simp⟩
      · simp only [spec_l16Figure.l0, if_pos (show (i : Int) < (m.length : Int) by omega), if_pos (show (0 : Int) ≤ (i : Int) by omega), rd_T103_at _ _ hlt, in_val, Option.bind_some, w64 (x := (l.length : Int) - 1) (by omega) (by omega)]
        by_cases c1 : (0 : Int) ≤ m[i].f0 ∧ m[i].f0 ≤ (l.length : Int) - 1
        · simp only [decide_eq_true c1, if_true, w64 (x := m[i].f0 + 1) (by omega) (by omega), decide_eq_false (show ¬ (m[i].f0 + 1 ≤ m[i].f1 ∧ m[i].f1 ≤ (l.length : Int) - 1) by omega), Bool.not_false]
          exact hj
        · simp only [decide_eq_false c1, Bool.false_eq_true, if_false]
          exact hj
      · simp only [impl_ValidFigure.l0, if_pos (show (i : Int) < (m.length : Int) by omega), if_pos (show (0 : Int) ≤ (i : Int) by omega), rd_T103_at _ _ hlt]
        by_cases c1 : m[i].f0 < 0
        · simp only [if_pos c1]
          exact hj2
        · by_cases c2 : m[i].f0 ≥ m[i].f1
          · simp only [if_neg c1, if_pos c2]
            exact hj2
          · simp only [if_neg c1, if_neg c2, decide_eq_true (show m[i].f1 ≥ (l.length : Int) by omega)]
            exact hj2
theorem figure_same (l : List S49) (hl : l.length ≤ 1048576) (m : List S103) (hm : m.length ≤ 1048576) :
    ∃ r, Ev (fun k => spec_l16Figure.f k l m) r ∧ Ev (fun k => impl_ValidFigure.f k l m) r ∧ (r = true → (∀ x ∈ m, LineOk l.length x) ∧ (m.length : Int) ≤ 40 ∧ catB l = true) :=
  figure_l l hl m hm m.length 0 (by omega) (by omega)

theorem markText_l (d : Nat) : ∀ (a : Int) (s : ByteArray), 0 ≤ a → a ≤ d → (s.size : Int) + a ≤ 8000000 → ∃ t, Ev (fun k => laws_markText.l0 k a s) t := by
  induction d with
  | zero =>
    intro a s h0 h1 h2
    refine ⟨(⟨#[109]⟩ : ByteArray) ++ s, ev_succ ?_⟩
    simp only [laws_markText.l0, if_neg (show ¬ a > 0 by omega), if_pos (show 1 + s.size ≤ 9223372036854775807 by omega)]
    exact ev_const rfl
  | succ d ih =>
    intro a s h0 h1 h2
    by_cases ha : a > 0
    · have hq : a / 10 < a := Int.ediv_lt_of_lt_mul (by omega) (by omega)
      have hq0 : 0 ≤ a / 10 := Int.ediv_nonneg h0 (by omega)
      obtain ⟨t, ht⟩ := ih (a / 10) (strOfNums [(wrap64 (48 + (Int.tmod a 10))) % 256] ++ s) hq0 (by omega) (by rw [ByteArray.size_append, strOfNums_size, List.length_singleton]; omega)
      refine ⟨t, ev_succ ?_⟩
      simp only [laws_markText.l0, if_pos ha, Option.bind_some, if_pos (show (strOfNums [(wrap64 (48 + (Int.tmod a 10))) % 256]).size + s.size ≤ 9223372036854775807 by rw [strOfNums_size, List.length_singleton]; omega), tdiv_nn h0, w64 (x := a / 10) (by omega) (by omega)]
      exact ht
    · refine ⟨(⟨#[109]⟩ : ByteArray) ++ s, ev_succ ?_⟩
      simp only [laws_markText.l0, if_neg ha, if_pos (show 1 + s.size ≤ 9223372036854775807 by omega)]
      exact ev_const rfl
theorem markText_ev {a : Int} (h0 : 0 ≤ a) (h1 : a ≤ 7000000) : ∃ t, Ev (fun k => laws_markText.f k a) t := by
  unfold laws_markText.f
  by_cases h : a ≤ 0
  · simp only [if_pos h]; exact ⟨_, ev_const rfl⟩
  · simp only [if_neg h]
    exact markText_l a.toNat a _ h0 (by omega) (by simp only [ByteArray.size, List.size_toArray, List.length_nil]; omega)

theorem markSt_l (n : Nat) (hn : n ≤ 1048576) (d : Nat) : ∀ (x : List S49) (a : Int) (i : Nat), x.length = n → i ≤ n → n - i = d → 0 ≤ a → a ≤ 1000000 + 4 * (i : Int) →
    ∃ b y, Ev (fun k => laws_markStarS.l0 k x a i) (b, y) ∧ 0 ≤ b ∧ b ≤ a + 4 * ((n : Int) - i) := by
  induction d with
  | zero =>
    intro x a i hx hi hd h0 h1
    refine ⟨a, x, ev_succ ?_, h0, by omega⟩
    simp only [laws_markStarS.l0, if_neg (show ¬ (i : Int) < (x.length : Int) by omega)]
    exact ev_const rfl
  | succ d ih =>
    intro x a i hx hi hd h0 h1
    have hlt : i < x.length := by omega
    obtain ⟨t, ht⟩ := markText_ev h0 (show a ≤ 7000000 by omega)
    obtain ⟨b, y, e, hb, hb2⟩ := ih (x.set i ⟨t, a + 1, ⟨a + 1 + 1, a + 1 + 1 + 1⟩⟩) (a + 1 + 1 + 1 + 1) (i + 1) (by simpa using hx) (by omega) (by omega) (by omega) (by omega)
    have hrs : ∀ v : S49, rd_T49 (x.set i v) (i : Int) = v := by
      intro v
      have h3 : i < (x.set i v).length := by rw [List.length_set]; exact hlt
      rw [rd_T49_at (x.set i v) i h3, List.getElem_set_self]
    refine ⟨b, y, ev_succ ?_, hb, by omega⟩
    simp only [laws_markStarS.l0, Option.bind_some, Int.toNat_natCast, if_pos (show (i : Int) < (x.length : Int) by omega), if_pos (show (0 : Int) ≤ (i : Int) by omega), w64 (x := a + 1) (by omega) (by omega), w64 (x := a + 1 + 1) (by omega) (by omega), w64 (x := a + 1 + 1 + 1) (by omega) (by omega), w64 (x := a + 1 + 1 + 1 + 1) (by omega) (by omega), w64 (x := (i : Int) + 1) (by omega) (by omega), hrs, List.set_set]
    exact Ev.bind ht e
theorem markSt_up (x : List S49) (hn : x.length ≤ 1048576) {a : Int} (h0 : 0 ≤ a) (h1 : a ≤ 1000000) : ∃ b y, Ev (fun k => laws_markStarS.f k x a) (b, y) ∧ 0 ≤ b ∧ b ≤ a + 4 * (x.length : Int) := by
  obtain ⟨b, y, e, hb, hb2⟩ := markSt_l x.length hn x.length x a 0 rfl (by omega) (by omega) h0 (by omega)
  exact ⟨b, y, e, hb, by omega⟩
theorem markSt_ev (x : List S49) (hn : x.length ≤ 1048576) {a : Int} (h0 : 0 ≤ a) (h1 : a ≤ 1000000) : ∃ b y, Ev (fun k => laws_markStarS.f k x a) (b, y) ∧ 0 ≤ b := by
  obtain ⟨b, y, e, hb, _⟩ := markSt_up x hn h0 h1
  exact ⟨b, y, e, hb⟩

theorem markL0_l (n : Nat) (hn : n ≤ 1048576) (d : Nat) : ∀ (x : List S103) (a : Int) (i : Nat), x.length = n → i ≤ n → n - i = d → 0 ≤ a → a ≤ 8000000 + 2 * (i : Int) →
    ∃ b y, Ev (fun k => laws_markLineS.l0 k x a i) (b, y) ∧ 0 ≤ b := by
  induction d with
  | zero =>
    intro x a i hx hi hd h0 h1
    refine ⟨a, x, ev_succ ?_, h0⟩
    simp only [laws_markLineS.l0, if_neg (show ¬ (i : Int) < (x.length : Int) by omega)]
    exact ev_const rfl
  | succ d ih =>
    intro x a i hx hi hd h0 h1
    have hlt : i < x.length := by omega
    obtain ⟨b, y, e1, hb⟩ := ih (x.set i ⟨a, a + 1⟩) (a + 1 + 1) (i + 1) (by simpa using hx) (by omega) (by omega) (by omega) (by omega)
    have hrs : ∀ v : S103, rd_T103 (x.set i v) (i : Int) = v := by
      intro v
      have h3 : i < (x.set i v).length := by rw [List.length_set]; exact hlt
      rw [rd_T103_at (x.set i v) i h3, List.getElem_set_self]
    refine ⟨b, y, ev_succ ?_, hb⟩
    simp only [laws_markLineS.l0, Option.bind_some, Int.toNat_natCast, if_pos (show (i : Int) < (x.length : Int) by omega), if_pos (show (0 : Int) ≤ (i : Int) by omega), w64 (x := a + 1) (by omega) (by omega), w64 (x := a + 1 + 1) (by omega) (by omega), w64 (x := (i : Int) + 1) (by omega) (by omega), hrs, List.set_set]
    exact e1
theorem markL0_ev (x : List S103) (hn : x.length ≤ 1048576) {a : Int} (h0 : 0 ≤ a) (h1 : a ≤ 8000000) : ∃ b y, Ev (fun k => laws_markLineS.f k x a) (b, y) ∧ 0 ≤ b :=
  markL0_l x.length hn x.length x a 0 rfl (by omega) (by omega) h0 (by omega)

theorem rdn_at (l : List Int) (i : Nat) (h : i < l.length) : rd l (i : Int) = l[i] := by
  unfold rd
  rw [Int.toNat_natCast, List.getD_eq_getElem?_getD, List.getElem?_eq_getElem h]
  rfl
/-- The ends of all lines. -/
def pts (m : List S103) : List Int := m.flatMap (fun x => [x.f0, x.f1])
theorem pts_cons (x : S103) (m : List S103) : pts (x :: m) = x.f0 :: x.f1 :: pts m := rfl
theorem pts_len (m : List S103) : (pts m).length = 2 * m.length := by
  induction m with
  | nil => rfl
  | cons x m ih => rw [pts_cons, List.length_cons, List.length_cons, List.length_cons, ih]; omega
theorem pts_bound {n : Int} {m : List S103} (h : ∀ x ∈ m, LineOk n x) : ∀ y ∈ pts m, 0 ≤ y ∧ y < n := by
  intro y hy
  obtain ⟨x, hx, hy⟩ := List.mem_flatMap.1 hy
  have h2 := h x hx
  unfold LineOk at h2
  simp only [List.mem_cons, List.not_mem_nil, or_false] at hy
  rcases hy with rfl | rfl <;> omega
/-- The stars that stand in lines, in ascending order. -/
def starsV (n : Nat) (m : List S103) : List Int := ((List.range n).filter (fun j : Nat => decide ((j : Int) ∈ pts m))).map (fun j : Nat => (j : Int))
theorem starsV_asc (n : Nat) (m : List S103) : (starsV n m).Pairwise (· < ·) := by
  unfold starsV
  rw [List.pairwise_map]
  refine ((List.pairwise_lt_range (n := n)).filter _).imp ?_
  intro x y h
  omega
theorem starsV_mem {n : Nat} {m : List S103} (h : ∀ x ∈ m, LineOk n x) (y : Int) : y ∈ starsV n m ↔ y ∈ pts m := by
  unfold starsV
  rw [List.mem_map]
  constructor
  · rintro ⟨j, hj, rfl⟩
    exact of_decide_eq_true (List.mem_filter.1 hj).2
  · intro hy
    have := pts_bound h y hy
    refine ⟨y.toNat, List.mem_filter.2 ⟨List.mem_range.2 (by omega), decide_eq_true ?_⟩, by omega⟩
    rw [show ((y.toNat : Nat) : Int) = y by omega]
    exact hy
theorem starsV_len (n : Nat) (m : List S103) : (starsV n m).length ≤ n := by
  unfold starsV
  rw [List.length_map]
  exact Nat.le_trans (List.length_filter_le _ _) (by simp)
theorem asc_ext : ∀ (a b : List Int), a.Pairwise (· < ·) → b.Pairwise (· < ·) → (∀ x, x ∈ a ↔ x ∈ b) → a = b
  | [], [], _, _, _ => rfl
  | [], y :: b, _, _, h => absurd ((h y).2 List.mem_cons_self) (by simp)
  | x :: a, [], _, _, h => absurd ((h x).1 List.mem_cons_self) (by simp)
  | x :: a, y :: b, ha, hb, h => by
    rw [List.pairwise_cons] at ha hb
    have hxy : x = y := by
      rcases List.mem_cons.1 ((h x).1 List.mem_cons_self) with e | e
      · exact e
      · rcases List.mem_cons.1 ((h y).2 List.mem_cons_self) with e2 | e2
        · exact e2.symm
        · have := hb.1 x e
          have := ha.1 y e2
          omega
    subst hxy
    congr 1
    refine asc_ext a b ha.2 hb.2 (fun z => ⟨fun hz => ?_, fun hz => ?_⟩)
    · rcases List.mem_cons.1 ((h z).1 (List.mem_cons_of_mem _ hz)) with e | e
      · subst e
        have := ha.1 z hz
        omega
      · exact e
    · rcases List.mem_cons.1 ((h z).2 (List.mem_cons_of_mem _ hz)) with e | e
      · subst e
        have := hb.1 z hz
        omega
      · exact e
theorem compact_facts (d : Array Int) (hs : ∀ i j, i ≤ j → j < d.size → d[i]! ≤ d[j]!) (m : Nat) : m ≤ d.size → (Go.Lib.compactUpTo d m).Pairwise (· < ·) ∧ ∀ x, x ∈ Go.Lib.compactUpTo d m ↔ ∃ j, j < m ∧ d[j]! = x := by
  induction m with
  | zero =>
    intro _
    exact ⟨by simp [Go.Lib.compactUpTo], fun x => by simp [Go.Lib.compactUpTo]⟩
  | succ m ih =>
    intro hm
    obtain ⟨h1, h2⟩ := ih (by omega)
    rw [Go.Lib.compactUpTo_succ]
    by_cases hk : Go.Lib.keeps d m = true
    · rw [if_pos hk]
      have hk2 : m = 0 ∨ d[m]! ≠ d[m - 1]! := of_decide_eq_true hk
      refine ⟨?_, fun x => ?_⟩
      · rw [List.pairwise_append]
        refine ⟨h1, by simp, fun a ha b hb => ?_⟩
        rw [List.mem_singleton.1 hb]
        obtain ⟨j, hj, rfl⟩ := (h2 a).1 ha
        have q1 := hs j (m - 1) (by omega) (by omega)
        have q2 := hs (m - 1) m (by omega) (by omega)
        rcases hk2 with h | h
        · omega
        · omega
      · rw [List.mem_append, List.mem_singleton, h2]
        constructor
        · rintro (⟨j, hj, rfl⟩ | rfl)
          · exact ⟨j, by omega, rfl⟩
          · exact ⟨m, by omega, rfl⟩
        · rintro ⟨j, hj, rfl⟩
          by_cases e : j = m
          · subst e; exact .inr rfl
          · exact .inl ⟨j, by omega, rfl⟩
    · rw [if_neg hk, List.append_nil]
      have hk2 : ¬ (m = 0 ∨ d[m]! ≠ d[m - 1]!) := fun h => hk (decide_eq_true h)
      refine ⟨h1, fun x => ?_⟩
      rw [h2]
      constructor
      · rintro ⟨j, hj, rfl⟩
        exact ⟨j, by omega, rfl⟩
      · rintro ⟨j, hj, rfl⟩
        by_cases e : j = m
        · subst e
          have : d[j]! = d[j - 1]! := by
            by_cases q : d[j]! = d[j - 1]!
            · exact q
            · exact absurd (.inr q) hk2
          exact ⟨j - 1, by omega, this.symm⟩
        · exact ⟨j, by omega, rfl⟩
theorem sorted_compact (zs : List Int) : (Go.Lib.compact (zs.mergeSort fun x y => decide (x ≤ y))).Pairwise (· < ·) ∧ ∀ x, x ∈ Go.Lib.compact (zs.mergeSort fun x y => decide (x ≤ y)) ↔ x ∈ zs := by
  have hp : (zs.mergeSort fun x y => decide (x ≤ y)).Pairwise (fun a b => decide (a ≤ b) = true) := List.pairwise_mergeSort (fun a b c h1 h2 => by simp only [decide_eq_true_eq] at *; omega) (fun a b => by simp only [Bool.or_eq_true, decide_eq_true_eq]; omega) zs
  have hm : ∀ x, x ∈ (zs.mergeSort fun x y => decide (x ≤ y)) ↔ x ∈ zs := fun x => List.mem_mergeSort
  generalize (zs.mergeSort fun x y => decide (x ≤ y)) = ts at hp hm
  have hget : ∀ j (h : j < ts.length), ts.toArray[j]! = ts[j] := fun j h => by simp [h]
  have hs : ∀ i j, i ≤ j → j < ts.toArray.size → ts.toArray[i]! ≤ ts.toArray[j]! := by
    intro i j hij hj
    have hj' : j < ts.length := by simpa using hj
    rw [hget i (by omega), hget j hj']
    rcases Nat.eq_or_lt_of_le hij with e | e
    · subst e; omega
    · exact of_decide_eq_true (List.pairwise_iff_getElem.1 hp i j (by omega) hj' e)
  obtain ⟨h1, h2⟩ := compact_facts ts.toArray hs ts.length (by simp)
  unfold Go.Lib.compact
  refine ⟨h1, fun x => ?_⟩
  rw [h2, ← hm]
  constructor
  · rintro ⟨j, hj, rfl⟩
    rw [hget j hj]
    exact List.getElem_mem _
  · intro hx
    obtain ⟨j, hj, rfl⟩ := List.getElem_of_mem hx
    exact ⟨j, hj, hget j hj⟩
theorem ascending_val (n : Nat) (m : List S103) (hm : m.length ≤ 40) (h : ∀ x ∈ m, LineOk n x) : impl_ascending.f (pts m) = some (starsV n m) := by
  have hl := pts_len m
  unfold impl_ascending.f
  rw [if_pos (by omega)]
  refine congrArg some ?_
  obtain ⟨h1, h2⟩ := sorted_compact (pts m)
  exact asc_ext _ _ h1 (starsV_asc n m) (fun x => (h2 x).trans (starsV_mem h x).symm)
theorem istars_l (m : List S103) (hm : m.length ≤ 40) (n : Nat) (h : ∀ x ∈ m, LineOk n x) (d : Nat) : ∀ (i : Nat), i ≤ m.length → m.length - i = d → Ev (fun k => impl_starsOf.l0 k (pts (m.take i)) m m.length i) (starsV n m) := by
  induction d with
  | zero =>
    intro i hi hd
    apply ev_succ
    rw [List.take_of_length_le (by omega)]
    simp only [impl_starsOf.l0, if_neg (show ¬ (i : Int) < (m.length : Int) by omega), ascending_val n m hm h, Option.bind_some]
    exact ev_const rfl
  | succ d ih =>
    intro i hi hd
    have hlt : i < m.length := by omega
    have h1 := ih (i + 1) (by omega) (by omega)
    have hl := pts_len (m.take i)
    rw [List.length_take] at hl
    have e : pts (m.take (i + 1)) = pts (m.take i) ++ [m[i].f0, m[i].f1] := by
      rw [List.take_succ_eq_append_getElem hlt]
      unfold pts
      rw [List.flatMap_append]
      rfl
    rw [e] at h1
    apply ev_succ
    simp only [impl_starsOf.l0, if_pos (show (i : Int) < (m.length : Int) by omega), if_pos (show (0 : Int) ≤ (i : Int) by omega), rd_T103_at _ _ hlt, Option.bind_some, List.length_cons, List.length_nil, if_pos (show (pts (m.take i)).length + (0 + 1 + 1) < 17592186044416 by omega), w64 (x := (i : Int) + 1) (by omega) (by omega)]
    exact h1
theorem istars_ev (m : List S103) (hm : m.length ≤ 40) (n : Nat) (h : ∀ x ∈ m, LineOk n x) : Ev (fun k => impl_starsOf.f k m) (starsV n m) := istars_l m hm n h m.length 0 (by omega) (by omega)
/-- How many lines a star has. -/
def lines (m : List S103) (j : Nat) : Int := ((pts m).count (j : Int) : Int)
theorem rd_set (l : List Int) (i j : Nat) (hj : j < l.length) (v : Int) : rd (l.set i v) (j : Int) = if i = j then v else rd l (j : Int) := by
  rw [rdn_at _ _ (show j < (l.set i v).length by simpa using hj), List.getElem_set, rdn_at _ _ hj]
theorem slines_l (n : Nat) (hn : n ≤ 30) (m : List S103) (hm : m.length ≤ 40) (h : ∀ x ∈ m, LineOk n x) (d : Nat) : ∀ (x : List Int) (i : Nat), i ≤ m.length → m.length - i = d → x.length = n → (∀ j, j < n → rd x (j : Int) = lines (m.take i) j) →
    ∃ y, Ev (fun k => spec_l16Lines.l0 k m x i) y ∧ y.length = n ∧ ∀ j, j < n → rd y (j : Int) = lines m j := by
  induction d with
  | zero =>
    intro x i hi hd hx hv
    rw [List.take_of_length_le (by omega)] at hv
    refine ⟨x, ev_succ ?_, hx, hv⟩
    simp only [spec_l16Lines.l0, if_neg (show ¬ (i : Int) < (m.length : Int) by omega)]
    exact ev_const rfl
  | succ d ih =>
    intro x i hi hd hx hv
    have hlt : i < m.length := by omega
    have hL : (0 : Int) ≤ m[i].f0 ∧ m[i].f0 < m[i].f1 ∧ m[i].f1 < (n : Int) := h _ (List.getElem_mem hlt)
    obtain ⟨a, ha⟩ := Int.eq_ofNat_of_zero_le hL.1
    obtain ⟨b, hb⟩ := Int.eq_ofNat_of_zero_le (show 0 ≤ m[i].f1 by omega)
    have hcnt : ∀ j, 0 ≤ lines (m.take i) j ∧ lines (m.take i) j ≤ 80 := by
      intro j
      have h1 := List.count_le_length (a := (j : Int)) (l := pts (m.take i))
      rw [pts_len, List.length_take] at h1
      unfold lines
      omega
    have step : ∀ j, lines (m.take (i + 1)) j = lines (m.take i) j + (if a = j then 1 else 0) + (if b = j then 1 else 0) := by
      intro j
      have e : pts (m.take (i + 1)) = pts (m.take i) ++ [m[i].f0, m[i].f1] := by
        rw [List.take_succ_eq_append_getElem hlt]
        unfold pts
        rw [List.flatMap_append]
        rfl
      unfold lines
      have q : ∀ u : Nat, (if ((u : Int) == (j : Int)) = true then 1 else 0 : Nat) = if u = j then 1 else 0 := by
        intro u
        by_cases c : u = j
        · rw [if_pos c, if_pos (by rw [c]; exact beq_self_eq_true _)]
        · rw [if_neg c, if_neg (by rw [beq_iff_eq]; omega)]
      rw [e, List.count_append, List.count_cons, List.count_cons, List.count_nil, ha, hb, q a, q b]
      by_cases c1 : a = j <;> by_cases c2 : b = j <;> simp only [c1, c2, if_true, if_false] <;> omega
    have ka := hcnt a
    have kb := hcnt b
    obtain ⟨y, e, r1, r2⟩ := ih ((x.set a (rd x (a : Int) + 1)).set b (rd x (b : Int) + 1)) (i + 1) (by omega) (by omega) (by simpa using hx) (fun j hj => by
      rw [rd_set _ _ _ (by simpa using (by omega : j < x.length)), rd_set _ _ _ (by omega), step j, hv a (by omega), hv b (by omega), hv j hj]
      by_cases c1 : a = j
      · by_cases c2 : b = j
        · omega
        · rw [if_neg c2, if_pos c1, if_pos c1, if_neg c2, c1]; omega
      · by_cases c2 : b = j
        · rw [if_pos c2, if_neg c1, if_pos c2, c2]; omega
        · rw [if_neg c2, if_neg c1, if_neg c1, if_neg c2]; omega)
    refine ⟨y, ev_succ ?_, r1, r2⟩
    have hrb : rd (x.set a (rd x (a : Int) + 1)) (b : Int) = rd x (b : Int) := by rw [rd_set _ _ _ (by omega), if_neg (by omega)]
    have va := hv a (by omega)
    have vb := hv b (by omega)
    simp only [spec_l16Lines.l0, if_pos (show (i : Int) < (m.length : Int) by omega), if_pos (show (0 : Int) ≤ (i : Int) by omega), rd_T103_at _ _ hlt, ha, hb, if_pos (show (0 : Int) ≤ (a : Int) by omega), if_pos (show (a : Int) < (x.length : Int) by omega), if_pos (show (0 : Int) ≤ (b : Int) by omega), if_pos (show (b : Int) < (x.length : Int) by omega), Option.bind_some, Int.toNat_natCast, w64 (x := rd x (a : Int) + 1) (by omega) (by omega), hrb, w64 (x := rd x (b : Int) + 1) (by omega) (by omega), w64 (x := (i : Int) + 1) (by omega) (by omega)]
    exact e
theorem slines_ev (l : List S49) (hn : l.length ≤ 30) (m : List S103) (hm : m.length ≤ 40) (h : ∀ x ∈ m, LineOk l.length x) : ∃ y, Ev (fun k => spec_l16Lines.f k l m) y ∧ y.length = l.length ∧ ∀ j, j < l.length → rd y (j : Int) = lines m j := by
  obtain ⟨y, e, r⟩ := slines_l l.length hn m hm h m.length (List.replicate l.length 0) 0 (by omega) (by omega) (by simp) (fun j hj => by
    rw [rdn_at _ _ (by simpa using hj), List.getElem_replicate]
    simp [lines, pts])
  refine ⟨y, ?_, r⟩
  unfold spec_l16Lines.f
  simp only [if_pos (show (0 : Int) ≤ (l.length : Int) by omega), if_pos (show ((l.length : Int)).toNat ≤ 35184372088832 by omega)]
  exact e
theorem lines_pos (m : List S103) (j : Nat) : lines m j > 0 ↔ (j : Int) ∈ pts m := by
  unfold lines
  rw [← List.count_pos_iff]
  omega

theorem linesAt_l (n : Nat) (m : List S103) (hm : m.length ≤ 40) (hL : ∀ x ∈ m, LineOk n x) (s : Nat) (d : Nat) : ∀ (i : Nat), i ≤ m.length → m.length - i = d → Ev (fun k => impl_linesAt.l0 k s (lines (m.take i) s) m m.length i) (lines m s) := by
  induction d with
  | zero =>
    intro i hi hd
    apply ev_succ
    rw [List.take_of_length_le (by omega)]
    simp only [impl_linesAt.l0, if_neg (show ¬ (i : Int) < (m.length : Int) by omega)]
    exact ev_const rfl
  | succ d ih =>
    intro i hi hd
    have hlt : i < m.length := by omega
    have hx : (0 : Int) ≤ m[i].f0 ∧ m[i].f0 < m[i].f1 ∧ m[i].f1 < (n : Int) := hL _ (List.getElem_mem hlt)
    have h1 := ih (i + 1) (by omega) (by omega)
    have hcnt : 0 ≤ lines (m.take i) s ∧ lines (m.take i) s ≤ 80 := by
      have h1 := List.count_le_length (a := (s : Int)) (l := pts (m.take i))
      rw [pts_len, List.length_take] at h1
      unfold lines
      omega
    have step : lines (m.take (i + 1)) s = lines (m.take i) s + (if m[i].f0 = (s : Int) then 1 else 0) + (if m[i].f1 = (s : Int) then 1 else 0) := by
      have e : pts (m.take (i + 1)) = pts (m.take i) ++ [m[i].f0, m[i].f1] := by
        rw [List.take_succ_eq_append_getElem hlt]
        unfold pts
        rw [List.flatMap_append]
        rfl
      unfold lines
      rw [e, List.count_append, List.count_cons, List.count_cons, List.count_nil]
      simp only [beq_iff_eq]
      split <;> split <;> omega
    rw [step] at h1
    apply ev_succ
    by_cases c1 : m[i].f0 = (s : Int)
    · rw [if_pos c1, if_neg (show ¬ m[i].f1 = (s : Int) by omega), Int.add_zero] at h1
      simp only [impl_linesAt.l0, if_pos (show (i : Int) < (m.length : Int) by omega), if_pos (show (0 : Int) ≤ (i : Int) by omega), rd_T103_at _ _ hlt, if_pos c1, w64 (x := lines (m.take i) s + 1) (by omega) (by omega), w64 (x := (i : Int) + 1) (by omega) (by omega)]
      exact h1
    · by_cases c2 : m[i].f1 = (s : Int)
      · rw [if_neg c1, if_pos c2, Int.add_zero] at h1
        simp only [impl_linesAt.l0, if_pos (show (i : Int) < (m.length : Int) by omega), if_pos (show (0 : Int) ≤ (i : Int) by omega), rd_T103_at _ _ hlt, if_neg c1, if_pos c2, w64 (x := lines (m.take i) s + 1) (by omega) (by omega), w64 (x := (i : Int) + 1) (by omega) (by omega)]
        exact h1
      · rw [if_neg c1, if_neg c2, Int.add_zero, Int.add_zero] at h1
        simp only [impl_linesAt.l0, if_pos (show (i : Int) < (m.length : Int) by omega), if_pos (show (0 : Int) ≤ (i : Int) by omega), rd_T103_at _ _ hlt, if_neg c1, if_neg c2, w64 (x := (i : Int) + 1) (by omega) (by omega)]
        exact h1
theorem linesAt_ev (n : Nat) (m : List S103) (hm : m.length ≤ 40) (hL : ∀ x ∈ m, LineOk n x) (s : Nat) : Ev (fun k => impl_linesAt.f k m s) (lines m s) := by
  have h := linesAt_l n m hm hL s m.length 0 (by omega) (by omega)
  have e : lines (m.take 0) s = 0 := by simp [lines, pts]
  rw [e] at h
  exact h

theorem linesV_val (n : Nat) (m : List S103) (hm : m.length ≤ 40) (hL : ∀ x ∈ m, LineOk n x) (s : Nat) : linesV m (s : Int) = lines m s := by
  obtain ⟨K, hK⟩ := linesAt_ev n m hm hL s
  have h1 := linesV_eq m (by omega) (s : Int)
  have h2 : ∀ d, impl_linesAt.f (m.length + 1 + d) m (s : Int) = some (linesV m (s : Int)) := by
    intro d
    induction d with
    | zero => exact h1
    | succ d ih => exact impl_linesAt.mono m (s : Int) (m.length + 1 + d) _ ih
  have h3 : impl_linesAt.f (m.length + 1 + K) m (s : Int) = some (lines m s) := hK (m.length + 1 + K) (by omega)
  rw [h2 K] at h3
  exact Option.some.inj h3
theorem sends_l (m : List S103) (y : List Int) (hy : y.length ≤ 30) (hv : ∀ j, j < y.length → rd y (j : Int) = lines m j) (d : Nat) : ∀ (out : List Int) (i : Nat), i ≤ y.length → y.length - i = d → out.length ≤ i →
    Ev (fun k => spec_EndsOfFigure.l0 k y out i) (out ++ ((List.range' i d).filter (fun j : Nat => decide (lines m j = 1))).map (fun j : Nat => (j : Int)), 0) := by
  induction d with
  | zero =>
    intro out i hi hd ho
    apply ev_succ
    simp only [spec_EndsOfFigure.l0, if_neg (show ¬ (i : Int) < (y.length : Int) by omega)]
    exact ev_const (by simp)
  | succ d ih =>
    intro out i hi hd ho
    have hlt : i < y.length := by omega
    rw [List.range'_succ, List.filter_cons]
    apply ev_succ
    by_cases c : lines m i = 1
    · have h1 := ih (out ++ [(i : Int)]) (i + 1) (by omega) (by omega) (by simp; omega)
      simp only [spec_EndsOfFigure.l0, if_pos (show (i : Int) < (y.length : Int) by omega), if_pos (show (0 : Int) ≤ (i : Int) by omega), hv i hlt, if_pos c, if_pos (show out.length < 17592186044416 by omega), w64 (x := (i : Int) + 1) (by omega) (by omega), decide_eq_true c, if_true, List.map_cons]
      rw [List.append_assoc] at h1
      exact h1
    · have h1 := ih out (i + 1) (by omega) (by omega) (by omega)
      simp only [spec_EndsOfFigure.l0, if_pos (show (i : Int) < (y.length : Int) by omega), if_pos (show (0 : Int) ≤ (i : Int) by omega), hv i hlt, if_neg c, w64 (x := (i : Int) + 1) (by omega) (by omega), decide_eq_false c, Bool.false_eq_true, if_false]
      exact h1
theorem ends_eq (n : Nat) (m : List S103) (hm : m.length ≤ 40) (hL : ∀ x ∈ m, LineOk n x) : (starsV n m).filter (fun x => !endsBad m x) = ((List.range n).filter (fun j : Nat => decide (lines m j = 1))).map (fun j : Nat => (j : Int)) := by
  unfold starsV
  rw [List.filter_map, List.filter_filter]
  congr 1
  apply List.filter_congr
  intro j _
  have e : endsBad m (j : Int) = (lines m j != 1) := by unfold endsBad; rw [linesV_val n m hm hL j]
  show ((!endsBad m (j : Int)) && decide ((j : Int) ∈ pts m)) = decide (lines m j = 1)
  rw [e]
  by_cases c : lines m j = 1
  · have hp := (lines_pos m j).1 (by omega)
    rw [decide_eq_true c, decide_eq_true hp, c]
    rfl
  · rw [decide_eq_false c, bne_iff_ne.2 c]
    rfl
theorem ends_same (l : List S49) (hl : l.length ≤ 1048576) (m : List S103) (hm : m.length ≤ 1048576) : ∃ res cd, Ev (fun k => spec_EndsOfFigure.f k l m) (res, cd) ∧ Ev (fun k => impl_EndsOfFigure.f k l m) (res, cd) ∧ res.length ≤ 30 := by
  obtain ⟨v, h1, h2, h3⟩ := figure_same l hl m hm
  cases v with
  | false =>
    refine ⟨[], 1, ?_, ?_, by simp⟩
    · unfold spec_EndsOfFigure.f
      refine Ev.bind h1 ?_
      simp only [Bool.false_eq_true, if_false]
      exact ev_const rfl
    · unfold impl_EndsOfFigure.f
      refine Ev.bind h2 ?_
      simp only [Bool.false_eq_true, if_false]
      exact ev_const rfl
  | true =>
    obtain ⟨g1, g2, g3⟩ := h3 rfl
    obtain ⟨h30, _⟩ := catB_ok g3
    have hsl := starsV_len l.length m
    obtain ⟨y, l1, l2, l3⟩ := slines_ev l (by omega) m (by omega) g1
    have s1 := sends_l m y (by omega) (fun j hj => l3 j (by omega)) y.length [] 0 (by omega) (by omega) (by simp)
    rw [List.nil_append, ← List.range_eq_range', l2, ← ends_eq l.length m (by omega) g1] at s1
    refine ⟨(starsV l.length m).filter (fun x => !endsBad m x), 0, ?_, ?_, Nat.le_trans (List.length_filter_le _ _) (by omega)⟩
    · unfold spec_EndsOfFigure.f
      refine Ev.bind h1 ?_
      simp only [if_true]
      exact Ev.bind l1 s1
    · unfold impl_EndsOfFigure.f
      refine Ev.bind h2 ?_
      simp only [if_true]
      refine Ev.bind (istars_ev m (by omega) l.length g1) ?_
      simp only [if_pos (show (starsV l.length m).length ≤ 1000000 by omega)]
      exact ev_const rfl
theorem FnExactEndsOfFigure : laws_FnExactEndsOfFigure.Pure := by
  intro l m hl hw hm hwm
  apply Ev.rounds
  unfold laws_FnExactEndsOfFigure.f
  rcases szStar_ev l hl (fun y hy => (hw y hy).1) (a := 1048576) (by omega) (by omega) with e | ⟨b, e, b0, b1⟩
  · refine Ev.bind e ?_
    simp only [if_pos (show (-1 : Int) < 0 by omega)]
    exact ev_const rfl
  · refine Ev.bind e ?_
    simp only [if_neg (show ¬ b < 0 by omega)]
    rcases szLine_val m hm (a := b) (by omega) (by omega) with e2 | ⟨e2, c0⟩
    · simp only [e2, Option.bind_some, if_pos (show (-1 : Int) < 0 by omega)]
      exact ev_const rfl
    · simp only [e2, Option.bind_some, if_neg (show ¬ b - (m.length : Int) < 0 by omega)]
      have t0 := toStar_ev l (by omega)
      have t1 := toLine_ev m (by omega)
      have hml : (l.map cvStar).length ≤ 1048576 := by rw [List.length_map]; omega
      have hmm : (m.map cvLine).length ≤ 1048576 := by rw [List.length_map]; omega
      obtain ⟨res, cd, s1, s2, s3⟩ := ends_same (l.map cvStar) hml (m.map cvLine) hmm
      have q := eqInt64_ev res (by omega)
      obtain ⟨p0, y0, m0, n0, n00⟩ := markSt_up (l.map cvStar) hml (a := 1) (by omega) (by omega)
      obtain ⟨p1, y1, m1, n1⟩ := markL0_ev (m.map cvLine) hmm (a := p0) (by omega) (by omega)
      obtain ⟨p2, y2, m2, m3, n2, n3⟩ := markInt64_ev res (by omega) (a := 1) (by omega) (by omega)
      refine Ev.bind t0 (Ev.bind t1 (Ev.bind s1 (Ev.bind t0 (Ev.bind t1 (Ev.bind s2 (Ev.bind q ?_))))))
      simp only [if_true, bne_self_eq_false]
      refine ev_succ ?_
      simp only [laws_FnExactEndsOfFigure.j0, Bool.false_eq_true, if_false]
      refine Ev.bind t0 (Ev.bind (eqStar_ev _ hml) ?_)
      simp only [if_true]
      refine Ev.bind t1 (Ev.bind (eqLine_ev _ hmm) ?_)
      simp only [if_true]
      refine Ev.bind m0 (Ev.bind m1 ?_)
      simp only [if_neg (show ¬ p1 < 0 by omega)]
      refine Ev.bind q ?_
      simp only [if_true, bne_self_eq_false]
      refine ev_succ ?_
      simp only [laws_FnExactEndsOfFigure.j1, Bool.false_eq_true, if_false]
      refine Ev.bind m2 (Ev.bind m3 ?_)
      simp only [if_neg (show ¬ p2 < 0 by omega), if_true]
      refine Ev.bind t0 (Ev.bind t1 (Ev.bind s2 (Ev.bind q ?_)))
      simp only [if_true, bne_self_eq_false]
      refine ev_succ ?_
      simp only [laws_FnExactEndsOfFigure.j2, Bool.false_eq_true, if_false]
      refine Ev.bind m3 ?_
      simp only [if_neg (show ¬ p2 < 0 by omega), if_true]
      exact ev_const rfl

end Go.Proofs.YtgeeojchgfomjaaDoor.Pure
