/- FnExactStarText: the program's StarText and the reference's come to the same text, for all stars. -/
import Derived.Test.YtdodbfialiggjaaDoorStatFnExactStarText
namespace Go.Proofs.YtdodbfialiggjaaDoor.Pure
open Go.RowKit Go.Proofs.YtdodbfialiggjaaDoor.PFnExactStarText Go.Proofs.YtdodbfialiggjaaDoorW.PrintWords Go.Proofs.YtdodbfialiggjaaDoorW.PrintLast Go.Proofs.YtdodbfialiggjaaDoorW.PrintMore
set_option linter.unusedVariables false
set_option linter.unusedSimpArgs false
theorem wfb {a : Int} (h : (Lit.int .i64 a).wf = true) : -9223372036854775808 ≤ a ∧ a ≤ 9223372036854775807 := by
  simpa [Lit.wf, IntKind.min, IntKind.max, IntKind.signed, IntKind.bits] using h
theorem w64 {x : Int} (h : -9223372036854775808 ≤ x) (h2 : x ≤ 9223372036854775807) : wrap64 x = x := by unfold wrap64; omega
theorem tdiv_nn {a b : Int} (h : 0 ≤ a) : Int.tdiv a b = a / b := Int.tdiv_eq_ediv_of_nonneg h
theorem tmod_nn {a b : Int} (h : 0 ≤ a) : Int.tmod a b = a % b := Int.tmod_eq_emod_of_nonneg h
theorem floor_val (a b : Int) (hb : 0 < b) : (if Int.tmod a b < 0 then Int.tdiv a b - 1 else Int.tdiv a b) = a / b := by
  have h1 := Int.mul_tdiv_add_tmod a b
  have hlt : Int.tmod a b < b := Int.tmod_lt_of_pos a hb
  have hgt : -b < Int.tmod a b := by
    have h2 := Int.tmod_lt_of_pos (-a) hb
    rw [Int.neg_tmod] at h2
    omega
  symm
  split
  · rename_i hneg
    refine ((Int.ediv_emod_unique hb (r := Int.tmod a b + b)).2 ⟨?_, by omega, by omega⟩).1
    rw [Int.mul_sub, Int.mul_one]
    omega
  · rename_i hneg
    exact ((Int.ediv_emod_unique hb (r := Int.tmod a b)).2 ⟨by omega, by omega, by omega⟩).1
theorem ediv_bd {a b : Int} (hb : 0 < b) (B : Int) (h0 : -B ≤ a) (h1 : a ≤ B) (hB : 0 ≤ B) : -B ≤ a / b ∧ a / b ≤ B := by
  constructor
  · rw [Int.le_ediv_iff_mul_le hb]
    have : B * 1 ≤ B * b := Int.mul_le_mul_of_nonneg_left (by omega) hB
    rw [Int.neg_mul]; omega
  · have h2 : a / b ≤ B / b := Int.ediv_le_ediv hb h1
    have h3 : B / b ≤ B := Int.ediv_le_self b hB
    omega
theorem ceil_alt (a b : Int) (hb : 0 < b) : (a + b - 1) / b = -((-a) / b) := by
  have h1 := Int.mul_ediv_add_emod (-a) b
  have h2 := Int.emod_nonneg (-a) (b := b) (by omega)
  have h3 := Int.emod_lt_of_pos (-a) hb
  refine ((Int.ediv_emod_unique hb (r := b - 1 - (-a) % b)).2 ⟨?_, by omega, by omega⟩).1
  rw [Int.mul_neg]
  omega

theorem ev_succ {α : Type} {g : Nat → Option α} {r : α} (h : Ev (fun k => g (k + 1)) r) : Ev g r := Ev.step (fun _ => rfl) h
theorem ev_const {α : Type} {g : Option α} {r : α} (h : g = some r) : Ev (fun _ => g) r := ⟨0, fun _ _ => h⟩
theorem ev_uniq {α : Type} {g : Nat → Option α} {a b : α} (h : Ev g a) (h' : Ev g b) : a = b := by
  obtain ⟨K, h⟩ := h
  obtain ⟨K', h'⟩ := h'
  have h1 := h (K + K') (by omega)
  rw [h' (K + K') (by omega)] at h1
  exact (Option.some.inj h1).symm

theorem toList_inj {a b : ByteArray} : a.toList = b.toList ↔ a = b := by
  constructor
  · intro h
    rw [ByteArray.toList_eq, ByteArray.toList_eq] at h
    obtain ⟨⟨x⟩⟩ := a
    obtain ⟨⟨y⟩⟩ := b
    simp at h
    rw [h]
  · intro h; rw [h]
def sizes (l : List ByteArray) : Int := (l.map (fun s => (s.size : Int))).sum
theorem sizes_cons (s : ByteArray) (l : List ByteArray) : sizes (s :: l) = s.size + sizes l := by simp [sizes]
theorem sizes_nn (l : List ByteArray) : 0 ≤ sizes l := by
  induction l with
  | nil => simp [sizes]
  | cons s l ih => rw [sizes_cons]; omega
theorem sizes_drop (l : List ByteArray) (i : Nat) (h : i < l.length) : sizes (l.drop i) = (l[i]).size + sizes (l.drop (i + 1)) := by
  rw [List.drop_eq_getElem_cons h, sizes_cons]
theorem rdOf_at (d : ByteArray) (l : List ByteArray) (i : Nat) (h : i < l.length) : rdOf d l (i : Int) = l[i] := by
  unfold rdOf
  rw [Int.toNat_natCast, List.getD_eq_getElem?_getD, List.getElem?_eq_getElem h]
  rfl

/-- A byte that a name may have. -/
def nameC (c : Int) : Prop := ((97 : Int) ≤ c ∧ c ≤ 122) ∨ ((48 : Int) ≤ c ∧ c ≤ 57) ∨ c = 45
instance instNameC (c : Int) : Decidable (nameC c) := by unfold nameC; infer_instance
/-- A name. -/
def IsNm (s : ByteArray) : Prop := 1 ≤ s.size ∧ s.size ≤ 12 ∧ ((97 : Int) ≤ bt s 0 ∧ bt s 0 ≤ 122) ∧ ∀ i, i < s.size → nameC (bt s (i : Int))
instance instIsNm (s : ByteArray) : Decidable (IsNm s) := by unfold IsNm; infer_instance
theorem toList_nil (s : ByteArray) : s.toList = ([] : List UInt8) ↔ s.size = 0 := by
  rw [ByteArray.toList_eq]
  obtain ⟨⟨x⟩⟩ := s
  show x = [] ↔ x.length = 0
  rw [List.length_eq_zero_iff]
theorem bt_at (s : ByteArray) (i : Nat) (h : i < s.size) : bt s (i : Int) = ((s.data.toList[i]'(by simpa using h)).toNat : Int) := by
  unfold bt
  rw [dif_pos (by simpa using h)]
  rfl
open Classical in
theorem snm_l (s : ByteArray) (hs : s.size ≤ 12) (d : Nat) : ∀ (i : Nat), i ≤ s.size → s.size - i = d → Ev (fun k => spec_IsName.l0 k s i) (decide (∀ j, i ≤ j → j < s.size → nameC (bt s (j : Int)))) := by
  induction d with
  | zero =>
    intro i hi hd
    apply ev_succ
    simp only [spec_IsName.l0, if_neg (show ¬ (i : Int) < (s.size : Int) by omega)]
    refine ev_const ?_
    congr 1
    symm
    rw [decide_eq_true_iff]
    intro j h1 h2; omega
  | succ d ih =>
    intro i hi hd
    have hlt : i < s.size := by omega
    have hih := ih (i + 1) (by omega) (by omega)
    have step : nameC (bt s (i : Int)) → (decide (∀ j, i ≤ j → j < s.size → nameC (bt s (j : Int)))) = decide (∀ j, i + 1 ≤ j → j < s.size → nameC (bt s (j : Int))) := by
      intro hc
      rw [decide_eq_decide]
      constructor
      · intro h j h1 h2; exact h j (by omega) h2
      · intro h j h1 h2
        by_cases e : j = i
        · subst e; exact hc
        · exact h j (by omega) h2
    apply ev_succ
    simp only [spec_IsName.l0, spec_l01Small.f, spec_l01Digit.f, if_pos (show (i : Int) < (s.size : Int) by omega), if_pos (show (0 : Int) ≤ (i : Int) by omega), w64 (x := (i : Int) + 1) (by omega) (by omega)]
    by_cases h1 : 97 ≤ bt s (i : Int) ∧ bt s (i : Int) ≤ 122
    · simp only [ge_iff_le, if_pos h1.1, Option.bind_some, decide_eq_true h1.2, if_true]
      rw [step (.inl h1)]
      exact hih
    · have e1 : (if bt s (i : Int) ≥ 97 then some (decide (bt s (i : Int) ≤ 122)) else some false) = some false := by
        by_cases h : bt s (i : Int) ≥ 97
        · rw [if_pos h, decide_eq_false (fun h2 => h1 ⟨h, h2⟩)]
        · rw [if_neg h]
      simp only [e1, Option.bind_some, Bool.false_eq_true, if_false]
      by_cases h2 : 48 ≤ bt s (i : Int) ∧ bt s (i : Int) ≤ 57
      · simp only [ge_iff_le, if_pos h2.1, Option.bind_some, decide_eq_true h2.2, if_true]
        rw [step (.inr (.inl h2))]
        exact hih
      · have e2 : (if bt s (i : Int) ≥ 48 then some (decide (bt s (i : Int) ≤ 57)) else some false) = some false := by
          by_cases h : bt s (i : Int) ≥ 48
          · rw [if_pos h, decide_eq_false (fun h3 => h2 ⟨h, h3⟩)]
          · rw [if_neg h]
        simp only [e2, Option.bind_some, Bool.false_eq_true, if_false]
        by_cases h3 : bt s (i : Int) = 45
        · simp only [if_pos h3]
          rw [step (.inr (.inr h3))]
          exact hih
        · simp only [if_neg h3]
          refine ev_const ?_
          congr 1
          symm
          rw [decide_eq_false_iff_not]
          intro h
          rcases h i (by omega) hlt with h | h | h
          · exact h1 h
          · exact h2 h
          · exact h3 h
theorem spec_name (s : ByteArray) : Ev (fun k => spec_IsName.f k s) (decide (IsNm s)) := by
  classical
  have no : ¬ IsNm s → Ev (fun k => spec_IsName.j0 k s true) (decide (IsNm s)) := fun h => by
    refine ev_succ ?_
    simp only [spec_IsName.j0, if_true]
    exact ev_const (by rw [decide_eq_false h])
  unfold spec_IsName.f
  by_cases h0 : s.size = 0
  · simp only [if_pos ((toList_nil s).2 h0)]
    exact no (fun h => by have := h.1; omega)
  · simp only [if_neg (fun h => h0 ((toList_nil s).1 h))]
    by_cases h1 : (s.size : Int) > 12
    · simp only [if_pos h1]
      exact no (fun h => by have := h.2.1; omega)
    · simp only [if_neg h1, if_pos (show (0 : Int) < (s.size : Int) by omega), spec_l01Small.f]
      by_cases h2 : 97 ≤ bt s 0 ∧ bt s 0 ≤ 122
      · simp only [ge_iff_le, if_pos h2.1, Option.bind_some, decide_eq_true h2.2, Bool.not_true]
        refine ev_succ ?_
        simp only [spec_IsName.j0, Bool.false_eq_true, if_false]
        have := snm_l s (by omega) s.size 0 (by omega) (by omega)
        have e : (decide (IsNm s)) = decide (∀ j, 0 ≤ j → j < s.size → nameC (bt s (j : Int))) := by
          rw [decide_eq_decide]
          exact ⟨fun h j _ hj => h.2.2.2 j hj, fun h => ⟨by omega, by omega, h2, fun j hj => h j (by omega) hj⟩⟩
        rw [e]
        exact this
      · have e1 : (if bt s 0 ≥ 97 then some (decide (bt s 0 ≤ 122)) else some false) = some false := by
          by_cases h : bt s 0 ≥ 97
          · rw [if_pos h, decide_eq_false (fun h3 => h2 ⟨h, h3⟩)]
          · rw [if_neg h]
        simp only [e1, Option.bind_some, Bool.not_false]
        exact no (fun h => h2 h.2.2.1)

theorem dw_nil (p : UInt8 → Bool) (l : List UInt8) : l.dropWhile p = [] ↔ ∀ b ∈ l, p b = true := by
  induction l with
  | nil => simp
  | cons a l ih =>
    by_cases h : p a = true
    · simp [List.dropWhile, h, ih]
    · simp [List.dropWhile, h]
theorem dw_head (p : UInt8 → Bool) (l : List UInt8) (x : UInt8) (xs : List UInt8) (h : l.dropWhile p = x :: xs) : p x = false := by
  induction l with
  | nil => simp at h
  | cons a l ih =>
    by_cases h2 : p a = true
    · simp only [List.dropWhile, h2] at h
      exact ih h
    · have h3 : p a = false := by simpa using h2
      simp only [List.dropWhile, h3, List.cons.injEq] at h
      rw [← h.1]; exact h3
theorem trimS_nil (l cs : List UInt8) : Go.Lib.trimS l cs = [] ↔ ∀ b ∈ l, cs.contains b = true := by
  unfold Go.Lib.trimS Go.Lib.trimLeftS Go.Lib.trimRightS
  rw [dw_nil]
  constructor
  · intro h b hb
    cases e : l.reverse.dropWhile (cs.contains ·) with
    | nil =>
      rw [dw_nil] at e
      exact e b (by simpa using hb)
    | cons x xs =>
      exfalso
      have h1 := dw_head _ _ _ _ e
      have h2 := h x (by rw [e]; simp)
      rw [h2] at h1
      cases h1
  · intro h b hb
    exact h b (by simpa using (List.dropWhile_sublist _).subset (List.mem_reverse.1 hb))
theorem name_cut (b : UInt8) : ([97, 98, 99, 100, 101, 102, 103, 104, 105, 106, 107, 108, 109, 110, 111, 112, 113, 114, 115, 116, 117, 118, 119, 120, 121, 122, 48, 49, 50, 51, 52, 53, 54, 55, 56, 57, 45] : List UInt8).contains b = decide (nameC (b.toNat : Int)) := by
  have key : ((List.range 256).all fun n => (([97, 98, 99, 100, 101, 102, 103, 104, 105, 106, 107, 108, 109, 110, 111, 112, 113, 114, 115, 116, 117, 118, 119, 120, 121, 122, 48, 49, 50, 51, 52, 53, 54, 55, 56, 57, 45] : List UInt8).contains (UInt8.ofNat n) == decide (((97 : Int) ≤ (n : Int) ∧ (n : Int) ≤ 122) ∨ ((48 : Int) ≤ (n : Int) ∧ (n : Int) ≤ 57) ∨ (n : Int) = 45))) = true := by decide +kernel
  have h := List.all_eq_true.1 key b.toNat (List.mem_range.2 b.toNat_lt)
  rw [UInt8.ofNat_toNat] at h
  rw [beq_iff_eq] at h
  rw [h]
  rfl
theorem impl_name (s : ByteArray) : impl_IsName.f s = some (decide (IsNm s)) := by
  unfold impl_IsName.f
  by_cases h0 : (s.size : Int) < 1
  · rw [if_pos h0, decide_eq_false (fun h => by have := h.1; omega)]
  · rw [if_neg h0]
    by_cases h1 : (s.size : Int) > 12
    · rw [if_pos h1, decide_eq_false (fun h => by have := h.2.1; omega)]
    · rw [if_neg h1, if_pos (by omega)]
      by_cases h2 : bt s 0 < 97
      · rw [if_pos h2, decide_eq_false (fun h => by have := h.2.2.1.1; omega)]
      · rw [if_neg h2]
        by_cases h3 : bt s 0 > 122
        · rw [if_pos h3, decide_eq_false (fun h => by have := h.2.2.1.2; omega)]
        · rw [if_neg h3]
          unfold strings_Trim.f
          rw [if_pos ⟨by omega, by decide, by decide +kernel⟩]
          simp only [Option.bind_some]
          congr 1
          have e : (decide (IsNm s)) = decide (∀ b ∈ s.data.toList, nameC (b.toNat : Int)) := by
            rw [decide_eq_decide]
            constructor
            · intro h b hb
              obtain ⟨j, hj, rfl⟩ := List.getElem_of_mem hb
              have := h.2.2.2 j (by simpa using hj)
              rw [bt_at s j (by simpa using hj)] at this
              exact this
            · intro h
              refine ⟨by omega, by omega, ⟨by omega, by omega⟩, fun j hj => ?_⟩
              rw [bt_at s j hj]
              exact h _ (List.getElem_mem _)
          rw [e]
          have e2 : ∀ t : List UInt8, (({ data := t.toArray } : ByteArray).toList == ([] : List UInt8)) = decide (t = []) := by
            intro t
            rw [ByteArray.toList_eq]
            cases t <;> simp
          rw [e2, decide_eq_decide, trimS_nil]
          constructor
          · intro h b hb
            have := h b hb
            rw [name_cut] at this
            exact of_decide_eq_true this
          · intro h b hb
            rw [name_cut]
            exact decide_eq_true (h b hb)

theorem in_val (a b c : Int) : spec_l00In.f a b c = some (decide (b ≤ a ∧ a ≤ c)) := by
  unfold spec_l00In.f
  by_cases h : a ≥ b <;> by_cases h2 : a ≤ c <;> simp [h, h2] <;> omega
theorem within_val (a b c : Int) : impl_within.f a b c = some (decide (b ≤ a ∧ a ≤ c)) := in_val a b c

/-- A number's decimal text. -/
def decT (n : Nat) : ByteArray := ⟨(Go.Lib.decDigits n).toArray⟩
theorem dec_all : ((List.range 200).all fun n => decide ((spec_l01Dec.f 5 (n : Int)).map (fun b => b.data.toList) = some (Go.Lib.decDigits n) ∧ (Go.Lib.decDigits n).length ≤ 3)) = true := by kernel_rfl
theorem dec_at (n : Nat) (h : n < 200) : spec_l01Dec.f 5 (n : Int) = some (decT n) ∧ (decT n).size ≤ 3 := by
  have h1 := of_decide_eq_true (List.all_eq_true.1 dec_all n (List.mem_range.2 h))
  obtain ⟨h2, h3⟩ := h1
  obtain ⟨b, hb, hd⟩ := Option.map_eq_some_iff.1 h2
  refine ⟨?_, ?_⟩
  · rw [hb]
    congr 1
    unfold decT
    rw [← hd]
  · show (Go.Lib.decDigits n).toArray.size ≤ 3
    simpa using h3
theorem dec_ev (n : Nat) (h : n < 200) : Ev (fun k => spec_l01Dec.f k (n : Int)) (decT n) := by
  have h1 := (dec_at n h).1
  refine ⟨5, fun k hk => ?_⟩
  show spec_l01Dec.f k (n : Int) = some (decT n)
  induction k with
  | zero => omega
  | succ k ih =>
    by_cases e : k + 1 = 5
    · rw [e]; exact h1
    · exact spec_l01Dec.mono _ _ _ (ih (by omega))
/-- Two digits. -/
def pairT (v : Nat) : ByteArray := decT (v / 10) ++ decT (v % 10)
theorem pair_all : ((List.range 60).all fun v => decide (Go.Lib.decDigits (v / 10) ++ Go.Lib.decDigits (v % 10) = if v < 10 then 48 :: Go.Lib.decDigits v else Go.Lib.decDigits v)) = true := by kernel_rfl
theorem app_mk (a b : List UInt8) : (⟨a.toArray⟩ : ByteArray) ++ (⟨b.toArray⟩ : ByteArray) = (⟨(a ++ b).toArray⟩ : ByteArray) := by
  apply ByteArray.ext
  rw [ByteArray.data_append]
  simp
theorem pair_at (v : Nat) (h : v < 60) : pairT v = if v < 10 then (⟨#[48]⟩ : ByteArray) ++ decT v else decT v := by
  have h1 := of_decide_eq_true (List.all_eq_true.1 pair_all v (List.mem_range.2 h))
  unfold pairT decT
  rw [app_mk, h1]
  split
  · exact (app_mk [48] _).symm
  · rfl
theorem pair_size (v : Nat) (h : v < 60) : (pairT v).size ≤ 6 := by
  unfold pairT
  rw [ByteArray.size_append]
  have h1 := (dec_at (v / 10) (by omega)).2
  have h2 := (dec_at (v % 10) (by omega)).2
  omega
theorem decimal_val (n : Nat) (h : n < 200) : impl_Decimal.f (n : Int) = some (decT n) := by
  unfold impl_Decimal.f strconv_FormatInt.f
  rw [if_pos ⟨rfl, by omega, by omega⟩, Int.toNat_natCast]
  rfl
theorem padded_val (v : Nat) (h : v < 60) : impl_padded.f (v : Int) = some (pairT v) := by
  have hs := (dec_at v (by omega)).2
  unfold impl_padded.f
  rw [decimal_val v (by omega), pair_at v h]
  simp only [Option.bind_some]
  by_cases c : v < 10
  · rw [if_pos (by omega), if_pos (by omega), if_pos c]
  · rw [if_neg (by omega), if_neg c]
theorem pair_ev (v : Nat) (h : v < 60) : Ev (fun k => spec_l02Pair.f k (v : Int)) (pairT v) := by
  have h1 := dec_ev (v / 10) (by omega)
  have h2 := dec_ev (v % 10) (by omega)
  have s1 := (dec_at (v / 10) (by omega)).2
  have s2 := (dec_at (v % 10) (by omega)).2
  unfold spec_l02Pair.f
  rw [tdiv_nn (by omega), tmod_nn (by omega), w64 (x := (v : Int) / 10) (by omega) (by omega), show (v : Int) / 10 = ((v / 10 : Nat) : Int) by omega, show (v : Int) % 10 = ((v % 10 : Nat) : Int) by omega]
  refine Ev.bind h1 (Ev.bind h2 ?_)
  rw [if_pos (by omega)]
  exact ev_const rfl
/-- Degrees, minutes and seconds. -/
def sizT (m : Nat) : ByteArray := (((decT (m / 3600) ++ (⟨#[46]⟩ : ByteArray)) ++ pairT (m / 60 % 60)) ++ (⟨#[46]⟩ : ByteArray)) ++ pairT (m % 60)
theorem one46 : (⟨#[46]⟩ : ByteArray).size = 1 := rfl
theorem siz_size (m : Nat) (h : m ≤ 648000) : (sizT m).size ≤ 17 := by
  have h1 := (dec_at (m / 3600) (by omega)).2
  have h2 := pair_size (m / 60 % 60) (by omega)
  have h3 := pair_size (m % 60) (by omega)
  unfold sizT
  simp only [ByteArray.size_append, one46]
  omega
theorem size_ev (a : Int) (h0 : -648000 ≤ a) (h1 : a ≤ 648000) : Ev (fun k => spec_l02Size.f k a) (sizT a.natAbs) := by
  have hs : spec_l00Size.f a = some (a.natAbs : Int) := by
    unfold spec_l00Size.f
    by_cases c : a < 0
    · rw [if_pos c, w64 (x := -a) (by omega) (by omega)]
      congr 1
      omega
    · rw [if_neg c]
      congr 1
      omega
  have hm : a.natAbs ≤ 648000 := by omega
  generalize a.natAbs = m at hs hm
  have q1 := (dec_at (m / 3600) (by omega)).2
  have q2 := pair_size (m / 60 % 60) (by omega)
  have q3 := pair_size (m % 60) (by omega)
  unfold spec_l02Size.f
  simp only [hs, Option.bind_some, tdiv_nn (show 0 ≤ (m : Int) by omega), w64 (x := (m : Int) / 3600) (by omega) (by omega), w64 (x := ((m / 3600 : Nat) : Int)) (by omega) (by omega), w64 (x := (m : Int) / 60) (by omega) (by omega), tmod_nn (show 0 ≤ (m : Int) / 60 by omega), tmod_nn (show 0 ≤ (m : Int) by omega), show (m : Int) / 3600 = ((m / 3600 : Nat) : Int) by omega, show (m : Int) / 60 % 60 = ((m / 60 % 60 : Nat) : Int) by omega, show (m : Int) % 60 = ((m % 60 : Nat) : Int) by omega]
  refine Ev.bind (dec_ev (m / 3600) (by omega)) ?_
  simp only [if_pos (show (decT (m / 3600)).size + 1 ≤ 9223372036854775807 by omega)]
  refine Ev.bind (pair_ev (m / 60 % 60) (by omega)) ?_
  simp only [ByteArray.size_append, one46, if_pos (show (decT (m / 3600)).size + 1 + (pairT (m / 60 % 60)).size ≤ 9223372036854775807 by omega), if_pos (show (decT (m / 3600)).size + 1 + (pairT (m / 60 % 60)).size + 1 ≤ 9223372036854775807 by omega)]
  refine Ev.bind (pair_ev (m % 60) (by omega)) ?_
  rw [if_pos (by omega)]
  exact ev_const rfl
theorem angle_val (a : Int) (h0 : -648000 ≤ a) (h1 : a ≤ 648000) (p q : ByteArray) (hp : p.size ≤ 10) (hq : q.size ≤ 10) : impl_angleText.f a p q = some (sizT a.natAbs ++ (if a < 0 then q else p)) := by
  have key : ∀ (m : Nat) (s : ByteArray), m ≤ 648000 → s.size ≤ 10 → ((impl_Decimal.f (wrap64 (Int.tdiv (m : Int) 3600))).bind fun t160 => (if t160.size + 1 ≤ 9223372036854775807 then ((impl_padded.f (Int.tmod (wrap64 (Int.tdiv (m : Int) 60)) 60)).bind fun t161 => (if (t160 ++ (⟨#[46]⟩ : ByteArray)).size + t161.size ≤ 9223372036854775807 then (if ((t160 ++ (⟨#[46]⟩ : ByteArray)) ++ t161).size + 1 ≤ 9223372036854775807 then ((impl_padded.f (Int.tmod (m : Int) 60)).bind fun t162 => (if (((t160 ++ (⟨#[46]⟩ : ByteArray)) ++ t161) ++ (⟨#[46]⟩ : ByteArray)).size + t162.size ≤ 9223372036854775807 then (if ((((t160 ++ (⟨#[46]⟩ : ByteArray)) ++ t161) ++ (⟨#[46]⟩ : ByteArray)) ++ t162).size + s.size ≤ 9223372036854775807 then (some (((((t160 ++ (⟨#[46]⟩ : ByteArray)) ++ t161) ++ (⟨#[46]⟩ : ByteArray)) ++ t162) ++ s)) else (none)) else (none))) else (none)) else (none))) else (none))) = some (sizT m ++ s) := by
    intro m s hm hs
    have q1 := (dec_at (m / 3600) (by omega)).2
    have q2 := pair_size (m / 60 % 60) (by omega)
    have q3 := pair_size (m % 60) (by omega)
    simp only [tdiv_nn (show 0 ≤ (m : Int) by omega), w64 (x := (m : Int) / 3600) (by omega) (by omega), w64 (x := ((m / 3600 : Nat) : Int)) (by omega) (by omega), w64 (x := (m : Int) / 60) (by omega) (by omega), tmod_nn (show 0 ≤ (m : Int) / 60 by omega), tmod_nn (show 0 ≤ (m : Int) by omega), show (m : Int) / 3600 = ((m / 3600 : Nat) : Int) by omega, show (m : Int) / 60 % 60 = ((m / 60 % 60 : Nat) : Int) by omega, show (m : Int) % 60 = ((m % 60 : Nat) : Int) by omega, decimal_val (m / 3600) (by omega), padded_val (m / 60 % 60) (by omega), padded_val (m % 60) (by omega), Option.bind_some, ByteArray.size_append, one46]
    rw [if_pos (by omega), if_pos (by omega), if_pos (by omega), if_pos (by omega), if_pos (by omega)]
    rfl
  unfold impl_angleText.f
  by_cases c : a < 0
  · have h := key a.natAbs q (by omega) hq
    rw [if_pos c, if_pos c, w64 (x := -a) (by omega) (by omega), show -a = (a.natAbs : Int) by omega]
    exact h
  · have h := key a.natAbs p (by omega) hp
    rw [show ((a.natAbs : Nat) : Int) = a by omega] at h
    rw [if_neg c, if_neg c]
    exact h
theorem star_same (n : ByteArray) (c x y : Int) : ∃ v, Ev (fun k => spec_l16One.f k n c x y) v ∧ impl_isStar.f n c x y = some v ∧ (v = true → (1 ≤ c ∧ c ≤ 6) ∧ (-324000 ≤ x ∧ x ≤ 324000) ∧ (-648000 ≤ y ∧ y ≤ 647999)) := by
  have hn := spec_name n
  by_cases h1 : IsNm n
  · by_cases h2 : 1 ≤ c ∧ c ≤ 6
    · by_cases h3 : -324000 ≤ x ∧ x ≤ 324000
      · refine ⟨decide (-648000 ≤ y ∧ y ≤ 647999), ?_, ?_, fun h => ⟨h2, h3, of_decide_eq_true h⟩⟩
        · unfold spec_l16One.f spec_l02Ok.f
          refine Ev.bind hn ?_
          simp only [decide_eq_true h1, if_true, in_val, Option.bind_some, decide_eq_true h2, decide_eq_true h3]
          exact ev_const rfl
        · unfold impl_isStar.f impl_isClass.f impl_ValidSpot.f
          simp only [impl_name, decide_eq_true h1, if_true, within_val, Option.bind_some, decide_eq_true h2, decide_eq_true h3]
      · refine ⟨false, ?_, ?_, fun h => by cases h⟩
        · unfold spec_l16One.f spec_l02Ok.f
          refine Ev.bind hn ?_
          simp only [decide_eq_true h1, if_true, in_val, Option.bind_some, decide_eq_true h2, decide_eq_false h3, Bool.false_eq_true, if_false]
          exact ev_const rfl
        · unfold impl_isStar.f impl_isClass.f impl_ValidSpot.f
          simp only [impl_name, decide_eq_true h1, if_true, within_val, Option.bind_some, decide_eq_true h2, decide_eq_false h3, Bool.false_eq_true, if_false]
    · refine ⟨false, ?_, ?_, fun h => by cases h⟩
      · unfold spec_l16One.f
        refine Ev.bind hn ?_
        simp only [decide_eq_true h1, if_true, in_val, Option.bind_some, decide_eq_false h2, Bool.false_eq_true, if_false]
        exact ev_const rfl
      · unfold impl_isStar.f impl_isClass.f
        simp only [impl_name, decide_eq_true h1, if_true, within_val, Option.bind_some, decide_eq_false h2, Bool.false_eq_true, if_false]
  · refine ⟨false, ?_, ?_, fun h => by cases h⟩
    · unfold spec_l16One.f
      refine Ev.bind hn ?_
      simp only [decide_eq_false h1, Bool.false_eq_true, if_false]
      exact ev_const rfl
    · unfold impl_isStar.f
      simp only [impl_name, decide_eq_false h1, Option.bind_some, Bool.false_eq_true, if_false]
theorem lit_s : (⟨#[115, 32]⟩ : ByteArray) = (⟨#[115]⟩ : ByteArray) ++ (⟨#[32]⟩ : ByteArray) := by kernel_rfl
theorem lit_n : (⟨#[110, 32]⟩ : ByteArray) = (⟨#[110]⟩ : ByteArray) ++ (⟨#[32]⟩ : ByteArray) := by kernel_rfl
/-- The text of a spot. -/
def spotT (x y : Int) : ByteArray := ((sizT x.natAbs ++ (if x < 0 then (⟨#[115]⟩ : ByteArray) else (⟨#[110]⟩ : ByteArray))) ++ (⟨#[32]⟩ : ByteArray)) ++ (sizT y.natAbs ++ (if y < 0 then (⟨#[119]⟩ : ByteArray) else (⟨#[101]⟩ : ByteArray)))
theorem spot_impl (x y : Int) (hx : -324000 ≤ x ∧ x ≤ 324000) (hy : -648000 ≤ y ∧ y ≤ 647999) : impl_SpotText.f x y = some (spotT x y) := by
  have s1 := siz_size x.natAbs (by omega)
  have s2 := siz_size y.natAbs (by omega)
  unfold impl_SpotText.f impl_ValidSpot.f
  simp only [within_val, Option.bind_some, decide_eq_true hx, decide_eq_true hy, if_true, angle_val x (by omega) (by omega) (⟨#[110]⟩ : ByteArray) (⟨#[115]⟩ : ByteArray) (by decide) (by decide), angle_val y (by omega) (by omega) (⟨#[101]⟩ : ByteArray) (⟨#[119]⟩ : ByteArray) (by decide) (by decide), ByteArray.size_append]
  have t1 : (if x < 0 then (⟨#[115]⟩ : ByteArray) else (⟨#[110]⟩ : ByteArray)).size = 1 := by split <;> rfl
  have t2 : (if y < 0 then (⟨#[119]⟩ : ByteArray) else (⟨#[101]⟩ : ByteArray)).size = 1 := by split <;> rfl
  have t3 : (⟨#[32]⟩ : ByteArray).size = 1 := rfl
  rw [t1, t2, t3, if_pos (by omega), if_pos (by omega)]
  rfl
theorem spot_spec (x y : Int) (hx : -324000 ≤ x ∧ x ≤ 324000) (hy : -648000 ≤ y ∧ y ≤ 647999) : Ev (fun k => spec_l02Text.f k x y) (spotT x y) := by
  have s1 := siz_size x.natAbs (by omega)
  have s2 := siz_size y.natAbs (by omega)
  have e1 := size_ev x (by omega) (by omega)
  have e2 := size_ev y (by omega) (by omega)
  have l1 : (⟨#[115, 32]⟩ : ByteArray).size = 2 := rfl
  have l2 : (⟨#[110, 32]⟩ : ByteArray).size = 2 := rfl
  unfold spec_l02Text.f spotT
  refine Ev.bind e1 ?_
  by_cases c : x < 0
  · by_cases d : y < 0
    · simp only [if_pos c, if_pos (show (sizT x.natAbs).size + 2 ≤ 9223372036854775807 by omega)]
      refine Ev.bind e2 ?_
      simp only [if_pos d, ByteArray.size_append, l1]
      rw [if_pos (by omega), if_pos (by omega)]
      exact ev_const (by rw [lit_s]; simp only [ByteArray.append_assoc])
    · simp only [if_pos c, if_pos (show (sizT x.natAbs).size + 2 ≤ 9223372036854775807 by omega)]
      refine Ev.bind e2 ?_
      simp only [if_neg d, ByteArray.size_append, l1]
      rw [if_pos (by omega), if_pos (by omega)]
      exact ev_const (by rw [lit_s]; simp only [ByteArray.append_assoc])
  · by_cases d : y < 0
    · simp only [if_neg c, if_pos (show (sizT x.natAbs).size + 2 ≤ 9223372036854775807 by omega)]
      refine Ev.bind e2 ?_
      simp only [if_pos d, ByteArray.size_append, l2]
      rw [if_pos (by omega), if_pos (by omega)]
      exact ev_const (by rw [lit_n]; simp only [ByteArray.append_assoc])
    · simp only [if_neg c, if_pos (show (sizT x.natAbs).size + 2 ≤ 9223372036854775807 by omega)]
      refine Ev.bind e2 ?_
      simp only [if_neg d, ByteArray.size_append, l2]
      rw [if_pos (by omega), if_pos (by omega)]
      exact ev_const (by rw [lit_n]; simp only [ByteArray.append_assoc])
theorem text_same (n : ByteArray) (hn : n.size ≤ 1048576) (c x y : Int) : ∃ r, Ev (fun k => spec_StarText.f k n c x y) r ∧ impl_StarText.f n c x y = some r := by
  obtain ⟨v, h1, h2, h3⟩ := star_same n c x y
  cases v with
  | false =>
    refine ⟨(⟨#[]⟩ : ByteArray), ?_, ?_⟩
    · unfold spec_StarText.f
      refine Ev.bind h1 ?_
      simp only [Bool.false_eq_true, if_false]
      exact ev_const rfl
    · unfold impl_StarText.f
      simp only [h2, Option.bind_some, Bool.false_eq_true, if_false]
  | true =>
    obtain ⟨hc, hx, hy⟩ := h3 rfl
    obtain ⟨m, rfl⟩ := Int.eq_ofNat_of_zero_le (show 0 ≤ c by omega)
    have q1 := (dec_at m (by omega)).2
    have s1 := siz_size x.natAbs (by omega)
    have s2 := siz_size y.natAbs (by omega)
    have t1 : (if x < 0 then (⟨#[115]⟩ : ByteArray) else (⟨#[110]⟩ : ByteArray)).size = 1 := by split <;> rfl
    have t2 : (if y < 0 then (⟨#[119]⟩ : ByteArray) else (⟨#[101]⟩ : ByteArray)).size = 1 := by split <;> rfl
    have t3 : (⟨#[32]⟩ : ByteArray).size = 1 := rfl
    have hsp : (spotT x y).size ≤ 40 := by
      unfold spotT
      simp only [ByteArray.size_append, t1, t2, t3]
      omega
    have e1 := spot_spec x y hx hy
    have e2 := spot_impl x y hx hy
    generalize spotT x y = s at hsp e1 e2
    refine ⟨((((n ++ (⟨#[32]⟩ : ByteArray)) ++ decT m) ++ (⟨#[32]⟩ : ByteArray)) ++ s), ?_, ?_⟩
    · unfold spec_StarText.f
      refine Ev.bind h1 ?_
      simp only [if_true, if_pos (show n.size + 1 ≤ 9223372036854775807 by omega)]
      refine Ev.bind (dec_ev m (by omega)) ?_
      simp only [ByteArray.size_append, t3, if_pos (show n.size + 1 + (decT m).size ≤ 9223372036854775807 by omega), if_pos (show n.size + 1 + (decT m).size + 1 ≤ 9223372036854775807 by omega)]
      refine Ev.bind e1 ?_
      rw [if_pos (by omega)]
      exact ev_const rfl
    · unfold impl_StarText.f
      simp only [h2, Option.bind_some, if_true, if_pos (show n.size + 1 ≤ 9223372036854775807 by omega), decimal_val m (by omega), ByteArray.size_append, t3, e2]
      rw [if_pos (by omega), if_pos (by omega), if_pos (by omega)]
theorem FnExactStarText : laws_FnExactStarText.Pure := by
  intro n c x y hn _ _ _
  apply Ev.rounds
  unfold laws_FnExactStarText.f laws_szStar.f
  have hm : n.size ≤ 9223372036854775807 := hn
  rw [w64 (x := 1048576 - (n.size : Int)) (by omega) (by omega)]
  by_cases h : 1048576 - (n.size : Int) < 0
  · simp only [if_pos h, Option.bind_some, if_pos (show (-1 : Int) < 0 by omega)]
    exact ev_const rfl
  · obtain ⟨r, e1, e2⟩ := text_same n (by omega) c x y
    simp only [if_neg h, Option.bind_some, laws_toStar.f, laws_toSpot.f]
    refine Ev.bind e1 ?_
    simp only [e2, Option.bind_some, if_true]
    exact ev_const rfl

end Go.Proofs.YtdodbfialiggjaaDoor.Pure
