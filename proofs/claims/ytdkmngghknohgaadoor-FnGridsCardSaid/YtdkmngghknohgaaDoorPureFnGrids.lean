/- FnGrids: for all bytes: over drawn grids the program's functions and the reference's come to the same; borders are of two different letters in order; and a turned grid has the same letters, borders, seas and coasts, and turns back. -/
import Derived.Test.YtdkmngghknohgaaDoorStatFnGrids
namespace Go.Proofs.YtdkmngghknohgaaDoor.Pure
open Go.RowKit Go.Proofs.YtdkmngghknohgaaDoor.PFnGrids Go.Proofs.YtdkmngghknohgaaDoorW.PrintWords Go.Proofs.YtdkmngghknohgaaDoorW.PrintLast Go.Proofs.YtdkmngghknohgaaDoorW.PrintMore
set_option linter.unusedVariables false
set_option linter.unusedSimpArgs false
theorem w64 {x : Int} (h : -9223372036854775808 ≤ x) (h2 : x ≤ 9223372036854775807) : wrap64 x = x := by unfold wrap64; omega
theorem tdiv_nn {a b : Int} (h : 0 ≤ a) : Int.tdiv a b = a / b := Int.tdiv_eq_ediv_of_nonneg h
theorem tmod_nn {a b : Int} (h : 0 ≤ a) : Int.tmod a b = a % b := Int.tmod_eq_emod_of_nonneg h
theorem ev_succ {α : Type} {g : Nat → Option α} {r : α} (h : Ev (fun k => g (k + 1)) r) : Ev g r := Ev.step (fun _ => rfl) h
theorem ev_const {α : Type} {g : Option α} {r : α} (h : g = some r) : Ev (fun _ => g) r := ⟨0, fun _ _ => h⟩
theorem toList_inj {a b : ByteArray} : a.toList = b.toList ↔ a = b := by
  constructor
  · intro h
    rw [ByteArray.toList_eq, ByteArray.toList_eq] at h
    obtain ⟨⟨x⟩⟩ := a
    obtain ⟨⟨y⟩⟩ := b
    simp at h
    rw [h]
  · intro h; rw [h]
theorem rdOf_at (d : ByteArray) (l : List ByteArray) (i : Nat) (h : i < l.length) : rdOf d l (i : Int) = l[i] := by
  unfold rdOf
  rw [Int.toNat_natCast, List.getD_eq_getElem?_getD, List.getElem?_eq_getElem h]
  rfl

/-- A byte that a name may have. -/
def nameC (c : Int) : Prop := ((97 : Int) ≤ c ∧ c ≤ 122) ∨ ((48 : Int) ≤ c ∧ c ≤ 57) ∨ c = 45
instance instNameC (c : Int) : Decidable (nameC c) := by unfold nameC; infer_instance
/-- A name. -/
def IsNm (s : ByteArray) : Prop := 1 ≤ s.size ∧ s.size ≤ 12 ∧ ((97 : Int) ≤ bt s 0 ∧ bt s 0 ≤ 122) ∧ ∀ i, i < s.size → nameC (bt s (i : Int))
instance instIsNm (s : ByteArray) : Decidable (IsNm s) := by unfold IsNm; infer_instance
theorem toList_nil (s : ByteArray) : s.toList = ([] : List UInt8) ↔ s.size = 0 := by
  rw [ByteArray.toList_eq]
  obtain ⟨⟨x⟩⟩ := s
  show x = [] ↔ x.length = 0
  rw [List.length_eq_zero_iff]
theorem bt_at (s : ByteArray) (i : Nat) (h : i < s.size) : bt s (i : Int) = ((s.data.toList[i]'(by simpa using h)).toNat : Int) := by
  unfold bt
  rw [dif_pos (by simpa using h)]
  rfl
open Classical in

theorem dw_nil (p : UInt8 → Bool) (l : List UInt8) : l.dropWhile p = [] ↔ ∀ b ∈ l, p b = true := by
  induction l with
  | nil => simp
  | cons a l ih =>
    by_cases h : p a = true
    · simp [List.dropWhile, h, ih]
    · simp [List.dropWhile, h]
theorem dw_head (p : UInt8 → Bool) (l : List UInt8) (x : UInt8) (xs : List UInt8) (h : l.dropWhile p = x :: xs) : p x = false := by
  induction l with
  | nil => simp at h
  | cons a l ih =>
    by_cases h2 : p a = true
    · simp only [List.dropWhile, h2] at h
      exact ih h
    · have h3 : p a = false := by simpa using h2
      simp only [List.dropWhile, h3, List.cons.injEq] at h
      rw [← h.1]; exact h3
theorem trimS_nil (l cs : List UInt8) : Go.Lib.trimS l cs = [] ↔ ∀ b ∈ l, cs.contains b = true := by
  unfold Go.Lib.trimS Go.Lib.trimLeftS Go.Lib.trimRightS
  rw [dw_nil]
  constructor
  · intro h b hb
    cases e : l.reverse.dropWhile (cs.contains ·) with
    | nil =>
      rw [dw_nil] at e
      exact e b (by simpa using hb)
    | cons x xs =>
      exfalso
      have h1 := dw_head _ _ _ _ e
      have h2 := h x (by rw [e]; simp)
      rw [h2] at h1
      cases h1
  · intro h b hb
    exact h b (by simpa using (List.dropWhile_sublist _).subset (List.mem_reverse.1 hb))

theorem gin_val (a b c : Int) : spec_l00In.f a b c = some (decide (b ≤ a ∧ a ≤ c)) := by
  unfold spec_l00In.f
  by_cases h : a ≥ b
  · rw [if_pos h]
    congr 1
    rw [decide_eq_decide]
    omega
  · rw [if_neg h]
    congr 1
    symm
    rw [decide_eq_false_iff_not]
    omega
theorem small_val (b : Int) : spec_l01Small.f b = some (decide (97 ≤ b ∧ b ≤ 122)) := by
  unfold spec_l01Small.f
  by_cases h : b ≥ 97
  · rw [if_pos h]
    congr 1
    rw [decide_eq_decide]
    omega
  · rw [if_neg h]
    congr 1
    symm
    rw [decide_eq_false_iff_not]
    omega
/-- A byte of a grid. -/
def cellB (b : UInt8) : Bool := decide ((b.toNat : Int) = 46 ∨ (97 ≤ (b.toNat : Int) ∧ (b.toNat : Int) ≤ 122))
/-- A row of a grid that is n wide. -/
def rowB (n : Nat) (r : ByteArray) : Bool := decide (r.size = n ∧ 1 ≤ r.size ∧ r.size ≤ 32) && r.data.toList.all cellB
def wideL (l : List ByteArray) : Nat := (rdOf ByteArray.empty l 0).size
/-- A grid. -/
def gridB (l : List ByteArray) : Bool := decide (1 ≤ l.length ∧ l.length ≤ 16) && l.all (rowB (wideL l))
theorem dsize (r : ByteArray) : r.data.toList.length = r.size := by rw [Array.length_toList]; rfl
theorem ok_l (l : List ByteArray) (hl : l.length ≤ 16) (d : Nat) : ∀ i : Nat, i ≤ l.length → l.length - i = d → Ev (fun k => spec_l12Ok.l0 k l i) ((l.drop i).all (rowB (wideL l))) := by
  induction d with
  | zero =>
    intro i hi hd
    apply ev_succ
    simp only [spec_l12Ok.l0, if_neg (show ¬ (i : Int) < (l.length : Int) by omega)]
    rw [List.drop_eq_nil_of_le (by omega)]
    exact ev_const rfl
  | succ d ih =>
    intro i hi hd
    have hlt : i < l.length := by omega
    have hih := ih (i + 1) (by omega) (by omega)
    rw [List.drop_eq_getElem_cons hlt, List.all_cons]
    apply ev_succ
    simp only [spec_l12Ok.l0, if_pos (show (i : Int) < (l.length : Int) by omega), if_pos (show (0 : Int) ≤ (i : Int) by omega), if_pos (show (0 : Int) < (l.length : Int) by omega), rdOf_at _ _ _ hlt, gin_val, Option.bind_some]
    by_cases h1 : (l[i].size : Int) = ((rdOf ByteArray.empty l 0).size : Int)
    · simp only [if_pos h1]
      by_cases h2 : 1 ≤ (l[i].size : Int) ∧ (l[i].size : Int) ≤ 32
      · rw [decide_eq_true h2]
        apply ev_succ
        simp only [spec_l12Ok.j1, Bool.not_true, Bool.false_eq_true, if_false]
        have row : ∀ (e : Nat) (m : Nat), m ≤ l[i].size → l[i].size - m = e → Ev (fun k => spec_l12Ok.l1 k l i m) ((l[i].data.toList.drop m).all cellB && (l.drop (i + 1)).all (rowB (wideL l))) := by
          intro e
          induction e with
          | zero =>
            intro m hm he
            apply ev_succ
            simp only [spec_l12Ok.l1, if_pos (show (0 : Int) ≤ (i : Int) by omega), if_pos (show (i : Int) < (l.length : Int) by omega), rdOf_at _ _ _ hlt, if_neg (show ¬ (m : Int) < (l[i].size : Int) by omega), w64 (x := (i : Int) + 1) (by omega) (by omega)]
            rw [List.drop_eq_nil_of_le (by rw [dsize]; omega)]
            exact hih
          | succ e ih2 =>
            intro m hm he
            have hm2 : m < l[i].size := by omega
            have hm3 : m < l[i].data.toList.length := by rw [dsize]; exact hm2
            have h3 := ih2 (m + 1) (by omega) (by omega)
            rw [List.drop_eq_getElem_cons hm3, List.all_cons]
            apply ev_succ
            simp only [spec_l12Ok.l1, if_pos (show (0 : Int) ≤ (i : Int) by omega), if_pos (show (i : Int) < (l.length : Int) by omega), rdOf_at _ _ _ hlt, if_pos (show (m : Int) < (l[i].size : Int) by omega), if_pos (show (0 : Int) ≤ (m : Int) by omega), bt_at _ _ hm2, small_val, Option.bind_some, w64 (x := (m : Int) + 1) (by omega) (by omega)]
            by_cases h4 : ((l[i].data.toList[m]).toNat : Int) = 46
            · simp only [if_pos h4]
              rw [show cellB (l[i].data.toList[m]) = true from decide_eq_true (Or.inl h4), Bool.true_and]
              exact h3
            · simp only [if_neg h4]
              by_cases h5 : 97 ≤ ((l[i].data.toList[m]).toNat : Int) ∧ ((l[i].data.toList[m]).toNat : Int) ≤ 122
              · rw [decide_eq_true h5, show cellB (l[i].data.toList[m]) = true from decide_eq_true (Or.inr h5), Bool.true_and]
                simp only [if_true]
                exact h3
              · rw [decide_eq_false h5, show cellB (l[i].data.toList[m]) = false from decide_eq_false (fun h => h.elim h4 h5), Bool.false_and, Bool.false_and]
                simp only [Bool.false_eq_true, if_false]
                exact ev_const rfl
        have := row l[i].size 0 (by omega) (by omega)
        rw [List.drop_zero] at this
        rw [show rowB (wideL l) l[i] = l[i].data.toList.all cellB by unfold rowB wideL; rw [decide_eq_true ⟨by omega, by omega, by omega⟩, Bool.true_and]]
        exact this
      · rw [decide_eq_false h2]
        apply ev_succ
        simp only [spec_l12Ok.j1, Bool.not_false, if_true]
        rw [show rowB (wideL l) l[i] = false by unfold rowB; rw [decide_eq_false (fun h => h2 ⟨by omega, by omega⟩), Bool.false_and], Bool.false_and]
        exact ev_const rfl
    · simp only [if_neg h1]
      apply ev_succ
      simp only [spec_l12Ok.j1, if_true]
      rw [show rowB (wideL l) l[i] = false by unfold rowB; rw [decide_eq_false (fun h => h1 (by have := h.1; unfold wideL at this; omega)), Bool.false_and], Bool.false_and]
      exact ev_const rfl
theorem ok_ev (l : List ByteArray) : Ev (fun k => spec_l12Ok.f k l) (gridB l) := by
  unfold spec_l12Ok.f gridB
  simp only [gin_val, Option.bind_some]
  by_cases h : (1 : Int) ≤ (l.length : Int) ∧ (l.length : Int) ≤ 16
  · rw [decide_eq_true h, decide_eq_true ⟨by omega, by omega⟩, Bool.true_and]
    simp only [if_true]
    have := ok_l l (by omega) l.length 0 (by omega) (by omega)
    simpa using this
  · rw [decide_eq_false h, decide_eq_false (fun h2 => h ⟨by omega, by omega⟩), Bool.false_and]
    simp only [Bool.false_eq_true, if_false]
    exact ev_const rfl
theorem cut_cell (b : UInt8) : ([46, 97, 98, 99, 100, 101, 102, 103, 104, 105, 106, 107, 108, 109, 110, 111, 112, 113, 114, 115, 116, 117, 118, 119, 120, 121, 122] : List UInt8).contains b = cellB b := by
  have key : ((List.range 256).all fun n => (([46, 97, 98, 99, 100, 101, 102, 103, 104, 105, 106, 107, 108, 109, 110, 111, 112, 113, 114, 115, 116, 117, 118, 119, 120, 121, 122] : List UInt8).contains (UInt8.ofNat n) == cellB (UInt8.ofNat n))) = true := by decide +kernel
  have h := List.all_eq_true.1 key b.toNat (List.mem_range.2 b.toNat_lt)
  rw [UInt8.ofNat_toNat] at h
  exact beq_iff_eq.1 h
theorem trim_cells (r : ByteArray) : ((⟨(Go.Lib.trimS r.data.toList [46, 97, 98, 99, 100, 101, 102, 103, 104, 105, 106, 107, 108, 109, 110, 111, 112, 113, 114, 115, 116, 117, 118, 119, 120, 121, 122]).toArray⟩ : ByteArray).toList = ([] : List UInt8)) ↔ r.data.toList.all cellB = true := by
  rw [ByteArray.toList_eq]
  show Go.Lib.trimS r.data.toList _ = [] ↔ _
  rw [trimS_nil, List.all_eq_true]
  constructor
  · intro h b hb
    rw [← cut_cell]
    exact h b hb
  · intro h b hb
    show ([46, 97, 98, 99, 100, 101, 102, 103, 104, 105, 106, 107, 108, 109, 110, 111, 112, 113, 114, 115, 116, 117, 118, 119, 120, 121, 122] : List UInt8).contains b = true
    rw [cut_cell]
    exact h b hb
/-- What the program asks of a row. -/
def rowI (n : Nat) (r : ByteArray) : Bool := decide (r.size = n) && r.data.toList.all cellB
theorem vg_l (l : List ByteArray) (hl : l.length ≤ 1048576) (hs : ∀ y ∈ l, y.size ≤ 1048576) (d : Nat) : ∀ i : Nat, i ≤ l.length → l.length - i = d → Ev (fun k => impl_ValidGrid.l0 k l l (l.length : Int) i) ((l.drop i).all (rowI (wideL l)) && (decide (1 ≤ l.length ∧ l.length ≤ 16) && decide (1 ≤ wideL l ∧ wideL l ≤ 32))) := by
  induction d with
  | zero =>
    intro i hi hd
    apply ev_succ
    simp only [impl_ValidGrid.l0, if_neg (show ¬ (i : Int) < (l.length : Int) by omega)]
    rw [List.drop_eq_nil_of_le (by omega), List.all_nil, Bool.true_and]
    by_cases h1 : 1 ≤ l.length
    · rw [if_pos (by omega)]
      by_cases h2 : l.length ≤ 16
      · rw [if_pos (by omega), if_pos (by omega), decide_eq_true (p := 1 ≤ l.length ∧ l.length ≤ 16) ⟨h1, h2⟩, Bool.true_and]
        unfold wideL
        by_cases h3 : ((rdOf ByteArray.empty l 0).size : Int) ≥ 1
        · rw [if_pos h3]
          refine ev_const ?_
          congr 1
          rw [decide_eq_decide]
          omega
        · rw [if_neg h3, decide_eq_false (fun h => h3 (by omega))]
          exact ev_const rfl
      · rw [if_neg (by omega), decide_eq_false (fun h => h2 h.2), Bool.false_and]
        exact ev_const rfl
    · rw [if_neg (by omega), decide_eq_false (fun h => h1 h.1), Bool.false_and]
      exact ev_const rfl
  | succ d ih =>
    intro i hi hd
    have hlt : i < l.length := by omega
    have hih := ih (i + 1) (by omega) (by omega)
    have hsz := hs _ (List.getElem_mem hlt)
    rw [List.drop_eq_getElem_cons hlt, List.all_cons]
    apply ev_succ
    simp only [impl_ValidGrid.l0, if_pos (show (i : Int) < (l.length : Int) by omega), if_pos (show (0 : Int) ≤ (i : Int) by omega), if_pos (show (0 : Int) < (l.length : Int) by omega), rdOf_at _ _ _ hlt, w64 (x := (i : Int) + 1) (by omega) (by omega)]
    by_cases h1 : (l[i].size : Int) = ((rdOf ByteArray.empty l 0).size : Int)
    · simp only [if_pos h1]
      unfold strings_Trim.f
      simp only [if_pos (show l[i].size ≤ 9223372036854775807 ∧ (⟨#[46, 97, 98, 99, 100, 101, 102, 103, 104, 105, 106, 107, 108, 109, 110, 111, 112, 113, 114, 115, 116, 117, 118, 119, 120, 121, 122]⟩ : ByteArray).size < 4294967281 ∧ (⟨#[46, 97, 98, 99, 100, 101, 102, 103, 104, 105, 106, 107, 108, 109, 110, 111, 112, 113, 114, 115, 116, 117, 118, 119, 120, 121, 122]⟩ : ByteArray).data.toList.all (fun b => decide (b.toNat < 128)) = true from ⟨by omega, by decide, by decide +kernel⟩), Option.bind_some]
      by_cases h2 : l[i].data.toList.all cellB = true
      · simp only [trim_cells, if_pos h2]
        rw [show rowI (wideL l) l[i] = true by unfold rowI wideL; rw [h2, decide_eq_true (by omega)]; rfl, Bool.true_and]
        exact hih
      · simp only [trim_cells, if_neg h2]
        rw [show rowI (wideL l) l[i] = false by unfold rowI; rw [Bool.eq_false_iff.2 h2, Bool.and_false], Bool.false_and, Bool.false_and]
        exact ev_const rfl
    · simp only [if_neg h1]
      rw [show rowI (wideL l) l[i] = false by unfold rowI; rw [decide_eq_false (fun h => h1 (by unfold wideL at h; omega)), Bool.false_and], Bool.false_and, Bool.false_and]
      exact ev_const rfl
theorem grid_two (l : List ByteArray) : (l.all (rowI (wideL l)) && (decide (1 ≤ l.length ∧ l.length ≤ 16) && decide (1 ≤ wideL l ∧ wideL l ≤ 32))) = gridB l := by
  rw [Bool.eq_iff_iff]
  unfold gridB
  simp only [Bool.and_eq_true, decide_eq_true_eq, List.all_eq_true, rowI, rowB]
  constructor
  · rintro ⟨h1, h2, h3⟩
    exact ⟨h2, fun r hr => ⟨⟨(h1 r hr).1, by rw [(h1 r hr).1]; exact h3.1, by rw [(h1 r hr).1]; exact h3.2⟩, (h1 r hr).2⟩⟩
  · rintro ⟨h1, h2⟩
    refine ⟨fun r hr => ⟨(h2 r hr).1.1, (h2 r hr).2⟩, h1, ?_⟩
    have h0 : 0 < l.length := by omega
    have h3 := h2 _ (List.getElem_mem h0)
    have e : wideL l = (l[0]).size := by
      show (rdOf ByteArray.empty l ((0 : Nat) : Int)).size = _
      rw [rdOf_at _ _ _ h0]
    rw [e]
    exact h3.1.2
theorem vg_ev (l : List ByteArray) (hl : l.length ≤ 1048576) (hs : ∀ y ∈ l, y.size ≤ 1048576) : Ev (fun k => impl_ValidGrid.f k l) (gridB l) := by
  unfold impl_ValidGrid.f
  have := vg_l l hl hs l.length 0 (by omega) (by omega)
  rw [List.drop_zero, grid_two] at this
  exact this
theorem grid_facts {l : List ByteArray} (h : gridB l = true) : 1 ≤ l.length ∧ l.length ≤ 16 ∧ ∀ r ∈ l, r.size = wideL l ∧ 1 ≤ r.size ∧ r.size ≤ 32 ∧ r.data.toList.all cellB = true := by
  unfold gridB at h
  simp only [Bool.and_eq_true, decide_eq_true_eq, List.all_eq_true, rowB] at h
  exact ⟨h.1.1, h.1.2, fun r hr => ⟨(h.2 r hr).1.1, (h.2 r hr).1.2.1, (h.2 r hr).1.2.2, List.all_eq_true.2 (h.2 r hr).2⟩⟩
/-- How often a byte is in a row, and in a grid. -/
def cntR (c : Int) (bs : List UInt8) : Nat := bs.countP (fun b => decide ((b.toNat : Int) = c))
def cntG (c : Int) : List ByteArray → Nat
  | [] => 0
  | r :: l => cntR c r.data.toList + cntG c l
theorem cntR_le (c : Int) (bs : List UInt8) : cntR c bs ≤ bs.length := List.countP_le_length
theorem cnt_l (l : List ByteArray) (hl : l.length ≤ 1000) (hs : ∀ y ∈ l, y.size ≤ 1000) (c : Int) (d : Nat) : ∀ (i : Nat) (a : Int), i ≤ l.length → l.length - i = d → 0 ≤ a → a ≤ 1000 * (i : Int) → Ev (fun k => spec_l12Count.l0 k l c a i) (a + (cntG c (l.drop i) : Int)) := by
  induction d with
  | zero =>
    intro i a hi hd h0 h1
    apply ev_succ
    simp only [spec_l12Count.l0, if_neg (show ¬ (i : Int) < (l.length : Int) by omega)]
    rw [List.drop_eq_nil_of_le (by omega)]
    exact ev_const (by simp [cntG])
  | succ d ih =>
    intro i a hi hd h0 h1
    have hlt : i < l.length := by omega
    have hih := fun b => ih (i + 1) b (by omega) (by omega)
    have hsz := hs _ (List.getElem_mem hlt)
    rw [List.drop_eq_getElem_cons hlt]
    apply ev_succ
    simp only [spec_l12Count.l0, if_pos (show (i : Int) < (l.length : Int) by omega)]
    have row : ∀ (e : Nat) (m : Nat) (b : Int), m ≤ l[i].size → l[i].size - m = e → 0 ≤ b → b ≤ 1000 * (i : Int) + (m : Int) → Ev (fun k => spec_l12Count.l1 k l c b i m) (b + ((cntR c (l[i].data.toList.drop m) : Int) + (cntG c (l.drop (i + 1)) : Int))) := by
      intro e
      induction e with
      | zero =>
        intro m b hm he h2 h3
        apply ev_succ
        simp only [spec_l12Count.l1, if_pos (show (0 : Int) ≤ (i : Int) by omega), if_pos (show (i : Int) < (l.length : Int) by omega), rdOf_at _ _ _ hlt, if_neg (show ¬ (m : Int) < (l[i].size : Int) by omega), w64 (x := (i : Int) + 1) (by omega) (by omega)]
        rw [List.drop_eq_nil_of_le (by rw [dsize]; omega)]
        have := hih b h2 (by omega)
        rw [show b + ((cntR c [] : Int) + (cntG c (l.drop (i + 1)) : Int)) = b + (cntG c (l.drop (i + 1)) : Int) by simp [cntR]]
        exact this
      | succ e ih2 =>
        intro m b hm he h2 h3
        have hm2 : m < l[i].size := by omega
        have hm3 : m < l[i].data.toList.length := by rw [dsize]; exact hm2
        have h4 := fun b => ih2 (m + 1) b (by omega) (by omega)
        rw [List.drop_eq_getElem_cons hm3]
        apply ev_succ
        simp only [spec_l12Count.l1, if_pos (show (0 : Int) ≤ (i : Int) by omega), if_pos (show (i : Int) < (l.length : Int) by omega), rdOf_at _ _ _ hlt, if_pos (show (m : Int) < (l[i].size : Int) by omega), if_pos (show (0 : Int) ≤ (m : Int) by omega), bt_at _ _ hm2, w64 (x := (m : Int) + 1) (by omega) (by omega), w64 (x := b + 1) (by omega) (by omega)]
        by_cases h5 : ((l[i].data.toList[m]).toNat : Int) = c
        · simp only [if_pos h5]
          have := h4 (b + 1) (by omega) (by omega)
          rw [show b + ((cntR c (l[i].data.toList[m] :: l[i].data.toList.drop (m + 1)) : Int) + (cntG c (l.drop (i + 1)) : Int)) = b + 1 + ((cntR c (l[i].data.toList.drop (m + 1)) : Int) + (cntG c (l.drop (i + 1)) : Int)) by
            unfold cntR
            rw [List.countP_cons_of_pos (by simpa using h5)]
            omega]
          exact this
        · simp only [if_neg h5]
          have := h4 b (by omega) (by omega)
          rw [show cntR c (l[i].data.toList[m] :: l[i].data.toList.drop (m + 1)) = cntR c (l[i].data.toList.drop (m + 1)) by
            unfold cntR
            rw [List.countP_cons_of_neg (by simpa using h5)]]
          exact this
    have := row l[i].size 0 a (by omega) (by omega) h0 (by omega)
    rw [List.drop_zero] at this
    show Ev _ (a + ((cntR c l[i].data.toList + cntG c (l.drop (i + 1)) : Nat) : Int))
    rw [show (((cntR c l[i].data.toList + cntG c (l.drop (i + 1)) : Nat)) : Int) = (cntR c l[i].data.toList : Int) + (cntG c (l.drop (i + 1)) : Int) by omega]
    exact this
theorem cnt_ev (l : List ByteArray) (hl : l.length ≤ 1000) (hs : ∀ y ∈ l, y.size ≤ 1000) (c : Int) : Ev (fun k => spec_l12Count.f k l c) (cntG c l : Int) := by
  unfold spec_l12Count.f
  have := cnt_l l hl hs c l.length 0 0 (by omega) (by omega) (by omega) (by omega)
  rw [List.drop_zero, Int.zero_add] at this
  exact this

/-- The cells of a row, and of a grid, that have a byte. -/
def cellsR (i c : Int) : Int → List UInt8 → List S61
  | _, [] => []
  | m, b :: bs => if (b.toNat : Int) = c then ⟨i, m⟩ :: cellsR i c (m + 1) bs else cellsR i c (m + 1) bs
def cellsG (c : Int) : Int → List ByteArray → List S61
  | _, [] => []
  | i, r :: l => cellsR i c 0 r.data.toList ++ cellsG c (i + 1) l
theorem cellsR_length (i c : Int) : ∀ (bs : List UInt8) (m : Int), (cellsR i c m bs).length = cntR c bs
  | [], _ => rfl
  | b :: bs, m => by
    unfold cellsR cntR
    by_cases h : (b.toNat : Int) = c
    · rw [if_pos h, List.countP_cons_of_pos (by simpa using h), List.length_cons, cellsR_length i c bs]
      rfl
    · rw [if_neg h, List.countP_cons_of_neg (by simpa using h), cellsR_length i c bs]
      rfl
theorem cellsG_length (c : Int) : ∀ (l : List ByteArray) (i : Int), (cellsG c i l).length = cntG c l
  | [], _ => rfl
  | r :: l, i => by
    unfold cellsG cntG
    rw [List.length_append, cellsR_length, cellsG_length c l]
theorem cells_l (l : List ByteArray) (hl : l.length ≤ 1000) (hs : ∀ y ∈ l, y.size ≤ 1000) (c : Int) (d : Nat) : ∀ (i : Nat) (o : List S61), i ≤ l.length → l.length - i = d → o.length ≤ 1000 * i → Ev (fun k => impl_cellsWith.l0 k c o l (l.length : Int) i) (o ++ cellsG c i (l.drop i)) := by
  induction d with
  | zero =>
    intro i o hi hd ho
    apply ev_succ
    simp only [impl_cellsWith.l0, if_neg (show ¬ (i : Int) < (l.length : Int) by omega)]
    rw [List.drop_eq_nil_of_le (by omega)]
    exact ev_const (by simp [cellsG])
  | succ d ih =>
    intro i o hi hd ho
    have hlt : i < l.length := by omega
    have hih := fun b => ih (i + 1) b (by omega) (by omega)
    have hsz := hs _ (List.getElem_mem hlt)
    rw [List.drop_eq_getElem_cons hlt]
    apply ev_succ
    simp only [impl_cellsWith.l0, if_pos (show (i : Int) < (l.length : Int) by omega), if_pos (show (0 : Int) ≤ (i : Int) by omega), rdOf_at _ _ _ hlt]
    have row : ∀ (e : Nat) (m : Nat) (o : List S61), m ≤ l[i].size → l[i].size - m = e → o.length ≤ 1000 * i + m → Ev (fun k => impl_cellsWith.l1 k c o i l[i] l (l.length : Int) i (l[i].size : Int) m) (o ++ (cellsR i c m (l[i].data.toList.drop m) ++ cellsG c ((i : Int) + 1) (l.drop (i + 1)))) := by
      intro e
      induction e with
      | zero =>
        intro m o hm he ho
        apply ev_succ
        simp only [impl_cellsWith.l1, if_neg (show ¬ (m : Int) < (l[i].size : Int) by omega), w64 (x := (i : Int) + 1) (by omega) (by omega)]
        rw [List.drop_eq_nil_of_le (by rw [dsize]; omega)]
        have := hih o (by omega)
        rw [show ((i + 1 : Nat) : Int) = (i : Int) + 1 by omega] at this
        rw [show cellsR i c m [] = [] from rfl, List.nil_append]
        exact this
      | succ e ih2 =>
        intro m o hm he ho
        have hm2 : m < l[i].size := by omega
        have hm3 : m < l[i].data.toList.length := by rw [dsize]; exact hm2
        have h4 := fun b => ih2 (m + 1) b (by omega) (by omega)
        rw [List.drop_eq_getElem_cons hm3]
        apply ev_succ
        simp only [impl_cellsWith.l1, if_pos (show (m : Int) < (l[i].size : Int) by omega), if_pos (show (0 : Int) ≤ (m : Int) by omega), bt_at _ _ hm2, w64 (x := (m : Int) + 1) (by omega) (by omega), if_pos (show o.length < 8796093022208 by omega)]
        by_cases h5 : ((l[i].data.toList[m]).toNat : Int) = c
        · simp only [if_pos h5]
          have := h4 (o ++ [⟨(i : Int), (m : Int)⟩]) (by rw [List.length_append, List.length_singleton]; omega)
          rw [show cellsR i c m (l[i].data.toList[m] :: l[i].data.toList.drop (m + 1)) = ⟨(i : Int), (m : Int)⟩ :: cellsR i c ((m : Int) + 1) (l[i].data.toList.drop (m + 1)) by
            show (if _ then _ else _) = _
            simp only [if_pos h5]
            rw []]
          rw [List.append_assoc] at this
          exact this
        · simp only [if_neg h5]
          have := h4 o (by omega)
          rw [show cellsR i c m (l[i].data.toList[m] :: l[i].data.toList.drop (m + 1)) = cellsR i c ((m : Int) + 1) (l[i].data.toList.drop (m + 1)) by
            show (if _ then _ else _) = _
            simp only [if_neg h5]
            rw []]
          exact this
    have := row l[i].size 0 o (by omega) (by omega) (by omega)
    rw [List.drop_zero] at this
    exact this
theorem cells_ev (l : List ByteArray) (hl : l.length ≤ 1000) (hs : ∀ y ∈ l, y.size ≤ 1000) (c : Int) : Ev (fun k => impl_cellsWith.f k l c) (cellsG c 0 l) := by
  unfold impl_cellsWith.f
  have := cells_l l hl hs c l.length 0 [] (by omega) (by omega) (by simp)
  rw [List.drop_zero, List.nil_append] at this
  exact this

/-- Bytes. -/
def Bytes (l : List Int) : Prop := ∀ x ∈ l, 0 ≤ x ∧ x ≤ 255
theorem bytes_of {l : List Int} (h : ∀ x ∈ l, (Lit.int .u8 x).wf = true) : Bytes l := by
  intro x hx
  have := h x hx
  simpa [Lit.wf, IntKind.min, IntKind.max, IntKind.signed, IntKind.bits] using this
theorem rd_nat (l : List Int) (i : Nat) (h : i < l.length) : rd l (i : Int) = l[i] := by
  unfold rd
  rw [Int.toNat_natCast, List.getD_eq_getElem?_getD, List.getElem?_eq_getElem h]
  rfl
theorem rd_bytes {l : List Int} (h : Bytes l) {i : Int} (h0 : 0 ≤ i) (hi : i < (l.length : Int)) : 0 ≤ rd l i ∧ rd l i ≤ 255 := by
  obtain ⟨j, rfl⟩ := Int.eq_ofNat_of_zero_le h0
  rw [rd_nat l j (by omega)]
  exact h _ (List.getElem_mem _)
theorem wrap_u64 (n : Int) : IntKind.u64.wrap n = n % 18446744073709551616 := by simp [IntKind.wrap, IntKind.bits, IntKind.signed]
theorem low_byte {x : Int} (h0 : 0 ≤ x) (h1 : x < 18446744073709551616) : Go.bits .and .u64 x 255 = x % 256 :=
  bits_mask .u64 64 (by decide) (fun n h0 h1 => by rw [wrap_u64]; omega) 8 (by decide) x h0 (by simpa using h1)

theorem next_val {l : List Int} (hB : Bytes l) (hl : l.length ≤ 140737488351232) {a s : Int} (h0 : 0 ≤ a) (h1 : a ≤ 1000000000) : ∃ b s', spec_l00Src_next.f l a s = some (b, a + 1, s') ∧ 0 ≤ b ∧ b ≤ 255 := by
  unfold spec_l00Src_next.f
  rw [w64 (x := a + 1) (by omega) (by omega)]
  have hlow : ∀ z : Int, 0 ≤ wrap64 (Go.bits .and .u64 (IntKind.u64.wrap z / 1099511627776) 255) ∧ wrap64 (Go.bits .and .u64 (IntKind.u64.wrap z / 1099511627776) 255) ≤ 255 := by
    intro z
    rw [wrap_u64, low_byte (by omega) (by omega), w64 (by omega) (by omega)]
    omega
  by_cases h : a < (l.length : Int)
  · have hr := rd_bytes hB h0 h
    rw [if_pos h, if_pos h0, if_pos (by omega), w64 (x := rd l a) (by omega) (by omega)]
    exact ⟨_, _, rfl, hr.1, hr.2⟩
  · rw [if_neg h, if_neg (by omega)]
    exact ⟨_, _, rfl, (hlow _).1, (hlow _).2⟩
theorem pick_val {l : List Int} (hB : Bytes l) (hl : l.length ≤ 140737488351232) {a s : Int} (h0 : 0 ≤ a) (h1 : a ≤ 100000000) (n : Int) : ∃ v a' s', spec_l00Src_pick.f l a s n = some (v, a', s') ∧ a ≤ a' ∧ a' ≤ a + 2 ∧ 0 ≤ v ∧ (1 < n → v < n) ∧ (n ≤ 1 → v = 0) := by
  unfold spec_l00Src_pick.f
  by_cases h : n ≤ 1
  · rw [if_pos h]
    exact ⟨0, a, s, rfl, by omega, by omega, by omega, fun h => by omega, fun _ => rfl⟩
  · rw [if_neg h]
    obtain ⟨b, s1, e1, b0, b1⟩ := next_val hB hl (s := s) h0 (by omega)
    rw [e1]
    simp only [Option.bind_some]
    by_cases hn : n > 200
    · obtain ⟨c, s2, e2, c0, c1⟩ := next_val hB hl (a := a + 1) (s := s1) (by omega) (by omega)
      rw [if_pos hn, e2]
      simp only [Option.bind_some]
      rw [if_neg (by omega), w64 (x := b * 256) (by omega) (by omega), w64 (x := b * 256 + c) (by omega) (by omega), tmod_nn (by omega)]
      exact ⟨_, _, _, rfl, by omega, by omega, Int.emod_nonneg _ (by omega), fun _ => Int.emod_lt_of_pos _ (by omega), fun h2 => absurd h2 h⟩
    · rw [if_neg hn, if_neg (by omega), tmod_nn (by omega)]
      exact ⟨_, _, _, rfl, by omega, by omega, Int.emod_nonneg _ (by omega), fun _ => Int.emod_lt_of_pos _ (by omega), fun h2 => absurd h2 h⟩

theorem one_val {l : List Int} (hB : Bytes l) (hl : l.length ≤ 140737488351232) {a s : Int} (h0 : 0 ≤ a) (h1 : a ≤ 100000000) (n : Int) : ∃ v a' s', spec_l00Src_one.f l a s n = some (v, a', s') ∧ a ≤ a' ∧ a' ≤ a + 2 := by
  obtain ⟨v, a', s', e, h2, h3, _⟩ := pick_val hB hl (s := s) h0 h1 n
  unfold spec_l00Src_one.f
  rw [e]
  exact ⟨_, _, _, rfl, h2, h3⟩

theorem among_val {l : List Int} (hB : Bytes l) (hl : l.length ≤ 140737488351232) {a s : Int} (h0 : 0 ≤ a) (h1 : a ≤ 100000000) (m : List Int) (hm : 0 < m.length) : ∃ v a' s', spec_l00Src_among.f l a s m = some (v, a', s') ∧ a ≤ a' ∧ a' ≤ a + 2 ∧ v ∈ m := by
  obtain ⟨v, a', s', e, h2, h3, h4, h5, h6⟩ := pick_val hB hl (s := s) h0 h1 (m.length : Int)
  have hv : v < (m.length : Int) := by
    by_cases h : 1 < (m.length : Int)
    · exact h5 h
    · have := h6 (by omega); omega
  unfold spec_l00Src_among.f
  rw [e]
  simp only [Option.bind_some]
  rw [if_pos h4, if_pos hv]
  obtain ⟨j, rfl⟩ := Int.eq_ofNat_of_zero_le h4
  rw [rd_nat m j (by omega)]
  exact ⟨_, _, _, rfl, h2, h3, List.getElem_mem _⟩

theorem text_val {l : List Int} (hB : Bytes l) (hl : l.length ≤ 140737488351232) {a s : Int} (h0 : 0 ≤ a) (h1 : a ≤ 100000000) (m : List ByteArray) (hm : 0 < m.length) : ∃ v a' s', spec_l00Src_text.f l a s m = some (v, a', s') ∧ a ≤ a' ∧ a' ≤ a + 2 ∧ v ∈ m := by
  obtain ⟨v, a', s', e, h2, h3, h4, h5, h6⟩ := pick_val hB hl (s := s) h0 h1 (m.length : Int)
  have hv : v < (m.length : Int) := by
    by_cases h : 1 < (m.length : Int)
    · exact h5 h
    · have := h6 (by omega); omega
  unfold spec_l00Src_text.f
  rw [e]
  simp only [Option.bind_some]
  rw [if_pos h4, if_pos hv]
  obtain ⟨j, rfl⟩ := Int.eq_ofNat_of_zero_le h4
  rw [rdOf_at _ m j (by omega)]
  exact ⟨_, _, _, rfl, h2, h3, List.getElem_mem _⟩

theorem f6big_val (l : List Int) : laws_f6big.f l = some (decide ((l.length : Int) > 4096)) := rfl

theorem f6texts_l (l : List ByteArray) (hl : l.length ≤ 1048576) (d : Nat) : ∀ (i : Nat), i ≤ l.length → l.length - i = d → Ev (fun k => laws_f6texts.l0 k l l i) true := by
  induction d with
  | zero =>
    intro i hi hd
    apply ev_succ
    simp only [laws_f6texts.l0, if_neg (show ¬ (i : Int) < (l.length : Int) by omega)]
    exact ev_const rfl
  | succ d ih =>
    intro i hi hd
    have h1 := ih (i + 1) (by omega) (by omega)
    apply ev_succ
    simp only [laws_f6texts.l0, if_pos (show (i : Int) < (l.length : Int) by omega), if_pos (show (0 : Int) ≤ (i : Int) by omega), if_true, w64 (x := (i : Int) + 1) (by omega) (by omega)]
    exact h1
theorem f6texts_ev (l : List ByteArray) (hl : l.length ≤ 1048576) : Ev (fun k => laws_f6texts.f k l l) true := by
  unfold laws_f6texts.f
  simp only [if_true]
  exact f6texts_l l hl l.length 0 (by omega) (by omega)

def BL (x y : ByteArray) : Prop := x.data.toList < y.data.toList
theorem bl_no (x : ByteArray) : ¬ BL x x := List.lt_irrefl _
theorem bl_tr {x y z : ByteArray} (h : BL x y) (h2 : BL y z) : BL x z := List.lt_trans h h2
theorem asc_ext : ∀ (a b : List ByteArray), a.Pairwise BL → b.Pairwise BL → (∀ x, x ∈ a ↔ x ∈ b) → a = b
  | [], [], _, _, _ => rfl
  | [], y :: b, _, _, h => by have := (h y).2 (by simp); simp at this
  | x :: a, [], _, _, h => by have := (h x).1 (by simp); simp at this
  | x :: a, y :: b, h1, h2, h => by
    obtain ⟨g1, g2⟩ := List.pairwise_cons.1 h1
    obtain ⟨f1, f2⟩ := List.pairwise_cons.1 h2
    have e : x = y := by
      rcases List.mem_cons.1 ((h x).1 (by simp)) with e | e
      · exact e
      · rcases List.mem_cons.1 ((h y).2 (by simp)) with e2 | e2
        · exact e2.symm
        · exact absurd (bl_tr (g1 y e2) (f1 x e)) (bl_no x)
    subst e
    rw [asc_ext a b g2 f2 (fun z => ?_)]
    constructor
    · intro hz
      rcases List.mem_cons.1 ((h z).1 (List.mem_cons_of_mem _ hz)) with e | e
      · exact absurd (e ▸ g1 z hz) (bl_no x)
      · exact e
    · intro hz
      rcases List.mem_cons.1 ((h z).2 (List.mem_cons_of_mem _ hz)) with e | e
      · exact absurd (e ▸ f1 z hz) (bl_no x)
      · exact e
theorem lt_of_le {a b : List UInt8} (h : a ≤ b) (h2 : b ≠ a) : a < b := by
  rcases List.le_iff_lt_or_eq.1 h with h | h
  · exact h
  · exact absurd h.symm h2
theorem compactS_facts (d : Array (List UInt8)) (hs : ∀ i j, i ≤ j → j < d.size → d[i]! ≤ d[j]!) (m : Nat) : m ≤ d.size → (Go.Lib.compactUpTo d m).Pairwise (· < ·) ∧ ∀ x, x ∈ Go.Lib.compactUpTo d m ↔ ∃ j, j < m ∧ d[j]! = x := by
  induction m with
  | zero =>
    intro _
    exact ⟨by simp [Go.Lib.compactUpTo], fun x => by simp [Go.Lib.compactUpTo]⟩
  | succ m ih =>
    intro hm
    obtain ⟨h1, h2⟩ := ih (by omega)
    rw [Go.Lib.compactUpTo_succ]
    by_cases hk : Go.Lib.keeps d m = true
    · rw [if_pos hk]
      have hk2 : m = 0 ∨ d[m]! ≠ d[m - 1]! := of_decide_eq_true hk
      refine ⟨?_, fun x => ?_⟩
      · rw [List.pairwise_append]
        refine ⟨h1, by simp, fun a ha b hb => ?_⟩
        rw [List.mem_singleton.1 hb]
        obtain ⟨j, hj, rfl⟩ := (h2 a).1 ha
        have q1 := hs j (m - 1) (by omega) (by omega)
        have q2 := hs (m - 1) m (by omega) (by omega)
        rcases hk2 with h | h
        · omega
        · exact List.lt_of_le_of_lt q1 (lt_of_le q2 h)
      · rw [List.mem_append, List.mem_singleton, h2]
        constructor
        · rintro (⟨j, hj, rfl⟩ | rfl)
          · exact ⟨j, by omega, rfl⟩
          · exact ⟨m, by omega, rfl⟩
        · rintro ⟨j, hj, rfl⟩
          by_cases e : j = m
          · subst e; exact .inr rfl
          · exact .inl ⟨j, by omega, rfl⟩
    · rw [if_neg hk, List.append_nil]
      have hk2 : ¬ (m = 0 ∨ d[m]! ≠ d[m - 1]!) := fun h => hk (decide_eq_true h)
      refine ⟨h1, fun x => ?_⟩
      rw [h2]
      constructor
      · rintro ⟨j, hj, rfl⟩
        exact ⟨j, by omega, rfl⟩
      · rintro ⟨j, hj, rfl⟩
        by_cases e : j = m
        · subst e
          have : d[j]! = d[j - 1]! := by
            by_cases q : d[j]! = d[j - 1]!
            · exact q
            · exact absurd (.inr q) hk2
          exact ⟨j - 1, by omega, this.symm⟩
        · exact ⟨j, by omega, rfl⟩
theorem sortedS_compact (zs : List (List UInt8)) : (Go.Lib.compact (zs.mergeSort fun x y => decide (x ≤ y))).Pairwise (· < ·) ∧ ∀ x, x ∈ Go.Lib.compact (zs.mergeSort fun x y => decide (x ≤ y)) ↔ x ∈ zs := by
  have hp : (zs.mergeSort fun x y => decide (x ≤ y)).Pairwise (fun a b => decide (a ≤ b) = true) := List.pairwise_mergeSort (le := fun x y : List UInt8 => decide (x ≤ y)) (fun a b c h1 h2 => decide_eq_true (List.le_trans (of_decide_eq_true h1) (of_decide_eq_true h2))) (fun a b => by rw [Bool.or_eq_true, decide_eq_true_iff, decide_eq_true_iff]; exact List.le_total a b) zs
  have hm : ∀ x, x ∈ (zs.mergeSort fun x y => decide (x ≤ y)) ↔ x ∈ zs := fun x => List.mem_mergeSort
  generalize (zs.mergeSort fun x y => decide (x ≤ y)) = ts at hp hm
  have hget : ∀ j (h : j < ts.length), ts.toArray[j]! = ts[j] := fun j h => by simp [h]
  have hs : ∀ i j, i ≤ j → j < ts.toArray.size → ts.toArray[i]! ≤ ts.toArray[j]! := by
    intro i j hij hj
    have hj' : j < ts.length := by simpa using hj
    rw [hget i (by omega), hget j hj']
    rcases Nat.eq_or_lt_of_le hij with e | e
    · subst e; exact List.le_refl _
    · exact of_decide_eq_true (List.pairwise_iff_getElem.1 hp i j (by omega) hj' e)
  obtain ⟨h1, h2⟩ := compactS_facts ts.toArray hs ts.length (by simp)
  unfold Go.Lib.compact
  refine ⟨h1, fun x => ?_⟩
  rw [h2, ← hm]
  constructor
  · rintro ⟨j, hj, rfl⟩
    rw [hget j hj]
    exact List.getElem_mem _
  · intro hx
    obtain ⟨j, hj, rfl⟩ := List.getElem_of_mem hx
    exact ⟨j, hj, hget j hj⟩
theorem sortL_asc (o : List ByteArray) : (sortL o).Pairwise BL := by
  unfold sortL textL
  rw [List.pairwise_map]
  exact (sortedS_compact (bytesL o)).1
theorem sortL_mem (o : List ByteArray) (x : ByteArray) : x ∈ sortL o ↔ x ∈ o := by
  unfold sortL textL
  rw [List.mem_map]
  constructor
  · rintro ⟨z, hz, rfl⟩
    obtain ⟨y, hy, rfl⟩ := List.mem_map.1 (((sortedS_compact (bytesL o)).2 z).1 hz)
    exact hy
  · intro hx
    exact ⟨x.data.toList, ((sortedS_compact (bytesL o)).2 _).2 (List.mem_map.2 ⟨x, hx, rfl⟩), rfl⟩
theorem son_append (a b : List Int) : strOfNums (a ++ b) = strOfNums a ++ strOfNums b := by
  apply ByteArray.ext
  rw [ByteArray.data_append]
  simp [strOfNums]
theorem numsB_son (xs : List Int) (h : ∀ x ∈ xs, 0 ≤ x ∧ x < 256) : numsB (strOfNums xs) = xs := by
  unfold numsB strOfNums
  show List.map (fun b : UInt8 => (b.toNat : Int)) (List.map (fun n : Int => UInt8.ofNat n.toNat) xs) = xs
  rw [List.map_map]
  conv => rhs; rw [← List.map_id xs]
  apply List.map_congr_left
  intro x hx
  have := h x hx
  show ((UInt8.ofNat x.toNat).toNat : Int) = x
  rw [UInt8.toNat_ofNat']
  omega
theorem bt_son (xs : List Int) (h : ∀ x ∈ xs, 0 ≤ x ∧ x < 256) (i : Nat) (hi : i < xs.length) : bt (strOfNums xs) (i : Int) = xs[i] := by
  have h1 : i < (strOfNums xs).size := by rw [strOfNums_size]; exact hi
  rw [bt_at _ i h1]
  have h2 := numsB_son xs h
  have h3 : (numsB (strOfNums xs))[i]'(by rw [h2]; exact hi) = xs[i] := by simp only [h2]
  rw [← h3]
  simp [numsB]
theorem extract_son (xs : List Int) (i : Nat) (hi : i < xs.length) : (strOfNums xs).extract i (i + 1) = strOfNums [xs[i]] := by
  apply ByteArray.ext
  rw [ByteArray.data_extract]
  apply Array.toList_inj.1
  rw [Array.toList_extract]
  show List.extract ((xs.map fun n => UInt8.ofNat n.toNat)) i (i + 1) = [UInt8.ofNat (xs[i]).toNat]
  rw [List.extract_eq_take_drop, show i + 1 - i = 1 by omega, List.drop_eq_getElem_cons (by simpa using hi)]
  simp
/-- The value of a cell. -/
abbrev cv (l : List ByteArray) (i m : Int) : Int := bt (rdOf ByteArray.empty l i) m
theorem row_size {l : List ByteArray} (h : gridB l = true) (i : Nat) (hi : i < l.length) : (rdOf ByteArray.empty l (i : Int)).size = wideL l := by
  rw [rdOf_at _ _ _ hi]
  exact ((grid_facts h).2.2 _ (List.getElem_mem hi)).1
theorem wide_bd {l : List ByteArray} (h : gridB l = true) : 1 ≤ wideL l ∧ wideL l ≤ 32 := by
  obtain ⟨h1, h2, h3⟩ := grid_facts h
  have h4 := h3 _ (List.getElem_mem (show 0 < l.length by omega))
  omega
theorem cv_at {l : List ByteArray} (i m : Nat) (hi : i < l.length) (hm : m < (l[i]).data.toList.length) : cv l i m = (((l[i]).data.toList[m]).toNat : Int) := by
  unfold cv
  rw [rdOf_at _ _ _ hi]
  exact bt_at _ _ (by rw [← dsize]; exact hm)
theorem cv_kind {l : List ByteArray} (h : gridB l = true) (i m : Nat) (hi : i < l.length) (hm : m < wideL l) : cv l i m = 46 ∨ (97 ≤ cv l i m ∧ cv l i m ≤ 122) := by
  obtain ⟨h1, h2, h3⟩ := grid_facts h
  obtain ⟨r1, r2, r3, r4⟩ := h3 _ (List.getElem_mem hi)
  have hm2 : m < (l[i]).data.toList.length := by rw [dsize]; omega
  rw [cv_at i m hi hm2]
  exact of_decide_eq_true (List.all_eq_true.1 r4 _ (List.getElem_mem hm2))
/-! The letters -/
def landsD (l : List ByteArray) : Nat → Int → List Int
  | 0, _ => []
  | d + 1, c => if 0 < cntG c l then c :: landsD l d (c + 1) else landsD l d (c + 1)
theorem landsD_mem (l : List ByteArray) : ∀ (d : Nat) (c x : Int), x ∈ landsD l d c ↔ c ≤ x ∧ x < c + d ∧ 0 < cntG x l
  | 0, c, x => by simp [landsD]; omega
  | d + 1, c, x => by
    unfold landsD
    by_cases h : 0 < cntG c l
    · rw [if_pos h, List.mem_cons, landsD_mem l d (c + 1) x]
      constructor
      · rintro (rfl | ⟨h1, h2, h3⟩)
        · exact ⟨by omega, by omega, h⟩
        · exact ⟨by omega, by omega, h3⟩
      · rintro ⟨h1, h2, h3⟩
        by_cases e : x = c
        · exact .inl e
        · exact .inr ⟨by omega, by omega, h3⟩
    · rw [if_neg h, landsD_mem l d (c + 1) x]
      constructor
      · rintro ⟨h1, h2, h3⟩
        exact ⟨by omega, by omega, h3⟩
      · rintro ⟨h1, h2, h3⟩
        have : x ≠ c := by rintro rfl; exact h h3
        exact ⟨by omega, by omega, h3⟩
theorem landsD_asc (l : List ByteArray) : ∀ (d : Nat) (c : Int), (landsD l d c).Pairwise (· < ·)
  | 0, c => List.Pairwise.nil
  | d + 1, c => by
    unfold landsD
    split
    · exact List.pairwise_cons.2 ⟨fun x hx => by have := (landsD_mem l d (c + 1) x).1 hx; omega, landsD_asc l d (c + 1)⟩
    · exact landsD_asc l d (c + 1)
theorem landsD_length (l : List ByteArray) : ∀ (d : Nat) (c : Int), (landsD l d c).length ≤ d
  | 0, c => by simp [landsD]
  | d + 1, c => by
    have := landsD_length l d (c + 1)
    unfold landsD
    split
    · rw [List.length_cons]; omega
    · omega
def landsL (l : List ByteArray) : List Int := landsD l 26 97
theorem landsL_bytes (l : List ByteArray) : ∀ x ∈ landsL l, 0 ≤ x ∧ x < 256 := fun x hx => by have := (landsD_mem l 26 97 x).1 hx; omega
theorem enc_one (c : Int) (h : 97 ≤ c) (h2 : c ≤ 122) : Go.Utf8.encode (wrap32 c) = strOfNums [c] := by
  rw [show wrap32 c = c by unfold wrap32; omega]
  unfold Go.Utf8.encode Go.Utf8.valid
  have : (decide (0 ≤ c) && decide (c < 0xD800) || decide (0xE000 ≤ c) && decide (c ≤ 0x10FFFF)) = true := by simp; omega
  simp only [this, if_true]
  rw [if_pos (by omega)]
  rfl
theorem slands_l (l : List ByteArray) (hl : l.length ≤ 1000) (hs : ∀ y ∈ l, y.size ≤ 1000) (d : Nat) : ∀ (c : Int) (xs : List Int), 97 ≤ c → c + d = 123 → xs.length + d ≤ 26 → Ev (fun k => spec_l12Lands.l0 k l (strOfNums xs) c) (strOfNums (xs ++ landsD l d c)) := by
  induction d with
  | zero =>
    intro c xs h0 h1 h2
    apply ev_succ
    simp only [spec_l12Lands.l0, if_neg (show ¬ c ≤ 122 by omega)]
    exact ev_const (by simp [landsD])
  | succ d ih =>
    intro c xs h0 h1 h2
    apply ev_succ
    simp only [spec_l12Lands.l0, if_pos (show c ≤ 122 by omega), show (c + 1) % 256 = c + 1 by omega]
    refine Ev.bind (cnt_ev l hl hs c) ?_
    unfold landsD
    by_cases h : 0 < cntG c l
    · simp only [if_pos (show (cntG c l : Int) > 0 by omega), Option.bind_some, if_pos (show (strOfNums xs).size + (strOfNums [c]).size ≤ 9223372036854775807 by rw [strOfNums_size, strOfNums_size, List.length_singleton]; omega)]
      rw [if_pos h, ← son_append]
      have := ih (c + 1) (xs ++ [c]) (by omega) (by omega) (by rw [List.length_append, List.length_singleton]; omega)
      rw [List.append_assoc] at this
      exact this
    · simp only [if_neg (show ¬ (cntG c l : Int) > 0 by omega)]
      rw [if_neg h]
      exact ih (c + 1) xs (by omega) (by omega) (by omega)
theorem slands_ev (l : List ByteArray) (hl : l.length ≤ 1000) (hs : ∀ y ∈ l, y.size ≤ 1000) : Ev (fun k => spec_l12Lands.f k l) (strOfNums (landsL l)) := slands_l l hl hs 26 97 [] (by omega) (by omega) (by simp)
theorem ilands_l (l : List ByteArray) (hl : l.length ≤ 1000) (hs : ∀ y ∈ l, y.size ≤ 1000) (d : Nat) : ∀ (c : Int) (xs : List Int), 97 ≤ c → c + d = 123 → xs.length + d ≤ 26 → Ev (fun k => impl_landsOf.l0 k l (strOfNums xs) c) (strOfNums (xs ++ landsD l d c)) := by
  induction d with
  | zero =>
    intro c xs h0 h1 h2
    apply ev_succ
    simp only [impl_landsOf.l0, if_neg (show ¬ c ≤ 122 by omega)]
    exact ev_const (by simp [landsD])
  | succ d ih =>
    intro c xs h0 h1 h2
    apply ev_succ
    simp only [impl_landsOf.l0, if_pos (show c ≤ 122 by omega), show (c + 1) % 256 = c + 1 by omega, enc_one c h0 (show c ≤ 122 by omega)]
    refine Ev.bind (cells_ev l hl hs c) ?_
    rw [cellsG_length]
    unfold landsD
    by_cases h : 0 < cntG c l
    · simp only [if_pos (show (cntG c l : Int) > 0 by omega), if_pos (show (strOfNums xs).size + (strOfNums [c]).size ≤ 9223372036854775807 by rw [strOfNums_size, strOfNums_size, List.length_singleton]; omega)]
      rw [if_pos h, ← son_append]
      have := ih (c + 1) (xs ++ [c]) (by omega) (by omega) (by rw [List.length_append, List.length_singleton]; omega)
      rw [List.append_assoc] at this
      exact this
    · simp only [if_neg (show ¬ (cntG c l : Int) > 0 by omega)]
      rw [if_neg h]
      exact ih (c + 1) xs (by omega) (by omega) (by omega)
theorem ilands_ev (l : List ByteArray) (hl : l.length ≤ 1000) (hs : ∀ y ∈ l, y.size ≤ 1000) : Ev (fun k => impl_landsOf.f k l) (strOfNums (landsL l)) := ilands_l l hl hs 26 97 [] (by omega) (by omega) (by simp)
/-! Whether two letters meet -/
def hitB (a b c d : Int) : Bool := decide (c = a ∧ d = b) || decide (c = b ∧ d = a)
theorem hit_iff (a b c d : Int) : hitB a b c d = true ↔ (c = a ∧ d = b) ∨ (c = b ∧ d = a) := by
  unfold hitB
  rw [Bool.or_eq_true, decide_eq_true_iff, decide_eq_true_iff]
theorem hit_if {β : Type} (X : Bool → β) (a b c d : Int) : (if c = a then (if d = b then X true else (if c = b then X (d == a) else X false)) else (if c = b then X (d == a) else X false)) = X (hitB a b c d) := by
  unfold hitB
  by_cases h1 : c = a
  · by_cases h2 : d = b
    · rw [if_pos h1, if_pos h2, decide_eq_true ⟨h1, h2⟩, Bool.true_or]
    · rw [if_pos h1, if_neg h2, decide_eq_false (fun h => h2 h.2), Bool.false_or]
      by_cases h3 : c = b
      · rw [if_pos h3]
        congr 1
        rw [Bool.eq_iff_iff, beq_iff_eq, decide_eq_true_iff]
        exact ⟨fun h => ⟨h3, h⟩, fun h => h.2⟩
      · rw [if_neg h3, decide_eq_false (fun h => h3 h.1)]
  · rw [if_neg h1, decide_eq_false (fun h => h1 h.1), Bool.false_or]
    by_cases h3 : c = b
    · rw [if_pos h3]
      congr 1
      rw [Bool.eq_iff_iff, beq_iff_eq, decide_eq_true_iff]
      exact ⟨fun h => ⟨h3, h⟩, fun h => h.2⟩
    · rw [if_neg h3, decide_eq_false (fun h => h3 h.1)]
theorem hit_if2 {β : Type} (X L : β) (a b c d : Int) : (if c = a then (if d = b then X else (if c = b then (if d = a then X else L) else L)) else (if c = b then (if d = a then X else L) else L)) = (if hitB a b c d = true then X else L) := by
  simp only [hit_iff]
  by_cases h1 : c = a
  · by_cases h2 : d = b
    · rw [if_pos h1, if_pos h2, if_pos (.inl ⟨h1, h2⟩)]
    · rw [if_pos h1, if_neg h2]
      by_cases h3 : c = b
      · by_cases h4 : d = a
        · rw [if_pos h3, if_pos h4, if_pos (.inr ⟨h3, h4⟩)]
        · rw [if_pos h3, if_neg h4, if_neg (fun h => h.elim (fun h => h2 h.2) (fun h => h4 h.2))]
      · rw [if_neg h3, if_neg (fun h => h.elim (fun h => h2 h.2) (fun h => h3 h.1))]
  · rw [if_neg h1]
    by_cases h3 : c = b
    · by_cases h4 : d = a
      · rw [if_pos h3, if_pos h4, if_pos (.inr ⟨h3, h4⟩)]
      · rw [if_pos h3, if_neg h4, if_neg (fun h => h.elim (fun h => h1 h.1) (fun h => h4 h.2))]
    · rw [if_neg h3, if_neg (fun h => h.elim (fun h => h1 h.1) (fun h => h3 h.1))]
def meetC (l : List ByteArray) (a b : Int) (i m : Nat) : Bool := hitB a b (cv l i m) (cv l i (((m + 1) % wideL l : Nat) : Int)) || (decide (i + 1 < l.length) && hitB a b (cv l i m) (cv l ((i + 1 : Nat) : Int) m))
theorem meetC_eq (l : List ByteArray) (a b : Int) (i m : Nat) : meetC l a b i m = (hitB a b (cv l i m) (cv l i (((m + 1) % wideL l : Nat) : Int)) || (decide (i + 1 < l.length) && hitB a b (cv l i m) (cv l ((i + 1 : Nat) : Int) m))) := rfl
def meetB (l : List ByteArray) (a b : Int) : Bool := (List.range' 0 l.length).any fun i => (List.range' 0 (wideL l)).any (meetC l a b i)
theorem east_val {l : List ByteArray} (h : gridB l = true) (i m : Nat) (hi : i < l.length) (hm : m < wideL l) : spec_l12East.f l i m = some (cv l i (((m + 1) % wideL l : Nat) : Int)) := by
  obtain ⟨w1, w2⟩ := wide_bd h
  have e : Int.tmod (wrap64 ((m : Int) + 1)) (wideL l : Int) = (((m + 1) % wideL l : Nat) : Int) := by
    rw [w64 (by omega) (by omega), tmod_nn (by omega), Int.natCast_emod, show ((m + 1 : Nat) : Int) = (m : Int) + 1 by omega]
  have e2 : (m + 1) % wideL l < wideL l := Nat.mod_lt _ (by omega)
  unfold spec_l12East.f
  rw [row_size h i hi, e, if_pos (by omega), if_pos (by omega), if_neg (by omega), if_pos (by omega), if_pos (by omega)]
theorem meet_ev {l : List ByteArray} (h : gridB l = true) (a b : Int) : Ev (fun k => spec_l12Meet.f k l a b) (meetB l a b) := by
  obtain ⟨g1, g2, g3⟩ := grid_facts h
  obtain ⟨w1, w2⟩ := wide_bd h
  have rows : ∀ (d i : Nat), i ≤ l.length → l.length - i = d → Ev (fun k => spec_l12Meet.l0 k l a b i) ((List.range' i d).any fun i => (List.range' 0 (wideL l)).any (meetC l a b i)) := by
    intro d
    induction d with
    | zero =>
      intro i hi hd
      apply ev_succ
      simp only [spec_l12Meet.l0, if_neg (show ¬ (i : Int) < (l.length : Int) by omega)]
      exact ev_const rfl
    | succ d ih =>
      intro i hi hd
      have hlt : i < l.length := by omega
      have row : ∀ (e m : Nat), m ≤ wideL l → wideL l - m = e → Ev (fun k => spec_l12Meet.l1 k l a b i m) ((List.range' m e).any (meetC l a b i) || (List.range' (i + 1) d).any fun i => (List.range' 0 (wideL l)).any (meetC l a b i)) := by
        intro e
        induction e with
        | zero =>
          intro m hm he
          apply ev_succ
          simp only [spec_l12Meet.l1, if_pos (show (0 : Int) ≤ (i : Int) by omega), if_pos (show (i : Int) < (l.length : Int) by omega), row_size h i hlt, if_neg (show ¬ (m : Int) < (wideL l : Int) by omega), w64 (x := (i : Int) + 1) (by omega) (by omega)]
          exact ih (i + 1) (by omega) (by omega)
        | succ e ih2 =>
          intro m hm he
          have hm2 : m < wideL l := by omega
          have h3 := ih2 (m + 1) (by omega) (by omega)
          rw [List.range'_succ, List.any_cons]
          apply ev_succ
          simp only [spec_l12Meet.l1, if_pos (show (0 : Int) ≤ (i : Int) by omega), if_pos (show (i : Int) < (l.length : Int) by omega), row_size h i hlt, if_pos (show (m : Int) < (wideL l : Int) by omega), if_pos (show (0 : Int) ≤ (m : Int) by omega), east_val h i m hlt hm2, Option.bind_some]
          have e1 : ∀ k, (if cv l i m = a then (if cv l i (((m + 1) % wideL l : Nat) : Int) = b then spec_l12Meet.j2 k l a b i m (cv l i m) true else (if cv l i m = b then spec_l12Meet.j2 k l a b i m (cv l i m) (cv l i (((m + 1) % wideL l : Nat) : Int) == a) else spec_l12Meet.j2 k l a b i m (cv l i m) false)) else (if cv l i m = b then spec_l12Meet.j2 k l a b i m (cv l i m) (cv l i (((m + 1) % wideL l : Nat) : Int) == a) else spec_l12Meet.j2 k l a b i m (cv l i m) false)) = spec_l12Meet.j2 k l a b i m (cv l i m) (hitB a b (cv l i m) (cv l i (((m + 1) % wideL l : Nat) : Int))) := fun k => hit_if (fun x => spec_l12Meet.j2 k l a b i m (cv l i m) x) a b (cv l i m) (cv l i (((m + 1) % wideL l : Nat) : Int))
          simp only [e1]
          apply ev_succ
          rw [meetC_eq l a b i m]
          cases hq : hitB a b (cv l i m) (cv l i (((m + 1) % wideL l : Nat) : Int)) with
          | true =>
            simp only [spec_l12Meet.j2, if_true, Bool.true_or]
            exact ev_const rfl
          | false =>
            simp only [spec_l12Meet.j2, Bool.false_eq_true, if_false, Bool.false_or, w64 (x := (i : Int) + 1) (by omega) (by omega), w64 (x := (m : Int) + 1) (by omega) (by omega)]
            by_cases hn : i + 1 < l.length
            · rw [decide_eq_true hn, Bool.true_and]
              have rs := row_size h (i + 1) hn
              rw [show ((i + 1 : Nat) : Int) = (i : Int) + 1 by omega] at rs ⊢
              simp only [if_pos (show (i : Int) + 1 < (l.length : Int) by omega), if_pos (show (0 : Int) ≤ (i : Int) + 1 by omega), if_pos (show (0 : Int) ≤ (m : Int) by omega), rs, if_pos (show (m : Int) < (wideL l : Int) by omega), hit_if2]
              cases hq2 : hitB a b (cv l i m) (cv l ((i : Int) + 1) m) with
              | true =>
                simp only [if_true, Bool.true_or]
                exact ev_const rfl
              | false =>
                simp only [Bool.false_eq_true, if_false, Bool.false_or]
                exact h3
            · rw [decide_eq_false hn, Bool.false_and, Bool.false_or]
              simp only [if_neg (show ¬ (i : Int) + 1 < (l.length : Int) by omega)]
              exact h3
      rw [List.range'_succ, List.any_cons]
      apply ev_succ
      simp only [spec_l12Meet.l0, if_pos (show (i : Int) < (l.length : Int) by omega)]
      exact row (wideL l) 0 (by omega) (by omega)
  exact rows l.length 0 (by omega) (by omega)
/-! The reference's list -/
def pairB (l : List ByteArray) (a : Int) (bs : List Int) : List ByteArray := (bs.filter (fun b => meetB l a b)).map (fun b => strOfNums [a, b])
def pairsB (l : List ByteArray) : List Int → List ByteArray
  | [] => []
  | a :: bs => pairB l a bs ++ pairsB l bs
theorem spairs {l : List ByteArray} (h : gridB l = true) (ls : List Int) (hb : ∀ x ∈ ls, 0 ≤ x ∧ x < 256) (hn : ls.length ≤ 26) (d : Nat) : ∀ (i : Nat) (o : List ByteArray), i ≤ ls.length → ls.length - i = d → o.length ≤ 100 * i → Ev (fun k => spec_GridBorders.l0 k l (strOfNums ls) o i) (o ++ pairsB l (ls.drop i), 0) := by
  induction d with
  | zero =>
    intro i o hi hd ho
    apply ev_succ
    simp only [spec_GridBorders.l0, strOfNums_size, if_neg (show ¬ (i : Int) < (ls.length : Int) by omega)]
    rw [List.drop_eq_nil_of_le (by omega)]
    exact ev_const (by simp [pairsB])
  | succ d ih =>
    intro i o hi hd ho
    have hlt : i < ls.length := by omega
    have inner : ∀ (e j : Nat) (o : List ByteArray), i < j → j ≤ ls.length → ls.length - j = e → o.length ≤ 100 * i + j → Ev (fun k => spec_GridBorders.l1 k l (strOfNums ls) o i j) (o ++ (pairB l ls[i] (ls.drop j) ++ pairsB l (ls.drop (i + 1))), 0) := by
      intro e
      induction e with
      | zero =>
        intro j o hij hj he ho
        apply ev_succ
        simp only [spec_GridBorders.l1, strOfNums_size, if_neg (show ¬ (j : Int) < (ls.length : Int) by omega), w64 (x := (i : Int) + 1) (by omega) (by omega)]
        rw [List.drop_eq_nil_of_le (show ls.length ≤ j by omega)]
        exact ih (i + 1) o (by omega) (by omega) (by omega)
      | succ e ih2 =>
        intro j o hij hj he ho
        have hj2 : j < ls.length := by omega
        have e1 : (strOfNums ls).extract ((i : Int)).toNat ((i : Int) + 1).toNat = strOfNums [ls[i]] := by
          rw [show ((i : Int) + 1).toNat = i + 1 by omega, Int.toNat_natCast]; exact extract_son ls i hlt
        have e2 : (strOfNums ls).extract ((j : Int)).toNat ((j : Int) + 1).toNat = strOfNums [ls[j]] := by
          rw [show ((j : Int) + 1).toNat = j + 1 by omega, Int.toNat_natCast]; exact extract_son ls j hj2
        apply ev_succ
        simp only [spec_GridBorders.l1, strOfNums_size, if_pos (show (j : Int) < (ls.length : Int) by omega), if_pos (show (0 : Int) ≤ (i : Int) by omega), if_pos (show (i : Int) < (ls.length : Int) by omega), if_pos (show (0 : Int) ≤ (j : Int) by omega), w64 (x := (i : Int) + 1) (by omega) (by omega), w64 (x := (j : Int) + 1) (by omega) (by omega), if_pos (show (i : Int) ≤ (i : Int) + 1 by omega), if_pos (show (j : Int) ≤ (j : Int) + 1 by omega), if_pos (show (i : Int) + 1 ≤ (ls.length : Int) by omega), if_pos (show (j : Int) + 1 ≤ (ls.length : Int) by omega), bt_son ls hb i hlt, bt_son ls hb j hj2, e1, e2, List.length_singleton, if_pos (show 1 + 1 ≤ 9223372036854775807 by omega), if_pos (show o.length < 8796093022208 by omega)]
        refine Ev.bind (meet_ev h ls[i] ls[j]) ?_
        rw [List.drop_eq_getElem_cons hj2]
        unfold pairB
        cases hq : meetB l ls[i] ls[j] with
        | true =>
          simp only [if_true]
          rw [List.filter_cons_of_pos (by simpa using hq), List.map_cons]
          have := ih2 (j + 1) (o ++ [strOfNums [ls[i]] ++ strOfNums [ls[j]]]) (by omega) (by omega) (by omega) (by rw [List.length_append, List.length_singleton]; omega)
          rw [← son_append, List.append_assoc] at this
          rw [← son_append]
          exact this
        | false =>
          simp only [Bool.false_eq_true, if_false]
          rw [List.filter_cons_of_neg (by simpa using hq)]
          exact ih2 (j + 1) o (by omega) (by omega) (by omega) (by omega)
    apply ev_succ
    simp only [spec_GridBorders.l0, strOfNums_size, if_pos (show (i : Int) < (ls.length : Int) by omega), w64 (x := (i : Int) + 1) (by omega) (by omega)]
    rw [List.drop_eq_getElem_cons hlt]
    exact inner _ (i + 1) o (by omega) (by omega) rfl (by omega)
def bordersV (l : List ByteArray) : List ByteArray × Int := if gridB l = true then (pairsB l (landsL l), 0) else ([], 1)
theorem spec_ev (l : List ByteArray) : Ev (fun k => spec_GridBorders.f k l) (bordersV l) := by
  unfold spec_GridBorders.f bordersV
  refine Ev.bind (ok_ev l) ?_
  by_cases h : gridB l = true
  · obtain ⟨g1, g2, g3⟩ := grid_facts h
    simp only [if_pos h]
    refine Ev.bind (slands_ev l (by omega) (fun y hy => by have := (g3 y hy).2.2.1; omega)) ?_
    have := spairs h (landsL l) (landsL_bytes l) (landsD_length l 26 97) (landsL l).length 0 [] (by omega) (by omega) (by simp)
    rw [List.drop_zero, List.nil_append] at this
    exact this
  · simp only [if_neg h]
    exact ev_const rfl
/-! The program's list -/
def nbrs (l : List ByteArray) (i m : Nat) : List S61 := [⟨i, (((m + 1) % wideL l : Nat) : Int)⟩, ⟨i, (((m + wideL l - 1) % wideL l : Nat) : Int)⟩] ++ ((if 0 < i then [⟨((i - 1 : Nat) : Int), m⟩] else []) ++ (if i + 1 < l.length then [⟨((i + 1 : Nat) : Int), m⟩] else []))
theorem nbrs_length (l : List ByteArray) (i m : Nat) : (nbrs l i m).length ≤ 4 := by
  unfold nbrs
  split <;> split <;> simp
theorem gnext_val {l : List ByteArray} (h : gridB l = true) (i m : Nat) (hi : i < l.length) (hm : m < wideL l) : impl_nextTo.f l i m = some (nbrs l i m) := by
  obtain ⟨w1, w2⟩ := wide_bd h
  obtain ⟨g1, g2, g3⟩ := grid_facts h
  have r0 := row_size h 0 (by omega)
  rw [show ((0 : Nat) : Int) = 0 from rfl] at r0
  have e1 : Int.tmod (wrap64 ((m : Int) + 1)) (wideL l : Int) = (((m + 1) % wideL l : Nat) : Int) := by
    rw [w64 (by omega) (by omega), tmod_nn (by omega), Int.natCast_emod, show ((m + 1 : Nat) : Int) = (m : Int) + 1 by omega]
  have e2 : Int.tmod (wrap64 ((wrap64 ((m : Int) + (wideL l : Int))) - 1)) (wideL l : Int) = (((m + wideL l - 1) % wideL l : Nat) : Int) := by
    rw [w64 (x := (m : Int) + (wideL l : Int)) (by omega) (by omega), w64 (by omega) (by omega), tmod_nn (by omega), Int.natCast_emod, show ((m + wideL l - 1 : Nat) : Int) = (m : Int) + (wideL l : Int) - 1 by omega]
  unfold impl_nextTo.f nbrs
  simp only [r0, e1, e2, if_pos (show (0 : Int) < (l.length : Int) by omega), if_neg (show ¬ (wideL l : Int) = 0 by omega), Option.bind_some, w64 (x := (l.length : Int) - 1) (by omega) (by omega), w64 (x := (i : Int) - 1) (by omega) (by omega), w64 (x := (i : Int) + 1) (by omega) (by omega), List.length_append, List.length_cons, List.length_nil]
  by_cases c1 : 0 < i
  · simp only [if_pos (show (i : Int) > 0 by omega), if_pos c1, if_pos (show 0 + 1 + 1 < 8796093022208 by omega), show ((i - 1 : Nat) : Int) = (i : Int) - 1 by omega]
    by_cases c2 : i + 1 < l.length
    · simp only [if_pos (show (i : Int) < (l.length : Int) - 1 by omega), if_pos c2, if_pos (show 0 + 1 + 1 + (0 + 1) < 8796093022208 by omega), show ((i + 1 : Nat) : Int) = (i : Int) + 1 by omega]
      rfl
    · simp only [if_neg (show ¬ (i : Int) < (l.length : Int) - 1 by omega), if_neg c2]
      rfl
  · simp only [if_neg (show ¬ (i : Int) > 0 by omega), if_neg c1, if_pos (show 0 + 1 + 1 < 8796093022208 by omega)]
    by_cases c2 : i + 1 < l.length
    · simp only [if_pos (show (i : Int) < (l.length : Int) - 1 by omega), if_pos c2, show ((i + 1 : Nat) : Int) = (i : Int) + 1 by omega]
      rfl
    · simp only [if_neg (show ¬ (i : Int) < (l.length : Int) - 1 by omega), if_neg c2]
      rfl
/-- A cell of the grid. -/
def InG (l : List ByteArray) (x : S61) : Prop := ∃ i m : Nat, i < l.length ∧ m < wideL l ∧ x = ⟨i, m⟩
theorem nbrs_in {l : List ByteArray} (h : gridB l = true) (i m : Nat) (hi : i < l.length) (hm : m < wideL l) : ∀ y ∈ nbrs l i m, InG l y := by
  obtain ⟨w1, w2⟩ := wide_bd h
  intro y hy
  unfold nbrs at hy
  rw [List.mem_append, List.mem_append] at hy
  rcases hy with hy | hy | hy
  · rw [List.mem_cons, List.mem_singleton] at hy
    rcases hy with rfl | rfl
    · exact ⟨i, (m + 1) % wideL l, hi, Nat.mod_lt _ (by omega), rfl⟩
    · exact ⟨i, (m + wideL l - 1) % wideL l, hi, Nat.mod_lt _ (by omega), rfl⟩
  · split at hy
    · rw [List.mem_singleton] at hy
      subst hy
      exact ⟨i - 1, m, by omega, hm, rfl⟩
    · cases hy
  · split at hy
    · rw [List.mem_singleton] at hy
      subst hy
      exact ⟨i + 1, m, by omega, hm, rfl⟩
    · cases hy
def outN (l : List ByteArray) (b : Int) (ns : List S61) : List ByteArray := (ns.filter (fun y => decide (cv l y.f0 y.f1 > b))).map (fun y => strOfNums [b, cv l y.f0 y.f1])
theorem outN_length (l : List ByteArray) (b : Int) (ns : List S61) : (outN l b ns).length ≤ ns.length := by
  unfold outN
  rw [List.length_map]
  exact List.length_filter_le _ _
theorem gbN_val {l : List ByteArray} (h : gridB l = true) (b : Int) : ∀ (ns : List S61) (o : List ByteArray), (∀ y ∈ ns, InG l y) → o.length + ns.length < 8796093022208 → gbN l b ns o = some (o ++ outN l b ns)
  | [], o, _, _ => by simp [gbN, outN]
  | y :: ns, o, hi, ho => by
    obtain ⟨i, m, h1, h2, h3⟩ := hi y (by simp)
    have rs := row_size h i h1
    rw [List.length_cons] at ho
    subst h3
    unfold gbN
    simp only [rs]
    rw [if_pos ⟨by omega, by omega, by omega, by omega⟩]
    unfold outN
    by_cases c : cv l i m > b
    · rw [if_pos c, if_pos (by omega), gbN_val h b ns _ (fun y hy => hi y (List.mem_cons_of_mem _ hy)) (by rw [List.length_append, List.length_singleton]; omega), List.filter_cons_of_pos (by simpa using c), List.map_cons, List.append_assoc]
      rfl
    · rw [if_neg c, gbN_val h b ns _ (fun y hy => hi y (List.mem_cons_of_mem _ hy)) (by omega), List.filter_cons_of_neg (by simpa using c)]
      rfl
def outC (l : List ByteArray) (b : Int) (c : S61) : List ByteArray := outN l b (nbrs l c.f0.toNat c.f1.toNat)
theorem outC_length (l : List ByteArray) (b : Int) (c : S61) : (outC l b c).length ≤ 4 := Nat.le_trans (outN_length _ _ _) (nbrs_length _ _ _)
theorem gbC_val {l : List ByteArray} (h : gridB l = true) (b : Int) : ∀ (cs : List S61) (o : List ByteArray), (∀ y ∈ cs, InG l y) → o.length + 4 * cs.length < 8796093022208 → gbC l b cs o = some (o ++ cs.flatMap (outC l b))
  | [], o, _, _ => by simp [gbC]
  | c :: cs, o, hi, ho => by
    obtain ⟨i, m, h1, h2, h3⟩ := hi c (by simp)
    rw [List.length_cons] at ho
    have hl := outC_length l b c
    have hn := nbrs_length l i m
    subst h3
    unfold gbC
    rw [gnext_val h i m h1 h2, Option.bind_some, gbN_val h b _ o (nbrs_in h i m h1 h2) (by omega), Option.bind_some]
    have e : outN l b (nbrs l i m) = outC l b ⟨i, m⟩ := rfl
    rw [e, gbC_val h b cs _ (fun y hy => hi y (List.mem_cons_of_mem _ hy)) (by rw [List.length_append]; omega), List.flatMap_cons, List.append_assoc]
theorem mem_cellsR (i c : Int) : ∀ (bs : List UInt8) (m0 : Int) (x : S61), x ∈ cellsR i c m0 bs ↔ ∃ j, ∃ hj : j < bs.length, ((bs[j]).toNat : Int) = c ∧ x = ⟨i, m0 + j⟩
  | [], m0, x => by simp [cellsR]
  | b :: bs, m0, x => by
    have ih := mem_cellsR i c bs (m0 + 1) x
    have step : (∃ j, ∃ hj : j < bs.length, ((bs[j]).toNat : Int) = c ∧ x = ⟨i, m0 + 1 + j⟩) ↔ ∃ j, ∃ hj : j < (b :: bs).length, 0 < j ∧ (((b :: bs)[j]).toNat : Int) = c ∧ x = ⟨i, m0 + j⟩ := by
      constructor
      · rintro ⟨j, hj, h1, h2⟩
        exact ⟨j + 1, by rw [List.length_cons]; omega, by omega, by simpa using h1, by rw [h2, show m0 + 1 + (j : Int) = m0 + ((j + 1 : Nat) : Int) by omega]⟩
      · rintro ⟨j, hj, h0, h1, h2⟩
        obtain ⟨j', rfl⟩ : ∃ j', j = j' + 1 := ⟨j - 1, by omega⟩
        rw [List.length_cons] at hj
        exact ⟨j', by omega, by simpa using h1, by rw [h2, show m0 + 1 + (j' : Int) = m0 + ((j' + 1 : Nat) : Int) by omega]⟩
    unfold cellsR
    by_cases h : (b.toNat : Int) = c
    · rw [if_pos h, List.mem_cons, ih, step]
      constructor
      · rintro (rfl | ⟨j, hj, h0, h1, h2⟩)
        · exact ⟨0, by simp, by simpa using h, by simp⟩
        · exact ⟨j, hj, h1, h2⟩
      · rintro ⟨j, hj, h1, h2⟩
        rcases Nat.eq_zero_or_pos j with rfl | h0
        · exact .inl (by rw [h2]; simp)
        · exact .inr ⟨j, hj, h0, h1, h2⟩
    · rw [if_neg h, ih, step]
      constructor
      · rintro ⟨j, hj, h0, h1, h2⟩
        exact ⟨j, hj, h1, h2⟩
      · rintro ⟨j, hj, h1, h2⟩
        rcases Nat.eq_zero_or_pos j with rfl | h0
        · exact absurd (by simpa using h1) h
        · exact ⟨j, hj, h0, h1, h2⟩
theorem mem_cellsG (c : Int) : ∀ (l : List ByteArray) (i0 : Int) (x : S61), x ∈ cellsG c i0 l ↔ ∃ r, ∃ hr : r < l.length, x ∈ cellsR (i0 + r) c 0 (l[r]).data.toList
  | [], i0, x => by simp [cellsG]
  | y :: l, i0, x => by
    unfold cellsG
    rw [List.mem_append, mem_cellsG c l (i0 + 1) x]
    constructor
    · rintro (h | ⟨r, hr, h⟩)
      · exact ⟨0, by simp, by simpa using h⟩
      · exact ⟨r + 1, by rw [List.length_cons]; omega, by rw [show i0 + ((r + 1 : Nat) : Int) = i0 + 1 + r by omega]; simpa using h⟩
    · rintro ⟨r, hr, h⟩
      rcases Nat.eq_zero_or_pos r with rfl | h0
      · exact .inl (by simpa using h)
      · obtain ⟨r', rfl⟩ : ∃ r', r = r' + 1 := ⟨r - 1, by omega⟩
        rw [List.length_cons] at hr
        exact .inr ⟨r', by omega, by rw [show i0 + ((r' + 1 : Nat) : Int) = i0 + 1 + r' by omega] at h; simpa using h⟩
theorem mem_cells {l : List ByteArray} (h : gridB l = true) (c : Int) (x : S61) : x ∈ cellsG c 0 l ↔ ∃ i m : Nat, i < l.length ∧ m < wideL l ∧ cv l i m = c ∧ x = ⟨i, m⟩ := by
  obtain ⟨g1, g2, g3⟩ := grid_facts h
  rw [mem_cellsG]
  constructor
  · rintro ⟨r, hr, hx⟩
    obtain ⟨j, hj, h1, h2⟩ := (mem_cellsR _ _ _ _ _).1 hx
    refine ⟨r, j, hr, ?_, ?_, ?_⟩
    · rw [dsize, (g3 _ (List.getElem_mem hr)).1] at hj; exact hj
    · rw [cv_at r j hr hj]; exact h1
    · rw [h2]; simp
  · rintro ⟨i, m, hi, hm, h1, h2⟩
    have hm2 : m < (l[i]).data.toList.length := by rw [dsize, (g3 _ (List.getElem_mem hi)).1]; exact hm
    refine ⟨i, hi, (mem_cellsR _ _ _ _ _).2 ⟨m, hm2, ?_, ?_⟩⟩
    · rw [cv_at i m hi hm2] at h1; exact h1
    · rw [h2]; simp
theorem cells_in {l : List ByteArray} (h : gridB l = true) (c : Int) : ∀ y ∈ cellsG c 0 l, InG l y := fun y hy => by
  obtain ⟨i, m, hi, hm, _, e⟩ := (mem_cells h c y).1 hy
  exact ⟨i, m, hi, hm, e⟩
theorem cntG_le (c : Int) : ∀ (l : List ByteArray), (∀ y ∈ l, y.size ≤ 32) → cntG c l ≤ 32 * l.length
  | [], _ => by simp [cntG]
  | y :: l, h => by
    have h1 := cntG_le c l (fun z hz => h z (List.mem_cons_of_mem _ hz))
    have h2 := cntR_le c y.data.toList
    have h3 := h y (by simp)
    rw [dsize] at h2
    show cntR c y.data.toList + cntG c l ≤ _
    rw [List.length_cons]
    omega
theorem flat_length {l : List ByteArray} (b : Int) : ∀ cs : List S61, (cs.flatMap (outC l b)).length ≤ 4 * cs.length
  | [] => by simp
  | c :: cs => by
    have h1 := outC_length l b c
    have h2 := flat_length (l := l) b cs
    rw [List.flatMap_cons, List.length_append, List.length_cons]
    omega
def outB (l : List ByteArray) (b : Int) : List ByteArray := (cellsG b 0 l).flatMap (outC l b)
theorem cells_many {l : List ByteArray} (h : gridB l = true) (b : Int) : (cellsG b 0 l).length ≤ 512 := by
  obtain ⟨g1, g2, g3⟩ := grid_facts h
  have := cntG_le b l (fun y hy => (g3 y hy).2.2.1)
  rw [cellsG_length]
  omega
theorem outB_length {l : List ByteArray} (h : gridB l = true) (b : Int) : (outB l b).length ≤ 2048 := by
  have h1 := flat_length (l := l) b (cellsG b 0 l)
  have h2 := cells_many h b
  unfold outB
  omega
theorem gbB_ev {l : List ByteArray} (h : gridB l = true) : ∀ (bs : List Int) (o : List ByteArray), o.length + 2048 * bs.length < 8796093022208 → Ev (fun k => gbB k l bs o) (o ++ bs.flatMap (outB l))
  | [], o, _ => by
    unfold gbB
    exact ev_const (by simp)
  | b :: bs, o, ho => by
    obtain ⟨g1, g2, g3⟩ := grid_facts h
    have h1 := cells_many h b
    have h2 := outB_length h b
    rw [List.length_cons] at ho
    unfold gbB
    refine Ev.bind (cells_ev l (by omega) (fun y hy => by have := (g3 y hy).2.2.1; omega) b) ?_
    simp only [gbC_val h b _ o (cells_in h b) (show o.length + 4 * (cellsG b 0 l).length < 8796093022208 by omega), Option.bind_some]
    have := gbB_ev h bs (o ++ outB l b) (by rw [List.length_append]; omega)
    rw [List.append_assoc] at this
    rw [List.flatMap_cons]
    exact this
def borders2 (l : List ByteArray) : List ByteArray := sortL ((landsL l).flatMap (outB l))
theorem allB_length {l : List ByteArray} (h : gridB l = true) : ∀ bs : List Int, (bs.flatMap (outB l)).length ≤ 2048 * bs.length
  | [] => by simp
  | b :: bs => by
    have h1 := outB_length h b
    have h2 := allB_length h bs
    rw [List.flatMap_cons, List.length_append, List.length_cons]
    omega
theorem impl_ev (l : List ByteArray) (hl : l.length ≤ 1048576) (hs : ∀ y ∈ l, y.size ≤ 1048576) : Ev (fun k => impl_GridBorders.f k l) (if gridB l = true then (borders2 l, 0) else ([], 1)) := by
  unfold impl_GridBorders.f
  refine Ev.bind (vg_ev l hl hs) ?_
  by_cases h : gridB l = true
  · obtain ⟨g1, g2, g3⟩ := grid_facts h
    have n1 := landsD_length l 26 97
    have n2 := allB_length h (landsL l)
    have n3 : (landsL l).length ≤ 26 := n1
    simp only [if_pos h]
    refine Ev.bind (ilands_ev l (by omega) (fun y hy => by have := (g3 y hy).2.2.1; omega)) ?_
    rw [numsB_son _ (landsL_bytes l)]
    refine Ev.bind (gbB_ev h (landsL l) [] (by rw [List.length_nil]; omega)) ?_
    rw [List.nil_append, if_pos ⟨by rw [strOfNums_size]; omega, by omega⟩]
    exact ev_const rfl
  · simp only [if_neg h]
    exact ev_const rfl
/-! Both lists are one -/
theorem son_two (a b : Int) : (strOfNums [a, b]).data.toList = [UInt8.ofNat a.toNat, UInt8.ofNat b.toNat] := rfl
theorem u8_lt {a b : Int} (h0 : 0 ≤ a) (h : a < b) (h2 : b < 256) : UInt8.ofNat a.toNat < UInt8.ofNat b.toNat := by
  rw [UInt8.lt_iff_toNat_lt, UInt8.toNat_ofNat', UInt8.toNat_ofNat']
  omega
theorem bl_two {a b c d : Int} (ha : 0 ≤ a ∧ a < 256) (hb : 0 ≤ b ∧ b < 256) (hc : 0 ≤ c ∧ c < 256) (hd : 0 ≤ d ∧ d < 256) (h : a < c ∨ (a = c ∧ b < d)) : BL (strOfNums [a, b]) (strOfNums [c, d]) := by
  unfold BL
  rw [son_two, son_two]
  rcases h with h | ⟨rfl, h⟩
  · exact List.Lex.rel (u8_lt ha.1 h hc.2)
  · exact List.Lex.cons (List.Lex.rel (u8_lt hb.1 h hd.2))
theorem pairB_mem (l : List ByteArray) (a : Int) (bs : List Int) (x : ByteArray) : x ∈ pairB l a bs ↔ ∃ b, b ∈ bs ∧ meetB l a b = true ∧ x = strOfNums [a, b] := by
  unfold pairB
  rw [List.mem_map]
  constructor
  · rintro ⟨b, hb, rfl⟩
    obtain ⟨h1, h2⟩ := List.mem_filter.1 hb
    exact ⟨b, h1, h2, rfl⟩
  · rintro ⟨b, h1, h2, rfl⟩
    exact ⟨b, List.mem_filter.2 ⟨h1, h2⟩, rfl⟩
theorem pairsB_mem (l : List ByteArray) : ∀ (ls : List Int), ls.Pairwise (· < ·) → ∀ x, x ∈ pairsB l ls ↔ ∃ a b, a ∈ ls ∧ b ∈ ls ∧ a < b ∧ meetB l a b = true ∧ x = strOfNums [a, b]
  | [], _, x => by simp [pairsB]
  | a :: ls, h, x => by
    obtain ⟨h1, h2⟩ := List.pairwise_cons.1 h
    unfold pairsB
    rw [List.mem_append, pairB_mem, pairsB_mem l ls h2 x]
    constructor
    · rintro (⟨b, hb, hm, rfl⟩ | ⟨c, b, hc, hb, hlt, hm, rfl⟩)
      · exact ⟨a, b, by simp, List.mem_cons_of_mem _ hb, h1 b hb, hm, rfl⟩
      · exact ⟨c, b, List.mem_cons_of_mem _ hc, List.mem_cons_of_mem _ hb, hlt, hm, rfl⟩
    · rintro ⟨c, b, hc, hb, hlt, hm, rfl⟩
      rcases List.mem_cons.1 hc with e | hc2
      · subst e
        rcases List.mem_cons.1 hb with e | hb2
        · omega
        · exact .inl ⟨b, hb2, hm, rfl⟩
      · rcases List.mem_cons.1 hb with e | hb2
        · have := h1 c hc2; omega
        · exact .inr ⟨c, b, hc2, hb2, hlt, hm, rfl⟩
theorem pairsB_asc (l : List ByteArray) : ∀ (ls : List Int), ls.Pairwise (· < ·) → (∀ x ∈ ls, 0 ≤ x ∧ x < 256) → (pairsB l ls).Pairwise BL
  | [], _, _ => List.Pairwise.nil
  | a :: ls, h, hb => by
    obtain ⟨h1, h2⟩ := List.pairwise_cons.1 h
    have ha := hb a (by simp)
    have hb2 : ∀ x ∈ ls, 0 ≤ x ∧ x < 256 := fun x hx => hb x (List.mem_cons_of_mem _ hx)
    unfold pairsB
    rw [List.pairwise_append]
    refine ⟨?_, pairsB_asc l ls h2 hb2, fun x hx y hy => ?_⟩
    · unfold pairB
      rw [List.pairwise_map]
      exact List.Pairwise.imp_of_mem (fun {x y} hx hy hxy => bl_two ha (hb2 x (List.mem_filter.1 hx).1) ha (hb2 y (List.mem_filter.1 hy).1) (.inr ⟨rfl, hxy⟩)) (h2.filter _)
    · obtain ⟨b, hb3, _, rfl⟩ := (pairB_mem l a ls x).1 hx
      obtain ⟨c, d, hc, hd, _, _, rfl⟩ := (pairsB_mem l ls h2 y).1 hy
      exact bl_two ha (hb2 b hb3) (hb2 c hc) (hb2 d hd) (.inl (h1 c hc))
theorem meet_iff (l : List ByteArray) (a b : Int) : meetB l a b = true ↔ ∃ i m : Nat, i < l.length ∧ m < wideL l ∧ meetC l a b i m = true := by
  unfold meetB
  rw [List.any_eq_true]
  constructor
  · rintro ⟨i, hi, h⟩
    obtain ⟨m, hm, h⟩ := List.any_eq_true.1 h
    rw [List.mem_range'_1] at hi hm
    exact ⟨i, m, by omega, by omega, h⟩
  · rintro ⟨i, m, hi, hm, h⟩
    refine ⟨i, List.mem_range'_1.2 (by omega), List.any_eq_true.2 ⟨m, List.mem_range'_1.2 (by omega), h⟩⟩
theorem west_east {w m : Nat} (h : m < w) : ((m + 1) % w + w - 1) % w = m := by
  by_cases c : m + 1 = w
  · rw [c, Nat.mod_self, Nat.mod_eq_of_lt (by omega)]
    omega
  · rw [Nat.mod_eq_of_lt (show m + 1 < w by omega), show m + 1 + w - 1 = m + w by omega, Nat.add_mod_right, Nat.mod_eq_of_lt h]
theorem east_west {w m : Nat} (h : m < w) : ((m + w - 1) % w + 1) % w = m := by
  by_cases c : m = 0
  · subst c
    rw [Nat.mod_eq_of_lt (show 0 + w - 1 < w by omega), show 0 + w - 1 + 1 = w by omega, Nat.mod_self]
  · rw [show m + w - 1 = (m - 1) + w by omega, Nat.add_mod_right, Nat.mod_eq_of_lt (show m - 1 < w by omega), show m - 1 + 1 = m by omega, Nat.mod_eq_of_lt h]
theorem meet_nbrs {l : List ByteArray} (h : gridB l = true) (a b : Int) : meetB l a b = true ↔ ∃ i m : Nat, i < l.length ∧ m < wideL l ∧ cv l i m = a ∧ ∃ y, y ∈ nbrs l i m ∧ cv l y.f0 y.f1 = b := by
  obtain ⟨w1, w2⟩ := wide_bd h
  rw [meet_iff]
  constructor
  · rintro ⟨i, m, hi, hm, hc⟩
    rw [meetC_eq, Bool.or_eq_true, Bool.and_eq_true, decide_eq_true_iff, hit_iff, hit_iff] at hc
    rcases hc with (⟨e1, e2⟩ | ⟨e1, e2⟩) | ⟨hd, (⟨e1, e2⟩ | ⟨e1, e2⟩)⟩
    · exact ⟨i, m, hi, hm, e1, ⟨(i : Int), (((m + 1) % wideL l : Nat) : Int)⟩, by unfold nbrs; simp, e2⟩
    · refine ⟨i, (m + 1) % wideL l, hi, Nat.mod_lt _ (by omega), e2, ⟨(i : Int), (m : Int)⟩, ?_, e1⟩
      unfold nbrs
      rw [west_east hm]
      simp
    · refine ⟨i, m, hi, hm, e1, ⟨((i + 1 : Nat) : Int), (m : Int)⟩, ?_, e2⟩
      unfold nbrs
      rw [if_pos hd]
      simp
    · refine ⟨i + 1, m, hd, hm, e2, ⟨(i : Int), (m : Int)⟩, ?_, e1⟩
      unfold nbrs
      rw [if_pos (show 0 < i + 1 by omega), show i + 1 - 1 = i by omega]
      simp
  · rintro ⟨i, m, hi, hm, e1, y, hy, e2⟩
    unfold nbrs at hy
    rw [List.mem_append, List.mem_append] at hy
    rcases hy with hy | hy | hy
    · rw [List.mem_cons, List.mem_singleton] at hy
      rcases hy with rfl | rfl
      · refine ⟨i, m, hi, hm, ?_⟩
        rw [meetC_eq, Bool.or_eq_true, hit_iff]
        exact .inl (.inl ⟨e1, e2⟩)
      · refine ⟨i, (m + wideL l - 1) % wideL l, hi, Nat.mod_lt _ (by omega), ?_⟩
        rw [meetC_eq, Bool.or_eq_true, hit_iff, east_west hm]
        exact .inl (.inr ⟨e2, e1⟩)
    · split at hy
      · rename_i h0
        rw [List.mem_singleton] at hy
        subst hy
        refine ⟨i - 1, m, by omega, hm, ?_⟩
        rw [meetC_eq, Bool.or_eq_true, Bool.and_eq_true, decide_eq_true_iff, hit_iff (d := cv l ((i - 1 + 1 : Nat) : Int) m), show i - 1 + 1 = i by omega]
        exact .inr ⟨hi, .inr ⟨e2, e1⟩⟩
      · cases hy
    · split at hy
      · rename_i h0
        rw [List.mem_singleton] at hy
        subst hy
        refine ⟨i, m, hi, hm, ?_⟩
        rw [meetC_eq, Bool.or_eq_true, Bool.and_eq_true, decide_eq_true_iff, hit_iff (d := cv l ((i + 1 : Nat) : Int) m)]
        exact .inr ⟨h0, .inl ⟨e1, e2⟩⟩
      · cases hy
theorem land_in {l : List ByteArray} (h : gridB l = true) (i m : Nat) (hi : i < l.length) (hm : m < wideL l) (h97 : 97 ≤ cv l i m) : cv l i m ∈ landsL l := by
  have hk := cv_kind h i m hi hm
  refine (landsD_mem l 26 97 _).2 ⟨h97, by omega, ?_⟩
  have hc : (⟨(i : Int), (m : Int)⟩ : S61) ∈ cellsG (cv l i m) 0 l := (mem_cells h _ _).2 ⟨i, m, hi, hm, rfl, rfl⟩
  have := List.length_pos_of_mem hc
  rw [cellsG_length] at this
  exact this
theorem outB_mem {l : List ByteArray} (h : gridB l = true) (a : Int) (x : ByteArray) : x ∈ outB l a ↔ ∃ i m : Nat, i < l.length ∧ m < wideL l ∧ cv l i m = a ∧ ∃ y, y ∈ nbrs l i m ∧ cv l y.f0 y.f1 > a ∧ x = strOfNums [a, cv l y.f0 y.f1] := by
  unfold outB
  rw [List.mem_flatMap]
  constructor
  · rintro ⟨c, hc, hx⟩
    obtain ⟨i, m, hi, hm, hv, rfl⟩ := (mem_cells h a c).1 hc
    unfold outC outN at hx
    rw [List.mem_map] at hx
    obtain ⟨y, hy, rfl⟩ := hx
    obtain ⟨h1, h2⟩ := List.mem_filter.1 hy
    exact ⟨i, m, hi, hm, hv, y, h1, of_decide_eq_true h2, rfl⟩
  · rintro ⟨i, m, hi, hm, hv, y, hy, hgt, rfl⟩
    refine ⟨⟨i, m⟩, (mem_cells h a _).2 ⟨i, m, hi, hm, hv, rfl⟩, ?_⟩
    unfold outC outN
    exact List.mem_map.2 ⟨y, List.mem_filter.2 ⟨hy, decide_eq_true hgt⟩, rfl⟩
theorem borders_one {l : List ByteArray} (h : gridB l = true) : borders2 l = pairsB l (landsL l) := by
  have ha : (landsL l).Pairwise (· < ·) := landsD_asc l 26 97
  refine asc_ext _ _ (sortL_asc _) (pairsB_asc l _ ha (landsL_bytes l)) (fun x => ?_)
  unfold borders2
  rw [sortL_mem, List.mem_flatMap, pairsB_mem l _ ha]
  constructor
  · rintro ⟨a, hal, hx⟩
    obtain ⟨i, m, hi, hm, hv, y, hy, hgt, rfl⟩ := (outB_mem h a x).1 hx
    have h97 := (landsD_mem l 26 97 a).1 hal
    obtain ⟨i2, m2, hi2, hm2, e⟩ := nbrs_in h i m hi hm y hy
    have hb : cv l y.f0 y.f1 ∈ landsL l := by
      subst e
      have hgt2 : cv l i2 m2 > a := hgt
      exact land_in h i2 m2 hi2 hm2 (by omega)
    exact ⟨a, _, hal, hb, hgt, (meet_nbrs h a _).2 ⟨i, m, hi, hm, hv, y, hy, rfl⟩, rfl⟩
  · rintro ⟨a, b, hal, hbl, hlt, hmt, rfl⟩
    obtain ⟨i, m, hi, hm, hv, y, hy, hyb⟩ := (meet_nbrs h a b).1 hmt
    exact ⟨a, hal, (outB_mem h a _).2 ⟨i, m, hi, hm, hv, y, hy, by omega, by rw [hyb]⟩⟩
theorem impl_ev2 (l : List ByteArray) (hl : l.length ≤ 1048576) (hs : ∀ y ∈ l, y.size ≤ 1048576) : Ev (fun k => impl_GridBorders.f k l) (bordersV l) := by
  have := impl_ev l hl hs
  unfold bordersV
  by_cases h : gridB l = true
  · rw [if_pos h, borders_one h] at this
    rw [if_pos h]
    exact this
  · rw [if_neg h] at this
    rw [if_neg h]
    exact this
theorem pairB_length (l : List ByteArray) (a : Int) (bs : List Int) : (pairB l a bs).length ≤ bs.length := by
  unfold pairB
  rw [List.length_map]
  exact List.length_filter_le _ _
theorem pairsB_length (l : List ByteArray) : ∀ ls : List Int, ls.length ≤ 26 → (pairsB l ls).length ≤ 26 * ls.length
  | [], _ => by simp [pairsB]
  | a :: ls, h => by
    rw [List.length_cons] at h
    have h1 := pairB_length l a ls
    have h2 := pairsB_length l ls (by omega)
    unfold pairsB
    rw [List.length_append, List.length_cons]
    omega
theorem bordersV_length (l : List ByteArray) : (bordersV l).1.length ≤ 1048576 := by
  have h1 : (landsL l).length ≤ 26 := landsD_length l 26 97
  have h2 := pairsB_length l (landsL l) h1
  unfold bordersV
  split
  · show (pairsB l (landsL l)).length ≤ _
    omega
  · simp
theorem land_all (b : Int) : impl_isLetter.f b = some (decide (97 ≤ b ∧ b ≤ 122)) := small_val b
/-- A small letter. -/
def landB (a : ByteArray) : Bool := decide (a.size = 1 ∧ 97 ≤ bt a 0 ∧ bt a 0 ≤ 122)
theorem land_val (a : ByteArray) : impl_isLandText.f a = some (landB a) := by
  unfold impl_isLandText.f landB
  by_cases h : (a.size : Int) = 1
  · rw [if_pos h, if_pos (by omega), land_all]
    simp only [Option.bind_some]
    congr 1
    rw [decide_eq_decide]
    omega
  · rw [if_neg h, decide_eq_false (fun h2 => h (by omega))]
/-- The code of a grid, a land and what is asked of the other text. -/
def codeG (l : List ByteArray) (a : ByteArray) (ok : Bool) : Int := if gridB l = true then (if landB a = true ∧ ok = true then (if cntG (bt a 0) l = 0 then 3 else 0) else 2) else 1
theorem landB_size {a : ByteArray} (h : landB a = true) : a.size = 1 := (of_decide_eq_true h).1
theorem icode_ev (l : List ByteArray) (hl : l.length ≤ 1048576) (hs : ∀ y ∈ l, y.size ≤ 1048576) (a : ByteArray) (ok : Bool) : Ev (fun k => impl_landCode.f k l a ok) (codeG l a ok) := by
  unfold impl_landCode.f codeG
  refine Ev.bind (vg_ev l hl hs) ?_
  simp only [land_val, Option.bind_some, impl_check.f]
  by_cases h : gridB l = true
  · obtain ⟨h1, h2, h3⟩ := grid_facts h
    simp only [if_pos h]
    try simp only [h, if_true]
    by_cases hb : landB a = true
    · simp only [hb, if_true, true_and]
      cases ok with
      | true =>
        simp only [if_true, Option.bind_some]
        apply ev_succ
        have h5 := landB_size hb
        simp only [impl_landCode.j0, if_true, if_pos (show (0 : Int) < (a.size : Int) by omega)]
        refine Ev.bind (cells_ev l (by omega) (fun y hy => by have := h3 y hy; omega) (bt a 0)) ?_
        rw [cellsG_length]
        by_cases h6 : cntG (bt a 0) l = 0
        · rw [if_pos h6, if_pos (by omega)]
          exact ev_const rfl
        · rw [if_neg h6, if_neg (by omega)]
          exact ev_const rfl
      | false =>
        simp only [Bool.false_eq_true, if_false, Option.bind_some]
        apply ev_succ
        simp only [impl_landCode.j0, if_neg (show ¬ (2 : Int) = 0 by omega)]
        exact ev_const rfl
    · rw [if_neg (fun h : landB a = true ∧ ok = true => hb h.1)]
      simp only [Bool.eq_false_iff.2 hb, Bool.false_eq_true, if_false, Option.bind_some]
      apply ev_succ
      simp only [impl_landCode.j0, if_neg (show ¬ (2 : Int) = 0 by omega)]
      exact ev_const rfl
  · simp only [if_neg h]
    try simp only [Bool.eq_false_iff.2 h, Bool.false_eq_true, if_false, Option.bind_some]
    by_cases hb : landB a = true
    · simp only [hb, if_true]
      apply ev_succ
      simp only [impl_landCode.j0, if_neg (show ¬ (1 : Int) = 0 by omega)]
      exact ev_const rfl
    · simp only [Bool.eq_false_iff.2 hb, Bool.false_eq_true, if_false]
      apply ev_succ
      simp only [impl_landCode.j0, if_neg (show ¬ (1 : Int) = 0 by omega)]
      exact ev_const rfl
theorem rows12 {l : List Int} (hB : Bytes l) (hl : l.length ≤ 140737488351232) (w : Nat) (hw : w ≤ 33) (x5 : ByteArray) (h5 : 1 ≤ x5.size) (h5' : x5.size ≤ 100) (h : Nat) : ∀ (x6 : List ByteArray) (a s : Int), x6.length + h ≤ 17 → (∀ y ∈ x6, y.size ≤ 33) → 0 ≤ a → a + 200 * (h : Int) ≤ 10000 →
    ∃ res a' s', Ev (fun k => spec_l12Draw.l0 k w x5 x6 h l a s) (res, a', s') ∧ 1 ≤ res.length + (17 - (x6.length + h)) ∧ res.length = x6.length + h ∧ (∀ y ∈ res, y.size ≤ 33) ∧ a ≤ a' ∧ a' ≤ a + 200 * (h : Int) := by
  induction h with
  | zero =>
    intro x6 a s h1 h2 h3 h4
    refine ⟨x6, a, s, ev_succ ?_, by omega, by omega, h2, Int.le_refl _, by omega⟩
    simp only [spec_l12Draw.l0, if_neg (show ¬ ((0 : Nat) : Int) > 0 by omega)]
    exact ev_const rfl
  | succ h ih =>
    intro x6 a s h1 h2 h3 h4
    have row : ∀ (c : Nat) (x8 : List Int) (a s : Int), x8.length + c ≤ 33 → 0 ≤ a → a + 4 * (c : Int) + 200 * (h : Int) ≤ 10000 →
        ∃ res a' s', Ev (fun k => spec_l12Draw.l1 k w x5 x6 ((h : Int) + 1) x8 c l a s) (res, a', s') ∧ res.length = x6.length + (h + 1) ∧ (∀ y ∈ res, y.size ≤ 33) ∧ a ≤ a' ∧ a' ≤ a + 4 * (c : Int) + 200 * (h : Int) := by
      intro c
      induction c with
      | zero =>
        intro x8 a s g1 g2 g3
        obtain ⟨res, a', s', e, r1, r2, r3, r4, r5⟩ := ih (x6 ++ [strOfNums x8]) a s (by rw [List.length_append, List.length_singleton]; omega) (by
          intro y hy
          rcases List.mem_append.1 hy with hy | hy
          · exact h2 y hy
          · rw [List.mem_singleton.1 hy, strOfNums_size]; omega) g2 (by omega)
        rw [List.length_append, List.length_singleton] at r2
        refine ⟨res, a', s', ev_succ ?_, by omega, r3, r4, by omega⟩
        simp only [spec_l12Draw.l1, if_neg (show ¬ ((0 : Nat) : Int) > 0 by omega), if_pos (show x6.length < 8796093022208 by omega)]
        rw [w64 (x := (h : Int) + 1 - 1) (by omega) (by omega), Int.add_sub_cancel]
        exact e
      | succ c ihc =>
        intro x8 a s g1 g2 g3
        have tail : ∀ a2 s2, a ≤ a2 → a2 ≤ a + 2 → ∀ m : Int, (m = a2) → ∃ res a' s', Ev (fun k => (spec_l00Src_pick.f l a2 s2 (x5.size : Int)).bind fun bt153 => (if 0 ≤ bt153.1 then (if bt153.1 < (x5.size : Int) then (if x8.length < 140737488355328 then (spec_l12Draw.l1 k w x5 x6 ((h : Int) + 1) (x8 ++ [bt x5 bt153.1]) (wrap64 (((c + 1 : Nat) : Int) - 1)) l bt153.2.1 bt153.2.2) else (none)) else (none)) else (none))) (res, a', s') ∧ res.length = x6.length + (h + 1) ∧ (∀ y ∈ res, y.size ≤ 33) ∧ a ≤ a' ∧ a' ≤ a + 4 * ((c + 1 : Nat) : Int) + 200 * (h : Int) := by
          intro a2 s2 q1 q2 _ _
          obtain ⟨v, a3, s3, e1, p1, p2, p3, p4, p5⟩ := pick_val hB hl (a := a2) (s := s2) (by omega) (by omega) (x5.size : Int)
          have hv : v < (x5.size : Int) := by
            by_cases hh : 1 < (x5.size : Int)
            · exact p4 hh
            · have := p5 (by omega); omega
          obtain ⟨res, a', s', e, r1, r2, r3, r4⟩ := ihc (x8 ++ [bt x5 v]) a3 s3 (by rw [List.length_append, List.length_singleton]; omega) (by omega) (by omega)
          refine ⟨res, a', s', ?_, r1, r2, by omega, by omega⟩
          simp only [e1, Option.bind_some, if_pos p3, if_pos hv, if_pos (show x8.length < 140737488355328 by omega), w64 (x := ((c + 1 : Nat) : Int) - 1) (by omega) (by omega)]
          rw [show ((c + 1 : Nat) : Int) - 1 = (c : Int) by omega]
          exact e
        by_cases g4 : (x8.length : Int) > 0
        · obtain ⟨b, a2, s2, e1, q1, q2⟩ := one_val hB hl (a := a) (s := s) g2 (by omega) 2
          cases b with
          | true =>
            obtain ⟨res, a', s', e, r1, r2, r3, r4⟩ := ihc (x8 ++ [rd x8 (wrap64 ((x8.length : Int) - 1))]) a2 s2 (by rw [List.length_append, List.length_singleton]; omega) (by omega) (by omega)
            refine ⟨res, a', s', ev_succ ?_, r1, r2, by omega, by omega⟩
            rw [w64 (x := (x8.length : Int) - 1) (by omega) (by omega)] at e
            simp only [spec_l12Draw.l1, if_pos (show ((c + 1 : Nat) : Int) > 0 by omega), if_pos g4, e1, Option.bind_some, if_true, w64 (x := (x8.length : Int) - 1) (by omega) (by omega), if_pos (show 0 ≤ (x8.length : Int) - 1 by omega), if_pos (show (x8.length : Int) - 1 < (x8.length : Int) by omega), if_pos (show x8.length < 140737488355328 by omega), w64 (x := ((c + 1 : Nat) : Int) - 1) (by omega) (by omega)]
            rw [show ((c + 1 : Nat) : Int) - 1 = (c : Int) by omega]
            exact e
          | false =>
            obtain ⟨res, a', s', e, r1, r2, r3, r4⟩ := tail a2 s2 q1 q2 _ rfl
            refine ⟨res, a', s', ev_succ ?_, r1, r2, r3, r4⟩
            simp only [spec_l12Draw.l1, if_pos (show ((c + 1 : Nat) : Int) > 0 by omega), if_pos g4, e1, Option.bind_some, Bool.false_eq_true, if_false]
            exact e
        · obtain ⟨res, a', s', e, r1, r2, r3, r4⟩ := tail a s (Int.le_refl _) (by omega) _ rfl
          refine ⟨res, a', s', ev_succ ?_, r1, r2, r3, r4⟩
          simp only [spec_l12Draw.l1, if_pos (show ((c + 1 : Nat) : Int) > 0 by omega), if_neg g4]
          exact e
    obtain ⟨res, a', s', e, r1, r2, r3, r4⟩ := row w [] a s (by simp; omega) h3 (by omega)
    refine ⟨res, a', s', ev_succ ?_, by omega, r1, r2, r3, by omega⟩
    simp only [spec_l12Draw.l0, if_pos (show ((h + 1 : Nat) : Int) > 0 by omega)]
    rw [show ((h + 1 : Nat) : Int) = (h : Int) + 1 by omega]
    exact e
theorem drawj_ev {l : List Int} (hB : Bytes l) (hl : l.length ≤ 140737488351232) {a s : Int} (h0 : 0 ≤ a) (h1 : a ≤ 1000) (w h : Int) (hw0 : 0 ≤ w) (hw : w ≤ 33) (hh0 : 1 ≤ h) (hh : h ≤ 17) : ∃ res a' s', Ev (fun k => spec_l12Draw.j0 k w h l a s) (res, a', s') ∧ 1 ≤ res.length ∧ res.length ≤ 17 ∧ (∀ y ∈ res, y.size ≤ 33) ∧ a ≤ a' ∧ a' ≤ a + 3500 := by
  obtain ⟨w, rfl⟩ := Int.eq_ofNat_of_zero_le hw0
  obtain ⟨h, rfl⟩ := Int.eq_ofNat_of_zero_le (show 0 ≤ h by omega)
  obtain ⟨v, a2, s2, e1, q1, q2, q3⟩ := text_val hB hl (a := a) (s := s) h0 (by omega) (([(⟨#[46, 46, 46, 97]⟩ : ByteArray), (⟨#[46, 46, 97, 98]⟩ : ByteArray), (⟨#[46, 97, 98, 99]⟩ : ByteArray), (⟨#[46, 46, 46, 97, 97, 98, 98, 122]⟩ : ByteArray), (⟨#[46]⟩ : ByteArray)] : List ByteArray)) (by simp)
  have hv : 1 ≤ v.size ∧ v.size ≤ 100 := by
    simp only [List.mem_cons, List.not_mem_nil, or_false] at q3
    rcases q3 with rfl | rfl | rfl | rfl | rfl <;> decide
  obtain ⟨res, a', s', e, r0, r1, r2, r3, r4⟩ := rows12 hB hl w (by omega) v hv.1 hv.2 h [] a2 s2 (by simp; omega) (by simp) (by omega) (by omega)
  simp only [List.length_nil, Nat.zero_add] at r1
  refine ⟨res, a', s', ev_succ ?_, by omega, by omega, r2, by omega, by omega⟩
  simp only [spec_l12Draw.j0, e1, Option.bind_some]
  exact e
theorem draw12_ev {l : List Int} (hB : Bytes l) (hl : l.length ≤ 140737488351232) {a s : Int} (h0 : 0 ≤ a) (h1 : a ≤ 100) : ∃ res a' s', Ev (fun k => spec_l12Draw.f k l a s) (res, a', s') ∧ 1 ≤ res.length ∧ res.length ≤ 17 ∧ (∀ y ∈ res, y.size ≤ 33) ∧ a ≤ a' ∧ a' ≤ a + 4000 := by
  obtain ⟨v1, a1, s1, e1, p1, p2, p3, p4, _⟩ := pick_val hB hl (a := a) (s := s) h0 (by omega) 9
  obtain ⟨v2, a2, s2, e2, q1, q2, q3, q4, _⟩ := pick_val hB hl (a := a1) (s := s1) (by omega) (by omega) 6
  obtain ⟨v3, a3, s3, e3, r1, r2, r3, r4, _⟩ := pick_val hB hl (a := a2) (s := s2) (by omega) (by omega) 24
  obtain ⟨v4, a4, s4, e4, t1, t2, t3, t4, _⟩ := pick_val hB hl (a := a3) (s := s3) (by omega) (by omega) 2
  have p4 := p4 (by omega)
  have q4 := q4 (by omega)
  have t4 := t4 (by omega)
  unfold spec_l12Draw.f
  simp only [e1, e2, e3, e4, Option.bind_some, w64 (x := 32 + v4) (by omega) (by omega), w64 (x := 1 + v2) (by omega) (by omega), w64 (x := 1 + v1) (by omega) (by omega), w64 (x := 16 + v4) (by omega) (by omega)]
  by_cases c1 : v3 = 0
  · simp only [if_pos c1]
    obtain ⟨res, a', s', e, u1, u2, u3, u4, u5⟩ := drawj_ev hB hl (a := a4) (s := s4) (by omega) (by omega) (32 + v4) (1 + v2) (by omega) (by omega) (by omega) (by omega)
    exact ⟨res, a', s', e, u1, u2, u3, by omega, by omega⟩
  · simp only [if_neg c1]
    by_cases c2 : v3 = 1
    · simp only [if_pos c2]
      obtain ⟨res, a', s', e, u1, u2, u3, u4, u5⟩ := drawj_ev hB hl (a := a4) (s := s4) (by omega) (by omega) (1 + v1) (16 + v4) (by omega) (by omega) (by omega) (by omega)
      exact ⟨res, a', s', e, u1, u2, u3, by omega, by omega⟩
    · simp only [if_neg c2]
      obtain ⟨res, a', s', e, u1, u2, u3, u4, u5⟩ := drawj_ev hB hl (a := a3) (s := s3) (by omega) (by omega) (1 + v1) (1 + v2) (by omega) (by omega) (by omega) (by omega)
      exact ⟨res, a', s', e, u1, u2, u3, by omega, by omega⟩
theorem set_sizes {x : List ByteArray} {n : Nat} {v : ByteArray} (hx : ∀ y ∈ x, y.size ≤ n) (hv : v.size ≤ n) (i : Nat) : ∀ y ∈ x.set i v, y.size ≤ n := by
  intro y hy
  rcases List.mem_or_eq_of_mem_set hy with h | h
  · exact hx y h
  · rw [h]; exact hv
theorem bent12_ev {l : List Int} (hB : Bytes l) (hl : l.length ≤ 140737488351232) {a s : Int} (h0 : 0 ≤ a) (h1 : a ≤ 100) : ∃ res a' s', Ev (fun k => spec_l12Bent.f k l a s) (res, a', s') ∧ res.length ≤ 17 ∧ (∀ y ∈ res, y.size ≤ 40) ∧ a ≤ a' ∧ a' ≤ a + 5000 := by
  obtain ⟨x, a1, s1, e1, p1, p2, p3, p4, p5⟩ := draw12_ev hB hl (a := a) (s := s) h0 h1
  obtain ⟨v2, a2, s2, e2, q1, q2, q3, q4, _⟩ := pick_val hB hl (a := a1) (s := s1) (by omega) (by omega) 24
  obtain ⟨v3, a3, s3, e3, r1, r2, r3⟩ := text_val hB hl (a := a2) (s := s2) (by omega) (by omega) (([(⟨#[]⟩ : ByteArray), (⟨#[65]⟩ : ByteArray), (⟨#[32]⟩ : ByteArray), (⟨#[97, 45, 98]⟩ : ByteArray)] : List ByteArray)) (by simp)
  have hv : v3.size ≤ 40 := by
    simp only [List.mem_cons, List.not_mem_nil, or_false] at r3
    rcases r3 with rfl | rfl | rfl | rfl <;> decide
  have p3' : ∀ y ∈ x, y.size ≤ 40 := fun y hy => Nat.le_trans (p3 y hy) (by omega)
  have hx0 : (rdOf ByteArray.empty x 0).size ≤ 33 := by
    show (rdOf ByteArray.empty x ((0 : Nat) : Int)).size ≤ 33
    rw [rdOf_at _ _ _ (show 0 < x.length by omega)]
    exact p3 _ (List.getElem_mem _)
  by_cases c1 : v2 = 0
  · refine ⟨[], a2, s2, ?_, by simp, by simp, by omega, by omega⟩
    unfold spec_l12Bent.f
    refine Ev.bind e1 ?_
    simp only [e2, Option.bind_some, if_pos c1]
    exact ev_const rfl
  · by_cases c2 : v2 = 1
    · refine ⟨x.set (0 : Int).toNat ((rdOf ByteArray.empty x 0) ++ (⟨#[97]⟩ : ByteArray)), a2, s2, ?_, by rw [List.length_set]; omega, set_sizes p3' (by rw [ByteArray.size_append]; have : (⟨#[97]⟩ : ByteArray).size = 1 := rfl; omega) _, by omega, by omega⟩
      unfold spec_l12Bent.f
      refine Ev.bind e1 ?_
      simp only [e2, Option.bind_some, if_neg c1, if_pos c2, if_pos (show 0 < (x.length : Int) by omega), if_pos (show (rdOf ByteArray.empty x 0).size + 1 ≤ 9223372036854775807 by omega)]
      exact ev_const rfl
    · by_cases c3 : v2 = 2
      · refine ⟨x.set ((x.length : Int) - 1).toNat v3, a3, s3, ?_, by rw [List.length_set]; omega, set_sizes p3' hv _, by omega, by omega⟩
        unfold spec_l12Bent.f
        refine Ev.bind e1 ?_
        simp only [e2, e3, Option.bind_some, if_neg c1, if_neg c2, if_pos c3, w64 (x := (x.length : Int) - 1) (by omega) (by omega), if_pos (show 0 ≤ (x.length : Int) - 1 by omega), if_pos (show (x.length : Int) - 1 < (x.length : Int) by omega)]
        exact ev_const rfl
      · refine ⟨x, a2, s2, ?_, p2, p3', by omega, by omega⟩
        unfold spec_l12Bent.f
        refine Ev.bind e1 ?_
        simp only [e2, Option.bind_some, if_neg c1, if_neg c2, if_neg c3]
        exact ev_const rfl
def castP (p : Nat × Nat) : Int × Int := ((p.1 : Int), (p.2 : Int))
def cellP (p : Nat × Nat) : S61 := ⟨(p.1 : Int), (p.2 : Int)⟩
def idxP (W : Nat) (p : Nat × Nat) : Int := ((p.1 * W + p.2 : Nat) : Int)
def byteP (l : List ByteArray) (p : Nat × Nat) : Int := bt (rdOf ByteArray.empty l (p.1 : Int)) (p.2 : Int)
def okP (l : List ByteArray) (p : Nat × Nat) : Prop := p.1 < l.length ∧ p.2 < wideL l
/-- The neighbours of a cell. -/
def nbP (l : List ByteArray) (p : Nat × Nat) : List (Nat × Nat) := (p.1, (p.2 + 1) % wideL l) :: (p.1, (p.2 + (wideL l - 1)) % wideL l) :: ((if 0 < p.1 then [(p.1 - 1, p.2)] else []) ++ (if p.1 + 1 < l.length then [(p.1 + 1, p.2)] else []))
theorem divP {W i k : Nat} (hk : k < W) : (i * W + k) / W = i := by
  rw [Nat.mul_comm, Nat.mul_add_div (by omega), Nat.div_eq_of_lt hk, Nat.add_zero]
theorem modP {W i k : Nat} (hk : k < W) : (i * W + k) % W = k := by
  rw [Nat.add_comm, Nat.add_mul_mod_self_right, Nat.mod_eq_of_lt hk]
theorem tdivP {W : Nat} {p : Nat × Nat} (hp : p.2 < W) : Int.tdiv (idxP W p) (W : Int) = (p.1 : Int) := by
  unfold idxP
  rw [tdiv_nn (by omega), ← Int.natCast_ediv, divP hp]
theorem tmodP {W : Nat} {p : Nat × Nat} (hp : p.2 < W) : Int.tmod (idxP W p) (W : Int) = (p.2 : Int) := by
  unfold idxP
  rw [tmod_nn (by omega), ← Int.natCast_emod, modP hp]
theorem idx_inj {W : Nat} {p q : Nat × Nat} (hp : p.2 < W) (hq : q.2 < W) (h : idxP W p = idxP W q) : p = q := by
  have h1 : (p.1 : Int) = (q.1 : Int) := by rw [← tdivP hp, ← tdivP hq, h]
  have h2 : (p.2 : Int) = (q.2 : Int) := by rw [← tmodP hp, ← tmodP hq, h]
  exact Prod.ext (by omega) (by omega)
theorem cast_inj {p q : Nat × Nat} (h : castP p = castP q) : p = q := by
  injection h with h1 h2
  exact Prod.ext (by omega) (by omega)
theorem row_sizeI {l : List ByteArray} (hg : gridB l = true) (i : Nat) (hi : i < l.length) : (rdOf ByteArray.empty l (i : Int)).size = wideL l := by
  rw [rdOf_at _ _ _ hi]
  exact ((grid_facts hg).2.2 _ (List.getElem_mem hi)).1
theorem wide_bdI {l : List ByteArray} (hg : gridB l = true) : 1 ≤ wideL l ∧ wideL l ≤ 32 := by
  obtain ⟨h1, h2, h3⟩ := grid_facts hg
  have := h3 _ (List.getElem_mem (show 0 < l.length by omega))
  omega
theorem area_bd {l : List ByteArray} (hg : gridB l = true) : l.length * wideL l ≤ 512 := by
  obtain ⟨h1, h2, h3⟩ := grid_facts hg
  exact Nat.mul_le_mul h2 (wide_bdI hg).2
theorem idx_lt {l : List ByteArray} {p : Nat × Nat} (hp : okP l p) : p.1 * wideL l + p.2 < l.length * wideL l := by
  have h1 : (p.1 + 1) * wideL l ≤ l.length * wideL l := Nat.mul_le_mul_right _ hp.1
  have h2 := hp.2
  rw [Nat.add_mul, Nat.one_mul] at h1
  omega
theorem in_of {l : List ByteArray} (hg : gridB l = true) {p : Nat × Nat} (hp : okP l p) : inG l (cellP p) := by
  obtain ⟨h1, h2⟩ := hp
  obtain ⟨g1, g2, _⟩ := grid_facts hg
  have h3 := row_sizeI hg p.1 h1
  have h4 := wide_bdI hg
  refine ⟨?_, ?_, ?_, ?_, ?_, ?_⟩ <;> (try simp only [cellP, h3]) <;> omega
theorem nb_ok {l : List ByteArray} (hg : gridB l = true) {p : Nat × Nat} (hp : okP l p) : ∀ q ∈ nbP l p, okP l q := by
  obtain ⟨h1, h2⟩ := hp
  have hw := wide_bdI hg
  intro q hq
  unfold nbP at hq
  simp only [List.mem_cons, List.mem_append] at hq
  rcases hq with rfl | rfl | hq | hq
  · exact ⟨h1, Nat.mod_lt _ (by omega)⟩
  · exact ⟨h1, Nat.mod_lt _ (by omega)⟩
  · split at hq
    · rw [List.mem_singleton.1 hq]; exact ⟨by show p.1 - 1 < _; omega, h2⟩
    · cases hq
  · split at hq
    · rw [List.mem_singleton.1 hq]; exact ⟨by show p.1 + 1 < _; omega, h2⟩
    · cases hq
theorem eastT_val {W k : Nat} (hW : W ≤ 1000) (hW0 : 1 ≤ W) (hk : k < W) : Int.tmod (wrap64 ((k : Int) + 1)) (W : Int) = (((k + 1) % W : Nat) : Int) := by
  rw [w64 (by omega) (by omega), tmod_nn (by omega), Int.natCast_emod]
  rfl
theorem west_val {W k : Nat} (hW : W ≤ 1000) (hW0 : 1 ≤ W) (hk : k < W) : Int.tmod (wrap64 (wrap64 ((k : Int) + (W : Int)) - 1)) (W : Int) = (((k + (W - 1)) % W : Nat) : Int) := by
  rw [w64 (x := (k : Int) + (W : Int)) (by omega) (by omega), w64 (by omega) (by omega), tmod_nn (by omega), Int.natCast_emod]
  congr 1
  omega
theorem nextto_val {l : List ByteArray} (hg : gridB l = true) {p : Nat × Nat} (hp : okP l p) : impl_nextTo.f l (p.1 : Int) (p.2 : Int) = some ((nbP l p).map cellP) := by
  obtain ⟨h1, h2⟩ := hp
  obtain ⟨g1, g2, _⟩ := grid_facts hg
  have hw := wide_bdI hg
  unfold impl_nextTo.f nbP
  simp only [show ((rdOf ByteArray.empty l 0).size : Int) = (wideL l : Int) from rfl, if_pos (show 0 < (l.length : Int) by omega), if_neg (show ¬ (wideL l : Int) = 0 by omega), Option.bind_some, eastT_val (show wideL l ≤ 1000 by omega) hw.1 h2, west_val (show wideL l ≤ 1000 by omega) hw.1 h2, w64 (x := (p.1 : Int) - 1) (by omega) (by omega), w64 (x := (p.1 : Int) + 1) (by omega) (by omega), w64 (x := (l.length : Int) - 1) (by omega) (by omega)]
  have e1 : 0 < p.1 → ((p.1 : Int) - 1) = ((p.1 - 1 : Nat) : Int) := fun h => by omega
  have e2 : ((p.1 : Int) + 1) = ((p.1 + 1 : Nat) : Int) := by omega
  by_cases c1 : 0 < p.1
  · simp only [if_pos c1, if_pos (show (p.1 : Int) > 0 by omega)]
    by_cases c2 : p.1 + 1 < l.length
    · simp only [if_pos c2, if_pos (show (p.1 : Int) < (l.length : Int) - 1 by omega)]
      rw [e1 c1, e2]
      rfl
    · simp only [if_neg c2, if_neg (show ¬ (p.1 : Int) < (l.length : Int) - 1 by omega)]
      rw [e1 c1]
      rfl
  · simp only [if_neg c1, if_neg (show ¬ (p.1 : Int) > 0 by omega)]
    by_cases c2 : p.1 + 1 < l.length
    · simp only [if_pos c2, if_pos (show (p.1 : Int) < (l.length : Int) - 1 by omega)]
      rw [e2]
      rfl
    · simp only [if_neg c2, if_neg (show ¬ (p.1 : Int) < (l.length : Int) - 1 by omega)]
      rfl
def zerosL : List Int → Nat
  | [] => 0
  | x :: s => (if x = 0 then 1 else 0) + zerosL s
theorem zeros_set : ∀ (s : List Int) (i : Nat), i < s.length → s.getD i 0 = 0 → zerosL (s.set i 1) + 1 = zerosL s
  | [], i, h, _ => by simp at h
  | x :: s, 0, _, h0 => by
    have h0 : x = 0 := h0
    subst h0
    show ((if (1 : Int) = 0 then 1 else 0) + zerosL s) + 1 = (if (0 : Int) = 0 then 1 else 0) + zerosL s
    rw [if_neg (by omega), if_pos rfl]
    omega
  | x :: s, i + 1, h, h0 => by
    have := zeros_set s i (by simpa using h) h0
    show ((if x = 0 then 1 else 0) + zerosL (s.set i 1)) + 1 = (if x = 0 then 1 else 0) + zerosL s
    omega
theorem zeros_rep : ∀ n : Nat, zerosL (List.replicate n 0) = n
  | 0 => rfl
  | n + 1 => by
    show (if (0 : Int) = 0 then 1 else 0) + zerosL (List.replicate n 0) = n + 1
    rw [zeros_rep n, if_pos rfl]
    omega
/-- What was seen by index is what was reached by cell. -/
structure Rel (l : List ByteArray) (seen : List Int) (S : List (Int × Int)) : Prop where
  len : seen.length = l.length * wideL l
  sum : S.length + zerosL seen = l.length * wideL l
  val : ∀ p, okP l p → rd seen (idxP (wideL l) p) = if castP p ∈ S then 1 else 0
theorem Rel.zero (l : List ByteArray) : Rel l (List.replicate (l.length * wideL l) 0) [] := by
  refine ⟨by simp, by rw [zeros_rep]; simp, fun p hp => ?_⟩
  rw [if_neg (by simp)]
  unfold rd
  rw [List.getD_eq_getElem?_getD, List.getElem?_replicate]
  split <;> rfl
theorem Rel.put {l : List ByteArray} {seen : List Int} {S : List (Int × Int)} (h : Rel l seen S) {p : Nat × Nat} (hp : okP l p) (hn : castP p ∉ S) : Rel l (seen.set (idxP (wideL l) p).toNat 1) (castP p :: S) ∧ zerosL (seen.set (idxP (wideL l) p).toNat 1) + 1 = zerosL seen := by
  have hlt := idx_lt hp
  have hl := h.len
  have e : (idxP (wideL l) p).toNat = p.1 * wideL l + p.2 := Int.toNat_natCast _
  have hv := h.val p hp
  rw [if_neg hn] at hv
  unfold rd at hv
  have hz := zeros_set seen (idxP (wideL l) p).toNat (by omega) hv
  refine ⟨⟨by rw [List.length_set]; exact hl, ?_, fun q hq => ?_⟩, hz⟩
  · have := h.sum
    rw [List.length_cons]
    omega
  · by_cases c : q = p
    · subst c
      rw [if_pos List.mem_cons_self]
      unfold rd
      rw [List.getD_eq_getElem?_getD, List.getElem?_set_self (by omega)]
      rfl
    · have h1 : (idxP (wideL l) p).toNat ≠ (idxP (wideL l) q).toNat := fun e_ => c (idx_inj hq.2 hp.2 (by unfold idxP at e_ ⊢; omega))
      have h2 := h.val q hq
      unfold rd at h2 ⊢
      rw [List.getD_eq_getElem?_getD, List.getElem?_set_ne h1, ← List.getD_eq_getElem?_getD, h2]
      have h3 : castP q ∈ castP p :: S ↔ castP q ∈ S := by
        rw [List.mem_cons]
        exact ⟨fun h => h.resolve_left (fun e_ => c (cast_inj e_)), Or.inr⟩
      simp only [h3]
theorem rd_mid (pre : List Int) (x : Int) (ys : List Int) : rd (pre ++ x :: ys) (pre.length : Int) = x := by
  unfold rd
  rw [Int.toNat_natCast, List.getD_eq_getElem?_getD, List.getElem?_append_right (Nat.le_refl _), Nat.sub_self]
  rfl
theorem rd_map {α : Type} (f : α → Int) (Q : List α) (i : Nat) (h : i < Q.length) : rd (Q.map f) (i : Int) = f Q[i] := by
  unfold rd
  rw [Int.toNat_natCast, List.getD_eq_getElem?_getD, List.getElem?_map, List.getElem?_eq_getElem h]
  rfl
theorem lemN {l : List ByteArray} (hg : gridB l = true) (c : Int) (a : Nat) : ∀ (ps : List (Nat × Nat)), (∀ p ∈ ps, okP l p) → ∀ (seen : List Int) (S : List (Int × Int)) (Q : List (Nat × Nat)), a < Q.length → Rel l seen S → zerosL seen + Q.length ≤ 600 →
    ∃ (seen' : List Int) (S' : List (Int × Int)) (N : List (Nat × Nat)), Rel l seen' S' ∧ zerosL seen' + N.length = zerosL seen ∧ (∀ p ∈ N, okP l p) ∧ ptN l c (ps.map cellP) S ((Q.drop (a + 1)).map cellP) = some (S', ((Q ++ N).drop (a + 1)).map cellP) ∧
      ∀ (m x8 : Int) (pre : List Int) (R : Int), pre.length + ps.length ≤ 100 → Ev (fun k => spec_l12Parts.l1 k l c (wideL l) seen' m x8 ((Q ++ N).map (idxP (wideL l))) ((a : Int) + 1)) R → Ev (fun k => spec_l12Parts.l2 k l c (wideL l) seen m x8 (Q.map (idxP (wideL l))) a (pre ++ ps.map (idxP (wideL l))) (pre.length : Int)) R := by
  obtain ⟨g1, g2, _⟩ := grid_facts hg
  have hw := wide_bdI hg
  have har := area_bd hg
  intro ps
  induction ps with
  | nil =>
    intro _ seen S Q ha hR hz
    refine ⟨seen, S, [], hR, by simp, by simp, by rw [List.append_nil]; rfl, ?_⟩
    intro m x8 pre R hpre h
    rw [List.append_nil] at h
    rw [List.map_nil, List.append_nil]
    apply ev_succ
    simp only [spec_l12Parts.l2, if_neg (show ¬ (pre.length : Int) < (pre.length : Int) by omega), w64 (x := (a : Int) + 1) (by omega) (by omega)]
    exact h
  | cons p ps ih =>
    intro hps seen S Q ha hR hz
    have hp := hps p List.mem_cons_self
    have hin := in_of hg hp
    have hlt := idx_lt hp
    have hv := hR.val p hp
    have hlen := hR.len
    have hsum := hR.sum
    have hz2 : seen.length ≤ 512 := by omega
    have hx : 0 ≤ idxP (wideL l) p ∧ idxP (wideL l) p < (seen.length : Int) := by unfold idxP; omega
    have hsz := row_sizeI hg p.1 hp.1
    have hp2 := hp.2
    have hp1 := hp.1
    have step : ∀ (m x8 : Int) (pre : List Int) (k : Nat), pre.length + (ps.length + 1) ≤ 100 → spec_l12Parts.l2 (k + 1) l c (wideL l) seen m x8 (Q.map (idxP (wideL l))) a (pre ++ (p :: ps).map (idxP (wideL l))) (pre.length : Int) = (if rd seen (idxP (wideL l) p) = 0 then (if byteP l p = c then (spec_l12Parts.l2 k l c (wideL l) (seen.set (idxP (wideL l) p).toNat 1) m x8 ((Q ++ [p]).map (idxP (wideL l))) a ((pre ++ [idxP (wideL l) p]) ++ ps.map (idxP (wideL l))) ((pre ++ [idxP (wideL l) p]).length : Int)) else (spec_l12Parts.l2 k l c (wideL l) seen m x8 (Q.map (idxP (wideL l))) a ((pre ++ [idxP (wideL l) p]) ++ ps.map (idxP (wideL l))) ((pre ++ [idxP (wideL l) p]).length : Int))) else (spec_l12Parts.l2 k l c (wideL l) seen m x8 (Q.map (idxP (wideL l))) a ((pre ++ [idxP (wideL l) p]) ++ ps.map (idxP (wideL l))) ((pre ++ [idxP (wideL l) p]).length : Int))) := by
      intro m x8 pre k hpre
      have e1 : pre ++ (p :: ps).map (idxP (wideL l)) = pre ++ idxP (wideL l) p :: ps.map (idxP (wideL l)) := rfl
      have e2 : (pre ++ [idxP (wideL l) p]) ++ ps.map (idxP (wideL l)) = pre ++ idxP (wideL l) p :: ps.map (idxP (wideL l)) := by rw [List.append_assoc]; rfl
      have e3 : ((pre ++ [idxP (wideL l) p]).length : Int) = (pre.length : Int) + 1 := by rw [List.length_append, List.length_singleton]; omega
      have e4 : (Q ++ [p]).map (idxP (wideL l)) = Q.map (idxP (wideL l)) ++ [idxP (wideL l) p] := by rw [List.map_append]; rfl
      rw [e1, e2, e3, e4]
      simp only [spec_l12Parts.l2, rd_mid, tdivP hp2, tmodP hp2, List.length_append, List.length_cons, List.length_map, hsz, w64 (x := (p.1 : Int)) (by omega) (by omega), if_pos (show (pre.length : Int) < ((pre.length + (ps.length + 1) : Nat) : Int) by omega), if_pos (show (0 : Int) ≤ (pre.length : Int) by omega), if_pos hx.1, if_pos hx.2, if_neg (show ¬ (wideL l : Int) = 0 by omega), if_pos (show (0 : Int) ≤ (p.1 : Int) by omega), if_pos (show (p.1 : Int) < (l.length : Int) by omega), if_pos (show (0 : Int) ≤ (p.2 : Int) by omega), if_pos (show (p.2 : Int) < (wideL l : Int) by omega), if_pos (show Q.length < 17592186044416 by omega), w64 (x := (pre.length : Int) + 1) (by omega) (by omega)]
      rfl
    by_cases hmem : castP p ∈ S
    · rw [if_pos hmem] at hv
      obtain ⟨seen', S', N, i1, i2, i3, i4, i5⟩ := ih (fun q hq => hps q (List.mem_cons_of_mem _ hq)) seen S Q ha hR hz
      refine ⟨seen', S', N, i1, i2, i3, ?_, ?_⟩
      · rw [List.map_cons]
        unfold ptN
        rw [if_pos hin, if_neg (fun e => e.2 hmem)]
        exact i4
      · intro m x8 pre R hpre h
        apply ev_succ
        simp only [List.length_cons] at hpre
        simp only [step m x8 pre _ hpre, hv, if_neg (show ¬ (1 : Int) = 0 by omega)]
        exact i5 m x8 _ R (by rw [List.length_append, List.length_singleton]; omega) h
    · rw [if_neg hmem] at hv
      by_cases hb : byteP l p = c
      · obtain ⟨hR1, hz1⟩ := Rel.put hR hp hmem
        obtain ⟨seen', S', N, i1, i2, i3, i4, i5⟩ := ih (fun q hq => hps q (List.mem_cons_of_mem _ hq)) _ _ (Q ++ [p]) (by rw [List.length_append, List.length_singleton]; omega) hR1 (by rw [List.length_append, List.length_singleton]; omega)
        refine ⟨seen', S', p :: N, i1, by rw [List.length_cons]; omega, fun q hq => ?_, ?_, ?_⟩
        · rcases List.mem_cons.1 hq with rfl | hq
          · exact hp
          · exact i3 q hq
        · rw [List.map_cons]
          unfold ptN
          rw [if_pos hin, if_pos ⟨hb, hmem⟩, if_pos ⟨by rw [List.length_map, List.length_drop]; omega, by omega⟩]
          have e : (Q.drop (a + 1)).map cellP ++ [cellP p] = ((Q ++ [p]).drop (a + 1)).map cellP := by
            rw [List.drop_append_of_le_length (by omega), List.map_append]
            rfl
          rw [e, show Q ++ p :: N = (Q ++ [p]) ++ N by rw [List.append_assoc]; rfl]
          exact i4
        · intro m x8 pre R hpre h
          apply ev_succ
          simp only [List.length_cons] at hpre
          simp only [step m x8 pre _ hpre, hv, if_true, if_pos hb]
          rw [show Q ++ p :: N = (Q ++ [p]) ++ N by rw [List.append_assoc]; rfl] at h
          exact i5 m x8 _ R (by rw [List.length_append, List.length_singleton]; omega) h
      · obtain ⟨seen', S', N, i1, i2, i3, i4, i5⟩ := ih (fun q hq => hps q (List.mem_cons_of_mem _ hq)) seen S Q ha hR hz
        refine ⟨seen', S', N, i1, i2, i3, ?_, ?_⟩
        · rw [List.map_cons]
          unfold ptN
          rw [if_pos hin, if_neg (fun e => hb e.1)]
          exact i4
        · intro m x8 pre R hpre h
          apply ev_succ
          simp only [List.length_cons] at hpre
          simp only [step m x8 pre _ hpre, hv, if_true, if_neg hb]
          exact i5 m x8 _ R (by rw [List.length_append, List.length_singleton]; omega) h
theorem idx_bd {l : List ByteArray} (hg : gridB l = true) {p : Nat × Nat} (hp : okP l p) : 0 ≤ idxP (wideL l) p ∧ idxP (wideL l) p < 512 := by
  have h1 := idx_lt hp
  have h2 := area_bd hg
  unfold idxP
  omega
theorem down_val {l : List ByteArray} (hg : gridB l = true) {p : Nat × Nat} (hp : okP l p) (h0 : 0 < p.1) : wrap64 (idxP (wideL l) p - (wideL l : Int)) = idxP (wideL l) (p.1 - 1, p.2) := by
  have h1 := idx_bd hg hp
  have h2 := wide_bdI hg
  rw [w64 (by omega) (by omega)]
  obtain ⟨q, hq⟩ : ∃ q, p.1 = q + 1 := ⟨p.1 - 1, by omega⟩
  unfold idxP
  simp only [hq, Nat.add_sub_cancel, Nat.add_mul, Nat.one_mul]
  omega
theorem up_val {l : List ByteArray} (hg : gridB l = true) {p : Nat × Nat} (hp : okP l p) : wrap64 (idxP (wideL l) p + (wideL l : Int)) = idxP (wideL l) (p.1 + 1, p.2) := by
  have h1 := idx_bd hg hp
  have h2 := wide_bdI hg
  rw [w64 (by omega) (by omega)]
  unfold idxP
  simp only [Nat.add_mul, Nat.one_mul]
  omega
theorem succ_val {l : List ByteArray} (hg : gridB l = true) {i k : Nat} (hp : okP l (i, k)) : wrap64 (idxP (wideL l) (i, k) + 1) = idxP (wideL l) (i, k + 1) := by
  have h1 := idx_bd hg hp
  rw [w64 (by omega) (by omega)]
  rfl
theorem fst_val {l : List ByteArray} (hg : gridB l = true) {p : Nat × Nat} (hp : okP l p) : wrap64 (p.1 : Int) = (p.1 : Int) := by
  have h1 := (grid_facts hg).2.1
  have h2 := hp.1
  exact w64 (by omega) (by omega)
theorem mul_val {l : List ByteArray} (hg : gridB l = true) {p : Nat × Nat} (hp : okP l p) : wrap64 ((p.1 : Int) * (wideL l : Int)) = ((p.1 * wideL l : Nat) : Int) := by
  have h1 := idx_lt hp
  have h2 := area_bd hg
  rw [← Int.natCast_mul]
  exact w64 (by omega) (by omega)
theorem east_idx {l : List ByteArray} (hg : gridB l = true) {p : Nat × Nat} (hp : okP l p) : wrap64 (((p.1 * wideL l : Nat) : Int) + (((p.2 + 1) % wideL l : Nat) : Int)) = idxP (wideL l) (p.1, (p.2 + 1) % wideL l) := by
  have h1 := idx_lt hp
  have h2 := area_bd hg
  have h3 := wide_bdI hg
  have h4 := Nat.mod_lt (p.2 + 1) (show 0 < wideL l by omega)
  rw [w64 (by omega) (by omega)]
  rfl
theorem west_idx {l : List ByteArray} (hg : gridB l = true) {p : Nat × Nat} (hp : okP l p) : wrap64 (((p.1 * wideL l : Nat) : Int) + (((p.2 + (wideL l - 1)) % wideL l : Nat) : Int)) = idxP (wideL l) (p.1, (p.2 + (wideL l - 1)) % wideL l) := by
  have h1 := idx_lt hp
  have h2 := area_bd hg
  have h3 := wide_bdI hg
  have h4 := Nat.mod_lt (p.2 + (wideL l - 1)) (show 0 < wideL l by omega)
  rw [w64 (by omega) (by omega)]
  rfl
theorem nb_len (l : List ByteArray) (p : Nat × Nat) : (nbP l p).length ≤ 4 := by
  unfold nbP
  simp only [List.length_cons, List.length_append]
  split <;> split <;> simp
theorem lemL {l : List ByteArray} (hg : gridB l = true) (c : Int) (d : Nat) : ∀ (seen : List Int) (S : List (Int × Int)) (Q : List (Nat × Nat)) (a : Nat), a ≤ Q.length → zerosL seen + (Q.length - a) = d → Rel l seen S → (∀ p ∈ Q, okP l p) → zerosL seen + Q.length ≤ 600 →
    ∃ (seen' : List Int) (S' : List (Int × Int)), Rel l seen' S' ∧ Ev (fun k => ptL l c k S ((Q.drop a).map cellP)) S' ∧
      ∀ (m x8 : Int) (R : Int), Ev (fun k => spec_l12Parts.l0 k l c (wideL l) seen' m (wrap64 (x8 + 1))) R → Ev (fun k => spec_l12Parts.l1 k l c (wideL l) seen m x8 (Q.map (idxP (wideL l))) (a : Int)) R := by
  obtain ⟨g1, g2, _⟩ := grid_facts hg
  have hw := wide_bdI hg
  have har := area_bd hg
  have stop : ∀ (seen : List Int) (S : List (Int × Int)) (Q : List (Nat × Nat)) (a : Nat), a = Q.length → Rel l seen S → ∃ (seen' : List Int) (S' : List (Int × Int)), Rel l seen' S' ∧ Ev (fun k => ptL l c k S ((Q.drop a).map cellP)) S' ∧
      ∀ (m x8 : Int) (R : Int), Ev (fun k => spec_l12Parts.l0 k l c (wideL l) seen' m (wrap64 (x8 + 1))) R → Ev (fun k => spec_l12Parts.l1 k l c (wideL l) seen m x8 (Q.map (idxP (wideL l))) (a : Int)) R := by
    intro seen S Q a ha hR
    refine ⟨seen, S, hR, ?_, ?_⟩
    · rw [List.drop_eq_nil_of_le (by omega)]
      apply ev_succ
      exact ev_const rfl
    · intro m x8 R h
      apply ev_succ
      simp only [spec_l12Parts.l1, List.length_map, if_neg (show ¬ (a : Int) < (Q.length : Int) by omega)]
      exact h
  induction d with
  | zero =>
    intro seen S Q a ha hd hR hQ hz
    exact stop seen S Q a (by omega) hR
  | succ d ih =>
    intro seen S Q a ha hd hR hQ hz
    by_cases hlt : a < Q.length
    · have hp := hQ _ (List.getElem_mem hlt)
      generalize hpe : Q[a] = p at hp
      have hsum := hR.sum
      obtain ⟨seen', S', N, i1, i2, i3, i4, i5⟩ := lemN hg c a (nbP l p) (nb_ok hg hp) seen S Q hlt hR hz
      obtain ⟨seen2, S2, j1, j2, j3⟩ := ih seen' S' (Q ++ N) (a + 1) (by rw [List.length_append]; omega) (by rw [List.length_append]; omega) i1 (fun q hq => (List.mem_append.1 hq).elim (hQ q) (i3 q)) (by rw [List.length_append]; omega)
      refine ⟨seen2, S2, j1, ?_, ?_⟩
      · rw [List.drop_eq_getElem_cons hlt, hpe]
        apply ev_succ
        have e := nextto_val hg hp
        simp only [List.map_cons, ptL]
        rw [show impl_nextTo.f l (cellP p).f0 (cellP p).f1 = some ((nbP l p).map cellP) from e]
        simp only [Option.bind_some, i4]
        exact j2
      · intro m x8 R h
        have hnl := nb_len l p
        have h2 := i5 m x8 [] R (by simp only [List.length_nil]; omega) (by
          have := j3 m x8 R h
          rw [show ((a + 1 : Nat) : Int) = (a : Int) + 1 by omega] at this
          exact this)
        rw [List.nil_append] at h2
        have hp1 := hp.1
        have hp2 := hp.2
        have tailJ : ∀ (y : List Int), y.length ≤ 3 → y ++ (if p.1 + 1 < l.length then [idxP (wideL l) (p.1 + 1, p.2)] else []) = (nbP l p).map (idxP (wideL l)) → Ev (fun k => spec_l12Parts.j3 k l c (wideL l) seen m x8 (Q.map (idxP (wideL l))) (a : Int) (p.1 : Int) y) R := by
          intro y hy hye
          apply ev_succ
          rw [← hye] at h2
          by_cases c2 : p.1 + 1 < l.length
          · simp only [if_pos c2] at h2
            simp only [spec_l12Parts.j3, w64 (x := (p.1 : Int) + 1) (by omega) (by omega), if_pos (show (p.1 : Int) + 1 < (l.length : Int) by omega), if_pos (show (0 : Int) ≤ (a : Int) by omega), List.length_map, if_pos (show (a : Int) < (Q.length : Int) by omega), if_pos (show y.length < 17592186044416 by omega), rd_map _ Q a hlt, hpe, up_val hg hp]
            apply ev_succ
            simp only [spec_l12Parts.j4]
            exact h2
          · simp only [if_neg c2, List.append_nil] at h2
            simp only [spec_l12Parts.j3, w64 (x := (p.1 : Int) + 1) (by omega) (by omega), if_neg (show ¬ (p.1 : Int) + 1 < (l.length : Int) by omega)]
            apply ev_succ
            simp only [spec_l12Parts.j4]
            exact h2
        apply ev_succ
        simp only [spec_l12Parts.l1, List.length_map, if_pos (show (a : Int) < (Q.length : Int) by omega), if_pos (show (0 : Int) ≤ (a : Int) by omega), if_neg (show ¬ (wideL l : Int) = 0 by omega), rd_map _ Q a hlt, hpe, tdivP hp2, tmodP hp2, fst_val hg hp, mul_val hg hp, eastT_val (show wideL l ≤ 1000 by omega) hw.1 hp2, west_val (show wideL l ≤ 1000 by omega) hw.1 hp2, east_idx hg hp, west_idx hg hp, Option.bind_some]
        by_cases c1 : 0 < p.1
        · simp only [if_pos (show (p.1 : Int) > 0 by omega), List.length_cons, List.length_nil, if_pos (show 0 + 1 + 1 < 17592186044416 by omega), down_val hg hp c1]
          refine tailJ _ (by simp) ?_
          unfold nbP
          rw [if_pos c1]
          by_cases c2 : p.1 + 1 < l.length
          · rw [if_pos c2, if_pos c2]; rfl
          · rw [if_neg c2, if_neg c2]; rfl
        · simp only [if_neg (show ¬ (p.1 : Int) > 0 by omega)]
          refine tailJ _ (by simp) ?_
          unfold nbP
          rw [if_neg c1]
          by_cases c2 : p.1 + 1 < l.length
          · rw [if_pos c2, if_pos c2]; rfl
          · rw [if_neg c2, if_neg c2]; rfl
    · exact stop seen S Q a (by omega) hR
/-- From one index on the two searches come to the same. -/
def SameFrom (l : List ByteArray) (c : Int) (cs : List S61) (x : Int) : Prop := ∀ (seen : List Int) (S : List (Int × Int)) (m : Int), Rel l seen S → 0 ≤ m → m ≤ x → ∃ r : Int, Ev (fun k => ptC l c k cs S m) r ∧ Ev (fun k => spec_l12Parts.l0 k l c (wideL l) seen m x) r ∧ m ≤ r ∧ r ≤ m + (cs.length : Int) ∧ (S = [] → 0 < cs.length → m + 1 ≤ r)
theorem lemR {l : List ByteArray} (hg : gridB l = true) (c : Int) (i : Nat) (hi : i < l.length) (rest : List S61) (hrest : SameFrom l c rest (((i + 1) * wideL l : Nat) : Int)) (d : Nat) : ∀ k : Nat, k + d = wideL l → SameFrom l c (cellsR i c k (l[i].data.toList.drop k) ++ rest) (idxP (wideL l) (i, k)) := by
  obtain ⟨g1, g2, g3⟩ := grid_facts hg
  have hw := wide_bdI hg
  have har := area_bd hg
  have hsz := row_sizeI hg i hi
  have hsz2 : l[i].size = wideL l := (g3 _ (List.getElem_mem hi)).1
  induction d with
  | zero =>
    intro k hk
    rw [List.drop_eq_nil_of_le (by rw [dsize]; omega)]
    have e : idxP (wideL l) (i, k) = (((i + 1) * wideL l : Nat) : Int) := by
      unfold idxP
      simp only [Nat.add_mul, Nat.one_mul]
      omega
    rw [e]
    exact hrest
  | succ d ih =>
    intro k hk
    have hkW : k < wideL l := by omega
    have hok : okP l (i, k) := ⟨hi, hkW⟩
    have hin := in_of hg hok
    have hlt := idx_lt hok
    have ih := ih (k + 1) (by omega)
    have hb2 : k < l[i].data.toList.length := by rw [dsize]; omega
    have hx1 : idxP (wideL l) (i, k + 1) = idxP (wideL l) (i, k) + 1 := rfl
    have hx0 : 0 ≤ idxP (wideL l) (i, k) ∧ idxP (wideL l) (i, k) < 512 := by
      unfold idxP
      dsimp only at hlt ⊢
      omega
    have hbyte : byteP l (i, k) = ((l[i].data.toList[k]).toNat : Int) := by
      show bt (rdOf ByteArray.empty l (i : Int)) (k : Int) = _
      rw [rdOf_at _ _ _ hi, bt_at _ _ (by omega)]
    intro seen S m hR hm0 hm1
    have hlen := hR.len
    have hsum := hR.sum
    have hv := hR.val _ hok
    have hlx : idxP (wideL l) (i, k) < (seen.length : Int) := by
      unfold idxP
      dsimp only at hlt ⊢
      omega
    rw [List.drop_eq_getElem_cons hb2]
    have goOn : ∀ R, Ev (fun k_ => spec_l12Parts.l0 k_ l c (wideL l) seen m (idxP (wideL l) (i, k + 1))) R → (castP (i, k) ∈ S ∨ byteP l (i, k) ≠ c) → Ev (fun k_ => spec_l12Parts.l0 k_ l c (wideL l) seen m (idxP (wideL l) (i, k))) R := by
      intro R h hor
      apply ev_succ
      by_cases hmem : castP (i, k) ∈ S
      · rw [if_pos hmem] at hv
        simp only [spec_l12Parts.l0, if_pos hlx, if_pos hx0.1, if_pos hv]
        apply ev_succ
        simp only [spec_l12Parts.j1, if_true, succ_val hg hok]
        exact h
      · rw [if_neg hmem] at hv
        have hne : (byteP l (i, k) != c) = true := bne_iff_ne.2 (hor.resolve_left hmem)
        unfold byteP at hne
        simp only [spec_l12Parts.l0, if_pos hlx, if_pos hx0.1, hv, if_neg (show ¬ (0 : Int) = 1 by omega), if_neg (show ¬ (wideL l : Int) = 0 by omega), tdivP (p := (i, k)) hkW, tmodP (p := (i, k)) hkW, w64 (x := (i : Int)) (by omega) (by omega), if_pos (show (0 : Int) ≤ (i : Int) by omega), if_pos (show (i : Int) < (l.length : Int) by omega), if_pos (show (0 : Int) ≤ (k : Int) by omega), hsz, if_pos (show (k : Int) < (wideL l : Int) by omega), hne]
        apply ev_succ
        simp only [spec_l12Parts.j1, if_true, succ_val hg hok]
        exact h
    by_cases hc : ((l[i].data.toList[k]).toNat : Int) = c
    · have hcell : cellsR i c k (l[i].data.toList[k] :: l[i].data.toList.drop (k + 1)) = cellP (i, k) :: cellsR i c ((k + 1 : Nat) : Int) (l[i].data.toList.drop (k + 1)) := by
        show (if _ then _ else _) = _
        simp only [if_pos hc]
        rfl
      rw [hcell, List.cons_append]
      by_cases hmem : castP (i, k) ∈ S
      · obtain ⟨r, r1, r2, r3, r4, r5⟩ := ih seen S m hR hm0 (by omega)
        refine ⟨r, ?_, goOn r r2 (Or.inl hmem), r3, by rw [List.length_cons]; omega, fun h => by rw [h] at hmem; cases hmem⟩
        unfold ptC
        simp only [if_pos (show inG l (cellP (i, k)) ∧ S.length < 4398046511104 from ⟨hin, by omega⟩), if_pos (show ((cellP (i, k)).f0, (cellP (i, k)).f1) ∈ S from hmem)]
        exact r1
      · obtain ⟨hR1, hz1⟩ := Rel.put hR hok hmem
        obtain ⟨seen', S', j1, j2, j3⟩ := lemL hg c _ _ _ [(i, k)] 0 (by simp) rfl hR1 (fun p hp => by rw [List.mem_singleton.1 hp]; exact hok) (by simp only [List.length_singleton]; omega)
        obtain ⟨r, r1, r2, r3, r4, r5⟩ := ih seen' S' (m + 1) j1 (by omega) (by omega)
        refine ⟨r, ?_, ?_, by omega, by rw [List.length_cons]; omega, fun _ _ => r3⟩
        · unfold ptC
          simp only [if_pos (show inG l (cellP (i, k)) ∧ S.length < 4398046511104 from ⟨hin, by omega⟩), if_neg (show ¬ ((cellP (i, k)).f0, (cellP (i, k)).f1) ∈ S from hmem), w64 (x := m + 1) (by omega) (by omega)]
          exact Ev.bind j2 r1
        · rw [if_neg hmem] at hv
          have hne : (byteP l (i, k) != c) = false := bne_eq_false_iff_eq.2 (by rw [hbyte]; exact hc)
          unfold byteP at hne
          apply ev_succ
          simp only [spec_l12Parts.l0, if_pos hlx, if_pos hx0.1, hv, if_neg (show ¬ (0 : Int) = 1 by omega), if_neg (show ¬ (wideL l : Int) = 0 by omega), tdivP (p := (i, k)) hkW, tmodP (p := (i, k)) hkW, w64 (x := (i : Int)) (by omega) (by omega), if_pos (show (0 : Int) ≤ (i : Int) by omega), if_pos (show (i : Int) < (l.length : Int) by omega), if_pos (show (0 : Int) ≤ (k : Int) by omega), hsz, if_pos (show (k : Int) < (wideL l : Int) by omega), hne]
          apply ev_succ
          simp only [spec_l12Parts.j1, Bool.false_eq_true, if_false, if_pos hlx, if_pos hx0.1, w64 (x := m + 1) (by omega) (by omega)]
          exact j3 (m + 1) _ r (by rw [succ_val hg hok]; exact r2)
    · have hcell : cellsR i c k (l[i].data.toList[k] :: l[i].data.toList.drop (k + 1)) = cellsR i c ((k + 1 : Nat) : Int) (l[i].data.toList.drop (k + 1)) := by
        show (if _ then _ else _) = _
        simp only [if_neg hc]
        rfl
      rw [hcell]
      obtain ⟨r, r1, r2, r3, r4, r5⟩ := ih seen S m hR hm0 (by omega)
      exact ⟨r, r1, goOn r r2 (Or.inr (by rw [hbyte]; exact hc)), r3, r4, r5⟩
theorem lemC {l : List ByteArray} (hg : gridB l = true) (c : Int) (d : Nat) : ∀ i : Nat, i + d = l.length → SameFrom l c (cellsG c i (l.drop i)) ((i * wideL l : Nat) : Int) := by
  obtain ⟨g1, g2, g3⟩ := grid_facts hg
  have har := area_bd hg
  induction d with
  | zero =>
    intro i hi seen S m hR hm0 hm1
    have hi : i = l.length := by omega
    subst hi
    rw [List.drop_length]
    have hlen := hR.len
    refine ⟨m, ev_const rfl, ev_succ ?_, Int.le_refl _, by simp [cellsG], fun _ h => by simp [cellsG] at h⟩
    simp only [spec_l12Parts.l0, if_neg (show ¬ ((l.length * wideL l : Nat) : Int) < (seen.length : Int) by omega)]
    exact ev_const rfl
  | succ d ih =>
    intro i hi
    have hlt : i < l.length := by omega
    have := lemR hg c i hlt _ (ih (i + 1) (by omega)) (wideL l) 0 (by omega)
    rw [List.drop_zero] at this
    rw [List.drop_eq_getElem_cons hlt]
    exact this
theorem parts_same {l : List ByteArray} (hg : gridB l = true) (c : Int) : ∃ r : Int, Ev (fun k => impl_partsOf.f k l c) r ∧ Ev (fun k => spec_l12Parts.f k l c) r ∧ 0 ≤ r ∧ r ≤ (cntG c l : Int) ∧ (0 < cntG c l → 1 ≤ r) := by
  obtain ⟨g1, g2, g3⟩ := grid_facts hg
  have hw := wide_bdI hg
  have har := area_bd hg
  obtain ⟨r, r1, r2, r3, r4, r5⟩ := lemC hg c l.length 0 (by omega) _ _ 0 (Rel.zero l) (Int.le_refl _) (by omega)
  rw [List.drop_zero] at r1 r4 r5
  rw [cellsG_length] at r4 r5
  have hmul : ((l.length : Int) * ((rdOf ByteArray.empty l 0).size : Int)) = ((l.length * wideL l : Nat) : Int) := (Int.natCast_mul _ _).symm
  refine ⟨r, ?_, ?_, r3, by omega, fun h => by have := r5 rfl h; omega⟩
  · unfold impl_partsOf.f
    exact Ev.bind (cells_ev l (by omega) (fun y hy => by have := g3 y hy; omega) c) r1
  · unfold spec_l12Parts.f
    simp only [hmul, w64 (x := ((l.length * wideL l : Nat) : Int)) (by omega) (by omega), if_pos (show 0 < (l.length : Int) by omega), if_pos (show (0 : Int) ≤ ((l.length * wideL l : Nat) : Int) by omega), Int.toNat_natCast, if_pos (show l.length * wideL l ≤ 35184372088832 by omega)]
    rw [Nat.zero_mul] at r2
    exact r2
/-! ### The coast -/
def seaP (l : List ByteArray) (q : Nat × Nat) : Nat := if byteP l q = 46 then 1 else 0
def seaSum (l : List ByteArray) : List (Nat × Nat) → Nat
  | [] => 0
  | q :: qs => seaP l q + seaSum l qs
theorem sea_le (l : List ByteArray) (q : Nat × Nat) : seaP l q ≤ 1 := by
  unfold seaP
  split <;> omega
theorem seaSum_le (l : List ByteArray) : ∀ qs, seaSum l qs ≤ qs.length
  | [] => Nat.le_refl _
  | q :: qs => by
    have h1 := sea_le l q
    have h2 := seaSum_le l qs
    show seaP l q + seaSum l qs ≤ qs.length + 1
    omega
def coastC (l : List ByteArray) (x : S61) : Nat := seaSum l (nbP l (x.f0.toNat, x.f1.toNat))
def coastS (l : List ByteArray) : List S61 → Nat
  | [] => 0
  | x :: xs => coastC l x + coastS l xs
theorem coastC_le (l : List ByteArray) (x : S61) : coastC l x ≤ 4 := Nat.le_trans (seaSum_le _ _) (nb_len _ _)
theorem coastS_le (l : List ByteArray) : ∀ xs, coastS l xs ≤ 4 * xs.length
  | [] => Nat.le_refl _
  | x :: xs => by
    have h1 := coastC_le l x
    have h2 := coastS_le l xs
    show coastC l x + coastS l xs ≤ 4 * (xs.length + 1)
    omega
theorem cellsR_ok (i c : Int) : ∀ (bs : List UInt8) (k : Nat), ∀ x ∈ cellsR i c k bs, ∃ m : Nat, m < k + bs.length ∧ x = ⟨i, (m : Int)⟩
  | [], _, x, hx => by cases hx
  | b :: bs, k, x, hx => by
    have ih := cellsR_ok i c bs (k + 1)
    have hx : x ∈ (if (b.toNat : Int) = c then (⟨i, (k : Int)⟩ : S61) :: cellsR i c ((k + 1 : Nat) : Int) bs else cellsR i c ((k + 1 : Nat) : Int) bs) := hx
    split at hx
    · rcases List.mem_cons.1 hx with rfl | hx
      · exact ⟨k, by rw [List.length_cons]; omega, rfl⟩
      · obtain ⟨m, h1, h2⟩ := ih x hx
        exact ⟨m, by rw [List.length_cons]; omega, h2⟩
    · obtain ⟨m, h1, h2⟩ := ih x hx
      exact ⟨m, by rw [List.length_cons]; omega, h2⟩
theorem cellsG_ok {l : List ByteArray} (hg : gridB l = true) (c : Int) (d : Nat) : ∀ i : Nat, i + d = l.length → ∀ x ∈ cellsG c i (l.drop i), ∃ p, okP l p ∧ x = cellP p := by
  induction d with
  | zero =>
    intro i hi x hx
    rw [List.drop_eq_nil_of_le (by omega)] at hx
    cases hx
  | succ d ih =>
    intro i hi x hx
    have hlt : i < l.length := by omega
    rw [List.drop_eq_getElem_cons hlt] at hx
    rcases List.mem_append.1 (show x ∈ cellsR i c 0 l[i].data.toList ++ cellsG c ((i + 1 : Nat) : Int) (l.drop (i + 1)) from hx) with hx | hx
    · obtain ⟨m, h1, h2⟩ := cellsR_ok i c _ 0 x hx
      rw [dsize, ((grid_facts hg).2.2 _ (List.getElem_mem hlt)).1] at h1
      exact ⟨(i, m), ⟨hlt, by show m < _; omega⟩, h2⟩
    · exact ih (i + 1) (by omega) x hx
theorem cntG_leI {l : List ByteArray} (c : Int) (h : ∀ r ∈ l, r.size ≤ 32) : cntG c l ≤ 32 * l.length := by
  induction l with
  | nil => exact Nat.le_refl _
  | cons r l ih =>
    have h1 := cntR_le c r.data.toList
    rw [dsize] at h1
    have h2 := h r List.mem_cons_self
    have h3 := ih (fun y hy => h y (List.mem_cons_of_mem _ hy))
    show cntR c r.data.toList + cntG c l ≤ 32 * (l.length + 1)
    omega
theorem sea_val {l : List ByteArray} (q : Nat × Nat) : (byteP l q = 46 ∧ seaP l q = 1) ∨ (¬ byteP l q = 46 ∧ seaP l q = 0) := by
  unfold seaP
  by_cases h : byteP l q = 46
  · exact Or.inl ⟨h, if_pos h⟩
  · exact Or.inr ⟨h, if_neg h⟩
theorem icoast_l1 {l : List ByteArray} (hg : gridB l = true) (cs : List S61) (N : Int) (i : Nat) (hi : i ≤ 1000) (R : Int) (qs : List (Nat × Nat)) (hq : ∀ q ∈ qs, okP l q) (hql : qs.length ≤ 100) (d : Nat) : ∀ (j : Nat) (n : Int), j + d = qs.length → 0 ≤ n → n + (d : Int) ≤ 100000 →
    Ev (fun k => impl_coastOf.l0 k l (n + (seaSum l (qs.drop j) : Int)) cs N ((i : Int) + 1)) R → Ev (fun k => impl_coastOf.l1 k l n cs N i (qs.map cellP) (qs.length : Int) j) R := by
  induction d with
  | zero =>
    intro j n hj h0 h1 h
    rw [List.drop_eq_nil_of_le (by omega), show n + ((seaSum l [] : Nat) : Int) = n from by show n + 0 = n; omega] at h
    apply ev_succ
    simp only [impl_coastOf.l1, if_neg (show ¬ (j : Int) < (qs.length : Int) by omega), w64 (x := (i : Int) + 1) (by omega) (by omega)]
    exact h
  | succ d ih =>
    intro j n hj h0 h1 h
    have hlt : j < qs.length := by omega
    have hok := hq _ (List.getElem_mem hlt)
    rw [List.drop_eq_getElem_cons hlt] at h
    generalize hqe : qs[j] = q at hok h
    have hrd : rd_T61 (qs.map cellP) (j : Int) = cellP q := by
      unfold rd_T61
      rw [Int.toNat_natCast, List.getD_eq_getElem?_getD, List.getElem?_map, List.getElem?_eq_getElem hlt, hqe]
      rfl
    have hin := in_of hg hok
    have hv := sea_val (l := l) q
    have hs : n + ((seaSum l (q :: qs.drop (j + 1)) : Nat) : Int) = (n + (seaP l q : Int)) + (seaSum l (qs.drop (j + 1)) : Int) := by
      show n + ((seaP l q + seaSum l (qs.drop (j + 1)) : Nat) : Int) = _
      omega
    rw [hs] at h
    have hb : bt (rdOf ByteArray.empty l (cellP q).f0) (cellP q).f1 = byteP l q := rfl
    apply ev_succ
    simp only [impl_coastOf.l1, List.length_map, if_pos (show (j : Int) < (qs.length : Int) by omega), if_pos (show (0 : Int) ≤ (j : Int) by omega), hrd, if_pos hin.1, if_pos hin.2.1, if_pos hin.2.2.1, if_pos hin.2.2.2.1, hb, w64 (x := (j : Int) + 1) (by omega) (by omega), w64 (x := n + 1) (by omega) (by omega)]
    rcases hv with ⟨v1, v2⟩ | ⟨v1, v2⟩
    · simp only [if_pos v1]
      rw [v2] at h
      exact ih (j + 1) (n + 1) (by omega) (by omega) (by omega) h
    · simp only [if_neg v1]
      rw [v2, show n + ((0 : Nat) : Int) = n by omega] at h
      exact ih (j + 1) n (by omega) (by omega) (by omega) h
theorem icoast_l0 {l : List ByteArray} (hg : gridB l = true) (cs : List S61) (hc : ∀ x ∈ cs, ∃ p, okP l p ∧ x = cellP p) (hcl : cs.length ≤ 1000) (d : Nat) : ∀ (i : Nat) (n : Int), i + d = cs.length → 0 ≤ n → n ≤ 4 * (i : Int) → Ev (fun k => impl_coastOf.l0 k l n cs (cs.length : Int) i) (n + (coastS l (cs.drop i) : Int)) := by
  induction d with
  | zero =>
    intro i n hi h0 h1
    apply ev_succ
    simp only [impl_coastOf.l0, if_neg (show ¬ (i : Int) < (cs.length : Int) by omega)]
    rw [List.drop_eq_nil_of_le (by omega)]
    exact ev_const (by show some n = some (n + 0); rw [Int.add_zero])
  | succ d ih =>
    intro i n hi h0 h1
    have hlt : i < cs.length := by omega
    obtain ⟨p, hp, he⟩ := hc _ (List.getElem_mem hlt)
    rw [List.drop_eq_getElem_cons hlt, he]
    have hrd : rd_T61 cs (i : Int) = cellP p := by
      unfold rd_T61
      rw [Int.toNat_natCast, List.getD_eq_getElem?_getD, List.getElem?_eq_getElem hlt, he]
      rfl
    have e := nextto_val hg hp
    have hcc : coastC l (cellP p) = seaSum l (nbP l p) := rfl
    have h4 := coastC_le l (cellP p)
    have hs : n + ((coastS l (cellP p :: cs.drop (i + 1)) : Nat) : Int) = (n + (seaSum l (nbP l p) : Int)) + (coastS l (cs.drop (i + 1)) : Int) := by
      show n + ((coastC l (cellP p) + coastS l (cs.drop (i + 1)) : Nat) : Int) = _
      rw [hcc]
      omega
    rw [hs]
    apply ev_succ
    simp only [impl_coastOf.l0, if_pos (show (i : Int) < (cs.length : Int) by omega), if_pos (show (0 : Int) ≤ (i : Int) by omega), hrd]
    rw [show impl_nextTo.f l (cellP p).f0 (cellP p).f1 = some ((nbP l p).map cellP) from e]
    simp only [Option.bind_some, List.length_map]
    have hnl := nb_len l p
    refine icoast_l1 hg cs _ i (by omega) _ (nbP l p) (nb_ok hg hp) (by omega) (nbP l p).length 0 n (by omega) h0 (by omega) ?_
    rw [List.drop_zero]
    rw [hcc] at h4
    have := ih (i + 1) (n + (seaSum l (nbP l p) : Int)) (by omega) (by omega) (by omega)
    rw [show ((i + 1 : Nat) : Int) = (i : Int) + 1 by omega] at this
    exact this
/-- A south neighbour, told by the last test. -/
theorem scoast_cell {l : List ByteArray} (hg : gridB l = true) (c : Int) {i k : Nat} (hok : okP l (i, k)) (hb : byteP l (i, k) = c) (n R : Int) (h0 : 0 ≤ n) (h1 : n ≤ 100000) (h : Ev (fun k_ => spec_l12Coast.l1 k_ l c (n + (seaSum l (nbP l (i, k)) : Int)) (wideL l) i ((k : Int) + 1)) R) : Ev (fun k_ => spec_l12Coast.l1 k_ l c n (wideL l) i k) R := by
  obtain ⟨g1, g2, g3⟩ := grid_facts hg
  have hw := wide_bdI hg
  have hi : i < l.length := hok.1
  have hk : k < wideL l := hok.2
  have hsz := row_sizeI hg i hi
  have hsz1 := row_sizeI hg (i - 1) (by omega)
  have hm1 := Nat.mod_lt (k + 1) (show 0 < wideL l by omega)
  have hm2 := Nat.mod_lt (k + (wideL l - 1)) (show 0 < wideL l by omega)
  have ve := sea_val (l := l) (i, (k + 1) % wideL l)
  have vw := sea_val (l := l) (i, (k + (wideL l - 1)) % wideL l)
  have vn := sea_val (l := l) (i - 1, k)
  have vs := sea_val (l := l) (i + 1, k)
  have e : seaSum l (nbP l (i, k)) = seaP l (i, (k + 1) % wideL l) + (seaP l (i, (k + (wideL l - 1)) % wideL l) + ((if 0 < i then seaP l (i - 1, k) else 0) + (if i + 1 < l.length then seaP l (i + 1, k) else 0))) := by
    unfold nbP
    by_cases c1 : 0 < i
    · by_cases c2 : i + 1 < l.length
      · simp only [if_pos c1, if_pos c2]; rfl
      · simp only [if_pos c1, if_neg c2]; rfl
    · by_cases c2 : i + 1 < l.length
      · simp only [if_neg c1, if_pos c2]; simp [seaSum]
      · simp only [if_neg c1, if_neg c2]; rfl
  rw [e] at h
  -- the last test
  have last : ∀ (m : Int) (b : Bool), 0 ≤ m → m ≤ 100010 → Ev (fun k_ => spec_l12Coast.l1 k_ l c (m + (if b = true then 1 else 0) + ((if i + 1 < l.length then seaP l (i + 1, k) else 0 : Nat) : Int)) (wideL l) i ((k : Int) + 1)) R → Ev (fun k_ => spec_l12Coast.j4 k_ l c m (wideL l) i k b) R := by
    intro m b m0 m1 h
    apply ev_succ
    by_cases c2 : i + 1 < l.length
    · have hsz2 := row_sizeI hg (i + 1) c2
      have hb2 : bt (rdOf ByteArray.empty l ((i : Int) + 1)) (k : Int) = byteP l (i + 1, k) := rfl
      have hsz3 : (rdOf ByteArray.empty l ((i : Int) + 1)).size = wideL l := hsz2
      rw [if_pos c2] at h
      cases b with
      | true =>
        simp only [if_true] at h
        simp only [spec_l12Coast.j4, if_true, w64 (x := (i : Int) + 1) (by omega) (by omega), w64 (x := (k : Int) + 1) (by omega) (by omega), w64 (x := m + 1) (by omega) (by omega), w64 (x := m + 1 + 1) (by omega) (by omega), if_pos (show (i : Int) + 1 < (l.length : Int) by omega), if_pos (show (0 : Int) ≤ (i : Int) + 1 by omega), if_pos (show (0 : Int) ≤ (k : Int) by omega), hsz3, if_pos (show (k : Int) < (wideL l : Int) by omega), hb2]
        rcases vs with ⟨v1, v2⟩ | ⟨v1, v2⟩
        · rw [v2] at h
          simp only [if_pos v1]
          exact h
        · rw [v2, show m + 1 + ((0 : Nat) : Int) = m + 1 by omega] at h
          simp only [if_neg v1]
          exact h
      | false =>
        simp only [Bool.false_eq_true, if_false] at h
        simp only [spec_l12Coast.j4, Bool.false_eq_true, if_false, w64 (x := (i : Int) + 1) (by omega) (by omega), w64 (x := (k : Int) + 1) (by omega) (by omega), w64 (x := m + 1) (by omega) (by omega), if_pos (show (i : Int) + 1 < (l.length : Int) by omega), if_pos (show (0 : Int) ≤ (i : Int) + 1 by omega), if_pos (show (0 : Int) ≤ (k : Int) by omega), hsz3, if_pos (show (k : Int) < (wideL l : Int) by omega), hb2]
        rcases vs with ⟨v1, v2⟩ | ⟨v1, v2⟩
        · rw [v2, show m + 0 + ((1 : Nat) : Int) = m + 1 by omega] at h
          simp only [if_pos v1]
          exact h
        · rw [v2, show m + 0 + ((0 : Nat) : Int) = m by omega] at h
          simp only [if_neg v1]
          exact h
    · rw [if_neg c2] at h
      cases b with
      | true =>
        simp only [if_true] at h
        rw [show m + 1 + ((0 : Nat) : Int) = m + 1 by omega] at h
        simp only [spec_l12Coast.j4, if_true, w64 (x := (i : Int) + 1) (by omega) (by omega), w64 (x := (k : Int) + 1) (by omega) (by omega), w64 (x := m + 1) (by omega) (by omega), if_neg (show ¬ (i : Int) + 1 < (l.length : Int) by omega)]
        exact h
      | false =>
        simp only [Bool.false_eq_true, if_false] at h
        rw [show m + 0 + ((0 : Nat) : Int) = m by omega] at h
        simp only [spec_l12Coast.j4, Bool.false_eq_true, if_false, w64 (x := (i : Int) + 1) (by omega) (by omega), w64 (x := (k : Int) + 1) (by omega) (by omega), if_neg (show ¬ (i : Int) + 1 < (l.length : Int) by omega)]
        exact h
  -- the north
  have north : ∀ (m : Int), 0 ≤ m → m ≤ 100010 → Ev (fun k_ => spec_l12Coast.l1 k_ l c (m + ((if 0 < i then seaP l (i - 1, k) else 0 : Nat) : Int) + ((if i + 1 < l.length then seaP l (i + 1, k) else 0 : Nat) : Int)) (wideL l) i ((k : Int) + 1)) R → Ev (fun k_ => spec_l12Coast.j3 k_ l c m (wideL l) i k) R := by
    intro m m0 m1 h
    apply ev_succ
    by_cases c1 : 0 < i
    · have hi1 : (i : Int) - 1 = ((i - 1 : Nat) : Int) := by omega
      have hb1 : bt (rdOf ByteArray.empty l ((i - 1 : Nat) : Int)) (k : Int) = byteP l (i - 1, k) := rfl
      rw [if_pos c1] at h
      simp only [spec_l12Coast.j3, if_pos (show (i : Int) > 0 by omega), show wrap64 ((i : Int) - 1) = ((i - 1 : Nat) : Int) from (w64 (by omega) (by omega)).trans hi1, if_pos (show (0 : Int) ≤ ((i - 1 : Nat) : Int) by omega), if_pos (show ((i - 1 : Nat) : Int) < (l.length : Int) by omega), if_pos (show (0 : Int) ≤ (k : Int) by omega), hsz1, if_pos (show (k : Int) < (wideL l : Int) by omega), hb1]
      refine last m _ m0 m1 ?_
      rcases vn with ⟨v1, v2⟩ | ⟨v1, v2⟩
      · rw [v2] at h
        rw [beq_iff_eq.2 v1, if_pos rfl]
        exact h
      · rw [v2] at h
        rw [beq_eq_false_iff_ne.2 v1, if_neg (by simp)]
        exact h
    · rw [if_neg c1] at h
      simp only [spec_l12Coast.j3, if_neg (show ¬ (i : Int) > 0 by omega)]
      refine last m _ m0 m1 ?_
      rw [if_neg (by simp)]
      exact h
  -- the west
  have west : ∀ (m : Int), 0 ≤ m → m ≤ 100005 → Ev (fun k_ => spec_l12Coast.l1 k_ l c (m + (seaP l (i, (k + (wideL l - 1)) % wideL l) : Int) + ((if 0 < i then seaP l (i - 1, k) else 0 : Nat) : Int) + ((if i + 1 < l.length then seaP l (i + 1, k) else 0 : Nat) : Int)) (wideL l) i ((k : Int) + 1)) R → Ev (fun k_ => spec_l12Coast.j2 k_ l c m (wideL l) i k) R := by
    intro m m0 m1 h
    apply ev_succ
    have hbw : bt (rdOf ByteArray.empty l (i : Int)) (((k + (wideL l - 1)) % wideL l : Nat) : Int) = byteP l (i, (k + (wideL l - 1)) % wideL l) := rfl
    simp only [spec_l12Coast.j2, if_pos (show (0 : Int) ≤ (i : Int) by omega), if_pos (show (i : Int) < (l.length : Int) by omega), if_neg (show ¬ (wideL l : Int) = 0 by omega), west_val (show wideL l ≤ 1000 by omega) hw.1 hk, if_pos (show (0 : Int) ≤ (((k + (wideL l - 1)) % wideL l : Nat) : Int) by omega), hsz, if_pos (show (((k + (wideL l - 1)) % wideL l : Nat) : Int) < (wideL l : Int) by omega), hbw, w64 (x := m + 1) (by omega) (by omega)]
    rcases vw with ⟨v1, v2⟩ | ⟨v1, v2⟩
    · rw [v2] at h
      simp only [if_pos v1]
      exact north (m + 1) (by omega) (by omega) h
    · rw [v2, show m + ((0 : Nat) : Int) = m by omega] at h
      simp only [if_neg v1]
      exact north m m0 (by omega) h
  apply ev_succ
  have hbe : bt (rdOf ByteArray.empty l (i : Int)) (((k + 1) % wideL l : Nat) : Int) = byteP l (i, (k + 1) % wideL l) := rfl
  have hbb : bt (rdOf ByteArray.empty l (i : Int)) (k : Int) = c := hb
  simp only [spec_l12Coast.l1, if_pos (show (k : Int) < (wideL l : Int) by omega), if_pos (show (0 : Int) ≤ (i : Int) by omega), if_pos (show (i : Int) < (l.length : Int) by omega), if_pos (show (0 : Int) ≤ (k : Int) by omega), hsz, hbb, if_true, spec_l12East.f, if_neg (show ¬ (wideL l : Int) = 0 by omega), eastT_val (show wideL l ≤ 1000 by omega) hw.1 hk, if_pos (show (0 : Int) ≤ (((k + 1) % wideL l : Nat) : Int) by omega), if_pos (show (((k + 1) % wideL l : Nat) : Int) < (wideL l : Int) by omega), hbe, Option.bind_some, w64 (x := n + 1) (by omega) (by omega)]
  rcases ve with ⟨v1, v2⟩ | ⟨v1, v2⟩
  · rw [v2] at h
    simp only [if_pos v1]
    refine west (n + 1) (by omega) (by omega) ?_
    rw [show n + 1 + (seaP l (i, (k + (wideL l - 1)) % wideL l) : Int) + ((if 0 < i then seaP l (i - 1, k) else 0 : Nat) : Int) + ((if i + 1 < l.length then seaP l (i + 1, k) else 0 : Nat) : Int) = n + ((1 + (seaP l (i, (k + (wideL l - 1)) % wideL l) + ((if 0 < i then seaP l (i - 1, k) else 0) + (if i + 1 < l.length then seaP l (i + 1, k) else 0))) : Nat) : Int) by push_cast; omega]
    exact h
  · rw [v2] at h
    simp only [if_neg v1]
    refine west n h0 (by omega) ?_
    rw [show n + (seaP l (i, (k + (wideL l - 1)) % wideL l) : Int) + ((if 0 < i then seaP l (i - 1, k) else 0 : Nat) : Int) + ((if i + 1 < l.length then seaP l (i + 1, k) else 0 : Nat) : Int) = n + ((0 + (seaP l (i, (k + (wideL l - 1)) % wideL l) + ((if 0 < i then seaP l (i - 1, k) else 0) + (if i + 1 < l.length then seaP l (i + 1, k) else 0))) : Nat) : Int) by push_cast; omega]
    exact h
theorem scoast_row {l : List ByteArray} (hg : gridB l = true) (c : Int) (i : Nat) (hi : i < l.length) (rest : List S61) (hrest : ∀ n : Int, 0 ≤ n → n ≤ 4 * (32 * ((i : Int) + 1)) → Ev (fun k => spec_l12Coast.l0 k l c n (wideL l) ((i : Int) + 1)) (n + (coastS l rest : Int))) (d : Nat) : ∀ (k : Nat) (n : Int), k + d = wideL l → 0 ≤ n → n ≤ 4 * (32 * (i : Int) + (k : Int)) → Ev (fun k_ => spec_l12Coast.l1 k_ l c n (wideL l) i k) (n + (coastS l (cellsR i c k (l[i].data.toList.drop k) ++ rest) : Int)) := by
  obtain ⟨g1, g2, g3⟩ := grid_facts hg
  have hw := wide_bdI hg
  have hsz := row_sizeI hg i hi
  have hsz2 : l[i].size = wideL l := (g3 _ (List.getElem_mem hi)).1
  induction d with
  | zero =>
    intro k n hk h0 h1
    rw [List.drop_eq_nil_of_le (by rw [dsize]; omega)]
    apply ev_succ
    simp only [spec_l12Coast.l1, if_neg (show ¬ (k : Int) < (wideL l : Int) by omega), w64 (x := (i : Int) + 1) (by omega) (by omega)]
    exact hrest n h0 (by omega)
  | succ d ih =>
    intro k n hk h0 h1
    have hkW : k < wideL l := by omega
    have hok : okP l (i, k) := ⟨hi, hkW⟩
    have hb2 : k < l[i].data.toList.length := by rw [dsize]; omega
    have hbyte : byteP l (i, k) = ((l[i].data.toList[k]).toNat : Int) := by
      show bt (rdOf ByteArray.empty l (i : Int)) (k : Int) = _
      rw [rdOf_at _ _ _ hi, bt_at _ _ (by omega)]
    rw [List.drop_eq_getElem_cons hb2]
    by_cases hc : ((l[i].data.toList[k]).toNat : Int) = c
    · have hcell : cellsR i c k (l[i].data.toList[k] :: l[i].data.toList.drop (k + 1)) = cellP (i, k) :: cellsR i c ((k + 1 : Nat) : Int) (l[i].data.toList.drop (k + 1)) := by
        show (if _ then _ else _) = _
        simp only [if_pos hc]
        rfl
      rw [hcell, List.cons_append]
      have h4 := coastC_le l (cellP (i, k))
      have := ih (k + 1) (n + (coastC l (cellP (i, k)) : Int)) (by omega) (by omega) (by omega)
      refine scoast_cell hg c hok (by rw [hbyte]; exact hc) n _ h0 (by omega) ?_
      rw [show n + ((coastS l (cellP (i, k) :: (cellsR i c ((k + 1 : Nat) : Int) (l[i].data.toList.drop (k + 1)) ++ rest)) : Nat) : Int) = n + (coastC l (cellP (i, k)) : Int) + (coastS l (cellsR i c ((k + 1 : Nat) : Int) (l[i].data.toList.drop (k + 1)) ++ rest) : Int) by
        show n + ((coastC l (cellP (i, k)) + coastS l _ : Nat) : Int) = _
        omega]
      exact this
    · have hcell : cellsR i c k (l[i].data.toList[k] :: l[i].data.toList.drop (k + 1)) = cellsR i c ((k + 1 : Nat) : Int) (l[i].data.toList.drop (k + 1)) := by
        show (if _ then _ else _) = _
        simp only [if_neg hc]
        rfl
      rw [hcell]
      have := ih (k + 1) n (by omega) h0 (by omega)
      have hne : ¬ bt (rdOf ByteArray.empty l (i : Int)) (k : Int) = c := by
        intro e_
        exact hc (by rw [← hbyte]; exact e_)
      apply ev_succ
      simp only [spec_l12Coast.l1, if_pos (show (k : Int) < (wideL l : Int) by omega), if_pos (show (0 : Int) ≤ (i : Int) by omega), if_pos (show (i : Int) < (l.length : Int) by omega), if_pos (show (0 : Int) ≤ (k : Int) by omega), hsz, if_neg hne, w64 (x := (k : Int) + 1) (by omega) (by omega)]
      exact this
theorem scoast_l0 {l : List ByteArray} (hg : gridB l = true) (c : Int) (d : Nat) : ∀ (i : Nat) (n : Int), i + d = l.length → 0 ≤ n → n ≤ 4 * (32 * (i : Int)) → Ev (fun k => spec_l12Coast.l0 k l c n (wideL l) i) (n + (coastS l (cellsG c i (l.drop i)) : Int)) := by
  obtain ⟨g1, g2, g3⟩ := grid_facts hg
  induction d with
  | zero =>
    intro i n hi h0 h1
    rw [List.drop_eq_nil_of_le (by omega)]
    apply ev_succ
    simp only [spec_l12Coast.l0, if_neg (show ¬ (i : Int) < (l.length : Int) by omega)]
    exact ev_const (by show some n = some (n + 0); rw [Int.add_zero])
  | succ d ih =>
    intro i n hi h0 h1
    have hlt : i < l.length := by omega
    have := scoast_row hg c i hlt _ (fun n h0 h1 => ih (i + 1) n (by omega) h0 (by omega)) (wideL l) 0 n (by omega) h0 (by omega)
    rw [List.drop_zero] at this
    rw [List.drop_eq_getElem_cons hlt]
    apply ev_succ
    simp only [spec_l12Coast.l0, if_pos (show (i : Int) < (l.length : Int) by omega)]
    exact this
theorem coast_same {l : List ByteArray} (hg : gridB l = true) (c : Int) : Ev (fun k => impl_coastOf.f k l c) (coastS l (cellsG c 0 l) : Int) ∧ Ev (fun k => spec_l12Coast.f k l c) (coastS l (cellsG c 0 l) : Int) ∧ coastS l (cellsG c 0 l) ≤ 4 * cntG c l := by
  obtain ⟨g1, g2, g3⟩ := grid_facts hg
  have hle := coastS_le l (cellsG c 0 l)
  rw [cellsG_length] at hle
  have hcl := cntG_leI (l := l) c (fun r hr => (g3 r hr).2.2.1)
  refine ⟨?_, ?_, hle⟩
  · unfold impl_coastOf.f
    refine Ev.bind (cells_ev l (by omega) (fun y hy => by have := g3 y hy; omega) c) ?_
    have hok := cellsG_ok hg c l.length 0 (by omega)
    rw [List.drop_zero] at hok
    have := icoast_l0 hg (cellsG c 0 l) hok (by rw [cellsG_length]; omega) _ 0 0 (Nat.zero_add _) (Int.le_refl _) (by omega)
    rw [List.drop_zero, Int.zero_add] at this
    exact this
  · unfold spec_l12Coast.f
    have := scoast_l0 hg c l.length 0 0 (by omega) (Int.le_refl _) (by omega)
    rw [List.drop_zero, Int.zero_add] at this
    simp only [if_pos (show 0 < (l.length : Int) by omega)]
    exact this
/-! ### A land that is given away -/
theorem grid_of {l : List ByteArray} (n : Nat) (h1 : 1 ≤ l.length) (h2 : l.length ≤ 16) (h3 : 1 ≤ n) (h4 : n ≤ 32) (h : ∀ r ∈ l, r.size = n ∧ r.data.toList.all cellB = true) : gridB l = true := by
  have e : wideL l = n := by
    show (rdOf ByteArray.empty l ((0 : Nat) : Int)).size = n
    rw [rdOf_at _ _ _ (show 0 < l.length by omega)]
    exact (h _ (List.getElem_mem _)).1
  unfold gridB
  simp only [Bool.and_eq_true, decide_eq_true_eq, List.all_eq_true, rowB]
  refine ⟨⟨h1, h2⟩, fun r hr => ?_⟩
  obtain ⟨h5, h6⟩ := h r hr
  rw [e]
  exact ⟨⟨h5, by omega, by omega⟩, fun b hb => List.all_eq_true.1 h6 b hb⟩
def RchN (l : List ByteArray) (c : Int) : Nat → Nat × Nat → Nat × Nat → Prop
  | 0, p, q => p = q
  | n + 1, p, r => ∃ q, RchN l c n p q ∧ r ∈ nbP l q ∧ byteP l r = c
def Rch (l : List ByteArray) (c : Int) (p q : Nat × Nat) : Prop := ∃ n, RchN l c n p q
theorem rch_refl (l : List ByteArray) (c : Int) (p : Nat × Nat) : Rch l c p p := ⟨0, rfl⟩
theorem rch_step {l : List ByteArray} {c : Int} {p q r : Nat × Nat} (h : Rch l c p q) (hn : r ∈ nbP l q) (hb : byteP l r = c) : Rch l c p r := by
  obtain ⟨n, h⟩ := h
  exact ⟨n + 1, q, h, hn, hb⟩
theorem rchN_trans {l : List ByteArray} {c : Int} {p q : Nat × Nat} (h : Rch l c p q) : ∀ (n : Nat) (r : Nat × Nat), RchN l c n q r → Rch l c p r
  | 0, r, h2 => by
    have h2 : q = r := h2
    rw [← h2]
    exact h
  | n + 1, r, h2 => by
    obtain ⟨s, h3, h4, h5⟩ := h2
    exact rch_step (rchN_trans h n s h3) h4 h5
theorem rch_trans {l : List ByteArray} {c : Int} {p q r : Nat × Nat} (h : Rch l c p q) (h2 : Rch l c q r) : Rch l c p r := by
  obtain ⟨n, h2⟩ := h2
  exact rchN_trans h n r h2
theorem nb_sym {l : List ByteArray} (hg : gridB l = true) {p q : Nat × Nat} (hp : okP l p) (hq : q ∈ nbP l p) : p ∈ nbP l q := by
  have hw := wide_bdI hg
  obtain ⟨i, m⟩ := p
  obtain ⟨h1, h2⟩ := hp
  dsimp only at h1 h2
  unfold nbP at hq ⊢
  simp only [List.mem_cons, List.mem_append] at hq ⊢
  rcases hq with rfl | rfl | hq | hq
  · refine Or.inr (Or.inl ?_)
    dsimp only
    rw [show (m + 1) % wideL l + (wideL l - 1) = (m + 1) % wideL l + wideL l - 1 by omega, west_east h2]
  · refine Or.inl ?_
    dsimp only
    rw [show m + (wideL l - 1) = m + wideL l - 1 by omega, east_west h2]
  · split at hq
    · rename_i h0
      rw [List.mem_singleton] at hq
      subst hq
      refine Or.inr (Or.inr (Or.inr ?_))
      dsimp only
      rw [if_pos (show i - 1 + 1 < l.length by omega), show i - 1 + 1 = i by omega]
      exact List.mem_singleton.2 rfl
    · cases hq
  · split at hq
    · rename_i h0
      rw [List.mem_singleton] at hq
      subst hq
      refine Or.inr (Or.inr (Or.inl ?_))
      dsimp only
      rw [if_pos (show 0 < i + 1 by omega), show i + 1 - 1 = i by omega]
      exact List.mem_singleton.2 rfl
    · cases hq
theorem rchN_back {l : List ByteArray} (hg : gridB l = true) {c : Int} {p : Nat × Nat} (hp : okP l p) (hb : byteP l p = c) : ∀ (n : Nat) (q : Nat × Nat), RchN l c n p q → okP l q ∧ byteP l q = c ∧ Rch l c q p
  | 0, q, h => by
    have h : p = q := h
    subst h
    exact ⟨hp, hb, rch_refl _ _ _⟩
  | n + 1, r, h => by
    obtain ⟨q, h1, h2, h3⟩ := h
    obtain ⟨i1, i2, i3⟩ := rchN_back hg hp hb n q h1
    have hr := nb_ok hg i1 r h2
    exact ⟨hr, h3, rch_trans (rch_step (rch_refl l c r) (nb_sym hg i1 h2) i2) i3⟩
theorem rch_symm {l : List ByteArray} (hg : gridB l = true) {c : Int} {p q : Nat × Nat} (hp : okP l p) (hb : byteP l p = c) (h : Rch l c p q) : Rch l c q p := by
  obtain ⟨n, h⟩ := h
  exact (rchN_back hg hp hb n q h).2.2
theorem len_le {α β : Type} (R : α → β → Prop) : ∀ (A : List α) (B : List β), (∀ a ∈ A, ∃ b ∈ B, R a b) → A.Pairwise (fun a a' => ∀ b, R a b → ¬ R a' b) → A.length ≤ B.length
  | [], B, _, _ => Nat.zero_le _
  | a :: A, B, h, hp => by
    obtain ⟨b, hb, hab⟩ := h a List.mem_cons_self
    obtain ⟨h1, h2⟩ := List.pairwise_cons.1 hp
    obtain ⟨B1, B2, rfl⟩ := List.append_of_mem hb
    have := len_le R A (B1 ++ B2) (fun a' ha' => by
      obtain ⟨b', hb', hr⟩ := h a' (List.mem_cons_of_mem _ ha')
      refine ⟨b', ?_, hr⟩
      rcases List.mem_append.1 hb' with q | q
      · exact List.mem_append.2 (Or.inl q)
      · rcases List.mem_cons.1 q with q | q
        · subst q
          exact absurd hr (h1 a' ha' _ hab)
        · exact List.mem_append.2 (Or.inr q)) h2
    rw [List.length_append] at this
    rw [List.length_append, List.length_cons, List.length_cons]
    omega
/-- One cell of each part. -/
def RepsOf (l : List ByteArray) (c : Int) (R : List (Nat × Nat)) : Prop := (∀ p ∈ R, okP l p ∧ byteP l p = c) ∧ R.Pairwise (fun p q => ¬ Rch l c p q) ∧ ∀ p, okP l p → byteP l p = c → ∃ r ∈ R, Rch l c r p
theorem ptN_facts {l : List ByteArray} {c : Int} : ∀ (ps : List (Nat × Nat)) (S : List (Int × Int)) (L : List S61) (S' : List (Int × Int)) (L' : List S61), ptN l c (ps.map cellP) S L = some (S', L') →
    ∃ N : List (Nat × Nat), L' = L ++ N.map cellP ∧ (∀ q ∈ N, q ∈ ps ∧ byteP l q = c) ∧ (∀ s, s ∈ S' ↔ s ∈ S ∨ ∃ q ∈ N, s = castP q) ∧ ∀ q ∈ ps, byteP l q = c → castP q ∈ S'
  | [], S, L, S', L', h => by
    obtain ⟨rfl, rfl⟩ := Prod.mk.inj (Option.some.inj (show some (S, L) = some (S', L') from h))
    exact ⟨[], by simp, by simp, by simp, by simp⟩
  | p :: ps, S, L, S', L', h => by
    rw [List.map_cons] at h
    unfold ptN at h
    split at h
    · split at h
      · rename_i h1 h2
        split at h
        · obtain ⟨N, i1, i2, i3, i4⟩ := ptN_facts ps _ _ _ _ h
          have hin : castP p ∈ S' := (i3 _).2 (Or.inl List.mem_cons_self)
          refine ⟨p :: N, ?_, fun q hq => ?_, fun s => ?_, fun q hq hb => ?_⟩
          · rw [i1, List.append_assoc]
            rfl
          · rcases List.mem_cons.1 hq with rfl | hq
            · exact ⟨List.mem_cons_self, h2.1⟩
            · exact ⟨List.mem_cons_of_mem _ (i2 q hq).1, (i2 q hq).2⟩
          · rw [i3]
            constructor
            · rintro (h | ⟨q, hq, rfl⟩)
              · rcases List.mem_cons.1 h with h | h
                · exact Or.inr ⟨p, List.mem_cons_self, h⟩
                · exact Or.inl h
              · exact Or.inr ⟨q, List.mem_cons_of_mem _ hq, rfl⟩
            · rintro (h | ⟨q, hq, rfl⟩)
              · exact Or.inl (List.mem_cons_of_mem _ h)
              · rcases List.mem_cons.1 hq with rfl | hq
                · exact Or.inl List.mem_cons_self
                · exact Or.inr ⟨q, hq, rfl⟩
          · rcases List.mem_cons.1 hq with rfl | hq
            · exact hin
            · exact i4 q hq hb
        · cases h
      · rename_i h1 h2
        obtain ⟨N, i1, i2, i3, i4⟩ := ptN_facts ps _ _ _ _ h
        refine ⟨N, i1, fun q hq => ⟨List.mem_cons_of_mem _ (i2 q hq).1, (i2 q hq).2⟩, i3, fun q hq hb => ?_⟩
        rcases List.mem_cons.1 hq with rfl | hq
        · refine (i3 _).2 (Or.inl ?_)
          by_cases hm : castP q ∈ S
          · exact hm
          · exact absurd ⟨hb, hm⟩ h2
        · exact i4 q hq hb
    · cases h
/-- All that is next to what was reached was reached. -/
def Closed (l : List ByteArray) (c : Int) (S : List (Int × Int)) : Prop := ∀ p, okP l p → castP p ∈ S → ∀ q ∈ nbP l p, byteP l q = c → castP q ∈ S
theorem closed_rch {l : List ByteArray} (hg : gridB l = true) {c : Int} {S : List (Int × Int)} (h : Closed l c S) {p : Nat × Nat} (hp : okP l p) (hb : byteP l p = c) (hm : castP p ∈ S) : ∀ (n : Nat) (q : Nat × Nat), RchN l c n p q → castP q ∈ S
  | 0, q, hq => by
    have hq : p = q := hq
    rw [← hq]
    exact hm
  | n + 1, r, hr => by
    obtain ⟨q, h1, h2, h3⟩ := hr
    exact h q (rchN_back hg hp hb n q h1).1 (closed_rch hg h hp hb hm n q h1) r h2 h3
theorem ptL_facts {l : List ByteArray} (hg : gridB l = true) {c : Int} : ∀ (k : Nat) (S : List (Int × Int)) (L : List (Nat × Nat)) (S' : List (Int × Int)), (∀ p ∈ L, okP l p) → ptL l c k S (L.map cellP) = some S' → (∀ p, okP l p → castP p ∈ S → p ∈ L ∨ ∀ q ∈ nbP l p, byteP l q = c → castP q ∈ S) →
    (∀ s ∈ S, s ∈ S') ∧ Closed l c S' ∧ ∀ p, castP p ∈ S' → castP p ∈ S ∨ ∃ r ∈ L, Rch l c r p
  | 0, S, L, S', _, h, _ => by cases h
  | k + 1, S, [], S', hL, h, hI => by
    obtain rfl : S = S' := Option.some.inj h
    refine ⟨fun s hs => hs, fun p hp hm => ?_, fun p hm => Or.inl hm⟩
    rcases hI p hp hm with h | h
    · cases h
    · exact h
  | k + 1, S, p :: L, S', hL, h, hI => by
    have hp := hL p List.mem_cons_self
    have e := nextto_val hg hp
    rw [List.map_cons] at h
    unfold ptL at h
    rw [show impl_nextTo.f l (cellP p).f0 (cellP p).f1 = some ((nbP l p).map cellP) from e, Option.bind_some] at h
    obtain ⟨⟨S1, L1⟩, h1, h2⟩ := Option.bind_eq_some_iff.1 h
    obtain ⟨N, i1, i2, i3, i4⟩ := ptN_facts _ _ _ _ _ h1
    have hN : ∀ q ∈ N, okP l q := fun q hq => nb_ok hg hp q (i2 q hq).1
    have h3 : ptL l c k S1 ((L ++ N).map cellP) = some S' := by
      rw [List.map_append, ← i1]
      exact h2
    obtain ⟨j1, j2, j3⟩ := ptL_facts hg k S1 (L ++ N) S' (fun q hq => (List.mem_append.1 hq).elim (fun h => hL q (List.mem_cons_of_mem _ h)) (hN q)) h3 (fun q hq hm => by
      rcases (i3 _).1 hm with hm | ⟨q2, hq2, he⟩
      · rcases hI q hq hm with h | h
        · rcases List.mem_cons.1 h with rfl | h
          · exact Or.inr i4
          · exact Or.inl (List.mem_append.2 (Or.inl h))
        · exact Or.inr (fun r hr hb => (i3 _).2 (Or.inl (h r hr hb)))
      · rw [cast_inj he]
        exact Or.inl (List.mem_append.2 (Or.inr hq2)))
    refine ⟨fun s hs => j1 s ((i3 s).2 (Or.inl hs)), j2, fun q hm => ?_⟩
    have viaN : ∀ r ∈ N, Rch l c p r := fun r hr => rch_step (rch_refl l c p) (i2 r hr).1 (i2 r hr).2
    rcases j3 q hm with h | ⟨r, hr, h⟩
    · rcases (i3 _).1 h with h | ⟨q2, hq2, he⟩
      · exact Or.inl h
      · rw [cast_inj he]
        exact Or.inr ⟨p, List.mem_cons_self, viaN q2 hq2⟩
    · rcases List.mem_append.1 hr with hr | hr
      · exact Or.inr ⟨r, List.mem_cons_of_mem _ hr, h⟩
      · exact Or.inr ⟨p, List.mem_cons_self, rch_trans (viaN r hr) h⟩
theorem ptC_facts {l : List ByteArray} (hg : gridB l = true) {c : Int} (k : Nat) : ∀ (cs : List (Nat × Nat)) (S : List (Int × Int)) (m r : Int), (∀ p ∈ cs, okP l p ∧ byteP l p = c) → ptC l c k (cs.map cellP) S m = some r → Closed l c S → 0 ≤ m → m + (cs.length : Int) ≤ 1000000 →
    ∃ R : List (Nat × Nat), r = m + (R.length : Int) ∧ (∀ p ∈ R, p ∈ cs ∧ castP p ∉ S) ∧ R.Pairwise (fun p q => ¬ Rch l c p q) ∧ ∀ p ∈ cs, castP p ∈ S ∨ ∃ q ∈ R, Rch l c q p
  | [], S, m, r, _, h, _, _, _ => by
    obtain rfl : m = r := Option.some.inj h
    exact ⟨[], by simp, by simp, by simp, by simp⟩
  | p :: cs, S, m, r, hcs, h, hC, h0, h1 => by
    obtain ⟨hp, hb⟩ := hcs p List.mem_cons_self
    rw [List.length_cons] at h1
    rw [List.map_cons] at h
    unfold ptC at h
    split at h
    · split at h
      · rename_i hm
        obtain ⟨R, i1, i2, i3, i4⟩ := ptC_facts hg k cs S m r (fun q hq => hcs q (List.mem_cons_of_mem _ hq)) h hC h0 (by omega)
        refine ⟨R, i1, fun q hq => ⟨List.mem_cons_of_mem _ (i2 q hq).1, (i2 q hq).2⟩, i3, fun q hq => ?_⟩
        rcases List.mem_cons.1 hq with rfl | hq
        · exact Or.inl hm
        · exact i4 q hq
      · rename_i hm
        obtain ⟨S1, e1, e2⟩ := Option.bind_eq_some_iff.1 h
        obtain ⟨j1, j2, j3⟩ := ptL_facts hg k (castP p :: S) [p] S1 (fun q hq => by rw [List.mem_singleton.1 hq]; exact hp) e1 (fun q hq hmq => by
          rcases List.mem_cons.1 hmq with h | h
          · rw [cast_inj h]
            exact Or.inl (List.mem_singleton.2 rfl)
          · exact Or.inr (fun r hr hbr => List.mem_cons_of_mem _ (hC q hq h r hr hbr)))
        rw [w64 (x := m + 1) (by omega) (by omega)] at e2
        obtain ⟨R, i1, i2, i3, i4⟩ := ptC_facts hg k cs S1 (m + 1) r (fun q hq => hcs q (List.mem_cons_of_mem _ hq)) e2 j2 (by omega) (by omega)
        have hin : castP p ∈ S1 := j1 _ List.mem_cons_self
        refine ⟨p :: R, by rw [List.length_cons]; omega, fun q hq => ?_, List.pairwise_cons.2 ⟨fun q hq => ?_, i3⟩, fun q hq => ?_⟩
        · rcases List.mem_cons.1 hq with rfl | hq
          · exact ⟨List.mem_cons_self, hm⟩
          · exact ⟨List.mem_cons_of_mem _ (i2 q hq).1, fun h => (i2 q hq).2 (j1 _ (List.mem_cons_of_mem _ h))⟩
        · rintro ⟨n, hr⟩
          exact (i2 q hq).2 (closed_rch hg j2 hp hb hin n q hr)
        · rcases List.mem_cons.1 hq with rfl | hq
          · exact Or.inr ⟨q, List.mem_cons_self, rch_refl _ _ _⟩
          · rcases i4 q hq with h | ⟨q2, hq2, h⟩
            · rcases j3 q h with h | ⟨q3, hq3, h⟩
              · rcases List.mem_cons.1 h with h | h
                · rw [cast_inj h]
                  exact Or.inr ⟨p, List.mem_cons_self, rch_refl _ _ _⟩
                · exact Or.inl h
              · rw [List.mem_singleton.1 hq3] at h
                exact Or.inr ⟨p, List.mem_cons_self, h⟩
            · exact Or.inr ⟨q2, List.mem_cons_of_mem _ hq2, h⟩
    · cases h
theorem cells_pairs {l : List ByteArray} (hg : gridB l = true) (c : Int) : ∃ ps : List (Nat × Nat), cellsG c 0 l = ps.map cellP ∧ ∀ p, p ∈ ps ↔ okP l p ∧ byteP l p = c := by
  refine ⟨(cellsG c 0 l).map (fun x => (x.f0.toNat, x.f1.toNat)), ?_, fun p => ?_⟩
  · rw [List.map_map]
    conv => lhs; rw [← List.map_id (cellsG c 0 l)]
    apply List.map_congr_left
    intro x hx
    obtain ⟨i, m, _, _, _, rfl⟩ := (mem_cells hg c x).1 hx
    rfl
  · rw [List.mem_map]
    constructor
    · rintro ⟨x, hx, rfl⟩
      obtain ⟨i, m, h1, h2, h3, rfl⟩ := (mem_cells hg c x).1 hx
      exact ⟨⟨h1, h2⟩, h3⟩
    · rintro ⟨⟨h1, h2⟩, h3⟩
      exact ⟨cellP p, (mem_cells hg c _).2 ⟨p.1, p.2, h1, h2, h3, rfl⟩, rfl⟩
theorem parts_reps {l : List ByteArray} (hg : gridB l = true) (c : Int) (r : Int) (h : Ev (fun k => impl_partsOf.f k l c) r) : ∃ R, RepsOf l c R ∧ r = (R.length : Int) := by
  obtain ⟨g1, g2, g3⟩ := grid_facts hg
  obtain ⟨K, h⟩ := h
  obtain ⟨K2, h2⟩ := cells_ev l (by omega) (fun y hy => by have := g3 y hy; omega) c
  have h := h (K + K2) (by omega)
  have h2 := h2 (K + K2) (by omega)
  unfold impl_partsOf.f at h
  have h2 : impl_cellsWith.f (K + K2) l c = some (cellsG c 0 l) := h2
  dsimp only at h
  rw [h2, Option.bind_some] at h
  have hm := cells_many hg c
  obtain ⟨ps, e, hps⟩ := cells_pairs hg c
  rw [e] at h hm
  rw [List.length_map] at hm
  obtain ⟨R, i1, i2, i3, i4⟩ := ptC_facts hg _ ps [] 0 r (fun p hp => (hps p).1 hp) h (fun p _ hp => by cases hp) (Int.le_refl _) (by omega)
  refine ⟨R, ⟨fun p hp => (hps p).1 (i2 p hp).1, i3, fun p hp hb => ?_⟩, by omega⟩
  rcases i4 p ((hps p).2 ⟨hp, hb⟩) with h | h
  · cases h
  · exact h
/-! ### A turned grid -/
theorem data_inj {a b : ByteArray} (h : a.data.toList = b.data.toList) : a = b := ByteArray.ext (Array.toList_inj.1 h)
def tB (n : Nat) (r : ByteArray) : ByteArray := (r.extract n r.size) ++ (r.extract 0 n)
def turnL (n : Nat) (l : List ByteArray) : List ByteArray := l.map (tB n)
theorem tB_list (n : Nat) (r : ByteArray) : (tB n r).data.toList = r.data.toList.drop n ++ r.data.toList.take n := by
  unfold tB
  rw [ByteArray.data_append, Array.toList_append, ByteArray.data_extract, ByteArray.data_extract, Array.toList_extract, Array.toList_extract, List.extract_eq_take_drop, List.extract_eq_take_drop, List.drop_zero, Nat.sub_zero, List.take_of_length_le (by rw [List.length_drop, dsize]; exact Nat.le_refl _)]
theorem tB_size (n : Nat) (r : ByteArray) : (tB n r).size = r.size := by
  rw [← dsize, tB_list, List.length_append, List.length_drop, List.length_take, dsize]
  omega
theorem turn_length (n : Nat) (l : List ByteArray) : (turnL n l).length = l.length := by unfold turnL; rw [List.length_map]
theorem turn_wide {l : List ByteArray} (n : Nat) (h : 1 ≤ l.length) : wideL (turnL n l) = wideL l := by
  show (rdOf ByteArray.empty (turnL n l) ((0 : Nat) : Int)).size = (rdOf ByteArray.empty l ((0 : Nat) : Int)).size
  rw [rdOf_at _ _ _ (show 0 < (turnL n l).length by rw [turn_length]; omega), rdOf_at _ _ _ (show 0 < l.length by omega)]
  unfold turnL
  rw [List.getElem_map, tB_size]
theorem turn_grid {l : List ByteArray} (hg : gridB l = true) (n : Nat) : gridB (turnL n l) = true := by
  obtain ⟨g1, g2, g3⟩ := grid_facts hg
  have hw := wide_bdI hg
  refine grid_of (wideL l) (by rw [turn_length]; exact g1) (by rw [turn_length]; exact g2) hw.1 hw.2 (fun r hr => ?_)
  obtain ⟨q, hq, rfl⟩ := List.mem_map.1 hr
  obtain ⟨h1, h2, h3, h4⟩ := g3 q hq
  refine ⟨by rw [tB_size]; exact h1, ?_⟩
  rw [tB_list, List.all_append, Bool.and_eq_true]
  exact ⟨List.all_eq_true.2 (fun z hz => List.all_eq_true.1 h4 z (List.mem_of_mem_drop hz)), List.all_eq_true.2 (fun z hz => List.all_eq_true.1 h4 z (List.mem_of_mem_take hz))⟩
theorem turn_back {l : List ByteArray} (hg : gridB l = true) {n : Nat} (hn : n < wideL l) : turnL ((wideL l - n) % wideL l) (turnL n l) = l := by
  obtain ⟨g1, g2, g3⟩ := grid_facts hg
  unfold turnL
  rw [List.map_map]
  conv => rhs; rw [← List.map_id l]
  apply List.map_congr_left
  intro r hr
  have hs : r.data.toList.length = wideL l := by rw [dsize]; exact (g3 r hr).1
  apply data_inj
  show (tB ((wideL l - n) % wideL l) (tB n r)).data.toList = r.data.toList
  rw [tB_list, tB_list]
  by_cases h0 : n = 0
  · subst h0
    rw [Nat.sub_zero, Nat.mod_self]
    simp
  · rw [Nat.mod_eq_of_lt (show wideL l - n < wideL l by omega), List.drop_left' (by rw [List.length_drop]; omega), List.take_left' (by rw [List.length_drop]; omega), List.take_append_drop]
def rhoP (W n : Nat) (p : Nat × Nat) : Nat × Nat := (p.1, (p.2 + n) % W)
theorem rho_ok {l : List ByteArray} (hg : gridB l = true) (n : Nat) {p : Nat × Nat} (hp : okP l p) : okP l (rhoP (wideL l) n p) := by
  have hw := wide_bdI hg
  exact ⟨hp.1, Nat.mod_lt _ (by omega)⟩
theorem ok_turn {l : List ByteArray} (hg : gridB l = true) (n : Nat) {p : Nat × Nat} : okP (turnL n l) p ↔ okP l p := by
  obtain ⟨g1, g2, g3⟩ := grid_facts hg
  unfold okP
  rw [turn_length, turn_wide n g1]
theorem rho_back {W n : Nat} (hn : n < W) {p : Nat × Nat} (hp : p.2 < W) : rhoP W ((W - n) % W) (rhoP W n p) = p := by
  unfold rhoP
  dsimp only
  have e : ((p.2 + n) % W + (W - n) % W) % W = p.2 := by
    rw [← Nat.add_mod, show p.2 + n + (W - n) = p.2 + W by omega, Nat.add_mod_right, Nat.mod_eq_of_lt hp]
  rw [e]
theorem byte_turn {l : List ByteArray} (hg : gridB l = true) {n : Nat} (hn : n < wideL l) {p : Nat × Nat} (hp : okP l p) : byteP (turnL n l) p = byteP l (rhoP (wideL l) n p) := by
  obtain ⟨g1, g2, g3⟩ := grid_facts hg
  obtain ⟨i, k⟩ := p
  obtain ⟨h1, h2⟩ := hp
  dsimp only at h1 h2
  have hs : (l[i]).size = wideL l := (g3 _ (List.getElem_mem h1)).1
  have hs2 : (l[i]).data.toList.length = wideL l := by rw [dsize]; exact hs
  have hm : (k + n) % wideL l < wideL l := Nat.mod_lt _ (by omega)
  show bt (rdOf ByteArray.empty (turnL n l) (i : Int)) (k : Int) = bt (rdOf ByteArray.empty l (i : Int)) (((k + n) % wideL l : Nat) : Int)
  rw [rdOf_at _ _ _ h1, rdOf_at _ _ _ (show i < (turnL n l).length by rw [turn_length]; exact h1), bt_at _ _ (show (k + n) % wideL l < (l[i]).size by omega)]
  have e : (turnL n l)[i]'(by rw [turn_length]; exact h1) = tB n l[i] := by unfold turnL; rw [List.getElem_map]
  rw [e, bt_at _ _ (show k < (tB n l[i]).size by rw [tB_size]; omega)]
  have e2 : (tB n l[i]).data.toList[k]'(by rw [dsize, tB_size]; omega) = (l[i]).data.toList[(k + n) % wideL l]'(by omega) := by
    simp only [tB_list]
    by_cases c : k < wideL l - n
    · rw [List.getElem_append_left (by rw [List.length_drop]; omega), List.getElem_drop]
      congr 1
      rw [Nat.mod_eq_of_lt (by omega)]
      omega
    · rw [List.getElem_append_right (by rw [List.length_drop]; omega), List.getElem_take]
      congr 1
      rw [List.length_drop, hs2, show k + n = (k + n - wideL l) + wideL l by omega, Nat.add_mod_right, Nat.mod_eq_of_lt (by omega)]
      omega
  rw [e2]
theorem nb_turn {l : List ByteArray} (hg : gridB l = true) (n : Nat) (p : Nat × Nat) : (nbP (turnL n l) p).map (rhoP (wideL l) n) = nbP l (rhoP (wideL l) n p) := by
  obtain ⟨g1, g2, g3⟩ := grid_facts hg
  unfold nbP
  rw [turn_wide n g1, turn_length]
  have e1 : ((p.2 + 1) % wideL l + n) % wideL l = ((p.2 + n) % wideL l + 1) % wideL l := by
    rw [Nat.mod_add_mod, Nat.mod_add_mod, show p.2 + 1 + n = p.2 + n + 1 by omega]
  have e2 : ((p.2 + (wideL l - 1)) % wideL l + n) % wideL l = ((p.2 + n) % wideL l + (wideL l - 1)) % wideL l := by
    rw [Nat.mod_add_mod, Nat.mod_add_mod, show p.2 + (wideL l - 1) + n = p.2 + n + (wideL l - 1) by omega]
  show _ = (p.1, ((p.2 + n) % wideL l + 1) % wideL l) :: (p.1, ((p.2 + n) % wideL l + (wideL l - 1)) % wideL l) :: ((if 0 < p.1 then [(p.1 - 1, (p.2 + n) % wideL l)] else []) ++ (if p.1 + 1 < l.length then [(p.1 + 1, (p.2 + n) % wideL l)] else []))
  rw [List.map_cons, List.map_cons, List.map_append]
  rw [show rhoP (wideL l) n (p.1, (p.2 + 1) % wideL l) = (p.1, ((p.2 + n) % wideL l + 1) % wideL l) from congrArg (Prod.mk p.1) e1, show rhoP (wideL l) n (p.1, (p.2 + (wideL l - 1)) % wideL l) = (p.1, ((p.2 + n) % wideL l + (wideL l - 1)) % wideL l) from congrArg (Prod.mk p.1) e2]
  by_cases c1 : 0 < p.1
  · by_cases c2 : p.1 + 1 < l.length
    · simp only [if_pos c1, if_pos c2]; rfl
    · simp only [if_pos c1, if_neg c2]; rfl
  · by_cases c2 : p.1 + 1 < l.length
    · simp only [if_neg c1, if_pos c2]; rfl
    · simp only [if_neg c1, if_neg c2]; rfl
theorem cnt_turn (n : Nat) (c : Int) : ∀ l : List ByteArray, cntG c (turnL n l) = cntG c l
  | [] => rfl
  | r :: l => by
    show cntR c (tB n r).data.toList + cntG c (turnL n l) = cntR c r.data.toList + cntG c l
    rw [cnt_turn n c l, tB_list]
    unfold cntR
    rw [List.countP_append, Nat.add_comm (List.countP _ (List.drop _ _)), ← List.countP_append, List.take_append_drop]
theorem landsD_turn (n : Nat) (l : List ByteArray) : ∀ (d : Nat) (c : Int), landsD (turnL n l) d c = landsD l d c
  | 0, c => rfl
  | d + 1, c => by
    unfold landsD
    rw [cnt_turn, landsD_turn n l d (c + 1)]
theorem lands_turn (n : Nat) (l : List ByteArray) : landsL (turnL n l) = landsL l := landsD_turn n l 26 97
theorem rch_turn {l : List ByteArray} (hg : gridB l = true) {n : Nat} (hn : n < wideL l) {c : Int} {p : Nat × Nat} (hp : okP l p) (hb : byteP (turnL n l) p = c) : ∀ (k : Nat) (q : Nat × Nat), RchN (turnL n l) c k p q → RchN l c k (rhoP (wideL l) n p) (rhoP (wideL l) n q)
  | 0, q, h => by
    have h : p = q := h
    subst h
    exact rfl
  | k + 1, r, h => by
    obtain ⟨q, h1, h2, h3⟩ := h
    have hq := (rchN_back (turn_grid hg n) ((ok_turn hg n).2 hp) hb k q h1).1
    have hr := (ok_turn hg n).1 (nb_ok (turn_grid hg n) hq r h2)
    refine ⟨rhoP (wideL l) n q, rch_turn hg hn hp hb k q h1, ?_, by rw [← byte_turn hg hn hr]; exact h3⟩
    rw [← nb_turn hg n q]
    exact List.mem_map.2 ⟨r, h2, rfl⟩
theorem rch_turn_back {l : List ByteArray} (hg : gridB l = true) {n : Nat} (hn : n < wideL l) {c : Int} {p q : Nat × Nat} (hp : okP l p) (hq : okP l q) (hb : byteP (turnL n l) p = c) (h : Rch l c (rhoP (wideL l) n p) (rhoP (wideL l) n q)) : Rch (turnL n l) c p q := by
  obtain ⟨g1, g2, g3⟩ := grid_facts hg
  have hw := wide_bdI hg
  obtain ⟨k, h⟩ := h
  have hb2 : byteP l (rhoP (wideL l) n p) = c := by rw [← byte_turn hg hn hp]; exact hb
  have h2 := rch_turn (l := turnL n l) (turn_grid hg n) (n := (wideL l - n) % wideL l) (by rw [turn_wide n g1]; exact Nat.mod_lt _ (by omega)) (c := c) (p := rhoP (wideL l) n p) ((ok_turn hg n).2 (rho_ok hg n hp)) (by rw [turn_back hg hn]; exact hb2) k (rhoP (wideL l) n q) (by rw [turn_back hg hn]; exact h)
  rw [turn_wide n g1, rho_back hn hp.2, rho_back hn hq.2] at h2
  exact ⟨k, h2⟩
theorem reps_turn_le {l : List ByteArray} (hg : gridB l = true) {n : Nat} (hn : n < wideL l) {c : Int} {A B : List (Nat × Nat)} (hA : RepsOf (turnL n l) c A) (hB : RepsOf l c B) : A.length ≤ B.length := by
  have hok : ∀ a ∈ A, okP l a := fun a ha => (ok_turn hg n).1 (hA.1 a ha).1
  have hA2 : A.Pairwise (fun p q => okP l p ∧ okP l q ∧ byteP (turnL n l) p = c ∧ ¬ Rch (turnL n l) c p q) := List.Pairwise.imp_of_mem (fun {p q} hp hq h => ⟨hok p hp, hok q hq, (hA.1 p hp).2, h⟩) hA.2.1
  refine len_le (fun a b => okP l b ∧ byteP l b = c ∧ Rch l c b (rhoP (wideL l) n a)) A B (fun a ha => ?_) ?_
  · obtain ⟨r, hr, h⟩ := hB.2.2 (rhoP (wideL l) n a) (rho_ok hg n (hok a ha)) (by rw [← byte_turn hg hn (hok a ha)]; exact (hA.1 a ha).2)
    exact ⟨r, hr, (hB.1 r hr).1, (hB.1 r hr).2, h⟩
  · refine List.Pairwise.imp (fun {a a'} h => ?_) hA2
    rintro b ⟨b1, b2, b3⟩ ⟨_, _, b4⟩
    exact h.2.2.2 (rch_turn_back hg hn h.1 h.2.1 h.2.2.1 (rch_trans (rch_symm hg b1 b2 b3) b4))
theorem parts_turn {l : List ByteArray} (hg : gridB l = true) {n : Nat} (hn : n < wideL l) (c : Int) {r r' : Int} (h : Ev (fun k => impl_partsOf.f k l c) r) (h' : Ev (fun k => impl_partsOf.f k (turnL n l) c) r') : r' = r := by
  obtain ⟨g1, g2, g3⟩ := grid_facts hg
  have hw := wide_bdI hg
  obtain ⟨R, h1, e1⟩ := parts_reps hg c r h
  obtain ⟨R', h2, e2⟩ := parts_reps (turn_grid hg n) c r' h'
  have k1 := reps_turn_le hg hn h2 h1
  have k2 := reps_turn_le (l := turnL n l) (turn_grid hg n) (n := (wideL l - n) % wideL l) (by rw [turn_wide n g1]; exact Nat.mod_lt _ (by omega)) (c := c) (A := R) (B := R') (by rw [turn_back hg hn]; exact h1) h2
  omega
/-! The coast -/
theorem sea_turn {l : List ByteArray} (hg : gridB l = true) {n : Nat} (hn : n < wideL l) : ∀ qs : List (Nat × Nat), (∀ q ∈ qs, okP l q) → seaSum (turnL n l) qs = seaSum l (qs.map (rhoP (wideL l) n))
  | [], _ => rfl
  | q :: qs, h => by
    show seaP (turnL n l) q + seaSum (turnL n l) qs = seaP l (rhoP (wideL l) n q) + seaSum l (qs.map (rhoP (wideL l) n))
    rw [sea_turn hg hn qs (fun q hq => h q (List.mem_cons_of_mem _ hq))]
    unfold seaP
    rw [byte_turn hg hn (h q List.mem_cons_self)]
theorem coastC_turn {l : List ByteArray} (hg : gridB l = true) {n : Nat} (hn : n < wideL l) {i m : Nat} (hp : okP l (i, m)) : coastC (turnL n l) ⟨(i : Int), (m : Int)⟩ = coastC l ⟨(i : Int), (((m + n) % wideL l : Nat) : Int)⟩ := by
  show seaSum (turnL n l) (nbP (turnL n l) (i, m)) = seaSum l (nbP l (rhoP (wideL l) n (i, m)))
  rw [← nb_turn hg n, sea_turn hg hn]
  intro q hq
  exact (ok_turn hg n).1 (nb_ok (turn_grid hg n) ((ok_turn hg n).2 hp) q hq)
def rowS (f : Nat → Nat) (c : Int) : Nat → List UInt8 → Nat
  | _, [] => 0
  | k, b :: bs => (if (b.toNat : Int) = c then f k else 0) + rowS f c (k + 1) bs
theorem rowS_append (f : Nat → Nat) (c : Int) : ∀ (xs : List UInt8) (k : Nat) (ys : List UInt8), rowS f c k (xs ++ ys) = rowS f c k xs + rowS f c (k + xs.length) ys
  | [], k, ys => by
    show rowS f c k ys = 0 + rowS f c (k + 0) ys
    rw [Nat.zero_add, Nat.add_zero]
  | x :: xs, k, ys => by
    show (if (x.toNat : Int) = c then f k else 0) + rowS f c (k + 1) (xs ++ ys) = ((if (x.toNat : Int) = c then f k else 0) + rowS f c (k + 1) xs) + rowS f c (k + (xs.length + 1)) ys
    rw [rowS_append f c xs (k + 1) ys, show k + (xs.length + 1) = k + 1 + xs.length by omega]
    exact (Nat.add_assoc _ _ _).symm
theorem rowS_congr (f g : Nat → Nat) (c : Int) : ∀ (xs : List UInt8) (k k' : Nat), (∀ j, j < xs.length → f (k + j) = g (k' + j)) → rowS f c k xs = rowS g c k' xs
  | [], _, _, _ => rfl
  | x :: xs, k, k', h => by
    show (if (x.toNat : Int) = c then f k else 0) + rowS f c (k + 1) xs = (if (x.toNat : Int) = c then g k' else 0) + rowS g c (k' + 1) xs
    rw [show f k = g k' from h 0 (by simp), rowS_congr f g c xs (k + 1) (k' + 1) (fun j hj => by
      have := h (j + 1) (by rw [List.length_cons]; omega)
      rw [show k + 1 + j = k + (j + 1) by omega, show k' + 1 + j = k' + (j + 1) by omega]
      exact this)]
theorem coastS_row (l : List ByteArray) (i c : Int) (rest : List S61) : ∀ (bs : List UInt8) (k : Nat), coastS l (cellsR i c k bs ++ rest) = rowS (fun m => coastC l ⟨i, (m : Int)⟩) c k bs + coastS l rest
  | [], k => by
    show coastS l rest = 0 + coastS l rest
    rw [Nat.zero_add]
  | b :: bs, k => by
    have ih := coastS_row l i c rest bs (k + 1)
    show coastS l ((if (b.toNat : Int) = c then (⟨i, (k : Int)⟩ : S61) :: cellsR i c ((k + 1 : Nat) : Int) bs else cellsR i c ((k + 1 : Nat) : Int) bs) ++ rest) = ((if (b.toNat : Int) = c then coastC l ⟨i, (k : Int)⟩ else 0) + rowS (fun m => coastC l ⟨i, (m : Int)⟩) c (k + 1) bs) + coastS l rest
    by_cases h : (b.toNat : Int) = c
    · rw [if_pos h, if_pos h, List.cons_append]
      show coastC l ⟨i, (k : Int)⟩ + coastS l (cellsR i c ((k + 1 : Nat) : Int) bs ++ rest) = _
      rw [ih, Nat.add_assoc]
    · rw [if_neg h, if_neg h, ih, Nat.zero_add]
theorem coastS_turn {l : List ByteArray} (hg : gridB l = true) {n : Nat} (hn : n < wideL l) (c : Int) (d : Nat) : ∀ i : Nat, i + d = l.length → coastS (turnL n l) (cellsG c i (turnL n (l.drop i))) = coastS l (cellsG c i (l.drop i)) := by
  obtain ⟨g1, g2, g3⟩ := grid_facts hg
  induction d with
  | zero =>
    intro i hi
    rw [List.drop_eq_nil_of_le (by omega)]
    rfl
  | succ d ih =>
    intro i hi
    have hlt : i < l.length := by omega
    have hs : (l[i]).data.toList.length = wideL l := by rw [dsize]; exact (g3 _ (List.getElem_mem hlt)).1
    rw [List.drop_eq_getElem_cons hlt]
    show coastS (turnL n l) (cellsR i c ((0 : Nat) : Int) (tB n l[i]).data.toList ++ cellsG c ((i + 1 : Nat) : Int) (turnL n (l.drop (i + 1)))) = coastS l (cellsR i c ((0 : Nat) : Int) (l[i]).data.toList ++ cellsG c ((i + 1 : Nat) : Int) (l.drop (i + 1)))
    rw [coastS_row, coastS_row, ih (i + 1) (by omega)]
    congr 1
    rw [tB_list, rowS_append]
    conv => rhs; rw [← List.take_append_drop n (l[i]).data.toList, rowS_append]
    rw [Nat.add_comm]
    congr 1
    · refine rowS_congr _ _ c _ _ _ (fun j hj => ?_)
      rw [List.length_take, hs] at hj
      rw [List.length_drop, hs]
      rw [coastC_turn hg hn ⟨hlt, by show 0 + (wideL l - n) + j < wideL l; omega⟩, show 0 + (wideL l - n) + j + n = 0 + j + wideL l by omega, Nat.add_mod_right, Nat.mod_eq_of_lt (by omega)]
    · refine rowS_congr _ _ c _ _ _ (fun j hj => ?_)
      rw [List.length_drop, hs] at hj
      rw [List.length_take, hs]
      rw [coastC_turn hg hn ⟨hlt, by show 0 + j < wideL l; omega⟩, Nat.mod_eq_of_lt (by omega), show 0 + min n (wideL l) + j = 0 + j + n by omega]
theorem coast_turn {l : List ByteArray} (hg : gridB l = true) {n : Nat} (hn : n < wideL l) (c : Int) : coastS (turnL n l) (cellsG c 0 (turnL n l)) = coastS l (cellsG c 0 l) := by
  have := coastS_turn hg hn c l.length 0 (by omega)
  rw [List.drop_zero] at this
  exact this
/-! The borders -/
theorem meetC_turn {l : List ByteArray} (hg : gridB l = true) {n : Nat} (hn : n < wideL l) (a b : Int) {i m : Nat} (hp : okP l (i, m)) : meetC (turnL n l) a b i m = meetC l a b i ((m + n) % wideL l) := by
  obtain ⟨g1, g2, g3⟩ := grid_facts hg
  have hw := wide_bdI hg
  have hok2 : okP l (i, (m + 1) % wideL l) := ⟨hp.1, Nat.mod_lt _ (by omega)⟩
  have e1 : cv (turnL n l) i m = cv l i (((m + n) % wideL l : Nat) : Int) := byte_turn hg hn hp
  have e2 : cv (turnL n l) i (((m + 1) % wideL l : Nat) : Int) = cv l i ((((m + n) % wideL l + 1) % wideL l : Nat) : Int) := by
    have h := byte_turn hg hn hok2
    have e : ((m + 1) % wideL l + n) % wideL l = ((m + n) % wideL l + 1) % wideL l := by
      rw [Nat.mod_add_mod, Nat.mod_add_mod, show m + 1 + n = m + n + 1 by omega]
    unfold rhoP at h
    dsimp only at h
    rw [e] at h
    exact h
  rw [meetC_eq, meetC_eq, turn_wide n g1, turn_length, e1, e2]
  by_cases hd : i + 1 < l.length
  · have e3 : cv (turnL n l) ((i + 1 : Nat) : Int) m = cv l ((i + 1 : Nat) : Int) (((m + n) % wideL l : Nat) : Int) := byte_turn hg hn (p := (i + 1, m)) ⟨hd, hp.2⟩
    rw [e3]
  · rw [decide_eq_false hd, Bool.false_and, Bool.false_and]
theorem meet_turn {l : List ByteArray} (hg : gridB l = true) {n : Nat} (hn : n < wideL l) (a b : Int) : meetB (turnL n l) a b = meetB l a b := by
  obtain ⟨g1, g2, g3⟩ := grid_facts hg
  have hw := wide_bdI hg
  rw [Bool.eq_iff_iff, meet_iff, meet_iff, turn_length, turn_wide n g1]
  constructor
  · rintro ⟨i, m, hi, hm, h⟩
    rw [meetC_turn hg hn a b ⟨hi, hm⟩] at h
    exact ⟨i, _, hi, Nat.mod_lt _ (by omega), h⟩
  · rintro ⟨i, m, hi, hm, h⟩
    refine ⟨i, (m + (wideL l - n)) % wideL l, hi, Nat.mod_lt _ (by omega), ?_⟩
    rw [meetC_turn hg hn a b ⟨hi, Nat.mod_lt _ (by omega)⟩, Nat.mod_add_mod, show m + (wideL l - n) + n = m + wideL l by omega, Nat.add_mod_right, Nat.mod_eq_of_lt hm]
    exact h
theorem pairsB_turn {l : List ByteArray} (hg : gridB l = true) {n : Nat} (hn : n < wideL l) : ∀ ls : List Int, pairsB (turnL n l) ls = pairsB l ls
  | [] => rfl
  | a :: ls => by
    unfold pairsB pairB
    rw [pairsB_turn hg hn ls]
    simp only [meet_turn hg hn]
theorem borders_turn {l : List ByteArray} (hg : gridB l = true) {n : Nat} (hn : n < wideL l) : bordersV (turnL n l) = bordersV l := by
  unfold bordersV
  rw [if_pos hg, if_pos (turn_grid hg n), lands_turn, pairsB_turn hg hn]
/-! ### The letters that have no coast, and the letter that most cells have -/
def noCoast (l : List ByteArray) (b : Int) : Bool := decide (coastS l (cellsG b 0 l) = 0)
theorem llB_ev {l : List ByteArray} (hg : gridB l = true) : ∀ (bs o : List Int), (∀ b ∈ bs, 97 ≤ b ∧ b ≤ 122) → o.length + bs.length ≤ 1000 → Ev (fun k => llB k l bs (strOfNums o)) (strOfNums (o ++ bs.filter (noCoast l)))
  | [], o, _, _ => by
    unfold llB
    rw [List.filter_nil, List.append_nil]
    exact ev_const rfl
  | b :: bs, o, hb, ho => by
    rw [List.length_cons] at ho
    have hb1 := hb b List.mem_cons_self
    have hbs : ∀ x ∈ bs, 97 ≤ x ∧ x ≤ 122 := fun x hx => hb x (List.mem_cons_of_mem _ hx)
    unfold llB
    refine Ev.bind (coast_same hg b).1 ?_
    by_cases h : coastS l (cellsG b 0 l) = 0
    · simp only [if_pos (show ((coastS l (cellsG b 0 l) : Nat) : Int) = 0 by omega), enc_one b hb1.1 hb1.2, if_pos (show (strOfNums o).size + (strOfNums [b]).size ≤ 9223372036854775807 by rw [strOfNums_size, strOfNums_size, List.length_singleton]; omega)]
      rw [← son_append, List.filter_cons_of_pos (show noCoast l b = true from decide_eq_true h)]
      have := llB_ev hg bs (o ++ [b]) hbs (by rw [List.length_append, List.length_singleton]; omega)
      rw [List.append_assoc] at this
      exact this
    · simp only [if_neg (show ¬ ((coastS l (cellsG b 0 l) : Nat) : Int) = 0 by omega)]
      rw [List.filter_cons_of_neg (show ¬ noCoast l b = true from fun e => h (of_decide_eq_true e))]
      exact llB_ev hg bs o hbs (by omega)
theorem landsL_small (l : List ByteArray) : ∀ b ∈ landsL l, 97 ≤ b ∧ b ≤ 122 := fun b hb => by have := (landsD_mem l 26 97 b).1 hb; omega
theorem landsL_len (l : List ByteArray) : (landsL l).length ≤ 26 := landsD_length l 26 97
def lockedV (l : List ByteArray) : ByteArray × Int := if gridB l = true then (strOfNums ((landsL l).filter (noCoast l)), 0) else ((⟨#[]⟩ : ByteArray), 1)
theorem ilocked_ev (l : List ByteArray) (hl : l.length ≤ 1048576) (hs : ∀ y ∈ l, y.size ≤ 1048576) : Ev (fun k => impl_LandlockedOf.f k l) (lockedV l) := by
  unfold impl_LandlockedOf.f lockedV
  refine Ev.bind (vg_ev l hl hs) ?_
  by_cases h : gridB l = true
  · obtain ⟨g1, g2, g3⟩ := grid_facts h
    have n1 := landsL_len l
    simp only [if_pos h]
    refine Ev.bind (ilands_ev l (by omega) (fun y hy => by have := (g3 y hy).2.2.1; omega)) ?_
    rw [numsB_son _ (landsL_bytes l)]
    simp only [if_pos (show (strOfNums (landsL l)).size ≤ 9223372036854775807 by rw [strOfNums_size]; omega)]
    have := llB_ev h (landsL l) [] (landsL_small l) (by rw [List.length_nil]; omega)
    rw [List.nil_append] at this
    exact Ev.bind this (ev_const rfl)
  · simp only [if_neg h]
    exact ev_const rfl
theorem slocked_l {l : List ByteArray} (hg : gridB l = true) (xs : List Int) (hx : ∀ x ∈ xs, 0 ≤ x ∧ x < 256) (hn : xs.length ≤ 26) (d : Nat) : ∀ (i : Nat) (o : List Int), i + d = xs.length → o.length ≤ i → Ev (fun k => spec_LandlockedOf.l0 k l (strOfNums xs) (strOfNums o) i) (strOfNums (o ++ (xs.drop i).filter (noCoast l)), 0) := by
  induction d with
  | zero =>
    intro i o hi ho
    apply ev_succ
    rw [List.drop_eq_nil_of_le (by omega), List.filter_nil, List.append_nil]
    simp only [spec_LandlockedOf.l0, strOfNums_size, if_neg (show ¬ (i : Int) < (xs.length : Int) by omega)]
    exact ev_const rfl
  | succ d ih =>
    intro i o hi ho
    have hlt : i < xs.length := by omega
    rw [List.drop_eq_getElem_cons hlt]
    apply ev_succ
    have e1 : ((i : Int) + 1).toNat = i + 1 := by omega
    simp only [spec_LandlockedOf.l0, strOfNums_size, if_pos (show (i : Int) < (xs.length : Int) by omega), if_pos (show (0 : Int) ≤ (i : Int) by omega), bt_son xs hx i hlt, w64 (x := (i : Int) + 1) (by omega) (by omega), Int.toNat_natCast, e1, extract_son xs i hlt]
    refine Ev.bind (coast_same hg xs[i]).2.1 ?_
    by_cases h : coastS l (cellsG xs[i] 0 l) = 0
    · simp only [if_pos (show ((coastS l (cellsG xs[i] 0 l) : Nat) : Int) = 0 by omega), if_pos (show (i : Int) ≤ (i : Int) + 1 by omega), if_pos (show (i : Int) + 1 ≤ (xs.length : Int) by omega), List.length_singleton, if_pos (show o.length + 1 ≤ 9223372036854775807 by omega)]
      rw [← son_append, List.filter_cons_of_pos (show noCoast l xs[i] = true from decide_eq_true h)]
      have := ih (i + 1) (o ++ [xs[i]]) (by omega) (by rw [List.length_append, List.length_singleton]; omega)
      rw [List.append_assoc] at this
      exact this
    · simp only [if_neg (show ¬ ((coastS l (cellsG xs[i] 0 l) : Nat) : Int) = 0 by omega)]
      rw [List.filter_cons_of_neg (show ¬ noCoast l xs[i] = true from fun e => h (of_decide_eq_true e))]
      exact ih (i + 1) o (by omega) (by omega)
theorem slocked_ev (l : List ByteArray) : Ev (fun k => spec_LandlockedOf.f k l) (lockedV l) := by
  unfold spec_LandlockedOf.f lockedV
  refine Ev.bind (ok_ev l) ?_
  by_cases h : gridB l = true
  · obtain ⟨g1, g2, g3⟩ := grid_facts h
    simp only [if_pos h]
    refine Ev.bind (slands_ev l (by omega) (fun y hy => by have := (g3 y hy).2.2.1; omega)) ?_
    have := slocked_l h (landsL l) (landsL_bytes l) (landsL_len l) _ 0 [] (Nat.zero_add _) (by simp)
    rw [List.drop_zero, List.nil_append] at this
    exact this
  · simp only [if_neg h]
    exact ev_const rfl
def grF (l : List ByteArray) : List Int → Int → Int
  | [], b => b
  | x :: xs, b => if cntG x l > cntG b l then grF l xs x else grF l xs b
theorem grB_ev {l : List ByteArray} (hg : gridB l = true) : ∀ (bs : List Int) (b : Int), (∀ x ∈ bs, 97 ≤ x ∧ x ≤ 122) → Ev (fun k => grB k l bs (strOfNums [b]) (cntG b l : Int)) (strOfNums [grF l bs b], (cntG (grF l bs b) l : Int))
  | [], b, _ => by
    unfold grB grF
    exact ev_const rfl
  | x :: bs, b, hb => by
    obtain ⟨g1, g2, g3⟩ := grid_facts hg
    have hb1 := hb x List.mem_cons_self
    have hbs : ∀ y ∈ bs, 97 ≤ y ∧ y ≤ 122 := fun y hy => hb y (List.mem_cons_of_mem _ hy)
    unfold grB grF
    refine Ev.bind (cells_ev l (by omega) (fun y hy => by have := (g3 y hy).2.2.1; omega) x) ?_
    rw [cellsG_length]
    by_cases h : cntG x l > cntG b l
    · simp only [if_pos h, if_pos (show (cntG x l : Int) > (cntG b l : Int) by omega), enc_one x hb1.1 hb1.2]
      exact grB_ev hg bs x hbs
    · simp only [if_neg h, if_neg (show ¬ (cntG x l : Int) > (cntG b l : Int) by omega)]
      exact grB_ev hg bs b hbs
theorem grF_pos {l : List ByteArray} : ∀ (bs : List Int) (b : Int), (∀ x ∈ bs, 0 < cntG x l) → 0 < cntG b l → 0 < cntG (grF l bs b) l
  | [], b, _, h => h
  | x :: bs, b, hb, h => by
    unfold grF
    split
    · exact grF_pos bs x (fun y hy => hb y (List.mem_cons_of_mem _ hy)) (hb x List.mem_cons_self)
    · exact grF_pos bs b (fun y hy => hb y (List.mem_cons_of_mem _ hy)) h
def greatL (l : List ByteArray) : List Int → ByteArray × Int
  | [] => ((⟨#[]⟩ : ByteArray), 3)
  | b :: bs => (strOfNums [grF l bs b], 0)
def greatV (l : List ByteArray) : ByteArray × Int := if gridB l = true then greatL l (landsL l) else ((⟨#[]⟩ : ByteArray), 1)
theorem igreat_ev (l : List ByteArray) (hl : l.length ≤ 1048576) (hs : ∀ y ∈ l, y.size ≤ 1048576) : Ev (fun k => impl_GreatestLand.f k l) (greatV l) := by
  unfold impl_GreatestLand.f greatV
  refine Ev.bind (vg_ev l hl hs) ?_
  by_cases h : gridB l = true
  · obtain ⟨g1, g2, g3⟩ := grid_facts h
    have n1 := landsL_len l
    have n2 := landsL_small l
    have n3 : ∀ b ∈ landsL l, 0 < cntG b l := fun b hb => ((landsD_mem l 26 97 b).1 hb).2.2
    simp only [if_pos h]
    refine Ev.bind (ilands_ev l (by omega) (fun y hy => by have := (g3 y hy).2.2.1; omega)) ?_
    rw [numsB_son _ (landsL_bytes l)]
    simp only [if_pos (show (strOfNums (landsL l)).size ≤ 9223372036854775807 by rw [strOfNums_size]; omega)]
    generalize landsL l = xs at n1 n2 n3
    cases xs with
    | nil =>
      refine Ev.bind (a := ((⟨#[]⟩ : ByteArray), (0 : Int))) (ev_const rfl) ?_
      exact ev_const rfl
    | cons b bs =>
      have hb := n2 b List.mem_cons_self
      have hp := n3 b List.mem_cons_self
      have hf := grF_pos bs b (fun y hy => n3 y (List.mem_cons_of_mem _ hy)) hp
      have h1 := grB_ev h bs b (fun y hy => n2 y (List.mem_cons_of_mem _ hy))
      have h2 : Ev (fun k => grB k l (b :: bs) (⟨#[]⟩ : ByteArray) 0) (strOfNums [grF l bs b], (cntG (grF l bs b) l : Int)) := by
        unfold grB
        refine Ev.bind (cells_ev l (by omega) (fun y hy => by have := (g3 y hy).2.2.1; omega) b) ?_
        rw [cellsG_length]
        simp only [if_pos (show (cntG b l : Int) > 0 by omega), enc_one b hb.1 hb.2]
        exact h1
      refine Ev.bind h2 ?_
      simp only [if_neg (show ¬ (cntG (grF l bs b) l : Int) = 0 by omega)]
      exact ev_const rfl
  · simp only [if_neg h]
    exact ev_const rfl
theorem sgreat_l {l : List ByteArray} (hg : gridB l = true) (xs : List Int) (hx : ∀ x ∈ xs, 0 ≤ x ∧ x < 256) (hn : xs.length ≤ 26) (d : Nat) : ∀ (i j : Nat) (hj : j < xs.length), i + d = xs.length → Ev (fun k => spec_GreatestLand.l0 k l (strOfNums xs) j i) (strOfNums [grF l (xs.drop i) xs[j]], 0) := by
  obtain ⟨g1, g2, g3⟩ := grid_facts hg
  induction d with
  | zero =>
    intro i j hj hi
    apply ev_succ
    have e1 : ((j : Int) + 1).toNat = j + 1 := by omega
    rw [List.drop_eq_nil_of_le (by omega)]
    simp only [spec_GreatestLand.l0, strOfNums_size, if_neg (show ¬ (i : Int) < (xs.length : Int) by omega), if_pos (show (0 : Int) ≤ (j : Int) by omega), w64 (x := (j : Int) + 1) (by omega) (by omega), if_pos (show (j : Int) ≤ (j : Int) + 1 by omega), if_pos (show (j : Int) + 1 ≤ (xs.length : Int) by omega), Int.toNat_natCast, e1, extract_son xs j hj]
    exact ev_const rfl
  | succ d ih =>
    intro i j hj hi
    have hlt : i < xs.length := by omega
    rw [List.drop_eq_getElem_cons hlt]
    apply ev_succ
    simp only [spec_GreatestLand.l0, strOfNums_size, if_pos (show (i : Int) < (xs.length : Int) by omega), if_pos (show (0 : Int) ≤ (i : Int) by omega), if_pos (show (0 : Int) ≤ (j : Int) by omega), if_pos (show (j : Int) < (xs.length : Int) by omega), bt_son xs hx i hlt, bt_son xs hx j hj, w64 (x := (i : Int) + 1) (by omega) (by omega)]
    refine Ev.bind (cnt_ev l (by omega) (fun y hy => by have := (g3 y hy).2.2.1; omega) xs[i]) (Ev.bind (cnt_ev l (by omega) (fun y hy => by have := (g3 y hy).2.2.1; omega) xs[j]) ?_)
    unfold grF
    by_cases h : cntG xs[i] l > cntG xs[j] l
    · simp only [if_pos h, if_pos (show (cntG xs[i] l : Int) > (cntG xs[j] l : Int) by omega)]
      exact ih (i + 1) i hlt (by omega)
    · simp only [if_neg h, if_neg (show ¬ (cntG xs[i] l : Int) > (cntG xs[j] l : Int) by omega)]
      exact ih (i + 1) j hj (by omega)
theorem sgreat_ev (l : List ByteArray) : Ev (fun k => spec_GreatestLand.f k l) (greatV l) := by
  unfold spec_GreatestLand.f greatV
  refine Ev.bind (ok_ev l) ?_
  by_cases h : gridB l = true
  · obtain ⟨g1, g2, g3⟩ := grid_facts h
    have n1 := landsL_len l
    have n2 := landsL_bytes l
    simp only [if_pos h]
    refine Ev.bind (slands_ev l (by omega) (fun y hy => by have := (g3 y hy).2.2.1; omega)) ?_
    generalize landsL l = xs at n1 n2
    cases xs with
    | nil =>
      simp only [if_pos ((toList_nil (strOfNums [])).2 rfl)]
      exact ev_const rfl
    | cons b bs =>
      simp only [if_neg (show ¬ (strOfNums (b :: bs)).toList = ([] : List UInt8) from fun e => by have := (toList_nil _).1 e; rw [strOfNums_size, List.length_cons] at this; omega)]
      rw [List.length_cons] at n1
      exact sgreat_l h (b :: bs) n2 (by rw [List.length_cons]; omega) bs.length 1 0 (by simp) (by rw [List.length_cons]; omega)
  · simp only [if_neg h]
    exact ev_const rfl
/-! ### Turning, told by the two functions -/
/-- By how many cells a row is cut. -/
def cutZ (W : Nat) (a : Int) : Nat := (((W : Int) - Int.tmod a W) % W).toNat
theorem tmod_bd {W : Nat} (hW : 1 ≤ W) (a : Int) : -(W : Int) < Int.tmod a W ∧ Int.tmod a W < (W : Int) := by
  have h1 := Int.tmod_lt_of_pos a (b := (W : Int)) (by omega)
  have h2 := Int.tmod_lt_of_pos (-a) (b := (W : Int)) (by omega)
  rw [Int.neg_tmod] at h2
  omega
theorem cutZ_lt {W : Nat} (hW : 1 ≤ W) (a : Int) : cutZ W a < W ∧ (((W : Int) - Int.tmod a W) % W) = (cutZ W a : Int) := by
  have h1 := Int.emod_nonneg ((W : Int) - Int.tmod a W) (b := (W : Int)) (by omega)
  have h2 := Int.emod_lt_of_pos ((W : Int) - Int.tmod a W) (b := (W : Int)) (by omega)
  unfold cutZ
  omega
theorem cutZ_le {W : Nat} (hW : 1 ≤ W) {a : Int} (h : Int.tmod a W ≤ 0) : (cutZ W a : Int) = - Int.tmod a W := by
  have hb := tmod_bd hW a
  rw [← (cutZ_lt hW a).2, show (W : Int) - Int.tmod a W = - Int.tmod a W + (W : Int) * 1 by omega, Int.add_mul_emod_self_left]
  exact Int.emod_eq_of_lt (by omega) (by omega)
theorem cutZ_gt {W : Nat} (hW : 1 ≤ W) {a : Int} (h : 0 < Int.tmod a W) : (cutZ W a : Int) = (W : Int) - Int.tmod a W := by
  have hb := tmod_bd hW a
  rw [← (cutZ_lt hW a).2]
  exact Int.emod_eq_of_lt (by omega) (by omega)
theorem cutZ_neg {W : Nat} (hW : 1 ≤ W) (a : Int) : cutZ W (-a) = (W - cutZ W a) % W := by
  have hb := tmod_bd hW a
  have hn : Int.tmod (-a) W = - Int.tmod a W := Int.neg_tmod _ _
  rcases Int.lt_trichotomy (Int.tmod a W) 0 with h | h | h
  · have h1 := cutZ_le hW (a := a) (by omega)
    have h2 := cutZ_gt hW (a := -a) (by omega)
    rw [Nat.mod_eq_of_lt (by omega)]
    omega
  · have h1 := cutZ_le hW (a := a) (by omega)
    have h2 := cutZ_le hW (a := -a) (by omega)
    have h3 : cutZ W a = 0 := by omega
    rw [h3, Nat.sub_zero, Nat.mod_self]
    omega
  · have h1 := cutZ_gt hW (a := a) (by omega)
    have h2 := cutZ_le hW (a := -a) (by omega)
    rw [Nat.mod_eq_of_lt (by omega)]
    omega
def turnV (l : List ByteArray) (a : Int) : List ByteArray × Int := if gridB l = true then (if -1000 ≤ a ∧ a ≤ 1000 then (turnL (cutZ (wideL l) a) l, 0) else ([], 2)) else ([], 1)
theorem within_val (a b c : Int) : impl_within.f a b c = some (decide (b ≤ a ∧ a ≤ c)) := by
  unfold impl_within.f
  by_cases h : a ≥ b
  · rw [if_pos h]
    congr 1
    rw [decide_eq_decide]
    omega
  · rw [if_neg h]
    congr 1
    symm
    rw [decide_eq_false_iff_not]
    omega
theorem cut_sizes (r : ByteArray) (n : Nat) (h : r.size ≤ 1000) : (r.extract n r.size).size + (r.extract 0 n).size ≤ 9223372036854775807 := by
  rw [ByteArray.size_extract, ByteArray.size_extract]
  omega
theorem iturn_l {l : List ByteArray} (hg : gridB l = true) (n : Nat) (hn : n ≤ wideL l) (d : Nat) : ∀ (i : Nat) (o : List ByteArray), i + d = l.length → o.length ≤ i → Ev (fun k => impl_TurnGrid.l0 k n o l (l.length : Int) i) (o ++ turnL n (l.drop i), 0) := by
  obtain ⟨g1, g2, g3⟩ := grid_facts hg
  have hw := wide_bdI hg
  induction d with
  | zero =>
    intro i o hi ho
    apply ev_succ
    simp only [impl_TurnGrid.l0, if_neg (show ¬ (i : Int) < (l.length : Int) by omega)]
    rw [List.drop_eq_nil_of_le (by omega)]
    exact ev_const (by simp [turnL])
  | succ d ih =>
    intro i o hi ho
    have hlt : i < l.length := by omega
    have hs : (l[i]).size = wideL l := (g3 _ (List.getElem_mem hlt)).1
    rw [List.drop_eq_getElem_cons hlt]
    apply ev_succ
    simp only [impl_TurnGrid.l0, if_pos (show (i : Int) < (l.length : Int) by omega), if_pos (show (0 : Int) ≤ (i : Int) by omega), rdOf_at _ _ _ hlt, if_pos (show (0 : Int) ≤ (n : Int) by omega), if_pos (show (n : Int) ≤ ((l[i]).size : Int) by omega), Int.toNat_natCast, if_pos (cut_sizes l[i] n (by omega)), if_pos (show o.length < 8796093022208 by omega), w64 (x := (i : Int) + 1) (by omega) (by omega)]
    have := ih (i + 1) (o ++ [tB n l[i]]) (by omega) (by rw [List.length_append, List.length_singleton]; omega)
    rw [List.append_assoc] at this
    exact this
theorem iturn_ev (l : List ByteArray) (hl : l.length ≤ 1048576) (hs : ∀ y ∈ l, y.size ≤ 1048576) (a : Int) : Ev (fun k => impl_TurnGrid.f k l a) (turnV l a) := by
  unfold impl_TurnGrid.f turnV
  refine Ev.bind (vg_ev l hl hs) ?_
  simp only [within_val, Option.bind_some, impl_check.f]
  by_cases h : gridB l = true
  · obtain ⟨g1, g2, g3⟩ := grid_facts h
    have hw := wide_bdI h
    have hb := tmod_bd hw.1 a
    have hc := cutZ_lt hw.1 a
    simp only [if_pos h]
    by_cases ha : -1000 ≤ a ∧ a ≤ 1000
    · simp only [decide_eq_true ha, if_true, if_pos ha, Option.bind_some]
      simp only [show ((rdOf ByteArray.empty l 0).size : Int) = (wideL l : Int) from rfl, if_pos (show 0 < (l.length : Int) by omega), if_neg (show ¬ (wideL l : Int) = 0 by omega), w64 (x := (wideL l : Int) - Int.tmod a (wideL l : Int)) (by omega) (by omega), tmod_nn (show 0 ≤ (wideL l : Int) - Int.tmod a (wideL l : Int) by omega), hc.2]
      have := iturn_l h (cutZ (wideL l) a) (by omega) _ 0 [] (Nat.zero_add _) (by simp)
      rw [List.drop_zero, List.nil_append] at this
      exact this
    · simp only [decide_eq_false ha, Bool.false_eq_true, if_false, if_neg ha, Option.bind_some, if_neg (show ¬ (2 : Int) = 0 by omega)]
      exact ev_const rfl
  · simp only [if_neg h, Option.bind_some, if_neg (show ¬ (1 : Int) = 0 by omega)]
    exact ev_const rfl
theorem tB_full (r : ByteArray) : tB r.size r = tB 0 r := by
  apply data_inj
  rw [tB_list, tB_list, List.drop_zero, List.take_zero, List.append_nil, ← dsize, List.drop_length, List.take_length, List.nil_append]
theorem sturn_l {l : List ByteArray} (hg : gridB l = true) (s at_ : Int) (n : Nat) (hn : n ≤ wideL l) (hs : wrap64 (s - at_) = (n : Int)) (d : Nat) : ∀ (i : Nat) (o : List ByteArray), i + d = l.length → o.length ≤ i → Ev (fun k => spec_TurnGrid.l0 k l s at_ o i) (o ++ turnL n (l.drop i), 0) := by
  obtain ⟨g1, g2, g3⟩ := grid_facts hg
  have hw := wide_bdI hg
  have HS := Aside0.mk hs
  clear hs
  induction d with
  | zero =>
    intro i o hi ho
    apply ev_succ
    simp only [spec_TurnGrid.l0, if_neg (show ¬ (i : Int) < (l.length : Int) by omega)]
    rw [List.drop_eq_nil_of_le (by omega)]
    exact ev_const (by simp [turnL])
  | succ d ih =>
    intro i o hi ho
    have hlt : i < l.length := by omega
    have hs : (l[i]).size = wideL l := (g3 _ (List.getElem_mem hlt)).1
    rw [List.drop_eq_getElem_cons hlt]
    apply ev_succ
    simp only [spec_TurnGrid.l0, HS.out, if_pos (show (i : Int) < (l.length : Int) by omega), if_pos (show (0 : Int) ≤ (i : Int) by omega), rdOf_at _ _ _ hlt, if_pos (show (0 : Int) ≤ (n : Int) by omega), if_pos (show (n : Int) ≤ ((l[i]).size : Int) by omega), Int.toNat_natCast, if_pos (cut_sizes l[i] n (by omega)), if_pos (show o.length < 8796093022208 by omega), w64 (x := (i : Int) + 1) (by omega) (by omega)]
    have := ih (i + 1) (o ++ [tB n l[i]]) (by omega) (by rw [List.length_append, List.length_singleton]; omega)
    rw [List.append_assoc] at this
    exact this
theorem turn_full {l : List ByteArray} (hg : gridB l = true) : turnL (wideL l) l = turnL 0 l := by
  unfold turnL
  apply List.map_congr_left
  intro r hr
  rw [← ((grid_facts hg).2.2 r hr).1]
  exact tB_full r
theorem sturn_ev (l : List ByteArray) (a : Int) : Ev (fun k => spec_TurnGrid.f k l a) (turnV l a) := by
  unfold spec_TurnGrid.f turnV
  refine Ev.bind (ok_ev l) ?_
  by_cases h : gridB l = true
  · obtain ⟨g1, g2, g3⟩ := grid_facts h
    have hw := wide_bdI h
    have hb := tmod_bd hw.1 a
    simp only [if_pos h, gin_val, Option.bind_some]
    by_cases ha : -1000 ≤ a ∧ a ≤ 1000
    · simp only [decide_eq_true ha, if_true, if_pos ha]
      simp only [show ((rdOf ByteArray.empty l 0).size : Int) = (wideL l : Int) from rfl, if_pos (show 0 < (l.length : Int) by omega), if_neg (show ¬ (wideL l : Int) = 0 by omega)]
      by_cases hn : Int.tmod a (wideL l : Int) < 0
      · have hc := cutZ_le hw.1 (a := a) (by omega)
        simp only [if_pos hn]
        apply ev_succ
        simp only [spec_TurnGrid.j0]
        have := sturn_l h (wideL l : Int) (wrap64 (Int.tmod a (wideL l : Int) + (wideL l : Int))) (cutZ (wideL l) a) (by omega) (by rw [w64 (x := Int.tmod a (wideL l : Int) + (wideL l : Int)) (by omega) (by omega), w64 (by omega) (by omega)]; omega) _ 0 [] (Nat.zero_add _) (by simp)
        rw [List.drop_zero, List.nil_append] at this
        exact this
      · simp only [if_neg hn]
        apply ev_succ
        simp only [spec_TurnGrid.j0]
        by_cases hz : Int.tmod a (wideL l : Int) = 0
        · have hc := cutZ_le hw.1 (a := a) (by omega)
          have hc0 : cutZ (wideL l) a = 0 := by omega
          have := sturn_l h (wideL l : Int) (Int.tmod a (wideL l : Int)) (wideL l) (Nat.le_refl _) (by rw [w64 (by omega) (by omega)]; omega) _ 0 [] (Nat.zero_add _) (by simp)
          rw [List.drop_zero, List.nil_append, turn_full h] at this
          rw [hc0]
          exact this
        · have hc := cutZ_gt hw.1 (a := a) (by omega)
          have := sturn_l h (wideL l : Int) (Int.tmod a (wideL l : Int)) (cutZ (wideL l) a) (by omega) (by rw [w64 (by omega) (by omega)]; omega) _ 0 [] (Nat.zero_add _) (by simp)
          rw [List.drop_zero, List.nil_append] at this
          exact this
    · simp only [decide_eq_false ha, Bool.false_eq_true, if_false, if_neg ha]
      exact ev_const rfl
  · simp only [if_neg h]
    exact ev_const rfl
theorem turndraw_ev {l : List Int} (hB : Bytes l) (hl : l.length ≤ 140737488351232) : ∃ x a, Ev (fun k => spec_DrawTurnGrid.f k l) (x, a) ∧ x.length ≤ 17 ∧ ∀ y ∈ x, y.size ≤ 40 := by
  obtain ⟨x, a1, s1, e1, p1, p2, p3, p4⟩ := bent12_ev hB hl (a := 0) (s := 0) (by omega) (by omega)
  obtain ⟨b, a2, s2, e2, q1, q2⟩ := one_val hB hl (a := a1) (s := s1) (by omega) (by omega) 8
  cases b with
  | true =>
    obtain ⟨v, a3, s3, e3, _, _, _⟩ := among_val hB hl (a := a2) (s := s2) (by omega) (by omega) ([(-1001), (-1000), 1000, 1001, (-9223372036854775808)] : List Int) (by simp)
    refine ⟨x, v, ?_, p1, p2⟩
    unfold spec_DrawTurnGrid.f
    simp only [spec_l00From.f, Option.bind_some]
    refine Ev.bind e1 ?_
    simp only [e2, e3, Option.bind_some, if_true]
    exact ev_const rfl
  | false =>
    obtain ⟨v, a3, s3, e3, _⟩ := pick_val hB hl (a := a2) (s := s2) (by omega) (by omega) 40
    refine ⟨x, wrap64 (v - 20), ?_, p1, p2⟩
    unfold spec_DrawTurnGrid.f
    simp only [spec_l00From.f, Option.bind_some]
    refine Ev.bind e1 ?_
    simp only [e2, e3, Option.bind_some, Bool.false_eq_true, if_false]
    exact ev_const rfl
/-! ### The letters and the seas -/
def landsV (l : List ByteArray) : ByteArray × Int := if gridB l = true then (strOfNums (landsL l), 0) else ((⟨#[]⟩ : ByteArray), 1)
theorem ilandsof_ev (l : List ByteArray) (hl : l.length ≤ 1048576) (hs : ∀ y ∈ l, y.size ≤ 1048576) : Ev (fun k => impl_LandsOf.f k l) (landsV l) := by
  unfold impl_LandsOf.f landsV
  refine Ev.bind (vg_ev l hl hs) ?_
  by_cases h : gridB l = true
  · obtain ⟨g1, g2, g3⟩ := grid_facts h
    simp only [if_pos h]
    exact Ev.bind (ilands_ev l (by omega) (fun y hy => by have := (g3 y hy).2.2.1; omega)) (ev_const rfl)
  · simp only [if_neg h]
    exact ev_const rfl
theorem slandsof_ev (l : List ByteArray) : Ev (fun k => spec_LandsOf.f k l) (landsV l) := by
  unfold spec_LandsOf.f landsV
  refine Ev.bind (ok_ev l) ?_
  by_cases h : gridB l = true
  · obtain ⟨g1, g2, g3⟩ := grid_facts h
    simp only [if_pos h]
    exact Ev.bind (slands_ev l (by omega) (fun y hy => by have := (g3 y hy).2.2.1; omega)) (ev_const rfl)
  · simp only [if_neg h]
    exact ev_const rfl
theorem seas_same (l : List ByteArray) (hl : l.length ≤ 1048576) (hs : ∀ y ∈ l, y.size ≤ 1048576) : ∃ r z : Int, Ev (fun k => impl_SeasOf.f k l) (r, z) ∧ Ev (fun k => spec_SeasOf.f k l) (r, z) ∧ (gridB l = true → z = 0 ∧ Ev (fun k => impl_partsOf.f k l 46) r) := by
  by_cases h : gridB l = true
  · obtain ⟨r, r1, r2, _⟩ := parts_same h 46
    refine ⟨r, 0, ?_, ?_, fun _ => ⟨rfl, r1⟩⟩
    · unfold impl_SeasOf.f
      refine Ev.bind (vg_ev l hl hs) ?_
      simp only [if_pos h]
      exact Ev.bind r1 (ev_const rfl)
    · unfold spec_SeasOf.f
      refine Ev.bind (ok_ev l) ?_
      simp only [if_pos h]
      exact Ev.bind r2 (ev_const rfl)
  · refine ⟨0, 1, ?_, ?_, fun h2 => absurd h2 h⟩
    · unfold impl_SeasOf.f
      refine Ev.bind (vg_ev l hl hs) ?_
      simp only [if_neg h]
      exact ev_const rfl
    · unfold spec_SeasOf.f
      refine Ev.bind (ok_ev l) ?_
      simp only [if_neg h]
      exact ev_const rfl
theorem icoastof_ev {l : List ByteArray} (hg : gridB l = true) (hl : l.length ≤ 1048576) (hs : ∀ y ∈ l, y.size ≤ 1048576) {b : Int} (hb : b ∈ landsL l) : Ev (fun k => impl_CoastOf.f k l (strOfNums [b])) ((coastS l (cellsG b 0 l) : Int), 0) := by
  obtain ⟨b1, b2, b3⟩ := (landsD_mem l 26 97 b).1 hb
  have hbt : bt (strOfNums [b]) 0 = b := bt_son [b] (fun x hx => by rw [List.mem_singleton.1 hx]; omega) 0 (by simp)
  have hsz : (strOfNums [b]).size = 1 := strOfNums_size _
  have hland : landB (strOfNums [b]) = true := decide_eq_true ⟨hsz, by rw [hbt]; omega, by rw [hbt]; omega⟩
  have hcode : codeG l (strOfNums [b]) true = 0 := by
    unfold codeG
    rw [if_pos hg, if_pos ⟨hland, rfl⟩, hbt, if_neg (by omega)]
  unfold impl_CoastOf.f
  refine Ev.bind (icode_ev l hl hs (strOfNums [b]) true) ?_
  simp only [if_pos hcode, if_pos (show 0 < ((strOfNums [b]).size : Int) by omega), hbt]
  exact Ev.bind (coast_same hg b).1 (ev_const rfl)
/-! ### The law's own loops -/
theorem less_of_lt : ∀ x y : List UInt8, x < y → Op.bytesLess x y = true
  | x, [], h => absurd h (List.not_lt_nil x)
  | [], _ :: _, _ => by simp [Op.bytesLess]
  | a :: x, b :: y, h => by
    simp only [Op.bytesLess, Bool.or_eq_true, decide_eq_true_eq, Bool.and_eq_true, beq_iff_eq]
    rcases List.cons_lt_cons_iff.1 h with h | ⟨h1, h2⟩
    · exact Or.inl h
    · exact Or.inr ⟨h1, less_of_lt x y h2⟩
theorem borders_form (l : List ByteArray) : ∀ x ∈ (bordersV l).1, ∃ a b : Int, x = strOfNums [a, b] ∧ 0 ≤ a ∧ a < b ∧ b < 256 := by
  intro x hx
  unfold bordersV at hx
  split at hx
  · obtain ⟨a, b, h1, h2, h3, _, h5⟩ := (pairsB_mem l (landsL l) (landsD_asc l 26 97) x).1 hx
    have := landsL_bytes l a h1
    have := landsL_bytes l b h2
    exact ⟨a, b, h5, by omega, h3, by omega⟩
  · cases hx
theorem borders_asc (l : List ByteArray) : (bordersV l).1.Pairwise BL := by
  unfold bordersV
  split
  · exact pairsB_asc l _ (landsD_asc l 26 97) (landsL_bytes l)
  · exact List.Pairwise.nil
theorem law_l0 (x3 : List ByteArray) (x4 : Int) (x5 : List ByteArray) (x6 : Int) (x11 : ByteArray) (B : List ByteArray) (x19 : Int) (hB : ∀ x ∈ B, ∃ a b : Int, x = strOfNums [a, b] ∧ 0 ≤ a ∧ a < b ∧ b < 256) (hasc : B.Pairwise BL) (hlen : B.length ≤ 1048576) (hEnd : Ev (fun k => laws_FnGrids.l0 k x3 x4 x5 x6 x11 B x19 (B.length : Int)) true) (d : Nat) : ∀ i : Nat, i + d = B.length → Ev (fun k => laws_FnGrids.l0 k x3 x4 x5 x6 x11 B x19 i) true := by
  induction d with
  | zero =>
    intro i hi
    have hi : i = B.length := by omega
    subst hi
    exact hEnd
  | succ d ih =>
    intro i hi
    have hlt : i < B.length := by omega
    have ih := ih (i + 1) (by omega)
    obtain ⟨a, b, e, h0, h1, h2⟩ := hB _ (List.getElem_mem hlt)
    have hby : ∀ x ∈ [a, b], 0 ≤ x ∧ x < 256 := by
      intro x hx
      rcases List.mem_cons.1 hx with rfl | hx
      · omega
      · rw [List.mem_singleton.1 hx]; omega
    have hs : ((B[i]).size : Int) = 2 := by rw [e, strOfNums_size]; rfl
    have hb0 : bt B[i] 0 = a := by rw [e]; exact bt_son [a, b] hby 0 (by simp)
    have hb1 : bt B[i] 1 = b := by rw [e]; exact bt_son [a, b] hby 1 (by simp)
    apply ev_succ
    simp only [laws_FnGrids.l0, if_pos (show (i : Int) < (B.length : Int) by omega), if_pos (show (0 : Int) ≤ (i : Int) by omega), rdOf_at _ _ _ hlt, hs, if_true, if_pos (show (0 : Int) < 2 by omega), if_pos (show (1 : Int) < 2 by omega), hb0, hb1, if_neg (show ¬ a ≥ b by omega), w64 (x := (i : Int) + 1) (by omega) (by omega)]
    by_cases hi0 : i = 0
    · simp only [if_neg (show ¬ (i : Int) > 0 by omega)]
      exact ih
    · have e1 : (i : Int) - 1 = ((i - 1 : Nat) : Int) := by omega
      have hless : Op.bytesLess (B[i - 1]'(by omega)).toList (B[i]).toList = true := by
        rw [ByteArray.toList_eq, ByteArray.toList_eq]
        exact less_of_lt _ _ (List.pairwise_iff_getElem.1 hasc (i - 1) i (by omega) hlt (by omega))
      simp only [if_pos (show (i : Int) > 0 by omega), show wrap64 ((i : Int) - 1) = ((i - 1 : Nat) : Int) from (w64 (by omega) (by omega)).trans e1, if_pos (show (0 : Int) ≤ ((i - 1 : Nat) : Int) by omega), if_pos (show ((i - 1 : Nat) : Int) < (B.length : Int) by omega), rdOf_at _ _ _ (show i - 1 < B.length by omega), if_pos hless]
      exact ih
theorem turn_sizes {l : List ByteArray} (n : Nat) (h : ∀ y ∈ l, y.size ≤ 1048576) : ∀ y ∈ turnL n l, y.size ≤ 1048576 := by
  intro y hy
  obtain ⟨q, hq, rfl⟩ := List.mem_map.1 hy
  rw [tB_size]
  exact h q hq
theorem law_l1 {l : List ByteArray} (hg : gridB l = true) {a : Int} (ha : -1000 ≤ a ∧ a ≤ 1000) (hl : l.length ≤ 1048576) (hs : ∀ y ∈ l, y.size ≤ 1048576) (d : Nat) : ∀ i : Nat, i + d = (landsL l).length → Ev (fun k => laws_FnGrids.l1 k l a (turnL (cutZ (wideL l) a) l) (strOfNums (landsL l)) i) true := by
  obtain ⟨g1, g2, g3⟩ := grid_facts hg
  have hw := wide_bdI hg
  have hn := (cutZ_lt hw.1 a).1
  have hlen : (turnL (cutZ (wideL l) a) l).length ≤ 1048576 := by rw [turn_length]; exact hl
  have hn1 := landsL_len l
  induction d with
  | zero =>
    intro i hi
    have t1 := iturn_ev (turnL (cutZ (wideL l) a) l) hlen (turn_sizes _ hs) (-a)
    have e : turnV (turnL (cutZ (wideL l) a) l) (-a) = (l, 0) := by
      unfold turnV
      rw [if_pos (turn_grid hg _), if_pos (show -1000 ≤ -a ∧ -a ≤ 1000 by omega), turn_wide _ g1, cutZ_neg hw.1, turn_back hg hn]
    rw [e] at t1
    apply ev_succ
    simp only [laws_FnGrids.l1, strOfNums_size, if_neg (show ¬ (i : Int) < ((landsL l).length : Int) by omega), w64 (x := -a) (by omega) (by omega)]
    refine Ev.bind t1 ?_
    simp only [if_true]
    exact Ev.bind (f6texts_ev l hl) (ev_const rfl)
  | succ d ih =>
    intro i hi
    have hlt : i < (landsL l).length := by omega
    have ih := ih (i + 1) (by omega)
    have e1 : ((i : Int) + 1).toNat = i + 1 := by omega
    have hmem : (landsL l)[i] ∈ landsL l := List.getElem_mem hlt
    have c1 := icoastof_ev hg hl hs hmem
    have c2 := icoastof_ev (turn_grid hg (cutZ (wideL l) a)) hlen (turn_sizes _ hs) (b := (landsL l)[i]) (by rw [lands_turn]; exact hmem)
    rw [coast_turn hg hn] at c2
    apply ev_succ
    simp only [laws_FnGrids.l1, strOfNums_size, if_pos (show (i : Int) < ((landsL l).length : Int) by omega), if_pos (show (0 : Int) ≤ (i : Int) by omega), w64 (x := (i : Int) + 1) (by omega) (by omega), if_pos (show (i : Int) ≤ (i : Int) + 1 by omega), if_pos (show (i : Int) + 1 ≤ ((landsL l).length : Int) by omega), Int.toNat_natCast, e1, extract_son (landsL l) i hlt]
    refine Ev.bind c1 (Ev.bind c2 ?_)
    simp only [if_true]
    exact ih
theorem FnGrids : laws_FnGrids.Pure := by
  intro l hl hlb
  have hB := bytes_of hlb
  apply Ev.rounds
  unfold laws_FnGrids.f
  simp only [f6big_val, Option.bind_some]
  by_cases hlong : (l.length : Int) > 4096
  · simp only [hlong, decide_true, if_true]; exact ev_const rfl
  · simp only [hlong, decide_false, Bool.false_eq_true, if_false]
    obtain ⟨x, a, d1, d2, d3⟩ := turndraw_ev hB (by omega)
    have hxl : x.length ≤ 1048576 := by omega
    have hx : ∀ y ∈ x, y.size ≤ 1048576 := fun y hy => Nat.le_trans (d3 y hy) (by omega)
    have t1 := iturn_ev x hxl hx a
    have t2 := sturn_ev x a
    have l1 := ilandsof_ev x hxl hx
    have l2 := slandsof_ev x
    have b1 := impl_ev2 x hxl hx
    have b2 := spec_ev x
    obtain ⟨sr, sz, s1, s2, s3⟩ := seas_same x hxl hx
    have k1 := ilocked_ev x hxl hx
    have k2 := slocked_ev x
    have g1 := igreat_ev x hxl hx
    have g2 := sgreat_ev x
    have tl : (turnV x a).1.length ≤ 1048576 := by
      unfold turnV
      split
      · split
        · rw [turn_length]; exact hxl
        · simp
      · simp
    have f1 := f6texts_ev (turnV x a).1 tl
    have f2 := f6texts_ev (bordersV x).1 (bordersV_length x)
    have v1 := vg_ev x hxl hx
    have v2 : Ev (fun k => spec_ValidGrid.f k x) (gridB x) := by
      unfold spec_ValidGrid.f
      exact Ev.bind (ok_ev x) (ev_const rfl)
    have hEnd : Ev (fun k => laws_FnGrids.l0 k x a (turnV x a).1 (turnV x a).2 (landsV x).1 (bordersV x).1 sr ((bordersV x).1.length : Int)) true := by
      apply ev_succ
      simp only [laws_FnGrids.l0, if_neg (show ¬ ((bordersV x).1.length : Int) < ((bordersV x).1.length : Int) by omega)]
      by_cases hz : (turnV x a).2 = 0
      · have hg : gridB x = true := by
          by_cases hg : gridB x = true
          · exact hg
          · unfold turnV at hz; rw [if_neg hg] at hz; cases hz
        have ha : -1000 ≤ a ∧ a ≤ 1000 := by
          by_cases ha : -1000 ≤ a ∧ a ≤ 1000
          · exact ha
          · unfold turnV at hz; rw [if_pos hg, if_neg ha] at hz; cases hz
        have hT : (turnV x a).1 = turnL (cutZ (wideL x) a) x := by unfold turnV; rw [if_pos hg, if_pos ha]
        have hw := wide_bdI hg
        have hn := (cutZ_lt hw.1 a).1
        have hyl : (turnL (cutZ (wideL x) a) x).length ≤ 1048576 := by rw [turn_length]; exact hxl
        have hy := turn_sizes (cutZ (wideL x) a) hx
        have hgy := turn_grid hg (cutZ (wideL x) a)
        have l3 := ilandsof_ev _ hyl hy
        have b3 := impl_ev2 _ hyl hy
        obtain ⟨sr2, sz2, s4, _, s6⟩ := seas_same _ hyl hy
        have e1 : landsV (turnL (cutZ (wideL x) a) x) = (strOfNums (landsL x), 0) := by unfold landsV; rw [if_pos hgy, lands_turn]
        have e2 : landsV x = (strOfNums (landsL x), 0) := by unfold landsV; rw [if_pos hg]
        have e3 : (bordersV x).2 = 0 := by unfold bordersV; rw [if_pos hg]
        have e4 : sz2 = 0 := (s6 hgy).1
        have e5 : sr2 = sr := parts_turn hg hn 46 (s3 hg).2 (s6 hgy).2
        rw [e1] at l3
        rw [borders_turn hg hn] at b3
        subst e4
        subst e5
        simp only [if_pos hz, hT, e2]
        refine Ev.bind l3 (Ev.bind b3 (Ev.bind s4 ?_))
        simp only [if_true, e3]
        refine Ev.bind f2 ?_
        simp only [if_true, bne_self_eq_false]
        apply ev_succ
        simp only [laws_FnGrids.j2, Bool.false_eq_true, if_false]
        exact law_l1 hg ha hxl hx _ 0 (Nat.zero_add _)
      · simp only [if_neg hz]
        exact ev_const rfl
    refine Ev.bind d1 (Ev.bind t1 (Ev.bind t2 (Ev.bind l1 (Ev.bind l2 (Ev.bind b1 (Ev.bind b2 (Ev.bind s1 (Ev.bind s2 (Ev.bind k1 (Ev.bind k2 (Ev.bind g1 (Ev.bind g2 ?_))))))))))))
    simp only [if_true]
    refine Ev.bind f1 ?_
    simp only [if_true]
    refine Ev.bind f2 ?_
    simp only [if_true]
    refine Ev.bind v1 (Ev.bind v2 ?_)
    simp only [bne_self_eq_false]
    apply ev_succ
    simp only [laws_FnGrids.j0, Bool.false_eq_true, if_false]
    exact law_l0 _ _ _ _ _ _ _ (borders_form x) (borders_asc x) (bordersV_length x) hEnd _ 0 (Nat.zero_add _)

end Go.Proofs.YtdkmngghknohgaaDoor.Pure
