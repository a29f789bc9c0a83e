/- FnIslands: for all bytes: over drawn grids and lands the program's functions and the reference's come to the same; a land that is there has at least one part, not more parts than cells, and not more than four edges of coast a cell; and a land that is given away is gone, and the other one has its cells. -/
import Derived.Test.YtdkmngghknohgaaDoorStatFnIslands
namespace Go.Proofs.YtdkmngghknohgaaDoor.Pure
open Go.RowKit Go.Proofs.YtdkmngghknohgaaDoor.PFnIslands Go.Proofs.YtdkmngghknohgaaDoorW.PrintWords Go.Proofs.YtdkmngghknohgaaDoorW.PrintLast Go.Proofs.YtdkmngghknohgaaDoorW.PrintMore
set_option linter.unusedVariables false
set_option linter.unusedSimpArgs false
theorem w64 {x : Int} (h : -9223372036854775808 ≤ x) (h2 : x ≤ 9223372036854775807) : wrap64 x = x := by unfold wrap64; omega
theorem tdiv_nn {a b : Int} (h : 0 ≤ a) : Int.tdiv a b = a / b := Int.tdiv_eq_ediv_of_nonneg h
theorem tmod_nn {a b : Int} (h : 0 ≤ a) : Int.tmod a b = a % b := Int.tmod_eq_emod_of_nonneg h
theorem ev_succ {α : Type} {g : Nat → Option α} {r : α} (h : Ev (fun k => g (k + 1)) r) : Ev g r := Ev.step (fun _ => rfl) h
theorem ev_const {α : Type} {g : Option α} {r : α} (h : g = some r) : Ev (fun _ => g) r := ⟨0, fun _ _ => h⟩
theorem rdOf_at (d : ByteArray) (l : List ByteArray) (i : Nat) (h : i < l.length) : rdOf d l (i : Int) = l[i] := by
  unfold rdOf
  rw [Int.toNat_natCast, List.getD_eq_getElem?_getD, List.getElem?_eq_getElem h]
  rfl

/-- A byte that a name may have. -/
def nameC (c : Int) : Prop := ((97 : Int) ≤ c ∧ c ≤ 122) ∨ ((48 : Int) ≤ c ∧ c ≤ 57) ∨ c = 45
instance instNameC (c : Int) : Decidable (nameC c) := by unfold nameC; infer_instance
/-- A name. -/
def IsNm (s : ByteArray) : Prop := 1 ≤ s.size ∧ s.size ≤ 12 ∧ ((97 : Int) ≤ bt s 0 ∧ bt s 0 ≤ 122) ∧ ∀ i, i < s.size → nameC (bt s (i : Int))
instance instIsNm (s : ByteArray) : Decidable (IsNm s) := by unfold IsNm; infer_instance
theorem bt_at (s : ByteArray) (i : Nat) (h : i < s.size) : bt s (i : Int) = ((s.data.toList[i]'(by simpa using h)).toNat : Int) := by
  unfold bt
  rw [dif_pos (by simpa using h)]
  rfl
open Classical in

theorem dw_nil (p : UInt8 → Bool) (l : List UInt8) : l.dropWhile p = [] ↔ ∀ b ∈ l, p b = true := by
  induction l with
  | nil => simp
  | cons a l ih =>
    by_cases h : p a = true
    · simp [List.dropWhile, h, ih]
    · simp [List.dropWhile, h]
theorem dw_head (p : UInt8 → Bool) (l : List UInt8) (x : UInt8) (xs : List UInt8) (h : l.dropWhile p = x :: xs) : p x = false := by
  induction l with
  | nil => simp at h
  | cons a l ih =>
    by_cases h2 : p a = true
    · simp only [List.dropWhile, h2] at h
      exact ih h
    · have h3 : p a = false := by simpa using h2
      simp only [List.dropWhile, h3, List.cons.injEq] at h
      rw [← h.1]; exact h3
theorem trimS_nil (l cs : List UInt8) : Go.Lib.trimS l cs = [] ↔ ∀ b ∈ l, cs.contains b = true := by
  unfold Go.Lib.trimS Go.Lib.trimLeftS Go.Lib.trimRightS
  rw [dw_nil]
  constructor
  · intro h b hb
    cases e : l.reverse.dropWhile (cs.contains ·) with
    | nil =>
      rw [dw_nil] at e
      exact e b (by simpa using hb)
    | cons x xs =>
      exfalso
      have h1 := dw_head _ _ _ _ e
      have h2 := h x (by rw [e]; simp)
      rw [h2] at h1
      cases h1
  · intro h b hb
    exact h b (by simpa using (List.dropWhile_sublist _).subset (List.mem_reverse.1 hb))

theorem gin_val (a b c : Int) : spec_l00In.f a b c = some (decide (b ≤ a ∧ a ≤ c)) := by
  unfold spec_l00In.f
  by_cases h : a ≥ b
  · rw [if_pos h]
    congr 1
    rw [decide_eq_decide]
    omega
  · rw [if_neg h]
    congr 1
    symm
    rw [decide_eq_false_iff_not]
    omega
theorem small_val (b : Int) : spec_l01Small.f b = some (decide (97 ≤ b ∧ b ≤ 122)) := by
  unfold spec_l01Small.f
  by_cases h : b ≥ 97
  · rw [if_pos h]
    congr 1
    rw [decide_eq_decide]
    omega
  · rw [if_neg h]
    congr 1
    symm
    rw [decide_eq_false_iff_not]
    omega
/-- A byte of a grid. -/
def cellB (b : UInt8) : Bool := decide ((b.toNat : Int) = 46 ∨ (97 ≤ (b.toNat : Int) ∧ (b.toNat : Int) ≤ 122))
/-- A row of a grid that is n wide. -/
def rowB (n : Nat) (r : ByteArray) : Bool := decide (r.size = n ∧ 1 ≤ r.size ∧ r.size ≤ 32) && r.data.toList.all cellB
def wideL (l : List ByteArray) : Nat := (rdOf ByteArray.empty l 0).size
/-- A grid. -/
def gridB (l : List ByteArray) : Bool := decide (1 ≤ l.length ∧ l.length ≤ 16) && l.all (rowB (wideL l))
theorem dsize (r : ByteArray) : r.data.toList.length = r.size := by rw [Array.length_toList]; rfl
theorem ok_l (l : List ByteArray) (hl : l.length ≤ 16) (d : Nat) : ∀ i : Nat, i ≤ l.length → l.length - i = d → Ev (fun k => spec_l12Ok.l0 k l i) ((l.drop i).all (rowB (wideL l))) := by
  induction d with
  | zero =>
    intro i hi hd
    apply ev_succ
    simp only [spec_l12Ok.l0, if_neg (show ¬ (i : Int) < (l.length : Int) by omega)]
    rw [List.drop_eq_nil_of_le (by omega)]
    exact ev_const rfl
  | succ d ih =>
    intro i hi hd
    have hlt : i < l.length := by omega
    have hih := ih (i + 1) (by omega) (by omega)
    rw [List.drop_eq_getElem_cons hlt, List.all_cons]
    apply ev_succ
    simp only [spec_l12Ok.l0, if_pos (show (i : Int) < (l.length : Int) by omega), if_pos (show (0 : Int) ≤ (i : Int) by omega), if_pos (show (0 : Int) < (l.length : Int) by omega), rdOf_at _ _ _ hlt, gin_val, Option.bind_some]
    by_cases h1 : (l[i].size : Int) = ((rdOf ByteArray.empty l 0).size : Int)
    · simp only [if_pos h1]
      by_cases h2 : 1 ≤ (l[i].size : Int) ∧ (l[i].size : Int) ≤ 32
      · rw [decide_eq_true h2]
        apply ev_succ
        simp only [spec_l12Ok.j1, Bool.not_true, Bool.false_eq_true, if_false]
        have row : ∀ (e : Nat) (m : Nat), m ≤ l[i].size → l[i].size - m = e → Ev (fun k => spec_l12Ok.l1 k l i m) ((l[i].data.toList.drop m).all cellB && (l.drop (i + 1)).all (rowB (wideL l))) := by
          intro e
          induction e with
          | zero =>
            intro m hm he
            apply ev_succ
            simp only [spec_l12Ok.l1, if_pos (show (0 : Int) ≤ (i : Int) by omega), if_pos (show (i : Int) < (l.length : Int) by omega), rdOf_at _ _ _ hlt, if_neg (show ¬ (m : Int) < (l[i].size : Int) by omega), w64 (x := (i : Int) + 1) (by omega) (by omega)]
            rw [List.drop_eq_nil_of_le (by rw [dsize]; omega)]
            exact hih
          | succ e ih2 =>
            intro m hm he
            have hm2 : m < l[i].size := by omega
            have hm3 : m < l[i].data.toList.length := by rw [dsize]; exact hm2
            have h3 := ih2 (m + 1) (by omega) (by omega)
            rw [List.drop_eq_getElem_cons hm3, List.all_cons]
            apply ev_succ
            simp only [spec_l12Ok.l1, if_pos (show (0 : Int) ≤ (i : Int) by omega), if_pos (show (i : Int) < (l.length : Int) by omega), rdOf_at _ _ _ hlt, if_pos (show (m : Int) < (l[i].size : Int) by omega), if_pos (show (0 : Int) ≤ (m : Int) by omega), bt_at _ _ hm2, small_val, Option.bind_some, w64 (x := (m : Int) + 1) (by omega) (by omega)]
            by_cases h4 : ((l[i].data.toList[m]).toNat : Int) = 46
            · simp only [if_pos h4]
              rw [show cellB (l[i].data.toList[m]) = true from decide_eq_true (Or.inl h4), Bool.true_and]
              exact h3
            · simp only [if_neg h4]
              by_cases h5 : 97 ≤ ((l[i].data.toList[m]).toNat : Int) ∧ ((l[i].data.toList[m]).toNat : Int) ≤ 122
              · rw [decide_eq_true h5, show cellB (l[i].data.toList[m]) = true from decide_eq_true (Or.inr h5), Bool.true_and]
                simp only [if_true]
                exact h3
              · rw [decide_eq_false h5, show cellB (l[i].data.toList[m]) = false from decide_eq_false (fun h => h.elim h4 h5), Bool.false_and, Bool.false_and]
                simp only [Bool.false_eq_true, if_false]
                exact ev_const rfl
        have := row l[i].size 0 (by omega) (by omega)
        rw [List.drop_zero] at this
        rw [show rowB (wideL l) l[i] = l[i].data.toList.all cellB by unfold rowB wideL; rw [decide_eq_true ⟨by omega, by omega, by omega⟩, Bool.true_and]]
        exact this
      · rw [decide_eq_false h2]
        apply ev_succ
        simp only [spec_l12Ok.j1, Bool.not_false, if_true]
        rw [show rowB (wideL l) l[i] = false by unfold rowB; rw [decide_eq_false (fun h => h2 ⟨by omega, by omega⟩), Bool.false_and], Bool.false_and]
        exact ev_const rfl
    · simp only [if_neg h1]
      apply ev_succ
      simp only [spec_l12Ok.j1, if_true]
      rw [show rowB (wideL l) l[i] = false by unfold rowB; rw [decide_eq_false (fun h => h1 (by have := h.1; unfold wideL at this; omega)), Bool.false_and], Bool.false_and]
      exact ev_const rfl
theorem ok_ev (l : List ByteArray) : Ev (fun k => spec_l12Ok.f k l) (gridB l) := by
  unfold spec_l12Ok.f gridB
  simp only [gin_val, Option.bind_some]
  by_cases h : (1 : Int) ≤ (l.length : Int) ∧ (l.length : Int) ≤ 16
  · rw [decide_eq_true h, decide_eq_true ⟨by omega, by omega⟩, Bool.true_and]
    simp only [if_true]
    have := ok_l l (by omega) l.length 0 (by omega) (by omega)
    simpa using this
  · rw [decide_eq_false h, decide_eq_false (fun h2 => h ⟨by omega, by omega⟩), Bool.false_and]
    simp only [Bool.false_eq_true, if_false]
    exact ev_const rfl
theorem cut_cell (b : UInt8) : ([46, 97, 98, 99, 100, 101, 102, 103, 104, 105, 106, 107, 108, 109, 110, 111, 112, 113, 114, 115, 116, 117, 118, 119, 120, 121, 122] : List UInt8).contains b = cellB b := by
  have key : ((List.range 256).all fun n => (([46, 97, 98, 99, 100, 101, 102, 103, 104, 105, 106, 107, 108, 109, 110, 111, 112, 113, 114, 115, 116, 117, 118, 119, 120, 121, 122] : List UInt8).contains (UInt8.ofNat n) == cellB (UInt8.ofNat n))) = true := by decide +kernel
  have h := List.all_eq_true.1 key b.toNat (List.mem_range.2 b.toNat_lt)
  rw [UInt8.ofNat_toNat] at h
  exact beq_iff_eq.1 h
theorem trim_cells (r : ByteArray) : ((⟨(Go.Lib.trimS r.data.toList [46, 97, 98, 99, 100, 101, 102, 103, 104, 105, 106, 107, 108, 109, 110, 111, 112, 113, 114, 115, 116, 117, 118, 119, 120, 121, 122]).toArray⟩ : ByteArray).toList = ([] : List UInt8)) ↔ r.data.toList.all cellB = true := by
  rw [ByteArray.toList_eq]
  show Go.Lib.trimS r.data.toList _ = [] ↔ _
  rw [trimS_nil, List.all_eq_true]
  constructor
  · intro h b hb
    rw [← cut_cell]
    exact h b hb
  · intro h b hb
    show ([46, 97, 98, 99, 100, 101, 102, 103, 104, 105, 106, 107, 108, 109, 110, 111, 112, 113, 114, 115, 116, 117, 118, 119, 120, 121, 122] : List UInt8).contains b = true
    rw [cut_cell]
    exact h b hb
/-- What the program asks of a row. -/
def rowI (n : Nat) (r : ByteArray) : Bool := decide (r.size = n) && r.data.toList.all cellB
theorem vg_l (l : List ByteArray) (hl : l.length ≤ 1048576) (hs : ∀ y ∈ l, y.size ≤ 1048576) (d : Nat) : ∀ i : Nat, i ≤ l.length → l.length - i = d → Ev (fun k => impl_ValidGrid.l0 k l l (l.length : Int) i) ((l.drop i).all (rowI (wideL l)) && (decide (1 ≤ l.length ∧ l.length ≤ 16) && decide (1 ≤ wideL l ∧ wideL l ≤ 32))) := by
  induction d with
  | zero =>
    intro i hi hd
    apply ev_succ
    simp only [impl_ValidGrid.l0, if_neg (show ¬ (i : Int) < (l.length : Int) by omega)]
    rw [List.drop_eq_nil_of_le (by omega), List.all_nil, Bool.true_and]
    by_cases h1 : 1 ≤ l.length
    · rw [if_pos (by omega)]
      by_cases h2 : l.length ≤ 16
      · rw [if_pos (by omega), if_pos (by omega), decide_eq_true (p := 1 ≤ l.length ∧ l.length ≤ 16) ⟨h1, h2⟩, Bool.true_and]
        unfold wideL
        by_cases h3 : ((rdOf ByteArray.empty l 0).size : Int) ≥ 1
        · rw [if_pos h3]
          refine ev_const ?_
          congr 1
          rw [decide_eq_decide]
          omega
        · rw [if_neg h3, decide_eq_false (fun h => h3 (by omega))]
          exact ev_const rfl
      · rw [if_neg (by omega), decide_eq_false (fun h => h2 h.2), Bool.false_and]
        exact ev_const rfl
    · rw [if_neg (by omega), decide_eq_false (fun h => h1 h.1), Bool.false_and]
      exact ev_const rfl
  | succ d ih =>
    intro i hi hd
    have hlt : i < l.length := by omega
    have hih := ih (i + 1) (by omega) (by omega)
    have hsz := hs _ (List.getElem_mem hlt)
    rw [List.drop_eq_getElem_cons hlt, List.all_cons]
    apply ev_succ
    simp only [impl_ValidGrid.l0, if_pos (show (i : Int) < (l.length : Int) by omega), if_pos (show (0 : Int) ≤ (i : Int) by omega), if_pos (show (0 : Int) < (l.length : Int) by omega), rdOf_at _ _ _ hlt, w64 (x := (i : Int) + 1) (by omega) (by omega)]
    by_cases h1 : (l[i].size : Int) = ((rdOf ByteArray.empty l 0).size : Int)
    · simp only [if_pos h1]
      unfold strings_Trim.f
      simp only [if_pos (show l[i].size ≤ 9223372036854775807 ∧ (⟨#[46, 97, 98, 99, 100, 101, 102, 103, 104, 105, 106, 107, 108, 109, 110, 111, 112, 113, 114, 115, 116, 117, 118, 119, 120, 121, 122]⟩ : ByteArray).size < 4294967281 ∧ (⟨#[46, 97, 98, 99, 100, 101, 102, 103, 104, 105, 106, 107, 108, 109, 110, 111, 112, 113, 114, 115, 116, 117, 118, 119, 120, 121, 122]⟩ : ByteArray).data.toList.all (fun b => decide (b.toNat < 128)) = true from ⟨by omega, by decide, by decide +kernel⟩), Option.bind_some]
      by_cases h2 : l[i].data.toList.all cellB = true
      · simp only [trim_cells, if_pos h2]
        rw [show rowI (wideL l) l[i] = true by unfold rowI wideL; rw [h2, decide_eq_true (by omega)]; rfl, Bool.true_and]
        exact hih
      · simp only [trim_cells, if_neg h2]
        rw [show rowI (wideL l) l[i] = false by unfold rowI; rw [Bool.eq_false_iff.2 h2, Bool.and_false], Bool.false_and, Bool.false_and]
        exact ev_const rfl
    · simp only [if_neg h1]
      rw [show rowI (wideL l) l[i] = false by unfold rowI; rw [decide_eq_false (fun h => h1 (by unfold wideL at h; omega)), Bool.false_and], Bool.false_and, Bool.false_and]
      exact ev_const rfl
theorem grid_two (l : List ByteArray) : (l.all (rowI (wideL l)) && (decide (1 ≤ l.length ∧ l.length ≤ 16) && decide (1 ≤ wideL l ∧ wideL l ≤ 32))) = gridB l := by
  rw [Bool.eq_iff_iff]
  unfold gridB
  simp only [Bool.and_eq_true, decide_eq_true_eq, List.all_eq_true, rowI, rowB]
  constructor
  · rintro ⟨h1, h2, h3⟩
    exact ⟨h2, fun r hr => ⟨⟨(h1 r hr).1, by rw [(h1 r hr).1]; exact h3.1, by rw [(h1 r hr).1]; exact h3.2⟩, (h1 r hr).2⟩⟩
  · rintro ⟨h1, h2⟩
    refine ⟨fun r hr => ⟨(h2 r hr).1.1, (h2 r hr).2⟩, h1, ?_⟩
    have h0 : 0 < l.length := by omega
    have h3 := h2 _ (List.getElem_mem h0)
    have e : wideL l = (l[0]).size := by
      show (rdOf ByteArray.empty l ((0 : Nat) : Int)).size = _
      rw [rdOf_at _ _ _ h0]
    rw [e]
    exact h3.1.2
theorem vg_ev (l : List ByteArray) (hl : l.length ≤ 1048576) (hs : ∀ y ∈ l, y.size ≤ 1048576) : Ev (fun k => impl_ValidGrid.f k l) (gridB l) := by
  unfold impl_ValidGrid.f
  have := vg_l l hl hs l.length 0 (by omega) (by omega)
  rw [List.drop_zero, grid_two] at this
  exact this
theorem grid_facts {l : List ByteArray} (h : gridB l = true) : 1 ≤ l.length ∧ l.length ≤ 16 ∧ ∀ r ∈ l, r.size = wideL l ∧ 1 ≤ r.size ∧ r.size ≤ 32 ∧ r.data.toList.all cellB = true := by
  unfold gridB at h
  simp only [Bool.and_eq_true, decide_eq_true_eq, List.all_eq_true, rowB] at h
  exact ⟨h.1.1, h.1.2, fun r hr => ⟨(h.2 r hr).1.1, (h.2 r hr).1.2.1, (h.2 r hr).1.2.2, List.all_eq_true.2 (h.2 r hr).2⟩⟩
/-- How often a byte is in a row, and in a grid. -/
def cntR (c : Int) (bs : List UInt8) : Nat := bs.countP (fun b => decide ((b.toNat : Int) = c))
def cntG (c : Int) : List ByteArray → Nat
  | [] => 0
  | r :: l => cntR c r.data.toList + cntG c l
theorem cntR_le (c : Int) (bs : List UInt8) : cntR c bs ≤ bs.length := List.countP_le_length
theorem cnt_l (l : List ByteArray) (hl : l.length ≤ 1000) (hs : ∀ y ∈ l, y.size ≤ 1000) (c : Int) (d : Nat) : ∀ (i : Nat) (a : Int), i ≤ l.length → l.length - i = d → 0 ≤ a → a ≤ 1000 * (i : Int) → Ev (fun k => spec_l12Count.l0 k l c a i) (a + (cntG c (l.drop i) : Int)) := by
  induction d with
  | zero =>
    intro i a hi hd h0 h1
    apply ev_succ
    simp only [spec_l12Count.l0, if_neg (show ¬ (i : Int) < (l.length : Int) by omega)]
    rw [List.drop_eq_nil_of_le (by omega)]
    exact ev_const (by simp [cntG])
  | succ d ih =>
    intro i a hi hd h0 h1
    have hlt : i < l.length := by omega
    have hih := fun b => ih (i + 1) b (by omega) (by omega)
    have hsz := hs _ (List.getElem_mem hlt)
    rw [List.drop_eq_getElem_cons hlt]
    apply ev_succ
    simp only [spec_l12Count.l0, if_pos (show (i : Int) < (l.length : Int) by omega)]
    have row : ∀ (e : Nat) (m : Nat) (b : Int), m ≤ l[i].size → l[i].size - m = e → 0 ≤ b → b ≤ 1000 * (i : Int) + (m : Int) → Ev (fun k => spec_l12Count.l1 k l c b i m) (b + ((cntR c (l[i].data.toList.drop m) : Int) + (cntG c (l.drop (i + 1)) : Int))) := by
      intro e
      induction e with
      | zero =>
        intro m b hm he h2 h3
        apply ev_succ
        simp only [spec_l12Count.l1, if_pos (show (0 : Int) ≤ (i : Int) by omega), if_pos (show (i : Int) < (l.length : Int) by omega), rdOf_at _ _ _ hlt, if_neg (show ¬ (m : Int) < (l[i].size : Int) by omega), w64 (x := (i : Int) + 1) (by omega) (by omega)]
        rw [List.drop_eq_nil_of_le (by rw [dsize]; omega)]
        have := hih b h2 (by omega)
        rw [show b + ((cntR c [] : Int) + (cntG c (l.drop (i + 1)) : Int)) = b + (cntG c (l.drop (i + 1)) : Int) by simp [cntR]]
        exact this
      | succ e ih2 =>
        intro m b hm he h2 h3
        have hm2 : m < l[i].size := by omega
        have hm3 : m < l[i].data.toList.length := by rw [dsize]; exact hm2
        have h4 := fun b => ih2 (m + 1) b (by omega) (by omega)
        rw [List.drop_eq_getElem_cons hm3]
        apply ev_succ
        simp only [spec_l12Count.l1, if_pos (show (0 : Int) ≤ (i : Int) by omega), if_pos (show (i : Int) < (l.length : Int) by omega), rdOf_at _ _ _ hlt, if_pos (show (m : Int) < (l[i].size : Int) by omega), if_pos (show (0 : Int) ≤ (m : Int) by omega), bt_at _ _ hm2, w64 (x := (m : Int) + 1) (by omega) (by omega), w64 (x := b + 1) (by omega) (by omega)]
        by_cases h5 : ((l[i].data.toList[m]).toNat : Int) = c
        · simp only [if_pos h5]
          have := h4 (b + 1) (by omega) (by omega)
          rw [show b + ((cntR c (l[i].data.toList[m] :: l[i].data.toList.drop (m + 1)) : Int) + (cntG c (l.drop (i + 1)) : Int)) = b + 1 + ((cntR c (l[i].data.toList.drop (m + 1)) : Int) + (cntG c (l.drop (i + 1)) : Int)) by
            unfold cntR
            rw [List.countP_cons_of_pos (by simpa using h5)]
            omega]
          exact this
        · simp only [if_neg h5]
          have := h4 b (by omega) (by omega)
          rw [show cntR c (l[i].data.toList[m] :: l[i].data.toList.drop (m + 1)) = cntR c (l[i].data.toList.drop (m + 1)) by
            unfold cntR
            rw [List.countP_cons_of_neg (by simpa using h5)]]
          exact this
    have := row l[i].size 0 a (by omega) (by omega) h0 (by omega)
    rw [List.drop_zero] at this
    show Ev _ (a + ((cntR c l[i].data.toList + cntG c (l.drop (i + 1)) : Nat) : Int))
    rw [show (((cntR c l[i].data.toList + cntG c (l.drop (i + 1)) : Nat)) : Int) = (cntR c l[i].data.toList : Int) + (cntG c (l.drop (i + 1)) : Int) by omega]
    exact this
theorem cnt_ev (l : List ByteArray) (hl : l.length ≤ 1000) (hs : ∀ y ∈ l, y.size ≤ 1000) (c : Int) : Ev (fun k => spec_l12Count.f k l c) (cntG c l : Int) := by
  unfold spec_l12Count.f
  have := cnt_l l hl hs c l.length 0 0 (by omega) (by omega) (by omega) (by omega)
  rw [List.drop_zero, Int.zero_add] at this
  exact this

/-- The cells of a row, and of a grid, that have a byte. -/
def cellsR (i c : Int) : Int → List UInt8 → List S61
  | _, [] => []
  | m, b :: bs => if (b.toNat : Int) = c then ⟨i, m⟩ :: cellsR i c (m + 1) bs else cellsR i c (m + 1) bs
def cellsG (c : Int) : Int → List ByteArray → List S61
  | _, [] => []
  | i, r :: l => cellsR i c 0 r.data.toList ++ cellsG c (i + 1) l
theorem cellsR_length (i c : Int) : ∀ (bs : List UInt8) (m : Int), (cellsR i c m bs).length = cntR c bs
  | [], _ => rfl
  | b :: bs, m => by
    unfold cellsR cntR
    by_cases h : (b.toNat : Int) = c
    · rw [if_pos h, List.countP_cons_of_pos (by simpa using h), List.length_cons, cellsR_length i c bs]
      rfl
    · rw [if_neg h, List.countP_cons_of_neg (by simpa using h), cellsR_length i c bs]
      rfl
theorem cellsG_length (c : Int) : ∀ (l : List ByteArray) (i : Int), (cellsG c i l).length = cntG c l
  | [], _ => rfl
  | r :: l, i => by
    unfold cellsG cntG
    rw [List.length_append, cellsR_length, cellsG_length c l]
theorem cells_l (l : List ByteArray) (hl : l.length ≤ 1000) (hs : ∀ y ∈ l, y.size ≤ 1000) (c : Int) (d : Nat) : ∀ (i : Nat) (o : List S61), i ≤ l.length → l.length - i = d → o.length ≤ 1000 * i → Ev (fun k => impl_cellsWith.l0 k c o l (l.length : Int) i) (o ++ cellsG c i (l.drop i)) := by
  induction d with
  | zero =>
    intro i o hi hd ho
    apply ev_succ
    simp only [impl_cellsWith.l0, if_neg (show ¬ (i : Int) < (l.length : Int) by omega)]
    rw [List.drop_eq_nil_of_le (by omega)]
    exact ev_const (by simp [cellsG])
  | succ d ih =>
    intro i o hi hd ho
    have hlt : i < l.length := by omega
    have hih := fun b => ih (i + 1) b (by omega) (by omega)
    have hsz := hs _ (List.getElem_mem hlt)
    rw [List.drop_eq_getElem_cons hlt]
    apply ev_succ
    simp only [impl_cellsWith.l0, if_pos (show (i : Int) < (l.length : Int) by omega), if_pos (show (0 : Int) ≤ (i : Int) by omega), rdOf_at _ _ _ hlt]
    have row : ∀ (e : Nat) (m : Nat) (o : List S61), m ≤ l[i].size → l[i].size - m = e → o.length ≤ 1000 * i + m → Ev (fun k => impl_cellsWith.l1 k c o i l[i] l (l.length : Int) i (l[i].size : Int) m) (o ++ (cellsR i c m (l[i].data.toList.drop m) ++ cellsG c ((i : Int) + 1) (l.drop (i + 1)))) := by
      intro e
      induction e with
      | zero =>
        intro m o hm he ho
        apply ev_succ
        simp only [impl_cellsWith.l1, if_neg (show ¬ (m : Int) < (l[i].size : Int) by omega), w64 (x := (i : Int) + 1) (by omega) (by omega)]
        rw [List.drop_eq_nil_of_le (by rw [dsize]; omega)]
        have := hih o (by omega)
        rw [show ((i + 1 : Nat) : Int) = (i : Int) + 1 by omega] at this
        rw [show cellsR i c m [] = [] from rfl, List.nil_append]
        exact this
      | succ e ih2 =>
        intro m o hm he ho
        have hm2 : m < l[i].size := by omega
        have hm3 : m < l[i].data.toList.length := by rw [dsize]; exact hm2
        have h4 := fun b => ih2 (m + 1) b (by omega) (by omega)
        rw [List.drop_eq_getElem_cons hm3]
        apply ev_succ
        simp only [impl_cellsWith.l1, if_pos (show (m : Int) < (l[i].size : Int) by omega), if_pos (show (0 : Int) ≤ (m : Int) by omega), bt_at _ _ hm2, w64 (x := (m : Int) + 1) (by omega) (by omega), if_pos (show o.length < 8796093022208 by omega)]
        by_cases h5 : ((l[i].data.toList[m]).toNat : Int) = c
        · simp only [if_pos h5]
          have := h4 (o ++ [⟨(i : Int), (m : Int)⟩]) (by rw [List.length_append, List.length_singleton]; omega)
          rw [show cellsR i c m (l[i].data.toList[m] :: l[i].data.toList.drop (m + 1)) = ⟨(i : Int), (m : Int)⟩ :: cellsR i c ((m : Int) + 1) (l[i].data.toList.drop (m + 1)) by
            show (if _ then _ else _) = _
            simp only [if_pos h5]
            rw []]
          rw [List.append_assoc] at this
          exact this
        · simp only [if_neg h5]
          have := h4 o (by omega)
          rw [show cellsR i c m (l[i].data.toList[m] :: l[i].data.toList.drop (m + 1)) = cellsR i c ((m : Int) + 1) (l[i].data.toList.drop (m + 1)) by
            show (if _ then _ else _) = _
            simp only [if_neg h5]
            rw []]
          exact this
    have := row l[i].size 0 o (by omega) (by omega) (by omega)
    rw [List.drop_zero] at this
    exact this
theorem cells_ev (l : List ByteArray) (hl : l.length ≤ 1000) (hs : ∀ y ∈ l, y.size ≤ 1000) (c : Int) : Ev (fun k => impl_cellsWith.f k l c) (cellsG c 0 l) := by
  unfold impl_cellsWith.f
  have := cells_l l hl hs c l.length 0 [] (by omega) (by omega) (by simp)
  rw [List.drop_zero, List.nil_append] at this
  exact this

/-- Bytes. -/
def Bytes (l : List Int) : Prop := ∀ x ∈ l, 0 ≤ x ∧ x ≤ 255
theorem bytes_of {l : List Int} (h : ∀ x ∈ l, (Lit.int .u8 x).wf = true) : Bytes l := by
  intro x hx
  have := h x hx
  simpa [Lit.wf, IntKind.min, IntKind.max, IntKind.signed, IntKind.bits] using this
theorem rd_nat (l : List Int) (i : Nat) (h : i < l.length) : rd l (i : Int) = l[i] := by
  unfold rd
  rw [Int.toNat_natCast, List.getD_eq_getElem?_getD, List.getElem?_eq_getElem h]
  rfl
theorem rd_bytes {l : List Int} (h : Bytes l) {i : Int} (h0 : 0 ≤ i) (hi : i < (l.length : Int)) : 0 ≤ rd l i ∧ rd l i ≤ 255 := by
  obtain ⟨j, rfl⟩ := Int.eq_ofNat_of_zero_le h0
  rw [rd_nat l j (by omega)]
  exact h _ (List.getElem_mem _)
theorem wrap_u64 (n : Int) : IntKind.u64.wrap n = n % 18446744073709551616 := by simp [IntKind.wrap, IntKind.bits, IntKind.signed]
theorem low_byte {x : Int} (h0 : 0 ≤ x) (h1 : x < 18446744073709551616) : Go.bits .and .u64 x 255 = x % 256 :=
  bits_mask .u64 64 (by decide) (fun n h0 h1 => by rw [wrap_u64]; omega) 8 (by decide) x h0 (by simpa using h1)

theorem next_val {l : List Int} (hB : Bytes l) (hl : l.length ≤ 140737488351232) {a s : Int} (h0 : 0 ≤ a) (h1 : a ≤ 1000000000) : ∃ b s', spec_l00Src_next.f l a s = some (b, a + 1, s') ∧ 0 ≤ b ∧ b ≤ 255 := by
  unfold spec_l00Src_next.f
  rw [w64 (x := a + 1) (by omega) (by omega)]
  have hlow : ∀ z : Int, 0 ≤ wrap64 (Go.bits .and .u64 (IntKind.u64.wrap z / 1099511627776) 255) ∧ wrap64 (Go.bits .and .u64 (IntKind.u64.wrap z / 1099511627776) 255) ≤ 255 := by
    intro z
    rw [wrap_u64, low_byte (by omega) (by omega), w64 (by omega) (by omega)]
    omega
  by_cases h : a < (l.length : Int)
  · have hr := rd_bytes hB h0 h
    rw [if_pos h, if_pos h0, if_pos (by omega), w64 (x := rd l a) (by omega) (by omega)]
    exact ⟨_, _, rfl, hr.1, hr.2⟩
  · rw [if_neg h, if_neg (by omega)]
    exact ⟨_, _, rfl, (hlow _).1, (hlow _).2⟩
theorem pick_val {l : List Int} (hB : Bytes l) (hl : l.length ≤ 140737488351232) {a s : Int} (h0 : 0 ≤ a) (h1 : a ≤ 100000000) (n : Int) : ∃ v a' s', spec_l00Src_pick.f l a s n = some (v, a', s') ∧ a ≤ a' ∧ a' ≤ a + 2 ∧ 0 ≤ v ∧ (1 < n → v < n) ∧ (n ≤ 1 → v = 0) := by
  unfold spec_l00Src_pick.f
  by_cases h : n ≤ 1
  · rw [if_pos h]
    exact ⟨0, a, s, rfl, by omega, by omega, by omega, fun h => by omega, fun _ => rfl⟩
  · rw [if_neg h]
    obtain ⟨b, s1, e1, b0, b1⟩ := next_val hB hl (s := s) h0 (by omega)
    rw [e1]
    simp only [Option.bind_some]
    by_cases hn : n > 200
    · obtain ⟨c, s2, e2, c0, c1⟩ := next_val hB hl (a := a + 1) (s := s1) (by omega) (by omega)
      rw [if_pos hn, e2]
      simp only [Option.bind_some]
      rw [if_neg (by omega), w64 (x := b * 256) (by omega) (by omega), w64 (x := b * 256 + c) (by omega) (by omega), tmod_nn (by omega)]
      exact ⟨_, _, _, rfl, by omega, by omega, Int.emod_nonneg _ (by omega), fun _ => Int.emod_lt_of_pos _ (by omega), fun h2 => absurd h2 h⟩
    · rw [if_neg hn, if_neg (by omega), tmod_nn (by omega)]
      exact ⟨_, _, _, rfl, by omega, by omega, Int.emod_nonneg _ (by omega), fun _ => Int.emod_lt_of_pos _ (by omega), fun h2 => absurd h2 h⟩

theorem one_val {l : List Int} (hB : Bytes l) (hl : l.length ≤ 140737488351232) {a s : Int} (h0 : 0 ≤ a) (h1 : a ≤ 100000000) (n : Int) : ∃ v a' s', spec_l00Src_one.f l a s n = some (v, a', s') ∧ a ≤ a' ∧ a' ≤ a + 2 := by
  obtain ⟨v, a', s', e, h2, h3, _⟩ := pick_val hB hl (s := s) h0 h1 n
  unfold spec_l00Src_one.f
  rw [e]
  exact ⟨_, _, _, rfl, h2, h3⟩

theorem text_val {l : List Int} (hB : Bytes l) (hl : l.length ≤ 140737488351232) {a s : Int} (h0 : 0 ≤ a) (h1 : a ≤ 100000000) (m : List ByteArray) (hm : 0 < m.length) : ∃ v a' s', spec_l00Src_text.f l a s m = some (v, a', s') ∧ a ≤ a' ∧ a' ≤ a + 2 ∧ v ∈ m := by
  obtain ⟨v, a', s', e, h2, h3, h4, h5, h6⟩ := pick_val hB hl (s := s) h0 h1 (m.length : Int)
  have hv : v < (m.length : Int) := by
    by_cases h : 1 < (m.length : Int)
    · exact h5 h
    · have := h6 (by omega); omega
  unfold spec_l00Src_text.f
  rw [e]
  simp only [Option.bind_some]
  rw [if_pos h4, if_pos hv]
  obtain ⟨j, rfl⟩ := Int.eq_ofNat_of_zero_le h4
  rw [rdOf_at _ m j (by omega)]
  exact ⟨_, _, _, rfl, h2, h3, List.getElem_mem _⟩

theorem f6big_val (l : List Int) : laws_f6big.f l = some (decide ((l.length : Int) > 4096)) := rfl

theorem f6texts_l (l : List ByteArray) (hl : l.length ≤ 1048576) (d : Nat) : ∀ (i : Nat), i ≤ l.length → l.length - i = d → Ev (fun k => laws_f6texts.l0 k l l i) true := by
  induction d with
  | zero =>
    intro i hi hd
    apply ev_succ
    simp only [laws_f6texts.l0, if_neg (show ¬ (i : Int) < (l.length : Int) by omega)]
    exact ev_const rfl
  | succ d ih =>
    intro i hi hd
    have h1 := ih (i + 1) (by omega) (by omega)
    apply ev_succ
    simp only [laws_f6texts.l0, if_pos (show (i : Int) < (l.length : Int) by omega), if_pos (show (0 : Int) ≤ (i : Int) by omega), if_true, w64 (x := (i : Int) + 1) (by omega) (by omega)]
    exact h1
theorem f6texts_ev (l : List ByteArray) (hl : l.length ≤ 1048576) : Ev (fun k => laws_f6texts.f k l l) true := by
  unfold laws_f6texts.f
  simp only [if_true]
  exact f6texts_l l hl l.length 0 (by omega) (by omega)

theorem land_all (b : Int) : impl_isLetter.f b = some (decide (97 ≤ b ∧ b ≤ 122)) := small_val b
/-- A small letter. -/
def landB (a : ByteArray) : Bool := decide (a.size = 1 ∧ 97 ≤ bt a 0 ∧ bt a 0 ≤ 122)
theorem land_val (a : ByteArray) : impl_isLandText.f a = some (landB a) := by
  unfold impl_isLandText.f landB
  by_cases h : (a.size : Int) = 1
  · rw [if_pos h, if_pos (by omega), land_all]
    simp only [Option.bind_some]
    congr 1
    rw [decide_eq_decide]
    omega
  · rw [if_neg h, decide_eq_false (fun h2 => h (by omega))]
/-- The code of a grid, a land and what is asked of the other text. -/
def codeG (l : List ByteArray) (a : ByteArray) (ok : Bool) : Int := if gridB l = true then (if landB a = true ∧ ok = true then (if cntG (bt a 0) l = 0 then 3 else 0) else 2) else 1
theorem landB_size {a : ByteArray} (h : landB a = true) : a.size = 1 := (of_decide_eq_true h).1
theorem scode_ev (l : List ByteArray) (a : ByteArray) : Ev (fun k => spec_l12Code.f k l a) (codeG l a true) := by
  unfold spec_l12Code.f codeG
  refine Ev.bind (ok_ev l) ?_
  by_cases h : gridB l = true
  · obtain ⟨h1, h2, h3⟩ := grid_facts h
    simp only [if_pos h]
    simp only [h, if_true, small_val, Option.bind_some, and_true]
    by_cases h4 : (a.size : Int) = 1
    · simp only [if_pos h4, if_pos (show (0 : Int) < (a.size : Int) by omega)]
      apply ev_succ
      by_cases h5 : 97 ≤ bt a 0 ∧ bt a 0 ≤ 122
      · have hb : landB a = true := decide_eq_true ⟨by omega, h5⟩
        simp only [if_pos hb]
        simp only [spec_l12Code.j0, decide_eq_true h5, Bool.not_true, Bool.false_eq_true, if_false, if_pos (show (0 : Int) < (a.size : Int) by omega)]
        refine Ev.bind (cnt_ev l (by omega) (fun y hy => by have := h3 y hy; omega) (bt a 0)) ?_
        by_cases h6 : cntG (bt a 0) l = 0
        · rw [if_pos h6, if_pos (by omega)]
          exact ev_const rfl
        · rw [if_neg h6, if_neg (by omega)]
          exact ev_const rfl
      · have hb : ¬ landB a = true := fun h => h5 (of_decide_eq_true h).2
        simp only [if_neg hb]
        simp only [spec_l12Code.j0, decide_eq_false h5, Bool.not_false, if_true]
        exact ev_const rfl
    · have hb : ¬ landB a = true := fun h => h4 (by have := landB_size h; omega)
      simp only [if_neg h4]
      simp only [if_neg hb]
      apply ev_succ
      simp only [spec_l12Code.j0, if_true]
      exact ev_const rfl
  · simp only [if_neg h]
    try simp only [Bool.eq_false_iff.2 h, Bool.false_eq_true, if_false]
    exact ev_const rfl
theorem icode_ev (l : List ByteArray) (hl : l.length ≤ 1048576) (hs : ∀ y ∈ l, y.size ≤ 1048576) (a : ByteArray) (ok : Bool) : Ev (fun k => impl_landCode.f k l a ok) (codeG l a ok) := by
  unfold impl_landCode.f codeG
  refine Ev.bind (vg_ev l hl hs) ?_
  simp only [land_val, Option.bind_some, impl_check.f]
  by_cases h : gridB l = true
  · obtain ⟨h1, h2, h3⟩ := grid_facts h
    simp only [if_pos h]
    try simp only [h, if_true]
    by_cases hb : landB a = true
    · simp only [hb, if_true, true_and]
      cases ok with
      | true =>
        simp only [if_true, Option.bind_some]
        apply ev_succ
        have h5 := landB_size hb
        simp only [impl_landCode.j0, if_true, if_pos (show (0 : Int) < (a.size : Int) by omega)]
        refine Ev.bind (cells_ev l (by omega) (fun y hy => by have := h3 y hy; omega) (bt a 0)) ?_
        rw [cellsG_length]
        by_cases h6 : cntG (bt a 0) l = 0
        · rw [if_pos h6, if_pos (by omega)]
          exact ev_const rfl
        · rw [if_neg h6, if_neg (by omega)]
          exact ev_const rfl
      | false =>
        simp only [Bool.false_eq_true, if_false, Option.bind_some]
        apply ev_succ
        simp only [impl_landCode.j0, if_neg (show ¬ (2 : Int) = 0 by omega)]
        exact ev_const rfl
    · rw [if_neg (fun h : landB a = true ∧ ok = true => hb h.1)]
      simp only [Bool.eq_false_iff.2 hb, Bool.false_eq_true, if_false, Option.bind_some]
      apply ev_succ
      simp only [impl_landCode.j0, if_neg (show ¬ (2 : Int) = 0 by omega)]
      exact ev_const rfl
  · simp only [if_neg h]
    try simp only [Bool.eq_false_iff.2 h, Bool.false_eq_true, if_false, Option.bind_some]
    by_cases hb : landB a = true
    · simp only [hb, if_true]
      apply ev_succ
      simp only [impl_landCode.j0, if_neg (show ¬ (1 : Int) = 0 by omega)]
      exact ev_const rfl
    · simp only [Bool.eq_false_iff.2 hb, Bool.false_eq_true, if_false]
      apply ev_succ
      simp only [impl_landCode.j0, if_neg (show ¬ (1 : Int) = 0 by omega)]
      exact ev_const rfl
/-- One byte is replaced. -/
def swapL (x y : UInt8) (s : List UInt8) : List UInt8 := s.map fun b => if b = x then y else b
theorem pre_one (x b : UInt8) (s : List UInt8) : ([x] : List UInt8).isPrefixOf (b :: s) = (x == b) := by simp [List.isPrefixOf]
theorem index_ne (x b : UInt8) (s : List UInt8) (h : b ≠ x) : Go.Lib.index (b :: s) [x] = if Go.Lib.index s [x] == -1 then -1 else Go.Lib.index s [x] + 1 := by
  rw [Go.Lib.index, pre_one, if_neg (by simpa using fun e => h e.symm)]
theorem index_eq (x : UInt8) (s : List UInt8) : Go.Lib.index (x :: s) [x] = 0 := by
  rw [Go.Lib.index, pre_one, if_pos (by simp)]
theorem rep_ne (x b : UInt8) (new : List UInt8) (s : List UInt8) (h : b ≠ x) : ∀ k, Go.Lib.replaceK [x] new k (b :: s) = b :: Go.Lib.replaceK [x] new k s
  | 0 => rfl
  | k + 1 => by
    by_cases hm : Go.Lib.index s [x] = -1
    · rw [Go.Lib.replaceK, index_ne x b s h, hm, Go.Lib.replaceK, hm]
      rfl
    · have hg := Go.Lib.index_ge s [x]
      obtain ⟨j, hj⟩ := Int.eq_ofNat_of_zero_le (show 0 ≤ Go.Lib.index s [x] by omega)
      rw [Go.Lib.replaceK_hit [x] new k s j hj]
      have h2 : Go.Lib.index (b :: s) [x] = ((j + 1 : Nat) : Int) := by
        rw [index_ne x b s h, if_neg (by simpa using hm), hj]
        omega
      rw [Go.Lib.replaceK_hit [x] new k (b :: s) (j + 1) h2]
      rw [show j + 1 + ([x] : List UInt8).length = (j + ([x] : List UInt8).length) + 1 by omega]
      rfl
theorem rep_all (x y : UInt8) : ∀ s : List UInt8, Go.Lib.replaceK [x] [y] (Go.Lib.count s [x]) s = swapL x y s
  | [] => by
    have h : Go.Lib.count ([] : List UInt8) [x] = 0 := by rw [Go.Lib.count_one]; rfl
    rw [h]
    rfl
  | b :: s => by
    by_cases h : b = x
    · subst h
      rw [Go.Lib.count_cons_eq, Nat.add_comm, Go.Lib.replaceK_hit [b] [y] _ (b :: s) 0 (index_eq b s)]
      show y :: Go.Lib.replaceK [b] [y] (Go.Lib.count s [b]) s = _
      rw [rep_all b y s]
      unfold swapL
      rw [List.map_cons, if_pos rfl]
    · rw [Go.Lib.count_cons_ne b x s h, rep_ne x b [y] s h, rep_all x y s]
      unfold swapL
      rw [List.map_cons, if_neg h]
theorem rep_bytes (x y : UInt8) (s : List UInt8) : Go.Lib.replaceAll s [x] [y] = swapL x y s := by
  unfold Go.Lib.replaceAll Go.Lib.replace
  by_cases h : x = y
  · subst h
    rw [if_pos (by simp)]
    unfold swapL
    have e : (fun b : UInt8 => if b = x then x else b) = id := by
      funext b
      by_cases hb : b = x
      · rw [if_pos hb, hb]; rfl
      · rw [if_neg hb]; rfl
    rw [e, List.map_id]
  · rw [if_neg (by simpa using h)]
    unfold Go.Lib.replaceNum
    rw [if_pos (Or.inl (by omega))]
    exact rep_all x y s
theorem one_byte (a : ByteArray) (h : a.size = 1) : ∃ x : UInt8, a.data.toList = [x] ∧ bt a 0 = (x.toNat : Int) := by
  have h1 : a.data.toList.length = 1 := by rw [dsize]; exact h
  obtain ⟨x, hx⟩ := List.length_eq_one_iff.1 h1
  refine ⟨x, hx, ?_⟩
  have := bt_at a 0 (by omega)
  rw [show ((0 : Nat) : Int) = 0 from rfl] at this
  rw [this]
  simp [hx]
theorem give_row (a b r : ByteArray) (ha : a.size = 1) (hb : b.size = 1) : giveB (bt a 0) (bt b 0) r = (⟨(Go.Lib.replaceAll r.data.toList a.data.toList b.data.toList).toArray⟩ : ByteArray) := by
  obtain ⟨x, hx, ex⟩ := one_byte a ha
  obtain ⟨y, hy, ey⟩ := one_byte b hb
  rw [hx, hy, rep_bytes, ex, ey]
  unfold giveB strOfNums numsB swapL
  congr 2
  rw [List.map_map, List.map_map]
  apply List.map_congr_left
  intro c _
  show UInt8.ofNat (gvB (x.toNat : Int) (y.toNat : Int) (c.toNat : Int)).toNat = _
  unfold gvB
  by_cases h : c = x
  · subst h
    rw [if_pos rfl, if_pos rfl, Int.toNat_natCast, UInt8.ofNat_toNat]
  · rw [if_neg (fun e => h (UInt8.toNat_inj.1 (by omega))), if_neg h, Int.toNat_natCast, UInt8.ofNat_toNat]
theorem ig_l (l : List ByteArray) (hl : l.length ≤ 16) (hs : ∀ y ∈ l, y.size ≤ 32) (a b : ByteArray) (ha : a.size = 1) (hb : b.size = 1) (d : Nat) : ∀ (i : Nat) (o : List ByteArray), i ≤ l.length → l.length - i = d → o.length ≤ i → Ev (fun k => impl_GiveLand.l0 k a b o l (l.length : Int) i) (o ++ (l.drop i).map (giveB (bt a 0) (bt b 0)), 0) := by
  induction d with
  | zero =>
    intro i o hi hd ho
    apply ev_succ
    simp only [impl_GiveLand.l0, if_neg (show ¬ (i : Int) < (l.length : Int) by omega)]
    rw [List.drop_eq_nil_of_le (by omega)]
    exact ev_const (by simp)
  | succ d ih =>
    intro i o hi hd ho
    have hlt : i < l.length := by omega
    have hih := fun b => ih (i + 1) b (by omega) (by omega)
    have hsz := hs _ (List.getElem_mem hlt)
    rw [List.drop_eq_getElem_cons hlt]
    apply ev_succ
    simp only [impl_GiveLand.l0, strings_ReplaceAll.f, if_pos (show (i : Int) < (l.length : Int) by omega), if_pos (show (0 : Int) ≤ (i : Int) by omega), rdOf_at _ _ _ hlt, if_pos (show l[i].size < 100 ∧ a.size = 1 ∧ b.size ≤ 1 from ⟨by omega, ha, by omega⟩), Option.bind_some, if_pos (show o.length < 8796093022208 by omega), w64 (x := (i : Int) + 1) (by omega) (by omega)]
    rw [← give_row a b l[i] ha hb]
    have := hih (o ++ [giveB (bt a 0) (bt b 0) l[i]]) (by rw [List.length_append, List.length_singleton]; omega)
    rw [List.append_assoc] at this
    exact this
theorem ok_two (b : ByteArray) : (b.toList == ([46] : List UInt8)) = decide (b.size = 1 ∧ bt b 0 = 46) := by
  rw [Bool.eq_iff_iff, beq_iff_eq, decide_eq_true_iff, ByteArray.toList_eq]
  constructor
  · intro h
    have h1 : b.size = 1 := by rw [← dsize, h]; rfl
    obtain ⟨x, hx, ex⟩ := one_byte b h1
    refine ⟨h1, ?_⟩
    rw [ex]
    rw [hx] at h
    injection h with h
    rw [h]
    rfl
  · rintro ⟨h1, h2⟩
    obtain ⟨x, hx, ex⟩ := one_byte b h1
    rw [hx]
    congr 1
    apply UInt8.toNat_inj.1
    show x.toNat = 46
    omega
/-- What is asked of the text that is put in place. -/
def toB (b : ByteArray) : Bool := landB b || decide (b.size = 1 ∧ bt b 0 = 46)
theorem toB_size {b : ByteArray} (h : toB b = true) : b.size = 1 := by
  unfold toB at h
  rcases Bool.or_eq_true_iff.1 h with h | h
  · exact landB_size h
  · exact (of_decide_eq_true h).1
def resG (l : List ByteArray) (a b : ByteArray) : List ByteArray × Int := if codeG l a (toB b) = 0 then (l.map (giveB (bt a 0) (bt b 0)), 0) else ([], codeG l a (toB b))
theorem code_zero {l : List ByteArray} {a : ByteArray} {ok : Bool} (h : codeG l a ok = 0) : gridB l = true ∧ landB a = true ∧ ok = true := by
  unfold codeG at h
  split at h
  · rename_i h1
    split at h
    · rename_i h2
      exact ⟨h1, h2⟩
    · cases h
  · cases h
theorem impl_res (l : List ByteArray) (hl : l.length ≤ 1048576) (hs : ∀ y ∈ l, y.size ≤ 1048576) (a b : ByteArray) : Ev (fun k => impl_GiveLand.f k l a b) (resG l a b) := by
  have tail : Ev (fun k => impl_GiveLand.j0 k l a b (codeG l a (toB b))) (resG l a b) := by
    apply ev_succ
    unfold resG
    by_cases h : codeG l a (toB b) = 0
    · obtain ⟨h1, h2, h3⟩ := code_zero h
      obtain ⟨g1, g2, g3⟩ := grid_facts h1
      simp only [if_pos h]
      rw [h]
      simp only [impl_GiveLand.j0, if_true]
      have := ig_l l g2 (fun y hy => (g3 y hy).2.2.1) a b (landB_size h2) (toB_size h3) l.length 0 [] (by omega) (by omega) (by simp)
      rw [List.drop_zero, List.nil_append] at this
      exact this
    · simp only [if_neg h]
      simp only [impl_GiveLand.j0, if_neg h]
      exact ev_const rfl
  unfold impl_GiveLand.f
  simp only [land_val, Option.bind_some]
  by_cases h : landB b = true
  · have e : toB b = true := by unfold toB; rw [h]; rfl
    simp only [h, if_true]
    have h2 := icode_ev l hl hs a true
    rw [← e] at h2
    refine Ev.bind (by rw [e] at h2 ⊢; exact h2) tail
  · have e : toB b = (b.toList == ([46] : List UInt8)) := by unfold toB; rw [ok_two, Bool.eq_false_iff.2 h, Bool.false_or]
    simp only [Bool.eq_false_iff.2 h, Bool.false_eq_true, if_false]
    have h2 := icode_ev l hl hs a (b.toList == ([46] : List UInt8))
    rw [← e] at h2 ⊢
    exact Ev.bind h2 tail
theorem bad_val (b : ByteArray) : spec_GiveLand.bad b = some (!toB b) := by
  unfold spec_GiveLand.bad toB landB
  by_cases h : (b.size : Int) = 1
  · rw [if_pos h]
    by_cases h2 : bt b 0 = 46
    · rw [if_pos h2, decide_eq_true (p := b.size = 1 ∧ bt b 0 = 46) ⟨by omega, h2⟩, Bool.or_true]
      rfl
    · rw [if_neg h2, decide_eq_false (p := b.size = 1 ∧ bt b 0 = 46) (fun e => h2 e.2), Bool.or_false, small_val]
      show some (!decide (97 ≤ bt b 0 ∧ bt b 0 ≤ 122)) = _
      congr 2
      rw [decide_eq_decide]
      omega
  · rw [if_neg h, decide_eq_false (fun e => h (by omega)), decide_eq_false (fun e => h (by omega))]
    rfl
theorem spec_res (l : List ByteArray) (a b : ByteArray) : Ev (fun k => spec_GiveLand.f k l a b) (resG l a b) := by
  unfold spec_GiveLand.f
  refine Ev.bind (scode_ev l a) ?_
  simp only [bad_val, Option.bind_some]
  unfold resG
  by_cases h : gridB l = true
  · obtain ⟨g1, g2, g3⟩ := grid_facts h
    have n1 : ∀ ok, codeG l a ok ≠ 1 := by
      intro ok
      unfold codeG
      simp only [if_pos h]
      split
      · split <;> omega
      · omega
    simp only [if_neg (n1 true)]
    cases ht : toB b with
    | true =>
      simp only [Bool.not_true, Bool.false_eq_true, if_false]
      by_cases hz : codeG l a true = 0
      · obtain ⟨z1, z2, _⟩ := code_zero hz
        have := landB_size z2
        simp only [if_pos hz, if_pos hz]
        rw [if_pos ⟨by omega, by omega, fun r hr => by have := (g3 r hr).2.2.1; omega⟩]
        exact ev_const rfl
      · simp only [if_neg hz, if_neg hz]
        exact ev_const rfl
    | false =>
      have e : codeG l a false = 2 := by unfold codeG; rw [if_pos h, if_neg (fun h => by cases h.2)]
      simp only [Bool.not_false, if_true, e, if_neg (show ¬ (2 : Int) = 0 by omega)]
      exact ev_const rfl
  · have e : ∀ ok, codeG l a ok = 1 := by intro ok; unfold codeG; rw [if_neg h]
    simp only [e, if_true, if_neg (show ¬ (1 : Int) = 0 by omega)]
    exact ev_const rfl
theorem resG_length (l : List ByteArray) (a b : ByteArray) (hl : l.length ≤ 1048576) : (resG l a b).1.length ≤ 1048576 := by
  unfold resG
  split
  · simpa using hl
  · simp
theorem rows12 {l : List Int} (hB : Bytes l) (hl : l.length ≤ 140737488351232) (w : Nat) (hw : w ≤ 33) (x5 : ByteArray) (h5 : 1 ≤ x5.size) (h5' : x5.size ≤ 100) (h : Nat) : ∀ (x6 : List ByteArray) (a s : Int), x6.length + h ≤ 17 → (∀ y ∈ x6, y.size ≤ 33) → 0 ≤ a → a + 200 * (h : Int) ≤ 10000 →
    ∃ res a' s', Ev (fun k => spec_l12Draw.l0 k w x5 x6 h l a s) (res, a', s') ∧ 1 ≤ res.length + (17 - (x6.length + h)) ∧ res.length = x6.length + h ∧ (∀ y ∈ res, y.size ≤ 33) ∧ a ≤ a' ∧ a' ≤ a + 200 * (h : Int) := by
  induction h with
  | zero =>
    intro x6 a s h1 h2 h3 h4
    refine ⟨x6, a, s, ev_succ ?_, by omega, by omega, h2, Int.le_refl _, by omega⟩
    simp only [spec_l12Draw.l0, if_neg (show ¬ ((0 : Nat) : Int) > 0 by omega)]
    exact ev_const rfl
  | succ h ih =>
    intro x6 a s h1 h2 h3 h4
    have row : ∀ (c : Nat) (x8 : List Int) (a s : Int), x8.length + c ≤ 33 → 0 ≤ a → a + 4 * (c : Int) + 200 * (h : Int) ≤ 10000 →
        ∃ res a' s', Ev (fun k => spec_l12Draw.l1 k w x5 x6 ((h : Int) + 1) x8 c l a s) (res, a', s') ∧ res.length = x6.length + (h + 1) ∧ (∀ y ∈ res, y.size ≤ 33) ∧ a ≤ a' ∧ a' ≤ a + 4 * (c : Int) + 200 * (h : Int) := by
      intro c
      induction c with
      | zero =>
        intro x8 a s g1 g2 g3
        obtain ⟨res, a', s', e, r1, r2, r3, r4, r5⟩ := ih (x6 ++ [strOfNums x8]) a s (by rw [List.length_append, List.length_singleton]; omega) (by
          intro y hy
          rcases List.mem_append.1 hy with hy | hy
          · exact h2 y hy
          · rw [List.mem_singleton.1 hy, strOfNums_size]; omega) g2 (by omega)
        rw [List.length_append, List.length_singleton] at r2
        refine ⟨res, a', s', ev_succ ?_, by omega, r3, r4, by omega⟩
        simp only [spec_l12Draw.l1, if_neg (show ¬ ((0 : Nat) : Int) > 0 by omega), if_pos (show x6.length < 8796093022208 by omega)]
        rw [w64 (x := (h : Int) + 1 - 1) (by omega) (by omega), Int.add_sub_cancel]
        exact e
      | succ c ihc =>
        intro x8 a s g1 g2 g3
        have tail : ∀ a2 s2, a ≤ a2 → a2 ≤ a + 2 → ∀ m : Int, (m = a2) → ∃ res a' s', Ev (fun k => (spec_l00Src_pick.f l a2 s2 (x5.size : Int)).bind fun bt153 => (if 0 ≤ bt153.1 then (if bt153.1 < (x5.size : Int) then (if x8.length < 140737488355328 then (spec_l12Draw.l1 k w x5 x6 ((h : Int) + 1) (x8 ++ [bt x5 bt153.1]) (wrap64 (((c + 1 : Nat) : Int) - 1)) l bt153.2.1 bt153.2.2) else (none)) else (none)) else (none))) (res, a', s') ∧ res.length = x6.length + (h + 1) ∧ (∀ y ∈ res, y.size ≤ 33) ∧ a ≤ a' ∧ a' ≤ a + 4 * ((c + 1 : Nat) : Int) + 200 * (h : Int) := by
          intro a2 s2 q1 q2 _ _
          obtain ⟨v, a3, s3, e1, p1, p2, p3, p4, p5⟩ := pick_val hB hl (a := a2) (s := s2) (by omega) (by omega) (x5.size : Int)
          have hv : v < (x5.size : Int) := by
            by_cases hh : 1 < (x5.size : Int)
            · exact p4 hh
            · have := p5 (by omega); omega
          obtain ⟨res, a', s', e, r1, r2, r3, r4⟩ := ihc (x8 ++ [bt x5 v]) a3 s3 (by rw [List.length_append, List.length_singleton]; omega) (by omega) (by omega)
          refine ⟨res, a', s', ?_, r1, r2, by omega, by omega⟩
          simp only [e1, Option.bind_some, if_pos p3, if_pos hv, if_pos (show x8.length < 140737488355328 by omega), w64 (x := ((c + 1 : Nat) : Int) - 1) (by omega) (by omega)]
          rw [show ((c + 1 : Nat) : Int) - 1 = (c : Int) by omega]
          exact e
        by_cases g4 : (x8.length : Int) > 0
        · obtain ⟨b, a2, s2, e1, q1, q2⟩ := one_val hB hl (a := a) (s := s) g2 (by omega) 2
          cases b with
          | true =>
            obtain ⟨res, a', s', e, r1, r2, r3, r4⟩ := ihc (x8 ++ [rd x8 (wrap64 ((x8.length : Int) - 1))]) a2 s2 (by rw [List.length_append, List.length_singleton]; omega) (by omega) (by omega)
            refine ⟨res, a', s', ev_succ ?_, r1, r2, by omega, by omega⟩
            rw [w64 (x := (x8.length : Int) - 1) (by omega) (by omega)] at e
            simp only [spec_l12Draw.l1, if_pos (show ((c + 1 : Nat) : Int) > 0 by omega), if_pos g4, e1, Option.bind_some, if_true, w64 (x := (x8.length : Int) - 1) (by omega) (by omega), if_pos (show 0 ≤ (x8.length : Int) - 1 by omega), if_pos (show (x8.length : Int) - 1 < (x8.length : Int) by omega), if_pos (show x8.length < 140737488355328 by omega), w64 (x := ((c + 1 : Nat) : Int) - 1) (by omega) (by omega)]
            rw [show ((c + 1 : Nat) : Int) - 1 = (c : Int) by omega]
            exact e
          | false =>
            obtain ⟨res, a', s', e, r1, r2, r3, r4⟩ := tail a2 s2 q1 q2 _ rfl
            refine ⟨res, a', s', ev_succ ?_, r1, r2, r3, r4⟩
            simp only [spec_l12Draw.l1, if_pos (show ((c + 1 : Nat) : Int) > 0 by omega), if_pos g4, e1, Option.bind_some, Bool.false_eq_true, if_false]
            exact e
        · obtain ⟨res, a', s', e, r1, r2, r3, r4⟩ := tail a s (Int.le_refl _) (by omega) _ rfl
          refine ⟨res, a', s', ev_succ ?_, r1, r2, r3, r4⟩
          simp only [spec_l12Draw.l1, if_pos (show ((c + 1 : Nat) : Int) > 0 by omega), if_neg g4]
          exact e
    obtain ⟨res, a', s', e, r1, r2, r3, r4⟩ := row w [] a s (by simp; omega) h3 (by omega)
    refine ⟨res, a', s', ev_succ ?_, by omega, r1, r2, r3, by omega⟩
    simp only [spec_l12Draw.l0, if_pos (show ((h + 1 : Nat) : Int) > 0 by omega)]
    rw [show ((h + 1 : Nat) : Int) = (h : Int) + 1 by omega]
    exact e
theorem drawj_ev {l : List Int} (hB : Bytes l) (hl : l.length ≤ 140737488351232) {a s : Int} (h0 : 0 ≤ a) (h1 : a ≤ 1000) (w h : Int) (hw0 : 0 ≤ w) (hw : w ≤ 33) (hh0 : 1 ≤ h) (hh : h ≤ 17) : ∃ res a' s', Ev (fun k => spec_l12Draw.j0 k w h l a s) (res, a', s') ∧ 1 ≤ res.length ∧ res.length ≤ 17 ∧ (∀ y ∈ res, y.size ≤ 33) ∧ a ≤ a' ∧ a' ≤ a + 3500 := by
  obtain ⟨w, rfl⟩ := Int.eq_ofNat_of_zero_le hw0
  obtain ⟨h, rfl⟩ := Int.eq_ofNat_of_zero_le (show 0 ≤ h by omega)
  obtain ⟨v, a2, s2, e1, q1, q2, q3⟩ := text_val hB hl (a := a) (s := s) h0 (by omega) (([(⟨#[46, 46, 46, 97]⟩ : ByteArray), (⟨#[46, 46, 97, 98]⟩ : ByteArray), (⟨#[46, 97, 98, 99]⟩ : ByteArray), (⟨#[46, 46, 46, 97, 97, 98, 98, 122]⟩ : ByteArray), (⟨#[46]⟩ : ByteArray)] : List ByteArray)) (by simp)
  have hv : 1 ≤ v.size ∧ v.size ≤ 100 := by
    simp only [List.mem_cons, List.not_mem_nil, or_false] at q3
    rcases q3 with rfl | rfl | rfl | rfl | rfl <;> decide
  obtain ⟨res, a', s', e, r0, r1, r2, r3, r4⟩ := rows12 hB hl w (by omega) v hv.1 hv.2 h [] a2 s2 (by simp; omega) (by simp) (by omega) (by omega)
  simp only [List.length_nil, Nat.zero_add] at r1
  refine ⟨res, a', s', ev_succ ?_, by omega, by omega, r2, by omega, by omega⟩
  simp only [spec_l12Draw.j0, e1, Option.bind_some]
  exact e
theorem draw12_ev {l : List Int} (hB : Bytes l) (hl : l.length ≤ 140737488351232) {a s : Int} (h0 : 0 ≤ a) (h1 : a ≤ 100) : ∃ res a' s', Ev (fun k => spec_l12Draw.f k l a s) (res, a', s') ∧ 1 ≤ res.length ∧ res.length ≤ 17 ∧ (∀ y ∈ res, y.size ≤ 33) ∧ a ≤ a' ∧ a' ≤ a + 4000 := by
  obtain ⟨v1, a1, s1, e1, p1, p2, p3, p4, _⟩ := pick_val hB hl (a := a) (s := s) h0 (by omega) 9
  obtain ⟨v2, a2, s2, e2, q1, q2, q3, q4, _⟩ := pick_val hB hl (a := a1) (s := s1) (by omega) (by omega) 6
  obtain ⟨v3, a3, s3, e3, r1, r2, r3, r4, _⟩ := pick_val hB hl (a := a2) (s := s2) (by omega) (by omega) 24
  obtain ⟨v4, a4, s4, e4, t1, t2, t3, t4, _⟩ := pick_val hB hl (a := a3) (s := s3) (by omega) (by omega) 2
  have p4 := p4 (by omega)
  have q4 := q4 (by omega)
  have t4 := t4 (by omega)
  unfold spec_l12Draw.f
  simp only [e1, e2, e3, e4, Option.bind_some, w64 (x := 32 + v4) (by omega) (by omega), w64 (x := 1 + v2) (by omega) (by omega), w64 (x := 1 + v1) (by omega) (by omega), w64 (x := 16 + v4) (by omega) (by omega)]
  by_cases c1 : v3 = 0
  · simp only [if_pos c1]
    obtain ⟨res, a', s', e, u1, u2, u3, u4, u5⟩ := drawj_ev hB hl (a := a4) (s := s4) (by omega) (by omega) (32 + v4) (1 + v2) (by omega) (by omega) (by omega) (by omega)
    exact ⟨res, a', s', e, u1, u2, u3, by omega, by omega⟩
  · simp only [if_neg c1]
    by_cases c2 : v3 = 1
    · simp only [if_pos c2]
      obtain ⟨res, a', s', e, u1, u2, u3, u4, u5⟩ := drawj_ev hB hl (a := a4) (s := s4) (by omega) (by omega) (1 + v1) (16 + v4) (by omega) (by omega) (by omega) (by omega)
      exact ⟨res, a', s', e, u1, u2, u3, by omega, by omega⟩
    · simp only [if_neg c2]
      obtain ⟨res, a', s', e, u1, u2, u3, u4, u5⟩ := drawj_ev hB hl (a := a3) (s := s3) (by omega) (by omega) (1 + v1) (1 + v2) (by omega) (by omega) (by omega) (by omega)
      exact ⟨res, a', s', e, u1, u2, u3, by omega, by omega⟩
theorem set_sizes {x : List ByteArray} {n : Nat} {v : ByteArray} (hx : ∀ y ∈ x, y.size ≤ n) (hv : v.size ≤ n) (i : Nat) : ∀ y ∈ x.set i v, y.size ≤ n := by
  intro y hy
  rcases List.mem_or_eq_of_mem_set hy with h | h
  · exact hx y h
  · rw [h]; exact hv
theorem bent12_ev {l : List Int} (hB : Bytes l) (hl : l.length ≤ 140737488351232) {a s : Int} (h0 : 0 ≤ a) (h1 : a ≤ 100) : ∃ res a' s', Ev (fun k => spec_l12Bent.f k l a s) (res, a', s') ∧ res.length ≤ 17 ∧ (∀ y ∈ res, y.size ≤ 40) ∧ a ≤ a' ∧ a' ≤ a + 5000 := by
  obtain ⟨x, a1, s1, e1, p1, p2, p3, p4, p5⟩ := draw12_ev hB hl (a := a) (s := s) h0 h1
  obtain ⟨v2, a2, s2, e2, q1, q2, q3, q4, _⟩ := pick_val hB hl (a := a1) (s := s1) (by omega) (by omega) 24
  obtain ⟨v3, a3, s3, e3, r1, r2, r3⟩ := text_val hB hl (a := a2) (s := s2) (by omega) (by omega) (([(⟨#[]⟩ : ByteArray), (⟨#[65]⟩ : ByteArray), (⟨#[32]⟩ : ByteArray), (⟨#[97, 45, 98]⟩ : ByteArray)] : List ByteArray)) (by simp)
  have hv : v3.size ≤ 40 := by
    simp only [List.mem_cons, List.not_mem_nil, or_false] at r3
    rcases r3 with rfl | rfl | rfl | rfl <;> decide
  have p3' : ∀ y ∈ x, y.size ≤ 40 := fun y hy => Nat.le_trans (p3 y hy) (by omega)
  have hx0 : (rdOf ByteArray.empty x 0).size ≤ 33 := by
    show (rdOf ByteArray.empty x ((0 : Nat) : Int)).size ≤ 33
    rw [rdOf_at _ _ _ (show 0 < x.length by omega)]
    exact p3 _ (List.getElem_mem _)
  by_cases c1 : v2 = 0
  · refine ⟨[], a2, s2, ?_, by simp, by simp, by omega, by omega⟩
    unfold spec_l12Bent.f
    refine Ev.bind e1 ?_
    simp only [e2, Option.bind_some, if_pos c1]
    exact ev_const rfl
  · by_cases c2 : v2 = 1
    · refine ⟨x.set (0 : Int).toNat ((rdOf ByteArray.empty x 0) ++ (⟨#[97]⟩ : ByteArray)), a2, s2, ?_, by rw [List.length_set]; omega, set_sizes p3' (by rw [ByteArray.size_append]; have : (⟨#[97]⟩ : ByteArray).size = 1 := rfl; omega) _, by omega, by omega⟩
      unfold spec_l12Bent.f
      refine Ev.bind e1 ?_
      simp only [e2, Option.bind_some, if_neg c1, if_pos c2, if_pos (show 0 < (x.length : Int) by omega), if_pos (show (rdOf ByteArray.empty x 0).size + 1 ≤ 9223372036854775807 by omega)]
      exact ev_const rfl
    · by_cases c3 : v2 = 2
      · refine ⟨x.set ((x.length : Int) - 1).toNat v3, a3, s3, ?_, by rw [List.length_set]; omega, set_sizes p3' hv _, by omega, by omega⟩
        unfold spec_l12Bent.f
        refine Ev.bind e1 ?_
        simp only [e2, e3, Option.bind_some, if_neg c1, if_neg c2, if_pos c3, w64 (x := (x.length : Int) - 1) (by omega) (by omega), if_pos (show 0 ≤ (x.length : Int) - 1 by omega), if_pos (show (x.length : Int) - 1 < (x.length : Int) by omega)]
        exact ev_const rfl
      · refine ⟨x, a2, s2, ?_, p2, p3', by omega, by omega⟩
        unfold spec_l12Bent.f
        refine Ev.bind e1 ?_
        simp only [e2, Option.bind_some, if_neg c1, if_neg c2, if_neg c3]
        exact ev_const rfl
theorem drawland_val {l : List Int} (hB : Bytes l) (hl : l.length ≤ 140737488351232) {a s : Int} (h0 : 0 ≤ a) (h1 : a ≤ 100000) : ∃ v a' s', spec_l12Land.f l a s = some (v, a', s') ∧ a ≤ a' ∧ a' ≤ a + 2 := by
  unfold spec_l12Land.f
  obtain ⟨v, a', s', e, r1, r2, _⟩ := text_val hB hl (a := a) (s := s) h0 (by omega) (([(⟨#[97]⟩ : ByteArray), (⟨#[97]⟩ : ByteArray), (⟨#[97]⟩ : ByteArray), (⟨#[98]⟩ : ByteArray), (⟨#[99]⟩ : ByteArray), (⟨#[122]⟩ : ByteArray), (⟨#[]⟩ : ByteArray), (⟨#[46]⟩ : ByteArray), (⟨#[65]⟩ : ByteArray), (⟨#[97, 98]⟩ : ByteArray)] : List ByteArray)) (by simp)
  exact ⟨v, a', s', by rw [e]; rfl, r1, r2⟩
theorem givedraw_ev {l : List Int} (hB : Bytes l) (hl : l.length ≤ 140737488351232) : ∃ x a b, Ev (fun k => spec_DrawGiveLand.f k l) (x, a, b) ∧ x.length ≤ 17 ∧ ∀ y ∈ x, y.size ≤ 40 := by
  obtain ⟨x, a1, s1, e1, p1, p2, p3, p4⟩ := bent12_ev hB hl (a := 0) (s := 0) (by omega) (by omega)
  obtain ⟨a, a2, s2, e2, q1, q2⟩ := drawland_val hB hl (a := a1) (s := s1) (by omega) (by omega)
  obtain ⟨b, a3, s3, e3, r1, r2⟩ := drawland_val hB hl (a := a2) (s := s2) (by omega) (by omega)
  refine ⟨x, a, b, ?_, p1, p2⟩
  unfold spec_DrawGiveLand.f
  simp only [spec_l00From.f, Option.bind_some]
  refine Ev.bind e1 ?_
  simp only [e2, e3, Option.bind_some]
  exact ev_const rfl
theorem askdraw_ev {l : List Int} (hB : Bytes l) (hl : l.length ≤ 140737488351232) : ∃ x a, Ev (fun k => spec_DrawIslandsOf.f k l) (x, a) ∧ x.length ≤ 17 ∧ ∀ y ∈ x, y.size ≤ 40 := by
  obtain ⟨x, a1, s1, e1, p1, p2, p3, p4⟩ := bent12_ev hB hl (a := 0) (s := 0) (by omega) (by omega)
  obtain ⟨a, a2, s2, e2, q1, q2⟩ := drawland_val hB hl (a := a1) (s := s1) (by omega) (by omega)
  refine ⟨x, a, ?_, p1, p2⟩
  have h : Ev (fun k => spec_l12Ask.f k l) (x, a) := by
    unfold spec_l12Ask.f
    simp only [spec_l00From.f, Option.bind_some]
    refine Ev.bind e1 ?_
    simp only [e2, Option.bind_some]
    exact ev_const rfl
  unfold spec_DrawIslandsOf.f
  refine Ev.bind h ?_
  exact ev_const rfl
/-! ### The search for parts: the program's and the reference's go in step -/
def castP (p : Nat × Nat) : Int × Int := ((p.1 : Int), (p.2 : Int))
def cellP (p : Nat × Nat) : S61 := ⟨(p.1 : Int), (p.2 : Int)⟩
def idxP (W : Nat) (p : Nat × Nat) : Int := ((p.1 * W + p.2 : Nat) : Int)
def byteP (l : List ByteArray) (p : Nat × Nat) : Int := bt (rdOf ByteArray.empty l (p.1 : Int)) (p.2 : Int)
def okP (l : List ByteArray) (p : Nat × Nat) : Prop := p.1 < l.length ∧ p.2 < wideL l
/-- The neighbours of a cell. -/
def nbP (l : List ByteArray) (p : Nat × Nat) : List (Nat × Nat) := (p.1, (p.2 + 1) % wideL l) :: (p.1, (p.2 + (wideL l - 1)) % wideL l) :: ((if 0 < p.1 then [(p.1 - 1, p.2)] else []) ++ (if p.1 + 1 < l.length then [(p.1 + 1, p.2)] else []))
theorem divP {W i k : Nat} (hk : k < W) : (i * W + k) / W = i := by
  rw [Nat.mul_comm, Nat.mul_add_div (by omega), Nat.div_eq_of_lt hk, Nat.add_zero]
theorem modP {W i k : Nat} (hk : k < W) : (i * W + k) % W = k := by
  rw [Nat.add_comm, Nat.add_mul_mod_self_right, Nat.mod_eq_of_lt hk]
theorem tdivP {W : Nat} {p : Nat × Nat} (hp : p.2 < W) : Int.tdiv (idxP W p) (W : Int) = (p.1 : Int) := by
  unfold idxP
  rw [tdiv_nn (by omega), ← Int.natCast_ediv, divP hp]
theorem tmodP {W : Nat} {p : Nat × Nat} (hp : p.2 < W) : Int.tmod (idxP W p) (W : Int) = (p.2 : Int) := by
  unfold idxP
  rw [tmod_nn (by omega), ← Int.natCast_emod, modP hp]
theorem idx_inj {W : Nat} {p q : Nat × Nat} (hp : p.2 < W) (hq : q.2 < W) (h : idxP W p = idxP W q) : p = q := by
  have h1 : (p.1 : Int) = (q.1 : Int) := by rw [← tdivP hp, ← tdivP hq, h]
  have h2 : (p.2 : Int) = (q.2 : Int) := by rw [← tmodP hp, ← tmodP hq, h]
  exact Prod.ext (by omega) (by omega)
theorem cast_inj {p q : Nat × Nat} (h : castP p = castP q) : p = q := by
  injection h with h1 h2
  exact Prod.ext (by omega) (by omega)
theorem row_size {l : List ByteArray} (hg : gridB l = true) (i : Nat) (hi : i < l.length) : (rdOf ByteArray.empty l (i : Int)).size = wideL l := by
  rw [rdOf_at _ _ _ hi]
  exact ((grid_facts hg).2.2 _ (List.getElem_mem hi)).1
theorem wide_bd {l : List ByteArray} (hg : gridB l = true) : 1 ≤ wideL l ∧ wideL l ≤ 32 := by
  obtain ⟨h1, h2, h3⟩ := grid_facts hg
  have := h3 _ (List.getElem_mem (show 0 < l.length by omega))
  omega
theorem area_bd {l : List ByteArray} (hg : gridB l = true) : l.length * wideL l ≤ 512 := by
  obtain ⟨h1, h2, h3⟩ := grid_facts hg
  exact Nat.mul_le_mul h2 (wide_bd hg).2
theorem idx_lt {l : List ByteArray} {p : Nat × Nat} (hp : okP l p) : p.1 * wideL l + p.2 < l.length * wideL l := by
  have h1 : (p.1 + 1) * wideL l ≤ l.length * wideL l := Nat.mul_le_mul_right _ hp.1
  have h2 := hp.2
  rw [Nat.add_mul, Nat.one_mul] at h1
  omega
theorem in_of {l : List ByteArray} (hg : gridB l = true) {p : Nat × Nat} (hp : okP l p) : inG l (cellP p) := by
  obtain ⟨h1, h2⟩ := hp
  obtain ⟨g1, g2, _⟩ := grid_facts hg
  have h3 := row_size hg p.1 h1
  have h4 := wide_bd hg
  refine ⟨?_, ?_, ?_, ?_, ?_, ?_⟩ <;> (try simp only [cellP, h3]) <;> omega
theorem nb_ok {l : List ByteArray} (hg : gridB l = true) {p : Nat × Nat} (hp : okP l p) : ∀ q ∈ nbP l p, okP l q := by
  obtain ⟨h1, h2⟩ := hp
  have hw := wide_bd hg
  intro q hq
  unfold nbP at hq
  simp only [List.mem_cons, List.mem_append] at hq
  rcases hq with rfl | rfl | hq | hq
  · exact ⟨h1, Nat.mod_lt _ (by omega)⟩
  · exact ⟨h1, Nat.mod_lt _ (by omega)⟩
  · split at hq
    · rw [List.mem_singleton.1 hq]; exact ⟨by show p.1 - 1 < _; omega, h2⟩
    · cases hq
  · split at hq
    · rw [List.mem_singleton.1 hq]; exact ⟨by show p.1 + 1 < _; omega, h2⟩
    · cases hq
theorem east_val {W k : Nat} (hW : W ≤ 1000) (hW0 : 1 ≤ W) (hk : k < W) : Int.tmod (wrap64 ((k : Int) + 1)) (W : Int) = (((k + 1) % W : Nat) : Int) := by
  rw [w64 (by omega) (by omega), tmod_nn (by omega), Int.natCast_emod]
  rfl
theorem west_val {W k : Nat} (hW : W ≤ 1000) (hW0 : 1 ≤ W) (hk : k < W) : Int.tmod (wrap64 (wrap64 ((k : Int) + (W : Int)) - 1)) (W : Int) = (((k + (W - 1)) % W : Nat) : Int) := by
  rw [w64 (x := (k : Int) + (W : Int)) (by omega) (by omega), w64 (by omega) (by omega), tmod_nn (by omega), Int.natCast_emod]
  congr 1
  omega
theorem nextto_val {l : List ByteArray} (hg : gridB l = true) {p : Nat × Nat} (hp : okP l p) : impl_nextTo.f l (p.1 : Int) (p.2 : Int) = some ((nbP l p).map cellP) := by
  obtain ⟨h1, h2⟩ := hp
  obtain ⟨g1, g2, _⟩ := grid_facts hg
  have hw := wide_bd hg
  unfold impl_nextTo.f nbP
  simp only [show ((rdOf ByteArray.empty l 0).size : Int) = (wideL l : Int) from rfl, if_pos (show 0 < (l.length : Int) by omega), if_neg (show ¬ (wideL l : Int) = 0 by omega), Option.bind_some, east_val (show wideL l ≤ 1000 by omega) hw.1 h2, west_val (show wideL l ≤ 1000 by omega) hw.1 h2, w64 (x := (p.1 : Int) - 1) (by omega) (by omega), w64 (x := (p.1 : Int) + 1) (by omega) (by omega), w64 (x := (l.length : Int) - 1) (by omega) (by omega)]
  have e1 : 0 < p.1 → ((p.1 : Int) - 1) = ((p.1 - 1 : Nat) : Int) := fun h => by omega
  have e2 : ((p.1 : Int) + 1) = ((p.1 + 1 : Nat) : Int) := by omega
  by_cases c1 : 0 < p.1
  · simp only [if_pos c1, if_pos (show (p.1 : Int) > 0 by omega)]
    by_cases c2 : p.1 + 1 < l.length
    · simp only [if_pos c2, if_pos (show (p.1 : Int) < (l.length : Int) - 1 by omega)]
      rw [e1 c1, e2]
      rfl
    · simp only [if_neg c2, if_neg (show ¬ (p.1 : Int) < (l.length : Int) - 1 by omega)]
      rw [e1 c1]
      rfl
  · simp only [if_neg c1, if_neg (show ¬ (p.1 : Int) > 0 by omega)]
    by_cases c2 : p.1 + 1 < l.length
    · simp only [if_pos c2, if_pos (show (p.1 : Int) < (l.length : Int) - 1 by omega)]
      rw [e2]
      rfl
    · simp only [if_neg c2, if_neg (show ¬ (p.1 : Int) < (l.length : Int) - 1 by omega)]
      rfl
def zerosL : List Int → Nat
  | [] => 0
  | x :: s => (if x = 0 then 1 else 0) + zerosL s
theorem zeros_set : ∀ (s : List Int) (i : Nat), i < s.length → s.getD i 0 = 0 → zerosL (s.set i 1) + 1 = zerosL s
  | [], i, h, _ => by simp at h
  | x :: s, 0, _, h0 => by
    have h0 : x = 0 := h0
    subst h0
    show ((if (1 : Int) = 0 then 1 else 0) + zerosL s) + 1 = (if (0 : Int) = 0 then 1 else 0) + zerosL s
    rw [if_neg (by omega), if_pos rfl]
    omega
  | x :: s, i + 1, h, h0 => by
    have := zeros_set s i (by simpa using h) h0
    show ((if x = 0 then 1 else 0) + zerosL (s.set i 1)) + 1 = (if x = 0 then 1 else 0) + zerosL s
    omega
theorem zeros_rep : ∀ n : Nat, zerosL (List.replicate n 0) = n
  | 0 => rfl
  | n + 1 => by
    show (if (0 : Int) = 0 then 1 else 0) + zerosL (List.replicate n 0) = n + 1
    rw [zeros_rep n, if_pos rfl]
    omega
/-- What was seen by index is what was reached by cell. -/
structure Rel (l : List ByteArray) (seen : List Int) (S : List (Int × Int)) : Prop where
  len : seen.length = l.length * wideL l
  sum : S.length + zerosL seen = l.length * wideL l
  val : ∀ p, okP l p → rd seen (idxP (wideL l) p) = if castP p ∈ S then 1 else 0
theorem Rel.zero (l : List ByteArray) : Rel l (List.replicate (l.length * wideL l) 0) [] := by
  refine ⟨by simp, by rw [zeros_rep]; simp, fun p hp => ?_⟩
  rw [if_neg (by simp)]
  unfold rd
  rw [List.getD_eq_getElem?_getD, List.getElem?_replicate]
  split <;> rfl
theorem Rel.put {l : List ByteArray} {seen : List Int} {S : List (Int × Int)} (h : Rel l seen S) {p : Nat × Nat} (hp : okP l p) (hn : castP p ∉ S) : Rel l (seen.set (idxP (wideL l) p).toNat 1) (castP p :: S) ∧ zerosL (seen.set (idxP (wideL l) p).toNat 1) + 1 = zerosL seen := by
  have hlt := idx_lt hp
  have hl := h.len
  have e : (idxP (wideL l) p).toNat = p.1 * wideL l + p.2 := Int.toNat_natCast _
  have hv := h.val p hp
  rw [if_neg hn] at hv
  unfold rd at hv
  have hz := zeros_set seen (idxP (wideL l) p).toNat (by omega) hv
  refine ⟨⟨by rw [List.length_set]; exact hl, ?_, fun q hq => ?_⟩, hz⟩
  · have := h.sum
    rw [List.length_cons]
    omega
  · by_cases c : q = p
    · subst c
      rw [if_pos List.mem_cons_self]
      unfold rd
      rw [List.getD_eq_getElem?_getD, List.getElem?_set_self (by omega)]
      rfl
    · have h1 : (idxP (wideL l) p).toNat ≠ (idxP (wideL l) q).toNat := fun e_ => c (idx_inj hq.2 hp.2 (by unfold idxP at e_ ⊢; omega))
      have h2 := h.val q hq
      unfold rd at h2 ⊢
      rw [List.getD_eq_getElem?_getD, List.getElem?_set_ne h1, ← List.getD_eq_getElem?_getD, h2]
      have h3 : castP q ∈ castP p :: S ↔ castP q ∈ S := by
        rw [List.mem_cons]
        exact ⟨fun h => h.resolve_left (fun e_ => c (cast_inj e_)), Or.inr⟩
      simp only [h3]
theorem rd_mid (pre : List Int) (x : Int) (ys : List Int) : rd (pre ++ x :: ys) (pre.length : Int) = x := by
  unfold rd
  rw [Int.toNat_natCast, List.getD_eq_getElem?_getD, List.getElem?_append_right (Nat.le_refl _), Nat.sub_self]
  rfl
theorem rd_map {α : Type} (f : α → Int) (Q : List α) (i : Nat) (h : i < Q.length) : rd (Q.map f) (i : Int) = f Q[i] := by
  unfold rd
  rw [Int.toNat_natCast, List.getD_eq_getElem?_getD, List.getElem?_map, List.getElem?_eq_getElem h]
  rfl
theorem lemN {l : List ByteArray} (hg : gridB l = true) (c : Int) (a : Nat) : ∀ (ps : List (Nat × Nat)), (∀ p ∈ ps, okP l p) → ∀ (seen : List Int) (S : List (Int × Int)) (Q : List (Nat × Nat)), a < Q.length → Rel l seen S → zerosL seen + Q.length ≤ 600 →
    ∃ (seen' : List Int) (S' : List (Int × Int)) (N : List (Nat × Nat)), Rel l seen' S' ∧ zerosL seen' + N.length = zerosL seen ∧ (∀ p ∈ N, okP l p) ∧ ptN l c (ps.map cellP) S ((Q.drop (a + 1)).map cellP) = some (S', ((Q ++ N).drop (a + 1)).map cellP) ∧
      ∀ (m x8 : Int) (pre : List Int) (R : Int), pre.length + ps.length ≤ 100 → Ev (fun k => spec_l12Parts.l1 k l c (wideL l) seen' m x8 ((Q ++ N).map (idxP (wideL l))) ((a : Int) + 1)) R → Ev (fun k => spec_l12Parts.l2 k l c (wideL l) seen m x8 (Q.map (idxP (wideL l))) a (pre ++ ps.map (idxP (wideL l))) (pre.length : Int)) R := by
  obtain ⟨g1, g2, _⟩ := grid_facts hg
  have hw := wide_bd hg
  have har := area_bd hg
  intro ps
  induction ps with
  | nil =>
    intro _ seen S Q ha hR hz
    refine ⟨seen, S, [], hR, by simp, by simp, by rw [List.append_nil]; rfl, ?_⟩
    intro m x8 pre R hpre h
    rw [List.append_nil] at h
    rw [List.map_nil, List.append_nil]
    apply ev_succ
    simp only [spec_l12Parts.l2, if_neg (show ¬ (pre.length : Int) < (pre.length : Int) by omega), w64 (x := (a : Int) + 1) (by omega) (by omega)]
    exact h
  | cons p ps ih =>
    intro hps seen S Q ha hR hz
    have hp := hps p List.mem_cons_self
    have hin := in_of hg hp
    have hlt := idx_lt hp
    have hv := hR.val p hp
    have hlen := hR.len
    have hsum := hR.sum
    have hz2 : seen.length ≤ 512 := by omega
    have hx : 0 ≤ idxP (wideL l) p ∧ idxP (wideL l) p < (seen.length : Int) := by unfold idxP; omega
    have hsz := row_size hg p.1 hp.1
    have hp2 := hp.2
    have hp1 := hp.1
    have step : ∀ (m x8 : Int) (pre : List Int) (k : Nat), pre.length + (ps.length + 1) ≤ 100 → spec_l12Parts.l2 (k + 1) l c (wideL l) seen m x8 (Q.map (idxP (wideL l))) a (pre ++ (p :: ps).map (idxP (wideL l))) (pre.length : Int) = (if rd seen (idxP (wideL l) p) = 0 then (if byteP l p = c then (spec_l12Parts.l2 k l c (wideL l) (seen.set (idxP (wideL l) p).toNat 1) m x8 ((Q ++ [p]).map (idxP (wideL l))) a ((pre ++ [idxP (wideL l) p]) ++ ps.map (idxP (wideL l))) ((pre ++ [idxP (wideL l) p]).length : Int)) else (spec_l12Parts.l2 k l c (wideL l) seen m x8 (Q.map (idxP (wideL l))) a ((pre ++ [idxP (wideL l) p]) ++ ps.map (idxP (wideL l))) ((pre ++ [idxP (wideL l) p]).length : Int))) else (spec_l12Parts.l2 k l c (wideL l) seen m x8 (Q.map (idxP (wideL l))) a ((pre ++ [idxP (wideL l) p]) ++ ps.map (idxP (wideL l))) ((pre ++ [idxP (wideL l) p]).length : Int))) := by
      intro m x8 pre k hpre
      have e1 : pre ++ (p :: ps).map (idxP (wideL l)) = pre ++ idxP (wideL l) p :: ps.map (idxP (wideL l)) := rfl
      have e2 : (pre ++ [idxP (wideL l) p]) ++ ps.map (idxP (wideL l)) = pre ++ idxP (wideL l) p :: ps.map (idxP (wideL l)) := by rw [List.append_assoc]; rfl
      have e3 : ((pre ++ [idxP (wideL l) p]).length : Int) = (pre.length : Int) + 1 := by rw [List.length_append, List.length_singleton]; omega
      have e4 : (Q ++ [p]).map (idxP (wideL l)) = Q.map (idxP (wideL l)) ++ [idxP (wideL l) p] := by rw [List.map_append]; rfl
      rw [e1, e2, e3, e4]
      simp only [spec_l12Parts.l2, rd_mid, tdivP hp2, tmodP hp2, List.length_append, List.length_cons, List.length_map, hsz, w64 (x := (p.1 : Int)) (by omega) (by omega), if_pos (show (pre.length : Int) < ((pre.length + (ps.length + 1) : Nat) : Int) by omega), if_pos (show (0 : Int) ≤ (pre.length : Int) by omega), if_pos hx.1, if_pos hx.2, if_neg (show ¬ (wideL l : Int) = 0 by omega), if_pos (show (0 : Int) ≤ (p.1 : Int) by omega), if_pos (show (p.1 : Int) < (l.length : Int) by omega), if_pos (show (0 : Int) ≤ (p.2 : Int) by omega), if_pos (show (p.2 : Int) < (wideL l : Int) by omega), if_pos (show Q.length < 17592186044416 by omega), w64 (x := (pre.length : Int) + 1) (by omega) (by omega)]
      rfl
    by_cases hmem : castP p ∈ S
    · rw [if_pos hmem] at hv
      obtain ⟨seen', S', N, i1, i2, i3, i4, i5⟩ := ih (fun q hq => hps q (List.mem_cons_of_mem _ hq)) seen S Q ha hR hz
      refine ⟨seen', S', N, i1, i2, i3, ?_, ?_⟩
      · rw [List.map_cons]
        unfold ptN
        rw [if_pos hin, if_neg (fun e => e.2 hmem)]
        exact i4
      · intro m x8 pre R hpre h
        apply ev_succ
        simp only [List.length_cons] at hpre
        simp only [step m x8 pre _ hpre, hv, if_neg (show ¬ (1 : Int) = 0 by omega)]
        exact i5 m x8 _ R (by rw [List.length_append, List.length_singleton]; omega) h
    · rw [if_neg hmem] at hv
      by_cases hb : byteP l p = c
      · obtain ⟨hR1, hz1⟩ := Rel.put hR hp hmem
        obtain ⟨seen', S', N, i1, i2, i3, i4, i5⟩ := ih (fun q hq => hps q (List.mem_cons_of_mem _ hq)) _ _ (Q ++ [p]) (by rw [List.length_append, List.length_singleton]; omega) hR1 (by rw [List.length_append, List.length_singleton]; omega)
        refine ⟨seen', S', p :: N, i1, by rw [List.length_cons]; omega, fun q hq => ?_, ?_, ?_⟩
        · rcases List.mem_cons.1 hq with rfl | hq
          · exact hp
          · exact i3 q hq
        · rw [List.map_cons]
          unfold ptN
          rw [if_pos hin, if_pos ⟨hb, hmem⟩, if_pos ⟨by rw [List.length_map, List.length_drop]; omega, by omega⟩]
          have e : (Q.drop (a + 1)).map cellP ++ [cellP p] = ((Q ++ [p]).drop (a + 1)).map cellP := by
            rw [List.drop_append_of_le_length (by omega), List.map_append]
            rfl
          rw [e, show Q ++ p :: N = (Q ++ [p]) ++ N by rw [List.append_assoc]; rfl]
          exact i4
        · intro m x8 pre R hpre h
          apply ev_succ
          simp only [List.length_cons] at hpre
          simp only [step m x8 pre _ hpre, hv, if_true, if_pos hb]
          rw [show Q ++ p :: N = (Q ++ [p]) ++ N by rw [List.append_assoc]; rfl] at h
          exact i5 m x8 _ R (by rw [List.length_append, List.length_singleton]; omega) h
      · obtain ⟨seen', S', N, i1, i2, i3, i4, i5⟩ := ih (fun q hq => hps q (List.mem_cons_of_mem _ hq)) seen S Q ha hR hz
        refine ⟨seen', S', N, i1, i2, i3, ?_, ?_⟩
        · rw [List.map_cons]
          unfold ptN
          rw [if_pos hin, if_neg (fun e => hb e.1)]
          exact i4
        · intro m x8 pre R hpre h
          apply ev_succ
          simp only [List.length_cons] at hpre
          simp only [step m x8 pre _ hpre, hv, if_true, if_neg hb]
          exact i5 m x8 _ R (by rw [List.length_append, List.length_singleton]; omega) h
theorem idx_bd {l : List ByteArray} (hg : gridB l = true) {p : Nat × Nat} (hp : okP l p) : 0 ≤ idxP (wideL l) p ∧ idxP (wideL l) p < 512 := by
  have h1 := idx_lt hp
  have h2 := area_bd hg
  unfold idxP
  omega
theorem down_val {l : List ByteArray} (hg : gridB l = true) {p : Nat × Nat} (hp : okP l p) (h0 : 0 < p.1) : wrap64 (idxP (wideL l) p - (wideL l : Int)) = idxP (wideL l) (p.1 - 1, p.2) := by
  have h1 := idx_bd hg hp
  have h2 := wide_bd hg
  rw [w64 (by omega) (by omega)]
  obtain ⟨q, hq⟩ : ∃ q, p.1 = q + 1 := ⟨p.1 - 1, by omega⟩
  unfold idxP
  simp only [hq, Nat.add_sub_cancel, Nat.add_mul, Nat.one_mul]
  omega
theorem up_val {l : List ByteArray} (hg : gridB l = true) {p : Nat × Nat} (hp : okP l p) : wrap64 (idxP (wideL l) p + (wideL l : Int)) = idxP (wideL l) (p.1 + 1, p.2) := by
  have h1 := idx_bd hg hp
  have h2 := wide_bd hg
  rw [w64 (by omega) (by omega)]
  unfold idxP
  simp only [Nat.add_mul, Nat.one_mul]
  omega
theorem succ_val {l : List ByteArray} (hg : gridB l = true) {i k : Nat} (hp : okP l (i, k)) : wrap64 (idxP (wideL l) (i, k) + 1) = idxP (wideL l) (i, k + 1) := by
  have h1 := idx_bd hg hp
  rw [w64 (by omega) (by omega)]
  rfl
theorem fst_val {l : List ByteArray} (hg : gridB l = true) {p : Nat × Nat} (hp : okP l p) : wrap64 (p.1 : Int) = (p.1 : Int) := by
  have h1 := (grid_facts hg).2.1
  have h2 := hp.1
  exact w64 (by omega) (by omega)
theorem mul_val {l : List ByteArray} (hg : gridB l = true) {p : Nat × Nat} (hp : okP l p) : wrap64 ((p.1 : Int) * (wideL l : Int)) = ((p.1 * wideL l : Nat) : Int) := by
  have h1 := idx_lt hp
  have h2 := area_bd hg
  rw [← Int.natCast_mul]
  exact w64 (by omega) (by omega)
theorem east_idx {l : List ByteArray} (hg : gridB l = true) {p : Nat × Nat} (hp : okP l p) : wrap64 (((p.1 * wideL l : Nat) : Int) + (((p.2 + 1) % wideL l : Nat) : Int)) = idxP (wideL l) (p.1, (p.2 + 1) % wideL l) := by
  have h1 := idx_lt hp
  have h2 := area_bd hg
  have h3 := wide_bd hg
  have h4 := Nat.mod_lt (p.2 + 1) (show 0 < wideL l by omega)
  rw [w64 (by omega) (by omega)]
  rfl
theorem west_idx {l : List ByteArray} (hg : gridB l = true) {p : Nat × Nat} (hp : okP l p) : wrap64 (((p.1 * wideL l : Nat) : Int) + (((p.2 + (wideL l - 1)) % wideL l : Nat) : Int)) = idxP (wideL l) (p.1, (p.2 + (wideL l - 1)) % wideL l) := by
  have h1 := idx_lt hp
  have h2 := area_bd hg
  have h3 := wide_bd hg
  have h4 := Nat.mod_lt (p.2 + (wideL l - 1)) (show 0 < wideL l by omega)
  rw [w64 (by omega) (by omega)]
  rfl
theorem nb_len (l : List ByteArray) (p : Nat × Nat) : (nbP l p).length ≤ 4 := by
  unfold nbP
  simp only [List.length_cons, List.length_append]
  split <;> split <;> simp
theorem lemL {l : List ByteArray} (hg : gridB l = true) (c : Int) (d : Nat) : ∀ (seen : List Int) (S : List (Int × Int)) (Q : List (Nat × Nat)) (a : Nat), a ≤ Q.length → zerosL seen + (Q.length - a) = d → Rel l seen S → (∀ p ∈ Q, okP l p) → zerosL seen + Q.length ≤ 600 →
    ∃ (seen' : List Int) (S' : List (Int × Int)), Rel l seen' S' ∧ Ev (fun k => ptL l c k S ((Q.drop a).map cellP)) S' ∧
      ∀ (m x8 : Int) (R : Int), Ev (fun k => spec_l12Parts.l0 k l c (wideL l) seen' m (wrap64 (x8 + 1))) R → Ev (fun k => spec_l12Parts.l1 k l c (wideL l) seen m x8 (Q.map (idxP (wideL l))) (a : Int)) R := by
  obtain ⟨g1, g2, _⟩ := grid_facts hg
  have hw := wide_bd hg
  have har := area_bd hg
  have stop : ∀ (seen : List Int) (S : List (Int × Int)) (Q : List (Nat × Nat)) (a : Nat), a = Q.length → Rel l seen S → ∃ (seen' : List Int) (S' : List (Int × Int)), Rel l seen' S' ∧ Ev (fun k => ptL l c k S ((Q.drop a).map cellP)) S' ∧
      ∀ (m x8 : Int) (R : Int), Ev (fun k => spec_l12Parts.l0 k l c (wideL l) seen' m (wrap64 (x8 + 1))) R → Ev (fun k => spec_l12Parts.l1 k l c (wideL l) seen m x8 (Q.map (idxP (wideL l))) (a : Int)) R := by
    intro seen S Q a ha hR
    refine ⟨seen, S, hR, ?_, ?_⟩
    · rw [List.drop_eq_nil_of_le (by omega)]
      apply ev_succ
      exact ev_const rfl
    · intro m x8 R h
      apply ev_succ
      simp only [spec_l12Parts.l1, List.length_map, if_neg (show ¬ (a : Int) < (Q.length : Int) by omega)]
      exact h
  induction d with
  | zero =>
    intro seen S Q a ha hd hR hQ hz
    exact stop seen S Q a (by omega) hR
  | succ d ih =>
    intro seen S Q a ha hd hR hQ hz
    by_cases hlt : a < Q.length
    · have hp := hQ _ (List.getElem_mem hlt)
      generalize hpe : Q[a] = p at hp
      have hsum := hR.sum
      obtain ⟨seen', S', N, i1, i2, i3, i4, i5⟩ := lemN hg c a (nbP l p) (nb_ok hg hp) seen S Q hlt hR hz
      obtain ⟨seen2, S2, j1, j2, j3⟩ := ih seen' S' (Q ++ N) (a + 1) (by rw [List.length_append]; omega) (by rw [List.length_append]; omega) i1 (fun q hq => (List.mem_append.1 hq).elim (hQ q) (i3 q)) (by rw [List.length_append]; omega)
      refine ⟨seen2, S2, j1, ?_, ?_⟩
      · rw [List.drop_eq_getElem_cons hlt, hpe]
        apply ev_succ
        have e := nextto_val hg hp
        simp only [List.map_cons, ptL]
        rw [show impl_nextTo.f l (cellP p).f0 (cellP p).f1 = some ((nbP l p).map cellP) from e]
        simp only [Option.bind_some, i4]
        exact j2
      · intro m x8 R h
        have hnl := nb_len l p
        have h2 := i5 m x8 [] R (by simp only [List.length_nil]; omega) (by
          have := j3 m x8 R h
          rw [show ((a + 1 : Nat) : Int) = (a : Int) + 1 by omega] at this
          exact this)
        rw [List.nil_append] at h2
        have hp1 := hp.1
        have hp2 := hp.2
        have tailJ : ∀ (y : List Int), y.length ≤ 3 → y ++ (if p.1 + 1 < l.length then [idxP (wideL l) (p.1 + 1, p.2)] else []) = (nbP l p).map (idxP (wideL l)) → Ev (fun k => spec_l12Parts.j3 k l c (wideL l) seen m x8 (Q.map (idxP (wideL l))) (a : Int) (p.1 : Int) y) R := by
          intro y hy hye
          apply ev_succ
          rw [← hye] at h2
          by_cases c2 : p.1 + 1 < l.length
          · simp only [if_pos c2] at h2
            simp only [spec_l12Parts.j3, w64 (x := (p.1 : Int) + 1) (by omega) (by omega), if_pos (show (p.1 : Int) + 1 < (l.length : Int) by omega), if_pos (show (0 : Int) ≤ (a : Int) by omega), List.length_map, if_pos (show (a : Int) < (Q.length : Int) by omega), if_pos (show y.length < 17592186044416 by omega), rd_map _ Q a hlt, hpe, up_val hg hp]
            apply ev_succ
            simp only [spec_l12Parts.j4]
            exact h2
          · simp only [if_neg c2, List.append_nil] at h2
            simp only [spec_l12Parts.j3, w64 (x := (p.1 : Int) + 1) (by omega) (by omega), if_neg (show ¬ (p.1 : Int) + 1 < (l.length : Int) by omega)]
            apply ev_succ
            simp only [spec_l12Parts.j4]
            exact h2
        apply ev_succ
        simp only [spec_l12Parts.l1, List.length_map, if_pos (show (a : Int) < (Q.length : Int) by omega), if_pos (show (0 : Int) ≤ (a : Int) by omega), if_neg (show ¬ (wideL l : Int) = 0 by omega), rd_map _ Q a hlt, hpe, tdivP hp2, tmodP hp2, fst_val hg hp, mul_val hg hp, east_val (show wideL l ≤ 1000 by omega) hw.1 hp2, west_val (show wideL l ≤ 1000 by omega) hw.1 hp2, east_idx hg hp, west_idx hg hp, Option.bind_some]
        by_cases c1 : 0 < p.1
        · simp only [if_pos (show (p.1 : Int) > 0 by omega), List.length_cons, List.length_nil, if_pos (show 0 + 1 + 1 < 17592186044416 by omega), down_val hg hp c1]
          refine tailJ _ (by simp) ?_
          unfold nbP
          rw [if_pos c1]
          by_cases c2 : p.1 + 1 < l.length
          · rw [if_pos c2, if_pos c2]; rfl
          · rw [if_neg c2, if_neg c2]; rfl
        · simp only [if_neg (show ¬ (p.1 : Int) > 0 by omega)]
          refine tailJ _ (by simp) ?_
          unfold nbP
          rw [if_neg c1]
          by_cases c2 : p.1 + 1 < l.length
          · rw [if_pos c2, if_pos c2]; rfl
          · rw [if_neg c2, if_neg c2]; rfl
    · exact stop seen S Q a (by omega) hR
/-- From one index on the two searches come to the same. -/
def SameFrom (l : List ByteArray) (c : Int) (cs : List S61) (x : Int) : Prop := ∀ (seen : List Int) (S : List (Int × Int)) (m : Int), Rel l seen S → 0 ≤ m → m ≤ x → ∃ r : Int, Ev (fun k => ptC l c k cs S m) r ∧ Ev (fun k => spec_l12Parts.l0 k l c (wideL l) seen m x) r ∧ m ≤ r ∧ r ≤ m + (cs.length : Int) ∧ (S = [] → 0 < cs.length → m + 1 ≤ r)
theorem lemR {l : List ByteArray} (hg : gridB l = true) (c : Int) (i : Nat) (hi : i < l.length) (rest : List S61) (hrest : SameFrom l c rest (((i + 1) * wideL l : Nat) : Int)) (d : Nat) : ∀ k : Nat, k + d = wideL l → SameFrom l c (cellsR i c k (l[i].data.toList.drop k) ++ rest) (idxP (wideL l) (i, k)) := by
  obtain ⟨g1, g2, g3⟩ := grid_facts hg
  have hw := wide_bd hg
  have har := area_bd hg
  have hsz := row_size hg i hi
  have hsz2 : l[i].size = wideL l := (g3 _ (List.getElem_mem hi)).1
  induction d with
  | zero =>
    intro k hk
    rw [List.drop_eq_nil_of_le (by rw [dsize]; omega)]
    have e : idxP (wideL l) (i, k) = (((i + 1) * wideL l : Nat) : Int) := by
      unfold idxP
      simp only [Nat.add_mul, Nat.one_mul]
      omega
    rw [e]
    exact hrest
  | succ d ih =>
    intro k hk
    have hkW : k < wideL l := by omega
    have hok : okP l (i, k) := ⟨hi, hkW⟩
    have hin := in_of hg hok
    have hlt := idx_lt hok
    have ih := ih (k + 1) (by omega)
    have hb2 : k < l[i].data.toList.length := by rw [dsize]; omega
    have hx1 : idxP (wideL l) (i, k + 1) = idxP (wideL l) (i, k) + 1 := rfl
    have hx0 : 0 ≤ idxP (wideL l) (i, k) ∧ idxP (wideL l) (i, k) < 512 := by
      unfold idxP
      dsimp only at hlt ⊢
      omega
    have hbyte : byteP l (i, k) = ((l[i].data.toList[k]).toNat : Int) := by
      show bt (rdOf ByteArray.empty l (i : Int)) (k : Int) = _
      rw [rdOf_at _ _ _ hi, bt_at _ _ (by omega)]
    intro seen S m hR hm0 hm1
    have hlen := hR.len
    have hsum := hR.sum
    have hv := hR.val _ hok
    have hlx : idxP (wideL l) (i, k) < (seen.length : Int) := by
      unfold idxP
      dsimp only at hlt ⊢
      omega
    rw [List.drop_eq_getElem_cons hb2]
    have goOn : ∀ R, Ev (fun k_ => spec_l12Parts.l0 k_ l c (wideL l) seen m (idxP (wideL l) (i, k + 1))) R → (castP (i, k) ∈ S ∨ byteP l (i, k) ≠ c) → Ev (fun k_ => spec_l12Parts.l0 k_ l c (wideL l) seen m (idxP (wideL l) (i, k))) R := by
      intro R h hor
      apply ev_succ
      by_cases hmem : castP (i, k) ∈ S
      · rw [if_pos hmem] at hv
        simp only [spec_l12Parts.l0, if_pos hlx, if_pos hx0.1, if_pos hv]
        apply ev_succ
        simp only [spec_l12Parts.j1, if_true, succ_val hg hok]
        exact h
      · rw [if_neg hmem] at hv
        have hne : (byteP l (i, k) != c) = true := bne_iff_ne.2 (hor.resolve_left hmem)
        unfold byteP at hne
        simp only [spec_l12Parts.l0, if_pos hlx, if_pos hx0.1, hv, if_neg (show ¬ (0 : Int) = 1 by omega), if_neg (show ¬ (wideL l : Int) = 0 by omega), tdivP (p := (i, k)) hkW, tmodP (p := (i, k)) hkW, w64 (x := (i : Int)) (by omega) (by omega), if_pos (show (0 : Int) ≤ (i : Int) by omega), if_pos (show (i : Int) < (l.length : Int) by omega), if_pos (show (0 : Int) ≤ (k : Int) by omega), hsz, if_pos (show (k : Int) < (wideL l : Int) by omega), hne]
        apply ev_succ
        simp only [spec_l12Parts.j1, if_true, succ_val hg hok]
        exact h
    by_cases hc : ((l[i].data.toList[k]).toNat : Int) = c
    · have hcell : cellsR i c k (l[i].data.toList[k] :: l[i].data.toList.drop (k + 1)) = cellP (i, k) :: cellsR i c ((k + 1 : Nat) : Int) (l[i].data.toList.drop (k + 1)) := by
        show (if _ then _ else _) = _
        simp only [if_pos hc]
        rfl
      rw [hcell, List.cons_append]
      by_cases hmem : castP (i, k) ∈ S
      · obtain ⟨r, r1, r2, r3, r4, r5⟩ := ih seen S m hR hm0 (by omega)
        refine ⟨r, ?_, goOn r r2 (Or.inl hmem), r3, by rw [List.length_cons]; omega, fun h => by rw [h] at hmem; cases hmem⟩
        unfold ptC
        simp only [if_pos (show inG l (cellP (i, k)) ∧ S.length < 4398046511104 from ⟨hin, by omega⟩), if_pos (show ((cellP (i, k)).f0, (cellP (i, k)).f1) ∈ S from hmem)]
        exact r1
      · obtain ⟨hR1, hz1⟩ := Rel.put hR hok hmem
        obtain ⟨seen', S', j1, j2, j3⟩ := lemL hg c _ _ _ [(i, k)] 0 (by simp) rfl hR1 (fun p hp => by rw [List.mem_singleton.1 hp]; exact hok) (by simp only [List.length_singleton]; omega)
        obtain ⟨r, r1, r2, r3, r4, r5⟩ := ih seen' S' (m + 1) j1 (by omega) (by omega)
        refine ⟨r, ?_, ?_, by omega, by rw [List.length_cons]; omega, fun _ _ => r3⟩
        · unfold ptC
          simp only [if_pos (show inG l (cellP (i, k)) ∧ S.length < 4398046511104 from ⟨hin, by omega⟩), if_neg (show ¬ ((cellP (i, k)).f0, (cellP (i, k)).f1) ∈ S from hmem), w64 (x := m + 1) (by omega) (by omega)]
          exact Ev.bind j2 r1
        · rw [if_neg hmem] at hv
          have hne : (byteP l (i, k) != c) = false := bne_eq_false_iff_eq.2 (by rw [hbyte]; exact hc)
          unfold byteP at hne
          apply ev_succ
          simp only [spec_l12Parts.l0, if_pos hlx, if_pos hx0.1, hv, if_neg (show ¬ (0 : Int) = 1 by omega), if_neg (show ¬ (wideL l : Int) = 0 by omega), tdivP (p := (i, k)) hkW, tmodP (p := (i, k)) hkW, w64 (x := (i : Int)) (by omega) (by omega), if_pos (show (0 : Int) ≤ (i : Int) by omega), if_pos (show (i : Int) < (l.length : Int) by omega), if_pos (show (0 : Int) ≤ (k : Int) by omega), hsz, if_pos (show (k : Int) < (wideL l : Int) by omega), hne]
          apply ev_succ
          simp only [spec_l12Parts.j1, Bool.false_eq_true, if_false, if_pos hlx, if_pos hx0.1, w64 (x := m + 1) (by omega) (by omega)]
          exact j3 (m + 1) _ r (by rw [succ_val hg hok]; exact r2)
    · have hcell : cellsR i c k (l[i].data.toList[k] :: l[i].data.toList.drop (k + 1)) = cellsR i c ((k + 1 : Nat) : Int) (l[i].data.toList.drop (k + 1)) := by
        show (if _ then _ else _) = _
        simp only [if_neg hc]
        rfl
      rw [hcell]
      obtain ⟨r, r1, r2, r3, r4, r5⟩ := ih seen S m hR hm0 (by omega)
      exact ⟨r, r1, goOn r r2 (Or.inr (by rw [hbyte]; exact hc)), r3, r4, r5⟩
theorem lemC {l : List ByteArray} (hg : gridB l = true) (c : Int) (d : Nat) : ∀ i : Nat, i + d = l.length → SameFrom l c (cellsG c i (l.drop i)) ((i * wideL l : Nat) : Int) := by
  obtain ⟨g1, g2, g3⟩ := grid_facts hg
  have har := area_bd hg
  induction d with
  | zero =>
    intro i hi seen S m hR hm0 hm1
    have hi : i = l.length := by omega
    subst hi
    rw [List.drop_length]
    have hlen := hR.len
    refine ⟨m, ev_const rfl, ev_succ ?_, Int.le_refl _, by simp [cellsG], fun _ h => by simp [cellsG] at h⟩
    simp only [spec_l12Parts.l0, if_neg (show ¬ ((l.length * wideL l : Nat) : Int) < (seen.length : Int) by omega)]
    exact ev_const rfl
  | succ d ih =>
    intro i hi
    have hlt : i < l.length := by omega
    have := lemR hg c i hlt _ (ih (i + 1) (by omega)) (wideL l) 0 (by omega)
    rw [List.drop_zero] at this
    rw [List.drop_eq_getElem_cons hlt]
    exact this
theorem parts_same {l : List ByteArray} (hg : gridB l = true) (c : Int) : ∃ r : Int, Ev (fun k => impl_partsOf.f k l c) r ∧ Ev (fun k => spec_l12Parts.f k l c) r ∧ 0 ≤ r ∧ r ≤ (cntG c l : Int) ∧ (0 < cntG c l → 1 ≤ r) := by
  obtain ⟨g1, g2, g3⟩ := grid_facts hg
  have hw := wide_bd hg
  have har := area_bd hg
  obtain ⟨r, r1, r2, r3, r4, r5⟩ := lemC hg c l.length 0 (by omega) _ _ 0 (Rel.zero l) (Int.le_refl _) (by omega)
  rw [List.drop_zero] at r1 r4 r5
  rw [cellsG_length] at r4 r5
  have hmul : ((l.length : Int) * ((rdOf ByteArray.empty l 0).size : Int)) = ((l.length * wideL l : Nat) : Int) := (Int.natCast_mul _ _).symm
  refine ⟨r, ?_, ?_, r3, by omega, fun h => by have := r5 rfl h; omega⟩
  · unfold impl_partsOf.f
    exact Ev.bind (cells_ev l (by omega) (fun y hy => by have := g3 y hy; omega) c) r1
  · unfold spec_l12Parts.f
    simp only [hmul, w64 (x := ((l.length * wideL l : Nat) : Int)) (by omega) (by omega), if_pos (show 0 < (l.length : Int) by omega), if_pos (show (0 : Int) ≤ ((l.length * wideL l : Nat) : Int) by omega), Int.toNat_natCast, if_pos (show l.length * wideL l ≤ 35184372088832 by omega)]
    rw [Nat.zero_mul] at r2
    exact r2
/-! ### The coast -/
def seaP (l : List ByteArray) (q : Nat × Nat) : Nat := if byteP l q = 46 then 1 else 0
def seaSum (l : List ByteArray) : List (Nat × Nat) → Nat
  | [] => 0
  | q :: qs => seaP l q + seaSum l qs
theorem sea_le (l : List ByteArray) (q : Nat × Nat) : seaP l q ≤ 1 := by
  unfold seaP
  split <;> omega
theorem seaSum_le (l : List ByteArray) : ∀ qs, seaSum l qs ≤ qs.length
  | [] => Nat.le_refl _
  | q :: qs => by
    have h1 := sea_le l q
    have h2 := seaSum_le l qs
    show seaP l q + seaSum l qs ≤ qs.length + 1
    omega
def coastC (l : List ByteArray) (x : S61) : Nat := seaSum l (nbP l (x.f0.toNat, x.f1.toNat))
def coastS (l : List ByteArray) : List S61 → Nat
  | [] => 0
  | x :: xs => coastC l x + coastS l xs
theorem coastC_le (l : List ByteArray) (x : S61) : coastC l x ≤ 4 := Nat.le_trans (seaSum_le _ _) (nb_len _ _)
theorem coastS_le (l : List ByteArray) : ∀ xs, coastS l xs ≤ 4 * xs.length
  | [] => Nat.le_refl _
  | x :: xs => by
    have h1 := coastC_le l x
    have h2 := coastS_le l xs
    show coastC l x + coastS l xs ≤ 4 * (xs.length + 1)
    omega
theorem cellsR_ok (i c : Int) : ∀ (bs : List UInt8) (k : Nat), ∀ x ∈ cellsR i c k bs, ∃ m : Nat, m < k + bs.length ∧ x = ⟨i, (m : Int)⟩
  | [], _, x, hx => by cases hx
  | b :: bs, k, x, hx => by
    have ih := cellsR_ok i c bs (k + 1)
    have hx : x ∈ (if (b.toNat : Int) = c then (⟨i, (k : Int)⟩ : S61) :: cellsR i c ((k + 1 : Nat) : Int) bs else cellsR i c ((k + 1 : Nat) : Int) bs) := hx
    split at hx
    · rcases List.mem_cons.1 hx with rfl | hx
      · exact ⟨k, by rw [List.length_cons]; omega, rfl⟩
      · obtain ⟨m, h1, h2⟩ := ih x hx
        exact ⟨m, by rw [List.length_cons]; omega, h2⟩
    · obtain ⟨m, h1, h2⟩ := ih x hx
      exact ⟨m, by rw [List.length_cons]; omega, h2⟩
theorem cellsG_ok {l : List ByteArray} (hg : gridB l = true) (c : Int) (d : Nat) : ∀ i : Nat, i + d = l.length → ∀ x ∈ cellsG c i (l.drop i), ∃ p, okP l p ∧ x = cellP p := by
  induction d with
  | zero =>
    intro i hi x hx
    rw [List.drop_eq_nil_of_le (by omega)] at hx
    cases hx
  | succ d ih =>
    intro i hi x hx
    have hlt : i < l.length := by omega
    rw [List.drop_eq_getElem_cons hlt] at hx
    rcases List.mem_append.1 (show x ∈ cellsR i c 0 l[i].data.toList ++ cellsG c ((i + 1 : Nat) : Int) (l.drop (i + 1)) from hx) with hx | hx
    · obtain ⟨m, h1, h2⟩ := cellsR_ok i c _ 0 x hx
      rw [dsize, ((grid_facts hg).2.2 _ (List.getElem_mem hlt)).1] at h1
      exact ⟨(i, m), ⟨hlt, by show m < _; omega⟩, h2⟩
    · exact ih (i + 1) (by omega) x hx
theorem cntG_le {l : List ByteArray} (c : Int) (h : ∀ r ∈ l, r.size ≤ 32) : cntG c l ≤ 32 * l.length := by
  induction l with
  | nil => exact Nat.le_refl _
  | cons r l ih =>
    have h1 := cntR_le c r.data.toList
    rw [dsize] at h1
    have h2 := h r List.mem_cons_self
    have h3 := ih (fun y hy => h y (List.mem_cons_of_mem _ hy))
    show cntR c r.data.toList + cntG c l ≤ 32 * (l.length + 1)
    omega
theorem sea_val {l : List ByteArray} (q : Nat × Nat) : (byteP l q = 46 ∧ seaP l q = 1) ∨ (¬ byteP l q = 46 ∧ seaP l q = 0) := by
  unfold seaP
  by_cases h : byteP l q = 46
  · exact Or.inl ⟨h, if_pos h⟩
  · exact Or.inr ⟨h, if_neg h⟩
theorem icoast_l1 {l : List ByteArray} (hg : gridB l = true) (cs : List S61) (N : Int) (i : Nat) (hi : i ≤ 1000) (R : Int) (qs : List (Nat × Nat)) (hq : ∀ q ∈ qs, okP l q) (hql : qs.length ≤ 100) (d : Nat) : ∀ (j : Nat) (n : Int), j + d = qs.length → 0 ≤ n → n + (d : Int) ≤ 100000 →
    Ev (fun k => impl_coastOf.l0 k l (n + (seaSum l (qs.drop j) : Int)) cs N ((i : Int) + 1)) R → Ev (fun k => impl_coastOf.l1 k l n cs N i (qs.map cellP) (qs.length : Int) j) R := by
  induction d with
  | zero =>
    intro j n hj h0 h1 h
    rw [List.drop_eq_nil_of_le (by omega), show n + ((seaSum l [] : Nat) : Int) = n from by show n + 0 = n; omega] at h
    apply ev_succ
    simp only [impl_coastOf.l1, if_neg (show ¬ (j : Int) < (qs.length : Int) by omega), w64 (x := (i : Int) + 1) (by omega) (by omega)]
    exact h
  | succ d ih =>
    intro j n hj h0 h1 h
    have hlt : j < qs.length := by omega
    have hok := hq _ (List.getElem_mem hlt)
    rw [List.drop_eq_getElem_cons hlt] at h
    generalize hqe : qs[j] = q at hok h
    have hrd : rd_T61 (qs.map cellP) (j : Int) = cellP q := by
      unfold rd_T61
      rw [Int.toNat_natCast, List.getD_eq_getElem?_getD, List.getElem?_map, List.getElem?_eq_getElem hlt, hqe]
      rfl
    have hin := in_of hg hok
    have hv := sea_val (l := l) q
    have hs : n + ((seaSum l (q :: qs.drop (j + 1)) : Nat) : Int) = (n + (seaP l q : Int)) + (seaSum l (qs.drop (j + 1)) : Int) := by
      show n + ((seaP l q + seaSum l (qs.drop (j + 1)) : Nat) : Int) = _
      omega
    rw [hs] at h
    have hb : bt (rdOf ByteArray.empty l (cellP q).f0) (cellP q).f1 = byteP l q := rfl
    apply ev_succ
    simp only [impl_coastOf.l1, List.length_map, if_pos (show (j : Int) < (qs.length : Int) by omega), if_pos (show (0 : Int) ≤ (j : Int) by omega), hrd, if_pos hin.1, if_pos hin.2.1, if_pos hin.2.2.1, if_pos hin.2.2.2.1, hb, w64 (x := (j : Int) + 1) (by omega) (by omega), w64 (x := n + 1) (by omega) (by omega)]
    rcases hv with ⟨v1, v2⟩ | ⟨v1, v2⟩
    · simp only [if_pos v1]
      rw [v2] at h
      exact ih (j + 1) (n + 1) (by omega) (by omega) (by omega) h
    · simp only [if_neg v1]
      rw [v2, show n + ((0 : Nat) : Int) = n by omega] at h
      exact ih (j + 1) n (by omega) (by omega) (by omega) h
theorem icoast_l0 {l : List ByteArray} (hg : gridB l = true) (cs : List S61) (hc : ∀ x ∈ cs, ∃ p, okP l p ∧ x = cellP p) (hcl : cs.length ≤ 1000) (d : Nat) : ∀ (i : Nat) (n : Int), i + d = cs.length → 0 ≤ n → n ≤ 4 * (i : Int) → Ev (fun k => impl_coastOf.l0 k l n cs (cs.length : Int) i) (n + (coastS l (cs.drop i) : Int)) := by
  induction d with
  | zero =>
    intro i n hi h0 h1
    apply ev_succ
    simp only [impl_coastOf.l0, if_neg (show ¬ (i : Int) < (cs.length : Int) by omega)]
    rw [List.drop_eq_nil_of_le (by omega)]
    exact ev_const (by show some n = some (n + 0); rw [Int.add_zero])
  | succ d ih =>
    intro i n hi h0 h1
    have hlt : i < cs.length := by omega
    obtain ⟨p, hp, he⟩ := hc _ (List.getElem_mem hlt)
    rw [List.drop_eq_getElem_cons hlt, he]
    have hrd : rd_T61 cs (i : Int) = cellP p := by
      unfold rd_T61
      rw [Int.toNat_natCast, List.getD_eq_getElem?_getD, List.getElem?_eq_getElem hlt, he]
      rfl
    have e := nextto_val hg hp
    have hcc : coastC l (cellP p) = seaSum l (nbP l p) := rfl
    have h4 := coastC_le l (cellP p)
    have hs : n + ((coastS l (cellP p :: cs.drop (i + 1)) : Nat) : Int) = (n + (seaSum l (nbP l p) : Int)) + (coastS l (cs.drop (i + 1)) : Int) := by
      show n + ((coastC l (cellP p) + coastS l (cs.drop (i + 1)) : Nat) : Int) = _
      rw [hcc]
      omega
    rw [hs]
    apply ev_succ
    simp only [impl_coastOf.l0, if_pos (show (i : Int) < (cs.length : Int) by omega), if_pos (show (0 : Int) ≤ (i : Int) by omega), hrd]
    rw [show impl_nextTo.f l (cellP p).f0 (cellP p).f1 = some ((nbP l p).map cellP) from e]
    simp only [Option.bind_some, List.length_map]
    have hnl := nb_len l p
    refine icoast_l1 hg cs _ i (by omega) _ (nbP l p) (nb_ok hg hp) (by omega) (nbP l p).length 0 n (by omega) h0 (by omega) ?_
    rw [List.drop_zero]
    rw [hcc] at h4
    have := ih (i + 1) (n + (seaSum l (nbP l p) : Int)) (by omega) (by omega) (by omega)
    rw [show ((i + 1 : Nat) : Int) = (i : Int) + 1 by omega] at this
    exact this
/-- A south neighbour, told by the last test. -/
theorem scoast_cell {l : List ByteArray} (hg : gridB l = true) (c : Int) {i k : Nat} (hok : okP l (i, k)) (hb : byteP l (i, k) = c) (n R : Int) (h0 : 0 ≤ n) (h1 : n ≤ 100000) (h : Ev (fun k_ => spec_l12Coast.l1 k_ l c (n + (seaSum l (nbP l (i, k)) : Int)) (wideL l) i ((k : Int) + 1)) R) : Ev (fun k_ => spec_l12Coast.l1 k_ l c n (wideL l) i k) R := by
  obtain ⟨g1, g2, g3⟩ := grid_facts hg
  have hw := wide_bd hg
  have hi : i < l.length := hok.1
  have hk : k < wideL l := hok.2
  have hsz := row_size hg i hi
  have hsz1 := row_size hg (i - 1) (by omega)
  have hm1 := Nat.mod_lt (k + 1) (show 0 < wideL l by omega)
  have hm2 := Nat.mod_lt (k + (wideL l - 1)) (show 0 < wideL l by omega)
  have ve := sea_val (l := l) (i, (k + 1) % wideL l)
  have vw := sea_val (l := l) (i, (k + (wideL l - 1)) % wideL l)
  have vn := sea_val (l := l) (i - 1, k)
  have vs := sea_val (l := l) (i + 1, k)
  have e : seaSum l (nbP l (i, k)) = seaP l (i, (k + 1) % wideL l) + (seaP l (i, (k + (wideL l - 1)) % wideL l) + ((if 0 < i then seaP l (i - 1, k) else 0) + (if i + 1 < l.length then seaP l (i + 1, k) else 0))) := by
    unfold nbP
    by_cases c1 : 0 < i
    · by_cases c2 : i + 1 < l.length
      · simp only [if_pos c1, if_pos c2]; rfl
      · simp only [if_pos c1, if_neg c2]; rfl
    · by_cases c2 : i + 1 < l.length
      · simp only [if_neg c1, if_pos c2]; simp [seaSum]
      · simp only [if_neg c1, if_neg c2]; rfl
  rw [e] at h
  -- the last test
  have last : ∀ (m : Int) (b : Bool), 0 ≤ m → m ≤ 100010 → Ev (fun k_ => spec_l12Coast.l1 k_ l c (m + (if b = true then 1 else 0) + ((if i + 1 < l.length then seaP l (i + 1, k) else 0 : Nat) : Int)) (wideL l) i ((k : Int) + 1)) R → Ev (fun k_ => spec_l12Coast.j4 k_ l c m (wideL l) i k b) R := by
    intro m b m0 m1 h
    apply ev_succ
    by_cases c2 : i + 1 < l.length
    · have hsz2 := row_size hg (i + 1) c2
      have hb2 : bt (rdOf ByteArray.empty l ((i : Int) + 1)) (k : Int) = byteP l (i + 1, k) := rfl
      have hsz3 : (rdOf ByteArray.empty l ((i : Int) + 1)).size = wideL l := hsz2
      rw [if_pos c2] at h
      cases b with
      | true =>
        simp only [if_true] at h
        simp only [spec_l12Coast.j4, if_true, w64 (x := (i : Int) + 1) (by omega) (by omega), w64 (x := (k : Int) + 1) (by omega) (by omega), w64 (x := m + 1) (by omega) (by omega), w64 (x := m + 1 + 1) (by omega) (by omega), if_pos (show (i : Int) + 1 < (l.length : Int) by omega), if_pos (show (0 : Int) ≤ (i : Int) + 1 by omega), if_pos (show (0 : Int) ≤ (k : Int) by omega), hsz3, if_pos (show (k : Int) < (wideL l : Int) by omega), hb2]
        rcases vs with ⟨v1, v2⟩ | ⟨v1, v2⟩
        · rw [v2] at h
          simp only [if_pos v1]
          exact h
        · rw [v2, show m + 1 + ((0 : Nat) : Int) = m + 1 by omega] at h
          simp only [if_neg v1]
          exact h
      | false =>
        simp only [Bool.false_eq_true, if_false] at h
        simp only [spec_l12Coast.j4, Bool.false_eq_true, if_false, w64 (x := (i : Int) + 1) (by omega) (by omega), w64 (x := (k : Int) + 1) (by omega) (by omega), w64 (x := m + 1) (by omega) (by omega), if_pos (show (i : Int) + 1 < (l.length : Int) by omega), if_pos (show (0 : Int) ≤ (i : Int) + 1 by omega), if_pos (show (0 : Int) ≤ (k : Int) by omega), hsz3, if_pos (show (k : Int) < (wideL l : Int) by omega), hb2]
        rcases vs with ⟨v1, v2⟩ | ⟨v1, v2⟩
        · rw [v2, show m + 0 + ((1 : Nat) : Int) = m + 1 by omega] at h
          simp only [if_pos v1]
          exact h
        · rw [v2, show m + 0 + ((0 : Nat) : Int) = m by omega] at h
          simp only [if_neg v1]
          exact h
    · rw [if_neg c2] at h
      cases b with
      | true =>
        simp only [if_true] at h
        rw [show m + 1 + ((0 : Nat) : Int) = m + 1 by omega] at h
        simp only [spec_l12Coast.j4, if_true, w64 (x := (i : Int) + 1) (by omega) (by omega), w64 (x := (k : Int) + 1) (by omega) (by omega), w64 (x := m + 1) (by omega) (by omega), if_neg (show ¬ (i : Int) + 1 < (l.length : Int) by omega)]
        exact h
      | false =>
        simp only [Bool.false_eq_true, if_false] at h
        rw [show m + 0 + ((0 : Nat) : Int) = m by omega] at h
        simp only [spec_l12Coast.j4, Bool.false_eq_true, if_false, w64 (x := (i : Int) + 1) (by omega) (by omega), w64 (x := (k : Int) + 1) (by omega) (by omega), if_neg (show ¬ (i : Int) + 1 < (l.length : Int) by omega)]
        exact h
  -- the north
  have north : ∀ (m : Int), 0 ≤ m → m ≤ 100010 → Ev (fun k_ => spec_l12Coast.l1 k_ l c (m + ((if 0 < i then seaP l (i - 1, k) else 0 : Nat) : Int) + ((if i + 1 < l.length then seaP l (i + 1, k) else 0 : Nat) : Int)) (wideL l) i ((k : Int) + 1)) R → Ev (fun k_ => spec_l12Coast.j3 k_ l c m (wideL l) i k) R := by
    intro m m0 m1 h
    apply ev_succ
    by_cases c1 : 0 < i
    · have hi1 : (i : Int) - 1 = ((i - 1 : Nat) : Int) := by omega
      have hb1 : bt (rdOf ByteArray.empty l ((i - 1 : Nat) : Int)) (k : Int) = byteP l (i - 1, k) := rfl
      rw [if_pos c1] at h
      simp only [spec_l12Coast.j3, if_pos (show (i : Int) > 0 by omega), show wrap64 ((i : Int) - 1) = ((i - 1 : Nat) : Int) from (w64 (by omega) (by omega)).trans hi1, if_pos (show (0 : Int) ≤ ((i - 1 : Nat) : Int) by omega), if_pos (show ((i - 1 : Nat) : Int) < (l.length : Int) by omega), if_pos (show (0 : Int) ≤ (k : Int) by omega), hsz1, if_pos (show (k : Int) < (wideL l : Int) by omega), hb1]
      refine last m _ m0 m1 ?_
      rcases vn with ⟨v1, v2⟩ | ⟨v1, v2⟩
      · rw [v2] at h
        rw [beq_iff_eq.2 v1, if_pos rfl]
        exact h
      · rw [v2] at h
        rw [beq_eq_false_iff_ne.2 v1, if_neg (by simp)]
        exact h
    · rw [if_neg c1] at h
      simp only [spec_l12Coast.j3, if_neg (show ¬ (i : Int) > 0 by omega)]
      refine last m _ m0 m1 ?_
      rw [if_neg (by simp)]
      exact h
  -- the west
  have west : ∀ (m : Int), 0 ≤ m → m ≤ 100005 → Ev (fun k_ => spec_l12Coast.l1 k_ l c (m + (seaP l (i, (k + (wideL l - 1)) % wideL l) : Int) + ((if 0 < i then seaP l (i - 1, k) else 0 : Nat) : Int) + ((if i + 1 < l.length then seaP l (i + 1, k) else 0 : Nat) : Int)) (wideL l) i ((k : Int) + 1)) R → Ev (fun k_ => spec_l12Coast.j2 k_ l c m (wideL l) i k) R := by
    intro m m0 m1 h
    apply ev_succ
    have hbw : bt (rdOf ByteArray.empty l (i : Int)) (((k + (wideL l - 1)) % wideL l : Nat) : Int) = byteP l (i, (k + (wideL l - 1)) % wideL l) := rfl
    simp only [spec_l12Coast.j2, if_pos (show (0 : Int) ≤ (i : Int) by omega), if_pos (show (i : Int) < (l.length : Int) by omega), if_neg (show ¬ (wideL l : Int) = 0 by omega), west_val (show wideL l ≤ 1000 by omega) hw.1 hk, if_pos (show (0 : Int) ≤ (((k + (wideL l - 1)) % wideL l : Nat) : Int) by omega), hsz, if_pos (show (((k + (wideL l - 1)) % wideL l : Nat) : Int) < (wideL l : Int) by omega), hbw, w64 (x := m + 1) (by omega) (by omega)]
    rcases vw with ⟨v1, v2⟩ | ⟨v1, v2⟩
    · rw [v2] at h
      simp only [if_pos v1]
      exact north (m + 1) (by omega) (by omega) h
    · rw [v2, show m + ((0 : Nat) : Int) = m by omega] at h
      simp only [if_neg v1]
      exact north m m0 (by omega) h
  apply ev_succ
  have hbe : bt (rdOf ByteArray.empty l (i : Int)) (((k + 1) % wideL l : Nat) : Int) = byteP l (i, (k + 1) % wideL l) := rfl
  have hbb : bt (rdOf ByteArray.empty l (i : Int)) (k : Int) = c := hb
  simp only [spec_l12Coast.l1, if_pos (show (k : Int) < (wideL l : Int) by omega), if_pos (show (0 : Int) ≤ (i : Int) by omega), if_pos (show (i : Int) < (l.length : Int) by omega), if_pos (show (0 : Int) ≤ (k : Int) by omega), hsz, hbb, if_true, spec_l12East.f, if_neg (show ¬ (wideL l : Int) = 0 by omega), east_val (show wideL l ≤ 1000 by omega) hw.1 hk, if_pos (show (0 : Int) ≤ (((k + 1) % wideL l : Nat) : Int) by omega), if_pos (show (((k + 1) % wideL l : Nat) : Int) < (wideL l : Int) by omega), hbe, Option.bind_some, w64 (x := n + 1) (by omega) (by omega)]
  rcases ve with ⟨v1, v2⟩ | ⟨v1, v2⟩
  · rw [v2] at h
    simp only [if_pos v1]
    refine west (n + 1) (by omega) (by omega) ?_
    rw [show n + 1 + (seaP l (i, (k + (wideL l - 1)) % wideL l) : Int) + ((if 0 < i then seaP l (i - 1, k) else 0 : Nat) : Int) + ((if i + 1 < l.length then seaP l (i + 1, k) else 0 : Nat) : Int) = n + ((1 + (seaP l (i, (k + (wideL l - 1)) % wideL l) + ((if 0 < i then seaP l (i - 1, k) else 0) + (if i + 1 < l.length then seaP l (i + 1, k) else 0))) : Nat) : Int) by push_cast; omega]
    exact h
  · rw [v2] at h
    simp only [if_neg v1]
    refine west n h0 (by omega) ?_
    rw [show n + (seaP l (i, (k + (wideL l - 1)) % wideL l) : Int) + ((if 0 < i then seaP l (i - 1, k) else 0 : Nat) : Int) + ((if i + 1 < l.length then seaP l (i + 1, k) else 0 : Nat) : Int) = n + ((0 + (seaP l (i, (k + (wideL l - 1)) % wideL l) + ((if 0 < i then seaP l (i - 1, k) else 0) + (if i + 1 < l.length then seaP l (i + 1, k) else 0))) : Nat) : Int) by push_cast; omega]
    exact h
theorem scoast_row {l : List ByteArray} (hg : gridB l = true) (c : Int) (i : Nat) (hi : i < l.length) (rest : List S61) (hrest : ∀ n : Int, 0 ≤ n → n ≤ 4 * (32 * ((i : Int) + 1)) → Ev (fun k => spec_l12Coast.l0 k l c n (wideL l) ((i : Int) + 1)) (n + (coastS l rest : Int))) (d : Nat) : ∀ (k : Nat) (n : Int), k + d = wideL l → 0 ≤ n → n ≤ 4 * (32 * (i : Int) + (k : Int)) → Ev (fun k_ => spec_l12Coast.l1 k_ l c n (wideL l) i k) (n + (coastS l (cellsR i c k (l[i].data.toList.drop k) ++ rest) : Int)) := by
  obtain ⟨g1, g2, g3⟩ := grid_facts hg
  have hw := wide_bd hg
  have hsz := row_size hg i hi
  have hsz2 : l[i].size = wideL l := (g3 _ (List.getElem_mem hi)).1
  induction d with
  | zero =>
    intro k n hk h0 h1
    rw [List.drop_eq_nil_of_le (by rw [dsize]; omega)]
    apply ev_succ
    simp only [spec_l12Coast.l1, if_neg (show ¬ (k : Int) < (wideL l : Int) by omega), w64 (x := (i : Int) + 1) (by omega) (by omega)]
    exact hrest n h0 (by omega)
  | succ d ih =>
    intro k n hk h0 h1
    have hkW : k < wideL l := by omega
    have hok : okP l (i, k) := ⟨hi, hkW⟩
    have hb2 : k < l[i].data.toList.length := by rw [dsize]; omega
    have hbyte : byteP l (i, k) = ((l[i].data.toList[k]).toNat : Int) := by
      show bt (rdOf ByteArray.empty l (i : Int)) (k : Int) = _
      rw [rdOf_at _ _ _ hi, bt_at _ _ (by omega)]
    rw [List.drop_eq_getElem_cons hb2]
    by_cases hc : ((l[i].data.toList[k]).toNat : Int) = c
    · have hcell : cellsR i c k (l[i].data.toList[k] :: l[i].data.toList.drop (k + 1)) = cellP (i, k) :: cellsR i c ((k + 1 : Nat) : Int) (l[i].data.toList.drop (k + 1)) := by
        show (if _ then _ else _) = _
        simp only [if_pos hc]
        rfl
      rw [hcell, List.cons_append]
      have h4 := coastC_le l (cellP (i, k))
      have := ih (k + 1) (n + (coastC l (cellP (i, k)) : Int)) (by omega) (by omega) (by omega)
      refine scoast_cell hg c hok (by rw [hbyte]; exact hc) n _ h0 (by omega) ?_
      rw [show n + ((coastS l (cellP (i, k) :: (cellsR i c ((k + 1 : Nat) : Int) (l[i].data.toList.drop (k + 1)) ++ rest)) : Nat) : Int) = n + (coastC l (cellP (i, k)) : Int) + (coastS l (cellsR i c ((k + 1 : Nat) : Int) (l[i].data.toList.drop (k + 1)) ++ rest) : Int) by
        show n + ((coastC l (cellP (i, k)) + coastS l _ : Nat) : Int) = _
        omega]
      exact this
    · have hcell : cellsR i c k (l[i].data.toList[k] :: l[i].data.toList.drop (k + 1)) = cellsR i c ((k + 1 : Nat) : Int) (l[i].data.toList.drop (k + 1)) := by
        show (if _ then _ else _) = _
        simp only [if_neg hc]
        rfl
      rw [hcell]
      have := ih (k + 1) n (by omega) h0 (by omega)
      have hne : ¬ bt (rdOf ByteArray.empty l (i : Int)) (k : Int) = c := by
        intro e_
        exact hc (by rw [← hbyte]; exact e_)
      apply ev_succ
      simp only [spec_l12Coast.l1, if_pos (show (k : Int) < (wideL l : Int) by omega), if_pos (show (0 : Int) ≤ (i : Int) by omega), if_pos (show (i : Int) < (l.length : Int) by omega), if_pos (show (0 : Int) ≤ (k : Int) by omega), hsz, if_neg hne, w64 (x := (k : Int) + 1) (by omega) (by omega)]
      exact this
theorem scoast_l0 {l : List ByteArray} (hg : gridB l = true) (c : Int) (d : Nat) : ∀ (i : Nat) (n : Int), i + d = l.length → 0 ≤ n → n ≤ 4 * (32 * (i : Int)) → Ev (fun k => spec_l12Coast.l0 k l c n (wideL l) i) (n + (coastS l (cellsG c i (l.drop i)) : Int)) := by
  obtain ⟨g1, g2, g3⟩ := grid_facts hg
  induction d with
  | zero =>
    intro i n hi h0 h1
    rw [List.drop_eq_nil_of_le (by omega)]
    apply ev_succ
    simp only [spec_l12Coast.l0, if_neg (show ¬ (i : Int) < (l.length : Int) by omega)]
    exact ev_const (by show some n = some (n + 0); rw [Int.add_zero])
  | succ d ih =>
    intro i n hi h0 h1
    have hlt : i < l.length := by omega
    have := scoast_row hg c i hlt _ (fun n h0 h1 => ih (i + 1) n (by omega) h0 (by omega)) (wideL l) 0 n (by omega) h0 (by omega)
    rw [List.drop_zero] at this
    rw [List.drop_eq_getElem_cons hlt]
    apply ev_succ
    simp only [spec_l12Coast.l0, if_pos (show (i : Int) < (l.length : Int) by omega)]
    exact this
theorem coast_same {l : List ByteArray} (hg : gridB l = true) (c : Int) : Ev (fun k => impl_coastOf.f k l c) (coastS l (cellsG c 0 l) : Int) ∧ Ev (fun k => spec_l12Coast.f k l c) (coastS l (cellsG c 0 l) : Int) ∧ coastS l (cellsG c 0 l) ≤ 4 * cntG c l := by
  obtain ⟨g1, g2, g3⟩ := grid_facts hg
  have hle := coastS_le l (cellsG c 0 l)
  rw [cellsG_length] at hle
  have hcl := cntG_le (l := l) c (fun r hr => (g3 r hr).2.2.1)
  refine ⟨?_, ?_, hle⟩
  · unfold impl_coastOf.f
    refine Ev.bind (cells_ev l (by omega) (fun y hy => by have := g3 y hy; omega) c) ?_
    have hok := cellsG_ok hg c l.length 0 (by omega)
    rw [List.drop_zero] at hok
    have := icoast_l0 hg (cellsG c 0 l) hok (by rw [cellsG_length]; omega) _ 0 0 (Nat.zero_add _) (Int.le_refl _) (by omega)
    rw [List.drop_zero, Int.zero_add] at this
    exact this
  · unfold spec_l12Coast.f
    have := scoast_l0 hg c l.length 0 0 (by omega) (Int.le_refl _) (by omega)
    rw [List.drop_zero, Int.zero_add] at this
    simp only [if_pos (show 0 < (l.length : Int) by omega)]
    exact this
/-! ### A land that is given away -/
theorem give_list (a b r : ByteArray) {x y : UInt8} (ha : a.data.toList = [x]) (hb : b.data.toList = [y]) : (giveB (bt a 0) (bt b 0) r).data.toList = swapL x y r.data.toList := by
  rw [give_row a b r (by rw [← dsize, ha]; rfl) (by rw [← dsize, hb]; rfl), ha, hb, rep_bytes]
theorem swap_len (x y : UInt8) (s : List UInt8) : (swapL x y s).length = s.length := by unfold swapL; rw [List.length_map]
theorem give_size (a b r : ByteArray) {x y : UInt8} (ha : a.data.toList = [x]) (hb : b.data.toList = [y]) : (giveB (bt a 0) (bt b 0) r).size = r.size := by
  rw [← dsize, give_list a b r ha hb, swap_len, dsize]
theorem cnt_swap_gone {x y : UInt8} (h : x ≠ y) : ∀ s : List UInt8, cntR (x.toNat : Int) (swapL x y s) = 0
  | [] => rfl
  | b :: s => by
    have ih := cnt_swap_gone h s
    unfold cntR swapL at ih ⊢
    rw [List.map_cons, List.countP_cons, ih]
    have hne : ¬ (((if b = x then y else b).toNat : Int) = (x.toNat : Int)) := by
      intro e
      have e2 : (if b = x then y else b) = x := UInt8.toNat_inj.1 (by omega)
      split at e2
      · exact h e2.symm
      · rename_i h3; exact h3 e2
    simp only [decide_eq_true_eq, if_neg hne]
theorem cnt_swap_own {x y : UInt8} (h : x ≠ y) : ∀ s : List UInt8, cntR (y.toNat : Int) (swapL x y s) = cntR (x.toNat : Int) s + cntR (y.toNat : Int) s
  | [] => rfl
  | b :: s => by
    have ih := cnt_swap_own h s
    unfold cntR swapL at ih ⊢
    rw [List.map_cons, List.countP_cons, List.countP_cons, List.countP_cons, ih]
    by_cases c : b = x
    · subst c
      have h1 : ¬ ((b.toNat : Int) = (y.toNat : Int)) := fun e => h (UInt8.toNat_inj.1 (by omega))
      simp only [if_true, decide_true, decide_eq_true_eq, if_neg h1]
      omega
    · have h1 : ¬ ((b.toNat : Int) = (x.toNat : Int)) := fun e => c (UInt8.toNat_inj.1 (by omega))
      simp only [if_neg c, decide_eq_true_eq, if_neg h1]
      omega
theorem cntG_gone (a b : ByteArray) {x y : UInt8} (ha : a.data.toList = [x]) (hb : b.data.toList = [y]) (h : x ≠ y) : ∀ l : List ByteArray, cntG (x.toNat : Int) (l.map (giveB (bt a 0) (bt b 0))) = 0
  | [] => rfl
  | r :: l => by
    have ih := cntG_gone a b ha hb h l
    show cntR _ (giveB (bt a 0) (bt b 0) r).data.toList + cntG _ (l.map (giveB (bt a 0) (bt b 0))) = 0
    rw [ih, give_list a b r ha hb, cnt_swap_gone h]
theorem cntG_own (a b : ByteArray) {x y : UInt8} (ha : a.data.toList = [x]) (hb : b.data.toList = [y]) (h : x ≠ y) : ∀ l : List ByteArray, cntG (y.toNat : Int) (l.map (giveB (bt a 0) (bt b 0))) = cntG (x.toNat : Int) l + cntG (y.toNat : Int) l
  | [] => rfl
  | r :: l => by
    have ih := cntG_own a b ha hb h l
    show cntR _ (giveB (bt a 0) (bt b 0) r).data.toList + cntG _ (l.map (giveB (bt a 0) (bt b 0))) = (cntR _ r.data.toList + cntG _ l) + (cntR _ r.data.toList + cntG _ l)
    rw [ih, give_list a b r ha hb, cnt_swap_own h]
    omega
theorem grid_of {l : List ByteArray} (n : Nat) (h1 : 1 ≤ l.length) (h2 : l.length ≤ 16) (h3 : 1 ≤ n) (h4 : n ≤ 32) (h : ∀ r ∈ l, r.size = n ∧ r.data.toList.all cellB = true) : gridB l = true := by
  have e : wideL l = n := by
    show (rdOf ByteArray.empty l ((0 : Nat) : Int)).size = n
    rw [rdOf_at _ _ _ (show 0 < l.length by omega)]
    exact (h _ (List.getElem_mem _)).1
  unfold gridB
  simp only [Bool.and_eq_true, decide_eq_true_eq, List.all_eq_true, rowB]
  refine ⟨⟨h1, h2⟩, fun r hr => ?_⟩
  obtain ⟨h5, h6⟩ := h r hr
  rw [e]
  exact ⟨⟨h5, by omega, by omega⟩, fun b hb => List.all_eq_true.1 h6 b hb⟩
theorem give_grid {l : List ByteArray} (hg : gridB l = true) (a b : ByteArray) {x y : UInt8} (ha : a.data.toList = [x]) (hb : b.data.toList = [y]) (hy : cellB y = true) : gridB (l.map (giveB (bt a 0) (bt b 0))) = true := by
  obtain ⟨g1, g2, g3⟩ := grid_facts hg
  have hw := wide_bd hg
  refine grid_of (wideL l) (by rw [List.length_map]; exact g1) (by rw [List.length_map]; exact g2) hw.1 hw.2 (fun r hr => ?_)
  obtain ⟨q, hq, rfl⟩ := List.mem_map.1 hr
  refine ⟨by rw [give_size a b q ha hb]; exact (g3 q hq).1, ?_⟩
  rw [give_list a b q ha hb]
  refine List.all_eq_true.2 (fun z hz => ?_)
  obtain ⟨z2, hz2, rfl⟩ := List.mem_map.1 hz
  split
  · exact hy
  · exact List.all_eq_true.1 (g3 q hq).2.2.2 z2 hz2
/-! ### The answers on a grid and a land -/
def cellsV (l : List ByteArray) (a : ByteArray) : Int × Int := if codeG l a true = 0 then ((cntG (bt a 0) l : Int), 0) else (0, codeG l a true)
theorem icellsof_ev (l : List ByteArray) (hl : l.length ≤ 1048576) (hs : ∀ y ∈ l, y.size ≤ 1048576) (a : ByteArray) : Ev (fun k => impl_CellsOf.f k l a) (cellsV l a) := by
  unfold impl_CellsOf.f cellsV
  refine Ev.bind (icode_ev l hl hs a true) ?_
  by_cases h : codeG l a true = 0
  · obtain ⟨z1, z2, _⟩ := code_zero h
    obtain ⟨g1, g2, g3⟩ := grid_facts z1
    have := landB_size z2
    simp only [if_pos h, if_pos (show 0 < (a.size : Int) by omega)]
    refine Ev.bind (cells_ev l (by omega) (fun y hy => by have := g3 y hy; omega) (bt a 0)) ?_
    rw [cellsG_length]
    exact ev_const rfl
  · simp only [if_neg h]
    exact ev_const rfl
theorem scellsof_ev (l : List ByteArray) (a : ByteArray) : Ev (fun k => spec_CellsOf.f k l a) (cellsV l a) := by
  unfold spec_CellsOf.f cellsV
  refine Ev.bind (scode_ev l a) ?_
  by_cases h : codeG l a true = 0
  · obtain ⟨z1, z2, _⟩ := code_zero h
    obtain ⟨g1, g2, g3⟩ := grid_facts z1
    have := landB_size z2
    simp only [if_pos h, if_pos (show 0 < (a.size : Int) by omega)]
    refine Ev.bind (cnt_ev l (by omega) (fun y hy => by have := g3 y hy; omega) (bt a 0)) ?_
    exact ev_const rfl
  · simp only [if_neg h]
    exact ev_const rfl
theorem code_cells {l : List ByteArray} {a : ByteArray} (h : codeG l a true = 0) : 1 ≤ cntG (bt a 0) l := by
  unfold codeG at h
  split at h
  · split at h
    · split at h
      · cases h
      · omega
    · cases h
  · cases h
theorem islands_same (l : List ByteArray) (hl : l.length ≤ 1048576) (hs : ∀ y ∈ l, y.size ≤ 1048576) (a : ByteArray) : ∃ r : Int, Ev (fun k => impl_IslandsOf.f k l a) (r, codeG l a true) ∧ Ev (fun k => spec_IslandsOf.f k l a) (r, codeG l a true) ∧ (codeG l a true = 0 → 1 ≤ r ∧ r ≤ (cntG (bt a 0) l : Int)) := by
  by_cases h : codeG l a true = 0
  · obtain ⟨z1, z2, _⟩ := code_zero h
    have h1 := landB_size z2
    obtain ⟨r, r1, r2, r3, r4, r5⟩ := parts_same z1 (bt a 0)
    refine ⟨r, ?_, ?_, fun _ => ⟨r5 (by have := code_cells h; omega), r4⟩⟩
    · unfold impl_IslandsOf.f
      refine Ev.bind (icode_ev l hl hs a true) ?_
      simp only [if_pos h, if_pos (show 0 < (a.size : Int) by omega)]
      rw [h]
      exact Ev.bind r1 (ev_const rfl)
    · unfold spec_IslandsOf.f
      refine Ev.bind (scode_ev l a) ?_
      simp only [if_pos h, if_pos (show 0 < (a.size : Int) by omega)]
      rw [h]
      exact Ev.bind r2 (ev_const rfl)
  · refine ⟨0, ?_, ?_, fun h2 => absurd h2 h⟩
    · unfold impl_IslandsOf.f
      refine Ev.bind (icode_ev l hl hs a true) ?_
      simp only [if_neg h]
      exact ev_const rfl
    · unfold spec_IslandsOf.f
      refine Ev.bind (scode_ev l a) ?_
      simp only [if_neg h]
      exact ev_const rfl
theorem coastof_same (l : List ByteArray) (hl : l.length ≤ 1048576) (hs : ∀ y ∈ l, y.size ≤ 1048576) (a : ByteArray) : ∃ r : Int, Ev (fun k => impl_CoastOf.f k l a) (r, codeG l a true) ∧ Ev (fun k => spec_CoastOf.f k l a) (r, codeG l a true) ∧ (codeG l a true = 0 → 0 ≤ r ∧ r ≤ 4 * (cntG (bt a 0) l : Int)) := by
  by_cases h : codeG l a true = 0
  · obtain ⟨z1, z2, _⟩ := code_zero h
    have h1 := landB_size z2
    obtain ⟨r1, r2, r3⟩ := coast_same z1 (bt a 0)
    refine ⟨(coastS l (cellsG (bt a 0) 0 l) : Int), ?_, ?_, fun _ => ⟨Int.natCast_nonneg _, by omega⟩⟩
    · unfold impl_CoastOf.f
      refine Ev.bind (icode_ev l hl hs a true) ?_
      simp only [if_pos h, if_pos (show 0 < (a.size : Int) by omega)]
      rw [h]
      exact Ev.bind r1 (ev_const rfl)
    · unfold spec_CoastOf.f
      refine Ev.bind (scode_ev l a) ?_
      simp only [if_pos h, if_pos (show 0 < (a.size : Int) by omega)]
      rw [h]
      exact Ev.bind r2 (ev_const rfl)
  · refine ⟨0, ?_, ?_, fun h2 => absurd h2 h⟩
    · unfold impl_CoastOf.f
      refine Ev.bind (icode_ev l hl hs a true) ?_
      simp only [if_neg h]
      exact ev_const rfl
    · unfold spec_CoastOf.f
      refine Ev.bind (scode_ev l a) ?_
      simp only [if_neg h]
      exact ev_const rfl
/-- What holds of a grid whose land was given away. -/
theorem gave {l : List ByteArray} {a b : ByteArray} (h : codeG l a (toB b) = 0) (hne : a.toList ≠ b.toList) (hl : l.length ≤ 1048576) (hs : ∀ y ∈ l, y.size ≤ 1048576) : Ev (fun k => impl_CellsOf.f k (l.map (giveB (bt a 0) (bt b 0))) a) (0, 3) ∧
    (b.toList ≠ ([46] : List UInt8) → ∃ before own : Int, Ev (fun k => spec_CellsOf.f k l a) (before, 0) ∧ (∃ z, Ev (fun k => spec_CellsOf.f k l b) (own, z)) ∧ Ev (fun k => impl_CellsOf.f k (l.map (giveB (bt a 0) (bt b 0))) b) (before + own, 0) ∧ 0 ≤ before ∧ before ≤ 1000 ∧ 0 ≤ own ∧ own ≤ 1000) := by
  obtain ⟨z1, z2, z3⟩ := code_zero h
  obtain ⟨g1, g2, g3⟩ := grid_facts z1
  obtain ⟨x, hx, ex⟩ := one_byte a (landB_size z2)
  obtain ⟨y, hy, ey⟩ := one_byte b (toB_size z3)
  have hxy : x ≠ y := fun e => hne (by rw [ByteArray.toList_eq, ByteArray.toList_eq, hx, hy, e])
  have hcy : cellB y = true := by
    unfold toB landB at z3
    rw [ey] at z3
    unfold cellB
    rcases Bool.or_eq_true_iff.1 z3 with q | q
    · exact decide_eq_true (Or.inr (of_decide_eq_true q).2)
    · exact decide_eq_true (Or.inl (of_decide_eq_true q).2)
  have hgrid := give_grid z1 a b hx hy hcy
  have hlen : (l.map (giveB (bt a 0) (bt b 0))).length ≤ 1048576 := by rw [List.length_map]; exact hl
  have hsz : ∀ q ∈ l.map (giveB (bt a 0) (bt b 0)), q.size ≤ 1048576 := by
    intro q hq
    obtain ⟨q2, hq2, rfl⟩ := List.mem_map.1 hq
    rw [give_size a b q2 hx hy]
    exact hs q2 hq2
  have c1 := icellsof_ev _ hlen hsz a
  have c2 := icellsof_ev _ hlen hsz b
  have hgone := cntG_gone a b hx hy hxy l
  have hown := cntG_own a b hx hy hxy l
  constructor
  · have e : codeG (l.map (giveB (bt a 0) (bt b 0))) a true = 3 := by
      unfold codeG
      rw [if_pos hgrid, if_pos ⟨z2, rfl⟩, ← ex] at *
      rw [if_pos hgone]
    unfold cellsV at c1
    rw [e] at c1
    exact c1
  · intro hb46
    have hlb : landB b = true := by
      unfold toB at z3
      rcases Bool.or_eq_true_iff.1 z3 with q | q
      · exact q
      · have := ok_two b
        rw [q] at this
        exact absurd (beq_iff_eq.1 this) hb46
    have hca : codeG l a true = 0 := by rw [← z3]; exact h
    have h1 := code_cells hca
    have hle1 := cntG_le (l := l) (bt a 0) (fun r hr => (g3 r hr).2.2.1)
    have hle2 := cntG_le (l := l) (bt b 0) (fun r hr => (g3 r hr).2.2.1)
    rw [← ex, ← ey] at hown
    have e : codeG (l.map (giveB (bt a 0) (bt b 0))) b true = 0 := by
      unfold codeG
      rw [if_pos hgrid, if_pos ⟨hlb, rfl⟩, if_neg (by omega)]
    have s1 := scellsof_ev l a
    have s2 := scellsof_ev l b
    unfold cellsV at s1 c2
    rw [if_pos hca] at s1
    rw [if_pos e, hown] at c2
    refine ⟨_, (cntG (bt b 0) l : Int), s1, ?_, ?_, by omega, by omega, by omega, by omega⟩
    · by_cases hcb : codeG l b true = 0
      · unfold cellsV at s2
        rw [if_pos hcb] at s2
        exact ⟨_, s2⟩
      · have hz : cntG (bt b 0) l = 0 := by
          unfold codeG at hcb
          rw [if_pos z1, if_pos ⟨hlb, rfl⟩] at hcb
          by_cases hz : cntG (bt b 0) l = 0
          · exact hz
          · rw [if_neg hz] at hcb; exact absurd rfl hcb
        unfold cellsV at s2
        rw [if_neg hcb] at s2
        rw [hz]
        exact ⟨_, s2⟩
    · rw [show ((cntG (bt a 0) l + cntG (bt b 0) l : Nat) : Int) = (cntG (bt a 0) l : Int) + (cntG (bt b 0) l : Int) by omega] at c2
      exact c2
theorem FnIslands : laws_FnIslands.Pure := by
  intro l hl hlb
  have hB := bytes_of hlb
  apply Ev.rounds
  unfold laws_FnIslands.f
  simp only [f6big_val, Option.bind_some]
  by_cases hlong : (l.length : Int) > 4096
  · simp only [hlong, decide_true, if_true]; exact ev_const rfl
  · simp only [hlong, decide_false, Bool.false_eq_true, if_false]
    obtain ⟨x, a, b, d1, d2, d3⟩ := givedraw_ev hB (by omega)
    obtain ⟨u, v, d4, d5, d6⟩ := askdraw_ev hB (by omega)
    have hx : ∀ y ∈ x, y.size ≤ 1048576 := fun y hy => Nat.le_trans (d3 y hy) (by omega)
    have hu : ∀ y ∈ u, y.size ≤ 1048576 := fun y hy => Nat.le_trans (d6 y hy) (by omega)
    have g1 := impl_res x (by omega) hx a b
    have g2 := spec_res x a b
    have g3 := resG_length x a b (by omega)
    obtain ⟨n, n1, n2, n3⟩ := islands_same u (by omega) hu v
    have m1 := icellsof_ev u (by omega) hu v
    have m2 := scellsof_ev u v
    obtain ⟨c, c1, c2, c3⟩ := coastof_same u (by omega) hu v
    have t1 := f6texts_ev (resG x a b).1 g3
    refine Ev.bind d1 (Ev.bind g1 (Ev.bind g2 (Ev.bind d4 (Ev.bind n1 (Ev.bind n2 (Ev.bind m1 (Ev.bind m2 (Ev.bind c1 (Ev.bind c2 ?_)))))))))
    simp only [if_true]
    refine Ev.bind t1 ?_
    have hcv : (cellsV u v).2 = codeG u v true := by
      unfold cellsV
      by_cases h : codeG u v true = 0
      · rw [if_pos h, h]
      · rw [if_neg h]
    simp only [if_true, hcv, bne_self_eq_false]
    have hlast : Ev (fun k => laws_FnIslands.j1 k x a b (resG x a b).1 (resG x a b).2 false) true := by
      apply ev_succ
      simp only [laws_FnIslands.j1, Bool.false_eq_true, if_false]
      by_cases hz : (resG x a b).2 = 0
      · simp only [if_pos hz]
        apply ev_succ
        by_cases hab : a.toList = b.toList
        · simp only [laws_FnIslands.j2, beq_iff_eq.2 hab, if_true]
          exact ev_const rfl
        · have hcode : codeG x a (toB b) = 0 := by
            unfold resG at hz
            by_cases h : codeG x a (toB b) = 0
            · exact h
            · rw [if_neg h] at hz; exact hz
          have hres : (resG x a b).1 = x.map (giveB (bt a 0) (bt b 0)) := by unfold resG; rw [if_pos hcode]
          obtain ⟨q1, q2⟩ := gave hcode hab (by omega) hx
          simp only [laws_FnIslands.j2, beq_eq_false_iff_ne.2 hab, Bool.false_eq_true, if_false, hres]
          refine Ev.bind q1 ?_
          simp only [if_true]
          by_cases h46 : b.toList = ([46] : List UInt8)
          · simp only [if_pos h46]
            exact ev_const rfl
          · simp only [if_neg h46]
            obtain ⟨before, own, s1, ⟨z, s2⟩, s3, b0, b1, o0, o1⟩ := q2 h46
            refine Ev.bind s1 (Ev.bind s2 (Ev.bind s3 ?_))
            simp only [if_true, w64 (x := before + own) (by omega) (by omega), beq_self_eq_true]
            exact ev_const rfl
      · simp only [if_neg hz]
        apply ev_succ
        simp only [laws_FnIslands.j2, if_true]
        exact ev_const rfl
    apply ev_succ
    simp only [laws_FnIslands.j0, Bool.false_eq_true, if_false]
    by_cases hz : codeG u v true = 0
    · obtain ⟨n4, n5⟩ := n3 hz
      obtain ⟨c4, c5⟩ := c3 hz
      have hcv1 : (cellsV u v).1 = (cntG (bt v 0) u : Int) := by unfold cellsV; rw [if_pos hz]
      obtain ⟨z1, _, _⟩ := code_zero hz
      obtain ⟨w1, w2, w3⟩ := grid_facts z1
      have hle := cntG_le (l := u) (bt v 0) (fun r hr => (w3 r hr).2.2.1)
      simp only [if_pos hz, hcv1, if_neg (show ¬ n < 1 by omega), if_neg (show ¬ n > (cntG (bt v 0) u : Int) by omega), if_neg (show ¬ c < 0 by omega), w64 (x := 4 * (cntG (bt v 0) u : Int)) (by omega) (by omega), decide_eq_false (show ¬ c > 4 * (cntG (bt v 0) u : Int) by omega)]
      exact hlast
    · simp only [if_neg hz]
      exact hlast

end Go.Proofs.YtdkmngghknohgaaDoor.Pure
