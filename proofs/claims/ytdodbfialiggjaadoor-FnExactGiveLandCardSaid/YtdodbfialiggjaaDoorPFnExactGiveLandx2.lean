-- Made by a program of this session (gprint.py) out of the kit's print of the translation and texts of my own.
import Derived.Test.YtdodbfialiggjaaDoorPFnExactGiveLandx0
import Derived.Test.YtdodbfialiggjaaDoorPFnExactGiveLandx1
namespace Go.Proofs.YtdodbfialiggjaaDoor.PFnExactGiveLand
open Go.RowKit Go.Proofs.YtdodbfialiggjaaDoorW.PrintWords Go.Proofs.YtdodbfialiggjaaDoorW.PrintLast Go.Proofs.YtdodbfialiggjaaDoorW.PrintMore
attribute [local go_sem] max2_int min2_int max_two min_two max_three min_three max_four min_four   -- for this text's walks alone
set_option linter.unusedVariables false
set_option linter.unusedSimpArgs false

/-! ### spec_l12Code: function 48 -/
def spec_l12Code.j0 : Nat → List ByteArray → ByteArray → Bool → Option (Int)
  | 0, _, _, _ => none
  | k + 1, x0, x1, x16 => if x16 = true then (some 2) else (if 0 < (x1.size : Int) then ((spec_l12Count.f k x0 (bt x1 0)).bind fun t115 => (if t115 = 0 then (some 3) else (some 0))) else (none))
def spec_l12Code.f (k : Nat) (l0 : List ByteArray) (a1 : ByteArray) : Option (Int) := (spec_l12Ok.f k l0).bind fun t113 => (if t113 = true then (if (a1.size : Int) = 1 then (if 0 < (a1.size : Int) then ((spec_l01Small.f (bt a1 0)).bind fun t114 => (spec_l12Code.j0 k l0 a1 (!t114))) else (none)) else (spec_l12Code.j0 k l0 a1 true)) else (some 1))
theorem spec_l12Code.mono_l : ∀ k, (∀ y0 y1 y2, LeO (spec_l12Code.j0 k y0 y1 y2) (spec_l12Code.j0 (k + 1) y0 y1 y2))
  | 0 => fun _ _ _ r h => by simp [spec_l12Code.j0] at h
  | k + 1 => by
    have ih0 := spec_l12Code.mono_l k
    · intro y0 y1 y2
      unfold spec_l12Code.j0
      repeat' first
      | (with_reducible exact ih0 _ _ _)
      | (with_reducible exact spec_l12Count.mono _ _ _)
      | (with_reducible exact spec_l12Ok.mono _ _)
      | (with_reducible exact LeO.refl _)
      | (with_reducible exact LeO.none _)
      | (with_reducible refine LeO.ite ?_ ?_)
      | (with_reducible refine LeO.bind ?_ (fun _ => ?_))
      | exact ih0 _ _ _
      | exact spec_l12Count.mono _ _ _
      | exact spec_l12Ok.mono _ _
      | exact LeO.none _
      | refine LeO.ite ?_ ?_
      | refine LeO.bind ?_ (fun _ => ?_)
theorem spec_l12Code.mono : ∀ a0 a1 k, LeO (spec_l12Code.f k a0 a1) (spec_l12Code.f (k + 1) a0 a1) := by
  intro a0 a1 k
  have ih0 := spec_l12Code.mono_l k
  unfold spec_l12Code.f
  repeat' first
      | (with_reducible exact ih0 _ _ _)
      | (with_reducible exact spec_l12Count.mono _ _ _)
      | (with_reducible exact spec_l12Ok.mono _ _)
      | (with_reducible exact LeO.refl _)
      | (with_reducible exact LeO.none _)
      | (with_reducible refine LeO.ite ?_ ?_)
      | (with_reducible refine LeO.bind ?_ (fun _ => ?_))
      | exact ih0 _ _ _
      | exact spec_l12Count.mono _ _ _
      | exact spec_l12Ok.mono _ _
      | exact LeO.none _
      | refine LeO.ite ?_ ?_
      | refine LeO.bind ?_ (fun _ => ?_)
set_option maxHeartbeats 8000000 in
set_option maxRecDepth 100000 in
theorem spec_l12Code.calls (k : Nat) (A0 : Option Addr) (c0 : Nat) (l0 : List ByteArray) (a1 : ByteArray) (r : Int) (w : World) (hr0 : Kd.C Kd.string w A0 l0.length l0) (hc0 : l0.length ≤ c0) (h : spec_l12Code.f k l0 a1 = some r) :
    Calls Tryd.prog 48 #[.slice A0 l0.length c0, .string a1] w fun e w' => e = .returned (.int .i64 r) ∧ Drawn0 w w' := by
  have HR0 := Aside0.mk hr0
  have HC0 := Aside0.mk hc0
  clear hr0 hc0
  have H : ((spec_l12Ok.f k l0).bind fun t113 => (if t113 = true then (if (a1.size : Int) = 1 then (if 0 < (a1.size : Int) then ((spec_l01Small.f (bt a1 0)).bind fun t114 => (spec_l12Code.j0 k l0 a1 (!t114))) else (none)) else (spec_l12Code.j0 k l0 a1 true)) else (some 1))) = some r := h
  clear h
  replace H := Option.bind_eq_some_iff.mp H
  obtain ⟨t113, A30, H⟩ := H
  replace H : (if t113 = true then (if (a1.size : Int) = 1 then (if 0 < (a1.size : Int) then ((spec_l01Small.f (bt a1 0)).bind fun t114 => (spec_l12Code.j0 k l0 a1 (!t114))) else (none)) else (spec_l12Code.j0 k l0 a1 true)) else (some 1)) = some r := H
  have A3 := Aside0.mk A30
  clear A30
  by_cases c4 : t113 = true
  · subst c4
    have H1 : (if (a1.size : Int) = 1 then (if 0 < (a1.size : Int) then ((spec_l01Small.f (bt a1 0)).bind fun t114 => (spec_l12Code.j0 k l0 a1 (!t114))) else (none)) else (spec_l12Code.j0 k l0 a1 true)) = some r := by rw [if_pos rfl] at H; exact H
    clear H
    have H := H1
    clear H1
    have HC5 := Aside0.mk H
    clear H
    go_enter Tryd.func48, Tryd.ntmps48
    go_upto_region 3 with (first | ((with_reducible refine gate_callee (f := 53) rfl ?_); refine goesL_ (some 6) rfl rfl Tryd.func53 (by kernel_rfl) rfl #[.slice A0 l0.length c0] rfl (by (try simp only [List.map_toArray, List.map_cons, List.map_nil]); first | done | rfl | (simp only [List.length_drop, List.length_take]; rfl)) ?_; (with_reducible refine (spec_l12Ok.calls k _ _ l0 true _ ?side1 ?side2 A3.out).mono ?_); (case side1 => repeat (first | exact HR0.out | (with_reducible refine Kd.C_alloc ?_ _) | (with_reducible refine Kd.C_drewN ?_ _) | (with_reducible refine Kd.C_drew ?_))); (case side2 => exact HC0.out); rintro e w' ⟨rfl, ⟨nd, rfl⟩⟩; refine ⟨_, rfl, ?_⟩))
    (try simp only [Act.put, List.setIfInBounds_toArray, List.set_cons_zero, List.set_cons_succ])
    go_cut [16] (fun v16 wc => ∃ (kq : Nat) (x16_4 : Bool), v16 = .bool x16_4 ∧ Aside0 (spec_l12Code.j0 kq l0 a1 x16_4 = some r) ∧ Aside0 (kq ≤ k) ∧ Drawn0 w wc)
    case first =>
      have H := HC5.out
      clear HC5
      by_cases c6 : (a1.size : Int) = 1
      · rw [if_pos c6] at H
        have c6b0 : ((a1.size : Int) == 1) = true := beq_iff_eq.mpr c6
        have c6b1 : ((a1.size : Int) != 1) = false := bne_eq_false_iff_eq.mpr c6
        clear c6
        (first | rw [c6b0] | (simp only [i64_w, i32_w]; rw [c6b0]) | skip)
        by_cases c7 : 0 < (a1.size : Int)
        · rw [if_pos c7] at H
          have c7b0 : decide (0 < (a1.size : Int)) = true := decide_eq_true c7
          have c7b1 : decide (0 < a1.size) = true := decide_eq_true (by omega)
          clear c7
          replace H := Option.bind_eq_some_iff.mp H
          obtain ⟨t114, A90, H⟩ := H
          replace H : (spec_l12Code.j0 k l0 a1 (!t114)) = some r := H
          have A9 := Aside0.mk A90
          clear A90
          have H' := Aside0.mk H
          clear H
          have p8 : 0 ≤ (0 : Int) := (by omega)
          have q8 : 0 < a1.size := (by have : (0 : Int) < (a1.size : Int) := of_decide_eq_true (by first | (with_reducible assumption) | assumption); omega)
          have hx8 : ∀ h : 0 < a1.size, ((a1[0]'h).toNat : Int) = bt a1 0 := bt_at a1 0
          clear p8
          have qi8 : (0 < (a1.size : Int)) = True := eq_true (of_decide_eq_true (by first | (with_reducible assumption) | assumption))
          replace q8 := eq_true q8
          go_wp2_with (first | (go_at_call 49; (with_reducible refine (spec_l01Small.calls (bt a1 0) t114 _ A9.out).mono ?_); rintro e w' ⟨rfl, ⟨nd, rfl⟩⟩))
          go_meet
          case rel => exact ⟨_, (!t114), (by first | rfl | (simp; done) | (simp [*]; done)), H', ⟨by first | omega | exact Nat.le_refl _⟩, by repeat (first | exact Drawn0.refl _ | apply Drawn0.step)⟩
        · rw [if_neg c7] at H
          exact absurd H (by simp)
      · rw [if_neg c6] at H
        have c6b0 : ((a1.size : Int) == 1) = false := beq_eq_false_iff_ne.mpr c6
        have c6b1 : ((a1.size : Int) != 1) = true := bne_iff_ne.mpr c6
        (first | rw [c6b0] | (simp only [i64_w, i32_w]; rw [c6b0]) | skip)
        have H' := Aside0.mk H
        clear H
        go_wp2
        go_meet
        case rel => exact ⟨_, (true), (by first | rfl | (simp; done) | (simp [*]; done)), H', ⟨by first | omega | exact Nat.le_refl _⟩, by repeat (first | exact Drawn0.refl _ | apply Drawn0.step)⟩
    case rest =>
      clear HC5
      try clear p2
      try clear c4
      try clear c5
      try clear c6
      try clear c6b0
      try clear c6b1
      try clear c7
      try clear c7b0
      try clear c7b1
      try clear p8
      try clear q8
      try clear hx8
      try clear qi8
      try clear p8
      try clear q8
      obtain ⟨kq, x16_4, rfl, HA, HJ4, ⟨mc4, rfl⟩⟩ := hcut
      cases kq with
      | zero => exact absurd HA.out (by simp [spec_l12Code.j0])
      | succ kj4 =>
        have H := HA.out
        clear HA
        simp only [spec_l12Code.j0] at H
        by_cases c10 : x16_4 = true
        · subst c10
          have H1 : (some 2) = some r := by rw [if_pos rfl] at H; exact H
          clear H
          have H := H1
          clear H1
          obtain rfl := Option.some.inj H
          go_wp2
          go_ret
          exact ⟨by first | rfl | (simp; done) | (simp [*]; done), by repeat (first | exact Drawn0.refl _ | apply Drawn0.step)⟩
        · replace c10 := Bool.eq_false_iff.mpr c10
          subst c10
          have H1 : (if 0 < (a1.size : Int) then ((spec_l12Count.f kj4 l0 (bt a1 0)).bind fun t115 => (if t115 = 0 then (some 3) else (some 0))) else (none)) = some r := by rw [if_neg (show ¬ (false = true) by decide)] at H; exact H
          clear H
          have H := H1
          clear H1
          by_cases c11 : 0 < (a1.size : Int)
          · rw [if_pos c11] at H
            have c11b0 : decide (0 < (a1.size : Int)) = true := decide_eq_true c11
            have c11b1 : decide (0 < a1.size) = true := decide_eq_true (by omega)
            clear c11
            replace H := Option.bind_eq_some_iff.mp H
            obtain ⟨t115, A130, H⟩ := H
            replace H : (if t115 = 0 then (some 3) else (some 0)) = some r := H
            have A13 := Aside0.mk A130
            clear A130
            by_cases c14 : t115 = 0
            · rw [if_pos c14] at H
              have c14b0 : (t115 == 0) = true := beq_iff_eq.mpr c14
              have c14b1 : (t115 != 0) = false := bne_eq_false_iff_eq.mpr c14
              clear c14
              obtain rfl := Option.some.inj H
              have p12 : 0 ≤ (0 : Int) := (by omega)
              have q12 : 0 < a1.size := (by have : (0 : Int) < (a1.size : Int) := of_decide_eq_true (by first | (with_reducible assumption) | assumption); omega)
              have hx12 : ∀ h : 0 < a1.size, ((a1[0]'h).toNat : Int) = bt a1 0 := bt_at a1 0
              clear p12
              have qi12 : (0 < (a1.size : Int)) = True := eq_true (of_decide_eq_true (by first | (with_reducible assumption) | assumption))
              replace q12 := eq_true q12
              go_wp2_with (first | ((with_reducible refine gate_callee (f := 86) rfl ?_); refine goesL_ (some 20) rfl rfl Tryd.func86 (by kernel_rfl) rfl #[.slice A0 l0.length c0, .int .u8 (bt a1 0)] rfl (by (try simp only [List.map_toArray, List.map_cons, List.map_nil]); first | done | rfl | (simp only [List.length_drop, List.length_take]; rfl)) ?_; (with_reducible refine (spec_l12Count.calls kj4 _ _ l0 (bt a1 0) t115 _ ?side1 ?side2 A13.out).mono ?_); (case side1 => repeat (first | exact HR0.out | (with_reducible refine Kd.C_alloc ?_ _) | (with_reducible refine Kd.C_drewN ?_ _) | (with_reducible refine Kd.C_drew ?_))); (case side2 => exact HC0.out); rintro e w' ⟨rfl, ⟨nd, rfl⟩⟩; refine ⟨_, rfl, ?_⟩))
              go_ret
              exact ⟨by first | rfl | (simp; done) | (simp [*]; done), by repeat (first | exact Drawn0.refl _ | apply Drawn0.step)⟩
            · rw [if_neg c14] at H
              have c14b0 : (t115 == 0) = false := beq_eq_false_iff_ne.mpr c14
              have c14b1 : (t115 != 0) = true := bne_iff_ne.mpr c14
              obtain rfl := Option.some.inj H
              have p12 : 0 ≤ (0 : Int) := (by omega)
              have q12 : 0 < a1.size := (by have : (0 : Int) < (a1.size : Int) := of_decide_eq_true (by first | (with_reducible assumption) | assumption); omega)
              have hx12 : ∀ h : 0 < a1.size, ((a1[0]'h).toNat : Int) = bt a1 0 := bt_at a1 0
              clear p12
              have qi12 : (0 < (a1.size : Int)) = True := eq_true (of_decide_eq_true (by first | (with_reducible assumption) | assumption))
              replace q12 := eq_true q12
              go_wp2_with (first | ((with_reducible refine gate_callee (f := 86) rfl ?_); refine goesL_ (some 20) rfl rfl Tryd.func86 (by kernel_rfl) rfl #[.slice A0 l0.length c0, .int .u8 (bt a1 0)] rfl (by (try simp only [List.map_toArray, List.map_cons, List.map_nil]); first | done | rfl | (simp only [List.length_drop, List.length_take]; rfl)) ?_; (with_reducible refine (spec_l12Count.calls kj4 _ _ l0 (bt a1 0) t115 _ ?side1 ?side2 A13.out).mono ?_); (case side1 => repeat (first | exact HR0.out | (with_reducible refine Kd.C_alloc ?_ _) | (with_reducible refine Kd.C_drewN ?_ _) | (with_reducible refine Kd.C_drew ?_))); (case side2 => exact HC0.out); rintro e w' ⟨rfl, ⟨nd, rfl⟩⟩; refine ⟨_, rfl, ?_⟩))
              go_ret
              exact ⟨by first | rfl | (simp; done) | (simp [*]; done), by repeat (first | exact Drawn0.refl _ | apply Drawn0.step)⟩
          · rw [if_neg c11] at H
            exact absurd H (by simp)
  · replace c4 := Bool.eq_false_iff.mpr c4
    subst c4
    have H1 : (some 1) = some r := by rw [if_neg (show ¬ (false = true) by decide)] at H; exact H
    clear H
    have H := H1
    clear H1
    obtain rfl := Option.some.inj H
    go_enter Tryd.func48, Tryd.ntmps48
    go_wp2_with (first | ((with_reducible refine gate_callee (f := 53) rfl ?_); refine goesL_ (some 6) rfl rfl Tryd.func53 (by kernel_rfl) rfl #[.slice A0 l0.length c0] rfl (by (try simp only [List.map_toArray, List.map_cons, List.map_nil]); first | done | rfl | (simp only [List.length_drop, List.length_take]; rfl)) ?_; (with_reducible refine (spec_l12Ok.calls k _ _ l0 false _ ?side1 ?side2 A3.out).mono ?_); (case side1 => repeat (first | exact HR0.out | (with_reducible refine Kd.C_alloc ?_ _) | (with_reducible refine Kd.C_drewN ?_ _) | (with_reducible refine Kd.C_drew ?_))); (case side2 => exact HC0.out); rintro e w' ⟨rfl, ⟨nd, rfl⟩⟩; refine ⟨_, rfl, ?_⟩))
    go_ret
    exact ⟨by first | rfl | (simp; done) | (simp [*]; done), by repeat (first | exact Drawn0.refl _ | apply Drawn0.step)⟩

/-! ### spec_GiveLand: function 20 -/
-- given by hand
/-! A row of bytes that a conversion has made -/
/-- The numbers of a text. -/
def numsB (s : ByteArray) : List Int := s.data.toList.map fun b => (b.toNat : Int)
theorem numsB_length (s : ByteArray) : (numsB s).length = s.size := by unfold numsB; rw [List.length_map, Array.length_toList]; rfl
/-- A row of bytes at g, with what a conversion marks behind it. -/
def BRow (w : World) (g : Nat) (e : TypeId) (xs : List Int) : Prop := ∃ cur : Array Value, w.heap[g]? = some (.cells cur e (cur.size, cur.size + 1)) ∧ xs.length ≤ cur.size ∧ xs.length ≤ 9223372036854775807 ∧ ∀ j, j < xs.length → cur[j]? = some (.int .u8 (xs.getD j 0))
theorem BRow.new (w : World) (e : TypeId) (s : ByteArray) (h : s.size ≤ 9223372036854775807) : BRow (Go.Lib.bytesWorld w e s) w.heap.size e (numsB s) := by
  refine ⟨_, Go.Lib.bytesWorld_at_new w e s, ?_, ?_, ?_⟩
  · rw [numsB_length]
    unfold Go.Lib.bytesCells
    rw [Array.size_append, Array.size_map]
    exact Nat.le_add_right _ _
  · rw [numsB_length]; exact h
  · intro j hj
    rw [numsB_length] at hj
    have hj' : j < s.data.size := hj
    simp [Go.Lib.bytesCells, Array.getElem?_append, hj', numsB, List.getD]
    rw [if_pos hj, Array.getElem?_eq_getElem hj']
    rfl
theorem BRow.at_ {w : World} {g : Nat} {e : TypeId} {xs : List Int} (h : BRow w g e xs) (j : Nat) (hj : j < xs.length) : w.cell? ⟨g, j, none⟩ = some (.int .u8 (xs.getD j 0)) ∧ w.frozen? ⟨g, j, none⟩ = false := by
  obtain ⟨cur, h1, h2, h4, h3⟩ := h
  refine ⟨?_, ?_⟩
  · simp [World.cell?, h1, h3 j hj]
  · simp only [World.frozen?, h1]
    have : ¬ cur.size ≤ j := by omega
    simp [this]
theorem BRow.set {w : World} {g : Nat} {e : TypeId} {xs : List Int} (h : BRow w g e xs) (j : Nat) (hj : j < xs.length) (x : Int) : BRow (w.setCell ⟨g, j, none⟩ (.int .u8 x)) g e (xs.set j x) := by
  obtain ⟨cur, h1, h2, h4, h3⟩ := h
  refine ⟨cur.setIfInBounds j (.int .u8 x), ?_, ?_, ?_, ?_⟩
  · simp [World.setCell, Array.getElem?_modify, h1]
  · simpa using h2
  · simpa using h4
  · intro i hi
    simp only [List.length_set] at hi
    rw [Array.getElem?_setIfInBounds]
    by_cases c : j = i
    · subst c
      have hlt : j < cur.size := by omega
      simp [hlt, hj, List.getD]
    · simp only [c, if_false]
      rw [h3 i hi]
      simp [List.getD, List.getElem?_set_ne c]
theorem BRow.C {w : World} {g : Nat} {e : TypeId} {xs : List Int} (h : BRow w g e xs) : (Kd.int .u8).C w (some ⟨g, 0, none⟩) xs.length xs := by
  refine Kd.C_of_reads (enc := Value.int .u8) (d := (0 : Int)) (h1 := fun _ => rfl) ⟨rfl, h.choose_spec.2.2.1, fun _ => ⟨_, rfl, fun j hj => ?_⟩⟩
  have := (h.at_ j hj).1
  rcases Nat.eq_zero_or_pos j with rfl | h0
  · simpa [Addr.add] using this
  · simpa [Addr.add, show j ≠ 0 by omega] using this

def gvB (x y b : Int) : Int := if b = x then y else b
def giveB (x y : Int) (r : ByteArray) : ByteArray := strOfNums ((numsB r).map (gvB x y))
/-- The row when k of its bytes are seen. -/
def seenB (x y : Int) (ns : List Int) (k : Nat) : List Int := (ns.take k).map (gvB x y) ++ ns.drop k
theorem seenB_length (x y : Int) (ns : List Int) (k : Nat) : (seenB x y ns k).length = ns.length := by simp [seenB]; omega
theorem seenB_at (x y : Int) (ns : List Int) (k : Nat) (h : k < ns.length) : (seenB x y ns k).getD k 0 = ns.getD k 0 := by
  unfold seenB
  rw [List.getD_eq_getElem?_getD, List.getElem?_append_right (by simp; omega)]
  simp [List.getD, Nat.min_eq_left (Nat.le_of_lt h)]
theorem seenB_step (x y : Int) (ns : List Int) (k : Nat) (h : k < ns.length) : (seenB x y ns k).set k (gvB x y (ns.getD k 0)) = seenB x y ns (k + 1) := by
  have e1 : ns.drop k = ns[k] :: ns.drop (k + 1) := List.drop_eq_getElem_cons h
  have e2 : ns.take (k + 1) = ns.take k ++ [ns[k]] := by rw [List.take_add_one, List.getElem?_eq_getElem h]; rfl
  have e3 : ns.getD k 0 = ns[k] := by simp [List.getD, h]
  have e4 : k - ((ns.take k).map (gvB x y)).length = 0 := by simp; omega
  unfold seenB
  rw [List.set_append_right _ _ (by simp; omega), e4, e2, List.map_append, e1, e3, List.append_assoc]
  rfl
theorem seenB_same (x y : Int) (ns : List Int) (k : Nat) (h : k < ns.length) (hx : ns.getD k 0 ≠ x) : seenB x y ns k = seenB x y ns (k + 1) := by
  rw [← seenB_step x y ns k h, show gvB x y (ns.getD k 0) = (seenB x y ns k).getD k 0 by rw [seenB_at x y ns k h]; unfold gvB; rw [if_neg hx]]
  have hl : k < (seenB x y ns k).length := by rw [seenB_length]; exact h
  rw [List.getD_eq_getElem?_getD, List.getElem?_eq_getElem hl]
  simp
theorem seenB_all (x y : Int) (ns : List Int) : seenB x y ns ns.length = ns.map (gvB x y) := by simp [seenB]
theorem seenB_zero (x y : Int) (ns : List Int) : seenB x y ns 0 = ns := by simp [seenB]
def spec_GiveLand.bad (a2 : ByteArray) : Option Bool := if (a2.size : Int) = 1 then (if bt a2 0 = 46 then some false else (spec_l01Small.f (bt a2 0)).map (fun t => !t)) else some true
def spec_GiveLand.f (k : Nat) (l0 : List ByteArray) (a1 a2 : ByteArray) : Option (List ByteArray × Int) := (spec_l12Code.f k l0 a1).bind fun c => if c = 1 then some ([], c) else (spec_GiveLand.bad a2).bind fun bad => if bad = true then some ([], 2) else if c = 0 then (if 1 ≤ a1.size ∧ l0.length < 100 ∧ (∀ r ∈ l0, r.size < 100) then some (l0.map (giveB (bt a1 0) (bt a2 0)), 0) else none) else some ([], c)
theorem spec_GiveLand.mono : ∀ a0 a1 a2 k, LeO (spec_GiveLand.f k a0 a1 a2) (spec_GiveLand.f (k + 1) a0 a1 a2) := by
  intro a0 a1 a2 k
  unfold spec_GiveLand.f
  repeat' first
      | exact spec_l12Code.mono _ _ _
      | (with_reducible exact LeO.refl _)
      | (with_reducible refine LeO.ite ?_ ?_)
      | (with_reducible refine LeO.bind ?_ (fun _ => ?_))
      | exact LeO.refl _
/-- What the guard of the second text comes to. -/
theorem spec_GiveLand.bad_size (a2 : ByteArray) (h : spec_GiveLand.bad a2 = some false) : a2.size = 1 := by
  unfold spec_GiveLand.bad at h
  split at h
  · omega
  · cases h
set_option maxHeartbeats 8000000 in
set_option maxRecDepth 100000 in
theorem spec_GiveLand.calls (k : Nat) (A0 : Option Addr) (c0 : Nat) (l0 : List ByteArray) (a1 a2 : ByteArray) (r1 : List ByteArray) (r2 : Int) (w : World) (hr0 : Kd.C Kd.string w A0 l0.length l0) (hc0 : l0.length ≤ c0) (h : spec_GiveLand.f k l0 a1 a2 = some (r1, r2)) :
    Calls Tryd.prog 20 #[.slice A0 l0.length c0, .string a1, .string a2] w fun e w' => ∃ v0_ : Value, e = .returned (.tuple #[v0_, .int .i64 r2]) ∧ Kd.R Kd.string 9 w' w.heap.size (fun _ => True) v0_ r1 ∧ Below w.heap.size w w' := by
  unfold spec_GiveLand.f at h
  obtain ⟨c, e1, h⟩ := Option.bind_eq_some_iff.1 h
  have A1 := Aside0.mk e1
  clear e1
  have hM := Kd.C_max hr0
  by_cases hc1 : c = 1
  · rw [if_pos hc1] at h
    subst hc1
    obtain ⟨rfl, rfl⟩ := Prod.mk.inj (Option.some.inj h)
    clear h
    go_enter Tryd.func20, Tryd.ntmps20
    go_wp2_with (go_at_call 48; (with_reducible refine (spec_l12Code.calls k A0 c0 l0 a1 1 _ hr0 hc0 A1.out).mono ?_); rintro e w' ⟨rfl, ⟨nd, rfl⟩⟩)
    go_ret2
    exact ⟨_, rfl, Kd.R_nil _ _ _ _ _, pw_below_drewN (Below.refl _ _) _⟩
  · rw [if_neg hc1] at h
    obtain ⟨bad, e2, h⟩ := Option.bind_eq_some_iff.1 h
    have c1b : (c == 1) = false := beq_eq_false_iff_ne.2 hc1
    have c1n : (c != 1) = true := bne_iff_ne.2 hc1
    have A2 := Aside0.mk e2
    have H3 := Aside0.mk h
    clear e2 h
    go_enter Tryd.func20, Tryd.ntmps20
    go_upto_region 4 with (go_at_call 48; (with_reducible refine (spec_l12Code.calls k A0 c0 l0 a1 c _ hr0 hc0 A1.out).mono ?_); rintro e w' ⟨rfl, ⟨nd, rfl⟩⟩)
    (try simp only [Act.put, List.setIfInBounds_toArray, List.set_cons_zero, List.set_cons_succ])
    go_cut [32] (fun v32 wc => v32 = .bool bad ∧ Drawn0 w wc)
    case first =>
      have H := A2.out
      unfold spec_GiveLand.bad at H
      by_cases c6 : (a2.size : Int) = 1
      · rw [if_pos c6] at H
        have c6b0 : ((a2.size : Int) == 1) = true := beq_iff_eq.mpr c6
        have c6b1 : ((a2.size : Int) != 1) = false := bne_eq_false_iff_eq.mpr c6
        have c7b0 : decide (0 < (a2.size : Int)) = true := decide_eq_true (by omega)
        have c7b1 : decide (0 < a2.size) = true := decide_eq_true (by omega)
        have q8 : (0 < a2.size) = True := eq_true (by omega)
        have hx8 : ∀ h : 0 < a2.size, ((a2[0]'h).toNat : Int) = bt a2 0 := bt_at a2 0
        have qi8 : (0 < (a2.size : Int)) = True := eq_true (by omega)
        clear c6
        by_cases c8 : bt a2 0 = 46
        · rw [if_pos c8] at H
          obtain rfl := Option.some.inj H
          have c8b0 : (bt a2 0 == 46) = true := beq_iff_eq.mpr c8
          have c8b1 : (bt a2 0 != 46) = false := bne_eq_false_iff_eq.mpr c8
          clear c8 H
          go_wp2
          go_meet
          case rel => exact ⟨by first | rfl | (simp; done) | (simp [*]; done), by repeat (first | exact Drawn0.refl _ | apply Drawn0.step)⟩
        · rw [if_neg c8] at H
          have c8b0 : (bt a2 0 == 46) = false := beq_eq_false_iff_ne.mpr c8
          have c8b1 : (bt a2 0 != 46) = true := bne_iff_ne.mpr c8
          clear c8
          obtain ⟨t, ht, rfl⟩ := Option.map_eq_some_iff.1 H
          have AT := Aside0.mk ht
          clear ht H
          go_wp2_with (first | (go_at_call 49; (with_reducible refine (spec_l01Small.calls (bt a2 0) t _ AT.out).mono ?_); rintro e w' ⟨rfl, ⟨nd2, rfl⟩⟩))
          go_meet
          case rel => exact ⟨by first | rfl | (simp; done) | (simp [*]; done), by repeat (first | exact Drawn0.refl _ | apply Drawn0.step)⟩
      · rw [if_neg c6] at H
        have c6b0 : ((a2.size : Int) == 1) = false := beq_eq_false_iff_ne.mpr c6
        have c6b1 : ((a2.size : Int) != 1) = true := bne_iff_ne.mpr c6
        obtain rfl := Option.some.inj H
        clear H c6
        go_wp2
        go_meet
        case rel => exact ⟨by first | rfl | (simp; done) | (simp [*]; done), by repeat (first | exact Drawn0.refl _ | apply Drawn0.step)⟩
    case rest =>
      obtain ⟨rfl, ⟨mc4, rfl⟩⟩ := hcut
      have h := H3.out
      clear H3
      cases bad with
      | true =>
        rw [if_pos rfl] at h
        obtain ⟨rfl, rfl⟩ := Prod.mk.inj (Option.some.inj h)
        clear h
        go_wp2
        go_ret2
        exact ⟨_, rfl, Kd.R_nil _ _ _ _ _, pw_below_drewN (Below.refl _ _) _⟩
      | false =>
        rw [if_neg (by decide)] at h
        have h2s := spec_GiveLand.bad_size a2 A2.out
        by_cases hc0' : c = 0
        · subst hc0'
          rw [if_pos rfl] at h
          by_cases hcc : 1 ≤ a1.size ∧ l0.length < 100 ∧ (∀ r ∈ l0, r.size < 100)
          · rw [if_pos hcc] at h
            obtain ⟨hs1, hs2, hs3⟩ := hcc
            obtain ⟨rfl, rfl⟩ := Prod.mk.inj (Option.some.inj h)
            clear h
            have HB := Aside0.mk (pw_below_drewN (Below.refl w.heap.size w) mc4)
            have d1 : decide (0 < a1.size) = true := decide_eq_true (by omega)
            have di1 : decide (0 < (a1.size : Int)) = true := decide_eq_true (by omega)
            have q1 : (0 < a1.size) = True := eq_true (by omega)
            have qi1 : (0 < (a1.size : Int)) = True := eq_true (by omega)
            have hx1 : ∀ h : 0 < a1.size, ((a1[0]'h).toNat : Int) = bt a1 0 := bt_at a1 0
            have d2 : decide (0 < a2.size) = true := decide_eq_true (by omega)
            have di2 : decide (0 < (a2.size : Int)) = true := decide_eq_true (by omega)
            have q2 : (0 < a2.size) = True := eq_true (by omega)
            have qi2 : (0 < (a2.size : Int)) = True := eq_true (by omega)
            have hx2 : ∀ h : 0 < a2.size, ((a2[0]'h).toNat : Int) = bt a2 0 := bt_at a2 0
            go_wp2_with (first | ((with_reducible refine gate_dst (N := 36) rfl ?_); refine Kd.R_lit Kd.string _ 9 ?hg (N := 36) ?hd (xs := ([] : List ByteArray)) (inner := []) (ok := fun _ => True) (okp := fun _ => True) ?hr ?hp (fun _ hk => hk) trivial (Below.refl _ _) (Nat.le_refl _) (by simp) ?_; (case hd => rfl); (case hg => rfl); (case hr => first | (go_simp; done) | (go_simp; rfl)); (case hp => exact (Reps.none _ _)); intro v1 w3 ho4 hb hg_ hnew_; clear hg_ hnew_; have HO := Aside0.mk (Kd.R_lower ho4 (below_size HB.out)); have n1_ := Aside0.mk (below_step HB.out hb); clear HB; have HB := n1_; clear n1_ hb ho4))
            go_loopg [9, 10] l0.length (fun g v9 v10 w' => ∃ j : Nat, v10 = .int .i64 j ∧ j + g = l0.length ∧ Aside0 (Kd.R Kd.string 9 w' w.heap.size (fun _ => True) v9 ((l0.take j).map (giveB (bt a1 0) (bt a2 0)))) ∧ Aside0 (Below w.heap.size w w'))
            case atStart => exact ⟨0, rfl, by omega, ⟨by simpa using HO.out⟩, HB⟩
            case round =>
              clear HO HB
              obtain ⟨j, rfl, hjg, HO, HB⟩ := hrel
              obtain ⟨wo, hwo⟩ : ∃ x, x = wr := ⟨_, rfl⟩
              subst hwo
              cases gk with
              | zero =>
                have hj : j = l0.length := by omega
                subst hj
                have c5b0 : decide ((l0.length : Int) < (l0.length : Int)) = false := decide_eq_false (by omega)
                go_wp2
                go_ret2
                exact ⟨_, rfl, by simpa using HO.out, HB.out⟩
              | succ g =>
                have hj : j < l0.length := by omega
                have c5b0 : decide ((j : Int) < (l0.length : Int)) = true := decide_eq_true (by omega)
                have p136 : (0 ≤ (j : Int)) = True := eq_true (by omega)
                have q136 : ((j : Int) < (l0.length : Int)) = True := eq_true (by omega)
                have w136 : wrap64 ((j : Int) + 1) = ((j + 1 : Nat) : Int) := by unfold wrap64; omega
                obtain ⟨ad136, e136, hx136_0⟩ := Kd.at_string hr0 (j : Int) (by omega) (by omega)
                cases e136
                replace hx136_0 := (HB.out.cell (World.block_lt_of_cell? w _ hx136_0)).trans hx136_0
                obtain ⟨row, hrow⟩ : ∃ row, row = rdOf ByteArray.empty l0 (j : Int) := ⟨_, rfl⟩
                rw [← hrow] at hx136_0
                simp only [Int.toNat_natCast] at hx136_0
                have hrl : row.size < 100 := hs3 _ (by rw [hrow]; unfold rdOf; simp only [Int.toNat_natCast]; rw [List.getD_eq_getElem?_getD, List.getElem?_eq_getElem hj]; exact List.getElem_mem hj)
                have HROW := Aside0.mk hrow
                clear hrow
                have hcv := Go.Lib.run_convert_string_bytes (P := Tryd.prog) wo 9 76 5 row (u := .string) Tryd.underlying9 Tryd.underlying76 Tryd.underlying5
                have hBN := BRow.new wo 5 row (by omega)
                have hBB := Go.Lib.bytesWorld_below wo 5 row
                obtain ⟨W1, hW1⟩ : ∃ W1, W1 = Go.Lib.bytesWorld wo 5 row := ⟨_, rfl⟩
                rw [← hW1] at hcv hBN hBB
                clear hW1
                go_wp2
                go_loopg [12] row.size (fun g v12 wx => ∃ m : Nat, v12 = .int .i64 m ∧ m + g = row.size ∧ Aside0 (BRow wx wo.heap.size 5 (seenB (bt a1 0) (bt a2 0) (numsB row) m)) ∧ Aside0 (Below wo.heap.size wo wx))
                case atStart => exact ⟨0, rfl, by omega, ⟨by rw [seenB_zero]; exact hBN⟩, ⟨hBB⟩⟩
                case round =>
                  clear hBN hBB
                  obtain ⟨m, rfl, hmg, HN, HBX⟩ := hrel
                  have w137 : wrap64 ((m : Int) + 1) = ((m + 1 : Nat) : Int) := by unfold wrap64; omega
                  cases gk with
                  | zero =>
                    have hm : m = row.size := by omega
                    subst hm
                    have c6b0 : decide ((row.size : Int) < (row.size : Int)) = false := decide_eq_false (by omega)
                    have hC := HN.out.C
                    rw [seenB_length, numsB_length] at hC
                    have hcv2 := Kd.C_string (P := Tryd.prog) (src := 76) (dst := 9) (e := 5) (c := grownCap wo row.size 0 5) Tryd.underlying76 Tryd.underlying5 Tryd.underlying9 hC
                    rw [show seenB (bt a1 0) (bt a2 0) (numsB row) row.size = (numsB row).map (gvB (bt a1 0) (bt a2 0)) by rw [← numsB_length row]; exact seenB_all _ _ _] at hcv2
                    have HO2 := Aside0.mk (Kd.R_below HO.out HBX.out)
                    have HB2 := Aside0.mk (below_step HB.out HBX.out)
                    clear HO HB hC
                    have hrw := HROW.out
                    have hlt : ((l0.take j).map (giveB (bt a1 0) (bt a2 0))).length < 100 := by rw [List.length_map, List.length_take]; omega
                    obtain ⟨xo, hxo⟩ : ∃ xo, xo = (l0.take j).map (giveB (bt a1 0) (bt a2 0)) := ⟨_, rfl⟩
                    rw [← hxo] at HO2 hlt
                    have HXO := Aside0.mk hxo
                    have HLT := Aside0.mk hlt
                    clear hxo hlt hrw
                    obtain ⟨so, hso⟩ : ∃ so, so = strOfNums ((numsB row).map (gvB (bt a1 0) (bt a2 0))) := ⟨_, rfl⟩
                    rw [← hso] at hcv2
                    have HSO := Aside0.mk hso
                    clear hso
                    go_wp2_with (first | ((with_reducible refine gate_builtin (b := .append) (xs := #[.tmp 66, .tmp 69]) rfl ?_); at_builtin; refine Kd.R_append Kd.string (w0 := w) w.heap.size rfl (.tmp 66) (.tmp 69) 42 9 (.string ⟨#[]⟩) 16 rfl Tryd.underlying42 info9 rfl (by decide) (by omega) u9 xo so [.string so] (fun _ => True) (fun _ => False) rfl rfl ?aP (fun _ hk => hk.elim) ?aF ?aO ?aB ?aS ?aL ?_; (case aP => exact rfl); (case aB => exact HB2.out); (case aF => exact (fun _ _ => trivial)); (case aO => exact HO2.out); (case aS => exact (below_size HB2.out)); (case aL => have := HLT.out; omega); intro v138 w14 ho hb hg hat; have HO3 := Aside0.mk ho; have HB3 := Aside0.mk hb; clear HO2 HB2 ho hb hg hat))
                    go_roundg g
                    case measure => omega
                    case rel => exact ⟨j + 1, by first | rfl | (simp [*]; done), by omega, ⟨by have h9 := HO3.out; rw [HXO.out, HSO.out] at h9; rw [List.take_add_one, List.getElem?_eq_getElem hj, List.map_append]; have h8 := HROW.out; unfold rdOf at h8; simp only [Int.toNat_natCast] at h8; rw [List.getD_eq_getElem?_getD, List.getElem?_eq_getElem hj] at h8; simp only [Option.getD_some] at h8; rw [← h8]; exact h9⟩, HB3⟩
                  | succ g2 =>
                    have hm : m < row.size := by omega
                    have c6b0 : decide ((m : Int) < (row.size : Int)) = true := decide_eq_true (by omega)
                    have p137 : (0 ≤ (m : Int)) = True := eq_true (by omega)
                    have q137 : ((m : Int) < (row.size : Int)) = True := eq_true (by omega)
                    have hml : m < (numsB row).length := by rw [numsB_length]; exact hm
                    have hat := HN.out.at_ m (by rw [seenB_length]; exact hml)
                    rw [seenB_at _ _ _ _ hml] at hat
                    obtain ⟨hat1, hat2⟩ := hat
                    by_cases hx : (numsB row).getD m 0 = bt a1 0
                    · have c7b0 : ((numsB row).getD m 0 == bt a1 0) = true := beq_iff_eq.2 hx
                      rw [hx] at hat1
                      have c7b1 : (bt a1 0 == bt a1 0) = true := beq_self_eq_true _
                      go_wp2
                      go_quiet (fail)
                      go_wp2
                      go_roundg g2
                      case measure => omega
                      case rel => exact ⟨m + 1, by first | rfl | (simp [*]; done), by omega, ⟨by have h9 := BRow.set (show BRow (wr.drewN nq) wo.heap.size 5 _ from HN.out) m (by rw [seenB_length]; exact hml) (bt a2 0); have h8 := seenB_step (bt a1 0) (bt a2 0) (numsB row) m hml; rw [show gvB (bt a1 0) (bt a2 0) ((numsB row).getD m 0) = bt a2 0 by unfold gvB; rw [if_pos hx]] at h8; rw [← h8]; exact h9⟩, ⟨(pw_below_drewN HBX.out nq).setCell (p := ⟨wo.heap.size, m, none⟩) (Nat.le_refl _) _⟩⟩
                    · have c7b0 : ((numsB row).getD m 0 == bt a1 0) = false := beq_eq_false_iff_ne.2 hx
                      obtain ⟨bv, hbv⟩ : ∃ bv, bv = (numsB row).getD m 0 := ⟨_, rfl⟩
                      rw [← hbv] at hat1 c7b0
                      clear hbv
                      go_wp2
                      go_quiet (fail)
                      go_wp2
                      go_roundg g2
                      case measure => omega
                      case rel => exact ⟨m + 1, by first | rfl | (simp [*]; done), by omega, ⟨by rw [← seenB_same _ _ _ _ hml hx]; exact HN.out⟩, ⟨pw_below_drewN HBX.out _⟩⟩
          · rw [if_neg hcc] at h
            cases h
        · rw [if_neg hc0'] at h
          obtain ⟨rfl, rfl⟩ := Prod.mk.inj (Option.some.inj h)
          clear h
          have c0b : (c != 0) = true := bne_iff_ne.2 hc0'
          have c0b2 : (c == 0) = false := beq_eq_false_iff_ne.2 hc0'
          go_wp2
          go_ret2
          exact ⟨_, rfl, Kd.R_nil _ _ _ _ _, pw_below_drewN (Below.refl _ _) _⟩


/-! ### laws_toStringS: function 21 -/
def laws_toStringS.l0 : Nat → List ByteArray → List ByteArray → Int → Option (List ByteArray)
  | 0, _, _, _ => none
  | k + 1, x0, x3, x4 => if x4 < (x0.length : Int) then (if 0 ≤ x4 then (if x4 < (x3.length : Int) then (laws_toStringS.l0 k x0 (x3.set (x4 : Int).toNat (rdOf ByteArray.empty x0 x4)) (wrap64 (x4 + 1))) else (none)) else (none)) else (some x3)
def laws_toStringS.f (k : Nat) (l0 : List ByteArray) : Option (List ByteArray) := if 0 ≤ (l0.length : Int) then (if ((l0.length : Int) : Int).toNat ≤ 17592186044416 then (laws_toStringS.l0 k l0 (List.replicate ((l0.length : Int) : Int).toNat (⟨#[]⟩ : ByteArray)) 0) else (none)) else (none)
theorem laws_toStringS.mono_l : ∀ k, (∀ y0 y1 y2, LeO (laws_toStringS.l0 k y0 y1 y2) (laws_toStringS.l0 (k + 1) y0 y1 y2))
  | 0 => fun _ _ _ r h => by simp [laws_toStringS.l0] at h
  | k + 1 => by
    have ih0 := laws_toStringS.mono_l k
    · intro y0 y1 y2
      unfold laws_toStringS.l0
      repeat' first
      | (with_reducible exact ih0 _ _ _)
      | (with_reducible exact LeO.refl _)
      | (with_reducible exact LeO.none _)
      | (with_reducible refine LeO.ite ?_ ?_)
      | (with_reducible refine LeO.bind ?_ (fun _ => ?_))
      | exact ih0 _ _ _
      | exact LeO.none _
      | refine LeO.ite ?_ ?_
      | refine LeO.bind ?_ (fun _ => ?_)
theorem laws_toStringS.mono : ∀ a0 k, LeO (laws_toStringS.f k a0) (laws_toStringS.f (k + 1) a0) := by
  intro a0 k
  have ih0 := laws_toStringS.mono_l k
  unfold laws_toStringS.f
  repeat' first
      | (with_reducible exact ih0 _ _ _)
      | (with_reducible exact LeO.refl _)
      | (with_reducible exact LeO.none _)
      | (with_reducible refine LeO.ite ?_ ?_)
      | (with_reducible refine LeO.bind ?_ (fun _ => ?_))
      | exact ih0 _ _ _
      | exact LeO.none _
      | refine LeO.ite ?_ ?_
      | refine LeO.bind ?_ (fun _ => ?_)
set_option maxHeartbeats 8000000 in
set_option maxRecDepth 100000 in
theorem laws_toStringS.calls (k : Nat) (A0 : Option Addr) (c0 : Nat) (l0 : List ByteArray) (r : List ByteArray) (w : World) (hr0 : Kd.C Kd.string w A0 l0.length l0) (hc0 : l0.length ≤ c0) (h : laws_toStringS.f k l0 = some r) :
    Calls Tryd.prog 21 #[.slice A0 l0.length c0] w fun e w' => ∃ v0_ : Value, e = .returned (v0_) ∧ Kd.R Kd.string 9 w' w.heap.size (fun _ => True) v0_ r ∧ Below w.heap.size w w' := by
  have HR0 := Aside0.mk hr0
  have HC0 := Aside0.mk hc0
  clear hr0 hc0
  have HB := Aside0.mk (Below.refl w.heap.size w)
  have H : (if 0 ≤ (l0.length : Int) then (if ((l0.length : Int) : Int).toNat ≤ 17592186044416 then (laws_toStringS.l0 k l0 (List.replicate ((l0.length : Int) : Int).toNat (⟨#[]⟩ : ByteArray)) 0) else (none)) else (none)) = some r := h
  clear h
  by_cases c2 : 0 ≤ (l0.length : Int)
  · rw [if_pos c2] at H
    have c2b0 := eq_true c2
    have c2b1 : decide (0 ≤ (l0.length : Int)) = true := decide_eq_true c2
    clear c2
    by_cases c3 : ((l0.length : Int) : Int).toNat ≤ 17592186044416
    · rw [if_pos c3] at H
      have c3b0 := eq_true c3
      have c3b1 : decide (((l0.length : Int) : Int).toNat ≤ 17592186044416) = true := decide_eq_true c3
      clear c3
      obtain ⟨y116, hy116⟩ : ∃ y_ : List ByteArray, y_ = (List.replicate ((l0.length : Int) : Int).toNat (⟨#[]⟩ : ByteArray)) := ⟨_, rfl⟩
      replace H : (laws_toStringS.l0 k l0 y116 0) = some r := by first | (rw [hy116]; with_reducible exact H) | (have H2_ := (Option.bind_some _ _).symm.trans H; rw [hy116]; with_reducible exact H2_) | (have H2_ := (Option.bind_some _ _).symm.trans H; with_reducible exact H2_) | with_reducible exact H | (rw [hy116]; exact H) | exact H
      have Ny116 := Aside0.mk hy116
      clear hy116
      have H' := Aside0.mk H
      clear H
      go_enter Tryd.func21, Tryd.ntmps21
      go_wp2_with (first | ((with_reducible refine gate_dst (N := 7) rfl ?_); refine Kd.R_make Kd.string _ 9 rfl (N := 7) rfl 42 _ _ rfl (l0.length : Int) rfl rfl Tryd.underlying42 (.string ⟨#[]⟩) 16 info9 rfl (by decide) (by omega) (⟨#[]⟩ : ByteArray) (ok := fun _ => True) (okp := fun _ => True) rfl (fun _ hk => hk) trivial (of_decide_eq_true (by first | (with_reducible assumption) | assumption)) (Nat.le_trans (Nat.mul_le_mul_right _ (of_decide_eq_true (by first | (with_reducible assumption) | assumption) : (l0.length : Int).toNat ≤ 17592186044416)) (by omega)) (Below.refl _ _) (Nat.le_refl _) ?_; intro v117 w4 ho5 hb hg_ hnew_; clear hg_ hnew_; (first | rw [← Ny116.out] at ho5 | (simp only [Int.reduceToNat] at ho5; rw [← Ny116.out] at ho5)); have n0_ := Aside0.mk (Kd.R_lower ho5 (below_size (by repeat (first | (with_reducible first | exact HB.out | apply below_alloc | apply pw_below_drewN | apply below_drew1) | exact HB.out)))); have n1_ := Aside0.mk (below_step (by repeat (first | (with_reducible first | exact HB.out | apply below_alloc | apply pw_below_drewN | apply below_drew1) | exact HB.out)) hb); clear HB; have HO118 := n0_; have HB := n1_; clear n0_ n1_; clear hb ho5))
      go_loopg [4] k (fun kq v4 w' => ∃ (x3_1 : List ByteArray) (x4_1 : Int), v4 = .int .i64 x4_1 ∧ Aside0 (laws_toStringS.l0 kq l0 x3_1 x4_1 = some r) ∧ Aside0 (kq ≤ k) ∧ Aside0 (Kd.R Kd.string 9 w' w.heap.size (fun _ => True) v117 x3_1) ∧ Aside0 (Below w.heap.size w w'))
      case atStart => exact ⟨(y116), (0), (by first | rfl | (simp; done) | (simp [*]; done)), H', ⟨Nat.le_refl _⟩, ⟨by (with_reducible repeat (first | apply Kd.R_alloc | apply Kd.R_drewN | apply Kd.R_drew)); exact HO118.out⟩, ⟨by repeat (first | (with_reducible first | exact HB.out | apply below_alloc | apply pw_below_drewN | apply below_drew1) | exact HB.out)⟩⟩
      case round =>
        clear H'
        try clear c2
        try clear c2b0
        try clear c2b1
        try clear p2
        try clear c3
        try clear c3b0
        try clear c3b1
        obtain ⟨x3_1, x4_1, rfl, HA, HK1, HO_3, HB⟩ := hrel
        cases gk with
        | zero => exact absurd HA.out (by simp [laws_toStringS.l0])
        | succ k1 =>
          have H := HA.out
          clear HA
          simp only [laws_toStringS.l0] at H
          by_cases c6 : x4_1 < (l0.length : Int)
          · rw [if_pos c6] at H
            have c6b0 : decide (x4_1 < (l0.length : Int)) = true := decide_eq_true c6
            clear c6
            by_cases c7 : 0 ≤ x4_1
            · rw [if_pos c7] at H
              have c7b0 : decide (0 ≤ x4_1) = true := decide_eq_true c7
              clear c7
              by_cases c8 : x4_1 < (x3_1.length : Int)
              · rw [if_pos c8] at H
                have c8b0 : decide (x4_1 < (x3_1.length : Int)) = true := decide_eq_true c8
                clear c8
                obtain ⟨y120, hy120⟩ : ∃ y_ : List ByteArray, y_ = (x3_1.set (x4_1 : Int).toNat (rdOf ByteArray.empty l0 x4_1)) := ⟨_, rfl⟩
                replace H : (laws_toStringS.l0 k1 l0 y120 (wrap64 (x4_1 + 1))) = some r := by first | (rw [hy120]; with_reducible exact H) | (have H2_ := (Option.bind_some _ _).symm.trans H; rw [hy120]; with_reducible exact H2_) | (have H2_ := (Option.bind_some _ _).symm.trans H; with_reducible exact H2_) | with_reducible exact H | (rw [hy120]; exact H) | exact H
                have Ny120 := Aside0.mk hy120
                clear hy120
                have H' := Aside0.mk H
                clear H
                have p119 : 0 ≤ (x4_1 : Int) := of_decide_eq_true (by first | (with_reducible assumption) | assumption)
                have q119 : x4_1 < (l0.length : Int) := of_decide_eq_true (by first | (with_reducible assumption) | assumption)
                obtain ⟨ad119, e119, hx119_0⟩ := Kd.at_string HR0.out x4_1 p119 q119
                cases e119
                replace hx119_0 := (HB.out.cell (World.block_lt_of_cell? w _ hx119_0)).trans hx119_0
                replace p119 := eq_true p119
                replace q119 := eq_true q119
                have p9 : 0 ≤ (x4_1 : Int) := of_decide_eq_true (by first | (with_reducible assumption) | assumption)
                have q9 : (x4_1 : Int) < ((x3_1.length : Int) : Int) := of_decide_eq_true (by first | (with_reducible assumption) | assumption)
                obtain ⟨go9, co9, eo9, gb9, gl9, cl9, HG9⟩ := Kd.R_form HO_3.out (by omega)
                (first | cases eo9 | (injection eo9 with ea_ en_ ec_; (first | subst ea_ | (injection ea_ with ea_; subst ea_)); subst ec_; clear en_))
                have GB9 := Aside0.mk gb9
                have GG9 := Aside0.mk HG9
                clear gb9 gl9 HG9
                obtain ⟨hx9_0, hf9_0⟩ := Kd.R_celln (⟨#[]⟩ : ByteArray) HO_3.out (x4_1 : Int) p9 q9
                replace p9 := eq_true p9
                replace q9 := eq_true q9
                have HP10 := Kd.R_putg HO_3.out (x4_1 : Int) (rdOf ByteArray.empty l0 x4_1)
                go_wp2_with (first | ((with_reducible refine gate_store (t := 9) (p := 20) rfl ?_); refine store_event (t := 9) (p := 20) (v := ?vo_w11) (w1 := (wr.setCell ⟨go9, (x4_1 : Int).toNat, none⟩ (.string (rdOf ByteArray.empty l0 x4_1)))) ?hg ?ho ?hn ?hr ?_; (case ho => rfl); (case hg => rfl); (case hn => rfl); (case hr => first | (go_simp; done) | (go_simp; rfl)); intro w11 hw; have hg : wr.grownBy w11 (some go9) := (by rw [hw]; exact HP10.2); have hp_ : Kd.R Kd.string 9 w11 w.heap.size (fun _ => True) (.slice (some ⟨go9, 0, none⟩) x3_1.length co9) y120 := (by rw [hw, Ny120.out]; exact HP10.1); clear HP10; have n0_ := Aside0.mk (hp_); have n1_ := Aside0.mk ((by rw [hw]; exact below_set (HB.out) GB9.out : Below w.heap.size w w11)); clear HO_3; clear HB; have HO_3 := n0_; have HB := n1_; clear n0_ n1_; clear hg hw hp_))
                go_roundg k1
                case measure => have := HK1.out; omega
                case rel => exact ⟨(y120), (wrap64 (x4_1 + 1)), (by first | rfl | (simp; done) | (simp [*]; done)), H', ⟨by have := HK1.out; omega⟩, ⟨by (with_reducible repeat (first | apply Kd.R_alloc | apply Kd.R_drewN | apply Kd.R_drew)); exact HO_3.out⟩, ⟨by repeat (first | (with_reducible first | exact HB.out | apply below_alloc | apply pw_below_drewN | apply below_drew1) | exact HB.out)⟩⟩
              · rw [if_neg c8] at H
                exact absurd H (by simp)
            · rw [if_neg c7] at H
              exact absurd H (by simp)
          · rw [if_neg c6] at H
            have c6b0 : decide (x4_1 < (l0.length : Int)) = false := decide_eq_false c6
            clear c6
            obtain rfl := Option.some.inj H
            go_wp2
            go_ret
            exact ⟨_, by first | rfl | (simp [errW_none, errW_some] <;> rfl) | (simp [*, errW_none, errW_some] <;> rfl), by (with_reducible repeat (first | apply Kd.R_alloc | apply Kd.R_drewN | apply Kd.R_drew)); exact HO_3.out, by repeat (first | (with_reducible first | exact HB.out | apply below_alloc | apply pw_below_drewN | apply below_drew1) | exact HB.out)⟩
    · rw [if_neg c3] at H
      exact absurd H (by simp)
  · rw [if_neg c2] at H
    exact absurd H (by simp)

/-! ### impl_isLetter: function 88 -/
def impl_isLetter.f (a0 : Int) : Option (Bool) := if a0 ≥ 97 then (some (decide (a0 ≤ 122))) else (some false)
set_option maxHeartbeats 8000000 in
set_option maxRecDepth 100000 in
theorem impl_isLetter.calls (a0 : Int) (r : Bool) (w : World) (h : impl_isLetter.f a0 = some r) :
    Calls Tryd.prog 88 #[.int .u8 a0] w fun e w' => e = .returned (.bool r) ∧ Drawn0 w w' := by
  have H : (if a0 ≥ 97 then (some (decide (a0 ≤ 122))) else (some false)) = some r := h
  clear h
  by_cases c2 : a0 ≥ 97
  · rw [if_pos c2] at H
    have c2b0 : decide (97 ≤ a0) = true := decide_eq_true c2
    clear c2
    obtain rfl := Option.some.inj H
    go_enter Tryd.func88, Tryd.ntmps88
    go_wp2
    go_ret
    exact ⟨by first | rfl | (simp; done) | (simp [*]; done), by repeat (first | exact Drawn0.refl _ | apply Drawn0.step)⟩
  · rw [if_neg c2] at H
    have c2b0 : decide (97 ≤ a0) = false := decide_eq_false c2
    clear c2
    obtain rfl := Option.some.inj H
    go_enter Tryd.func88, Tryd.ntmps88
    go_wp2
    go_ret
    exact ⟨by first | rfl | (simp; done) | (simp [*]; done), by repeat (first | exact Drawn0.refl _ | apply Drawn0.step)⟩

/-! ### impl_isLandText: function 51 -/
def impl_isLandText.f (a0 : ByteArray) : Option (Bool) := if (a0.size : Int) = 1 then (if 0 < (a0.size : Int) then ((impl_isLetter.f (bt a0 0)).bind fun t121 => (some t121)) else (none)) else (some false)
set_option maxHeartbeats 8000000 in
set_option maxRecDepth 100000 in
theorem impl_isLandText.calls (a0 : ByteArray) (r : Bool) (w : World) (h : impl_isLandText.f a0 = some r) :
    Calls Tryd.prog 51 #[.string a0] w fun e w' => e = .returned (.bool r) ∧ Drawn0 w w' := by
  have H : (if (a0.size : Int) = 1 then (if 0 < (a0.size : Int) then ((impl_isLetter.f (bt a0 0)).bind fun t121 => (some t121)) else (none)) else (some false)) = some r := h
  clear h
  by_cases c2 : (a0.size : Int) = 1
  · rw [if_pos c2] at H
    have c2b0 : ((a0.size : Int) == 1) = true := beq_iff_eq.mpr c2
    have c2b1 : ((a0.size : Int) != 1) = false := bne_eq_false_iff_eq.mpr c2
    clear c2
    by_cases c3 : 0 < (a0.size : Int)
    · rw [if_pos c3] at H
      have c3b0 : decide (0 < (a0.size : Int)) = true := decide_eq_true c3
      have c3b1 : decide (0 < a0.size) = true := decide_eq_true (by omega)
      clear c3
      replace H := Option.bind_eq_some_iff.mp H
      obtain ⟨t121, A50, H⟩ := H
      replace H : (some t121) = some r := H
      have A5 := Aside0.mk A50
      clear A50
      obtain rfl := Option.some.inj H
      have p4 : 0 ≤ (0 : Int) := (by omega)
      have q4 : 0 < a0.size := (by have : (0 : Int) < (a0.size : Int) := of_decide_eq_true (by first | (with_reducible assumption) | assumption); omega)
      have hx4 : ∀ h : 0 < a0.size, ((a0[0]'h).toNat : Int) = bt a0 0 := bt_at a0 0
      clear p4
      have qi4 : (0 < (a0.size : Int)) = True := eq_true (of_decide_eq_true (by first | (with_reducible assumption) | assumption))
      replace q4 := eq_true q4
      go_enter Tryd.func51, Tryd.ntmps51
      go_wp2_with (first | (go_at_call 88; (with_reducible refine (impl_isLetter.calls (bt a0 0) t121 _ A5.out).mono ?_); rintro e w' ⟨rfl, ⟨nd, rfl⟩⟩))
      go_ret
      exact ⟨by first | rfl | (simp; done) | (simp [*]; done), by repeat (first | exact Drawn0.refl _ | apply Drawn0.step)⟩
    · rw [if_neg c3] at H
      exact absurd H (by simp)
  · rw [if_neg c2] at H
    have c2b0 : ((a0.size : Int) == 1) = false := beq_eq_false_iff_ne.mpr c2
    have c2b1 : ((a0.size : Int) != 1) = true := bne_iff_ne.mpr c2
    obtain rfl := Option.some.inj H
    go_enter Tryd.func51, Tryd.ntmps51
    go_wp2
    go_ret
    exact ⟨by first | rfl | (simp; done) | (simp [*]; done), by repeat (first | exact Drawn0.refl _ | apply Drawn0.step)⟩

/-! ### strings_Trim: function 91 -/
-- given by hand
def layTrim_ren : Go.Shelf.Ren := ⟨(fun | 160 => 91 | 232 => 114 | 231 => 113 | 227 => 115 | 234 => 117 | 233 => 116 | 236 => 119 | 235 => 118 | 228 => 146 | 271 => 148 | 151 => 147 | 197 => 111 | 120 => 171 | 152 => 170 | 260 => 145 | 137 => 182 | 119 => 183 | 224 => 168 | 225 => 167 | 217 => 166 | 266 => 180 | n => n), (fun | 9 => 9 | 4 => 4 | 3 => 3 | 5 => 5 | 117 => 130 | 116 => 129 | 0 => 0 | 124 => 133 | 21 => 21 | 105 => 124 | 46 => 102 | 119 => 177 | 139 => 180 | 138 => 179 | n => n), (fun | 3 => 2 | 4 => 3 | n => n)⟩
set_option maxRecDepth 1000000 in
theorem layTrim : Go.Proofs.Lays.n160 Tryd.prog layTrim_ren := { mixed := by kernel_rfl, f119 := Tryd.func183.trans (congrArg some (by kernel_rfl)), f120 := Tryd.func171.trans (congrArg some (by kernel_rfl)), f137 := Tryd.func182.trans (congrArg some (by kernel_rfl)), f151 := Tryd.func147.trans (congrArg some (by kernel_rfl)), f152 := Tryd.func170.trans (congrArg some (by kernel_rfl)), f160 := Tryd.func91.trans (congrArg some (by kernel_rfl)), f197 := Tryd.func111.trans (congrArg some (by kernel_rfl)), f217 := Tryd.func166.trans (congrArg some (by kernel_rfl)), f224 := Tryd.func168.trans (congrArg some (by kernel_rfl)), f225 := Tryd.func167.trans (congrArg some (by kernel_rfl)), f227 := Tryd.func115.trans (congrArg some (by kernel_rfl)), f228 := Tryd.func146.trans (congrArg some (by kernel_rfl)), f231 := Tryd.func113.trans (congrArg some (by kernel_rfl)), f232 := Tryd.func114.trans (congrArg some (by kernel_rfl)), f233 := Tryd.func116.trans (congrArg some (by kernel_rfl)), f234 := Tryd.func117.trans (congrArg some (by kernel_rfl)), f235 := Tryd.func118.trans (congrArg some (by kernel_rfl)), f236 := Tryd.func119.trans (congrArg some (by kernel_rfl)), f260 := Tryd.func145.trans (congrArg some (by kernel_rfl)), f266 := Tryd.func180.trans (congrArg some (by kernel_rfl)), f271 := Tryd.func148.trans (congrArg some (by kernel_rfl)), t0 := Tryd.underlying0, a0 := Tryd.isAgg0, z0 := Tryd.sizeOf0, v0 := Tryd.zeroValue0, t3 := Tryd.underlying3, a3 := Tryd.isAgg3, z3 := Tryd.sizeOf3, v3 := Tryd.zeroValue3, t4 := Tryd.underlying4, a4 := Tryd.isAgg4, z4 := Tryd.sizeOf4, v4 := Tryd.zeroValue4, t5 := Tryd.underlying5, a5 := Tryd.isAgg5, z5 := Tryd.sizeOf5, v5 := Tryd.zeroValue5, t9 := Tryd.underlying9, a9 := Tryd.isAgg9, z9 := Tryd.sizeOf9, v9 := Tryd.zeroValue9, t21 := Tryd.underlying21, a21 := Tryd.isAgg21, z21 := Tryd.sizeOf21, v21 := Tryd.zeroValue21, t46 := Tryd.underlying102, a46 := Tryd.isAgg102, z46 := Tryd.sizeOf102, v46 := Tryd.zeroValue102, t105 := Tryd.underlying124, a105 := Tryd.isAgg124, z105 := Tryd.sizeOf124, v105 := Tryd.zeroValue124, t116 := Tryd.underlying129, a116 := Tryd.isAgg129, z116 := Tryd.sizeOf129, t117 := Tryd.underlying130, a117 := Tryd.isAgg130, z117 := Tryd.sizeOf130, v117 := Tryd.zeroValue130, t119 := Tryd.underlying177, a119 := Tryd.isAgg177, z119 := Tryd.sizeOf177, t124 := Tryd.underlying133, a124 := Tryd.isAgg133, z124 := Tryd.sizeOf133, v124 := Tryd.zeroValue133, t138 := Tryd.underlying179, a138 := Tryd.isAgg179, z138 := Tryd.sizeOf179, v138 := Tryd.zeroValue179, t139 := Tryd.underlying180, a139 := Tryd.isAgg180, z139 := Tryd.sizeOf180, v139 := Tryd.zeroValue180, g3 := by kernel_rfl, g4 := by kernel_rfl }

def strings_Trim.f (a0 a1 : ByteArray) : Option ByteArray := if a0.size ≤ 9223372036854775807 ∧ a1.size < 4294967281 ∧ a1.data.toList.all (fun b => decide (b.toNat < 128)) = true then some ⟨(Go.Lib.trimS a0.data.toList a1.data.toList).toArray⟩ else none
theorem strings_Trim.calls (a0 : ByteArray) (a1 : ByteArray) (r : ByteArray) (w : World) (h : strings_Trim.f a0 a1 = some r) :
    Calls Tryd.prog 91 #[.string a0, .string a1] w fun e w' => e = .returned (.string r) ∧ Below w.heap.size w w' := by
  unfold strings_Trim.f at h
  split at h
  · rename_i hc
    obtain rfl := Option.some.inj h
    exact Go.Proofs.Any.strings_Trim_laid layTrim (by kernel_rfl) a0 a1 w hc.1 hc.2.1 (Go.Proofs.ascii_of_all hc.2.2)
  · cases h


end Go.Proofs.YtdodbfialiggjaaDoor.PFnExactGiveLand
