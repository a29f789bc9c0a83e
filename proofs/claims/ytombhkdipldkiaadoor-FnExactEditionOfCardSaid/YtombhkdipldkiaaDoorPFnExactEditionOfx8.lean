-- Made by a program of this session (gprint.py) out of the kit's print of the translation and texts of my own.
import Derived.Test.YtombhkdipldkiaaDoorPFnExactEditionOfx0
import Derived.Test.YtombhkdipldkiaaDoorPFnExactEditionOfx5
import Derived.Test.YtombhkdipldkiaaDoorPFnExactEditionOfx7
namespace Go.Proofs.YtombhkdipldkiaaDoor.PFnExactEditionOf
open Go.RowKit Go.Proofs.YtombhkdipldkiaaDoorW.PrintWords Go.Proofs.YtombhkdipldkiaaDoorW.PrintLast Go.Proofs.YtombhkdipldkiaaDoorW.PrintMore
attribute [local go_sem] max2_int min2_int max_two min_two max_three min_three max_four min_four   -- for this text's walks alone
set_option linter.unusedVariables false
set_option linter.unusedSimpArgs false

/-! ### slices_Equal_string_string: function 91 -/
def slices_Equal_string_string.l0 : Nat → List ByteArray → List ByteArray → Int → Int → Option (Bool)
  | 0, _, _, _, _ => none
  | k + 1, x0, x1, x12, x13 => if x13 < x12 then (if 0 ≤ x13 then (if x13 < (x0.length : Int) then (if x13 < (x1.length : Int) then (if (rdOf ByteArray.empty x0 x13).toList = (rdOf ByteArray.empty x1 x13).toList then (slices_Equal_string_string.l0 k x0 x1 x12 (wrap64 (x13 + 1))) else (some false)) else (none)) else (none)) else (none)) else (some true)
def slices_Equal_string_string.f (k : Nat) (l0 : List ByteArray) (l1 : List ByteArray) : Option (Bool) := if (l0.length : Int) = (l1.length : Int) then (slices_Equal_string_string.l0 k l0 l1 (l0.length : Int) 0) else (some false)
theorem slices_Equal_string_string.mono_l : ∀ k, (∀ y0 y1 y2 y3, LeO (slices_Equal_string_string.l0 k y0 y1 y2 y3) (slices_Equal_string_string.l0 (k + 1) y0 y1 y2 y3))
  | 0 => fun _ _ _ _ r h => by simp [slices_Equal_string_string.l0] at h
  | k + 1 => by
    have ih0 := slices_Equal_string_string.mono_l k
    · intro y0 y1 y2 y3
      unfold slices_Equal_string_string.l0
      repeat' first
      | (with_reducible exact ih0 _ _ _ _)
      | (with_reducible exact LeO.refl _)
      | (with_reducible exact LeO.none _)
      | (with_reducible refine LeO.ite ?_ ?_)
      | (with_reducible refine LeO.bind ?_ (fun _ => ?_))
      | exact ih0 _ _ _ _
      | exact LeO.none _
      | refine LeO.ite ?_ ?_
      | refine LeO.bind ?_ (fun _ => ?_)
theorem slices_Equal_string_string.mono : ∀ a0 a1 k, LeO (slices_Equal_string_string.f k a0 a1) (slices_Equal_string_string.f (k + 1) a0 a1) := by
  intro a0 a1 k
  have ih0 := slices_Equal_string_string.mono_l k
  unfold slices_Equal_string_string.f
  repeat' first
      | (with_reducible exact ih0 _ _ _ _)
      | (with_reducible exact LeO.refl _)
      | (with_reducible exact LeO.none _)
      | (with_reducible refine LeO.ite ?_ ?_)
      | (with_reducible refine LeO.bind ?_ (fun _ => ?_))
      | exact ih0 _ _ _ _
      | exact LeO.none _
      | refine LeO.ite ?_ ?_
      | refine LeO.bind ?_ (fun _ => ?_)
set_option maxHeartbeats 8000000 in
set_option maxRecDepth 100000 in
theorem slices_Equal_string_string.calls (k : Nat) (A0 : Option Addr) (c0 : Nat) (l0 : List ByteArray) (A1 : Option Addr) (c1 : Nat) (l1 : List ByteArray) (r : Bool) (w : World) (hr0 : Kd.C Kd.string w A0 l0.length l0) (hc0 : l0.length ≤ c0) (hr1 : Kd.C Kd.string w A1 l1.length l1) (hc1 : l1.length ≤ c1) (h : slices_Equal_string_string.f k l0 l1 = some r) :
    Calls Tryd.prog 91 #[.slice A0 l0.length c0, .slice A1 l1.length c1] w fun e w' => e = .returned (.bool r) ∧ Drawn0 w w' := by
  have HR0 := Aside0.mk hr0
  have HC0 := Aside0.mk hc0
  clear hr0 hc0
  have HR1 := Aside0.mk hr1
  have HC1 := Aside0.mk hc1
  clear hr1 hc1
  have H : (if (l0.length : Int) = (l1.length : Int) then (slices_Equal_string_string.l0 k l0 l1 (l0.length : Int) 0) else (some false)) = some r := h
  clear h
  by_cases c3 : (l0.length : Int) = (l1.length : Int)
  · rw [if_pos c3] at H
    have c3b0 : ((l0.length : Int) == (l1.length : Int)) = true := beq_iff_eq.mpr c3
    have c3b1 : ((l0.length : Int) != (l1.length : Int)) = false := bne_eq_false_iff_eq.mpr c3
    have c3b2 : (l0.length == l1.length) = true := by first | simpa using c3 | (simp at c3 ⊢; omega)
    clear c3
    have H' := Aside0.mk H
    clear H
    go_enter Tryd.func91, Tryd.ntmps91
    go_wp2
    repeat (go_quiet (fail); try go_wp2)
    go_loopg [13] k (fun kq v13 w' => ∃ (x13_1 : Int), v13 = .int .i64 x13_1 ∧ Aside0 (slices_Equal_string_string.l0 kq l0 l1 (l0.length : Int) x13_1 = some r) ∧ Aside0 (kq ≤ k) ∧ Drawn0 w w')
    case atStart => exact ⟨(0), (by first | rfl | (simp; done) | (simp [*]; done)), H', ⟨Nat.le_refl _⟩, by repeat (first | exact Drawn0.refl _ | apply Drawn0.step)⟩
    case round =>
      clear H'
      try clear c1
      try clear p2
      try clear c3
      try clear c3b0
      try clear c3b1
      try clear c3b2
      obtain ⟨x13_1, rfl, HA, HK1, ⟨m1, rfl⟩⟩ := hrel
      cases gk with
      | zero => exact absurd HA.out (by simp [slices_Equal_string_string.l0])
      | succ k1 =>
        have H := HA.out
        clear HA
        simp only [slices_Equal_string_string.l0] at H
        by_cases c4 : x13_1 < (l0.length : Int)
        · rw [if_pos c4] at H
          have c4b0 : decide (x13_1 < (l0.length : Int)) = true := decide_eq_true c4
          clear c4
          by_cases c5 : 0 ≤ x13_1
          · rw [if_pos c5] at H
            have c5b0 : decide (0 ≤ x13_1) = true := decide_eq_true c5
            clear c5
            by_cases c6 : x13_1 < (l0.length : Int)
            · rw [if_pos c6] at H
              have c6b0 : decide (x13_1 < (l0.length : Int)) = true := decide_eq_true c6
              clear c6
              by_cases c7 : x13_1 < (l1.length : Int)
              · rw [if_pos c7] at H
                have c7b0 : decide (x13_1 < (l1.length : Int)) = true := decide_eq_true c7
                clear c7
                by_cases c8 : (rdOf ByteArray.empty l0 x13_1).toList = (rdOf ByteArray.empty l1 x13_1).toList
                · rw [if_pos c8] at H
                  have c8b0 : ((rdOf ByteArray.empty l0 x13_1).toList == (rdOf ByteArray.empty l1 x13_1).toList) = true := beq_iff_eq.mpr c8
                  have c8b1 : ((rdOf ByteArray.empty l0 x13_1).toList != (rdOf ByteArray.empty l1 x13_1).toList) = false := bne_eq_false_iff_eq.mpr c8
                  clear c8
                  have H' := Aside0.mk H
                  clear H
                  have p179 : 0 ≤ (x13_1 : Int) := of_decide_eq_true (by first | (with_reducible assumption) | assumption)
                  have q179 : x13_1 < (l0.length : Int) := of_decide_eq_true (by first | (with_reducible assumption) | assumption)
                  obtain ⟨ad179, e179, hx179_0⟩ := Kd.at_string HR0.out x13_1 p179 q179
                  cases e179
                  replace p179 := eq_true p179
                  replace q179 := eq_true q179
                  have p180 : 0 ≤ (x13_1 : Int) := of_decide_eq_true (by first | (with_reducible assumption) | assumption)
                  have q180 : x13_1 < (l1.length : Int) := of_decide_eq_true (by first | (with_reducible assumption) | assumption)
                  obtain ⟨ad180, e180, hx180_0⟩ := Kd.at_string HR1.out x13_1 p180 q180
                  cases e180
                  replace p180 := eq_true p180
                  replace q180 := eq_true q180
                  go_wp2
                  repeat (go_quiet (fail); try go_wp2)
                  go_roundg k1
                  case measure => have := HK1.out; omega
                  case rel => exact ⟨(wrap64 (x13_1 + 1)), (by first | rfl | (simp; done) | (simp [*]; done)), H', ⟨by have := HK1.out; omega⟩, by repeat (first | exact Drawn0.refl _ | apply Drawn0.step)⟩
                · rw [if_neg c8] at H
                  have c8b0 : ((rdOf ByteArray.empty l0 x13_1).toList == (rdOf ByteArray.empty l1 x13_1).toList) = false := beq_eq_false_iff_ne.mpr c8
                  have c8b1 : ((rdOf ByteArray.empty l0 x13_1).toList != (rdOf ByteArray.empty l1 x13_1).toList) = true := bne_iff_ne.mpr c8
                  obtain rfl := Option.some.inj H
                  have p179 : 0 ≤ (x13_1 : Int) := of_decide_eq_true (by first | (with_reducible assumption) | assumption)
                  have q179 : x13_1 < (l0.length : Int) := of_decide_eq_true (by first | (with_reducible assumption) | assumption)
                  obtain ⟨ad179, e179, hx179_0⟩ := Kd.at_string HR0.out x13_1 p179 q179
                  cases e179
                  replace p179 := eq_true p179
                  replace q179 := eq_true q179
                  have p180 : 0 ≤ (x13_1 : Int) := of_decide_eq_true (by first | (with_reducible assumption) | assumption)
                  have q180 : x13_1 < (l1.length : Int) := of_decide_eq_true (by first | (with_reducible assumption) | assumption)
                  obtain ⟨ad180, e180, hx180_0⟩ := Kd.at_string HR1.out x13_1 p180 q180
                  cases e180
                  replace p180 := eq_true p180
                  replace q180 := eq_true q180
                  go_wp2
                  repeat (go_quiet (fail); try go_wp2)
                  go_ret
                  exact ⟨by first | rfl | (simp; done) | (simp [*]; done), by repeat (first | exact Drawn0.refl _ | apply Drawn0.step)⟩
              · rw [if_neg c7] at H
                exact absurd H (by simp)
            · rw [if_neg c6] at H
              exact absurd H (by simp)
          · rw [if_neg c5] at H
            exact absurd H (by simp)
        · rw [if_neg c4] at H
          have c4b0 : decide (x13_1 < (l0.length : Int)) = false := decide_eq_false c4
          clear c4
          obtain rfl := Option.some.inj H
          go_wp2
          repeat (go_quiet (fail); try go_wp2)
          go_ret
          exact ⟨by first | rfl | (simp; done) | (simp [*]; done), by repeat (first | exact Drawn0.refl _ | apply Drawn0.step)⟩
  · rw [if_neg c3] at H
    have c3b0 : ((l0.length : Int) == (l1.length : Int)) = false := beq_eq_false_iff_ne.mpr c3
    have c3b1 : ((l0.length : Int) != (l1.length : Int)) = true := bne_iff_ne.mpr c3
    have c3b2 : (l0.length == l1.length) = false := by first | simpa using c3 | (simp at c3 ⊢; omega)
    obtain rfl := Option.some.inj H
    go_enter Tryd.func91, Tryd.ntmps91
    go_wp2
    repeat (go_quiet (fail); try go_wp2)
    go_ret
    exact ⟨by first | rfl | (simp; done) | (simp [*]; done), by repeat (first | exact Drawn0.refl _ | apply Drawn0.step)⟩

/-! ### impl_EditionOf: function 37 -/
-- given by hand

theorem idxEd_rd (l0 : List S91) (x5 : Int) (h0 : 0 ≤ x5) (hlt : x5 < (l0.length : Int)) : (rd_T91 l0 x5) = l0[x5.toNat]'(by omega) := by
  unfold rd_T91
  rw [List.getD_eq_getElem?_getD, List.getElem?_eq_getElem (show x5.toNat < l0.length by omega)]
  rfl
def idxEd_v (p : S91 → Bool) (l : List S91) : Int := if l.any p then (l.findIdx p : Int) else -1
set_option maxHeartbeats 8000000 in
set_option maxRecDepth 100000 in
theorem idxEd_calls (p : S91 → Bool) (gg : Nat) (lb : Array Value) (eg : ∀ args w, (callFunc gg args).run Tryd.prog w = .ok (.enter gg args) w) (A0 : Option Addr) (c0 : Nat) (l0 : List S91) (w : World) (hr0 : Kd.C k91 w A0 l0.length l0)
    (hp : ∀ (W : World) (x : S91) (B1 : Option Addr) (d1 : Nat), Below w.heap.size w W → Kd.C Kd.string W B1 x.f1.length x.f1 → x.f1.length ≤ d1 → Calls Tryd.prog gg (#[.agg #[.int .i64 x.f0, .slice B1 x.f1.length d1]] ++ lb) W fun e w' => e = .returned (.bool (p x)) ∧ Below w.heap.size w w') :
    Calls Tryd.prog 89 #[.slice A0 l0.length c0, .func (.func gg) #[] lb] w fun e w' => e = .returned (.int .i64 (idxEd_v p l0)) ∧ Below w.heap.size w w' := by
  have HR := Aside0.mk hr0
  have HM := Kd.C_max hr0
  clear hr0
  have HP := Aside0.mk hp
  clear hp
  go_enter Tryd.func89, Tryd.ntmps89
  go_wp2
  go_loopg [5, 8] l0.length (fun gk _ s8 wr => ∃ x5 : Int, s8 = .int .i64 x5 ∧ 0 ≤ x5 ∧ x5 ≤ (l0.length : Int) ∧ (l0.length : Int) - x5 ≤ gk ∧ Aside0 (Below w.heap.size w wr) ∧ Aside0 (∀ j, (h : j < l0.length) → (j : Int) < x5 → p l0[j] = false))
  case atStart => exact ⟨0, rfl, by omega, by omega, by omega, ⟨Below.refl _ w⟩, ⟨fun j h hj => by omega⟩⟩
  case round =>
    obtain ⟨x5, rfl, h0, h1, hg, BW, AA⟩ := hrel
    by_cases hlt : x5 < (l0.length : Int)
    · have c4b0 : decide (x5 < (l0.length : Int)) = true := decide_eq_true hlt
      obtain ⟨ad, B1, d1, he, hx0, hx1, hl1, hc1⟩ := at_T91 HR.out x5 h0 (show x5 < (l0.length : Int) from hlt)
      cases he
      replace hx1 := (BW.out.cell (World.block_lt_of_cell? w _ hx1)).trans hx1
      have HCI := Aside0.mk (Kd.C_below hc1 BW.out)
      have HLI := Aside0.mk hl1
      clear hc1 hl1
      replace hx0 := (BW.out.cell (World.block_lt_of_cell? w _ hx0)).trans hx0
      have HY := Aside0.mk (idxEd_rd l0 x5 h0 hlt)
      have hcall := HP.out wr (rd_T91 l0 x5) B1 d1 BW.out HCI.out HLI.out
      cases hq : p (rd_T91 l0 x5) with
      | true =>
        rw [hq] at hcall
        have HQ := Aside0.mk hq
        clear hq
        go_wp2_with (go_at_fn gg; refine hcall.mono ?_; rintro e w' ⟨rfl, hb'⟩)
        go_ret
        refine ⟨?_, hb'⟩
        have hy := HY.out
        have hqq := HQ.out
        have hall := AA.out
        have e : idxEd_v p l0 = x5 := by
          unfold idxEd_v
          rw [if_pos (List.any_eq_true.2 ⟨l0[x5.toNat]'(by omega), List.getElem_mem _, by rw [← hy]; exact hqq⟩)]
          have : l0.findIdx p = x5.toNat := by
            rw [List.findIdx_eq (by omega)]
            refine ⟨by rw [← hy]; exact hqq, fun j hj => hall j (by omega) (by omega)⟩
          omega
        rw [e]
        rfl
      | false =>
        rw [hq] at hcall
        have HQ := Aside0.mk hq
        clear hq
        go_wp2_with (go_at_fn gg; refine hcall.mono ?_; rintro e w' ⟨rfl, hb'⟩)
        go_roundg (l0.length - (x5.toNat + 1))
        case measure => omega
        case rel =>
          refine ⟨x5 + 1, by first | rfl | go_num, by omega, by omega, by omega, ⟨hb'⟩, ⟨fun j h hj => ?_⟩⟩
          by_cases ee : (j : Int) = x5
          · have hy := HY.out
            have hqq := HQ.out
            rw [hy] at hqq
            have : j = x5.toNat := by omega
            subst this
            exact hqq
          · exact AA.out j h (by omega)
    · have c4b0 : decide (x5 < (l0.length : Int)) = false := decide_eq_false hlt
      go_wp2
      go_ret
      refine ⟨?_, BW.out⟩
      have e : idxEd_v p l0 = -1 := by
        unfold idxEd_v
        rw [if_neg]
        intro h
        obtain ⟨x, hx, hpx⟩ := List.any_eq_true.1 h
        obtain ⟨j, hj, rfl⟩ := List.getElem_of_mem hx
        have := AA.out j hj (by omega)
        rw [hpx] at this
        cases this
      rw [e]
      rfl
theorem idxEd_nonneg (p : S91 → Bool) (l : List S91) : decide (0 ≤ idxEd_v p l) = l.any p := by
  unfold idxEd_v
  cases h : l.any p
  · simp
  · simp

def sameNames (a b : List ByteArray) : Bool := (slices_Equal_string_string.f (a.length + 1) a b).getD false
theorem equal_some (a b : List ByteArray) (ha : a.length ≤ 9223372036854775807) (hab : a.length = b.length) (d : Nat) : ∀ (i : Nat), i ≤ a.length → a.length - i = d → ∃ r, slices_Equal_string_string.l0 (d + 1) a b a.length i = some r := by
  induction d with
  | zero =>
    intro i hi hd
    exact ⟨true, by simp only [slices_Equal_string_string.l0, if_neg (show ¬ (i : Int) < (a.length : Int) by omega)]⟩
  | succ d ih =>
    intro i hi hd
    have hw : wrap64 ((i : Int) + 1) = ((i + 1 : Nat) : Int) := by unfold wrap64; omega
    rw [slices_Equal_string_string.l0]
    simp only [if_pos (show (i : Int) < (a.length : Int) by omega), if_pos (show (0 : Int) ≤ (i : Int) by omega), if_pos (show (i : Int) < (b.length : Int) by omega), hw]
    repeat' split
    all_goals first | exact ⟨_, rfl⟩ | exact ih (i + 1) (by omega) (by omega)
theorem sameNames_eq (a b : List ByteArray) (ha : a.length ≤ 9223372036854775807) : slices_Equal_string_string.f (a.length + 1) a b = some (sameNames a b) := by
  have h : ∃ r, slices_Equal_string_string.f (a.length + 1) a b = some r := by
    unfold slices_Equal_string_string.f
    split
    · exact equal_some a b ha (by omega) a.length 0 (by omega) (by omega)
    · exact ⟨_, rfl⟩
  obtain ⟨r, h⟩ := h
  unfold sameNames
  rw [h]
  rfl
set_option maxHeartbeats 4000000 in
theorem sameEd_calls (m : List ByteArray) (Al : Option Addr) (cl : Nat) (box : Addr) (w1 W : World) (x : S91) (B1 : Option Addr) (d1 : Nat) (hc : w1.cell? box = some (.slice Al m.length cl)) (hr : Kd.C Kd.string w1 Al m.length m) (hcl : m.length ≤ cl) (hB : Below w1.heap.size w1 W) (hx : Kd.C Kd.string W B1 x.f1.length x.f1) (hxl : x.f1.length ≤ d1) :
    Calls Tryd.prog 90 (#[.agg #[.int .i64 x.f0, .slice B1 x.f1.length d1]] ++ #[.pointer (some box)]) W fun e w' => e = .returned (.bool (sameNames x.f1 m)) ∧ Below w1.heap.size w1 w' := by
  have hc2 : W.cell? box = some (.slice Al m.length cl) := (hB.cell (World.block_lt_of_cell? w1 _ hc)).trans hc
  cases x with
  | mk f0 f1 =>
  have hv := sameNames_eq f1 m (Kd.C_max hx)
  show Calls Tryd.prog 90 #[.agg #[.int .i64 f0, .slice B1 f1.length d1], .pointer (some box)] W _
  have HB := Aside0.mk hB
  have HX := Aside0.mk (World.block_lt_of_cell? W _ hc2)
  have HR := Aside0.mk (Kd.C_below hr hB)
  have HXX := Aside0.mk hx
  have HXL := Aside0.mk hxl
  have HCL := Aside0.mk hcl
  have HV := Aside0.mk hv
  have ha : ∀ o : Obj, (W.alloc o).cell? box = some (.slice Al m.length cl) := fun o => ((below_alloc (Below.refl W.heap.size W) o).cell HX.out).trans hc2
  clear hB hc hr hx hxl hcl hv
  go_enter Tryd.func90, Tryd.ntmps90
  go_wp2_with (go_at_call 91; refine (slices_Equal_string_string.calls (f1.length + 1) B1 d1 f1 Al cl m _ _ (Kd.C_below HXX.out (by repeat (first | exact Below.refl _ _ | apply below_alloc | apply pw_below_drewN | apply below_drew1))) HXL.out (Kd.C_below HR.out (by repeat (first | exact Below.refl _ _ | apply below_alloc | apply pw_below_drewN | apply below_drew1))) HCL.out HV.out).mono ?_; rintro e w' ⟨rfl, ⟨n1, rfl⟩⟩)
  go_ret
  exact ⟨by first | rfl | simp, by repeat (first | exact HB.out | apply below_alloc | apply pw_below_drewN | apply below_drew1)⟩
def impl_EditionOf.f (k : Nat) (l0 : List S91) (a1 : List ByteArray) : Option (Int × Int) := (impl_ValidEditions.f k l0).bind fun v => (impl_areShown.f k a1).bind fun s => if v = true then (if s = true then (if idxEd_v (fun y => sameNames y.f1 a1) l0 < 0 then some (0, 3) else some (idxEd_v (fun y => sameNames y.f1 a1) l0, 0)) else some (0, 2)) else some (0, 1)
theorem impl_EditionOf.mono : ∀ a0 a1 k, LeO (impl_EditionOf.f k a0 a1) (impl_EditionOf.f (k + 1) a0 a1) := by
  intro a0 a1 k
  unfold impl_EditionOf.f
  repeat' first
      | exact impl_ValidEditions.mono _ _
      | exact impl_areShown.mono _ _
      | (with_reducible exact LeO.refl _)
      | (with_reducible refine LeO.ite ?_ ?_)
      | (with_reducible refine LeO.bind ?_ (fun _ => ?_))
      | exact LeO.refl _
      | refine LeO.ite ?_ ?_
      | refine LeO.bind ?_ (fun _ => ?_)
set_option maxHeartbeats 8000000 in
set_option maxRecDepth 100000 in
theorem impl_EditionOf.calls (k : Nat) (A0 : Option Addr) (c0 : Nat) (l0 : List S91) (A1 : Option Addr) (c1 : Nat) (a1 : List ByteArray) (r1 : Int) (r2 : Int) (w : World) (hr0 : Kd.C k91 w A0 l0.length l0) (hc0 : l0.length ≤ c0) (hr1 : Kd.C Kd.string w A1 a1.length a1) (hc1 : a1.length ≤ c1) (h : impl_EditionOf.f k l0 a1 = some (r1, r2)) :
    Calls Tryd.prog 37 #[.slice A0 l0.length c0, .slice A1 a1.length c1] w fun e w' => e = .returned (.tuple #[.int .i64 r1, .int .i64 r2]) ∧ Below w.heap.size w w' := by
  unfold impl_EditionOf.f at h
  obtain ⟨v, e1, h⟩ := Option.bind_eq_some_iff.1 h
  obtain ⟨s, e2, h⟩ := Option.bind_eq_some_iff.1 h
  have E1 := Aside0.mk e1
  have E2 := Aside0.mk e2
  have HR0 := Aside0.mk hr0
  have HC0 := Aside0.mk hc0
  have HR1 := Aside0.mk hr1
  have HC1 := Aside0.mk hc1
  have HB := Aside0.mk (Below.refl w.heap.size w)
  have HM := Aside0.mk (Kd.C_max hr0)
  clear e1 e2 hr0 hc0 hr1 hc1
  cases v with
  | false =>
    obtain ⟨rfl, rfl⟩ := Prod.mk.inj (Option.some.inj (show some ((0 : Int), (1 : Int)) = some (r1, r2) from h))
    clear h
    go_enter Tryd.func37, Tryd.ntmps37
    go_wp2_with (first | ((with_reducible refine gate_dst (N := 3) rfl ?_); refine box_event ?hg (N := 3) ?hd (cs := #[.slice A1 a1.length c1]) (t := 49) ?hr ?_; (case hd => rfl); (case hg => rfl); (case hr => first | (go_simp; done) | (go_simp; rfl)); intro gb hg w1 hbox hb; have n0_ := Aside0.mk (below_step HB.out hb); have n1_ := Aside0.mk (hbox); have hcz : w1.cell? ⟨gb, 0, none⟩ = some (.slice A1 a1.length c1) := ((blk_cell hbox 0).trans rfl); clear HB; have HB := n0_; have BK := n1_; clear n0_ n1_; clear hb hbox hg) | fail)
    refine start_ (n := 6) (S := fun w' => w'.cell? ⟨gb, 0, none⟩ = some (.slice A1 a1.length c1)) (ds := []) #[false, false, false, false, false, false] (by kernel_rfl) rfl rfl (hcz) (fun hHeld => ?_)
    replace HB := Aside0.mk (below_drew1 HB.out)
    have hx0 : w1.drew.cell? ⟨gb, 0, none⟩ = some (.slice A1 a1.length c1) := hcz
    generalize hwa : w1.drew = wa at HB hx0 hHeld ⊢
    clear hwa
    refine pure_ (i := 0) (N := some 8) (v := ?_) (a' := ?_) #[true, false, false, false, false, false] rfl rfl (by kernel_rfl) (fun _ _ _ h => h) (Or.inl ⟨by rfl, ?_⟩) ?_ ?_
    rotate_left
    · intro w'
      go_simp
      with_reducible rfl
    rotate_left
    · simp only [Act.put, List.setIfInBounds_toArray, List.set_cons_zero, List.set_cons_succ, i64_w, i32_w]
      rfl
    refine take_ (i := 2) (N := some 10) (v := ?_) (a' := ?_) #[true, false, true, false, false, false] rfl rfl (by kernel_rfl) (fun _ _ _ h => h) (Or.inl ⟨by rfl, ?_⟩) hHeld ?_ ?_
    rotate_left
    · intro w' s0
      go_simp
      with_reducible rfl
    rotate_left
    · simp only [Act.put, List.setIfInBounds_toArray, List.set_cons_zero, List.set_cons_succ, i64_w, i32_w]
      rfl
    refine one_ (i := 1) (N := some 9) #[true, true, true, false, false, false] rfl rfl (by kernel_rfl) (by decide) (fun K hK => ?_)
    refine goes_ Tryd.func73 (by kernel_rfl) rfl #[.slice A0 l0.length c0] (by rfl) rfl rfl (by (try simp only [List.map_toArray, List.map_cons, List.map_nil]); first | done | rfl) ?_
    with_reducible refine (impl_ValidEditions.calls k A0 c0 l0 false _ (Kd.C_below HR0.out HB.out) HC0.out E1.out).mono ?_
    rintro e w2 ⟨rfl, hb⟩
    refine ⟨_, rfl, ?_⟩
    replace hx0 := (hb.cell (World.block_lt_of_cell? wa _ hx0)).trans hx0
    have HB2 := Aside0.mk (below_step HB.out hb)
    clear hb HB
    refine hK.out _ _ (hx0) (fun hHeld => ?_)
    clear hK K
    refine norm_ (a' := ?_) ?_ ?_
    rotate_left
    · show Act.put _ (some 9) _ = _
      simp only [Act.put, List.setIfInBounds_toArray, List.set_cons_zero, List.set_cons_succ, i64_w, i32_w]
      rfl
    refine one_ (i := 3) (N := some 11) #[true, true, true, true, false, false] rfl rfl (by kernel_rfl) (by decide) (fun K hK => ?_)
    refine goes_ Tryd.func88 (by kernel_rfl) rfl #[.slice A1 a1.length c1] (by rfl) rfl rfl (by (try simp only [List.map_toArray, List.map_cons, List.map_nil]); first | done | rfl) ?_
    with_reducible refine (impl_areShown.calls k A1 c1 a1 s _ (Kd.C_below HR1.out HB2.out) HC1.out E2.out).mono ?_
    rintro e w3 ⟨rfl, hb⟩
    refine ⟨_, rfl, ?_⟩
    replace hx0 := (hb.cell (World.block_lt_of_cell? w2 _ hx0)).trans hx0
    have HB3 := Aside0.mk (below_step HB2.out hb)
    clear hb HB2
    refine hK.out _ _ (hx0) (fun hHeld => ?_)
    clear hK K
    refine norm_ (a' := ?_) ?_ ?_
    rotate_left
    · show Act.put _ (some 11) _ = _
      simp only [Act.put, List.setIfInBounds_toArray, List.set_cons_zero, List.set_cons_succ, i64_w, i32_w]
      rfl
    refine one_ (i := 4) (N := some 12) #[true, true, true, true, true, false] rfl rfl (by kernel_rfl) (by decide) (fun K hK => ?_)
    refine goes_ Tryd.func72 (by kernel_rfl) rfl #[.bool false, .bool s] (by rfl) rfl rfl (by (try simp only [List.map_toArray, List.map_cons, List.map_nil]); first | done | rfl) ?_
    with_reducible refine (impl_check.calls false s _ _ rfl).mono ?_
    rintro e w4 ⟨rfl, ⟨n1, rfl⟩⟩
    refine ⟨_, rfl, ?_⟩
    refine hK.out _ _ (hx0) (fun hHeld => ?_)
    clear hK K
    refine norm_ (a' := ?_) ?_ ?_
    rotate_left
    · show Act.put _ (some 12) _ = _
      simp only [Act.put, List.setIfInBounds_toArray, List.set_cons_zero, List.set_cons_succ, i64_w, i32_w]
      rfl
    refine pure_ (i := 5) (N := some 6) (v := ?_) (a' := ?_) #[true, true, true, true, true, true] rfl rfl (by kernel_rfl) (fun _ _ _ h => h) (Or.inl ⟨by rfl, ?_⟩) ?_ ?_
    rotate_left
    · intro w'
      go_simp
      with_reducible rfl
    rotate_left
    · simp only [Act.put, List.setIfInBounds_toArray, List.set_cons_zero, List.set_cons_succ, i64_w, i32_w]
      rfl
    refine done_ (by kernel_rfl) ?_
    have HBR := Aside0.mk (pw_below_drewN HB3.out n1)
    replace hx0 : (w3.drewN n1).cell? ⟨gb, 0, none⟩ = some (.slice A1 a1.length c1) := hx0
    go_wp2
    go_ret2
    exact ⟨rfl, HBR.out⟩
  | true =>
    cases s with
    | false =>
      obtain ⟨rfl, rfl⟩ := Prod.mk.inj (Option.some.inj (show some ((0 : Int), (2 : Int)) = some (r1, r2) from h))
      clear h
      go_enter Tryd.func37, Tryd.ntmps37
      go_wp2_with (first | ((with_reducible refine gate_dst (N := 3) rfl ?_); refine box_event ?hg (N := 3) ?hd (cs := #[.slice A1 a1.length c1]) (t := 49) ?hr ?_; (case hd => rfl); (case hg => rfl); (case hr => first | (go_simp; done) | (go_simp; rfl)); intro gb hg w1 hbox hb; have n0_ := Aside0.mk (below_step HB.out hb); have n1_ := Aside0.mk (hbox); have hcz : w1.cell? ⟨gb, 0, none⟩ = some (.slice A1 a1.length c1) := ((blk_cell hbox 0).trans rfl); clear HB; have HB := n0_; have BK := n1_; clear n0_ n1_; clear hb hbox hg) | fail)
      refine start_ (n := 6) (S := fun w' => w'.cell? ⟨gb, 0, none⟩ = some (.slice A1 a1.length c1)) (ds := []) #[false, false, false, false, false, false] (by kernel_rfl) rfl rfl (hcz) (fun hHeld => ?_)
      replace HB := Aside0.mk (below_drew1 HB.out)
      have hx0 : w1.drew.cell? ⟨gb, 0, none⟩ = some (.slice A1 a1.length c1) := hcz
      generalize hwa : w1.drew = wa at HB hx0 hHeld ⊢
      clear hwa
      refine pure_ (i := 0) (N := some 8) (v := ?_) (a' := ?_) #[true, false, false, false, false, false] rfl rfl (by kernel_rfl) (fun _ _ _ h => h) (Or.inl ⟨by rfl, ?_⟩) ?_ ?_
      rotate_left
      · intro w'
        go_simp
        with_reducible rfl
      rotate_left
      · simp only [Act.put, List.setIfInBounds_toArray, List.set_cons_zero, List.set_cons_succ, i64_w, i32_w]
        rfl
      refine take_ (i := 2) (N := some 10) (v := ?_) (a' := ?_) #[true, false, true, false, false, false] rfl rfl (by kernel_rfl) (fun _ _ _ h => h) (Or.inl ⟨by rfl, ?_⟩) hHeld ?_ ?_
      rotate_left
      · intro w' s0
        go_simp
        with_reducible rfl
      rotate_left
      · simp only [Act.put, List.setIfInBounds_toArray, List.set_cons_zero, List.set_cons_succ, i64_w, i32_w]
        rfl
      refine one_ (i := 1) (N := some 9) #[true, true, true, false, false, false] rfl rfl (by kernel_rfl) (by decide) (fun K hK => ?_)
      refine goes_ Tryd.func73 (by kernel_rfl) rfl #[.slice A0 l0.length c0] (by rfl) rfl rfl (by (try simp only [List.map_toArray, List.map_cons, List.map_nil]); first | done | rfl) ?_
      with_reducible refine (impl_ValidEditions.calls k A0 c0 l0 true _ (Kd.C_below HR0.out HB.out) HC0.out E1.out).mono ?_
      rintro e w2 ⟨rfl, hb⟩
      refine ⟨_, rfl, ?_⟩
      replace hx0 := (hb.cell (World.block_lt_of_cell? wa _ hx0)).trans hx0
      have HB2 := Aside0.mk (below_step HB.out hb)
      clear hb HB
      refine hK.out _ _ (hx0) (fun hHeld => ?_)
      clear hK K
      refine norm_ (a' := ?_) ?_ ?_
      rotate_left
      · show Act.put _ (some 9) _ = _
        simp only [Act.put, List.setIfInBounds_toArray, List.set_cons_zero, List.set_cons_succ, i64_w, i32_w]
        rfl
      refine one_ (i := 3) (N := some 11) #[true, true, true, true, false, false] rfl rfl (by kernel_rfl) (by decide) (fun K hK => ?_)
      refine goes_ Tryd.func88 (by kernel_rfl) rfl #[.slice A1 a1.length c1] (by rfl) rfl rfl (by (try simp only [List.map_toArray, List.map_cons, List.map_nil]); first | done | rfl) ?_
      with_reducible refine (impl_areShown.calls k A1 c1 a1 false _ (Kd.C_below HR1.out HB2.out) HC1.out E2.out).mono ?_
      rintro e w3 ⟨rfl, hb⟩
      refine ⟨_, rfl, ?_⟩
      replace hx0 := (hb.cell (World.block_lt_of_cell? w2 _ hx0)).trans hx0
      have HB3 := Aside0.mk (below_step HB2.out hb)
      clear hb HB2
      refine hK.out _ _ (hx0) (fun hHeld => ?_)
      clear hK K
      refine norm_ (a' := ?_) ?_ ?_
      rotate_left
      · show Act.put _ (some 11) _ = _
        simp only [Act.put, List.setIfInBounds_toArray, List.set_cons_zero, List.set_cons_succ, i64_w, i32_w]
        rfl
      refine one_ (i := 4) (N := some 12) #[true, true, true, true, true, false] rfl rfl (by kernel_rfl) (by decide) (fun K hK => ?_)
      refine goes_ Tryd.func72 (by kernel_rfl) rfl #[.bool true, .bool false] (by rfl) rfl rfl (by (try simp only [List.map_toArray, List.map_cons, List.map_nil]); first | done | rfl) ?_
      with_reducible refine (impl_check.calls true false _ _ rfl).mono ?_
      rintro e w4 ⟨rfl, ⟨n1, rfl⟩⟩
      refine ⟨_, rfl, ?_⟩
      refine hK.out _ _ (hx0) (fun hHeld => ?_)
      clear hK K
      refine norm_ (a' := ?_) ?_ ?_
      rotate_left
      · show Act.put _ (some 12) _ = _
        simp only [Act.put, List.setIfInBounds_toArray, List.set_cons_zero, List.set_cons_succ, i64_w, i32_w]
        rfl
      refine pure_ (i := 5) (N := some 6) (v := ?_) (a' := ?_) #[true, true, true, true, true, true] rfl rfl (by kernel_rfl) (fun _ _ _ h => h) (Or.inl ⟨by rfl, ?_⟩) ?_ ?_
      rotate_left
      · intro w'
        go_simp
        with_reducible rfl
      rotate_left
      · simp only [Act.put, List.setIfInBounds_toArray, List.set_cons_zero, List.set_cons_succ, i64_w, i32_w]
        rfl
      refine done_ (by kernel_rfl) ?_
      have HBR := Aside0.mk (pw_below_drewN HB3.out n1)
      replace hx0 : (w3.drewN n1).cell? ⟨gb, 0, none⟩ = some (.slice A1 a1.length c1) := hx0
      go_wp2
      go_ret2
      exact ⟨rfl, HBR.out⟩
    | true =>
      replace h : (if idxEd_v (fun y => sameNames y.f1 a1) l0 < 0 then some ((0 : Int), (3 : Int)) else some (idxEd_v (fun y => sameNames y.f1 a1) l0, 0)) = some (r1, r2) := h
      have HL : Aside0 (idxEd_v (fun y => sameNames y.f1 a1) l0 ≤ 9223372036854775807) := ⟨by unfold idxEd_v; have := HM.out; have := @List.findIdx_le_length _ (fun y : S91 => sameNames y.f1 a1) l0; split <;> omega⟩
      by_cases hi : idxEd_v (fun y => sameNames y.f1 a1) l0 < 0
      · rw [if_pos hi] at h
        obtain ⟨rfl, rfl⟩ := Prod.mk.inj (Option.some.inj h)
        clear h
        have cidx : decide (idxEd_v (fun y => sameNames y.f1 a1) l0 < 0) = true := decide_eq_true hi
        go_enter Tryd.func37, Tryd.ntmps37
        go_wp2_with (first | ((with_reducible refine gate_dst (N := 3) rfl ?_); refine box_event ?hg (N := 3) ?hd (cs := #[.slice A1 a1.length c1]) (t := 49) ?hr ?_; (case hd => rfl); (case hg => rfl); (case hr => first | (go_simp; done) | (go_simp; rfl)); intro gb hg w1 hbox hb; have n0_ := Aside0.mk (below_step HB.out hb); have n1_ := Aside0.mk (hbox); have hcz : w1.cell? ⟨gb, 0, none⟩ = some (.slice A1 a1.length c1) := ((blk_cell hbox 0).trans rfl); clear HB; have HB := n0_; have BK := n1_; clear n0_ n1_; clear hb hbox hg) | fail)
        refine start_ (n := 6) (S := fun w' => w'.cell? ⟨gb, 0, none⟩ = some (.slice A1 a1.length c1)) (ds := []) #[false, false, false, false, false, false] (by kernel_rfl) rfl rfl (hcz) (fun hHeld => ?_)
        replace HB := Aside0.mk (below_drew1 HB.out)
        have hx0 : w1.drew.cell? ⟨gb, 0, none⟩ = some (.slice A1 a1.length c1) := hcz
        generalize hwa : w1.drew = wa at HB hx0 hHeld ⊢
        clear hwa
        refine pure_ (i := 0) (N := some 8) (v := ?_) (a' := ?_) #[true, false, false, false, false, false] rfl rfl (by kernel_rfl) (fun _ _ _ h => h) (Or.inl ⟨by rfl, ?_⟩) ?_ ?_
        rotate_left
        · intro w'
          go_simp
          with_reducible rfl
        rotate_left
        · simp only [Act.put, List.setIfInBounds_toArray, List.set_cons_zero, List.set_cons_succ, i64_w, i32_w]
          rfl
        refine take_ (i := 2) (N := some 10) (v := ?_) (a' := ?_) #[true, false, true, false, false, false] rfl rfl (by kernel_rfl) (fun _ _ _ h => h) (Or.inl ⟨by rfl, ?_⟩) hHeld ?_ ?_
        rotate_left
        · intro w' s0
          go_simp
          with_reducible rfl
        rotate_left
        · simp only [Act.put, List.setIfInBounds_toArray, List.set_cons_zero, List.set_cons_succ, i64_w, i32_w]
          rfl
        refine one_ (i := 1) (N := some 9) #[true, true, true, false, false, false] rfl rfl (by kernel_rfl) (by decide) (fun K hK => ?_)
        refine goes_ Tryd.func73 (by kernel_rfl) rfl #[.slice A0 l0.length c0] (by rfl) rfl rfl (by (try simp only [List.map_toArray, List.map_cons, List.map_nil]); first | done | rfl) ?_
        with_reducible refine (impl_ValidEditions.calls k A0 c0 l0 true _ (Kd.C_below HR0.out HB.out) HC0.out E1.out).mono ?_
        rintro e w2 ⟨rfl, hb⟩
        refine ⟨_, rfl, ?_⟩
        replace hx0 := (hb.cell (World.block_lt_of_cell? wa _ hx0)).trans hx0
        have HB2 := Aside0.mk (below_step HB.out hb)
        clear hb HB
        refine hK.out _ _ (hx0) (fun hHeld => ?_)
        clear hK K
        refine norm_ (a' := ?_) ?_ ?_
        rotate_left
        · show Act.put _ (some 9) _ = _
          simp only [Act.put, List.setIfInBounds_toArray, List.set_cons_zero, List.set_cons_succ, i64_w, i32_w]
          rfl
        refine one_ (i := 3) (N := some 11) #[true, true, true, true, false, false] rfl rfl (by kernel_rfl) (by decide) (fun K hK => ?_)
        refine goes_ Tryd.func88 (by kernel_rfl) rfl #[.slice A1 a1.length c1] (by rfl) rfl rfl (by (try simp only [List.map_toArray, List.map_cons, List.map_nil]); first | done | rfl) ?_
        with_reducible refine (impl_areShown.calls k A1 c1 a1 true _ (Kd.C_below HR1.out HB2.out) HC1.out E2.out).mono ?_
        rintro e w3 ⟨rfl, hb⟩
        refine ⟨_, rfl, ?_⟩
        replace hx0 := (hb.cell (World.block_lt_of_cell? w2 _ hx0)).trans hx0
        have HB3 := Aside0.mk (below_step HB2.out hb)
        clear hb HB2
        refine hK.out _ _ (hx0) (fun hHeld => ?_)
        clear hK K
        refine norm_ (a' := ?_) ?_ ?_
        rotate_left
        · show Act.put _ (some 11) _ = _
          simp only [Act.put, List.setIfInBounds_toArray, List.set_cons_zero, List.set_cons_succ, i64_w, i32_w]
          rfl
        refine one_ (i := 4) (N := some 12) #[true, true, true, true, true, false] rfl rfl (by kernel_rfl) (by decide) (fun K hK => ?_)
        refine goes_ Tryd.func72 (by kernel_rfl) rfl #[.bool true, .bool true] (by rfl) rfl rfl (by (try simp only [List.map_toArray, List.map_cons, List.map_nil]); first | done | rfl) ?_
        with_reducible refine (impl_check.calls true true _ _ rfl).mono ?_
        rintro e w4 ⟨rfl, ⟨n1, rfl⟩⟩
        refine ⟨_, rfl, ?_⟩
        refine hK.out _ _ (hx0) (fun hHeld => ?_)
        clear hK K
        refine norm_ (a' := ?_) ?_ ?_
        rotate_left
        · show Act.put _ (some 12) _ = _
          simp only [Act.put, List.setIfInBounds_toArray, List.set_cons_zero, List.set_cons_succ, i64_w, i32_w]
          rfl
        refine pure_ (i := 5) (N := some 6) (v := ?_) (a' := ?_) #[true, true, true, true, true, true] rfl rfl (by kernel_rfl) (fun _ _ _ h => h) (Or.inl ⟨by rfl, ?_⟩) ?_ ?_
        rotate_left
        · intro w'
          go_simp
          with_reducible rfl
        rotate_left
        · simp only [Act.put, List.setIfInBounds_toArray, List.set_cons_zero, List.set_cons_succ, i64_w, i32_w]
          rfl
        refine done_ (by kernel_rfl) ?_
        have HBR := Aside0.mk (pw_below_drewN HB3.out n1)
        replace hx0 : (w3.drewN n1).cell? ⟨gb, 0, none⟩ = some (.slice A1 a1.length c1) := hx0
        go_wp2_with (first | (go_at_call 89; refine (idxEd_calls (fun y => sameNames y.f1 a1) 90 #[.pointer (some ⟨gb, 0, none⟩)] (enters_of Tryd.func90 (by kernel_rfl) rfl) A0 c0 l0 _ (Kd.C_below HR0.out HBR.out) (fun W x B1 d1 hB hc hl => sameEd_calls a1 A1 c1 ⟨gb, 0, none⟩ _ W x B1 d1 hx0 (Kd.C_below HR1.out HBR.out) HC1.out hB hc hl)).mono ?_; rintro e w5 ⟨rfl, hb⟩; have HB5 := Aside0.mk (below_step HBR.out hb); clear hb) | fail)
        go_ret2
        exact ⟨rfl, HB5.out⟩
      · rw [if_neg hi] at h
        obtain ⟨rfl, rfl⟩ := Prod.mk.inj (Option.some.inj h)
        clear h
        have cidx : decide (idxEd_v (fun y => sameNames y.f1 a1) l0 < 0) = false := decide_eq_false hi
        have cw : wrap64 (idxEd_v (fun y => sameNames y.f1 a1) l0) = idxEd_v (fun y => sameNames y.f1 a1) l0 := by have := HL.out; unfold wrap64; omega
        go_enter Tryd.func37, Tryd.ntmps37
        go_wp2_with (first | ((with_reducible refine gate_dst (N := 3) rfl ?_); refine box_event ?hg (N := 3) ?hd (cs := #[.slice A1 a1.length c1]) (t := 49) ?hr ?_; (case hd => rfl); (case hg => rfl); (case hr => first | (go_simp; done) | (go_simp; rfl)); intro gb hg w1 hbox hb; have n0_ := Aside0.mk (below_step HB.out hb); have n1_ := Aside0.mk (hbox); have hcz : w1.cell? ⟨gb, 0, none⟩ = some (.slice A1 a1.length c1) := ((blk_cell hbox 0).trans rfl); clear HB; have HB := n0_; have BK := n1_; clear n0_ n1_; clear hb hbox hg) | fail)
        refine start_ (n := 6) (S := fun w' => w'.cell? ⟨gb, 0, none⟩ = some (.slice A1 a1.length c1)) (ds := []) #[false, false, false, false, false, false] (by kernel_rfl) rfl rfl (hcz) (fun hHeld => ?_)
        replace HB := Aside0.mk (below_drew1 HB.out)
        have hx0 : w1.drew.cell? ⟨gb, 0, none⟩ = some (.slice A1 a1.length c1) := hcz
        generalize hwa : w1.drew = wa at HB hx0 hHeld ⊢
        clear hwa
        refine pure_ (i := 0) (N := some 8) (v := ?_) (a' := ?_) #[true, false, false, false, false, false] rfl rfl (by kernel_rfl) (fun _ _ _ h => h) (Or.inl ⟨by rfl, ?_⟩) ?_ ?_
        rotate_left
        · intro w'
          go_simp
          with_reducible rfl
        rotate_left
        · simp only [Act.put, List.setIfInBounds_toArray, List.set_cons_zero, List.set_cons_succ, i64_w, i32_w]
          rfl
        refine take_ (i := 2) (N := some 10) (v := ?_) (a' := ?_) #[true, false, true, false, false, false] rfl rfl (by kernel_rfl) (fun _ _ _ h => h) (Or.inl ⟨by rfl, ?_⟩) hHeld ?_ ?_
        rotate_left
        · intro w' s0
          go_simp
          with_reducible rfl
        rotate_left
        · simp only [Act.put, List.setIfInBounds_toArray, List.set_cons_zero, List.set_cons_succ, i64_w, i32_w]
          rfl
        refine one_ (i := 1) (N := some 9) #[true, true, true, false, false, false] rfl rfl (by kernel_rfl) (by decide) (fun K hK => ?_)
        refine goes_ Tryd.func73 (by kernel_rfl) rfl #[.slice A0 l0.length c0] (by rfl) rfl rfl (by (try simp only [List.map_toArray, List.map_cons, List.map_nil]); first | done | rfl) ?_
        with_reducible refine (impl_ValidEditions.calls k A0 c0 l0 true _ (Kd.C_below HR0.out HB.out) HC0.out E1.out).mono ?_
        rintro e w2 ⟨rfl, hb⟩
        refine ⟨_, rfl, ?_⟩
        replace hx0 := (hb.cell (World.block_lt_of_cell? wa _ hx0)).trans hx0
        have HB2 := Aside0.mk (below_step HB.out hb)
        clear hb HB
        refine hK.out _ _ (hx0) (fun hHeld => ?_)
        clear hK K
        refine norm_ (a' := ?_) ?_ ?_
        rotate_left
        · show Act.put _ (some 9) _ = _
          simp only [Act.put, List.setIfInBounds_toArray, List.set_cons_zero, List.set_cons_succ, i64_w, i32_w]
          rfl
        refine one_ (i := 3) (N := some 11) #[true, true, true, true, false, false] rfl rfl (by kernel_rfl) (by decide) (fun K hK => ?_)
        refine goes_ Tryd.func88 (by kernel_rfl) rfl #[.slice A1 a1.length c1] (by rfl) rfl rfl (by (try simp only [List.map_toArray, List.map_cons, List.map_nil]); first | done | rfl) ?_
        with_reducible refine (impl_areShown.calls k A1 c1 a1 true _ (Kd.C_below HR1.out HB2.out) HC1.out E2.out).mono ?_
        rintro e w3 ⟨rfl, hb⟩
        refine ⟨_, rfl, ?_⟩
        replace hx0 := (hb.cell (World.block_lt_of_cell? w2 _ hx0)).trans hx0
        have HB3 := Aside0.mk (below_step HB2.out hb)
        clear hb HB2
        refine hK.out _ _ (hx0) (fun hHeld => ?_)
        clear hK K
        refine norm_ (a' := ?_) ?_ ?_
        rotate_left
        · show Act.put _ (some 11) _ = _
          simp only [Act.put, List.setIfInBounds_toArray, List.set_cons_zero, List.set_cons_succ, i64_w, i32_w]
          rfl
        refine one_ (i := 4) (N := some 12) #[true, true, true, true, true, false] rfl rfl (by kernel_rfl) (by decide) (fun K hK => ?_)
        refine goes_ Tryd.func72 (by kernel_rfl) rfl #[.bool true, .bool true] (by rfl) rfl rfl (by (try simp only [List.map_toArray, List.map_cons, List.map_nil]); first | done | rfl) ?_
        with_reducible refine (impl_check.calls true true _ _ rfl).mono ?_
        rintro e w4 ⟨rfl, ⟨n1, rfl⟩⟩
        refine ⟨_, rfl, ?_⟩
        refine hK.out _ _ (hx0) (fun hHeld => ?_)
        clear hK K
        refine norm_ (a' := ?_) ?_ ?_
        rotate_left
        · show Act.put _ (some 12) _ = _
          simp only [Act.put, List.setIfInBounds_toArray, List.set_cons_zero, List.set_cons_succ, i64_w, i32_w]
          rfl
        refine pure_ (i := 5) (N := some 6) (v := ?_) (a' := ?_) #[true, true, true, true, true, true] rfl rfl (by kernel_rfl) (fun _ _ _ h => h) (Or.inl ⟨by rfl, ?_⟩) ?_ ?_
        rotate_left
        · intro w'
          go_simp
          with_reducible rfl
        rotate_left
        · simp only [Act.put, List.setIfInBounds_toArray, List.set_cons_zero, List.set_cons_succ, i64_w, i32_w]
          rfl
        refine done_ (by kernel_rfl) ?_
        have HBR := Aside0.mk (pw_below_drewN HB3.out n1)
        replace hx0 : (w3.drewN n1).cell? ⟨gb, 0, none⟩ = some (.slice A1 a1.length c1) := hx0
        go_wp2_with (first | (go_at_call 89; refine (idxEd_calls (fun y => sameNames y.f1 a1) 90 #[.pointer (some ⟨gb, 0, none⟩)] (enters_of Tryd.func90 (by kernel_rfl) rfl) A0 c0 l0 _ (Kd.C_below HR0.out HBR.out) (fun W x B1 d1 hB hc hl => sameEd_calls a1 A1 c1 ⟨gb, 0, none⟩ _ W x B1 d1 hx0 (Kd.C_below HR1.out HBR.out) HC1.out hB hc hl)).mono ?_; rintro e w5 ⟨rfl, hb⟩; have HB5 := Aside0.mk (below_step HBR.out hb); clear hb) | fail)
        go_ret2
        exact ⟨by first | rfl | (simp only [cw])| simp, HB5.out⟩


end Go.Proofs.YtombhkdipldkiaaDoor.PFnExactEditionOf
