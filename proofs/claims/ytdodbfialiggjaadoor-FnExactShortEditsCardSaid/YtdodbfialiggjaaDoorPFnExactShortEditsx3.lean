-- Made by a program of this session (gprint.py) out of the kit's print of the translation and texts of my own.
import Derived.Test.YtdodbfialiggjaaDoorPFnExactShortEditsx0
import Derived.Test.YtdodbfialiggjaaDoorPFnExactShortEditsx2
namespace Go.Proofs.YtdodbfialiggjaaDoor.PFnExactShortEdits
open Go.RowKit Go.Proofs.YtdodbfialiggjaaDoorW.PrintWords Go.Proofs.YtdodbfialiggjaaDoorW.PrintLast Go.Proofs.YtdodbfialiggjaaDoorW.PrintMore
attribute [local go_sem] max2_int min2_int max_two min_two max_three min_three max_four min_four   -- for this text's walks alone
set_option linter.unusedVariables false
set_option linter.unusedSimpArgs false

/-! ### impl_ValidEdits: function 41 -/
-- given by hand

theorem idxEdit_rd (l0 : List S52) (x5 : Int) (h0 : 0 ≤ x5) (hlt : x5 < (l0.length : Int)) : (rd_T52 l0 x5) = l0[x5.toNat]'(by omega) := by
  unfold rd_T52
  rw [List.getD_eq_getElem?_getD, List.getElem?_eq_getElem (show x5.toNat < l0.length by omega)]
  rfl
def idxEdit_v (p : S52 → Bool) (l : List S52) : Int := if l.any p then (l.findIdx p : Int) else -1
set_option maxHeartbeats 8000000 in
set_option maxRecDepth 100000 in
theorem idxEdit_calls (p : S52 → Bool) (gg : Nat) (lb : Array Value) (eg : ∀ args w, (callFunc gg args).run Tryd.prog w = .ok (.enter gg args) w) (A0 : Option Addr) (c0 : Nat) (l0 : List S52) (w : World) (hr0 : Kd.C k52 w A0 l0.length l0)
    (hp : ∀ (W : World) (x : S52), Below w.heap.size w W → Calls Tryd.prog gg (#[.agg #[.int .i64 x.f0, .string x.f1, .string x.f2]] ++ lb) W fun e w' => e = .returned (.bool (p x)) ∧ Below w.heap.size w w') :
    Calls Tryd.prog 85 #[.slice A0 l0.length c0, .func (.func gg) #[] lb] w fun e w' => e = .returned (.int .i64 (idxEdit_v p l0)) ∧ Below w.heap.size w w' := by
  have HR := Aside0.mk hr0
  have HM := Kd.C_max hr0
  clear hr0
  have HP := Aside0.mk hp
  clear hp
  go_enter Tryd.func85, Tryd.ntmps85
  go_wp2
  go_loopg [5, 8] l0.length (fun gk _ s8 wr => ∃ x5 : Int, s8 = .int .i64 x5 ∧ 0 ≤ x5 ∧ x5 ≤ (l0.length : Int) ∧ (l0.length : Int) - x5 ≤ gk ∧ Aside0 (Below w.heap.size w wr) ∧ Aside0 (∀ j, (h : j < l0.length) → (j : Int) < x5 → p l0[j] = false))
  case atStart => exact ⟨0, rfl, by omega, by omega, by omega, ⟨Below.refl _ w⟩, ⟨fun j h hj => by omega⟩⟩
  case round =>
    obtain ⟨x5, rfl, h0, h1, hg, BW, AA⟩ := hrel
    by_cases hlt : x5 < (l0.length : Int)
    · have c4b0 : decide (x5 < (l0.length : Int)) = true := decide_eq_true hlt
      obtain ⟨ad, he, hx0, hx1, hx2⟩ := at_T52 HR.out x5 h0 (show x5 < (l0.length : Int) from hlt)
      cases he
      replace hx0 := (BW.out.cell (World.block_lt_of_cell? w _ hx0)).trans hx0
      replace hx1 := (BW.out.cell (World.block_lt_of_cell? w _ hx1)).trans hx1
      replace hx2 := (BW.out.cell (World.block_lt_of_cell? w _ hx2)).trans hx2
      have HY := Aside0.mk (idxEdit_rd l0 x5 h0 hlt)
      have hcall := HP.out wr (rd_T52 l0 x5) BW.out
      cases hq : p (rd_T52 l0 x5) with
      | true =>
        rw [hq] at hcall
        have HQ := Aside0.mk hq
        clear hq
        go_wp2_with (go_at_fn gg; refine hcall.mono ?_; rintro e w' ⟨rfl, hb'⟩)
        go_ret
        refine ⟨?_, hb'⟩
        have hy := HY.out
        have hqq := HQ.out
        have hall := AA.out
        have e : idxEdit_v p l0 = x5 := by
          unfold idxEdit_v
          rw [if_pos (List.any_eq_true.2 ⟨l0[x5.toNat]'(by omega), List.getElem_mem _, by rw [← hy]; exact hqq⟩)]
          have : l0.findIdx p = x5.toNat := by
            rw [List.findIdx_eq (by omega)]
            refine ⟨by rw [← hy]; exact hqq, fun j hj => hall j (by omega) (by omega)⟩
          omega
        rw [e]
        rfl
      | false =>
        rw [hq] at hcall
        have HQ := Aside0.mk hq
        clear hq
        go_wp2_with (go_at_fn gg; refine hcall.mono ?_; rintro e w' ⟨rfl, hb'⟩)
        go_roundg (l0.length - (x5.toNat + 1))
        case measure => omega
        case rel =>
          refine ⟨x5 + 1, by first | rfl | go_num, by omega, by omega, by omega, ⟨hb'⟩, ⟨fun j h hj => ?_⟩⟩
          by_cases ee : (j : Int) = x5
          · have hy := HY.out
            have hqq := HQ.out
            rw [hy] at hqq
            have : j = x5.toNat := by omega
            subst this
            exact hqq
          · exact AA.out j h (by omega)
    · have c4b0 : decide (x5 < (l0.length : Int)) = false := decide_eq_false hlt
      go_wp2
      go_ret
      refine ⟨?_, BW.out⟩
      have e : idxEdit_v p l0 = -1 := by
        unfold idxEdit_v
        rw [if_neg]
        intro h
        obtain ⟨x, hx, hpx⟩ := List.any_eq_true.1 h
        obtain ⟨j, hj, rfl⟩ := List.getElem_of_mem hx
        have := AA.out j hj (by omega)
        rw [hpx] at this
        cases this
      rw [e]
      rfl
theorem idxEdit_nonneg (p : S52 → Bool) (l : List S52) : decide (0 ≤ idxEdit_v p l) = l.any p := by
  unfold idxEdit_v
  cases h : l.any p
  · simp
  · simp

set_option maxHeartbeats 8000000 in
theorem conEdit_calls (p : S52 → Bool) (gg : Nat) (lb : Array Value) (eg : ∀ args w, (callFunc gg args).run Tryd.prog w = .ok (.enter gg args) w) (A0 : Option Addr) (c0 : Nat) (l0 : List S52) (w : World) (hr0 : Kd.C k52 w A0 l0.length l0)
    (hp : ∀ (W : World) (x : S52), Below w.heap.size w W → Calls Tryd.prog gg (#[.agg #[.int .i64 x.f0, .string x.f1, .string x.f2]] ++ lb) W fun e w' => e = .returned (.bool (p x)) ∧ Below w.heap.size w w') :
    Calls Tryd.prog 81 #[.slice A0 l0.length c0, .func (.func gg) #[] lb] w fun e w' => e = .returned (.bool (l0.any p)) ∧ Below w.heap.size w w' := by
  have hI := idxEdit_calls p gg lb eg A0 c0 l0 w hr0 hp
  have HN := Aside0.mk (idxEdit_nonneg p l0)
  generalize idxEdit_v p l0 = vv at hI HN
  generalize l0.any p = bb at HN ⊢
  clear hp hr0
  go_enter Tryd.func81, Tryd.ntmps81
  go_wp2_with (go_at_call 85; refine hI.mono ?_; rintro e w' ⟨rfl, hb'⟩)
  go_ret
  exact ⟨by rw [← HN.out]; rfl, hb'⟩

theorem pIsName_some (s : ByteArray) : ∃ b, impl_IsName.f s = some b := by
  unfold impl_IsName.f
  by_cases h0 : (s.size : Int) < 1
  · rw [if_pos h0]; exact ⟨_, rfl⟩
  · rw [if_neg h0]
    by_cases h1 : (s.size : Int) > 12
    · rw [if_pos h1]; exact ⟨_, rfl⟩
    · rw [if_neg h1, if_pos (by omega)]
      by_cases h2 : bt s 0 < 97
      · rw [if_pos h2]; exact ⟨_, rfl⟩
      · rw [if_neg h2]
        by_cases h3 : bt s 0 > 122
        · rw [if_pos h3]; exact ⟨_, rfl⟩
        · rw [if_neg h3]
          unfold strings_Trim.f
          rw [if_pos ⟨by omega, by decide, by decide +kernel⟩]
          exact ⟨_, rfl⟩
theorem pEngraved_some (s : ByteArray) : ∃ b, impl_isEngraved.f s = some b := by
  obtain ⟨b, hb⟩ := pIsName_some s
  unfold impl_isEngraved.f
  rw [hb]
  split <;> exact ⟨_, rfl⟩

theorem pEdit_some (x : S52) : ∃ b, impl_isEdit.f x.f0 x.f1 x.f2 = some b := by
  obtain ⟨b, hb⟩ := pEngraved_some x.f1
  obtain ⟨b2, hb2⟩ := pEngraved_some x.f2
  unfold impl_isEdit.f impl_within.f
  rw [hb, hb2]
  by_cases h1 : x.f0 ≥ 0 <;> by_cases h2 : x.f0 ≤ 11 <;> cases b <;> cases b2 <;> simp [h1, h2]

def impl_isEditBad (x : S52) : Bool := !((impl_isEdit.f x.f0 x.f1 x.f2).getD false)
theorem impl_isEditBad_eq (x : S52) : impl_isEdit.f x.f0 x.f1 x.f2 = some (!impl_isEditBad x) := by
  obtain ⟨b, hb⟩ := pEdit_some x
  unfold impl_isEditBad
  rw [hb]
  simp
set_option maxHeartbeats 4000000 in
theorem impl_isEditBad_calls (w W : World) (x : S52) (hB : Below w.heap.size w W) : Calls Tryd.prog 82 (#[.agg #[.int .i64 x.f0, .string x.f1, .string x.f2]] ++ #[]) W fun e w' => e = .returned (.bool (impl_isEditBad x)) ∧ Below w.heap.size w w' := by
  have hv := fun W' => impl_isEdit.calls x.f0 x.f1 x.f2 (!impl_isEditBad x) W' (impl_isEditBad_eq x)
  generalize impl_isEditBad x = bb at hv ⊢
  show Calls Tryd.prog 82 #[.agg #[.int .i64 x.f0, .string x.f1, .string x.f2]] W _
  have HB := Aside0.mk hB
  clear hB
  cases x with
  | mk f0 f1 f2 =>
  go_enter Tryd.func82, Tryd.ntmps82
  go_wp2_with (go_at_call 70; refine (hv _).mono ?_; rintro e w' ⟨rfl, hb'⟩)
  go_ret
  exact ⟨by simp, by repeat (first | (with_reducible exact below_step HB.out hb') | (with_reducible exact below_step (below_alloc HB.out _) hb') | exact below_step HB.out hb' | exact below_step (below_alloc HB.out _) hb')⟩

def impl_ValidEdits.f (l0 : List S52) : Option Bool := if (l0.length : Int) ≤ 20 then (some (!l0.any impl_isEditBad)) else (some false)
set_option maxHeartbeats 4000000 in
theorem impl_ValidEdits.calls (A0 : Option Addr) (c0 : Nat) (l0 : List S52) (r : Bool) (w : World) (hr0 : Kd.C k52 w A0 l0.length l0) (hc0 : l0.length ≤ c0) (h : impl_ValidEdits.f l0 = some r) :
    Calls Tryd.prog 41 #[.slice A0 l0.length c0] w fun e w' => e = .returned (.bool r) ∧ Below w.heap.size w w' := by
  have hC := conEdit_calls impl_isEditBad 82 #[] (enters_of Tryd.func82 (by kernel_rfl) rfl) A0 c0 l0 w hr0 (fun W x hb => impl_isEditBad_calls w W x hb)
  have HM := Kd.C_max hr0
  clear hr0 hc0
  unfold impl_ValidEdits.f at h
  by_cases c2 : (l0.length : Int) ≤ 20
  · rw [if_pos c2] at h
    have c2b : decide ((l0.length : Int) ≤ 20) = true := decide_eq_true c2
    have c2c : decide (l0.length ≤ 20) = true := decide_eq_true (by omega)
    obtain rfl := Option.some.inj h
    generalize l0.any impl_isEditBad = bb at hC ⊢
    go_enter Tryd.func41, Tryd.ntmps41
    go_wp2_with (go_at_call 81; refine hC.mono ?_; rintro e w' ⟨rfl, hb'⟩)
    go_ret
    exact ⟨by simp, hb'⟩
  · rw [if_neg c2] at h
    have c2b : decide ((l0.length : Int) ≤ 20) = false := decide_eq_false c2
    have c2c : decide (l0.length ≤ 20) = false := decide_eq_false (by omega)
    obtain rfl := Option.some.inj h
    clear hC
    go_enter Tryd.func41, Tryd.ntmps41
    go_wp2
    go_ret
    exact ⟨rfl, Below.refl _ _⟩


end Go.Proofs.YtdodbfialiggjaaDoor.PFnExactShortEdits
