-- Made by a program of this session (gprint.py) out of the kit's print of the translation and texts of my own.
import Derived.Test.YtgeeojchgfomjaaDoorPFnExactEndsOfFigurex0
import Derived.Test.YtgeeojchgfomjaaDoorPFnExactEndsOfFigurex6
namespace Go.Proofs.YtgeeojchgfomjaaDoor.PFnExactEndsOfFigure
open Go.RowKit Go.Proofs.YtgeeojchgfomjaaDoorW.PrintWords Go.Proofs.YtgeeojchgfomjaaDoorW.PrintLast Go.Proofs.YtgeeojchgfomjaaDoorW.PrintMore
attribute [local go_sem] max2_int min2_int max_two min_two max_three min_three max_four min_four   -- for this text's walks alone
set_option linter.unusedVariables false
set_option linter.unusedSimpArgs false

/-! ### impl_EndsOfFigure: function 46 -/
-- given by hand

theorem idxI64_rd (l0 : List Int) (x5 : Int) (h0 : 0 ≤ x5) (hlt : x5 < (l0.length : Int)) : (rdOf (0 : Int) l0 x5) = l0[x5.toNat]'(by omega) := by
  unfold rdOf
  rw [List.getD_eq_getElem?_getD, List.getElem?_eq_getElem (show x5.toNat < l0.length by omega)]
  rfl
def idxI64_v (p : Int → Bool) (l : List Int) : Int := if l.any p then (l.findIdx p : Int) else -1
set_option maxHeartbeats 8000000 in
set_option maxRecDepth 100000 in
theorem idxI64_calls (p : Int → Bool) (gg : Nat) (lb : Array Value) (eg : ∀ args w, (callFunc gg args).run Tryd.prog w = .ok (.enter gg args) w) (A0 : Option Addr) (c0 : Nat) (l0 : List Int) (w : World) (hr0 : Kd.C (Kd.int .i64) w A0 l0.length l0)
    (hp : ∀ (W : World) (x : Int), Below w.heap.size w W → Calls Tryd.prog gg (#[.int .i64 x] ++ lb) W fun e w' => e = .returned (.bool (p x)) ∧ Below w.heap.size w w') :
    Calls Tryd.prog 154 #[.slice A0 l0.length c0, .func (.func gg) #[] lb] w fun e w' => e = .returned (.int .i64 (idxI64_v p l0)) ∧ Below w.heap.size w w' := by
  have HR := Aside0.mk hr0
  have HM := Kd.C_max hr0
  clear hr0
  have HP := Aside0.mk hp
  clear hp
  go_enter Tryd.func154, Tryd.ntmps154
  go_wp2
  go_loopg [5, 8] l0.length (fun gk _ s8 wr => ∃ x5 : Int, s8 = .int .i64 x5 ∧ 0 ≤ x5 ∧ x5 ≤ (l0.length : Int) ∧ (l0.length : Int) - x5 ≤ gk ∧ Aside0 (Below w.heap.size w wr) ∧ Aside0 (∀ j, (h : j < l0.length) → (j : Int) < x5 → p l0[j] = false))
  case atStart => exact ⟨0, rfl, by omega, by omega, by omega, ⟨Below.refl _ w⟩, ⟨fun j h hj => by omega⟩⟩
  case round =>
    obtain ⟨x5, rfl, h0, h1, hg, BW, AA⟩ := hrel
    by_cases hlt : x5 < (l0.length : Int)
    · have c4b0 : decide (x5 < (l0.length : Int)) = true := decide_eq_true hlt
      obtain ⟨ad, he, hx0⟩ := (Kd.reads_of_C (enc := Value.int .i64) (d := (0 : Int)) (h1 := fun _ => rfl) HR.out).at_ x5 h0 (show x5 < (l0.length : Int) from hlt)
      cases he
      replace hx0 := (BW.out.cell (World.block_lt_of_cell? w _ hx0)).trans hx0
      have HY := Aside0.mk (idxI64_rd l0 x5 h0 hlt)
      have hcall := HP.out wr (rdOf (0 : Int) l0 x5) BW.out
      cases hq : p (rdOf (0 : Int) l0 x5) with
      | true =>
        rw [hq] at hcall
        have HQ := Aside0.mk hq
        clear hq
        go_wp2_with (go_at_fn gg; refine hcall.mono ?_; rintro e w' ⟨rfl, hb'⟩)
        go_ret
        refine ⟨?_, hb'⟩
        have hy := HY.out
        have hqq := HQ.out
        have hall := AA.out
        have e : idxI64_v p l0 = x5 := by
          unfold idxI64_v
          rw [if_pos (List.any_eq_true.2 ⟨l0[x5.toNat]'(by omega), List.getElem_mem _, by rw [← hy]; exact hqq⟩)]
          have : l0.findIdx p = x5.toNat := by
            rw [List.findIdx_eq (by omega)]
            refine ⟨by rw [← hy]; exact hqq, fun j hj => hall j (by omega) (by omega)⟩
          omega
        rw [e]
        rfl
      | false =>
        rw [hq] at hcall
        have HQ := Aside0.mk hq
        clear hq
        go_wp2_with (go_at_fn gg; refine hcall.mono ?_; rintro e w' ⟨rfl, hb'⟩)
        go_roundg (l0.length - (x5.toNat + 1))
        case measure => omega
        case rel =>
          refine ⟨x5 + 1, by first | rfl | go_num, by omega, by omega, by omega, ⟨hb'⟩, ⟨fun j h hj => ?_⟩⟩
          by_cases ee : (j : Int) = x5
          · have hy := HY.out
            have hqq := HQ.out
            rw [hy] at hqq
            have : j = x5.toNat := by omega
            subst this
            exact hqq
          · exact AA.out j h (by omega)
    · have c4b0 : decide (x5 < (l0.length : Int)) = false := decide_eq_false hlt
      go_wp2
      go_ret
      refine ⟨?_, BW.out⟩
      have e : idxI64_v p l0 = -1 := by
        unfold idxI64_v
        rw [if_neg]
        intro h
        obtain ⟨x, hx, hpx⟩ := List.any_eq_true.1 h
        obtain ⟨j, hj, rfl⟩ := List.getElem_of_mem hx
        have := AA.out j hj (by omega)
        rw [hpx] at this
        cases this
      rw [e]
      rfl
theorem idxI64_nonneg (p : Int → Bool) (l : List Int) : decide (0 ≤ idxI64_v p l) = l.any p := by
  unfold idxI64_v
  cases h : l.any p
  · simp
  · simp

theorem linesAt_some (m : List S103) (hm : m.length ≤ 9223372036854775807) (x : Int) (d : Nat) : ∀ (v : Int) (i : Nat), i ≤ m.length → m.length - i = d → ∃ r, impl_linesAt.l0 (d + 1) x v m m.length i = some r := by
  induction d with
  | zero =>
    intro v i hi hd
    exact ⟨v, by simp only [impl_linesAt.l0, if_neg (show ¬ (i : Int) < (m.length : Int) by omega)]⟩
  | succ d ih =>
    intro v i hi hd
    have hw : wrap64 ((i : Int) + 1) = ((i + 1 : Nat) : Int) := by unfold wrap64; omega
    rw [impl_linesAt.l0]
    simp only [if_pos (show (i : Int) < (m.length : Int) by omega), if_pos (show (0 : Int) ≤ (i : Int) by omega), hw]
    split
    · exact ih _ (i + 1) (by omega) (by omega)
    · split
      · exact ih _ (i + 1) (by omega) (by omega)
      · exact ih _ (i + 1) (by omega) (by omega)
def linesV (m : List S103) (x : Int) : Int := (impl_linesAt.f (m.length + 1) m x).getD 0
theorem linesV_eq (m : List S103) (hm : m.length ≤ 9223372036854775807) (x : Int) : impl_linesAt.f (m.length + 1) m x = some (linesV m x) := by
  obtain ⟨r, hr⟩ := linesAt_some m hm x m.length 0 0 (by omega) (by omega)
  have h : impl_linesAt.f (m.length + 1) m x = some r := hr
  unfold linesV
  rw [h]
  rfl
def endsBad (m : List S103) (x : Int) : Bool := linesV m x != 1
set_option maxHeartbeats 4000000 in
theorem endsBad_calls (m : List S103) (Al : Option Addr) (cl : Nat) (box : Addr) (w1 W : World) (x : Int) (hc : w1.cell? box = some (.slice Al m.length cl)) (hr : Kd.C k103 w1 Al m.length m) (hcl : m.length ≤ cl) (hB : Below w1.heap.size w1 W) :
    Calls Tryd.prog 102 (#[.int .i64 x] ++ #[.pointer (some box)]) W fun e w' => e = .returned (.bool (endsBad m x)) ∧ Below W.heap.size W w' := by
  have hc2 : W.cell? box = some (.slice Al m.length cl) := (hB.cell (World.block_lt_of_cell? w1 _ hc)).trans hc
  have hv := impl_linesAt.calls (m.length + 1) Al cl m x (linesV m x) W (Kd.C_below hr hB) hcl (linesV_eq m (Kd.C_max hr) x)
  unfold endsBad
  generalize linesV m x = v at hv ⊢
  clear hB hc hr
  show Calls Tryd.prog 102 #[.int .i64 x, .pointer (some box)] W _
  go_enter Tryd.func102, Tryd.ntmps102
  go_wp2_with (go_at_call 100; refine hv.mono ?_; rintro e w' ⟨rfl, hb⟩)
  go_ret
  exact ⟨by first | rfl | simp, hb⟩
theorem ends_idx (p : Int → Bool) (gg : Nat) (lb : Array Value) (eg : ∀ args w, (callFunc gg args).run Tryd.prog w = .ok (.enter gg args) w) (A0 : Option Addr) (c0 : Nat) (d : List Int) (w1 w : World) (hB : Below w1.heap.size w1 w) (hr : Kd.C (Kd.int .i64) w A0 d.length d)
    (hp : ∀ (W : World) (x : Int), Below w1.heap.size w1 W → Calls Tryd.prog gg (#[.int .i64 x] ++ lb) W fun e w' => e = .returned (.bool (p x)) ∧ Below W.heap.size W w') :
    Calls Tryd.prog 154 #[.slice A0 d.length c0, .func (.func gg) #[] lb] w fun e w' => e = .returned (.int .i64 (idxI64_v p d)) ∧ Below w.heap.size w w' :=
  idxI64_calls p gg lb eg A0 c0 d w hr (fun W x hb => (hp W x (below_step hB hb)).mono (fun e w' h => ⟨h.1, below_step hb h.2⟩))
set_option maxHeartbeats 4000000 in
theorem del_none (p : Int → Bool) (gg : Nat) (lb : Array Value) (eg : ∀ args w, (callFunc gg args).run Tryd.prog w = .ok (.enter gg args) w) (A0 : Option Addr) (c0 : Nat) (d : List Int) (w1 w : World) (hB : Below w1.heap.size w1 w) (hr : Kd.C (Kd.int .i64) w A0 d.length d)
    (hp : ∀ (W : World) (x : Int), Below w1.heap.size w1 W → Calls Tryd.prog gg (#[.int .i64 x] ++ lb) W fun e w' => e = .returned (.bool (p x)) ∧ Below W.heap.size W w') (hn : d.any p = false) :
    Calls Tryd.prog 101 #[.slice A0 d.length c0, .func (.func gg) #[] lb] w fun e w' => e = .returned (.slice A0 d.length c0) ∧ Below w.heap.size w w' := by
  have hI := ends_idx p gg lb eg A0 c0 d w1 w hB hr hp
  rw [show idxI64_v p d = -1 by unfold idxI64_v; rw [hn]; rfl] at hI
  clear hp hr hB
  go_enter Tryd.func101, Tryd.ntmps101
  go_wp2_with (go_at_call 154; refine hI.mono ?_; rintro e w' ⟨rfl, hb⟩)
  go_ret
  exact ⟨rfl, hb⟩
/-- The row in block g, element by element. -/
def rowAt (w : World) (g cap : Nat) (dk : Array Int) : Prop := ∃ cur : Array Value, w.heap[g]? = some (.cells cur 2 (0, 0)) ∧ cur.size = cap * 1 ∧ ∀ j, j < dk.size → cur[j]? = some (.int .i64 dk[j]!)
theorem below_cells (w : World) (g : Nat) (hg : w.heap.size ≤ g) : ∀ (vs : List Value) (o : Nat) (W : World), Below w.heap.size w W → Below w.heap.size w (W.setCells g o vs)
  | [], _, _, h => h
  | v :: r, o, _, h => below_cells w g hg r (o + 1) _ (below_set h hg)
theorem row_setCells (g : Nat) : ∀ (vs : List Value) (o : Nat) (w : World) (cur : Array Value), w.heap[g]? = some (.cells cur 2 (0, 0)) → ∃ cur', (w.setCells g o vs).heap[g]? = some (.cells cur' 2 (0, 0)) ∧ cur'.size = cur.size ∧ ∀ j, j < o → cur'[j]? = cur[j]?
  | [], o, w, cur, h => ⟨cur, h, rfl, fun _ _ => rfl⟩
  | v :: vs, o, w, cur, h => by
    obtain ⟨cur', h1, h2, h3⟩ := row_setCells g vs (o + 1) (w.setCell ⟨g, o, none⟩ v) (cur.setIfInBounds o v) (blk_put h o v rfl)
    refine ⟨cur', h1, by rw [h2, Array.size_setIfInBounds], fun j hj => ?_⟩
    rw [h3 j (by omega), Array.getElem?_setIfInBounds_ne (by omega)]
set_option maxHeartbeats 8000000 in
set_option maxRecDepth 100000 in
theorem del_calls (p : Int → Bool) (gg : Nat) (lb : Array Value) (eg : ∀ args w, (callFunc gg args).run Tryd.prog w = .ok (.enter gg args) w) (w1 : World) (g off cap : Nat) (hoff : off = 0) (d : Array Int) (w : World) (hB : Below w1.heap.size w1 w) (hg : w1.heap.size ≤ g) (hd : d.size ≤ 1000000) (hcap : d.size ≤ cap)
    (hrow : rowAt w g cap d) (hr : Kd.C (Kd.int .i64) w (some ⟨g, off, none⟩) d.toList.length d.toList)
    (hp : ∀ (W : World) (x : Int), Below w1.heap.size w1 W → Calls Tryd.prog gg (#[.int .i64 x] ++ lb) W fun e w' => e = .returned (.bool (p x)) ∧ Below W.heap.size W w') (hn : d.toList.any p = true) :
    Calls Tryd.prog 101 #[.slice (some ⟨g, off, none⟩) d.size cap, .func (.func gg) #[] lb] w fun e w' => e = .returned (.slice (some ⟨g, off, none⟩) (d.toList.filter fun x => !p x).length cap) ∧ (∃ cur : Array Value, w'.heap[g]? = some (.cells cur 2 (0, 0)) ∧ cur.size = cap * 1 ∧ cur.toList.take (d.toList.filter fun x => !p x).length = (d.toList.filter fun x => !p x).map (Value.int .i64)) ∧ Below w1.heap.size w1 w' := by
  have hI := ends_idx p gg lb eg (some ⟨g, off, none⟩) cap d.toList w1 w hB hr hp
  rw [Array.length_toList] at hI
  obtain ⟨xx, hxx, hpx⟩ := List.any_eq_true.1 hn
  have hk0 : d.toList.findIdx p < d.toList.length := List.findIdx_lt_length_of_exists ⟨xx, hxx, hpx⟩
  rw [show idxI64_v p d.toList = ((d.toList.findIdx p : Nat) : Int) by unfold idxI64_v; rw [hn]; rfl] at hI
  obtain ⟨kp, HK⟩ : ∃ kp : Nat → Bool, Aside0 (kp = fun j => !p d[j]!) := ⟨_, ⟨rfl⟩⟩
  have hfil : (d.toList.filter fun x => !p x) = Go.Lib.keptUpTo kp d d.size := by rw [HK.out]; exact (Go.Lib.keptUpTo_filter (fun x => !p x) d).symm
  rw [hfil]
  have tl : ∀ j (hj : j < d.size), d[j]! = d.toList[j]'(by simpa using hj) := fun j hj => by rw [getElem!_pos d j hj]; simp
  have hk1 : d.toList.findIdx p < d.size := by simpa using hk0
  have hkeep : ∀ j, j < d.toList.findIdx p → kp j = true := fun j hj => by
    rw [HK.out]
    show (!p d[j]!) = true
    rw [tl j (by omega)]
    have := List.not_of_lt_findIdx hj
    simpa using this
  have hdrop : kp (d.toList.findIdx p) = false := by
    rw [HK.out]
    show (!p d[d.toList.findIdx p]!) = false
    rw [tl _ hk1, List.findIdx_getElem (w := hk0)]
    rfl
  have hstart := Go.Lib.KeptInv.start (d := d) hkeep hdrop
  generalize d.toList.findIdx p = k0 at hI hstart hk1
  have hne1 : ((k0 : Int) == -1) = false := beq_eq_false_iff_ne.2 (by omega)
  have HS := Aside0.mk hstart
  have HO := Aside0.mk hoff
  clear hoff
  have HB := Aside0.mk hB
  have HP := Aside0.mk hp
  have HR := Aside0.mk hrow
  have HG := Aside0.mk hg
  clear hstart hB hp hrow hr hkeep hdrop tl hk0 hn hfil hxx hpx hg
  go_enter Tryd.func101, Tryd.ntmps101
  go_wp2_with (go_at_call 154; refine hI.mono ?_; rintro e w2 ⟨rfl, hb⟩; have HB2 := Aside0.mk (below_step HB.out hb); have HR2 : Aside0 (rowAt w2 g cap d) := ⟨(by obtain ⟨cur, q1, q2, q3⟩ := HR.out; exact ⟨cur, blk_below q1 hb, q2, q3⟩)⟩; clear hb HB HR)
  go_loopg [5, 6, 7] d.size (fun gk s5 s6 _ wr => ∃ (i j : Nat) (dk : Array Int), s5 = .int .i64 i ∧ s6 = .int .i64 j ∧ j ≤ d.size ∧ d.size - j ≤ gk ∧ Aside0 (Below w1.heap.size w1 wr) ∧ Aside0 (rowAt wr g cap dk) ∧ Aside0 (Go.Lib.KeptInv kp d j i dk))
  case atStart => exact ⟨k0, k0 + 1, d, rfl, by first | rfl | go_num, by omega, by omega, HB2, HR2, HS⟩
  case round =>
    obtain ⟨i, j, dk, rfl, rfl, hjd, hgg, HBW, HRW, HI⟩ := hrel
    have hij := HI.out.lt
    have hds := HI.out.size
    obtain ⟨cur, hh, hsz, hat⟩ := HRW.out
    have HH := Aside0.mk hh
    by_cases hlt : j < d.size
    · have hltz : (j : Int) < (d.size : Int) := by omega
      have c19 : decide ((j : Int) < (d.size : Int)) = true := decide_eq_true hltz
      have hj! : dk[j]! = d[j]! := HI.out.high j (by omega)
      have cj : wr.cell? ⟨g, off + j, none⟩ = some (.int .i64 d[j]!) := by rw [blk_cell hh, HO.out, Nat.zero_add, hat j (by omega), hj!]
      have hcall := HP.out wr d[j]! HBW.out
      have HD := Aside0.mk hat
      have HZ := Aside0.mk hsz
      clear hat hh hj! hsz
      generalize hu : d[j]! = u at cj hcall
      have HU := Aside0.mk hu
      clear hu
      cases hq : p u with
      | false =>
        rw [hq] at hcall
        have HQ := Aside0.mk hq
        clear hq
        go_wp2_with (go_at_fn gg; refine hcall.mono ?_; rintro e w3 ⟨rfl, hb⟩; have HB3 := Aside0.mk (below_step HBW.out hb); have HH3 := Aside0.mk (blk_below HH.out hb); have ci : w3.cell? ⟨g, off + i, none⟩ = some (.int .i64 dk[i]!) := (by rw [blk_cell HH3.out, HO.out, Nat.zero_add, HD.out i (by omega)]); have fi : w3.frozen? ⟨g, off + i, none⟩ = false := blk_frozen HH3.out _; clear hb)
        go_roundg (d.size - (j + 1))
        case measure => omega
        case rel =>
          refine ⟨i + 1, j + 1, dk.setIfInBounds i u, by first | rfl | go_num, by first | rfl | go_num, by omega, Nat.le_refl _, ⟨below_set HB3.out HG.out⟩, ⟨⟨_, blk_put HH3.out (off + i) _ rfl, by rw [Array.size_setIfInBounds]; exact HZ.out, fun t ht => ?_⟩⟩, ⟨?_⟩⟩
          · rw [Array.size_setIfInBounds] at ht
            rw [HO.out, Nat.zero_add]
            by_cases e : i = t
            · subst e
              have hci : i < cur.size := by rw [HZ.out]; omega
              rw [Array.getElem?_setIfInBounds_self_of_lt hci, getElem!_pos (dk.setIfInBounds i u) i (by rw [Array.size_setIfInBounds]; exact ht), Array.getElem_setIfInBounds_self]
            · rw [Array.getElem?_setIfInBounds_ne e, HD.out t ht, getElem!_pos (dk.setIfInBounds i u) t (by rw [Array.size_setIfInBounds]; exact ht), Array.getElem_setIfInBounds_ne ht e, getElem!_pos dk t ht]
          · have h2 := HI.out.keep hlt (by rw [HK.out]; show (!p d[j]!) = true; rw [HU.out, HQ.out]; rfl)
            rwa [HU.out] at h2
      | true =>
        rw [hq] at hcall
        have HQ := Aside0.mk hq
        clear hq
        go_wp2_with (go_at_fn gg; refine hcall.mono ?_; rintro e w3 ⟨rfl, hb⟩; have HB3 := Aside0.mk (below_step HBW.out hb); have HH3 := Aside0.mk (blk_below HH.out hb); clear hb)
        go_roundg (d.size - (j + 1))
        case measure => omega
        case rel => exact ⟨i, j + 1, dk, rfl, by first | rfl | go_num, by omega, Nat.le_refl _, HB3, ⟨⟨cur, HH3.out, HZ.out, HD.out⟩⟩, ⟨HI.out.skip (by rw [HK.out]; show (!p d[j]!) = false; rw [HU.out, HQ.out]; rfl)⟩⟩
    · obtain rfl : j = d.size := by omega
      have c19 : decide ((d.size : Int) < (d.size : Int)) = false := decide_eq_false (by omega)
      have hltz : ¬ (d.size : Int) < (d.size : Int) := by omega
      have hcl : ∀ ty, (Builtin.clear_ #[56] ty #[.slice (some ⟨g, off + i, none⟩) (d.size - i) (cap - i)]).run Tryd.prog wr = .ok (.tuple #[]) (wr.setCells g (off + i) (List.replicate (d.size - i) (.int .i64 0))) :=
        fun ty => Go.Lib.run_clear_slice wr _ _ ty _ Tryd.underlying56 (fun w => Tryd.zeroValue2 w) rfl rfl g (off + i) _ _ (by omega) (fun t ht => by rw [show off + i + t = i + t by have := HO.out; omega, blk_cell hh, hat (i + t) (by omega)]; rfl) (fun t ht => blk_frozen hh _)
      have HD := Aside0.mk hat
      have HZ := Aside0.mk hsz
      clear hat hsz hh
      go_wp2
      go_ret
      obtain ⟨cur', q1, q2, q3⟩ := row_setCells g (List.replicate (d.size - i) (.int .i64 0)) (off + i) wr cur HH.out
      refine ⟨by rw [HI.out.len]; rfl, ⟨cur', q1, by rw [q2]; have h := HZ.out; omega, ?_⟩, below_cells _ g HG.out _ _ _ HBW.out⟩
      apply List.ext_getElem?
      intro t
      rw [HI.out.len]
      rcases Nat.lt_or_ge t i with ht | ht
      · rw [List.getElem?_take_of_lt ht, Array.getElem?_toList, q3 t (by have := HO.out; omega), HD.out t (by omega), List.getElem?_map, HI.out.low t ht]
        rfl
      · rw [List.getElem?_take_eq_none (by omega), List.getElem?_eq_none (by rw [List.length_map, HI.out.len]; exact ht)]
def impl_EndsOfFigure.f (k : Nat) (l0 : List S49) (l1 : List S103) : Option (List Int × Int) := (impl_ValidFigure.f k l0 l1).bind fun t => (if t = true then ((impl_starsOf.f k l1).bind fun s => (if s.length ≤ 1000000 then some (s.filter (fun x => !endsBad l1 x), 0) else none)) else (some (([] : List Int), 1)))
theorem impl_EndsOfFigure.mono : ∀ a0 a1 k, LeO (impl_EndsOfFigure.f k a0 a1) (impl_EndsOfFigure.f (k + 1) a0 a1) := by
  intro a0 a1 k
  unfold impl_EndsOfFigure.f
  repeat' first
      | exact impl_ValidFigure.mono _ _ _
      | exact impl_starsOf.mono _ _
      | (with_reducible exact LeO.refl _)
      | (with_reducible refine LeO.ite ?_ ?_)
      | (with_reducible refine LeO.bind ?_ (fun _ => ?_))
      | exact LeO.refl _
      | refine LeO.ite ?_ ?_
      | refine LeO.bind ?_ (fun _ => ?_)
theorem ends_del (m : List S103) (Al : Option Addr) (cl : Nat) (box : Addr) (w1 w : World) (v : Value) (s : List Int) (hs : s.length ≤ 1000000) (hc : w1.cell? box = some (.slice Al m.length cl)) (hr : Kd.C k103 w1 Al m.length m) (hcl : m.length ≤ cl) (hB : Below w1.heap.size w1 w) (hR : Kd.R (Kd.int .i64) 2 w w1.heap.size (fun _ => True) v s) :
    Calls Tryd.prog 101 #[v, .func (.func 102) #[] #[.pointer (some box)]] w fun e w' => ∃ v0, e = .returned v0 ∧ Kd.R (Kd.int .i64) 2 w' w1.heap.size (fun _ => True) v0 (s.filter (fun x => !endsBad m x)) ∧ Below w1.heap.size w1 w' := by
  have hp := fun (W : World) (x : Int) (hb : Below w1.heap.size w1 W) => endsBad_calls m Al cl box w1 W x hc hr hcl hb
  have eg : ∀ args w, (callFunc 102 args).run Tryd.prog w = .ok (.enter 102 args) w := enters_of Tryd.func102 (by kernel_rfl) rfl
  cases ha : s.any (endsBad m) with
  | false =>
    obtain ⟨A1, c1, rfl⟩ := Kd.R_slice hR
    refine (del_none (endsBad m) 102 #[.pointer (some box)] eg A1 c1 s w1 w hB (Kd.R_reads' hR).2.2 hp ha).mono ?_
    rintro e w' ⟨rfl, hb⟩
    have hf : s.filter (fun x => !endsBad m x) = s := by
      rw [List.filter_eq_self]
      intro x hx
      have := List.any_eq_false.1 ha x hx
      simpa using this
    exact ⟨_, rfl, by rw [hf]; exact Kd.R_below hR hb, below_step hB hb⟩
  | true =>
    have hpos : 0 < s.length := by
      cases s with
      | nil => simp at ha
      | cons a s => simp
    obtain ⟨g, cap, rfl, hgb, hgl, cells, hcell⟩ := Kd.R_form hR hpos
    have ho := Kd.own_of_R (enc := Value.int .i64) (h1 := fun _ => rfl) hR
    rcases ho.2 with ⟨h0, _⟩ | ⟨g', cap', cur, hv, hgb2, hh, hn, hcap, hsz, ht⟩
    · cases h0
    cases hv
    have ht' : cur.toList.take s.length = s.map (Value.int .i64) := by simpa [encs] using ht
    have hrow : rowAt w g cap s.toArray := ⟨cur, hh, hsz, fun j hj => by
      have hj' : j < s.length := by simpa using hj
      have e1 : (cur.toList.take s.length)[j]? = (s.map (Value.int .i64))[j]? := by rw [ht']
      rw [List.getElem?_take_of_lt hj', Array.getElem?_toList, List.getElem?_map, List.getElem?_eq_getElem hj'] at e1
      rw [e1, getElem!_pos s.toArray j hj]
      simp⟩
    have h := del_calls (endsBad m) 102 #[.pointer (some box)] eg w1 g 0 cap rfl s.toArray w hB hgb (by simpa using hs) (by simpa using hn) hrow (by simpa using (Kd.R_reads' hR).2.2) hp (by simpa using ha)
    rw [show s.toArray.size = s.length by simp, show s.toArray.toList = s by simp] at h
    refine h.mono ?_
    rintro e w' ⟨rfl, ⟨cur', q1, q2, q3⟩, hb⟩
    have hfl : (s.filter (fun x => !endsBad m x)).length ≤ s.length := List.length_filter_le _ _
    exact ⟨_, rfl, Kd.R_of_own (enc := Value.int .i64) (h1 := fun _ => rfl) ⟨by simp [encs], .inr ⟨g, cap, cur', rfl, hgb, q1, by omega, hcap, q2, by simpa [encs] using q3⟩⟩ (fun _ _ => trivial), hb⟩
set_option maxHeartbeats 8000000 in
set_option maxRecDepth 100000 in
theorem impl_EndsOfFigure.calls (k : Nat) (A0 : Option Addr) (c0 : Nat) (l0 : List S49) (A1 : Option Addr) (c1 : Nat) (l1 : List S103) (r1 : List Int) (r2 : Int) (w : World) (hr0 : Kd.C k49 w A0 l0.length l0) (hc0 : l0.length ≤ c0) (hr1 : Kd.C k103 w A1 l1.length l1) (hc1 : l1.length ≤ c1) (h : impl_EndsOfFigure.f k l0 l1 = some (r1, r2)) :
    Calls Tryd.prog 46 #[.slice A0 l0.length c0, .slice A1 l1.length c1] w fun e w' => ∃ v0_ : Value, e = .returned (.tuple #[v0_, .int .i64 r2]) ∧ Kd.R (Kd.int .i64) 2 w' w.heap.size (fun _ => True) v0_ r1 ∧ Below w.heap.size w w' := by
  unfold impl_EndsOfFigure.f at h
  obtain ⟨t, e1, h⟩ := Option.bind_eq_some_iff.1 h
  have E1 := Aside0.mk e1
  have HR0 := Aside0.mk hr0
  have HC0 := Aside0.mk hc0
  have HR1 := Aside0.mk hr1
  have HC1 := Aside0.mk hc1
  have HB := Aside0.mk (Below.refl w.heap.size w)
  clear e1 hr0 hc0 hr1 hc1
  cases t with
  | false =>
    have h2 : (some (([] : List Int), (1 : Int))) = some (r1, r2) := h
    obtain ⟨rfl, rfl⟩ := Prod.mk.inj (Option.some.inj h2)
    clear h h2
    go_enter Tryd.func46, Tryd.ntmps46
    go_wp2_with (first | ((with_reducible refine gate_dst (N := 3) rfl ?_); refine box_event ?hg (N := 3) ?hd (cs := #[.slice A1 l1.length c1]) (t := 31) ?hr ?_; (case hd => rfl); (case hg => rfl); (case hr => first | (go_simp; done) | (go_simp; rfl)); intro gb hg w1 hbox hb; have n0_ := Aside0.mk (below_step HB.out hb); have n1_ := Aside0.mk (hbox); have hcz : w1.cell? ⟨gb, 0, none⟩ = some (.slice A1 l1.length c1) := ((blk_cell hbox 0).trans rfl); clear HB; have HB := n0_; have BK := n1_; clear n0_ n1_; clear hb hbox hg) | (go_at_call 84; refine (impl_ValidFigure.calls k _ _ l0 _ _ l1 false _ (Kd.C_below HR0.out HB.out) HC0.out (Kd.C_below HR1.out HB.out) HC1.out E1.out).mono ?_; rintro e w2 ⟨rfl, hb⟩; have n_ := Aside0.mk (below_step HB.out hb); clear HB; have HB := n_; clear n_ hb))
    go_ret2
    exact ⟨_, rfl, Kd.R_nil _ _ _ _ _, HB.out⟩
  | true =>
    obtain ⟨s, e2, h⟩ := Option.bind_eq_some_iff.1 (show ((impl_starsOf.f k l1).bind fun s => (if s.length ≤ 1000000 then some (s.filter (fun x => !endsBad l1 x), (0 : Int)) else none)) = some (r1, r2) from h)
    have E2 := Aside0.mk e2
    clear e2
    by_cases hs : s.length ≤ 1000000
    · rw [if_pos hs] at h
      obtain ⟨rfl, rfl⟩ := Prod.mk.inj (Option.some.inj h)
      clear h
      go_enter Tryd.func46, Tryd.ntmps46
      go_wp2_with (first | ((with_reducible refine gate_dst (N := 3) rfl ?_); refine box_event ?hg (N := 3) ?hd (cs := #[.slice A1 l1.length c1]) (t := 31) ?hr ?_; (case hd => rfl); (case hg => rfl); (case hr => first | (go_simp; done) | (go_simp; rfl)); intro gb hg w1 hbox hb; have n0_ := Aside0.mk (below_step HB.out hb); have n1_ := Aside0.mk (hbox); have hcz : w1.cell? ⟨gb, 0, none⟩ = some (.slice A1 l1.length c1) := ((blk_cell hbox 0).trans rfl); clear HB; have HB := n0_; have BK := n1_; clear n0_ n1_; clear hb hbox hg) | (go_at_call 84; refine (impl_ValidFigure.calls k _ _ l0 _ _ l1 true _ (Kd.C_below HR0.out HB.out) HC0.out (Kd.C_below HR1.out HB.out) HC1.out E1.out).mono ?_; rintro e w2 ⟨rfl, hb⟩; have HW2 := Aside0.mk (below_step HB.out hb); have hc2 : w2.cell? ⟨gb, 0, none⟩ = some (.slice A1 l1.length c1) := ((blk_cell (blk_below BK.out hb) 0).trans rfl); clear hb) | (go_at_call 96; refine (impl_starsOf.calls k _ _ l1 s _ (Kd.C_below HR1.out HW2.out) HC1.out E2.out).mono ?_; rintro e w3 ⟨v3, rfl, hR3, hb3⟩; have HR3 := Aside0.mk hR3; have HB3 := Aside0.mk hb3; clear hR3 hb3) | (go_at_call 101; refine (ends_del l1 A1 c1 ⟨gb, 0, none⟩ w2 w3 v3 s hs hc2 (Kd.C_below HR1.out HW2.out) HC1.out HB3.out HR3.out).mono ?_; rintro e w4 ⟨v4, rfl, hR4, hb4⟩; have HR4 := Aside0.mk hR4; have HB4 := Aside0.mk hb4; clear hR4 hb4))
      go_ret2
      exact ⟨_, rfl, Kd.R_lower HR4.out HW2.out.size, below_step HW2.out HB4.out⟩
    · rw [if_neg hs] at h
      cases h


end Go.Proofs.YtgeeojchgfomjaaDoor.PFnExactEndsOfFigure
