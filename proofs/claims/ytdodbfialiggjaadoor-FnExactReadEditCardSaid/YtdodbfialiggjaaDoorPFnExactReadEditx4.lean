-- Made by a program of this session (gprint.py) out of the kit's print of the translation and texts of my own.
import Derived.Test.YtdodbfialiggjaaDoorPFnExactReadEditx0
namespace Go.Proofs.YtdodbfialiggjaaDoor.PFnExactReadEdit
open Go.RowKit Go.Proofs.YtdodbfialiggjaaDoorW.PrintWords Go.Proofs.YtdodbfialiggjaaDoorW.PrintLast Go.Proofs.YtdodbfialiggjaaDoorW.PrintMore
attribute [local go_sem] max2_int min2_int max_two min_two max_three min_three max_four min_four   -- for this text's walks alone
set_option linter.unusedVariables false
set_option linter.unusedSimpArgs false

/-! ### strconv_FormatInt: function 79 -/
-- given by hand
def layFmt_ren : Go.Shelf.Ren := ⟨(fun | 173 => 79 | 246 => 104 | 283 => 135 | 284 => 136 | 285 => 137 | 286 => 138 | 129 => 130 | 317 => 160 | 318 => 161 | 319 => 162 | 320 => 163 | 337 => 178 | 338 => 179 | n => n), (fun | 2 => 2 | 3 => 3 | 9 => 9 | 4 => 4 | 171 => 148 | 0 => 0 | 53 => 145 | 37 => 76 | 5 => 5 | 173 => 150 | 212 => 171 | 51 => 143 | 20 => 20 | 213 => 172 | 46 => 102 | 232 => 195 | 233 => 196 | n => n), (fun | 17 => 0 | 18 => 6 | 19 => 7 | n => n)⟩
set_option maxRecDepth 1000000 in
theorem layFmt : Go.Proofs.Lays.n173 Tryd.prog layFmt_ren := { mixed := by kernel_rfl, f129 := Tryd.func130.trans (congrArg some (by kernel_rfl)), f173 := Tryd.func79.trans (congrArg some (by kernel_rfl)), f246 := Tryd.func104.trans (congrArg some (by kernel_rfl)), f283 := Tryd.func135.trans (congrArg some (by kernel_rfl)), f284 := Tryd.func136.trans (congrArg some (by kernel_rfl)), f285 := Tryd.func137.trans (congrArg some (by kernel_rfl)), f286 := Tryd.func138.trans (congrArg some (by kernel_rfl)), f317 := Tryd.func160.trans (congrArg some (by kernel_rfl)), f318 := Tryd.func161.trans (congrArg some (by kernel_rfl)), f319 := Tryd.func162.trans (congrArg some (by kernel_rfl)), f320 := Tryd.func163.trans (congrArg some (by kernel_rfl)), f337 := Tryd.func178.trans (congrArg some (by kernel_rfl)), f338 := Tryd.func179.trans (congrArg some (by kernel_rfl)), t0 := Tryd.underlying0, a0 := Tryd.isAgg0, z0 := Tryd.sizeOf0, v0 := Tryd.zeroValue0, t2 := Tryd.underlying2, a2 := Tryd.isAgg2, z2 := Tryd.sizeOf2, v2 := Tryd.zeroValue2, t3 := Tryd.underlying3, a3 := Tryd.isAgg3, z3 := Tryd.sizeOf3, v3 := Tryd.zeroValue3, t4 := Tryd.underlying4, a4 := Tryd.isAgg4, z4 := Tryd.sizeOf4, v4 := Tryd.zeroValue4, t5 := Tryd.underlying5, a5 := Tryd.isAgg5, z5 := Tryd.sizeOf5, v5 := Tryd.zeroValue5, t9 := Tryd.underlying9, a9 := Tryd.isAgg9, z9 := Tryd.sizeOf9, v9 := Tryd.zeroValue9, t20 := Tryd.underlying20, a20 := Tryd.isAgg20, z20 := Tryd.sizeOf20, v20 := Tryd.zeroValue20, t37 := Tryd.underlying76, a37 := Tryd.isAgg76, z37 := Tryd.sizeOf76, v37 := Tryd.zeroValue76, t46 := Tryd.underlying102, a46 := Tryd.isAgg102, z46 := Tryd.sizeOf102, v46 := Tryd.zeroValue102, t51 := Tryd.underlying143, a51 := Tryd.isAgg143, z51 := Tryd.sizeOf143, v51 := Tryd.zeroValue143, t53 := Tryd.underlying145, a53 := Tryd.isAgg145, z53 := Tryd.sizeOf145, v53 := Tryd.zeroValue145, t171 := Tryd.underlying148, a171 := Tryd.isAgg148, z171 := Tryd.sizeOf148, v171 := Tryd.zeroValue148, t173 := Tryd.underlying150, a173 := Tryd.isAgg150, z173 := Tryd.sizeOf150, v173 := Tryd.zeroValue150, t212 := Tryd.underlying171, a212 := Tryd.isAgg171, z212 := Tryd.sizeOf171, v212 := Tryd.zeroValue171, t213 := Tryd.underlying172, a213 := Tryd.isAgg172, z213 := Tryd.sizeOf172, t232 := Tryd.underlying195, a232 := Tryd.isAgg195, z232 := Tryd.sizeOf195, v232 := Tryd.zeroValue195, t233 := Tryd.underlying196, a233 := Tryd.isAgg196, z233 := Tryd.sizeOf196, v233 := Tryd.zeroValue196, g17 := by kernel_rfl, g18 := by kernel_rfl, g19 := by kernel_rfl }
set_option maxRecDepth 1000000 in
theorem layFmtM : Go.Proofs.LaysM.n173 Tryd.prog layFmt_ren := { layFmt with i0 := by kernel_rfl, i2 := by kernel_rfl, i3 := by kernel_rfl, i4 := by kernel_rfl, i5 := by kernel_rfl, i9 := by kernel_rfl, i20 := by kernel_rfl, i37 := by kernel_rfl, i46 := by kernel_rfl, i51 := by kernel_rfl, i53 := by kernel_rfl, i171 := by kernel_rfl, i173 := by kernel_rfl, i212 := by kernel_rfl, i232 := by kernel_rfl, i233 := by kernel_rfl, m17 := by kernel_rfl, m18 := by kernel_rfl, m19 := by kernel_rfl }

/-- The library's table of the powers of ten lies in this world. -/
def TabW (w : World) : Prop := Go.Lib.TabIs Tryd.prog w "internal/strconv.uint64pow10" .u64 Go.Lib.pow10Tab
theorem TabW.below {w w' : World} (h : TabW w) (hb : Below w.heap.size w w') : TabW w' := by
  unfold TabW Go.Lib.TabIs World.var? at h ⊢
  cases hg : Tryd.prog.globalNamed "internal/strconv.uint64pow10" with
  | none => rw [hg] at h; cases h
  | some g =>
    rw [hg] at h
    simp only [Option.bind_some] at h ⊢
    have hlt : g < w.heap.size := by
      rcases Nat.lt_or_ge g w.heap.size with h' | h'
      · exact h'
      · rw [Array.getElem?_eq_none h'] at h; cases h
    rw [hb.block g hlt]
    exact h
/-- internal/bytealg.MaxLen holds some int. -/
def MaxW (w : World) : Prop := ∃ m, w.cell? ⟨1, 0, none⟩ = some (.int .i64 m)
theorem MaxW.below {w w' : World} (h : MaxW w) (hb : Below w.heap.size w w') : MaxW w' := by
  obtain ⟨m, hm⟩ := h
  exact ⟨m, (hb.cell (World.block_lt_of_cell? w _ hm)).trans hm⟩
theorem MaxW.shaped {w : World} (h : w.ShapedOpen Tryd.prog) : MaxW w :=
  Go.Proofs.cell_of_shapedOpen_int (zero := #[.int .i64 0]) (t := 3) h (of_decide_eq_true (by kernel_rfl)) (by kernel_rfl) rfl (by kernel_rfl) (by kernel_rfl) Tryd.underlying3
/-- strconv.ErrSyntax and strconv.ErrRange hold some errors. -/
def ErrAt (w : World) (g : Nat) : Prop := ∃ tp p, w.cell? ⟨g, 0, none⟩ = some (.iface tp p)
theorem ErrAt.below {w w' : World} {g : Nat} (h : ErrAt w g) (hb : Below w.heap.size w w') : ErrAt w' g := by
  obtain ⟨tp, p, hm⟩ := h
  exact ⟨tp, p, (hb.cell (World.block_lt_of_cell? w _ hm)).trans hm⟩
def LibW (w : World) : Prop := TabW w ∧ MaxW w ∧ ErrAt w 4 ∧ ErrAt w 5
theorem LibW.below {w w' : World} (h : LibW w) (hb : Below w.heap.size w w') : LibW w' := ⟨h.1.below hb, h.2.1.below hb, h.2.2.1.below hb, h.2.2.2.below hb⟩
def strconv_FormatInt.f (a0 a1 : Int) : Option ByteArray := if a1 = 10 ∧ -9223372036854775808 ≤ a0 ∧ a0 ≤ 9223372036854775807 then some ⟨(Go.Lib.itoa a0).toArray⟩ else none
theorem strconv_FormatInt.calls (a0 : Int) (a1 : Int) (r : ByteArray) (w : World) (h : strconv_FormatInt.f a0 a1 = some r) (hL : LibW w) :
    Calls Tryd.prog 79 #[.int .i64 a0, .int .i64 a1] w fun e w' => e = .returned (.string r) ∧ Below w.heap.size w w' := by
  unfold strconv_FormatInt.f at h
  split at h
  · rename_i hc
    obtain rfl := Option.some.inj h
    obtain ⟨rfl, h0, h1⟩ := hc
    refine (Go.Proofs.Any.strconv_FormatInt_10 layFmtM a0 h0 h1 w hL.1).mono ?_
    rintro e w' ⟨rfl, k, os, rfl⟩
    exact ⟨rfl, Go.Lib.below_grow _ w (Nat.le_refl _) k os⟩
  · cases h


/-! ### strings_Split: function 66 -/
-- given by hand
def laySplit_ren : Go.Shelf.Ren := ⟨(fun | 146 => 66 | 221 => 96 | 268 => 131 | 138 => 107 | 143 => 109 | 195 => 140 | 197 => 111 | 218 => 141 | 219 => 144 | 260 => 145 | 217 => 166 | 225 => 167 | 224 => 168 | 267 => 169 | 266 => 180 | 314 => 181 | n => n), (fun | 9 => 9 | 31 => 42 | 3 => 3 | 4 => 4 | 0 => 0 | 105 => 124 | 21 => 21 | 5 => 5 | 46 => 102 | 119 => 177 | 139 => 180 | 138 => 179 | 146 => 189 | 51 => 143 | n => n), (fun | 1 => 1 | 3 => 2 | 4 => 3 | n => n)⟩
set_option maxRecDepth 1000000 in
theorem laySplit : Go.Proofs.Lays.n146 Tryd.prog laySplit_ren := { mixed := by kernel_rfl, f138 := Tryd.func107.trans (congrArg some (by kernel_rfl)), f143 := Tryd.func109.trans (congrArg some (by kernel_rfl)), f146 := Tryd.func66.trans (congrArg some (by kernel_rfl)), f195 := Tryd.func140.trans (congrArg some (by kernel_rfl)), f197 := Tryd.func111.trans (congrArg some (by kernel_rfl)), f217 := Tryd.func166.trans (congrArg some (by kernel_rfl)), f218 := Tryd.func141.trans (congrArg some (by kernel_rfl)), f219 := Tryd.func144.trans (congrArg some (by kernel_rfl)), f221 := Tryd.func96.trans (congrArg some (by kernel_rfl)), f224 := Tryd.func168.trans (congrArg some (by kernel_rfl)), f225 := Tryd.func167.trans (congrArg some (by kernel_rfl)), f260 := Tryd.func145.trans (congrArg some (by kernel_rfl)), f266 := Tryd.func180.trans (congrArg some (by kernel_rfl)), f267 := Tryd.func169.trans (congrArg some (by kernel_rfl)), f268 := Tryd.func131.trans (congrArg some (by kernel_rfl)), f314 := Tryd.func181.trans (congrArg some (by kernel_rfl)), t0 := Tryd.underlying0, a0 := Tryd.isAgg0, z0 := Tryd.sizeOf0, v0 := Tryd.zeroValue0, t3 := Tryd.underlying3, a3 := Tryd.isAgg3, z3 := Tryd.sizeOf3, v3 := Tryd.zeroValue3, t4 := Tryd.underlying4, a4 := Tryd.isAgg4, z4 := Tryd.sizeOf4, v4 := Tryd.zeroValue4, t5 := Tryd.underlying5, a5 := Tryd.isAgg5, z5 := Tryd.sizeOf5, v5 := Tryd.zeroValue5, t9 := Tryd.underlying9, a9 := Tryd.isAgg9, z9 := Tryd.sizeOf9, v9 := Tryd.zeroValue9, t21 := Tryd.underlying21, a21 := Tryd.isAgg21, z21 := Tryd.sizeOf21, v21 := Tryd.zeroValue21, t31 := Tryd.underlying42, a31 := Tryd.isAgg42, z31 := Tryd.sizeOf42, v31 := Tryd.zeroValue42, t46 := Tryd.underlying102, a46 := Tryd.isAgg102, z46 := Tryd.sizeOf102, v46 := Tryd.zeroValue102, t51 := Tryd.underlying143, a51 := Tryd.isAgg143, z51 := Tryd.sizeOf143, v51 := Tryd.zeroValue143, t105 := Tryd.underlying124, a105 := Tryd.isAgg124, z105 := Tryd.sizeOf124, v105 := Tryd.zeroValue124, t119 := Tryd.underlying177, a119 := Tryd.isAgg177, z119 := Tryd.sizeOf177, t138 := Tryd.underlying179, a138 := Tryd.isAgg179, z138 := Tryd.sizeOf179, v138 := Tryd.zeroValue179, t139 := Tryd.underlying180, a139 := Tryd.isAgg180, z139 := Tryd.sizeOf180, v139 := Tryd.zeroValue180, t146 := Tryd.underlying189, a146 := Tryd.isAgg189, z146 := Tryd.sizeOf189, v146 := Tryd.zeroValue189, g1 := by kernel_rfl, g3 := by kernel_rfl, g4 := by kernel_rfl }

def strings_Split.f (a0 a1 : ByteArray) : Option (List ByteArray) := if a0.size < 4294967281 ∧ 1 ≤ a1.size then some (Go.Lib.splitB a1 0 (Go.Lib.countB a0 a1) a0) else none
theorem strings_Split.calls (a0 a1 : ByteArray) (r : List ByteArray) (w : World) (h : strings_Split.f a0 a1 = some r) (hL : LibW w) :
    Calls Tryd.prog 66 #[.string a0, .string a1] w fun e w' => ∃ v0_ : Value, e = .returned (v0_) ∧ Kd.R Kd.string 9 w' w.heap.size (fun _ => True) v0_ r ∧ Below w.heap.size w w' := by
  unfold strings_Split.f at h
  split at h
  · rename_i hc
    obtain rfl := Option.some.inj h
    obtain ⟨h0, h1⟩ := hc
    obtain ⟨m, hm⟩ := hL.2.1
    refine (Go.Proofs.Any.strings_Split laySplit (by kernel_rfl) a0 a1 m w h0 hm h1).mono ?_
    have hlen := Go.Lib.splitB_all a1 h1 0 _ a0 rfl
    have hcb := Go.Lib.countB_le a1 h1 a0.size a0 (Nat.le_refl _)
    generalize Go.Lib.splitB a1 0 (Go.Lib.countB a0 a1) a0 = xs at hlen
    rw [← hlen]
    rintro e w' ⟨rfl, rfl⟩
    refine ⟨_, rfl, Kd.R_of_own (enc := Value.string) (h1 := fun _ => rfl) ?_ (fun _ _ => trivial), below_alloc (Below.refl _ _) _⟩
    have h2 := World.ownsRow_lit (base := w.heap.size) (e := 9) (size := 1) w (xs.map Value.string).toArray xs.length (Nat.le_refl _) (by unfold maxLen; omega) (by simp)
    change (w.alloc (.cells (xs.map Value.string).toArray 9)).ownsRow w.heap.size 9 1 _ xs.length (encs Value.string xs)
    simpa [encs] using h2
  · cases h


/-! ### impl_Decimal: function 36 -/
def impl_Decimal.f (a0 : Int) : Option (ByteArray) := (strconv_FormatInt.f a0 10).bind fun t150 => (some t150)
set_option maxHeartbeats 8000000 in
set_option maxRecDepth 100000 in
theorem impl_Decimal.calls (a0 : Int) (r : ByteArray) (w : World) (h : impl_Decimal.f a0 = some r) (hLibW : LibW w) :
    Calls Tryd.prog 36 #[.int .i64 a0] w fun e w' => e = .returned (.string r) ∧ Below w.heap.size w w' := by
  have HLIBW := Aside0.mk hLibW
  clear hLibW
  have HB := Aside0.mk (Below.refl w.heap.size w)
  have H : ((strconv_FormatInt.f a0 10).bind fun t150 => (some t150)) = some r := h
  clear h
  replace H := Option.bind_eq_some_iff.mp H
  obtain ⟨t150, A20, H⟩ := H
  replace H : (some t150) = some r := H
  have A2 := Aside0.mk A20
  clear A20
  obtain rfl := Option.some.inj H
  go_enter Tryd.func36, Tryd.ntmps36
  go_wp2_with (first | ((with_reducible refine gate_callee (f := 79) rfl ?_); refine goesL_ (some 4) rfl rfl Tryd.func79 (by kernel_rfl) rfl #[.int .i64 a0, .int .i64 10] rfl (by (try simp only [List.map_toArray, List.map_cons, List.map_nil]); first | done | rfl | (simp only [List.length_drop, List.length_take]; rfl)) ?_; (with_reducible refine (strconv_FormatInt.calls a0 10 t150 _ A2.out ?atLibW_).mono ?_); (case atLibW_ => exact HLIBW.out.below (by repeat (first | (with_reducible first | exact HB.out | apply below_alloc | apply pw_below_drewN | apply below_drew1) | exact HB.out))); rintro e w3 ⟨rfl, hb⟩; refine ⟨_, rfl, ?_⟩; have n0_ := Aside0.mk (below_step (by repeat (first | (with_reducible first | exact HB.out | apply below_alloc | apply pw_below_drewN | apply below_drew1) | exact HB.out)) hb); clear HB; have HB := n0_; clear n0_; (try clear hb); (try clear hb2); (try clear hk); (try clear hi)))
  go_ret
  exact ⟨by first | rfl | (simp [errW_none, errW_some] <;> rfl) | (simp [*, errW_none, errW_some] <;> rfl), by repeat (first | (with_reducible first | exact HB.out | apply below_alloc | apply pw_below_drewN | apply below_drew1) | exact HB.out)⟩

/-! ### stringslite_HasPrefix: function 134 -/
def stringslite_HasPrefix.f (a0 : ByteArray) (a1 : ByteArray) : Option (Bool) := if (a0.size : Int) ≥ (a1.size : Int) then (if 0 ≤ (a1.size : Int) then (if (a1.size : Int) ≤ (a0.size : Int) then (some ((a0.extract 0 ((a1.size : Int) : Int).toNat).toList == a1.toList)) else (none)) else (none)) else (some false)
set_option maxHeartbeats 8000000 in
set_option maxRecDepth 100000 in
theorem stringslite_HasPrefix.calls (a0 : ByteArray) (a1 : ByteArray) (r : Bool) (w : World) (h : stringslite_HasPrefix.f a0 a1 = some r) :
    Calls Tryd.prog 134 #[.string a0, .string a1] w fun e w' => e = .returned (.bool r) ∧ Drawn0 w w' := by
  have H : (if (a0.size : Int) ≥ (a1.size : Int) then (if 0 ≤ (a1.size : Int) then (if (a1.size : Int) ≤ (a0.size : Int) then (some ((a0.extract 0 ((a1.size : Int) : Int).toNat).toList == a1.toList)) else (none)) else (none)) else (some false)) = some r := h
  clear h
  by_cases c3 : (a0.size : Int) ≥ (a1.size : Int)
  · rw [if_pos c3] at H
    have c3b0 : decide ((a1.size : Int) ≤ (a0.size : Int)) = true := decide_eq_true c3
    have c3b1 : decide (a1.size ≤ a0.size) = true := decide_eq_true (Int.ofNat_le.mp c3)
    clear c3
    by_cases c4 : 0 ≤ (a1.size : Int)
    · rw [if_pos c4] at H
      have c4b0 := eq_true c4
      have c4b1 : decide (0 ≤ (a1.size : Int)) = true := decide_eq_true c4
      clear c4
      by_cases c5 : (a1.size : Int) ≤ (a0.size : Int)
      · rw [if_pos c5] at H
        have c5b0 := eq_true c5
        have c5b1 : decide ((a1.size : Int) ≤ (a0.size : Int)) = true := decide_eq_true c5
        clear c5
        obtain rfl := Option.some.inj H
        go_enter Tryd.func134, Tryd.ntmps134
        go_wp2
        go_ret
        exact ⟨by first | rfl | (simp; done) | (simp [*]; done), by repeat (first | exact Drawn0.refl _ | apply Drawn0.step)⟩
      · rw [if_neg c5] at H
        exact absurd H (by simp)
    · rw [if_neg c4] at H
      exact absurd H (by simp)
  · rw [if_neg c3] at H
    have c3b0 : decide ((a1.size : Int) ≤ (a0.size : Int)) = false := decide_eq_false c3
    have c3b1 : decide (a1.size ≤ a0.size) = false := decide_eq_false (fun h => c3 (Int.ofNat_le.mpr h))
    clear c3
    obtain rfl := Option.some.inj H
    go_enter Tryd.func134, Tryd.ntmps134
    go_wp2
    go_ret
    exact ⟨by first | rfl | (simp; done) | (simp [*]; done), by repeat (first | exact Drawn0.refl _ | apply Drawn0.step)⟩

/-! ### stringslite_TrimPrefix: function 98 -/
def stringslite_TrimPrefix.f (a0 : ByteArray) (a1 : ByteArray) : Option (ByteArray) := (stringslite_HasPrefix.f a0 a1).bind fun t151 => (if t151 = true then (if 0 ≤ (a1.size : Int) then (if (a1.size : Int) ≤ (a0.size : Int) then (some (a0.extract ((a1.size : Int) : Int).toNat a0.size)) else (none)) else (none)) else (some a0))
set_option maxHeartbeats 8000000 in
set_option maxRecDepth 100000 in
theorem stringslite_TrimPrefix.calls (a0 : ByteArray) (a1 : ByteArray) (r : ByteArray) (w : World) (h : stringslite_TrimPrefix.f a0 a1 = some r) :
    Calls Tryd.prog 98 #[.string a0, .string a1] w fun e w' => e = .returned (.string r) ∧ Drawn0 w w' := by
  have H : ((stringslite_HasPrefix.f a0 a1).bind fun t151 => (if t151 = true then (if 0 ≤ (a1.size : Int) then (if (a1.size : Int) ≤ (a0.size : Int) then (some (a0.extract ((a1.size : Int) : Int).toNat a0.size)) else (none)) else (none)) else (some a0))) = some r := h
  clear h
  replace H := Option.bind_eq_some_iff.mp H
  obtain ⟨t151, A30, H⟩ := H
  replace H : (if t151 = true then (if 0 ≤ (a1.size : Int) then (if (a1.size : Int) ≤ (a0.size : Int) then (some (a0.extract ((a1.size : Int) : Int).toNat a0.size)) else (none)) else (none)) else (some a0)) = some r := H
  have A3 := Aside0.mk A30
  clear A30
  by_cases c4 : t151 = true
  · subst c4
    have H1 : (if 0 ≤ (a1.size : Int) then (if (a1.size : Int) ≤ (a0.size : Int) then (some (a0.extract ((a1.size : Int) : Int).toNat a0.size)) else (none)) else (none)) = some r := by rw [if_pos rfl] at H; exact H
    clear H
    have H := H1
    clear H1
    by_cases c5 : 0 ≤ (a1.size : Int)
    · rw [if_pos c5] at H
      have c5b0 := eq_true c5
      have c5b1 : decide (0 ≤ (a1.size : Int)) = true := decide_eq_true c5
      clear c5
      by_cases c6 : (a1.size : Int) ≤ (a0.size : Int)
      · rw [if_pos c6] at H
        have c6b0 := eq_true c6
        have c6b1 : decide ((a1.size : Int) ≤ (a0.size : Int)) = true := decide_eq_true c6
        clear c6
        obtain rfl := Option.some.inj H
        go_enter Tryd.func98, Tryd.ntmps98
        go_wp2_with (first | ((with_reducible refine gate_callee (f := 134) rfl ?_); refine goesL_ (some 7) rfl rfl Tryd.func134 (by kernel_rfl) rfl #[.string a0, .string a1] rfl (by (try simp only [List.map_toArray, List.map_cons, List.map_nil]); first | done | rfl | (simp only [List.length_drop, List.length_take]; rfl)) ?_; (with_reducible refine (stringslite_HasPrefix.calls a0 a1 true _ A3.out).mono ?_); rintro e w' ⟨rfl, ⟨nd, rfl⟩⟩; refine ⟨_, rfl, ?_⟩))
        go_ret
        exact ⟨by first | rfl | (simp; done) | (simp [*]; done), by repeat (first | exact Drawn0.refl _ | apply Drawn0.step)⟩
      · rw [if_neg c6] at H
        exact absurd H (by simp)
    · rw [if_neg c5] at H
      exact absurd H (by simp)
  · replace c4 := Bool.eq_false_iff.mpr c4
    subst c4
    have H1 : (some a0) = some r := by rw [if_neg (show ¬ (false = true) by decide)] at H; exact H
    clear H
    have H := H1
    clear H1
    obtain rfl := Option.some.inj H
    go_enter Tryd.func98, Tryd.ntmps98
    go_wp2_with (first | ((with_reducible refine gate_callee (f := 134) rfl ?_); refine goesL_ (some 7) rfl rfl Tryd.func134 (by kernel_rfl) rfl #[.string a0, .string a1] rfl (by (try simp only [List.map_toArray, List.map_cons, List.map_nil]); first | done | rfl | (simp only [List.length_drop, List.length_take]; rfl)) ?_; (with_reducible refine (stringslite_HasPrefix.calls a0 a1 false _ A3.out).mono ?_); rintro e w' ⟨rfl, ⟨nd, rfl⟩⟩; refine ⟨_, rfl, ?_⟩))
    go_ret
    exact ⟨by first | rfl | (simp; done) | (simp [*]; done), by repeat (first | exact Drawn0.refl _ | apply Drawn0.step)⟩

/-! ### strings_TrimPrefix: function 68 -/
def strings_TrimPrefix.f (a0 : ByteArray) (a1 : ByteArray) : Option (ByteArray) := (stringslite_TrimPrefix.f a0 a1).bind fun t152 => (some t152)
set_option maxHeartbeats 8000000 in
set_option maxRecDepth 100000 in
theorem strings_TrimPrefix.calls (a0 : ByteArray) (a1 : ByteArray) (r : ByteArray) (w : World) (h : strings_TrimPrefix.f a0 a1 = some r) :
    Calls Tryd.prog 68 #[.string a0, .string a1] w fun e w' => e = .returned (.string r) ∧ Drawn0 w w' := by
  have H : ((stringslite_TrimPrefix.f a0 a1).bind fun t152 => (some t152)) = some r := h
  clear h
  replace H := Option.bind_eq_some_iff.mp H
  obtain ⟨t152, A30, H⟩ := H
  replace H : (some t152) = some r := H
  have A3 := Aside0.mk A30
  clear A30
  obtain rfl := Option.some.inj H
  go_enter Tryd.func68, Tryd.ntmps68
  go_wp2_with (first | ((with_reducible refine gate_callee (f := 98) rfl ?_); refine goesL_ (some 7) rfl rfl Tryd.func98 (by kernel_rfl) rfl #[.string a0, .string a1] rfl (by (try simp only [List.map_toArray, List.map_cons, List.map_nil]); first | done | rfl | (simp only [List.length_drop, List.length_take]; rfl)) ?_; (with_reducible refine (stringslite_TrimPrefix.calls a0 a1 t152 _ A3.out).mono ?_); rintro e w' ⟨rfl, ⟨nd, rfl⟩⟩; refine ⟨_, rfl, ?_⟩))
  go_ret
  exact ⟨by first | rfl | (simp; done) | (simp [*]; done), by repeat (first | exact Drawn0.refl _ | apply Drawn0.step)⟩

/-! ### impl_ReadDecimal: function 67 -/
-- given by hand
def layPI_ren : Go.Shelf.Ren := ⟨(fun | 174 => 97 | 247 => 132 | 245 => 133 | 287 => 155 | 279 => 156 | 280 => 157 | 281 => 158 | 282 => 159 | 321 => 173 | 322 => 174 | 316 => 175 | 171 => 177 | 205 => 176 | 243 => 184 | 246 => 104 | 283 => 135 | 284 => 136 | 285 => 137 | 286 => 138 | 129 => 130 | 317 => 160 | 318 => 161 | 319 => 162 | 320 => 163 | 337 => 178 | 338 => 179 | n => n), (fun | 9 => 9 | 3 => 3 | 2 => 2 | 75 => 113 | 85 => 114 | 4 => 4 | 167 => 163 | 5 => 5 | 53 => 145 | 175 => 164 | 46 => 102 | 168 => 166 | 37 => 76 | 0 => 0 | 210 => 187 | 21 => 21 | 127 => 155 | 145 => 194 | 143 => 192 | 171 => 148 | 173 => 150 | 212 => 171 | 51 => 143 | 20 => 20 | 213 => 172 | 232 => 195 | 233 => 196 | 80 => 126 | n => n), (fun | 15 => 4 | 16 => 5 | 17 => 0 | 18 => 6 | 19 => 7 | n => n)⟩
set_option maxRecDepth 1000000 in
theorem layPI : Go.Proofs.Lays.n174 Tryd.prog layPI_ren := { mixed := by kernel_rfl, f129 := Tryd.func130.trans (congrArg some (by kernel_rfl)), f171 := Tryd.func177.trans (congrArg some (by kernel_rfl)), f174 := Tryd.func97.trans (congrArg some (by kernel_rfl)), f205 := Tryd.func176.trans (congrArg some (by kernel_rfl)), f243 := Tryd.func184.trans (congrArg some (by kernel_rfl)), f245 := Tryd.func133.trans (congrArg some (by kernel_rfl)), f246 := Tryd.func104.trans (congrArg some (by kernel_rfl)), f247 := Tryd.func132.trans (congrArg some (by kernel_rfl)), f279 := Tryd.func156.trans (congrArg some (by kernel_rfl)), f280 := Tryd.func157.trans (congrArg some (by kernel_rfl)), f281 := Tryd.func158.trans (congrArg some (by kernel_rfl)), f282 := Tryd.func159.trans (congrArg some (by kernel_rfl)), f283 := Tryd.func135.trans (congrArg some (by kernel_rfl)), f284 := Tryd.func136.trans (congrArg some (by kernel_rfl)), f285 := Tryd.func137.trans (congrArg some (by kernel_rfl)), f286 := Tryd.func138.trans (congrArg some (by kernel_rfl)), f287 := Tryd.func155.trans (congrArg some (by kernel_rfl)), f316 := Tryd.func175.trans (congrArg some (by kernel_rfl)), f317 := Tryd.func160.trans (congrArg some (by kernel_rfl)), f318 := Tryd.func161.trans (congrArg some (by kernel_rfl)), f319 := Tryd.func162.trans (congrArg some (by kernel_rfl)), f320 := Tryd.func163.trans (congrArg some (by kernel_rfl)), f321 := Tryd.func173.trans (congrArg some (by kernel_rfl)), f322 := Tryd.func174.trans (congrArg some (by kernel_rfl)), f337 := Tryd.func178.trans (congrArg some (by kernel_rfl)), f338 := Tryd.func179.trans (congrArg some (by kernel_rfl)), t0 := Tryd.underlying0, a0 := Tryd.isAgg0, z0 := Tryd.sizeOf0, v0 := Tryd.zeroValue0, t2 := Tryd.underlying2, a2 := Tryd.isAgg2, z2 := Tryd.sizeOf2, v2 := Tryd.zeroValue2, t3 := Tryd.underlying3, a3 := Tryd.isAgg3, z3 := Tryd.sizeOf3, v3 := Tryd.zeroValue3, t4 := Tryd.underlying4, a4 := Tryd.isAgg4, z4 := Tryd.sizeOf4, v4 := Tryd.zeroValue4, t5 := Tryd.underlying5, a5 := Tryd.isAgg5, z5 := Tryd.sizeOf5, v5 := Tryd.zeroValue5, t9 := Tryd.underlying9, a9 := Tryd.isAgg9, z9 := Tryd.sizeOf9, v9 := Tryd.zeroValue9, t20 := Tryd.underlying20, a20 := Tryd.isAgg20, z20 := Tryd.sizeOf20, v20 := Tryd.zeroValue20, t21 := Tryd.underlying21, a21 := Tryd.isAgg21, z21 := Tryd.sizeOf21, v21 := Tryd.zeroValue21, t37 := Tryd.underlying76, a37 := Tryd.isAgg76, z37 := Tryd.sizeOf76, v37 := Tryd.zeroValue76, t46 := Tryd.underlying102, a46 := Tryd.isAgg102, z46 := Tryd.sizeOf102, v46 := Tryd.zeroValue102, t51 := Tryd.underlying143, a51 := Tryd.isAgg143, z51 := Tryd.sizeOf143, v51 := Tryd.zeroValue143, t53 := Tryd.underlying145, a53 := Tryd.isAgg145, z53 := Tryd.sizeOf145, v53 := Tryd.zeroValue145, t75 := Tryd.underlying113, a75 := Tryd.isAgg113, z75 := Tryd.sizeOf113, v75 := Tryd.zeroValue113, t85 := Tryd.underlying114, a85 := Tryd.isAgg114, z85 := Tryd.sizeOf114, v85 := Tryd.zeroValue114, t127 := Tryd.underlying155, a127 := Tryd.isAgg155, z127 := Tryd.sizeOf155, v127 := Tryd.zeroValue155, t143 := Tryd.underlying192, a143 := Tryd.isAgg192, z143 := Tryd.sizeOf192, v143 := Tryd.zeroValue192, t145 := Tryd.underlying194, a145 := Tryd.isAgg194, z145 := Tryd.sizeOf194, v145 := Tryd.zeroValue194, t167 := Tryd.underlying163, a167 := Tryd.isAgg163, z167 := Tryd.sizeOf163, v167 := Tryd.zeroValue163, t168 := Tryd.underlying166, a168 := Tryd.isAgg166, z168 := Tryd.sizeOf166, v168 := Tryd.zeroValue166, t171 := Tryd.underlying148, a171 := Tryd.isAgg148, z171 := Tryd.sizeOf148, v171 := Tryd.zeroValue148, t173 := Tryd.underlying150, a173 := Tryd.isAgg150, z173 := Tryd.sizeOf150, v173 := Tryd.zeroValue150, t175 := Tryd.underlying164, a175 := Tryd.isAgg164, z175 := Tryd.sizeOf164, v175 := Tryd.zeroValue164, t210 := Tryd.underlying187, a210 := Tryd.isAgg187, z210 := Tryd.sizeOf187, v210 := Tryd.zeroValue187, t212 := Tryd.underlying171, a212 := Tryd.isAgg171, z212 := Tryd.sizeOf171, v212 := Tryd.zeroValue171, t213 := Tryd.underlying172, a213 := Tryd.isAgg172, z213 := Tryd.sizeOf172, t232 := Tryd.underlying195, a232 := Tryd.isAgg195, z232 := Tryd.sizeOf195, v232 := Tryd.zeroValue195, t233 := Tryd.underlying196, a233 := Tryd.isAgg196, z233 := Tryd.sizeOf196, v233 := Tryd.zeroValue196, g15 := by kernel_rfl, g16 := by kernel_rfl, g17 := by kernel_rfl, g18 := by kernel_rfl, g19 := by kernel_rfl }
set_option maxRecDepth 1000000 in
theorem layPIM : Go.Proofs.LaysM.n174 Tryd.prog layPI_ren := { layPI with t80 := by kernel_rfl, a80 := Tryd.isAgg126, z80 := Tryd.sizeOf126, v80 := Tryd.zeroValue126, i0 := by kernel_rfl, i2 := by kernel_rfl, i3 := by kernel_rfl, i4 := by kernel_rfl, i5 := by kernel_rfl, i9 := by kernel_rfl, i20 := by kernel_rfl, i21 := by kernel_rfl, i37 := by kernel_rfl, i46 := by kernel_rfl, i51 := by kernel_rfl, i53 := by kernel_rfl, i75 := by kernel_rfl, i80 := by kernel_rfl, i85 := by kernel_rfl, i127 := by kernel_rfl, i143 := by kernel_rfl, i145 := by kernel_rfl, i167 := by kernel_rfl, i168 := by kernel_rfl, i171 := by kernel_rfl, i173 := by kernel_rfl, i175 := by kernel_rfl, i210 := by kernel_rfl, i212 := by kernel_rfl, i232 := by kernel_rfl, i233 := by kernel_rfl, m15 := by kernel_rfl, m16 := by kernel_rfl, m17 := by kernel_rfl, m18 := by kernel_rfl, m19 := by kernel_rfl }
set_option maxRecDepth 1000000 in
theorem layPIC : Go.Proofs.LaysC.n174 Tryd.prog layPI_ren := { layPIM with c0 := by kernel_rfl, c2 := by kernel_rfl, c3 := by kernel_rfl, c4 := by kernel_rfl, c5 := by kernel_rfl, c9 := by kernel_rfl, c20 := by kernel_rfl, c21 := by kernel_rfl, c37 := by kernel_rfl, c46 := by kernel_rfl, c51 := by kernel_rfl, c53 := by kernel_rfl, c75 := by kernel_rfl, c80 := by kernel_rfl, c85 := by kernel_rfl, c127 := by kernel_rfl, c143 := by kernel_rfl, c145 := by kernel_rfl, c167 := by kernel_rfl, c168 := by kernel_rfl, c171 := by kernel_rfl, c173 := by kernel_rfl, c175 := by kernel_rfl, c210 := by kernel_rfl, c212 := by kernel_rfl, c213 := by kernel_rfl, c232 := by kernel_rfl, c233 := by kernel_rfl }

def impl_ReadDecimal.f (a0 : ByteArray) : Option (Int × Bool) := if a0.size ≤ 281474976710656 then (match Go.Lib.parseIntB 64 a0.data.toList with | .ok v => (impl_Decimal.f v).bind fun t => (if t.toList = a0.toList then ((strings_TrimPrefix.f a0 (⟨#[45]⟩ : ByteArray)).bind fun u => if 18 < (u.size : Int) then some (0, false) else some (v, true)) else some (0, false)) | _ => some (0, false)) else none
set_option maxHeartbeats 4000000 in
set_option maxRecDepth 100000 in
theorem impl_ReadDecimal.calls (a0 : ByteArray) (r1 : Int) (r2 : Bool) (w : World) (h : impl_ReadDecimal.f a0 = some (r1, r2)) (hL : LibW w) :
    Calls Tryd.prog 67 #[.string a0] w fun e w' => e = .returned (.tuple #[.int .i64 r1, .bool r2]) ∧ Below w.heap.size w w' := by
  unfold impl_ReadDecimal.f at h
  by_cases hsz : a0.size ≤ 281474976710656
  · rw [if_pos hsz] at h
    have HL := Aside0.mk hL
    have HB := Aside0.mk (Below.refl w.heap.size w)
    cases hp : Go.Lib.parseIntB 64 a0.data.toList with
    | «syntax» =>
      rw [hp] at h
      obtain ⟨rfl, rfl⟩ := Prod.mk.inj (Option.some.inj (show some ((0 : Int), false) = some (r1, r2) from h))
      clear h
      obtain ⟨tp, p, hcell⟩ := HL.out.2.2.1
      clear hL
      go_enter Tryd.func67, Tryd.ntmps67
      go_wp2_with (go_at_call 97; refine (Go.Proofs.Any.strconv_ParseInt_10_at64_syntax layPIC a0 hsz hp _ w hcell (Or.inr ⟨tp, p, rfl⟩)).mono ?_; rintro e w2 ⟨N, rfl, hN, hblk, hb⟩; have HB2 := Aside0.mk hb; clear hblk hb hN)
      go_ret2
      exact ⟨rfl, HB2.out⟩
    | range =>
      rw [hp] at h
      obtain ⟨rfl, rfl⟩ := Prod.mk.inj (Option.some.inj (show some ((0 : Int), false) = some (r1, r2) from h))
      clear h
      obtain ⟨tp, p, hcell⟩ := HL.out.2.2.2
      clear hL
      go_enter Tryd.func67, Tryd.ntmps67
      go_wp2_with (go_at_call 97; refine (Go.Proofs.Any.strconv_ParseInt_10_at64_range layPIC a0 hsz hp _ w hcell (Or.inr ⟨tp, p, rfl⟩)).mono ?_; rintro e w2 ⟨N, rfl, hN, hblk, hb⟩; have HB2 := Aside0.mk hb; clear hblk hb hN)
      go_ret2
      exact ⟨rfl, HB2.out⟩
    | ok v =>
      rw [hp] at h
      replace h : ((impl_Decimal.f v).bind fun t => (if t.toList = a0.toList then ((strings_TrimPrefix.f a0 (⟨#[45]⟩ : ByteArray)).bind fun u => if 18 < (u.size : Int) then some (0, false) else some (v, true)) else some (0, false))) = some (r1, r2) := h
      have h0 := h
      clear h
      obtain ⟨t, e1, h⟩ := Option.bind_eq_some_iff.1 h0
      clear h0
      have A1 := Aside0.mk e1
      have HP := Aside0.mk hp
      have HS := Aside0.mk hsz
      clear e1 hp hsz hL
      by_cases c1 : t.toList = a0.toList
      · rw [if_pos c1] at h
        have c1b0 : (t.toList == a0.toList) = true := beq_iff_eq.2 c1
        have c1b1 : (t.toList != a0.toList) = false := bne_eq_false_iff_eq.2 c1
        clear c1
        have h0 := h
        clear h
        obtain ⟨u, e2, h⟩ := Option.bind_eq_some_iff.1 h0
        clear h0
        have A2 := Aside0.mk e2
        clear e2
        by_cases c2 : 18 < (u.size : Int)
        · rw [if_pos c2] at h
          obtain ⟨rfl, rfl⟩ := Prod.mk.inj (Option.some.inj h)
          have c2b0 : decide (18 < (u.size : Int)) = true := decide_eq_true c2
          have c2b1 : decide (18 < u.size) = true := decide_eq_true (by omega)
          clear h c2
          go_enter Tryd.func67, Tryd.ntmps67
          go_wp2_with (first | (go_at_call 97; refine (Go.Proofs.Any.strconv_ParseInt_10_at64_ok layPIC a0 (by have := HS.out; omega) v HP.out w).mono ?_; rintro e w2 ⟨rfl, hw2⟩; have hb : Below w.heap.size w w2 := (by rcases hw2 with h9 | ⟨t2, h9⟩; (rw [h9]; exact Below.refl _ _); (rw [h9]; exact Go.Lib.bytesWorld_below w _ _)); clear hw2; have HB2 := Aside0.mk hb; clear hb HB) | (go_at_call 36; refine (impl_Decimal.calls v t _ A1.out (HL.out.below HB2.out)).mono ?_; rintro e w3 ⟨rfl, hb⟩; have HB3 := Aside0.mk (below_step HB2.out hb); clear hb HB2) | (go_at_call 68; refine (strings_TrimPrefix.calls a0 (⟨#[45]⟩ : ByteArray) u _ A2.out).mono ?_; rintro e w4 ⟨rfl, ⟨nd4, rfl⟩⟩))
          go_ret2
          exact ⟨rfl, by first | exact HB3.out | exact pw_below_drewN HB3.out _⟩
        · rw [if_neg c2] at h
          obtain ⟨rfl, rfl⟩ := Prod.mk.inj (Option.some.inj h)
          have c2b0 : decide (18 < (u.size : Int)) = false := decide_eq_false c2
          have c2b1 : decide (18 < u.size) = false := decide_eq_false (by omega)
          clear h c2
          go_enter Tryd.func67, Tryd.ntmps67
          go_wp2_with (first | (go_at_call 97; refine (Go.Proofs.Any.strconv_ParseInt_10_at64_ok layPIC a0 (by have := HS.out; omega) v HP.out w).mono ?_; rintro e w2 ⟨rfl, hw2⟩; have hb : Below w.heap.size w w2 := (by rcases hw2 with h9 | ⟨t2, h9⟩; (rw [h9]; exact Below.refl _ _); (rw [h9]; exact Go.Lib.bytesWorld_below w _ _)); clear hw2; have HB2 := Aside0.mk hb; clear hb HB) | (go_at_call 36; refine (impl_Decimal.calls v t _ A1.out (HL.out.below HB2.out)).mono ?_; rintro e w3 ⟨rfl, hb⟩; have HB3 := Aside0.mk (below_step HB2.out hb); clear hb HB2) | (go_at_call 68; refine (strings_TrimPrefix.calls a0 (⟨#[45]⟩ : ByteArray) u _ A2.out).mono ?_; rintro e w4 ⟨rfl, ⟨nd4, rfl⟩⟩))
          go_ret2
          exact ⟨rfl, by first | exact HB3.out | exact pw_below_drewN HB3.out _⟩
      · rw [if_neg c1] at h
        obtain ⟨rfl, rfl⟩ := Prod.mk.inj (Option.some.inj h)
        have c1b0 : (t.toList == a0.toList) = false := beq_eq_false_iff_ne.2 c1
        have c1b1 : (t.toList != a0.toList) = true := bne_iff_ne.2 c1
        clear h c1
        go_enter Tryd.func67, Tryd.ntmps67
        go_wp2_with (first | (go_at_call 97; refine (Go.Proofs.Any.strconv_ParseInt_10_at64_ok layPIC a0 (by have := HS.out; omega) v HP.out w).mono ?_; rintro e w2 ⟨rfl, hw2⟩; have hb : Below w.heap.size w w2 := (by rcases hw2 with h9 | ⟨t2, h9⟩; (rw [h9]; exact Below.refl _ _); (rw [h9]; exact Go.Lib.bytesWorld_below w _ _)); clear hw2; have HB2 := Aside0.mk hb; clear hb HB) | (go_at_call 36; refine (impl_Decimal.calls v t _ A1.out (HL.out.below HB2.out)).mono ?_; rintro e w3 ⟨rfl, hb⟩; have HB3 := Aside0.mk (below_step HB2.out hb); clear hb HB2) | (go_at_call 68; refine (strings_TrimPrefix.calls a0 (⟨#[45]⟩ : ByteArray) u _ A2.out).mono ?_; rintro e w4 ⟨rfl, ⟨nd4, rfl⟩⟩))
        go_ret2
        exact ⟨rfl, by first | exact HB3.out | exact pw_below_drewN HB3.out _⟩
  · rw [if_neg hsz] at h
    cases h


/-! ### impl_readEngraved: function 69 -/
def impl_readEngraved.f (a0 : ByteArray) : Option (ByteArray) := if a0.toList = ([45] : List UInt8) then (some (⟨#[]⟩ : ByteArray)) else (some a0)
set_option maxHeartbeats 8000000 in
set_option maxRecDepth 100000 in
theorem impl_readEngraved.calls (a0 : ByteArray) (r : ByteArray) (w : World) (h : impl_readEngraved.f a0 = some r) :
    Calls Tryd.prog 69 #[.string a0] w fun e w' => e = .returned (.string r) ∧ Drawn0 w w' := by
  have H : (if a0.toList = ([45] : List UInt8) then (some (⟨#[]⟩ : ByteArray)) else (some a0)) = some r := h
  clear h
  by_cases c2 : a0.toList = ([45] : List UInt8)
  · rw [if_pos c2] at H
    have c2b0 : (a0.toList == ([45] : List UInt8)) = true := beq_iff_eq.mpr c2
    have c2b1 : (a0.toList != ([45] : List UInt8)) = false := bne_eq_false_iff_eq.mpr c2
    clear c2
    obtain rfl := Option.some.inj H
    go_enter Tryd.func69, Tryd.ntmps69
    go_wp2
    go_ret
    exact ⟨by first | rfl | (simp; done) | (simp [*]; done), by repeat (first | exact Drawn0.refl _ | apply Drawn0.step)⟩
  · rw [if_neg c2] at H
    have c2b0 : (a0.toList == ([45] : List UInt8)) = false := beq_eq_false_iff_ne.mpr c2
    have c2b1 : (a0.toList != ([45] : List UInt8)) = true := bne_iff_ne.mpr c2
    obtain rfl := Option.some.inj H
    go_enter Tryd.func69, Tryd.ntmps69
    go_wp2
    go_ret
    exact ⟨by first | rfl | (simp; done) | (simp [*]; done), by repeat (first | exact Drawn0.refl _ | apply Drawn0.step)⟩

/-! ### impl_within: function 99 -/
def impl_within.f (a0 : Int) (a1 : Int) (a2 : Int) : Option (Bool) := if a0 ≥ a1 then (some (decide (a0 ≤ a2))) else (some false)
set_option maxHeartbeats 8000000 in
set_option maxRecDepth 100000 in
theorem impl_within.calls (a0 : Int) (a1 : Int) (a2 : Int) (r : Bool) (w : World) (h : impl_within.f a0 a1 a2 = some r) :
    Calls Tryd.prog 99 #[.int .i64 a0, .int .i64 a1, .int .i64 a2] w fun e w' => e = .returned (.bool r) ∧ Drawn0 w w' := by
  have H : (if a0 ≥ a1 then (some (decide (a0 ≤ a2))) else (some false)) = some r := h
  clear h
  by_cases c4 : a0 ≥ a1
  · rw [if_pos c4] at H
    have c4b0 : decide (a1 ≤ a0) = true := decide_eq_true c4
    clear c4
    obtain rfl := Option.some.inj H
    go_enter Tryd.func99, Tryd.ntmps99
    go_wp2
    go_ret
    exact ⟨by first | rfl | (simp; done) | (simp [*]; done), by repeat (first | exact Drawn0.refl _ | apply Drawn0.step)⟩
  · rw [if_neg c4] at H
    have c4b0 : decide (a1 ≤ a0) = false := decide_eq_false c4
    clear c4
    obtain rfl := Option.some.inj H
    go_enter Tryd.func99, Tryd.ntmps99
    go_wp2
    go_ret
    exact ⟨by first | rfl | (simp; done) | (simp [*]; done), by repeat (first | exact Drawn0.refl _ | apply Drawn0.step)⟩

/-! ### strings_Trim: function 91 -/
-- given by hand
def layTrim_ren : Go.Shelf.Ren := ⟨(fun | 160 => 91 | 232 => 114 | 231 => 113 | 227 => 115 | 234 => 117 | 233 => 116 | 236 => 119 | 235 => 118 | 228 => 146 | 271 => 148 | 151 => 147 | 197 => 111 | 120 => 171 | 152 => 170 | 260 => 145 | 137 => 182 | 119 => 183 | 224 => 168 | 225 => 167 | 217 => 166 | 266 => 180 | n => n), (fun | 9 => 9 | 4 => 4 | 3 => 3 | 5 => 5 | 117 => 130 | 116 => 129 | 0 => 0 | 124 => 133 | 21 => 21 | 105 => 124 | 46 => 102 | 119 => 177 | 139 => 180 | 138 => 179 | n => n), (fun | 3 => 2 | 4 => 3 | n => n)⟩
set_option maxRecDepth 1000000 in
theorem layTrim : Go.Proofs.Lays.n160 Tryd.prog layTrim_ren := { mixed := by kernel_rfl, f119 := Tryd.func183.trans (congrArg some (by kernel_rfl)), f120 := Tryd.func171.trans (congrArg some (by kernel_rfl)), f137 := Tryd.func182.trans (congrArg some (by kernel_rfl)), f151 := Tryd.func147.trans (congrArg some (by kernel_rfl)), f152 := Tryd.func170.trans (congrArg some (by kernel_rfl)), f160 := Tryd.func91.trans (congrArg some (by kernel_rfl)), f197 := Tryd.func111.trans (congrArg some (by kernel_rfl)), f217 := Tryd.func166.trans (congrArg some (by kernel_rfl)), f224 := Tryd.func168.trans (congrArg some (by kernel_rfl)), f225 := Tryd.func167.trans (congrArg some (by kernel_rfl)), f227 := Tryd.func115.trans (congrArg some (by kernel_rfl)), f228 := Tryd.func146.trans (congrArg some (by kernel_rfl)), f231 := Tryd.func113.trans (congrArg some (by kernel_rfl)), f232 := Tryd.func114.trans (congrArg some (by kernel_rfl)), f233 := Tryd.func116.trans (congrArg some (by kernel_rfl)), f234 := Tryd.func117.trans (congrArg some (by kernel_rfl)), f235 := Tryd.func118.trans (congrArg some (by kernel_rfl)), f236 := Tryd.func119.trans (congrArg some (by kernel_rfl)), f260 := Tryd.func145.trans (congrArg some (by kernel_rfl)), f266 := Tryd.func180.trans (congrArg some (by kernel_rfl)), f271 := Tryd.func148.trans (congrArg some (by kernel_rfl)), t0 := Tryd.underlying0, a0 := Tryd.isAgg0, z0 := Tryd.sizeOf0, v0 := Tryd.zeroValue0, t3 := Tryd.underlying3, a3 := Tryd.isAgg3, z3 := Tryd.sizeOf3, v3 := Tryd.zeroValue3, t4 := Tryd.underlying4, a4 := Tryd.isAgg4, z4 := Tryd.sizeOf4, v4 := Tryd.zeroValue4, t5 := Tryd.underlying5, a5 := Tryd.isAgg5, z5 := Tryd.sizeOf5, v5 := Tryd.zeroValue5, t9 := Tryd.underlying9, a9 := Tryd.isAgg9, z9 := Tryd.sizeOf9, v9 := Tryd.zeroValue9, t21 := Tryd.underlying21, a21 := Tryd.isAgg21, z21 := Tryd.sizeOf21, v21 := Tryd.zeroValue21, t46 := Tryd.underlying102, a46 := Tryd.isAgg102, z46 := Tryd.sizeOf102, v46 := Tryd.zeroValue102, t105 := Tryd.underlying124, a105 := Tryd.isAgg124, z105 := Tryd.sizeOf124, v105 := Tryd.zeroValue124, t116 := Tryd.underlying129, a116 := Tryd.isAgg129, z116 := Tryd.sizeOf129, t117 := Tryd.underlying130, a117 := Tryd.isAgg130, z117 := Tryd.sizeOf130, v117 := Tryd.zeroValue130, t119 := Tryd.underlying177, a119 := Tryd.isAgg177, z119 := Tryd.sizeOf177, t124 := Tryd.underlying133, a124 := Tryd.isAgg133, z124 := Tryd.sizeOf133, v124 := Tryd.zeroValue133, t138 := Tryd.underlying179, a138 := Tryd.isAgg179, z138 := Tryd.sizeOf179, v138 := Tryd.zeroValue179, t139 := Tryd.underlying180, a139 := Tryd.isAgg180, z139 := Tryd.sizeOf180, v139 := Tryd.zeroValue180, g3 := by kernel_rfl, g4 := by kernel_rfl }

def strings_Trim.f (a0 a1 : ByteArray) : Option ByteArray := if a0.size ≤ 9223372036854775807 ∧ a1.size < 4294967281 ∧ a1.data.toList.all (fun b => decide (b.toNat < 128)) = true then some ⟨(Go.Lib.trimS a0.data.toList a1.data.toList).toArray⟩ else none
theorem strings_Trim.calls (a0 : ByteArray) (a1 : ByteArray) (r : ByteArray) (w : World) (h : strings_Trim.f a0 a1 = some r) :
    Calls Tryd.prog 91 #[.string a0, .string a1] w fun e w' => e = .returned (.string r) ∧ Below w.heap.size w w' := by
  unfold strings_Trim.f at h
  split at h
  · rename_i hc
    obtain rfl := Option.some.inj h
    exact Go.Proofs.Any.strings_Trim_laid layTrim (by kernel_rfl) a0 a1 w hc.1 hc.2.1 (Go.Proofs.ascii_of_all hc.2.2)
  · cases h


/-! ### impl_IsName: function 76 -/
def impl_IsName.f (a0 : ByteArray) : Option (Bool) := if (a0.size : Int) < 1 then (some false) else (if (a0.size : Int) > 12 then (some false) else (if 0 < (a0.size : Int) then (if (bt a0 0) < 97 then (some false) else (if (bt a0 0) > 122 then (some false) else ((strings_Trim.f a0 (⟨#[97, 98, 99, 100, 101, 102, 103, 104, 105, 106, 107, 108, 109, 110, 111, 112, 113, 114, 115, 116, 117, 118, 119, 120, 121, 122, 48, 49, 50, 51, 52, 53, 54, 55, 56, 57, 45]⟩ : ByteArray)).bind fun t153 => (some (t153.toList == ([] : List UInt8)))))) else (none)))
set_option maxHeartbeats 8000000 in
set_option maxRecDepth 100000 in
theorem impl_IsName.calls (a0 : ByteArray) (r : Bool) (w : World) (h : impl_IsName.f a0 = some r) :
    Calls Tryd.prog 76 #[.string a0] w fun e w' => e = .returned (.bool r) ∧ Below w.heap.size w w' := by
  have HB := Aside0.mk (Below.refl w.heap.size w)
  have H : (if (a0.size : Int) < 1 then (some false) else (if (a0.size : Int) > 12 then (some false) else (if 0 < (a0.size : Int) then (if (bt a0 0) < 97 then (some false) else (if (bt a0 0) > 122 then (some false) else ((strings_Trim.f a0 (⟨#[97, 98, 99, 100, 101, 102, 103, 104, 105, 106, 107, 108, 109, 110, 111, 112, 113, 114, 115, 116, 117, 118, 119, 120, 121, 122, 48, 49, 50, 51, 52, 53, 54, 55, 56, 57, 45]⟩ : ByteArray)).bind fun t153 => (some (t153.toList == ([] : List UInt8)))))) else (none)))) = some r := h
  clear h
  by_cases c2 : (a0.size : Int) < 1
  · rw [if_pos c2] at H
    have c2b0 : decide ((a0.size : Int) < 1) = true := decide_eq_true c2
    have c2b1 : decide (a0.size < 1) = true := decide_eq_true (by omega)
    clear c2
    obtain rfl := Option.some.inj H
    go_enter Tryd.func76, Tryd.ntmps76
    go_wp2
    go_ret
    exact ⟨by first | rfl | (simp [errW_none, errW_some] <;> rfl) | (simp [*, errW_none, errW_some] <;> rfl), by repeat (first | (with_reducible first | exact HB.out | apply below_alloc | apply pw_below_drewN | apply below_drew1) | exact HB.out)⟩
  · rw [if_neg c2] at H
    have c2b0 : decide ((a0.size : Int) < 1) = false := decide_eq_false c2
    have c2b1 : decide (a0.size < 1) = false := decide_eq_false (by omega)
    clear c2
    by_cases c3 : (a0.size : Int) > 12
    · rw [if_pos c3] at H
      have c3b0 : decide (12 < (a0.size : Int)) = true := decide_eq_true c3
      have c3b1 : decide (12 < a0.size) = true := decide_eq_true (by omega)
      clear c3
      obtain rfl := Option.some.inj H
      go_enter Tryd.func76, Tryd.ntmps76
      go_wp2
      go_ret
      exact ⟨by first | rfl | (simp [errW_none, errW_some] <;> rfl) | (simp [*, errW_none, errW_some] <;> rfl), by repeat (first | (with_reducible first | exact HB.out | apply below_alloc | apply pw_below_drewN | apply below_drew1) | exact HB.out)⟩
    · rw [if_neg c3] at H
      have c3b0 : decide (12 < (a0.size : Int)) = false := decide_eq_false c3
      have c3b1 : decide (12 < a0.size) = false := decide_eq_false (by omega)
      clear c3
      by_cases c4 : 0 < (a0.size : Int)
      · rw [if_pos c4] at H
        have c4b0 : decide (0 < (a0.size : Int)) = true := decide_eq_true c4
        have c4b1 : decide (0 < a0.size) = true := decide_eq_true (by omega)
        clear c4
        by_cases c6 : (bt a0 0) < 97
        · rw [if_pos c6] at H
          have c6b0 : decide ((bt a0 0) < 97) = true := decide_eq_true c6
          clear c6
          obtain rfl := Option.some.inj H
          have p5 : 0 ≤ (0 : Int) := (by omega)
          have q5 : 0 < a0.size := (by have : (0 : Int) < (a0.size : Int) := of_decide_eq_true (by first | (with_reducible assumption) | assumption); omega)
          have hx5 : ∀ h : 0 < a0.size, ((a0[0]'h).toNat : Int) = bt a0 0 := bt_at a0 0
          clear p5
          have qi5 : (0 < (a0.size : Int)) = True := eq_true (of_decide_eq_true (by first | (with_reducible assumption) | assumption))
          replace q5 := eq_true q5
          go_enter Tryd.func76, Tryd.ntmps76
          go_wp2
          go_ret
          exact ⟨by first | rfl | (simp [errW_none, errW_some] <;> rfl) | (simp [*, errW_none, errW_some] <;> rfl), by repeat (first | (with_reducible first | exact HB.out | apply below_alloc | apply pw_below_drewN | apply below_drew1) | exact HB.out)⟩
        · rw [if_neg c6] at H
          have c6b0 : decide ((bt a0 0) < 97) = false := decide_eq_false c6
          clear c6
          by_cases c8 : (bt a0 0) > 122
          · rw [if_pos c8] at H
            have c8b0 : decide (122 < (bt a0 0)) = true := decide_eq_true c8
            clear c8
            obtain rfl := Option.some.inj H
            have p5 : 0 ≤ (0 : Int) := (by omega)
            have q5 : 0 < a0.size := (by have : (0 : Int) < (a0.size : Int) := of_decide_eq_true (by first | (with_reducible assumption) | assumption); omega)
            have hx5 : ∀ h : 0 < a0.size, ((a0[0]'h).toNat : Int) = bt a0 0 := bt_at a0 0
            clear p5
            have qi5 : (0 < (a0.size : Int)) = True := eq_true (of_decide_eq_true (by first | (with_reducible assumption) | assumption))
            replace q5 := eq_true q5
            have p7 : 0 ≤ (0 : Int) := (by omega)
            have q7 : 0 < a0.size := (by have : (0 : Int) < (a0.size : Int) := of_decide_eq_true (by first | (with_reducible assumption) | assumption); omega)
            have hx7 : ∀ h : 0 < a0.size, ((a0[0]'h).toNat : Int) = bt a0 0 := bt_at a0 0
            clear p7
            have qi7 : (0 < (a0.size : Int)) = True := eq_true (of_decide_eq_true (by first | (with_reducible assumption) | assumption))
            replace q7 := eq_true q7
            go_enter Tryd.func76, Tryd.ntmps76
            go_wp2
            go_ret
            exact ⟨by first | rfl | (simp [errW_none, errW_some] <;> rfl) | (simp [*, errW_none, errW_some] <;> rfl), by repeat (first | (with_reducible first | exact HB.out | apply below_alloc | apply pw_below_drewN | apply below_drew1) | exact HB.out)⟩
          · rw [if_neg c8] at H
            have c8b0 : decide (122 < (bt a0 0)) = false := decide_eq_false c8
            clear c8
            replace H := Option.bind_eq_some_iff.mp H
            obtain ⟨t153, A90, H⟩ := H
            replace H : (some (t153.toList == ([] : List UInt8))) = some r := H
            have A9 := Aside0.mk A90
            clear A90
            obtain rfl := Option.some.inj H
            have p5 : 0 ≤ (0 : Int) := (by omega)
            have q5 : 0 < a0.size := (by have : (0 : Int) < (a0.size : Int) := of_decide_eq_true (by first | (with_reducible assumption) | assumption); omega)
            have hx5 : ∀ h : 0 < a0.size, ((a0[0]'h).toNat : Int) = bt a0 0 := bt_at a0 0
            clear p5
            have qi5 : (0 < (a0.size : Int)) = True := eq_true (of_decide_eq_true (by first | (with_reducible assumption) | assumption))
            replace q5 := eq_true q5
            have p7 : 0 ≤ (0 : Int) := (by omega)
            have q7 : 0 < a0.size := (by have : (0 : Int) < (a0.size : Int) := of_decide_eq_true (by first | (with_reducible assumption) | assumption); omega)
            have hx7 : ∀ h : 0 < a0.size, ((a0[0]'h).toNat : Int) = bt a0 0 := bt_at a0 0
            clear p7
            have qi7 : (0 < (a0.size : Int)) = True := eq_true (of_decide_eq_true (by first | (with_reducible assumption) | assumption))
            replace q7 := eq_true q7
            go_enter Tryd.func76, Tryd.ntmps76
            go_wp2_with (first | ((with_reducible refine gate_callee (f := 91) rfl ?_); refine goesL_ (some 22) rfl rfl Tryd.func91 (by kernel_rfl) rfl #[.string a0, .string (⟨#[97, 98, 99, 100, 101, 102, 103, 104, 105, 106, 107, 108, 109, 110, 111, 112, 113, 114, 115, 116, 117, 118, 119, 120, 121, 122, 48, 49, 50, 51, 52, 53, 54, 55, 56, 57, 45]⟩ : ByteArray)] rfl (by (try simp only [List.map_toArray, List.map_cons, List.map_nil]); first | done | rfl | (simp only [List.length_drop, List.length_take]; rfl)) ?_; (with_reducible refine (strings_Trim.calls a0 (⟨#[97, 98, 99, 100, 101, 102, 103, 104, 105, 106, 107, 108, 109, 110, 111, 112, 113, 114, 115, 116, 117, 118, 119, 120, 121, 122, 48, 49, 50, 51, 52, 53, 54, 55, 56, 57, 45]⟩ : ByteArray) t153 _ A9.out).mono ?_); rintro e w10 ⟨rfl, hb⟩; refine ⟨_, rfl, ?_⟩; have n0_ := Aside0.mk (below_step (by repeat (first | (with_reducible first | exact HB.out | apply below_alloc | apply pw_below_drewN | apply below_drew1) | exact HB.out)) hb); clear HB; have HB := n0_; clear n0_; (try clear hb); (try clear hb2); (try clear hk); (try clear hi)))
            go_ret
            exact ⟨by first | rfl | (simp [errW_none, errW_some] <;> rfl) | (simp [*, errW_none, errW_some] <;> rfl), by repeat (first | (with_reducible first | exact HB.out | apply below_alloc | apply pw_below_drewN | apply below_drew1) | exact HB.out)⟩
      · rw [if_neg c4] at H
        exact absurd H (by simp)

/-! ### impl_isEngraved: function 100 -/
def impl_isEngraved.f (a0 : ByteArray) : Option (Bool) := if a0.toList = ([] : List UInt8) then (some true) else ((impl_IsName.f a0).bind fun t154 => (some t154))
set_option maxHeartbeats 8000000 in
set_option maxRecDepth 100000 in
theorem impl_isEngraved.calls (a0 : ByteArray) (r : Bool) (w : World) (h : impl_isEngraved.f a0 = some r) :
    Calls Tryd.prog 100 #[.string a0] w fun e w' => e = .returned (.bool r) ∧ Below w.heap.size w w' := by
  have HB := Aside0.mk (Below.refl w.heap.size w)
  have H : (if a0.toList = ([] : List UInt8) then (some true) else ((impl_IsName.f a0).bind fun t154 => (some t154))) = some r := h
  clear h
  by_cases c2 : a0.toList = ([] : List UInt8)
  · rw [if_pos c2] at H
    have c2b0 : (a0.toList == ([] : List UInt8)) = true := beq_iff_eq.mpr c2
    have c2b1 : (a0.toList != ([] : List UInt8)) = false := bne_eq_false_iff_eq.mpr c2
    clear c2
    obtain rfl := Option.some.inj H
    go_enter Tryd.func100, Tryd.ntmps100
    go_wp2
    go_ret
    exact ⟨by first | rfl | (simp [errW_none, errW_some] <;> rfl) | (simp [*, errW_none, errW_some] <;> rfl), by repeat (first | (with_reducible first | exact HB.out | apply below_alloc | apply pw_below_drewN | apply below_drew1) | exact HB.out)⟩
  · rw [if_neg c2] at H
    have c2b0 : (a0.toList == ([] : List UInt8)) = false := beq_eq_false_iff_ne.mpr c2
    have c2b1 : (a0.toList != ([] : List UInt8)) = true := bne_iff_ne.mpr c2
    replace H := Option.bind_eq_some_iff.mp H
    obtain ⟨t154, A30, H⟩ := H
    replace H : (some t154) = some r := H
    have A3 := Aside0.mk A30
    clear A30
    obtain rfl := Option.some.inj H
    go_enter Tryd.func100, Tryd.ntmps100
    go_wp2_with (first | (go_at_call 76; (with_reducible refine (impl_IsName.calls a0 t154 _ A3.out).mono ?_); rintro e w4 ⟨rfl, hb⟩; have n0_ := Aside0.mk (below_step (by repeat (first | (with_reducible first | exact HB.out | apply below_alloc | apply pw_below_drewN | apply below_drew1) | exact HB.out)) hb); clear HB; have HB := n0_; clear n0_; (try clear hb); (try clear hb2); (try clear hk); (try clear hi)))
    go_ret
    exact ⟨by first | rfl | (simp [errW_none, errW_some] <;> rfl) | (simp [*, errW_none, errW_some] <;> rfl), by repeat (first | (with_reducible first | exact HB.out | apply below_alloc | apply pw_below_drewN | apply below_drew1) | exact HB.out)⟩

/-! ### impl_isEdit: function 70 -/
def impl_isEdit.f (a0_0 : Int) (a0_1 : ByteArray) (a0_2 : ByteArray) : Option (Bool) := (impl_within.f a0_0 0 11).bind fun t156 => (if t156 = true then ((impl_isEngraved.f a0_1).bind fun t157 => (if t157 = true then ((impl_isEngraved.f a0_2).bind fun t158 => (if t158 = true then (some (a0_1.toList != a0_2.toList)) else (some false))) else (some false))) else (some false))
set_option maxHeartbeats 8000000 in
set_option maxRecDepth 100000 in
theorem impl_isEdit.calls (a0_0 : Int) (a0_1 : ByteArray) (a0_2 : ByteArray) (r : Bool) (w : World) (h : impl_isEdit.f a0_0 a0_1 a0_2 = some r) :
    Calls Tryd.prog 70 #[.agg #[.int .i64 a0_0, .string a0_1, .string a0_2]] w fun e w' => e = .returned (.bool r) ∧ Below w.heap.size w w' := by
  have hu52 := Tryd.underlying52
  have HB := Aside0.mk (Below.refl w.heap.size w)
  have H : ((impl_within.f a0_0 0 11).bind fun t156 => (if t156 = true then ((impl_isEngraved.f a0_1).bind fun t157 => (if t157 = true then ((impl_isEngraved.f a0_2).bind fun t158 => (if t158 = true then (some (a0_1.toList != a0_2.toList)) else (some false))) else (some false))) else (some false))) = some r := h
  clear h
  replace H := Option.bind_eq_some_iff.mp H
  obtain ⟨t156, A20, H⟩ := H
  replace H : (if t156 = true then ((impl_isEngraved.f a0_1).bind fun t157 => (if t157 = true then ((impl_isEngraved.f a0_2).bind fun t158 => (if t158 = true then (some (a0_1.toList != a0_2.toList)) else (some false))) else (some false))) else (some false)) = some r := H
  have A2 := Aside0.mk A20
  clear A20
  by_cases c3 : t156 = true
  · subst c3
    have H1 : ((impl_isEngraved.f a0_1).bind fun t157 => (if t157 = true then ((impl_isEngraved.f a0_2).bind fun t158 => (if t158 = true then (some (a0_1.toList != a0_2.toList)) else (some false))) else (some false))) = some r := by rw [if_pos rfl] at H; exact H
    clear H
    have H := H1
    clear H1
    replace H := Option.bind_eq_some_iff.mp H
    obtain ⟨t157, A40, H⟩ := H
    replace H : (if t157 = true then ((impl_isEngraved.f a0_2).bind fun t158 => (if t158 = true then (some (a0_1.toList != a0_2.toList)) else (some false))) else (some false)) = some r := H
    have A4 := Aside0.mk A40
    clear A40
    by_cases c5 : t157 = true
    · subst c5
      have H1 : ((impl_isEngraved.f a0_2).bind fun t158 => (if t158 = true then (some (a0_1.toList != a0_2.toList)) else (some false))) = some r := by rw [if_pos rfl] at H; exact H
      clear H
      have H := H1
      clear H1
      replace H := Option.bind_eq_some_iff.mp H
      obtain ⟨t158, A60, H⟩ := H
      replace H : (if t158 = true then (some (a0_1.toList != a0_2.toList)) else (some false)) = some r := H
      have A6 := Aside0.mk A60
      clear A60
      by_cases c7 : t158 = true
      · subst c7
        have H1 : (some (a0_1.toList != a0_2.toList)) = some r := by rw [if_pos rfl] at H; exact H
        clear H
        have H := H1
        clear H1
        obtain rfl := Option.some.inj H
        go_enter Tryd.func70, Tryd.ntmps70
        go_wp2_with (first | ((with_reducible refine gate_dst (N := 1) rfl ?_); refine box_event ?hg (N := 1) ?hd (cs := #[.int .i64 a0_0, .string a0_1, .string a0_2]) (t := 52) ?hr ?_; (case hd => rfl); (case hg => rfl); (case hr => first | (go_simp; done) | (go_simp; rfl)); intro gb155 hg w8 hbox hb; have n0_ := Aside0.mk (below_step (by repeat (first | (with_reducible first | exact HB.out | apply below_alloc | apply pw_below_drewN | apply below_drew1) | exact HB.out)) hb); have n1_ := Aside0.mk (hbox); have n2_ := Aside0.mk ((by rw [hg]; exact (below_size (by repeat (first | (with_reducible first | exact HB.out | apply below_alloc | apply pw_below_drewN | apply below_drew1) | exact HB.out))) : w.heap.size ≤ gb155)); have n3_ := Aside0.mk ((by rw [hg]; exact (below_size (by repeat (first | (with_reducible first | exact HB.out | apply below_alloc | apply pw_below_drewN | apply below_drew1) | exact HB.out))) : w.heap.size ≤ gb155)); clear HB; have HB := n0_; have BK155 := n1_; have GW155 := n2_; have GE155 := n3_; clear n0_ n1_ n2_ n3_; clear hb hbox hg; have hcz9_0 : w8.cell? ⟨gb155, 0, none⟩ = some (.int .i64 a0_0) := (blk_cell BK155.out 0).trans rfl; have hcz9_1 : w8.cell? ⟨gb155, 1, none⟩ = some (.string a0_1) := (blk_cell BK155.out 1).trans rfl; have hcz9_2 : w8.cell? ⟨gb155, 2, none⟩ = some (.string a0_2) := (blk_cell BK155.out 2).trans rfl; have hfz9_0 := blk_frozen BK155.out 0; have hfz9_1 := blk_frozen BK155.out 1; have hfz9_2 := blk_frozen BK155.out 2) | ((with_reducible refine gate_callee (f := 99) rfl ?_); refine goesL_ (some 5) rfl rfl Tryd.func99 (by kernel_rfl) rfl #[.int .i64 a0_0, .int .i64 0, .int .i64 11] rfl (by (try simp only [List.map_toArray, List.map_cons, List.map_nil]); first | done | rfl | (simp only [List.length_drop, List.length_take]; rfl)) ?_; (with_reducible refine (impl_within.calls a0_0 0 11 true _ A2.out).mono ?_); rintro e w' ⟨rfl, ⟨nd, rfl⟩⟩; refine ⟨_, rfl, ?_⟩) | (go_at_call 100; (with_reducible refine (impl_isEngraved.calls a0_1 true _ A4.out).mono ?_); rintro e w10 ⟨rfl, hb⟩; have n0_ := Aside0.mk (blk_below (g := gb155) (o := .cells #[.int .i64 a0_0, .string a0_1, .string a0_2] 52 (0, 0)) (by (with_reducible repeat (first | refine blk_drewN ?_ _ | refine blk_drew ?_ | refine blk_alloc ?_ _)); exact BK155.out) hb); have n1_ := Aside0.mk (below_step (by repeat (first | (with_reducible first | exact HB.out | apply below_alloc | apply pw_below_drewN | apply below_drew1 | refine below_set ?_ GE155.out) | exact HB.out)) hb); clear BK155; clear HB; have BK155 := n0_; have HB := n1_; clear n0_ n1_; (try clear hb); (try clear hb2); (try clear hk); (try clear hi); have hcz11_0 : w10.cell? ⟨gb155, 0, none⟩ = some (.int .i64 a0_0) := (blk_cell BK155.out 0).trans rfl; have hcz11_1 : w10.cell? ⟨gb155, 1, none⟩ = some (.string a0_1) := (blk_cell BK155.out 1).trans rfl; have hcz11_2 : w10.cell? ⟨gb155, 2, none⟩ = some (.string a0_2) := (blk_cell BK155.out 2).trans rfl; have hfz11_0 := blk_frozen BK155.out 0; have hfz11_1 := blk_frozen BK155.out 1; have hfz11_2 := blk_frozen BK155.out 2) | (go_at_call 100; (with_reducible refine (impl_isEngraved.calls a0_2 true _ A6.out).mono ?_); rintro e w12 ⟨rfl, hb⟩; have n0_ := Aside0.mk (blk_below (g := gb155) (o := .cells #[.int .i64 a0_0, .string a0_1, .string a0_2] 52 (0, 0)) (by (with_reducible repeat (first | refine blk_drewN ?_ _ | refine blk_drew ?_ | refine blk_alloc ?_ _)); exact BK155.out) hb); have n1_ := Aside0.mk (below_step (by repeat (first | (with_reducible first | exact HB.out | apply below_alloc | apply pw_below_drewN | apply below_drew1 | refine below_set ?_ GE155.out) | exact HB.out)) hb); clear BK155; clear HB; have BK155 := n0_; have HB := n1_; clear n0_ n1_; (try clear hb); (try clear hb2); (try clear hk); (try clear hi); have hcz13_0 : w12.cell? ⟨gb155, 0, none⟩ = some (.int .i64 a0_0) := (blk_cell BK155.out 0).trans rfl; have hcz13_1 : w12.cell? ⟨gb155, 1, none⟩ = some (.string a0_1) := (blk_cell BK155.out 1).trans rfl; have hcz13_2 : w12.cell? ⟨gb155, 2, none⟩ = some (.string a0_2) := (blk_cell BK155.out 2).trans rfl; have hfz13_0 := blk_frozen BK155.out 0; have hfz13_1 := blk_frozen BK155.out 1; have hfz13_2 := blk_frozen BK155.out 2))
        go_ret
        exact ⟨by first | rfl | (simp [errW_none, errW_some] <;> rfl) | (simp [*, errW_none, errW_some] <;> rfl), by repeat (first | (with_reducible first | exact HB.out | apply below_alloc | apply pw_below_drewN | apply below_drew1 | refine below_set ?_ GE155.out) | exact HB.out)⟩
      · replace c7 := Bool.eq_false_iff.mpr c7
        subst c7
        have H1 : (some false) = some r := by rw [if_neg (show ¬ (false = true) by decide)] at H; exact H
        clear H
        have H := H1
        clear H1
        obtain rfl := Option.some.inj H
        go_enter Tryd.func70, Tryd.ntmps70
        go_wp2_with (first | ((with_reducible refine gate_dst (N := 1) rfl ?_); refine box_event ?hg (N := 1) ?hd (cs := #[.int .i64 a0_0, .string a0_1, .string a0_2]) (t := 52) ?hr ?_; (case hd => rfl); (case hg => rfl); (case hr => first | (go_simp; done) | (go_simp; rfl)); intro gb155 hg w14 hbox hb; have n0_ := Aside0.mk (below_step (by repeat (first | (with_reducible first | exact HB.out | apply below_alloc | apply pw_below_drewN | apply below_drew1) | exact HB.out)) hb); have n1_ := Aside0.mk (hbox); have n2_ := Aside0.mk ((by rw [hg]; exact (below_size (by repeat (first | (with_reducible first | exact HB.out | apply below_alloc | apply pw_below_drewN | apply below_drew1) | exact HB.out))) : w.heap.size ≤ gb155)); have n3_ := Aside0.mk ((by rw [hg]; exact (below_size (by repeat (first | (with_reducible first | exact HB.out | apply below_alloc | apply pw_below_drewN | apply below_drew1) | exact HB.out))) : w.heap.size ≤ gb155)); clear HB; have HB := n0_; have BK155 := n1_; have GW155 := n2_; have GE155 := n3_; clear n0_ n1_ n2_ n3_; clear hb hbox hg; have hcz15_0 : w14.cell? ⟨gb155, 0, none⟩ = some (.int .i64 a0_0) := (blk_cell BK155.out 0).trans rfl; have hcz15_1 : w14.cell? ⟨gb155, 1, none⟩ = some (.string a0_1) := (blk_cell BK155.out 1).trans rfl; have hcz15_2 : w14.cell? ⟨gb155, 2, none⟩ = some (.string a0_2) := (blk_cell BK155.out 2).trans rfl; have hfz15_0 := blk_frozen BK155.out 0; have hfz15_1 := blk_frozen BK155.out 1; have hfz15_2 := blk_frozen BK155.out 2) | ((with_reducible refine gate_callee (f := 99) rfl ?_); refine goesL_ (some 5) rfl rfl Tryd.func99 (by kernel_rfl) rfl #[.int .i64 a0_0, .int .i64 0, .int .i64 11] rfl (by (try simp only [List.map_toArray, List.map_cons, List.map_nil]); first | done | rfl | (simp only [List.length_drop, List.length_take]; rfl)) ?_; (with_reducible refine (impl_within.calls a0_0 0 11 true _ A2.out).mono ?_); rintro e w' ⟨rfl, ⟨nd, rfl⟩⟩; refine ⟨_, rfl, ?_⟩) | (go_at_call 100; (with_reducible refine (impl_isEngraved.calls a0_1 true _ A4.out).mono ?_); rintro e w16 ⟨rfl, hb⟩; have n0_ := Aside0.mk (blk_below (g := gb155) (o := .cells #[.int .i64 a0_0, .string a0_1, .string a0_2] 52 (0, 0)) (by (with_reducible repeat (first | refine blk_drewN ?_ _ | refine blk_drew ?_ | refine blk_alloc ?_ _)); exact BK155.out) hb); have n1_ := Aside0.mk (below_step (by repeat (first | (with_reducible first | exact HB.out | apply below_alloc | apply pw_below_drewN | apply below_drew1 | refine below_set ?_ GE155.out) | exact HB.out)) hb); clear BK155; clear HB; have BK155 := n0_; have HB := n1_; clear n0_ n1_; (try clear hb); (try clear hb2); (try clear hk); (try clear hi); have hcz17_0 : w16.cell? ⟨gb155, 0, none⟩ = some (.int .i64 a0_0) := (blk_cell BK155.out 0).trans rfl; have hcz17_1 : w16.cell? ⟨gb155, 1, none⟩ = some (.string a0_1) := (blk_cell BK155.out 1).trans rfl; have hcz17_2 : w16.cell? ⟨gb155, 2, none⟩ = some (.string a0_2) := (blk_cell BK155.out 2).trans rfl; have hfz17_0 := blk_frozen BK155.out 0; have hfz17_1 := blk_frozen BK155.out 1; have hfz17_2 := blk_frozen BK155.out 2) | (go_at_call 100; (with_reducible refine (impl_isEngraved.calls a0_2 false _ A6.out).mono ?_); rintro e w18 ⟨rfl, hb⟩; have n0_ := Aside0.mk (blk_below (g := gb155) (o := .cells #[.int .i64 a0_0, .string a0_1, .string a0_2] 52 (0, 0)) (by (with_reducible repeat (first | refine blk_drewN ?_ _ | refine blk_drew ?_ | refine blk_alloc ?_ _)); exact BK155.out) hb); have n1_ := Aside0.mk (below_step (by repeat (first | (with_reducible first | exact HB.out | apply below_alloc | apply pw_below_drewN | apply below_drew1 | refine below_set ?_ GE155.out) | exact HB.out)) hb); clear BK155; clear HB; have BK155 := n0_; have HB := n1_; clear n0_ n1_; (try clear hb); (try clear hb2); (try clear hk); (try clear hi)))
        go_ret
        exact ⟨by first | rfl | (simp [errW_none, errW_some] <;> rfl) | (simp [*, errW_none, errW_some] <;> rfl), by repeat (first | (with_reducible first | exact HB.out | apply below_alloc | apply pw_below_drewN | apply below_drew1 | refine below_set ?_ GE155.out) | exact HB.out)⟩
    · replace c5 := Bool.eq_false_iff.mpr c5
      subst c5
      have H1 : (some false) = some r := by rw [if_neg (show ¬ (false = true) by decide)] at H; exact H
      clear H
      have H := H1
      clear H1
      obtain rfl := Option.some.inj H
      go_enter Tryd.func70, Tryd.ntmps70
      go_wp2_with (first | ((with_reducible refine gate_dst (N := 1) rfl ?_); refine box_event ?hg (N := 1) ?hd (cs := #[.int .i64 a0_0, .string a0_1, .string a0_2]) (t := 52) ?hr ?_; (case hd => rfl); (case hg => rfl); (case hr => first | (go_simp; done) | (go_simp; rfl)); intro gb155 hg w19 hbox hb; have n0_ := Aside0.mk (below_step (by repeat (first | (with_reducible first | exact HB.out | apply below_alloc | apply pw_below_drewN | apply below_drew1) | exact HB.out)) hb); have n1_ := Aside0.mk (hbox); have n2_ := Aside0.mk ((by rw [hg]; exact (below_size (by repeat (first | (with_reducible first | exact HB.out | apply below_alloc | apply pw_below_drewN | apply below_drew1) | exact HB.out))) : w.heap.size ≤ gb155)); have n3_ := Aside0.mk ((by rw [hg]; exact (below_size (by repeat (first | (with_reducible first | exact HB.out | apply below_alloc | apply pw_below_drewN | apply below_drew1) | exact HB.out))) : w.heap.size ≤ gb155)); clear HB; have HB := n0_; have BK155 := n1_; have GW155 := n2_; have GE155 := n3_; clear n0_ n1_ n2_ n3_; clear hb hbox hg; have hcz20_0 : w19.cell? ⟨gb155, 0, none⟩ = some (.int .i64 a0_0) := (blk_cell BK155.out 0).trans rfl; have hcz20_1 : w19.cell? ⟨gb155, 1, none⟩ = some (.string a0_1) := (blk_cell BK155.out 1).trans rfl; have hcz20_2 : w19.cell? ⟨gb155, 2, none⟩ = some (.string a0_2) := (blk_cell BK155.out 2).trans rfl; have hfz20_0 := blk_frozen BK155.out 0; have hfz20_1 := blk_frozen BK155.out 1; have hfz20_2 := blk_frozen BK155.out 2) | ((with_reducible refine gate_callee (f := 99) rfl ?_); refine goesL_ (some 5) rfl rfl Tryd.func99 (by kernel_rfl) rfl #[.int .i64 a0_0, .int .i64 0, .int .i64 11] rfl (by (try simp only [List.map_toArray, List.map_cons, List.map_nil]); first | done | rfl | (simp only [List.length_drop, List.length_take]; rfl)) ?_; (with_reducible refine (impl_within.calls a0_0 0 11 true _ A2.out).mono ?_); rintro e w' ⟨rfl, ⟨nd, rfl⟩⟩; refine ⟨_, rfl, ?_⟩) | (go_at_call 100; (with_reducible refine (impl_isEngraved.calls a0_1 false _ A4.out).mono ?_); rintro e w21 ⟨rfl, hb⟩; have n0_ := Aside0.mk (blk_below (g := gb155) (o := .cells #[.int .i64 a0_0, .string a0_1, .string a0_2] 52 (0, 0)) (by (with_reducible repeat (first | refine blk_drewN ?_ _ | refine blk_drew ?_ | refine blk_alloc ?_ _)); exact BK155.out) hb); have n1_ := Aside0.mk (below_step (by repeat (first | (with_reducible first | exact HB.out | apply below_alloc | apply pw_below_drewN | apply below_drew1 | refine below_set ?_ GE155.out) | exact HB.out)) hb); clear BK155; clear HB; have BK155 := n0_; have HB := n1_; clear n0_ n1_; (try clear hb); (try clear hb2); (try clear hk); (try clear hi)))
      go_ret
      exact ⟨by first | rfl | (simp [errW_none, errW_some] <;> rfl) | (simp [*, errW_none, errW_some] <;> rfl), by repeat (first | (with_reducible first | exact HB.out | apply below_alloc | apply pw_below_drewN | apply below_drew1 | refine below_set ?_ GE155.out) | exact HB.out)⟩
  · replace c3 := Bool.eq_false_iff.mpr c3
    subst c3
    have H1 : (some false) = some r := by rw [if_neg (show ¬ (false = true) by decide)] at H; exact H
    clear H
    have H := H1
    clear H1
    obtain rfl := Option.some.inj H
    go_enter Tryd.func70, Tryd.ntmps70
    go_wp2_with (first | ((with_reducible refine gate_dst (N := 1) rfl ?_); refine box_event ?hg (N := 1) ?hd (cs := #[.int .i64 a0_0, .string a0_1, .string a0_2]) (t := 52) ?hr ?_; (case hd => rfl); (case hg => rfl); (case hr => first | (go_simp; done) | (go_simp; rfl)); intro gb155 hg w22 hbox hb; have n0_ := Aside0.mk (below_step (by repeat (first | (with_reducible first | exact HB.out | apply below_alloc | apply pw_below_drewN | apply below_drew1) | exact HB.out)) hb); have n1_ := Aside0.mk (hbox); have n2_ := Aside0.mk ((by rw [hg]; exact (below_size (by repeat (first | (with_reducible first | exact HB.out | apply below_alloc | apply pw_below_drewN | apply below_drew1) | exact HB.out))) : w.heap.size ≤ gb155)); have n3_ := Aside0.mk ((by rw [hg]; exact (below_size (by repeat (first | (with_reducible first | exact HB.out | apply below_alloc | apply pw_below_drewN | apply below_drew1) | exact HB.out))) : w.heap.size ≤ gb155)); clear HB; have HB := n0_; have BK155 := n1_; have GW155 := n2_; have GE155 := n3_; clear n0_ n1_ n2_ n3_; clear hb hbox hg; have hcz23_0 : w22.cell? ⟨gb155, 0, none⟩ = some (.int .i64 a0_0) := (blk_cell BK155.out 0).trans rfl; have hcz23_1 : w22.cell? ⟨gb155, 1, none⟩ = some (.string a0_1) := (blk_cell BK155.out 1).trans rfl; have hcz23_2 : w22.cell? ⟨gb155, 2, none⟩ = some (.string a0_2) := (blk_cell BK155.out 2).trans rfl; have hfz23_0 := blk_frozen BK155.out 0; have hfz23_1 := blk_frozen BK155.out 1; have hfz23_2 := blk_frozen BK155.out 2) | ((with_reducible refine gate_callee (f := 99) rfl ?_); refine goesL_ (some 5) rfl rfl Tryd.func99 (by kernel_rfl) rfl #[.int .i64 a0_0, .int .i64 0, .int .i64 11] rfl (by (try simp only [List.map_toArray, List.map_cons, List.map_nil]); first | done | rfl | (simp only [List.length_drop, List.length_take]; rfl)) ?_; (with_reducible refine (impl_within.calls a0_0 0 11 false _ A2.out).mono ?_); rintro e w' ⟨rfl, ⟨nd, rfl⟩⟩; refine ⟨_, rfl, ?_⟩))
    go_ret
    exact ⟨by first | rfl | (simp [errW_none, errW_some] <;> rfl) | (simp [*, errW_none, errW_some] <;> rfl), by repeat (first | (with_reducible first | exact HB.out | apply below_alloc | apply pw_below_drewN | apply below_drew1 | refine below_set ?_ GE155.out) | exact HB.out)⟩

/-! ### impl_engravedText: function 101 -/
def impl_engravedText.f (a0 : ByteArray) : Option (ByteArray) := if a0.toList = ([] : List UInt8) then (some (⟨#[45]⟩ : ByteArray)) else (some a0)
set_option maxHeartbeats 8000000 in
set_option maxRecDepth 100000 in
theorem impl_engravedText.calls (a0 : ByteArray) (r : ByteArray) (w : World) (h : impl_engravedText.f a0 = some r) :
    Calls Tryd.prog 101 #[.string a0] w fun e w' => e = .returned (.string r) ∧ Drawn0 w w' := by
  have H : (if a0.toList = ([] : List UInt8) then (some (⟨#[45]⟩ : ByteArray)) else (some a0)) = some r := h
  clear h
  by_cases c2 : a0.toList = ([] : List UInt8)
  · rw [if_pos c2] at H
    have c2b0 : (a0.toList == ([] : List UInt8)) = true := beq_iff_eq.mpr c2
    have c2b1 : (a0.toList != ([] : List UInt8)) = false := bne_eq_false_iff_eq.mpr c2
    clear c2
    obtain rfl := Option.some.inj H
    go_enter Tryd.func101, Tryd.ntmps101
    go_wp2
    go_ret
    exact ⟨by first | rfl | (simp; done) | (simp [*]; done), by repeat (first | exact Drawn0.refl _ | apply Drawn0.step)⟩
  · rw [if_neg c2] at H
    have c2b0 : (a0.toList == ([] : List UInt8)) = false := beq_eq_false_iff_ne.mpr c2
    have c2b1 : (a0.toList != ([] : List UInt8)) = true := bne_iff_ne.mpr c2
    obtain rfl := Option.some.inj H
    go_enter Tryd.func101, Tryd.ntmps101
    go_wp2
    go_ret
    exact ⟨by first | rfl | (simp; done) | (simp [*]; done), by repeat (first | exact Drawn0.refl _ | apply Drawn0.step)⟩

/-! ### impl_EditText: function 71 -/
def impl_EditText.f (a0_0 : Int) (a0_1 : ByteArray) (a0_2 : ByteArray) : Option (ByteArray) := (impl_isEdit.f a0_0 a0_1 a0_2).bind fun t160 => (if t160 = true then ((impl_Decimal.f a0_0).bind fun t161 => (if 1 + t161.size ≤ 9223372036854775807 then (if ((⟨#[35]⟩ : ByteArray) ++ t161).size + 1 ≤ 9223372036854775807 then ((impl_engravedText.f a0_1).bind fun t162 => (if (((⟨#[35]⟩ : ByteArray) ++ t161) ++ (⟨#[32]⟩ : ByteArray)).size + t162.size ≤ 9223372036854775807 then (if ((((⟨#[35]⟩ : ByteArray) ++ t161) ++ (⟨#[32]⟩ : ByteArray)) ++ t162).size + 3 ≤ 9223372036854775807 then ((impl_engravedText.f a0_2).bind fun t163 => (if (((((⟨#[35]⟩ : ByteArray) ++ t161) ++ (⟨#[32]⟩ : ByteArray)) ++ t162) ++ (⟨#[32, 62, 32]⟩ : ByteArray)).size + t163.size ≤ 9223372036854775807 then (some ((((((⟨#[35]⟩ : ByteArray) ++ t161) ++ (⟨#[32]⟩ : ByteArray)) ++ t162) ++ (⟨#[32, 62, 32]⟩ : ByteArray)) ++ t163)) else (none))) else (none)) else (none))) else (none)) else (none))) else (some (⟨#[]⟩ : ByteArray)))
def impl_EditText.T3 : Bool × List (List Nat × List Nat) := (true, [([], []), ([0], [0]), ([1], [1]), ([2], [2]), ([3], [3]), ([], []), ([5], [5]), ([6, 2], [6]), ([4, 7], [4, 7]), ([8], [8]), ([], []), ([10], [10]), ([11, 7], [11]), ([9, 12], [9, 12]), ([13, 12, 0, 1, 2, 3, 4, 5, 6, 7, 8, 9, 10, 11, 12, 13], [13])])
def impl_EditText.B3 : List Nat := [0, 1, 3, 7, 15, 0, 32, 103, 255, 511, 0, 1024, 3303, 8191, 16383]
theorem impl_EditText.tab3 : rtab .any (opsOf Tryd.f71 3) = impl_EditText.T3 := by kernel_rfl
theorem impl_EditText.bits3 : waitsOk impl_EditText.T3.2 impl_EditText.B3 = true := by kernel_rfl
set_option maxHeartbeats 8000000 in
set_option maxRecDepth 100000 in
theorem impl_EditText.calls (a0_0 : Int) (a0_1 : ByteArray) (a0_2 : ByteArray) (r : ByteArray) (w : World) (h : impl_EditText.f a0_0 a0_1 a0_2 = some r) (hLibW : LibW w) :
    Calls Tryd.prog 71 #[.agg #[.int .i64 a0_0, .string a0_1, .string a0_2]] w fun e w' => e = .returned (.string r) ∧ Below w.heap.size w w' := by
  have HLIBW := Aside0.mk hLibW
  clear hLibW
  have hu52 := Tryd.underlying52
  have HB := Aside0.mk (Below.refl w.heap.size w)
  have H : ((impl_isEdit.f a0_0 a0_1 a0_2).bind fun t160 => (if t160 = true then ((impl_Decimal.f a0_0).bind fun t161 => (if 1 + t161.size ≤ 9223372036854775807 then (if ((⟨#[35]⟩ : ByteArray) ++ t161).size + 1 ≤ 9223372036854775807 then ((impl_engravedText.f a0_1).bind fun t162 => (if (((⟨#[35]⟩ : ByteArray) ++ t161) ++ (⟨#[32]⟩ : ByteArray)).size + t162.size ≤ 9223372036854775807 then (if ((((⟨#[35]⟩ : ByteArray) ++ t161) ++ (⟨#[32]⟩ : ByteArray)) ++ t162).size + 3 ≤ 9223372036854775807 then ((impl_engravedText.f a0_2).bind fun t163 => (if (((((⟨#[35]⟩ : ByteArray) ++ t161) ++ (⟨#[32]⟩ : ByteArray)) ++ t162) ++ (⟨#[32, 62, 32]⟩ : ByteArray)).size + t163.size ≤ 9223372036854775807 then (some ((((((⟨#[35]⟩ : ByteArray) ++ t161) ++ (⟨#[32]⟩ : ByteArray)) ++ t162) ++ (⟨#[32, 62, 32]⟩ : ByteArray)) ++ t163)) else (none))) else (none)) else (none))) else (none)) else (none))) else (some (⟨#[]⟩ : ByteArray)))) = some r := h
  clear h
  replace H := Option.bind_eq_some_iff.mp H
  obtain ⟨t160, A20, H⟩ := H
  replace H : (if t160 = true then ((impl_Decimal.f a0_0).bind fun t161 => (if 1 + t161.size ≤ 9223372036854775807 then (if ((⟨#[35]⟩ : ByteArray) ++ t161).size + 1 ≤ 9223372036854775807 then ((impl_engravedText.f a0_1).bind fun t162 => (if (((⟨#[35]⟩ : ByteArray) ++ t161) ++ (⟨#[32]⟩ : ByteArray)).size + t162.size ≤ 9223372036854775807 then (if ((((⟨#[35]⟩ : ByteArray) ++ t161) ++ (⟨#[32]⟩ : ByteArray)) ++ t162).size + 3 ≤ 9223372036854775807 then ((impl_engravedText.f a0_2).bind fun t163 => (if (((((⟨#[35]⟩ : ByteArray) ++ t161) ++ (⟨#[32]⟩ : ByteArray)) ++ t162) ++ (⟨#[32, 62, 32]⟩ : ByteArray)).size + t163.size ≤ 9223372036854775807 then (some ((((((⟨#[35]⟩ : ByteArray) ++ t161) ++ (⟨#[32]⟩ : ByteArray)) ++ t162) ++ (⟨#[32, 62, 32]⟩ : ByteArray)) ++ t163)) else (none))) else (none)) else (none))) else (none)) else (none))) else (some (⟨#[]⟩ : ByteArray))) = some r := H
  have A2 := Aside0.mk A20
  clear A20
  by_cases c3 : t160 = true
  · subst c3
    have H1 : ((impl_Decimal.f a0_0).bind fun t161 => (if 1 + t161.size ≤ 9223372036854775807 then (if ((⟨#[35]⟩ : ByteArray) ++ t161).size + 1 ≤ 9223372036854775807 then ((impl_engravedText.f a0_1).bind fun t162 => (if (((⟨#[35]⟩ : ByteArray) ++ t161) ++ (⟨#[32]⟩ : ByteArray)).size + t162.size ≤ 9223372036854775807 then (if ((((⟨#[35]⟩ : ByteArray) ++ t161) ++ (⟨#[32]⟩ : ByteArray)) ++ t162).size + 3 ≤ 9223372036854775807 then ((impl_engravedText.f a0_2).bind fun t163 => (if (((((⟨#[35]⟩ : ByteArray) ++ t161) ++ (⟨#[32]⟩ : ByteArray)) ++ t162) ++ (⟨#[32, 62, 32]⟩ : ByteArray)).size + t163.size ≤ 9223372036854775807 then (some ((((((⟨#[35]⟩ : ByteArray) ++ t161) ++ (⟨#[32]⟩ : ByteArray)) ++ t162) ++ (⟨#[32, 62, 32]⟩ : ByteArray)) ++ t163)) else (none))) else (none)) else (none))) else (none)) else (none))) = some r := by rw [if_pos rfl] at H; exact H
    clear H
    have H := H1
    clear H1
    replace H := Option.bind_eq_some_iff.mp H
    obtain ⟨t161, A40, H⟩ := H
    replace H : (if 1 + t161.size ≤ 9223372036854775807 then (if ((⟨#[35]⟩ : ByteArray) ++ t161).size + 1 ≤ 9223372036854775807 then ((impl_engravedText.f a0_1).bind fun t162 => (if (((⟨#[35]⟩ : ByteArray) ++ t161) ++ (⟨#[32]⟩ : ByteArray)).size + t162.size ≤ 9223372036854775807 then (if ((((⟨#[35]⟩ : ByteArray) ++ t161) ++ (⟨#[32]⟩ : ByteArray)) ++ t162).size + 3 ≤ 9223372036854775807 then ((impl_engravedText.f a0_2).bind fun t163 => (if (((((⟨#[35]⟩ : ByteArray) ++ t161) ++ (⟨#[32]⟩ : ByteArray)) ++ t162) ++ (⟨#[32, 62, 32]⟩ : ByteArray)).size + t163.size ≤ 9223372036854775807 then (some ((((((⟨#[35]⟩ : ByteArray) ++ t161) ++ (⟨#[32]⟩ : ByteArray)) ++ t162) ++ (⟨#[32, 62, 32]⟩ : ByteArray)) ++ t163)) else (none))) else (none)) else (none))) else (none)) else (none)) = some r := H
    have A4 := Aside0.mk A40
    clear A40
    by_cases c5 : 1 + t161.size ≤ 9223372036854775807
    · rw [if_pos c5] at H
      have c5b0 := eq_true c5
      have c5b1 : decide (1 + t161.size ≤ 9223372036854775807) = true := decide_eq_true c5
      try have c5b2 : (9223372036854775807 < 1 + t161.size) = False := eq_false (Nat.not_lt.2 c5)
      by_cases c6 : ((⟨#[35]⟩ : ByteArray) ++ t161).size + 1 ≤ 9223372036854775807
      · rw [if_pos c6] at H
        have c6b0 := eq_true c6
        have c6b1 : decide (((⟨#[35]⟩ : ByteArray) ++ t161).size + 1 ≤ 9223372036854775807) = true := decide_eq_true c6
        try have c6b2 : (9223372036854775807 < ((⟨#[35]⟩ : ByteArray) ++ t161).size + 1) = False := eq_false (Nat.not_lt.2 c6)
        have c6b4 := c6b2
        simp only [ByteArray.size_append, show (⟨#[35]⟩ : ByteArray).size = 1 from rfl] at c6b4
        replace H := Option.bind_eq_some_iff.mp H
        obtain ⟨t162, A70, H⟩ := H
        replace H : (if (((⟨#[35]⟩ : ByteArray) ++ t161) ++ (⟨#[32]⟩ : ByteArray)).size + t162.size ≤ 9223372036854775807 then (if ((((⟨#[35]⟩ : ByteArray) ++ t161) ++ (⟨#[32]⟩ : ByteArray)) ++ t162).size + 3 ≤ 9223372036854775807 then ((impl_engravedText.f a0_2).bind fun t163 => (if (((((⟨#[35]⟩ : ByteArray) ++ t161) ++ (⟨#[32]⟩ : ByteArray)) ++ t162) ++ (⟨#[32, 62, 32]⟩ : ByteArray)).size + t163.size ≤ 9223372036854775807 then (some ((((((⟨#[35]⟩ : ByteArray) ++ t161) ++ (⟨#[32]⟩ : ByteArray)) ++ t162) ++ (⟨#[32, 62, 32]⟩ : ByteArray)) ++ t163)) else (none))) else (none)) else (none)) = some r := H
        have A7 := Aside0.mk A70
        clear A70
        by_cases c8 : (((⟨#[35]⟩ : ByteArray) ++ t161) ++ (⟨#[32]⟩ : ByteArray)).size + t162.size ≤ 9223372036854775807
        · rw [if_pos c8] at H
          have c8b0 := eq_true c8
          have c8b1 : decide ((((⟨#[35]⟩ : ByteArray) ++ t161) ++ (⟨#[32]⟩ : ByteArray)).size + t162.size ≤ 9223372036854775807) = true := decide_eq_true c8
          try have c8b2 : (9223372036854775807 < (((⟨#[35]⟩ : ByteArray) ++ t161) ++ (⟨#[32]⟩ : ByteArray)).size + t162.size) = False := eq_false (Nat.not_lt.2 c8)
          have c8b4 := c8b2
          simp only [ByteArray.size_append, show (⟨#[35]⟩ : ByteArray).size = 1 from rfl, show (⟨#[32]⟩ : ByteArray).size = 1 from rfl] at c8b4
          by_cases c9 : ((((⟨#[35]⟩ : ByteArray) ++ t161) ++ (⟨#[32]⟩ : ByteArray)) ++ t162).size + 3 ≤ 9223372036854775807
          · rw [if_pos c9] at H
            have c9b0 := eq_true c9
            have c9b1 : decide (((((⟨#[35]⟩ : ByteArray) ++ t161) ++ (⟨#[32]⟩ : ByteArray)) ++ t162).size + 3 ≤ 9223372036854775807) = true := decide_eq_true c9
            try have c9b2 : (9223372036854775807 < ((((⟨#[35]⟩ : ByteArray) ++ t161) ++ (⟨#[32]⟩ : ByteArray)) ++ t162).size + 3) = False := eq_false (Nat.not_lt.2 c9)
            have c9b4 := c9b2
            simp only [ByteArray.size_append, show (⟨#[35]⟩ : ByteArray).size = 1 from rfl, show (⟨#[32]⟩ : ByteArray).size = 1 from rfl] at c9b4
            replace H := Option.bind_eq_some_iff.mp H
            obtain ⟨t163, A100, H⟩ := H
            replace H : (if (((((⟨#[35]⟩ : ByteArray) ++ t161) ++ (⟨#[32]⟩ : ByteArray)) ++ t162) ++ (⟨#[32, 62, 32]⟩ : ByteArray)).size + t163.size ≤ 9223372036854775807 then (some ((((((⟨#[35]⟩ : ByteArray) ++ t161) ++ (⟨#[32]⟩ : ByteArray)) ++ t162) ++ (⟨#[32, 62, 32]⟩ : ByteArray)) ++ t163)) else (none)) = some r := H
            have A10 := Aside0.mk A100
            clear A100
            by_cases c11 : (((((⟨#[35]⟩ : ByteArray) ++ t161) ++ (⟨#[32]⟩ : ByteArray)) ++ t162) ++ (⟨#[32, 62, 32]⟩ : ByteArray)).size + t163.size ≤ 9223372036854775807
            · rw [if_pos c11] at H
              have c11b0 := eq_true c11
              have c11b1 : decide ((((((⟨#[35]⟩ : ByteArray) ++ t161) ++ (⟨#[32]⟩ : ByteArray)) ++ t162) ++ (⟨#[32, 62, 32]⟩ : ByteArray)).size + t163.size ≤ 9223372036854775807) = true := decide_eq_true c11
              try have c11b2 : (9223372036854775807 < (((((⟨#[35]⟩ : ByteArray) ++ t161) ++ (⟨#[32]⟩ : ByteArray)) ++ t162) ++ (⟨#[32, 62, 32]⟩ : ByteArray)).size + t163.size) = False := eq_false (Nat.not_lt.2 c11)
              have c11b4 := c11b2
              simp only [ByteArray.size_append, show (⟨#[35]⟩ : ByteArray).size = 1 from rfl, show (⟨#[32]⟩ : ByteArray).size = 1 from rfl, show (⟨#[32, 62, 32]⟩ : ByteArray).size = 3 from rfl] at c11b4
              obtain rfl := Option.some.inj H
              go_enter Tryd.func71, Tryd.ntmps71
              try go_wp2_with (first | ((with_reducible refine gate_dst (N := 1) rfl ?_); refine box_event ?hg (N := 1) ?hd (cs := #[.int .i64 a0_0, .string a0_1, .string a0_2]) (t := 52) ?hr ?_; (case hd => rfl); (case hg => rfl); (case hr => first | (go_simp; done) | (go_simp; rfl)); intro gb159 hg w12 hbox hb; have n0_ := Aside0.mk (below_step (by repeat (first | (with_reducible first | exact HB.out | apply below_alloc | apply pw_below_drewN | apply below_drew1) | exact HB.out)) hb); have n1_ := Aside0.mk (hbox); have n2_ := Aside0.mk ((by rw [hg]; exact (below_size (by repeat (first | (with_reducible first | exact HB.out | apply below_alloc | apply pw_below_drewN | apply below_drew1) | exact HB.out))) : w.heap.size ≤ gb159)); have n3_ := Aside0.mk ((by rw [hg]; exact (below_size (by repeat (first | (with_reducible first | exact HB.out | apply below_alloc | apply pw_below_drewN | apply below_drew1) | exact HB.out))) : w.heap.size ≤ gb159)); clear HB; have HB := n0_; have BK159 := n1_; have GW159 := n2_; have GE159 := n3_; clear n0_ n1_ n2_ n3_; clear hb hbox hg; have hcz13_0 : w12.cell? ⟨gb159, 0, none⟩ = some (.int .i64 a0_0) := (blk_cell BK159.out 0).trans rfl; have hcz13_1 : w12.cell? ⟨gb159, 1, none⟩ = some (.string a0_1) := (blk_cell BK159.out 1).trans rfl; have hcz13_2 : w12.cell? ⟨gb159, 2, none⟩ = some (.string a0_2) := (blk_cell BK159.out 2).trans rfl; have hfz13_0 := blk_frozen BK159.out 0; have hfz13_1 := blk_frozen BK159.out 1; have hfz13_2 := blk_frozen BK159.out 2) | ((with_reducible refine gate_callee (f := 70) rfl ?_); refine goesL_ (some 4) rfl rfl Tryd.func70 (by kernel_rfl) rfl #[.agg #[.int .i64 a0_0, .string a0_1, .string a0_2]] rfl (by (try simp only [List.map_toArray, List.map_cons, List.map_nil]); first | done | rfl | (simp only [List.length_drop, List.length_take]; rfl)) ?_; (with_reducible refine (impl_isEdit.calls a0_0 a0_1 a0_2 true _ A2.out).mono ?_); rintro e w14 ⟨rfl, hb⟩; refine ⟨_, rfl, ?_⟩; have n0_ := Aside0.mk (blk_below (g := gb159) (o := .cells #[.int .i64 a0_0, .string a0_1, .string a0_2] 52 (0, 0)) (by (with_reducible repeat (first | refine blk_drewN ?_ _ | refine blk_drew ?_ | refine blk_alloc ?_ _)); exact BK159.out) hb); have n1_ := Aside0.mk (below_step (by repeat (first | (with_reducible first | exact HB.out | apply below_alloc | apply pw_below_drewN | apply below_drew1 | refine below_set ?_ GE159.out) | exact HB.out)) hb); clear BK159; clear HB; have BK159 := n0_; have HB := n1_; clear n0_ n1_; (try clear hb); (try clear hb2); (try clear hk); (try clear hi)))
              have n0_ := Aside0.mk (blk_drew BK159.out)
              have n1_ := Aside0.mk (below_drew1 HB.out)
              clear BK159
              clear HB
              have BK159 := n0_
              have HB := n1_
              clear n0_ n1_
              refine start_ (n := 15) (S := fun w' => w'.cell? ⟨gb159, 0, none⟩ = some (.int .i64 a0_0) ∧ w'.cell? ⟨gb159, 1, none⟩ = some (.string a0_1) ∧ w'.cell? ⟨gb159, 2, none⟩ = some (.string a0_2)) (ds := []) #[false, false, false, false, false, false, false, false, false, false, false, false, false, false, false] (by kernel_rfl) rfl rfl ⟨(blk_cell BK159.out 0).trans rfl, (blk_cell BK159.out 1).trans rfl, (blk_cell BK159.out 2).trans rfl⟩ (fun hHeld => ?_); refine with_tabW impl_EditText.tab3 impl_EditText.bits3 (fun HT_ HW_ => ?_)
              generalize w14.drew = w15 at BK159 HB hHeld ⊢
              refine pure_ (i := 0) (N := some 6) (v := ?_) (a' := ?_) #[true, false, false, false, false, false, false, false, false, false, false, false, false, false, false] rfl rfl (any_of HT_.out (by kernel_rfl)) (fun _ _ _ h => h) (Or.inl ⟨by rfl, ?_⟩) ?_ ?_
              rotate_left
              · intro w'
                go_simp
                with_reducible rfl
              rotate_left
              · simp only [Act.put, List.setIfInBounds_toArray, List.set_cons_zero, List.set_cons_succ, i64_w, i32_w]
                rfl
              refine pure_ (i := 5) (N := some 11) (v := ?_) (a' := ?_) #[true, false, false, false, false, true, false, false, false, false, false, false, false, false, false] rfl rfl (any_of HT_.out (by kernel_rfl)) (fun _ _ _ h => h) (Or.inl ⟨by rfl, ?_⟩) ?_ ?_
              rotate_left
              · intro w'
                go_simp
                with_reducible rfl
              rotate_left
              · simp only [Act.put, List.setIfInBounds_toArray, List.set_cons_zero, List.set_cons_succ, i64_w, i32_w]
                rfl
              refine pure_ (i := 10) (N := some 16) (v := ?_) (a' := ?_) #[true, false, false, false, false, true, false, false, false, false, true, false, false, false, false] rfl rfl (any_of HT_.out (by kernel_rfl)) (fun _ _ _ h => h) (Or.inl ⟨by rfl, ?_⟩) ?_ ?_
              rotate_left
              · intro w'
                go_simp
                with_reducible rfl
              rotate_left
              · simp only [Act.put, List.setIfInBounds_toArray, List.set_cons_zero, List.set_cons_succ, i64_w, i32_w]
                rfl
              refine take_ (i := 1) (N := some 7) (v := ?_) (a' := ?_) #[true, true, false, false, false, true, false, false, false, false, true, false, false, false, false] rfl rfl (take_ofW HT_.out HW_.out (by kernel_rfl)) (fun _ _ _ h => h) (Or.inl ⟨by rfl, ?_⟩) hHeld ?_ ?_
              rotate_left
              · rintro w' ⟨s0, s1, s2⟩
                go_simp
                with_reducible rfl
              rotate_left
              · simp only [Act.put, List.setIfInBounds_toArray, List.set_cons_zero, List.set_cons_succ, i64_w, i32_w]
                rfl
              refine take_ (i := 6) (N := some 12) (v := ?_) (a' := ?_) #[true, true, false, false, false, true, true, false, false, false, true, false, false, false, false] rfl rfl (take_ofW HT_.out HW_.out (by kernel_rfl)) (fun _ _ _ h => h) (Or.inl ⟨by rfl, ?_⟩) hHeld ?_ ?_
              rotate_left
              · rintro w' ⟨s0, s1, s2⟩
                go_simp
                with_reducible rfl
              rotate_left
              · simp only [Act.put, List.setIfInBounds_toArray, List.set_cons_zero, List.set_cons_succ, i64_w, i32_w]
                rfl
              refine take_ (i := 11) (N := some 17) (v := ?_) (a' := ?_) #[true, true, false, false, false, true, true, false, false, false, true, true, false, false, false] rfl rfl (take_ofW HT_.out HW_.out (by kernel_rfl)) (fun _ _ _ h => h) (Or.inl ⟨by rfl, ?_⟩) hHeld ?_ ?_
              rotate_left
              · rintro w' ⟨s0, s1, s2⟩
                go_simp
                with_reducible rfl
              rotate_left
              · simp only [Act.put, List.setIfInBounds_toArray, List.set_cons_zero, List.set_cons_succ, i64_w, i32_w]
                rfl
              refine one_ (i := 2) (N := some 8) #[true, true, true, false, false, true, true, false, false, false, true, true, false, false, false] rfl rfl (one_of HT_.out (by kernel_rfl)) (by decide) (fun K hK => ?_)
              refine goes_ Tryd.func36 (by kernel_rfl) rfl #[.int .i64 a0_0] (by rfl) rfl rfl (by (try simp only [List.map_toArray, List.map_cons, List.map_nil]); first | done | rfl | (simp only [List.length_drop, List.length_take]; rfl)) ?_
              with_reducible refine (impl_Decimal.calls a0_0 t161 _ A4.out ?atLibW_).mono ?_
              case atLibW_ => exact HLIBW.out.below (by repeat (first | (with_reducible first | exact HB.out | apply below_alloc | apply pw_below_drewN | apply below_drew1 | refine below_set ?_ GE159.out) | exact HB.out))
              rintro e w16 ⟨rfl, hb⟩
              refine ⟨_, rfl, ?_⟩
              have n0_ := Aside0.mk (blk_below (g := gb159) (o := .cells #[.int .i64 a0_0, .string a0_1, .string a0_2] 52 (0, 0)) (by (with_reducible repeat (first | refine blk_drewN ?_ _ | refine blk_drew ?_ | refine blk_alloc ?_ _)); exact BK159.out) hb)
              have n1_ := Aside0.mk (below_step (by repeat (first | (with_reducible first | exact HB.out | apply below_alloc | apply pw_below_drewN | apply below_drew1 | refine below_set ?_ GE159.out) | exact HB.out)) hb)
              clear BK159
              clear HB
              have BK159 := n0_
              have HB := n1_
              clear n0_ n1_
              (try clear hb)
              (try clear hb2)
              (try clear hk)
              (try clear hi)
              refine hK.out _ _ ⟨(blk_cell BK159.out 0).trans rfl, (blk_cell BK159.out 1).trans rfl, (blk_cell BK159.out 2).trans rfl⟩ (fun hHeld => ?_)
              clear hK K
              refine norm_ (a' := ?_) ?_ ?_
              rotate_left
              · show Act.put _ (some 8) _ = _
                simp only [Act.put, List.setIfInBounds_toArray, List.set_cons_zero, List.set_cons_succ, i64_w, i32_w]
                rfl
              refine pure_ (i := 3) (N := some 9) (v := ?_) (a' := ?_) #[true, true, true, true, false, true, true, false, false, false, true, true, false, false, false] rfl rfl (any_of HT_.out (by kernel_rfl)) (fun _ _ _ h => h) (Or.inl ⟨by rfl, ?_⟩) ?_ ?_
              rotate_left
              · intro w'
                go_simp
                with_reducible rfl
              rotate_left
              · simp only [Act.put, List.setIfInBounds_toArray, List.set_cons_zero, List.set_cons_succ, i64_w, i32_w]
                rfl
              refine pure_ (i := 4) (N := some 10) (v := ?_) (a' := ?_) #[true, true, true, true, true, true, true, false, false, false, true, true, false, false, false] rfl rfl (any_of HT_.out (by kernel_rfl)) (fun _ _ _ h => h) (Or.inl ⟨by rfl, ?_⟩) ?_ ?_
              rotate_left
              · intro w'
                go_simp
                with_reducible rfl
              rotate_left
              · simp only [Act.put, List.setIfInBounds_toArray, List.set_cons_zero, List.set_cons_succ, i64_w, i32_w]
                rfl
              refine one_ (i := 7) (N := some 13) #[true, true, true, true, true, true, true, true, false, false, true, true, false, false, false] rfl rfl (one_of HT_.out (by kernel_rfl)) (by decide) (fun K hK => ?_)
              refine goes_ Tryd.func101 (by kernel_rfl) rfl #[.string a0_1] (by rfl) rfl rfl (by (try simp only [List.map_toArray, List.map_cons, List.map_nil]); first | done | rfl | (simp only [List.length_drop, List.length_take]; rfl)) ?_
              with_reducible refine (impl_engravedText.calls a0_1 t162 _ A7.out).mono ?_
              rintro e w' ⟨rfl, ⟨nd, rfl⟩⟩
              refine ⟨_, rfl, ?_⟩
              refine hK.out _ _ ⟨(blk_cell BK159.out 0).trans rfl, (blk_cell BK159.out 1).trans rfl, (blk_cell BK159.out 2).trans rfl⟩ (fun hHeld => ?_)
              clear hK K
              refine norm_ (a' := ?_) ?_ ?_
              rotate_left
              · show Act.put _ (some 13) _ = _
                simp only [Act.put, List.setIfInBounds_toArray, List.set_cons_zero, List.set_cons_succ, i64_w, i32_w]
                rfl
              refine pure_ (i := 8) (N := some 14) (v := ?_) (a' := ?_) #[true, true, true, true, true, true, true, true, true, false, true, true, false, false, false] rfl rfl (any_of HT_.out (by kernel_rfl)) (fun _ _ _ h => h) (Or.inl ⟨by rfl, ?_⟩) ?_ ?_
              rotate_left
              · intro w'
                go_simp
                with_reducible rfl
              rotate_left
              · simp only [Act.put, List.setIfInBounds_toArray, List.set_cons_zero, List.set_cons_succ, i64_w, i32_w]
                rfl
              refine pure_ (i := 9) (N := some 15) (v := ?_) (a' := ?_) #[true, true, true, true, true, true, true, true, true, true, true, true, false, false, false] rfl rfl (any_of HT_.out (by kernel_rfl)) (fun _ _ _ h => h) (Or.inl ⟨by rfl, ?_⟩) ?_ ?_
              rotate_left
              · intro w'
                go_simp
                with_reducible rfl
              rotate_left
              · simp only [Act.put, List.setIfInBounds_toArray, List.set_cons_zero, List.set_cons_succ, i64_w, i32_w]
                rfl
              refine one_ (i := 12) (N := some 18) #[true, true, true, true, true, true, true, true, true, true, true, true, true, false, false] rfl rfl (one_of HT_.out (by kernel_rfl)) (by decide) (fun K hK => ?_)
              refine goes_ Tryd.func101 (by kernel_rfl) rfl #[.string a0_2] (by rfl) rfl rfl (by (try simp only [List.map_toArray, List.map_cons, List.map_nil]); first | done | rfl | (simp only [List.length_drop, List.length_take]; rfl)) ?_
              with_reducible refine (impl_engravedText.calls a0_2 t163 _ A10.out).mono ?_
              rintro e w' ⟨rfl, ⟨nd, rfl⟩⟩
              refine ⟨_, rfl, ?_⟩
              refine hK.out _ _ ⟨(blk_cell BK159.out 0).trans rfl, (blk_cell BK159.out 1).trans rfl, (blk_cell BK159.out 2).trans rfl⟩ (fun hHeld => ?_)
              clear hK K
              refine norm_ (a' := ?_) ?_ ?_
              rotate_left
              · show Act.put _ (some 18) _ = _
                simp only [Act.put, List.setIfInBounds_toArray, List.set_cons_zero, List.set_cons_succ, i64_w, i32_w]
                rfl
              refine pure_ (i := 13) (N := some 19) (v := ?_) (a' := ?_) #[true, true, true, true, true, true, true, true, true, true, true, true, true, true, false] rfl rfl (any_of HT_.out (by kernel_rfl)) (fun _ _ _ h => h) (Or.inl ⟨by rfl, ?_⟩) ?_ ?_
              rotate_left
              · intro w'
                go_simp
                with_reducible rfl
              rotate_left
              · simp only [Act.put, List.setIfInBounds_toArray, List.set_cons_zero, List.set_cons_succ, i64_w, i32_w]
                rfl
              refine pure_ (i := 14) (N := some 2) (v := ?_) (a' := ?_) #[true, true, true, true, true, true, true, true, true, true, true, true, true, true, true] rfl rfl (any_of HT_.out (by kernel_rfl)) (fun _ _ _ h => h) (Or.inl ⟨by rfl, ?_⟩) ?_ ?_
              rotate_left
              · intro w'
                go_simp
                with_reducible rfl
              rotate_left
              · simp only [Act.put, List.setIfInBounds_toArray, List.set_cons_zero, List.set_cons_succ, i64_w, i32_w]
                rfl
              refine done_ (done_of HT_.out (by kernel_rfl)) ?_
              try go_wp2
              go_ret
              exact ⟨by first | rfl | (simp [errW_none, errW_some] <;> rfl) | (simp [*, errW_none, errW_some] <;> rfl), by repeat (first | (with_reducible first | exact HB.out | apply below_alloc | apply pw_below_drewN | apply below_drew1 | refine below_set ?_ GE159.out) | exact HB.out)⟩
            · rw [if_neg c11] at H
              exact absurd H (by simp)
          · rw [if_neg c9] at H
            exact absurd H (by simp)
        · rw [if_neg c8] at H
          exact absurd H (by simp)
      · rw [if_neg c6] at H
        exact absurd H (by simp)
    · rw [if_neg c5] at H
      exact absurd H (by simp)
  · replace c3 := Bool.eq_false_iff.mpr c3
    subst c3
    have H1 : (some (⟨#[]⟩ : ByteArray)) = some r := by rw [if_neg (show ¬ (false = true) by decide)] at H; exact H
    clear H
    have H := H1
    clear H1
    obtain rfl := Option.some.inj H
    go_enter Tryd.func71, Tryd.ntmps71
    go_wp2_with (first | ((with_reducible refine gate_dst (N := 1) rfl ?_); refine box_event ?hg (N := 1) ?hd (cs := #[.int .i64 a0_0, .string a0_1, .string a0_2]) (t := 52) ?hr ?_; (case hd => rfl); (case hg => rfl); (case hr => first | (go_simp; done) | (go_simp; rfl)); intro gb159 hg w17 hbox hb; have n0_ := Aside0.mk (below_step (by repeat (first | (with_reducible first | exact HB.out | apply below_alloc | apply pw_below_drewN | apply below_drew1) | exact HB.out)) hb); have n1_ := Aside0.mk (hbox); have n2_ := Aside0.mk ((by rw [hg]; exact (below_size (by repeat (first | (with_reducible first | exact HB.out | apply below_alloc | apply pw_below_drewN | apply below_drew1) | exact HB.out))) : w.heap.size ≤ gb159)); have n3_ := Aside0.mk ((by rw [hg]; exact (below_size (by repeat (first | (with_reducible first | exact HB.out | apply below_alloc | apply pw_below_drewN | apply below_drew1) | exact HB.out))) : w.heap.size ≤ gb159)); clear HB; have HB := n0_; have BK159 := n1_; have GW159 := n2_; have GE159 := n3_; clear n0_ n1_ n2_ n3_; clear hb hbox hg; have hcz18_0 : w17.cell? ⟨gb159, 0, none⟩ = some (.int .i64 a0_0) := (blk_cell BK159.out 0).trans rfl; have hcz18_1 : w17.cell? ⟨gb159, 1, none⟩ = some (.string a0_1) := (blk_cell BK159.out 1).trans rfl; have hcz18_2 : w17.cell? ⟨gb159, 2, none⟩ = some (.string a0_2) := (blk_cell BK159.out 2).trans rfl; have hfz18_0 := blk_frozen BK159.out 0; have hfz18_1 := blk_frozen BK159.out 1; have hfz18_2 := blk_frozen BK159.out 2) | ((with_reducible refine gate_callee (f := 70) rfl ?_); refine goesL_ (some 4) rfl rfl Tryd.func70 (by kernel_rfl) rfl #[.agg #[.int .i64 a0_0, .string a0_1, .string a0_2]] rfl (by (try simp only [List.map_toArray, List.map_cons, List.map_nil]); first | done | rfl | (simp only [List.length_drop, List.length_take]; rfl)) ?_; (with_reducible refine (impl_isEdit.calls a0_0 a0_1 a0_2 false _ A2.out).mono ?_); rintro e w19 ⟨rfl, hb⟩; refine ⟨_, rfl, ?_⟩; have n0_ := Aside0.mk (blk_below (g := gb159) (o := .cells #[.int .i64 a0_0, .string a0_1, .string a0_2] 52 (0, 0)) (by (with_reducible repeat (first | refine blk_drewN ?_ _ | refine blk_drew ?_ | refine blk_alloc ?_ _)); exact BK159.out) hb); have n1_ := Aside0.mk (below_step (by repeat (first | (with_reducible first | exact HB.out | apply below_alloc | apply pw_below_drewN | apply below_drew1 | refine below_set ?_ GE159.out) | exact HB.out)) hb); clear BK159; clear HB; have BK159 := n0_; have HB := n1_; clear n0_ n1_; (try clear hb); (try clear hb2); (try clear hk); (try clear hi)))
    go_ret
    exact ⟨by first | rfl | (simp [errW_none, errW_some] <;> rfl) | (simp [*, errW_none, errW_some] <;> rfl), by repeat (first | (with_reducible first | exact HB.out | apply below_alloc | apply pw_below_drewN | apply below_drew1 | refine below_set ?_ GE159.out) | exact HB.out)⟩

end Go.Proofs.YtdodbfialiggjaaDoor.PFnExactReadEdit
