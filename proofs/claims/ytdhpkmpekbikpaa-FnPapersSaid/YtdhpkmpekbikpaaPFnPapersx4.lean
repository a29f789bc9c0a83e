-- Made by a program of this session (gprint.py) out of the kit's print of the translation and texts of my own.
import Derived.Test.YtdhpkmpekbikpaaPFnPapersx0
import Derived.Test.YtdhpkmpekbikpaaPFnPapersx1
import Derived.Test.YtdhpkmpekbikpaaPFnPapersx2
import Derived.Test.YtdhpkmpekbikpaaPFnPapersx3
namespace Go.Proofs.Ytdhpkmpekbikpaa.PFnPapers
open Go.RowKit Go.Proofs.YtdhpkmpekbikpaaW.PrintWords Go.Proofs.YtdhpkmpekbikpaaW.PrintLast Go.Proofs.YtdhpkmpekbikpaaW.PrintMore
attribute [local go_sem] max2_int min2_int max_two min_two max_three min_three max_four min_four   -- for this text's walks alone
set_option linter.unusedVariables false
set_option linter.unusedSimpArgs false

/-! ### laws_FnPapers: function 3 -/
mutual
def laws_FnPapers.j0 : Nat → List Int → Int → Int → Int → Bool → Int → Int → Int → Int → Option (Bool)
  | 0, _, _, _, _, _, _, _, _, _ => none
  | k + 1, x1, x6, x7, x8, x85, x204000, x204001, x204002, x204003 => if x85 = true then (some false) else (if x8 > 1 then ((impl_WetError.f k (wrap64 (x8 - 1)) x6 x204003).bind fun bt212 => (if bt212.2.2 = 0 then (if bt212.1 ≥ 0 then (some false) else (laws_FnPapers.j1 k x1 x6 x7 x8 x204000 x204001 x204002 x204003)) else (some false))) else (laws_FnPapers.j1 k x1 x6 x7 x8 x204000 x204001 x204002 x204003))
def laws_FnPapers.j1 : Nat → List Int → Int → Int → Int → Int → Int → Int → Int → Option (Bool)
  | 0, _, _, _, _, _, _, _, _ => none
  | k + 1, x1, x6, x7, x8, x204000, x204001, x204002, x204003 => (spec_DryFor.f x7 x204002).bind fun bt216 => ((spec_DryFor.f x6 x204002).bind fun bt218 => ((spec_DryFor.f x7 x204003).bind fun bt220 => ((impl_BetterGrain.f x204000 x204001 x204002 x204003 x6 x7).bind fun bt222 => (if bt216.2 = 0 then (if bt218.2 = 0 then (if bt220.2 = 0 then (if bt222.2 = 0 then (laws_FnPapers.j2 k x1 x6 x7 x8 bt216.1 bt218.1 bt220.1 (bt222.1 != (decide ((wrap64 (bt216.1 + x8)) ≤ (wrap64 (bt220.1 + bt218.1))))) x204000 x204001 x204002 x204003) else (laws_FnPapers.j2 k x1 x6 x7 x8 bt216.1 bt218.1 bt220.1 true x204000 x204001 x204002 x204003)) else (laws_FnPapers.j2 k x1 x6 x7 x8 bt216.1 bt218.1 bt220.1 true x204000 x204001 x204002 x204003)) else (laws_FnPapers.j2 k x1 x6 x7 x8 bt216.1 bt218.1 bt220.1 true x204000 x204001 x204002 x204003)) else (laws_FnPapers.j2 k x1 x6 x7 x8 bt216.1 bt218.1 bt220.1 true x204000 x204001 x204002 x204003)))))
def laws_FnPapers.j2 : Nat → List Int → Int → Int → Int → Int → Int → Int → Bool → Int → Int → Int → Int → Option (Bool)
  | 0, _, _, _, _, _, _, _, _, _, _, _, _ => none
  | k + 1, x1, x6, x7, x8, x14, x16, x18, x156, x204000, x204001, x204002, x204003 => if x156 = true then (some false) else (if x14 = 0 then (none) else (if x8 = 0 then (none) else (if x16 = 0 then (none) else (if x18 = 0 then (none) else ((impl_CutsFrom.f x204000 x204001 x204002 x204003 x6 x7).bind fun bt224 => (if bt224.2.2 = 0 then (if bt224.1 = (mx (wrap64 ((wrap64 (Int.tdiv x204000 x14)) * (wrap64 (Int.tdiv x204001 x8)))) (wrap64 ((wrap64 (Int.tdiv x204000 x16)) * (wrap64 (Int.tdiv x204001 x18))))) then (laws_FnPapers.j3 k x1 x6 x7 bt224.1 (bt224.2.1 != (decide ((wrap64 ((wrap64 (Int.tdiv x204000 x14)) * (wrap64 (Int.tdiv x204001 x8)))) ≥ (wrap64 ((wrap64 (Int.tdiv x204000 x16)) * (wrap64 (Int.tdiv x204001 x18))))))) x204000 x204001 x204002 x204003) else (laws_FnPapers.j3 k x1 x6 x7 bt224.1 true x204000 x204001 x204002 x204003)) else (laws_FnPapers.j3 k x1 x6 x7 bt224.1 true x204000 x204001 x204002 x204003)))))))
def laws_FnPapers.j3 : Nat → List Int → Int → Int → Int → Bool → Int → Int → Int → Int → Option (Bool)
  | 0, _, _, _, _, _, _, _, _, _ => none
  | k + 1, x1, x6, x7, x24, x198, x204000, x204001, x204002, x204003 => if x198 = true then (some false) else ((laws_a2At.f x1 2 60).bind fun t227 => ((impl_PapersFor.f k x204000 x204001 x204002 x204003 x6 x7 (wrap64 (1 + t227))).bind fun bt228 => (if x24 = 0 then (some (bt228.2 == 3)) else ((impl_WetSides.f k x204000 x204001 x204002 x204003).bind fun bt230 => (if bt228.2 = 0 then (if bt228.1 ≥ 1 then (if bt228.1 ≤ (wrap64 (1 + t227)) then (if (wrap64 (bt228.1 * x24)) ≥ (wrap64 (1 + t227)) then (if (wrap64 ((wrap64 (bt228.1 - 1)) * x24)) < (wrap64 (1 + t227)) then (if bt230.2.2.2.2 = 0 then (if (wrap64 (bt230.1 * 1000)) = (wrap64 ((wrap64 (x204000 * (wrap64 (1000 + x204002)))) * bt230.2.1)) then (if (wrap64 (bt230.2.2.1 * 1000)) = (wrap64 ((wrap64 (x204001 * (wrap64 (1000 + x204003)))) * bt230.2.2.2.1)) then (if bt230.2.1 ≥ 1 then (some (decide (bt230.2.2.2.1 ≥ 1))) else (some false)) else (some false)) else (some false)) else (some false)) else (some false)) else (some false)) else (some false)) else (some false)) else (some false))))))
end
def laws_FnPapers.f (k : Nat) (l0 : List Int) (l1 : List Int) : Option (Bool) := (laws_a2Long.f l0 l1).bind fun t198 => (if t198 = true then (some true) else ((spec_A2Sheet.f l0).bind fun bt199 => ((laws_a2At.f l1 0 120).bind fun t204 => ((laws_a2At.f l1 1 120).bind fun t205 => ((impl_DryFor.f (wrap64 (50 + (wrap64 (10 * t204)))) bt199.2.2.2).bind fun bt206 => ((impl_WetError.f k bt206.1 (wrap64 (50 + (wrap64 (10 * t204)))) bt199.2.2.2).bind fun bt208 => (if bt206.2 = 0 then (if bt206.1 < 1 then (laws_FnPapers.j0 k l1 (wrap64 (50 + (wrap64 (10 * t204)))) (wrap64 (50 + (wrap64 (10 * t205)))) bt206.1 true bt199.1 bt199.2.1 bt199.2.2.1 bt199.2.2.2) else (if bt206.1 > (wrap64 (50 + (wrap64 (10 * t204)))) then (laws_FnPapers.j0 k l1 (wrap64 (50 + (wrap64 (10 * t204)))) (wrap64 (50 + (wrap64 (10 * t205)))) bt206.1 true bt199.1 bt199.2.1 bt199.2.2.1 bt199.2.2.2) else (if bt208.2.2 = 0 then (if bt208.2.1 < 1 then (laws_FnPapers.j0 k l1 (wrap64 (50 + (wrap64 (10 * t204)))) (wrap64 (50 + (wrap64 (10 * t205)))) bt206.1 true bt199.1 bt199.2.1 bt199.2.2.1 bt199.2.2.2) else (laws_FnPapers.j0 k l1 (wrap64 (50 + (wrap64 (10 * t204)))) (wrap64 (50 + (wrap64 (10 * t205)))) bt206.1 (decide (bt208.1 < 0)) bt199.1 bt199.2.1 bt199.2.2.1 bt199.2.2.2)) else (laws_FnPapers.j0 k l1 (wrap64 (50 + (wrap64 (10 * t204)))) (wrap64 (50 + (wrap64 (10 * t205)))) bt206.1 true bt199.1 bt199.2.1 bt199.2.2.1 bt199.2.2.2)))) else (laws_FnPapers.j0 k l1 (wrap64 (50 + (wrap64 (10 * t204)))) (wrap64 (50 + (wrap64 (10 * t205)))) bt206.1 true bt199.1 bt199.2.1 bt199.2.2.1 bt199.2.2.2))))))))
theorem laws_FnPapers.mono_l : ∀ k, (∀ y0 y1 y2 y3 y4 y5 y6 y7 y8, LeO (laws_FnPapers.j0 k y0 y1 y2 y3 y4 y5 y6 y7 y8) (laws_FnPapers.j0 (k + 1) y0 y1 y2 y3 y4 y5 y6 y7 y8)) ∧ (∀ y0 y1 y2 y3 y4 y5 y6 y7, LeO (laws_FnPapers.j1 k y0 y1 y2 y3 y4 y5 y6 y7) (laws_FnPapers.j1 (k + 1) y0 y1 y2 y3 y4 y5 y6 y7)) ∧ (∀ y0 y1 y2 y3 y4 y5 y6 y7 y8 y9 y10 y11, LeO (laws_FnPapers.j2 k y0 y1 y2 y3 y4 y5 y6 y7 y8 y9 y10 y11) (laws_FnPapers.j2 (k + 1) y0 y1 y2 y3 y4 y5 y6 y7 y8 y9 y10 y11)) ∧ (∀ y0 y1 y2 y3 y4 y5 y6 y7 y8, LeO (laws_FnPapers.j3 k y0 y1 y2 y3 y4 y5 y6 y7 y8) (laws_FnPapers.j3 (k + 1) y0 y1 y2 y3 y4 y5 y6 y7 y8))
  | 0 => ⟨fun _ _ _ _ _ _ _ _ _ r h => by simp [laws_FnPapers.j0] at h, fun _ _ _ _ _ _ _ _ r h => by simp [laws_FnPapers.j1] at h, fun _ _ _ _ _ _ _ _ _ _ _ _ r h => by simp [laws_FnPapers.j2] at h, fun _ _ _ _ _ _ _ _ _ r h => by simp [laws_FnPapers.j3] at h⟩
  | k + 1 => by
    obtain ⟨ih0, ih1, ih2, ih3⟩ := laws_FnPapers.mono_l k
    refine ⟨?_, ?_, ?_, ?_⟩
    · intro y0 y1 y2 y3 y4 y5 y6 y7 y8
      unfold laws_FnPapers.j0
      repeat' first
      | (with_reducible exact ih0 _ _ _ _ _ _ _ _ _)
      | (with_reducible exact ih1 _ _ _ _ _ _ _ _)
      | (with_reducible exact ih2 _ _ _ _ _ _ _ _ _ _ _ _)
      | (with_reducible exact ih3 _ _ _ _ _ _ _ _ _)
      | (with_reducible exact impl_PapersFor.mono _ _ _ _ _ _ _ _)
      | (with_reducible exact impl_WetError.mono _ _ _ _)
      | (with_reducible exact impl_WetSides.mono _ _ _ _ _)
      | (with_reducible exact LeO.refl _)
      | (with_reducible exact LeO.none _)
      | (with_reducible refine LeO.ite ?_ ?_)
      | (with_reducible refine LeO.bind ?_ (fun _ => ?_))
      | exact ih0 _ _ _ _ _ _ _ _ _
      | exact ih1 _ _ _ _ _ _ _ _
      | exact ih2 _ _ _ _ _ _ _ _ _ _ _ _
      | exact ih3 _ _ _ _ _ _ _ _ _
      | exact impl_PapersFor.mono _ _ _ _ _ _ _ _
      | exact impl_WetError.mono _ _ _ _
      | exact impl_WetSides.mono _ _ _ _ _
      | exact LeO.none _
      | refine LeO.ite ?_ ?_
      | refine LeO.bind ?_ (fun _ => ?_)
    · intro y0 y1 y2 y3 y4 y5 y6 y7
      unfold laws_FnPapers.j1
      repeat' first
      | (with_reducible exact ih0 _ _ _ _ _ _ _ _ _)
      | (with_reducible exact ih1 _ _ _ _ _ _ _ _)
      | (with_reducible exact ih2 _ _ _ _ _ _ _ _ _ _ _ _)
      | (with_reducible exact ih3 _ _ _ _ _ _ _ _ _)
      | (with_reducible exact impl_PapersFor.mono _ _ _ _ _ _ _ _)
      | (with_reducible exact impl_WetError.mono _ _ _ _)
      | (with_reducible exact impl_WetSides.mono _ _ _ _ _)
      | (with_reducible exact LeO.refl _)
      | (with_reducible exact LeO.none _)
      | (with_reducible refine LeO.ite ?_ ?_)
      | (with_reducible refine LeO.bind ?_ (fun _ => ?_))
      | exact ih0 _ _ _ _ _ _ _ _ _
      | exact ih1 _ _ _ _ _ _ _ _
      | exact ih2 _ _ _ _ _ _ _ _ _ _ _ _
      | exact ih3 _ _ _ _ _ _ _ _ _
      | exact impl_PapersFor.mono _ _ _ _ _ _ _ _
      | exact impl_WetError.mono _ _ _ _
      | exact impl_WetSides.mono _ _ _ _ _
      | exact LeO.none _
      | refine LeO.ite ?_ ?_
      | refine LeO.bind ?_ (fun _ => ?_)
    · intro y0 y1 y2 y3 y4 y5 y6 y7 y8 y9 y10 y11
      unfold laws_FnPapers.j2
      repeat' first
      | (with_reducible exact ih0 _ _ _ _ _ _ _ _ _)
      | (with_reducible exact ih1 _ _ _ _ _ _ _ _)
      | (with_reducible exact ih2 _ _ _ _ _ _ _ _ _ _ _ _)
      | (with_reducible exact ih3 _ _ _ _ _ _ _ _ _)
      | (with_reducible exact impl_PapersFor.mono _ _ _ _ _ _ _ _)
      | (with_reducible exact impl_WetError.mono _ _ _ _)
      | (with_reducible exact impl_WetSides.mono _ _ _ _ _)
      | (with_reducible exact LeO.refl _)
      | (with_reducible exact LeO.none _)
      | (with_reducible refine LeO.ite ?_ ?_)
      | (with_reducible refine LeO.bind ?_ (fun _ => ?_))
      | exact ih0 _ _ _ _ _ _ _ _ _
      | exact ih1 _ _ _ _ _ _ _ _
      | exact ih2 _ _ _ _ _ _ _ _ _ _ _ _
      | exact ih3 _ _ _ _ _ _ _ _ _
      | exact impl_PapersFor.mono _ _ _ _ _ _ _ _
      | exact impl_WetError.mono _ _ _ _
      | exact impl_WetSides.mono _ _ _ _ _
      | exact LeO.none _
      | refine LeO.ite ?_ ?_
      | refine LeO.bind ?_ (fun _ => ?_)
    · intro y0 y1 y2 y3 y4 y5 y6 y7 y8
      unfold laws_FnPapers.j3
      repeat' first
      | (with_reducible exact ih0 _ _ _ _ _ _ _ _ _)
      | (with_reducible exact ih1 _ _ _ _ _ _ _ _)
      | (with_reducible exact ih2 _ _ _ _ _ _ _ _ _ _ _ _)
      | (with_reducible exact ih3 _ _ _ _ _ _ _ _ _)
      | (with_reducible exact impl_PapersFor.mono _ _ _ _ _ _ _ _)
      | (with_reducible exact impl_WetError.mono _ _ _ _)
      | (with_reducible exact impl_WetSides.mono _ _ _ _ _)
      | (with_reducible exact LeO.refl _)
      | (with_reducible exact LeO.none _)
      | (with_reducible refine LeO.ite ?_ ?_)
      | (with_reducible refine LeO.bind ?_ (fun _ => ?_))
      | exact ih0 _ _ _ _ _ _ _ _ _
      | exact ih1 _ _ _ _ _ _ _ _
      | exact ih2 _ _ _ _ _ _ _ _ _ _ _ _
      | exact ih3 _ _ _ _ _ _ _ _ _
      | exact impl_PapersFor.mono _ _ _ _ _ _ _ _
      | exact impl_WetError.mono _ _ _ _
      | exact impl_WetSides.mono _ _ _ _ _
      | exact LeO.none _
      | refine LeO.ite ?_ ?_
      | refine LeO.bind ?_ (fun _ => ?_)
theorem laws_FnPapers.mono : ∀ a0 a1 k, LeO (laws_FnPapers.f k a0 a1) (laws_FnPapers.f (k + 1) a0 a1) := by
  intro a0 a1 k
  obtain ⟨ih0, ih1, ih2, ih3⟩ := laws_FnPapers.mono_l k
  unfold laws_FnPapers.f
  repeat' first
      | (with_reducible exact ih0 _ _ _ _ _ _ _ _ _)
      | (with_reducible exact ih1 _ _ _ _ _ _ _ _)
      | (with_reducible exact ih2 _ _ _ _ _ _ _ _ _ _ _ _)
      | (with_reducible exact ih3 _ _ _ _ _ _ _ _ _)
      | (with_reducible exact impl_PapersFor.mono _ _ _ _ _ _ _ _)
      | (with_reducible exact impl_WetError.mono _ _ _ _)
      | (with_reducible exact impl_WetSides.mono _ _ _ _ _)
      | (with_reducible exact LeO.refl _)
      | (with_reducible exact LeO.none _)
      | (with_reducible refine LeO.ite ?_ ?_)
      | (with_reducible refine LeO.bind ?_ (fun _ => ?_))
      | exact ih0 _ _ _ _ _ _ _ _ _
      | exact ih1 _ _ _ _ _ _ _ _
      | exact ih2 _ _ _ _ _ _ _ _ _ _ _ _
      | exact ih3 _ _ _ _ _ _ _ _ _
      | exact impl_PapersFor.mono _ _ _ _ _ _ _ _
      | exact impl_WetError.mono _ _ _ _
      | exact impl_WetSides.mono _ _ _ _ _
      | exact LeO.none _
      | refine LeO.ite ?_ ?_
      | refine LeO.bind ?_ (fun _ => ?_)
theorem laws_FnPapers.j0_no (k : Nat) y0 y1 y2 y3 y5 y6 y7 y8 : laws_FnPapers.j0 k y0 y1 y2 y3 true y5 y6 y7 y8 ≠ some true := by
  cases k with
  | zero => intro h; simp only [laws_FnPapers.j0] at h; cases h
  | succ k => intro h; simp only [laws_FnPapers.j0, if_true] at h; cases h
theorem laws_FnPapers.j2_no (k : Nat) y0 y1 y2 y3 y4 y5 y6 y8 y9 y10 y11 : laws_FnPapers.j2 k y0 y1 y2 y3 y4 y5 y6 true y8 y9 y10 y11 ≠ some true := by
  cases k with
  | zero => intro h; simp only [laws_FnPapers.j2] at h; cases h
  | succ k => intro h; simp only [laws_FnPapers.j2, if_true] at h; cases h
theorem laws_FnPapers.j3_no (k : Nat) y0 y1 y2 y3 y5 y6 y7 y8 : laws_FnPapers.j3 k y0 y1 y2 y3 true y5 y6 y7 y8 ≠ some true := by
  cases k with
  | zero => intro h; simp only [laws_FnPapers.j3] at h; cases h
  | succ k => intro h; simp only [laws_FnPapers.j3, if_true] at h; cases h
set_option maxHeartbeats 8000000 in
set_option maxRecDepth 100000 in
theorem laws_FnPapers.calls (k : Nat) (A0 : Option Addr) (c0 : Nat) (l0 : List Int) (A1 : Option Addr) (c1 : Nat) (l1 : List Int) (r : Bool) (w : World) (hr0 : Kd.C (Kd.int .u8) w A0 l0.length l0) (hc0 : l0.length ≤ c0) (hr1 : Kd.C (Kd.int .u8) w A1 l1.length l1) (hc1 : l1.length ≤ c1) (h : laws_FnPapers.f k l0 l1 = some r) (hT_ : r = true) :
    Calls Try.prog 3 #[.slice A0 l0.length c0, .slice A1 l1.length c1] w fun e w' => e = .returned (.bool r) ∧ Below w.heap.size w w' := by
  have hu25 := Try.underlying25
  have hu31 := Try.underlying31
  have HR0 := Aside0.mk hr0
  have HC0 := Aside0.mk hc0
  clear hr0 hc0
  have HR1 := Aside0.mk hr1
  have HC1 := Aside0.mk hc1
  clear hr1 hc1
  have HB := Aside0.mk (Below.refl w.heap.size w)
  have H : ((laws_a2Long.f l0 l1).bind fun t198 => (if t198 = true then (some true) else ((spec_A2Sheet.f l0).bind fun bt199 => ((laws_a2At.f l1 0 120).bind fun t204 => ((laws_a2At.f l1 1 120).bind fun t205 => ((impl_DryFor.f (wrap64 (50 + (wrap64 (10 * t204)))) bt199.2.2.2).bind fun bt206 => ((impl_WetError.f k bt206.1 (wrap64 (50 + (wrap64 (10 * t204)))) bt199.2.2.2).bind fun bt208 => (if bt206.2 = 0 then (if bt206.1 < 1 then (laws_FnPapers.j0 k l1 (wrap64 (50 + (wrap64 (10 * t204)))) (wrap64 (50 + (wrap64 (10 * t205)))) bt206.1 true bt199.1 bt199.2.1 bt199.2.2.1 bt199.2.2.2) else (if bt206.1 > (wrap64 (50 + (wrap64 (10 * t204)))) then (laws_FnPapers.j0 k l1 (wrap64 (50 + (wrap64 (10 * t204)))) (wrap64 (50 + (wrap64 (10 * t205)))) bt206.1 true bt199.1 bt199.2.1 bt199.2.2.1 bt199.2.2.2) else (if bt208.2.2 = 0 then (if bt208.2.1 < 1 then (laws_FnPapers.j0 k l1 (wrap64 (50 + (wrap64 (10 * t204)))) (wrap64 (50 + (wrap64 (10 * t205)))) bt206.1 true bt199.1 bt199.2.1 bt199.2.2.1 bt199.2.2.2) else (laws_FnPapers.j0 k l1 (wrap64 (50 + (wrap64 (10 * t204)))) (wrap64 (50 + (wrap64 (10 * t205)))) bt206.1 (decide (bt208.1 < 0)) bt199.1 bt199.2.1 bt199.2.2.1 bt199.2.2.2)) else (laws_FnPapers.j0 k l1 (wrap64 (50 + (wrap64 (10 * t204)))) (wrap64 (50 + (wrap64 (10 * t205)))) bt206.1 true bt199.1 bt199.2.1 bt199.2.2.1 bt199.2.2.2)))) else (laws_FnPapers.j0 k l1 (wrap64 (50 + (wrap64 (10 * t204)))) (wrap64 (50 + (wrap64 (10 * t205)))) bt206.1 true bt199.1 bt199.2.1 bt199.2.2.1 bt199.2.2.2))))))))) = some r := h
  clear h
  replace H := Option.bind_eq_some_iff.mp H
  obtain ⟨t198, A30, H⟩ := H
  replace H : (if t198 = true then (some true) else ((spec_A2Sheet.f l0).bind fun bt199 => ((laws_a2At.f l1 0 120).bind fun t204 => ((laws_a2At.f l1 1 120).bind fun t205 => ((impl_DryFor.f (wrap64 (50 + (wrap64 (10 * t204)))) bt199.2.2.2).bind fun bt206 => ((impl_WetError.f k bt206.1 (wrap64 (50 + (wrap64 (10 * t204)))) bt199.2.2.2).bind fun bt208 => (if bt206.2 = 0 then (if bt206.1 < 1 then (laws_FnPapers.j0 k l1 (wrap64 (50 + (wrap64 (10 * t204)))) (wrap64 (50 + (wrap64 (10 * t205)))) bt206.1 true bt199.1 bt199.2.1 bt199.2.2.1 bt199.2.2.2) else (if bt206.1 > (wrap64 (50 + (wrap64 (10 * t204)))) then (laws_FnPapers.j0 k l1 (wrap64 (50 + (wrap64 (10 * t204)))) (wrap64 (50 + (wrap64 (10 * t205)))) bt206.1 true bt199.1 bt199.2.1 bt199.2.2.1 bt199.2.2.2) else (if bt208.2.2 = 0 then (if bt208.2.1 < 1 then (laws_FnPapers.j0 k l1 (wrap64 (50 + (wrap64 (10 * t204)))) (wrap64 (50 + (wrap64 (10 * t205)))) bt206.1 true bt199.1 bt199.2.1 bt199.2.2.1 bt199.2.2.2) else (laws_FnPapers.j0 k l1 (wrap64 (50 + (wrap64 (10 * t204)))) (wrap64 (50 + (wrap64 (10 * t205)))) bt206.1 (decide (bt208.1 < 0)) bt199.1 bt199.2.1 bt199.2.2.1 bt199.2.2.2)) else (laws_FnPapers.j0 k l1 (wrap64 (50 + (wrap64 (10 * t204)))) (wrap64 (50 + (wrap64 (10 * t205)))) bt206.1 true bt199.1 bt199.2.1 bt199.2.2.1 bt199.2.2.2)))) else (laws_FnPapers.j0 k l1 (wrap64 (50 + (wrap64 (10 * t204)))) (wrap64 (50 + (wrap64 (10 * t205)))) bt206.1 true bt199.1 bt199.2.1 bt199.2.2.1 bt199.2.2.2)))))))) = some r := H
  have A3 := Aside0.mk A30
  clear A30
  by_cases c4 : t198 = true
  · subst c4
    have H1 : (some true) = some r := by rw [if_pos rfl] at H; exact H
    clear H
    have H := H1
    clear H1
    obtain rfl := Option.some.inj H
    go_enter Try.func3, Try.ntmps3
    go_wp2_with (first | (go_at_call 4; (with_reducible refine (laws_a2Long.calls _ _ l0 _ _ l1 true _ ?side1 ?side2 ?side3 ?side4 A3.out).mono ?_); (case side1 => repeat (first | exact HR0.out | (with_reducible refine Kd.C_alloc ?_ _) | (with_reducible refine Kd.C_drewN ?_ _) | (with_reducible refine Kd.C_drew ?_))); (case side2 => exact HC0.out); (case side3 => repeat (first | exact HR1.out | (with_reducible refine Kd.C_alloc ?_ _) | (with_reducible refine Kd.C_drewN ?_ _) | (with_reducible refine Kd.C_drew ?_))); (case side4 => exact HC1.out); rintro e w' ⟨rfl, ⟨nd, rfl⟩⟩; (try first | exact ⟨rfl, _, World.drewN_drewN _ _ _⟩ | exact ⟨rfl, _, Eq.trans (World.drewN_drewN _ _ _) (congrArg (World.drewN _) (Nat.add_assoc _ _ _))⟩)))
    repeat (go_quiet (first | (go_at_call 4; (with_reducible refine (laws_a2Long.calls _ _ l0 _ _ l1 true _ ?side1 ?side2 ?side3 ?side4 A3.out).mono ?_); (case side1 => repeat (first | exact HR0.out | (with_reducible refine Kd.C_alloc ?_ _) | (with_reducible refine Kd.C_drewN ?_ _) | (with_reducible refine Kd.C_drew ?_))); (case side2 => exact HC0.out); (case side3 => repeat (first | exact HR1.out | (with_reducible refine Kd.C_alloc ?_ _) | (with_reducible refine Kd.C_drewN ?_ _) | (with_reducible refine Kd.C_drew ?_))); (case side4 => exact HC1.out); rintro e w' ⟨rfl, ⟨nd, rfl⟩⟩; (try first | exact ⟨rfl, _, World.drewN_drewN _ _ _⟩ | exact ⟨rfl, _, Eq.trans (World.drewN_drewN _ _ _) (congrArg (World.drewN _) (Nat.add_assoc _ _ _))⟩))); try go_wp2_with (first | (go_at_call 4; (with_reducible refine (laws_a2Long.calls _ _ l0 _ _ l1 true _ ?side1 ?side2 ?side3 ?side4 A3.out).mono ?_); (case side1 => repeat (first | exact HR0.out | (with_reducible refine Kd.C_alloc ?_ _) | (with_reducible refine Kd.C_drewN ?_ _) | (with_reducible refine Kd.C_drew ?_))); (case side2 => exact HC0.out); (case side3 => repeat (first | exact HR1.out | (with_reducible refine Kd.C_alloc ?_ _) | (with_reducible refine Kd.C_drewN ?_ _) | (with_reducible refine Kd.C_drew ?_))); (case side4 => exact HC1.out); rintro e w' ⟨rfl, ⟨nd, rfl⟩⟩; (try first | exact ⟨rfl, _, World.drewN_drewN _ _ _⟩ | exact ⟨rfl, _, Eq.trans (World.drewN_drewN _ _ _) (congrArg (World.drewN _) (Nat.add_assoc _ _ _))⟩))))
    go_ret
    exact ⟨by first | rfl | (simp [errW_none, errW_some] <;> rfl) | (simp [*, errW_none, errW_some] <;> rfl), by repeat (first | (with_reducible first | exact HB.out | apply below_alloc | apply pw_below_drewN | apply below_drew1) | exact HB.out)⟩
  · replace c4 := Bool.eq_false_iff.mpr c4
    subst c4
    have H1 : ((spec_A2Sheet.f l0).bind fun bt199 => ((laws_a2At.f l1 0 120).bind fun t204 => ((laws_a2At.f l1 1 120).bind fun t205 => ((impl_DryFor.f (wrap64 (50 + (wrap64 (10 * t204)))) bt199.2.2.2).bind fun bt206 => ((impl_WetError.f k bt206.1 (wrap64 (50 + (wrap64 (10 * t204)))) bt199.2.2.2).bind fun bt208 => (if bt206.2 = 0 then (if bt206.1 < 1 then (laws_FnPapers.j0 k l1 (wrap64 (50 + (wrap64 (10 * t204)))) (wrap64 (50 + (wrap64 (10 * t205)))) bt206.1 true bt199.1 bt199.2.1 bt199.2.2.1 bt199.2.2.2) else (if bt206.1 > (wrap64 (50 + (wrap64 (10 * t204)))) then (laws_FnPapers.j0 k l1 (wrap64 (50 + (wrap64 (10 * t204)))) (wrap64 (50 + (wrap64 (10 * t205)))) bt206.1 true bt199.1 bt199.2.1 bt199.2.2.1 bt199.2.2.2) else (if bt208.2.2 = 0 then (if bt208.2.1 < 1 then (laws_FnPapers.j0 k l1 (wrap64 (50 + (wrap64 (10 * t204)))) (wrap64 (50 + (wrap64 (10 * t205)))) bt206.1 true bt199.1 bt199.2.1 bt199.2.2.1 bt199.2.2.2) else (laws_FnPapers.j0 k l1 (wrap64 (50 + (wrap64 (10 * t204)))) (wrap64 (50 + (wrap64 (10 * t205)))) bt206.1 (decide (bt208.1 < 0)) bt199.1 bt199.2.1 bt199.2.2.1 bt199.2.2.2)) else (laws_FnPapers.j0 k l1 (wrap64 (50 + (wrap64 (10 * t204)))) (wrap64 (50 + (wrap64 (10 * t205)))) bt206.1 true bt199.1 bt199.2.1 bt199.2.2.1 bt199.2.2.2)))) else (laws_FnPapers.j0 k l1 (wrap64 (50 + (wrap64 (10 * t204)))) (wrap64 (50 + (wrap64 (10 * t205)))) bt206.1 true bt199.1 bt199.2.1 bt199.2.2.1 bt199.2.2.2))))))) = some r := by rw [if_neg (show ¬ (false = true) by decide)] at H; exact H
    clear H
    have H := H1
    clear H1
    replace H := Option.bind_eq_some_iff.mp H
    obtain ⟨⟨t199, t200, t201, t202⟩, A50, H⟩ := H
    replace H : ((laws_a2At.f l1 0 120).bind fun t204 => ((laws_a2At.f l1 1 120).bind fun t205 => ((impl_DryFor.f (wrap64 (50 + (wrap64 (10 * t204)))) t202).bind fun bt206 => ((impl_WetError.f k bt206.1 (wrap64 (50 + (wrap64 (10 * t204)))) t202).bind fun bt208 => (if bt206.2 = 0 then (if bt206.1 < 1 then (laws_FnPapers.j0 k l1 (wrap64 (50 + (wrap64 (10 * t204)))) (wrap64 (50 + (wrap64 (10 * t205)))) bt206.1 true t199 t200 t201 t202) else (if bt206.1 > (wrap64 (50 + (wrap64 (10 * t204)))) then (laws_FnPapers.j0 k l1 (wrap64 (50 + (wrap64 (10 * t204)))) (wrap64 (50 + (wrap64 (10 * t205)))) bt206.1 true t199 t200 t201 t202) else (if bt208.2.2 = 0 then (if bt208.2.1 < 1 then (laws_FnPapers.j0 k l1 (wrap64 (50 + (wrap64 (10 * t204)))) (wrap64 (50 + (wrap64 (10 * t205)))) bt206.1 true t199 t200 t201 t202) else (laws_FnPapers.j0 k l1 (wrap64 (50 + (wrap64 (10 * t204)))) (wrap64 (50 + (wrap64 (10 * t205)))) bt206.1 (decide (bt208.1 < 0)) t199 t200 t201 t202)) else (laws_FnPapers.j0 k l1 (wrap64 (50 + (wrap64 (10 * t204)))) (wrap64 (50 + (wrap64 (10 * t205)))) bt206.1 true t199 t200 t201 t202)))) else (laws_FnPapers.j0 k l1 (wrap64 (50 + (wrap64 (10 * t204)))) (wrap64 (50 + (wrap64 (10 * t205)))) bt206.1 true t199 t200 t201 t202)))))) = some r := H
    have A5 := Aside0.mk A50
    clear A50
    replace H := Option.bind_eq_some_iff.mp H
    obtain ⟨t204, A60, H⟩ := H
    replace H : ((laws_a2At.f l1 1 120).bind fun t205 => ((impl_DryFor.f (wrap64 (50 + (wrap64 (10 * t204)))) t202).bind fun bt206 => ((impl_WetError.f k bt206.1 (wrap64 (50 + (wrap64 (10 * t204)))) t202).bind fun bt208 => (if bt206.2 = 0 then (if bt206.1 < 1 then (laws_FnPapers.j0 k l1 (wrap64 (50 + (wrap64 (10 * t204)))) (wrap64 (50 + (wrap64 (10 * t205)))) bt206.1 true t199 t200 t201 t202) else (if bt206.1 > (wrap64 (50 + (wrap64 (10 * t204)))) then (laws_FnPapers.j0 k l1 (wrap64 (50 + (wrap64 (10 * t204)))) (wrap64 (50 + (wrap64 (10 * t205)))) bt206.1 true t199 t200 t201 t202) else (if bt208.2.2 = 0 then (if bt208.2.1 < 1 then (laws_FnPapers.j0 k l1 (wrap64 (50 + (wrap64 (10 * t204)))) (wrap64 (50 + (wrap64 (10 * t205)))) bt206.1 true t199 t200 t201 t202) else (laws_FnPapers.j0 k l1 (wrap64 (50 + (wrap64 (10 * t204)))) (wrap64 (50 + (wrap64 (10 * t205)))) bt206.1 (decide (bt208.1 < 0)) t199 t200 t201 t202)) else (laws_FnPapers.j0 k l1 (wrap64 (50 + (wrap64 (10 * t204)))) (wrap64 (50 + (wrap64 (10 * t205)))) bt206.1 true t199 t200 t201 t202)))) else (laws_FnPapers.j0 k l1 (wrap64 (50 + (wrap64 (10 * t204)))) (wrap64 (50 + (wrap64 (10 * t205)))) bt206.1 true t199 t200 t201 t202))))) = some r := H
    have A6 := Aside0.mk A60
    clear A60
    replace H := Option.bind_eq_some_iff.mp H
    obtain ⟨t205, A70, H⟩ := H
    replace H : ((impl_DryFor.f (wrap64 (50 + (wrap64 (10 * t204)))) t202).bind fun bt206 => ((impl_WetError.f k bt206.1 (wrap64 (50 + (wrap64 (10 * t204)))) t202).bind fun bt208 => (if bt206.2 = 0 then (if bt206.1 < 1 then (laws_FnPapers.j0 k l1 (wrap64 (50 + (wrap64 (10 * t204)))) (wrap64 (50 + (wrap64 (10 * t205)))) bt206.1 true t199 t200 t201 t202) else (if bt206.1 > (wrap64 (50 + (wrap64 (10 * t204)))) then (laws_FnPapers.j0 k l1 (wrap64 (50 + (wrap64 (10 * t204)))) (wrap64 (50 + (wrap64 (10 * t205)))) bt206.1 true t199 t200 t201 t202) else (if bt208.2.2 = 0 then (if bt208.2.1 < 1 then (laws_FnPapers.j0 k l1 (wrap64 (50 + (wrap64 (10 * t204)))) (wrap64 (50 + (wrap64 (10 * t205)))) bt206.1 true t199 t200 t201 t202) else (laws_FnPapers.j0 k l1 (wrap64 (50 + (wrap64 (10 * t204)))) (wrap64 (50 + (wrap64 (10 * t205)))) bt206.1 (decide (bt208.1 < 0)) t199 t200 t201 t202)) else (laws_FnPapers.j0 k l1 (wrap64 (50 + (wrap64 (10 * t204)))) (wrap64 (50 + (wrap64 (10 * t205)))) bt206.1 true t199 t200 t201 t202)))) else (laws_FnPapers.j0 k l1 (wrap64 (50 + (wrap64 (10 * t204)))) (wrap64 (50 + (wrap64 (10 * t205)))) bt206.1 true t199 t200 t201 t202)))) = some r := H
    have A7 := Aside0.mk A70
    clear A70
    replace H := Option.bind_eq_some_iff.mp H
    obtain ⟨⟨t206, t207⟩, A80, H⟩ := H
    replace H : ((impl_WetError.f k t206 (wrap64 (50 + (wrap64 (10 * t204)))) t202).bind fun bt208 => (if t207 = 0 then (if t206 < 1 then (laws_FnPapers.j0 k l1 (wrap64 (50 + (wrap64 (10 * t204)))) (wrap64 (50 + (wrap64 (10 * t205)))) t206 true t199 t200 t201 t202) else (if t206 > (wrap64 (50 + (wrap64 (10 * t204)))) then (laws_FnPapers.j0 k l1 (wrap64 (50 + (wrap64 (10 * t204)))) (wrap64 (50 + (wrap64 (10 * t205)))) t206 true t199 t200 t201 t202) else (if bt208.2.2 = 0 then (if bt208.2.1 < 1 then (laws_FnPapers.j0 k l1 (wrap64 (50 + (wrap64 (10 * t204)))) (wrap64 (50 + (wrap64 (10 * t205)))) t206 true t199 t200 t201 t202) else (laws_FnPapers.j0 k l1 (wrap64 (50 + (wrap64 (10 * t204)))) (wrap64 (50 + (wrap64 (10 * t205)))) t206 (decide (bt208.1 < 0)) t199 t200 t201 t202)) else (laws_FnPapers.j0 k l1 (wrap64 (50 + (wrap64 (10 * t204)))) (wrap64 (50 + (wrap64 (10 * t205)))) t206 true t199 t200 t201 t202)))) else (laws_FnPapers.j0 k l1 (wrap64 (50 + (wrap64 (10 * t204)))) (wrap64 (50 + (wrap64 (10 * t205)))) t206 true t199 t200 t201 t202))) = some r := H
    have A8 := Aside0.mk A80
    clear A80
    replace H := Option.bind_eq_some_iff.mp H
    obtain ⟨⟨t208, t209, t210⟩, A90, H⟩ := H
    replace H : (if t207 = 0 then (if t206 < 1 then (laws_FnPapers.j0 k l1 (wrap64 (50 + (wrap64 (10 * t204)))) (wrap64 (50 + (wrap64 (10 * t205)))) t206 true t199 t200 t201 t202) else (if t206 > (wrap64 (50 + (wrap64 (10 * t204)))) then (laws_FnPapers.j0 k l1 (wrap64 (50 + (wrap64 (10 * t204)))) (wrap64 (50 + (wrap64 (10 * t205)))) t206 true t199 t200 t201 t202) else (if t210 = 0 then (if t209 < 1 then (laws_FnPapers.j0 k l1 (wrap64 (50 + (wrap64 (10 * t204)))) (wrap64 (50 + (wrap64 (10 * t205)))) t206 true t199 t200 t201 t202) else (laws_FnPapers.j0 k l1 (wrap64 (50 + (wrap64 (10 * t204)))) (wrap64 (50 + (wrap64 (10 * t205)))) t206 (decide (t208 < 0)) t199 t200 t201 t202)) else (laws_FnPapers.j0 k l1 (wrap64 (50 + (wrap64 (10 * t204)))) (wrap64 (50 + (wrap64 (10 * t205)))) t206 true t199 t200 t201 t202)))) else (laws_FnPapers.j0 k l1 (wrap64 (50 + (wrap64 (10 * t204)))) (wrap64 (50 + (wrap64 (10 * t205)))) t206 true t199 t200 t201 t202)) = some r := H
    have A9 := Aside0.mk A90
    clear A90
    have HC10 := Aside0.mk H
    clear H
    go_enter Try.func3, Try.ntmps3
    go_upto_region 8 with (first | (go_at_call 4; (with_reducible refine (laws_a2Long.calls _ _ l0 _ _ l1 false _ ?side1 ?side2 ?side3 ?side4 A3.out).mono ?_); (case side1 => repeat (first | exact HR0.out | (with_reducible refine Kd.C_alloc ?_ _) | (with_reducible refine Kd.C_drewN ?_ _) | (with_reducible refine Kd.C_drew ?_))); (case side2 => exact HC0.out); (case side3 => repeat (first | exact HR1.out | (with_reducible refine Kd.C_alloc ?_ _) | (with_reducible refine Kd.C_drewN ?_ _) | (with_reducible refine Kd.C_drew ?_))); (case side4 => exact HC1.out); rintro e w' ⟨rfl, ⟨nd, rfl⟩⟩; (try first | exact ⟨rfl, _, World.drewN_drewN _ _ _⟩ | exact ⟨rfl, _, Eq.trans (World.drewN_drewN _ _ _) (congrArg (World.drewN _) (Nat.add_assoc _ _ _))⟩)) | (go_at_call 5; (with_reducible refine (spec_A2Sheet.calls _ _ l0 t199 t200 t201 t202 _ ?side1 ?side2 A5.out).mono ?_); (case side1 => repeat (first | exact HR0.out | (with_reducible refine Kd.C_alloc ?_ _) | (with_reducible refine Kd.C_drewN ?_ _) | (with_reducible refine Kd.C_drew ?_))); (case side2 => exact HC0.out); rintro e w11 ⟨rfl, hb⟩; have n0_ := Aside0.mk (below_step (by repeat (first | (with_reducible first | exact HB.out | apply below_alloc | apply pw_below_drewN | apply below_drew1) | exact HB.out)) hb); clear HB; have HB := n0_; clear n0_; (try clear hb); (try clear hb2); (try clear hk); (try clear hi)) | ((with_reducible refine gate_dst (N := 5) rfl ?_); (try (refine gate_guard (by rfl) ?_; dsimp only)); refine box_event ?hg (N := 5) ?hd (cs := #[.int .i64 0, .int .i64 0, .int .i64 0, .int .i64 0]) (t := 25) ?hr ?_; (case hd => rfl); (case hg => rfl); (case hr => first | (go_simp; done) | (go_simp; rfl)); intro gb203 hg w12 hbox hb; have n0_ := Aside0.mk (below_step (by repeat (first | (with_reducible first | exact HB.out | apply below_alloc | apply pw_below_drewN | apply below_drew1) | exact HB.out)) hb); have n1_ := Aside0.mk (hbox); have n2_ := Aside0.mk ((by rw [hg]; exact (below_size (by repeat (first | (with_reducible first | exact HB.out | apply below_alloc | apply pw_below_drewN | apply below_drew1) | exact HB.out))) : w.heap.size ≤ gb203)); have n3_ := Aside0.mk ((by rw [hg]; exact (below_size (by repeat (first | (with_reducible first | exact HB.out | apply below_alloc | apply pw_below_drewN | apply below_drew1) | exact HB.out))) : w.heap.size ≤ gb203)); clear HB; have HB := n0_; have BK203 := n1_; have GW203 := n2_; have GE203 := n3_; clear n0_ n1_ n2_ n3_; clear hb hbox hg; have hcz13_0 : w12.cell? ⟨gb203, 0, none⟩ = some (.int .i64 0) := (blk_cell BK203.out 0).trans rfl; have hcz13_1 : w12.cell? ⟨gb203, 1, none⟩ = some (.int .i64 0) := (blk_cell BK203.out 1).trans rfl; have hcz13_2 : w12.cell? ⟨gb203, 2, none⟩ = some (.int .i64 0) := (blk_cell BK203.out 2).trans rfl; have hcz13_3 : w12.cell? ⟨gb203, 3, none⟩ = some (.int .i64 0) := (blk_cell BK203.out 3).trans rfl; have hfz13_0 := blk_frozen BK203.out 0; have hfz13_1 := blk_frozen BK203.out 1; have hfz13_2 := blk_frozen BK203.out 2; have hfz13_3 := blk_frozen BK203.out 3) | (go_at_call 6; (with_reducible refine (laws_a2At.calls _ _ l1 0 120 t204 _ ?side1 ?side2 A6.out).mono ?_); (case side1 => exact Kd.C_below HR1.out (by repeat (first | (with_reducible first | exact HB.out | apply below_alloc | apply pw_below_drewN | apply below_drew1 | refine below_set ?_ GE203.out) | exact HB.out))); (case side2 => exact HC1.out); rintro e w' ⟨rfl, ⟨nd, rfl⟩⟩; (try first | exact ⟨rfl, _, World.drewN_drewN _ _ _⟩ | exact ⟨rfl, _, Eq.trans (World.drewN_drewN _ _ _) (congrArg (World.drewN _) (Nat.add_assoc _ _ _))⟩)) | (go_at_call 6; (with_reducible refine (laws_a2At.calls _ _ l1 1 120 t205 _ ?side1 ?side2 A7.out).mono ?_); (case side1 => exact Kd.C_below HR1.out (by repeat (first | (with_reducible first | exact HB.out | apply below_alloc | apply pw_below_drewN | apply below_drew1 | refine below_set ?_ GE203.out) | exact HB.out))); (case side2 => exact HC1.out); rintro e w' ⟨rfl, ⟨nd, rfl⟩⟩; (try first | exact ⟨rfl, _, World.drewN_drewN _ _ _⟩ | exact ⟨rfl, _, Eq.trans (World.drewN_drewN _ _ _) (congrArg (World.drewN _) (Nat.add_assoc _ _ _))⟩)) | (go_at_call 7; (with_reducible refine (impl_DryFor.calls (wrap64 (50 + (wrap64 (10 * t204)))) t202 t206 t207 _ A8.out).mono ?_); rintro e w' ⟨rfl, ⟨nd, rfl⟩⟩; (try first | exact ⟨rfl, _, World.drewN_drewN _ _ _⟩ | exact ⟨rfl, _, Eq.trans (World.drewN_drewN _ _ _) (congrArg (World.drewN _) (Nat.add_assoc _ _ _))⟩)) | (go_at_call 8; (with_reducible refine (impl_WetError.calls k t206 (wrap64 (50 + (wrap64 (10 * t204)))) t202 t208 t209 t210 _ A9.out).mono ?_); rintro e w14 ⟨rfl, hb⟩; have n0_ := Aside0.mk (blk_below (g := gb203) (o := .cells #[.int .i64 t199, .int .i64 t200, .int .i64 t201, .int .i64 t202] 25 (0, 0)) (by (with_reducible repeat (first | refine blk_drewN ?_ _ | refine blk_drew ?_ | refine blk_alloc ?_ _)); refine blk_put (cs := #[.int .i64 t199, .int .i64 t200, .int .i64 t201, .int .i64 0]) ?_ 3 _ rfl; (with_reducible repeat (first | refine blk_drewN ?_ _ | refine blk_drew ?_ | refine blk_alloc ?_ _)); refine blk_put (cs := #[.int .i64 t199, .int .i64 t200, .int .i64 0, .int .i64 0]) ?_ 2 _ rfl; (with_reducible repeat (first | refine blk_drewN ?_ _ | refine blk_drew ?_ | refine blk_alloc ?_ _)); refine blk_put (cs := #[.int .i64 t199, .int .i64 0, .int .i64 0, .int .i64 0]) ?_ 1 _ rfl; (with_reducible repeat (first | refine blk_drewN ?_ _ | refine blk_drew ?_ | refine blk_alloc ?_ _)); refine blk_put (cs := #[.int .i64 0, .int .i64 0, .int .i64 0, .int .i64 0]) ?_ 0 _ rfl; (with_reducible repeat (first | refine blk_drewN ?_ _ | refine blk_drew ?_ | refine blk_alloc ?_ _)); exact BK203.out) hb); have n1_ := Aside0.mk (below_step (by repeat (first | (with_reducible first | exact HB.out | apply below_alloc | apply pw_below_drewN | apply below_drew1 | refine below_set ?_ GE203.out) | exact HB.out)) hb); clear BK203; clear HB; have BK203 := n0_; have HB := n1_; clear n0_ n1_; (try clear hb); (try clear hb2); (try clear hk); (try clear hi)) | ((with_reducible refine gate_dst (N := 10) rfl ?_); (try (refine gate_guard (by rfl) ?_; dsimp only)); refine box_event ?hg (N := 10) ?hd (cs := #[.int .i64 0, .int .i64 0]) (t := 31) ?hr ?_; (case hd => rfl); (case hg => rfl); (case hr => first | (go_simp; done) | (go_simp; rfl)); intro gb211 hg w15 hbox hb; have n0_ := Aside0.mk (blk_below (g := gb203) (o := .cells #[.int .i64 t199, .int .i64 t200, .int .i64 t201, .int .i64 t202] 25 (0, 0)) (by (with_reducible repeat (first | refine blk_drewN ?_ _ | refine blk_drew ?_ | refine blk_alloc ?_ _)); exact BK203.out) hb); have n1_ := Aside0.mk (below_step (by repeat (first | (with_reducible first | exact HB.out | apply below_alloc | apply pw_below_drewN | apply below_drew1 | refine below_set ?_ GE203.out) | exact HB.out)) hb); have n2_ := Aside0.mk (hbox); have n3_ := Aside0.mk ((by rw [hg]; exact (below_size (by repeat (first | (with_reducible first | exact HB.out | apply below_alloc | apply pw_below_drewN | apply below_drew1 | refine below_set ?_ GE203.out) | exact HB.out))) : w.heap.size ≤ gb211)); have n4_ := Aside0.mk ((by rw [hg]; exact (below_size (by repeat (first | (with_reducible first | exact HB.out | apply below_alloc | apply pw_below_drewN | apply below_drew1 | refine below_set ?_ GE203.out) | exact HB.out))) : w.heap.size ≤ gb211)); have n5_ := Aside0.mk ((by rw [hg]; exact Nat.ne_of_lt (blk_lt (g := gb203) (o := .cells #[.int .i64 t199, .int .i64 t200, .int .i64 t201, .int .i64 t202] 25 (0, 0)) (by (with_reducible repeat (first | refine blk_drewN ?_ _ | refine blk_drew ?_ | refine blk_alloc ?_ _)); exact BK203.out)) : gb203 ≠ gb211)); have n6_ := Aside0.mk ((by rw [hg]; exact Nat.ne_of_gt (blk_lt (g := gb203) (o := .cells #[.int .i64 t199, .int .i64 t200, .int .i64 t201, .int .i64 t202] 25 (0, 0)) (by (with_reducible repeat (first | refine blk_drewN ?_ _ | refine blk_drew ?_ | refine blk_alloc ?_ _)); exact BK203.out)) : gb211 ≠ gb203)); clear BK203; clear HB; have BK203 := n0_; have HB := n1_; have BK211 := n2_; have GW211 := n3_; have GE211 := n4_; have NB203_211 := n5_; have NB211_203 := n6_; clear n0_ n1_ n2_ n3_ n4_ n5_ n6_; clear hb hbox hg; have hnb16 := NB211_203.out; have hnc16 := NB203_211.out; have hcz17_0 : w15.cell? ⟨gb211, 0, none⟩ = some (.int .i64 0) := (blk_cell BK211.out 0).trans rfl; have hcz17_1 : w15.cell? ⟨gb211, 1, none⟩ = some (.int .i64 0) := (blk_cell BK211.out 1).trans rfl; have hfz17_0 := blk_frozen BK211.out 0; have hfz17_1 := blk_frozen BK211.out 1))
    repeat (go_quiet (first | (go_at_call 4; (with_reducible refine (laws_a2Long.calls _ _ l0 _ _ l1 false _ ?side1 ?side2 ?side3 ?side4 A3.out).mono ?_); (case side1 => repeat (first | exact HR0.out | (with_reducible refine Kd.C_alloc ?_ _) | (with_reducible refine Kd.C_drewN ?_ _) | (with_reducible refine Kd.C_drew ?_))); (case side2 => exact HC0.out); (case side3 => repeat (first | exact HR1.out | (with_reducible refine Kd.C_alloc ?_ _) | (with_reducible refine Kd.C_drewN ?_ _) | (with_reducible refine Kd.C_drew ?_))); (case side4 => exact HC1.out); rintro e w' ⟨rfl, ⟨nd, rfl⟩⟩; (try first | exact ⟨rfl, _, World.drewN_drewN _ _ _⟩ | exact ⟨rfl, _, Eq.trans (World.drewN_drewN _ _ _) (congrArg (World.drewN _) (Nat.add_assoc _ _ _))⟩)) | (go_at_call 5; (with_reducible refine (spec_A2Sheet.calls _ _ l0 t199 t200 t201 t202 _ ?side1 ?side2 A5.out).mono ?_); (case side1 => repeat (first | exact HR0.out | (with_reducible refine Kd.C_alloc ?_ _) | (with_reducible refine Kd.C_drewN ?_ _) | (with_reducible refine Kd.C_drew ?_))); (case side2 => exact HC0.out); rintro e w11 ⟨rfl, hb⟩; have n0_ := Aside0.mk (below_step (by repeat (first | (with_reducible first | exact HB.out | apply below_alloc | apply pw_below_drewN | apply below_drew1) | exact HB.out)) hb); clear HB; have HB := n0_; clear n0_; (try clear hb); (try clear hb2); (try clear hk); (try clear hi)) | ((with_reducible refine gate_dst (N := 5) rfl ?_); (try (refine gate_guard (by rfl) ?_; dsimp only)); refine box_event ?hg (N := 5) ?hd (cs := #[.int .i64 0, .int .i64 0, .int .i64 0, .int .i64 0]) (t := 25) ?hr ?_; (case hd => rfl); (case hg => rfl); (case hr => first | (go_simp; done) | (go_simp; rfl)); intro gb203 hg w12 hbox hb; have n0_ := Aside0.mk (below_step (by repeat (first | (with_reducible first | exact HB.out | apply below_alloc | apply pw_below_drewN | apply below_drew1) | exact HB.out)) hb); have n1_ := Aside0.mk (hbox); have n2_ := Aside0.mk ((by rw [hg]; exact (below_size (by repeat (first | (with_reducible first | exact HB.out | apply below_alloc | apply pw_below_drewN | apply below_drew1) | exact HB.out))) : w.heap.size ≤ gb203)); have n3_ := Aside0.mk ((by rw [hg]; exact (below_size (by repeat (first | (with_reducible first | exact HB.out | apply below_alloc | apply pw_below_drewN | apply below_drew1) | exact HB.out))) : w.heap.size ≤ gb203)); clear HB; have HB := n0_; have BK203 := n1_; have GW203 := n2_; have GE203 := n3_; clear n0_ n1_ n2_ n3_; clear hb hbox hg; have hcz13_0 : w12.cell? ⟨gb203, 0, none⟩ = some (.int .i64 0) := (blk_cell BK203.out 0).trans rfl; have hcz13_1 : w12.cell? ⟨gb203, 1, none⟩ = some (.int .i64 0) := (blk_cell BK203.out 1).trans rfl; have hcz13_2 : w12.cell? ⟨gb203, 2, none⟩ = some (.int .i64 0) := (blk_cell BK203.out 2).trans rfl; have hcz13_3 : w12.cell? ⟨gb203, 3, none⟩ = some (.int .i64 0) := (blk_cell BK203.out 3).trans rfl; have hfz13_0 := blk_frozen BK203.out 0; have hfz13_1 := blk_frozen BK203.out 1; have hfz13_2 := blk_frozen BK203.out 2; have hfz13_3 := blk_frozen BK203.out 3) | (go_at_call 6; (with_reducible refine (laws_a2At.calls _ _ l1 0 120 t204 _ ?side1 ?side2 A6.out).mono ?_); (case side1 => exact Kd.C_below HR1.out (by repeat (first | (with_reducible first | exact HB.out | apply below_alloc | apply pw_below_drewN | apply below_drew1 | refine below_set ?_ GE203.out) | exact HB.out))); (case side2 => exact HC1.out); rintro e w' ⟨rfl, ⟨nd, rfl⟩⟩; (try first | exact ⟨rfl, _, World.drewN_drewN _ _ _⟩ | exact ⟨rfl, _, Eq.trans (World.drewN_drewN _ _ _) (congrArg (World.drewN _) (Nat.add_assoc _ _ _))⟩)) | (go_at_call 6; (with_reducible refine (laws_a2At.calls _ _ l1 1 120 t205 _ ?side1 ?side2 A7.out).mono ?_); (case side1 => exact Kd.C_below HR1.out (by repeat (first | (with_reducible first | exact HB.out | apply below_alloc | apply pw_below_drewN | apply below_drew1 | refine below_set ?_ GE203.out) | exact HB.out))); (case side2 => exact HC1.out); rintro e w' ⟨rfl, ⟨nd, rfl⟩⟩; (try first | exact ⟨rfl, _, World.drewN_drewN _ _ _⟩ | exact ⟨rfl, _, Eq.trans (World.drewN_drewN _ _ _) (congrArg (World.drewN _) (Nat.add_assoc _ _ _))⟩)) | (go_at_call 7; (with_reducible refine (impl_DryFor.calls (wrap64 (50 + (wrap64 (10 * t204)))) t202 t206 t207 _ A8.out).mono ?_); rintro e w' ⟨rfl, ⟨nd, rfl⟩⟩; (try first | exact ⟨rfl, _, World.drewN_drewN _ _ _⟩ | exact ⟨rfl, _, Eq.trans (World.drewN_drewN _ _ _) (congrArg (World.drewN _) (Nat.add_assoc _ _ _))⟩)) | (go_at_call 8; (with_reducible refine (impl_WetError.calls k t206 (wrap64 (50 + (wrap64 (10 * t204)))) t202 t208 t209 t210 _ A9.out).mono ?_); rintro e w14 ⟨rfl, hb⟩; have n0_ := Aside0.mk (blk_below (g := gb203) (o := .cells #[.int .i64 t199, .int .i64 t200, .int .i64 t201, .int .i64 t202] 25 (0, 0)) (by (with_reducible repeat (first | refine blk_drewN ?_ _ | refine blk_drew ?_ | refine blk_alloc ?_ _)); refine blk_put (cs := #[.int .i64 t199, .int .i64 t200, .int .i64 t201, .int .i64 0]) ?_ 3 _ rfl; (with_reducible repeat (first | refine blk_drewN ?_ _ | refine blk_drew ?_ | refine blk_alloc ?_ _)); refine blk_put (cs := #[.int .i64 t199, .int .i64 t200, .int .i64 0, .int .i64 0]) ?_ 2 _ rfl; (with_reducible repeat (first | refine blk_drewN ?_ _ | refine blk_drew ?_ | refine blk_alloc ?_ _)); refine blk_put (cs := #[.int .i64 t199, .int .i64 0, .int .i64 0, .int .i64 0]) ?_ 1 _ rfl; (with_reducible repeat (first | refine blk_drewN ?_ _ | refine blk_drew ?_ | refine blk_alloc ?_ _)); refine blk_put (cs := #[.int .i64 0, .int .i64 0, .int .i64 0, .int .i64 0]) ?_ 0 _ rfl; (with_reducible repeat (first | refine blk_drewN ?_ _ | refine blk_drew ?_ | refine blk_alloc ?_ _)); exact BK203.out) hb); have n1_ := Aside0.mk (below_step (by repeat (first | (with_reducible first | exact HB.out | apply below_alloc | apply pw_below_drewN | apply below_drew1 | refine below_set ?_ GE203.out) | exact HB.out)) hb); clear BK203; clear HB; have BK203 := n0_; have HB := n1_; clear n0_ n1_; (try clear hb); (try clear hb2); (try clear hk); (try clear hi)) | ((with_reducible refine gate_dst (N := 10) rfl ?_); (try (refine gate_guard (by rfl) ?_; dsimp only)); refine box_event ?hg (N := 10) ?hd (cs := #[.int .i64 0, .int .i64 0]) (t := 31) ?hr ?_; (case hd => rfl); (case hg => rfl); (case hr => first | (go_simp; done) | (go_simp; rfl)); intro gb211 hg w15 hbox hb; have n0_ := Aside0.mk (blk_below (g := gb203) (o := .cells #[.int .i64 t199, .int .i64 t200, .int .i64 t201, .int .i64 t202] 25 (0, 0)) (by (with_reducible repeat (first | refine blk_drewN ?_ _ | refine blk_drew ?_ | refine blk_alloc ?_ _)); exact BK203.out) hb); have n1_ := Aside0.mk (below_step (by repeat (first | (with_reducible first | exact HB.out | apply below_alloc | apply pw_below_drewN | apply below_drew1 | refine below_set ?_ GE203.out) | exact HB.out)) hb); have n2_ := Aside0.mk (hbox); have n3_ := Aside0.mk ((by rw [hg]; exact (below_size (by repeat (first | (with_reducible first | exact HB.out | apply below_alloc | apply pw_below_drewN | apply below_drew1 | refine below_set ?_ GE203.out) | exact HB.out))) : w.heap.size ≤ gb211)); have n4_ := Aside0.mk ((by rw [hg]; exact (below_size (by repeat (first | (with_reducible first | exact HB.out | apply below_alloc | apply pw_below_drewN | apply below_drew1 | refine below_set ?_ GE203.out) | exact HB.out))) : w.heap.size ≤ gb211)); have n5_ := Aside0.mk ((by rw [hg]; exact Nat.ne_of_lt (blk_lt (g := gb203) (o := .cells #[.int .i64 t199, .int .i64 t200, .int .i64 t201, .int .i64 t202] 25 (0, 0)) (by (with_reducible repeat (first | refine blk_drewN ?_ _ | refine blk_drew ?_ | refine blk_alloc ?_ _)); exact BK203.out)) : gb203 ≠ gb211)); have n6_ := Aside0.mk ((by rw [hg]; exact Nat.ne_of_gt (blk_lt (g := gb203) (o := .cells #[.int .i64 t199, .int .i64 t200, .int .i64 t201, .int .i64 t202] 25 (0, 0)) (by (with_reducible repeat (first | refine blk_drewN ?_ _ | refine blk_drew ?_ | refine blk_alloc ?_ _)); exact BK203.out)) : gb211 ≠ gb203)); clear BK203; clear HB; have BK203 := n0_; have HB := n1_; have BK211 := n2_; have GW211 := n3_; have GE211 := n4_; have NB203_211 := n5_; have NB211_203 := n6_; clear n0_ n1_ n2_ n3_ n4_ n5_ n6_; clear hb hbox hg; have hnb16 := NB211_203.out; have hnc16 := NB203_211.out; have hcz17_0 : w15.cell? ⟨gb211, 0, none⟩ = some (.int .i64 0) := (blk_cell BK211.out 0).trans rfl; have hcz17_1 : w15.cell? ⟨gb211, 1, none⟩ = some (.int .i64 0) := (blk_cell BK211.out 1).trans rfl; have hfz17_0 := blk_frozen BK211.out 0; have hfz17_1 := blk_frozen BK211.out 1)); go_upto_region 8 with (first | (go_at_call 4; (with_reducible refine (laws_a2Long.calls _ _ l0 _ _ l1 false _ ?side1 ?side2 ?side3 ?side4 A3.out).mono ?_); (case side1 => repeat (first | exact HR0.out | (with_reducible refine Kd.C_alloc ?_ _) | (with_reducible refine Kd.C_drewN ?_ _) | (with_reducible refine Kd.C_drew ?_))); (case side2 => exact HC0.out); (case side3 => repeat (first | exact HR1.out | (with_reducible refine Kd.C_alloc ?_ _) | (with_reducible refine Kd.C_drewN ?_ _) | (with_reducible refine Kd.C_drew ?_))); (case side4 => exact HC1.out); rintro e w' ⟨rfl, ⟨nd, rfl⟩⟩; (try first | exact ⟨rfl, _, World.drewN_drewN _ _ _⟩ | exact ⟨rfl, _, Eq.trans (World.drewN_drewN _ _ _) (congrArg (World.drewN _) (Nat.add_assoc _ _ _))⟩)) | (go_at_call 5; (with_reducible refine (spec_A2Sheet.calls _ _ l0 t199 t200 t201 t202 _ ?side1 ?side2 A5.out).mono ?_); (case side1 => repeat (first | exact HR0.out | (with_reducible refine Kd.C_alloc ?_ _) | (with_reducible refine Kd.C_drewN ?_ _) | (with_reducible refine Kd.C_drew ?_))); (case side2 => exact HC0.out); rintro e w11 ⟨rfl, hb⟩; have n0_ := Aside0.mk (below_step (by repeat (first | (with_reducible first | exact HB.out | apply below_alloc | apply pw_below_drewN | apply below_drew1) | exact HB.out)) hb); clear HB; have HB := n0_; clear n0_; (try clear hb); (try clear hb2); (try clear hk); (try clear hi)) | ((with_reducible refine gate_dst (N := 5) rfl ?_); (try (refine gate_guard (by rfl) ?_; dsimp only)); refine box_event ?hg (N := 5) ?hd (cs := #[.int .i64 0, .int .i64 0, .int .i64 0, .int .i64 0]) (t := 25) ?hr ?_; (case hd => rfl); (case hg => rfl); (case hr => first | (go_simp; done) | (go_simp; rfl)); intro gb203 hg w12 hbox hb; have n0_ := Aside0.mk (below_step (by repeat (first | (with_reducible first | exact HB.out | apply below_alloc | apply pw_below_drewN | apply below_drew1) | exact HB.out)) hb); have n1_ := Aside0.mk (hbox); have n2_ := Aside0.mk ((by rw [hg]; exact (below_size (by repeat (first | (with_reducible first | exact HB.out | apply below_alloc | apply pw_below_drewN | apply below_drew1) | exact HB.out))) : w.heap.size ≤ gb203)); have n3_ := Aside0.mk ((by rw [hg]; exact (below_size (by repeat (first | (with_reducible first | exact HB.out | apply below_alloc | apply pw_below_drewN | apply below_drew1) | exact HB.out))) : w.heap.size ≤ gb203)); clear HB; have HB := n0_; have BK203 := n1_; have GW203 := n2_; have GE203 := n3_; clear n0_ n1_ n2_ n3_; clear hb hbox hg; have hcz13_0 : w12.cell? ⟨gb203, 0, none⟩ = some (.int .i64 0) := (blk_cell BK203.out 0).trans rfl; have hcz13_1 : w12.cell? ⟨gb203, 1, none⟩ = some (.int .i64 0) := (blk_cell BK203.out 1).trans rfl; have hcz13_2 : w12.cell? ⟨gb203, 2, none⟩ = some (.int .i64 0) := (blk_cell BK203.out 2).trans rfl; have hcz13_3 : w12.cell? ⟨gb203, 3, none⟩ = some (.int .i64 0) := (blk_cell BK203.out 3).trans rfl; have hfz13_0 := blk_frozen BK203.out 0; have hfz13_1 := blk_frozen BK203.out 1; have hfz13_2 := blk_frozen BK203.out 2; have hfz13_3 := blk_frozen BK203.out 3) | (go_at_call 6; (with_reducible refine (laws_a2At.calls _ _ l1 0 120 t204 _ ?side1 ?side2 A6.out).mono ?_); (case side1 => exact Kd.C_below HR1.out (by repeat (first | (with_reducible first | exact HB.out | apply below_alloc | apply pw_below_drewN | apply below_drew1 | refine below_set ?_ GE203.out) | exact HB.out))); (case side2 => exact HC1.out); rintro e w' ⟨rfl, ⟨nd, rfl⟩⟩; (try first | exact ⟨rfl, _, World.drewN_drewN _ _ _⟩ | exact ⟨rfl, _, Eq.trans (World.drewN_drewN _ _ _) (congrArg (World.drewN _) (Nat.add_assoc _ _ _))⟩)) | (go_at_call 6; (with_reducible refine (laws_a2At.calls _ _ l1 1 120 t205 _ ?side1 ?side2 A7.out).mono ?_); (case side1 => exact Kd.C_below HR1.out (by repeat (first | (with_reducible first | exact HB.out | apply below_alloc | apply pw_below_drewN | apply below_drew1 | refine below_set ?_ GE203.out) | exact HB.out))); (case side2 => exact HC1.out); rintro e w' ⟨rfl, ⟨nd, rfl⟩⟩; (try first | exact ⟨rfl, _, World.drewN_drewN _ _ _⟩ | exact ⟨rfl, _, Eq.trans (World.drewN_drewN _ _ _) (congrArg (World.drewN _) (Nat.add_assoc _ _ _))⟩)) | (go_at_call 7; (with_reducible refine (impl_DryFor.calls (wrap64 (50 + (wrap64 (10 * t204)))) t202 t206 t207 _ A8.out).mono ?_); rintro e w' ⟨rfl, ⟨nd, rfl⟩⟩; (try first | exact ⟨rfl, _, World.drewN_drewN _ _ _⟩ | exact ⟨rfl, _, Eq.trans (World.drewN_drewN _ _ _) (congrArg (World.drewN _) (Nat.add_assoc _ _ _))⟩)) | (go_at_call 8; (with_reducible refine (impl_WetError.calls k t206 (wrap64 (50 + (wrap64 (10 * t204)))) t202 t208 t209 t210 _ A9.out).mono ?_); rintro e w14 ⟨rfl, hb⟩; have n0_ := Aside0.mk (blk_below (g := gb203) (o := .cells #[.int .i64 t199, .int .i64 t200, .int .i64 t201, .int .i64 t202] 25 (0, 0)) (by (with_reducible repeat (first | refine blk_drewN ?_ _ | refine blk_drew ?_ | refine blk_alloc ?_ _)); refine blk_put (cs := #[.int .i64 t199, .int .i64 t200, .int .i64 t201, .int .i64 0]) ?_ 3 _ rfl; (with_reducible repeat (first | refine blk_drewN ?_ _ | refine blk_drew ?_ | refine blk_alloc ?_ _)); refine blk_put (cs := #[.int .i64 t199, .int .i64 t200, .int .i64 0, .int .i64 0]) ?_ 2 _ rfl; (with_reducible repeat (first | refine blk_drewN ?_ _ | refine blk_drew ?_ | refine blk_alloc ?_ _)); refine blk_put (cs := #[.int .i64 t199, .int .i64 0, .int .i64 0, .int .i64 0]) ?_ 1 _ rfl; (with_reducible repeat (first | refine blk_drewN ?_ _ | refine blk_drew ?_ | refine blk_alloc ?_ _)); refine blk_put (cs := #[.int .i64 0, .int .i64 0, .int .i64 0, .int .i64 0]) ?_ 0 _ rfl; (with_reducible repeat (first | refine blk_drewN ?_ _ | refine blk_drew ?_ | refine blk_alloc ?_ _)); exact BK203.out) hb); have n1_ := Aside0.mk (below_step (by repeat (first | (with_reducible first | exact HB.out | apply below_alloc | apply pw_below_drewN | apply below_drew1 | refine below_set ?_ GE203.out) | exact HB.out)) hb); clear BK203; clear HB; have BK203 := n0_; have HB := n1_; clear n0_ n1_; (try clear hb); (try clear hb2); (try clear hk); (try clear hi)) | ((with_reducible refine gate_dst (N := 10) rfl ?_); (try (refine gate_guard (by rfl) ?_; dsimp only)); refine box_event ?hg (N := 10) ?hd (cs := #[.int .i64 0, .int .i64 0]) (t := 31) ?hr ?_; (case hd => rfl); (case hg => rfl); (case hr => first | (go_simp; done) | (go_simp; rfl)); intro gb211 hg w15 hbox hb; have n0_ := Aside0.mk (blk_below (g := gb203) (o := .cells #[.int .i64 t199, .int .i64 t200, .int .i64 t201, .int .i64 t202] 25 (0, 0)) (by (with_reducible repeat (first | refine blk_drewN ?_ _ | refine blk_drew ?_ | refine blk_alloc ?_ _)); exact BK203.out) hb); have n1_ := Aside0.mk (below_step (by repeat (first | (with_reducible first | exact HB.out | apply below_alloc | apply pw_below_drewN | apply below_drew1 | refine below_set ?_ GE203.out) | exact HB.out)) hb); have n2_ := Aside0.mk (hbox); have n3_ := Aside0.mk ((by rw [hg]; exact (below_size (by repeat (first | (with_reducible first | exact HB.out | apply below_alloc | apply pw_below_drewN | apply below_drew1 | refine below_set ?_ GE203.out) | exact HB.out))) : w.heap.size ≤ gb211)); have n4_ := Aside0.mk ((by rw [hg]; exact (below_size (by repeat (first | (with_reducible first | exact HB.out | apply below_alloc | apply pw_below_drewN | apply below_drew1 | refine below_set ?_ GE203.out) | exact HB.out))) : w.heap.size ≤ gb211)); have n5_ := Aside0.mk ((by rw [hg]; exact Nat.ne_of_lt (blk_lt (g := gb203) (o := .cells #[.int .i64 t199, .int .i64 t200, .int .i64 t201, .int .i64 t202] 25 (0, 0)) (by (with_reducible repeat (first | refine blk_drewN ?_ _ | refine blk_drew ?_ | refine blk_alloc ?_ _)); exact BK203.out)) : gb203 ≠ gb211)); have n6_ := Aside0.mk ((by rw [hg]; exact Nat.ne_of_gt (blk_lt (g := gb203) (o := .cells #[.int .i64 t199, .int .i64 t200, .int .i64 t201, .int .i64 t202] 25 (0, 0)) (by (with_reducible repeat (first | refine blk_drewN ?_ _ | refine blk_drew ?_ | refine blk_alloc ?_ _)); exact BK203.out)) : gb211 ≠ gb203)); clear BK203; clear HB; have BK203 := n0_; have HB := n1_; have BK211 := n2_; have GW211 := n3_; have GE211 := n4_; have NB203_211 := n5_; have NB211_203 := n6_; clear n0_ n1_ n2_ n3_ n4_ n5_ n6_; clear hb hbox hg; have hnb16 := NB211_203.out; have hnc16 := NB203_211.out; have hcz17_0 : w15.cell? ⟨gb211, 0, none⟩ = some (.int .i64 0) := (blk_cell BK211.out 0).trans rfl; have hcz17_1 : w15.cell? ⟨gb211, 1, none⟩ = some (.int .i64 0) := (blk_cell BK211.out 1).trans rfl; have hfz17_0 := blk_frozen BK211.out 0; have hfz17_1 := blk_frozen BK211.out 1)))
    (try simp only [Act.put, List.setIfInBounds_toArray, List.set_cons_zero, List.set_cons_succ])
    go_cut [85] (fun v85 wc => ∃ (kq : Nat) (x85_9 : Bool), v85 = .bool x85_9 ∧ Aside0 (laws_FnPapers.j0 kq l1 (wrap64 (50 + (wrap64 (10 * t204)))) (wrap64 (50 + (wrap64 (10 * t205)))) t206 x85_9 t199 t200 t201 t202 = some r) ∧ Aside0 (kq ≤ k) ∧ Aside0 (wc.heap[gb203]? = some (.cells #[.int .i64 t199, .int .i64 t200, .int .i64 t201, .int .i64 t202] 25 (0, 0))) ∧ Aside0 (wc.heap[gb211]? = some (.cells #[.int .i64 t208, .int .i64 t209] 31 (0, 0))) ∧ Aside0 (Below w.heap.size w wc))
    case first =>
      as_aux_lemma =>
        have H := HC10.out
        clear HC10
        by_cases c18 : t207 = 0
        · rw [if_pos c18] at H
          have c18b0 : (t207 == 0) = true := beq_iff_eq.mpr c18
          have c18b1 : (t207 != 0) = false := bne_eq_false_iff_eq.mpr c18
          clear c18
          (first | rw [c18b0] | (simp only [i64_w, i32_w]; rw [c18b0]) | skip)
          by_cases c19 : t206 < 1
          · rw [if_pos c19] at H
            exact (laws_FnPapers.j0_no _ _ _ _ _ _ _ _ _ (H.trans (congrArg some hT_))).elim
          · rw [if_neg c19] at H
            have c19b0 : decide (t206 < 1) = false := decide_eq_false c19
            clear c19
            by_cases c20 : t206 > (wrap64 (50 + (wrap64 (10 * t204))))
            · rw [if_pos c20] at H
              exact (laws_FnPapers.j0_no _ _ _ _ _ _ _ _ _ (H.trans (congrArg some hT_))).elim
            · rw [if_neg c20] at H
              have c20b0 : decide ((wrap64 (50 + (wrap64 (10 * t204)))) < t206) = false := decide_eq_false c20
              clear c20
              by_cases c21 : t210 = 0
              · rw [if_pos c21] at H
                have c21b0 : (t210 == 0) = true := beq_iff_eq.mpr c21
                have c21b1 : (t210 != 0) = false := bne_eq_false_iff_eq.mpr c21
                clear c21
                by_cases c22 : t209 < 1
                · rw [if_pos c22] at H
                  exact (laws_FnPapers.j0_no _ _ _ _ _ _ _ _ _ (H.trans (congrArg some hT_))).elim
                · rw [if_neg c22] at H
                  have c22b0 : decide (t209 < 1) = false := decide_eq_false c22
                  clear c22
                  as_aux_lemma =>
                    have H' := Aside0.mk H
                    clear H
                    have hnb25 := NB211_203.out
                    have hnc25 := NB203_211.out
                    have hcz26_0 : w15.cell? ⟨gb211, 0, none⟩ = some (.int .i64 0) := (blk_cell BK211.out 0).trans rfl
                    have hcz26_1 : w15.cell? ⟨gb211, 1, none⟩ = some (.int .i64 0) := (blk_cell BK211.out 1).trans rfl
                    have hfz26_0 := blk_frozen BK211.out 0
                    have hfz26_1 := blk_frozen BK211.out 1
                    go_wp2
                    repeat (go_quiet (fail); try go_wp2)
                    go_meet
                    case rel => exact ⟨_, (decide (t208 < 0)), (by first | rfl | (simp; done) | (simp [*]; done)), H', ⟨by first | omega | exact Nat.le_refl _⟩, ⟨by (with_reducible repeat (first | refine blk_drewN ?_ _ | refine blk_drew ?_ | refine blk_alloc ?_ _)); refine blk_far ?_ NB203_211.out _; (with_reducible repeat (first | refine blk_drewN ?_ _ | refine blk_drew ?_ | refine blk_alloc ?_ _)); refine blk_far ?_ NB203_211.out _; (with_reducible repeat (first | refine blk_drewN ?_ _ | refine blk_drew ?_ | refine blk_alloc ?_ _)); exact BK203.out⟩, ⟨by (with_reducible repeat (first | refine blk_drewN ?_ _ | refine blk_drew ?_ | refine blk_alloc ?_ _)); refine blk_put (cs := #[.int .i64 t208, .int .i64 0]) ?_ 1 _ rfl; (with_reducible repeat (first | refine blk_drewN ?_ _ | refine blk_drew ?_ | refine blk_alloc ?_ _)); refine blk_put (cs := #[.int .i64 0, .int .i64 0]) ?_ 0 _ rfl; (with_reducible repeat (first | refine blk_drewN ?_ _ | refine blk_drew ?_ | refine blk_alloc ?_ _)); exact BK211.out⟩, ⟨by repeat (first | (with_reducible first | exact HB.out | apply below_alloc | apply pw_below_drewN | apply below_drew1 | refine below_set ?_ GE203.out | refine below_set ?_ GE211.out) | exact HB.out)⟩⟩
              · rw [if_neg c21] at H
                exact (laws_FnPapers.j0_no _ _ _ _ _ _ _ _ _ (H.trans (congrArg some hT_))).elim
        · rw [if_neg c18] at H
          exact (laws_FnPapers.j0_no _ _ _ _ _ _ _ _ _ (H.trans (congrArg some hT_))).elim
    case rest =>
      as_aux_lemma =>
        clear HC10
        try clear c1
        try clear c2
        try clear p2
        try clear c3
        try clear c4
        try clear p6
        try clear c16
        try clear c18
        try clear c18b0
        try clear c18b1
        try clear c19
        try clear c19b0
        try clear c20
        try clear c20b0
        try clear c21
        try clear c21b0
        try clear c21b1
        try clear c22
        try clear c22b0
        try clear c23
        try clear c25
        try clear hcz13_0
        try clear hcz13_1
        try clear hcz13_2
        try clear hcz13_3
        try clear hcz17_0
        try clear hcz17_1
        try clear hcz24_0
        try clear hcz24_1
        try clear hcz26_0
        try clear hcz26_1
        try clear hfz13_0
        try clear hfz13_1
        try clear hfz13_2
        try clear hfz13_3
        try clear hfz17_0
        try clear hfz17_1
        try clear hfz24_0
        try clear hfz24_1
        try clear hfz26_0
        try clear hfz26_1
        obtain ⟨kq, x85_9, rfl, HA, HJ9, BK203, BK211, HB⟩ := hcut
        cases kq with
        | zero => exact absurd HA.out (by simp [laws_FnPapers.j0])
        | succ kj9 =>
          have H := HA.out
          clear HA
          simp only [laws_FnPapers.j0] at H
          by_cases c27 : x85_9 = true
          · subst c27
            have H1 : (some false) = some r := by rw [if_pos rfl] at H; exact H
            exact absurd ((Option.some.inj H1).trans hT_) Bool.false_ne_true
          · replace c27 := Bool.eq_false_iff.mpr c27
            subst c27
            have H1 : (if t206 > 1 then ((impl_WetError.f kj9 (wrap64 (t206 - 1)) (wrap64 (50 + (wrap64 (10 * t204)))) t202).bind fun bt212 => (if bt212.2.2 = 0 then (if bt212.1 ≥ 0 then (some false) else (laws_FnPapers.j1 kj9 l1 (wrap64 (50 + (wrap64 (10 * t204)))) (wrap64 (50 + (wrap64 (10 * t205)))) t206 t199 t200 t201 t202)) else (some false))) else (laws_FnPapers.j1 kj9 l1 (wrap64 (50 + (wrap64 (10 * t204)))) (wrap64 (50 + (wrap64 (10 * t205)))) t206 t199 t200 t201 t202)) = some r := by rw [if_neg (show ¬ (false = true) by decide)] at H; exact H
            clear H
            have H := H1
            clear H1
            have HC28 := Aside0.mk H
            clear H
            go_upto_if 87 with (fail)
            repeat (go_quiet (fail); go_upto_if 87 with (fail))
            go_cut [] (fun wc => ∃ (kq : Nat), Aside0 (laws_FnPapers.j1 kq l1 (wrap64 (50 + (wrap64 (10 * t204)))) (wrap64 (50 + (wrap64 (10 * t205)))) t206 t199 t200 t201 t202 = some r) ∧ Aside0 (kq ≤ kj9) ∧ Aside0 (wc.heap[gb203]? = some (.cells #[.int .i64 t199, .int .i64 t200, .int .i64 t201, .int .i64 t202] 25 (0, 0))) ∧ Aside0 (wc.heap[gb211]? = some (.cells #[.int .i64 t208, .int .i64 t209] 31 (0, 0))) ∧ Aside0 (Below w.heap.size w wc))
            case first =>
              as_aux_lemma =>
                have H := HC28.out
                clear HC28
                by_cases c29 : t206 > 1
                · rw [if_pos c29] at H
                  have c29b0 : decide (1 < t206) = true := decide_eq_true c29
                  clear c29
                  (first | rw [c29b0] | (simp only [i64_w, i32_w]; rw [c29b0]) | skip)
                  replace H := Option.bind_eq_some_iff.mp H
                  obtain ⟨⟨t212, t213, t214⟩, A300, H⟩ := H
                  replace H : (if t214 = 0 then (if t212 ≥ 0 then (some false) else (laws_FnPapers.j1 kj9 l1 (wrap64 (50 + (wrap64 (10 * t204)))) (wrap64 (50 + (wrap64 (10 * t205)))) t206 t199 t200 t201 t202)) else (some false)) = some r := H
                  have A30 := Aside0.mk A300
                  clear A300
                  by_cases c31 : t214 = 0
                  · rw [if_pos c31] at H
                    have c31b0 : (t214 == 0) = true := beq_iff_eq.mpr c31
                    have c31b1 : (t214 != 0) = false := bne_eq_false_iff_eq.mpr c31
                    clear c31
                    by_cases c32 : t212 ≥ 0
                    · rw [if_pos c32] at H
                      exact absurd ((Option.some.inj H).trans hT_) Bool.false_ne_true
                    · rw [if_neg c32] at H
                      have c32b0 : decide (0 ≤ t212) = false := decide_eq_false c32
                      clear c32
                      as_aux_lemma =>
                        have H' := Aside0.mk H
                        clear H
                        have hnb40 := NB203_211.out
                        have hnc40 := NB211_203.out
                        have hcz41_0 : wc.cell? ⟨gb203, 0, none⟩ = some (.int .i64 t199) := (blk_cell BK203.out 0).trans rfl
                        have hcz41_1 : wc.cell? ⟨gb203, 1, none⟩ = some (.int .i64 t200) := (blk_cell BK203.out 1).trans rfl
                        have hcz41_2 : wc.cell? ⟨gb203, 2, none⟩ = some (.int .i64 t201) := (blk_cell BK203.out 2).trans rfl
                        have hcz41_3 : wc.cell? ⟨gb203, 3, none⟩ = some (.int .i64 t202) := (blk_cell BK203.out 3).trans rfl
                        have hfz41_0 := blk_frozen BK203.out 0
                        have hfz41_1 := blk_frozen BK203.out 1
                        have hfz41_2 := blk_frozen BK203.out 2
                        have hfz41_3 := blk_frozen BK203.out 3
                        go_wp2_with (first | (go_at_call 8; (with_reducible refine (impl_WetError.calls kj9 (wrap64 (t206 - 1)) (wrap64 (50 + (wrap64 (10 * t204)))) t202 t212 t213 t214 _ A30.out).mono ?_); rintro e w42 ⟨rfl, hb⟩; have n0_ := Aside0.mk (blk_below (g := gb203) (o := .cells #[.int .i64 t199, .int .i64 t200, .int .i64 t201, .int .i64 t202] 25 (0, 0)) (by (with_reducible repeat (first | refine blk_drewN ?_ _ | refine blk_drew ?_ | refine blk_alloc ?_ _)); exact BK203.out) hb); have n1_ := Aside0.mk (blk_below (g := gb211) (o := .cells #[.int .i64 t208, .int .i64 t209] 31 (0, 0)) (by (with_reducible repeat (first | refine blk_drewN ?_ _ | refine blk_drew ?_ | refine blk_alloc ?_ _)); exact BK211.out) hb); have n2_ := Aside0.mk (below_step (by repeat (first | (with_reducible first | exact HB.out | apply below_alloc | apply pw_below_drewN | apply below_drew1 | refine below_set ?_ GE203.out | refine below_set ?_ GE211.out) | exact HB.out)) hb); clear BK203; clear BK211; clear HB; have BK203 := n0_; have BK211 := n1_; have HB := n2_; clear n0_ n1_ n2_; (try clear hb); (try clear hb2); (try clear hk); (try clear hi)) | ((with_reducible refine gate_dst (N := 12) rfl ?_); (try (refine gate_guard (by rfl) ?_; dsimp only)); refine box_event ?hg (N := 12) ?hd (cs := #[.int .i64 0, .int .i64 0]) (t := 31) ?hr ?_; (case hd => rfl); (case hg => rfl); (case hr => first | (go_simp; done) | (go_simp; rfl)); intro gb215 hg w43 hbox hb; have n0_ := Aside0.mk (blk_below (g := gb203) (o := .cells #[.int .i64 t199, .int .i64 t200, .int .i64 t201, .int .i64 t202] 25 (0, 0)) (by (with_reducible repeat (first | refine blk_drewN ?_ _ | refine blk_drew ?_ | refine blk_alloc ?_ _)); exact BK203.out) hb); have n1_ := Aside0.mk (blk_below (g := gb211) (o := .cells #[.int .i64 t208, .int .i64 t209] 31 (0, 0)) (by (with_reducible repeat (first | refine blk_drewN ?_ _ | refine blk_drew ?_ | refine blk_alloc ?_ _)); exact BK211.out) hb); have n2_ := Aside0.mk (below_step (by repeat (first | (with_reducible first | exact HB.out | apply below_alloc | apply pw_below_drewN | apply below_drew1 | refine below_set ?_ GE203.out | refine below_set ?_ GE211.out) | exact HB.out)) hb); have n3_ := Aside0.mk (hbox); have n4_ := Aside0.mk ((by rw [hg]; exact (below_size (by repeat (first | (with_reducible first | exact HB.out | apply below_alloc | apply pw_below_drewN | apply below_drew1 | refine below_set ?_ GE203.out | refine below_set ?_ GE211.out) | exact HB.out))) : w.heap.size ≤ gb215)); have n5_ := Aside0.mk ((by rw [hg]; exact (below_size (by repeat (first | (with_reducible first | exact HB.out | apply below_alloc | apply pw_below_drewN | apply below_drew1 | refine below_set ?_ GE203.out | refine below_set ?_ GE211.out) | exact HB.out))) : w.heap.size ≤ gb215)); have n6_ := Aside0.mk ((by rw [hg]; exact Nat.ne_of_lt (blk_lt (g := gb203) (o := .cells #[.int .i64 t199, .int .i64 t200, .int .i64 t201, .int .i64 t202] 25 (0, 0)) (by (with_reducible repeat (first | refine blk_drewN ?_ _ | refine blk_drew ?_ | refine blk_alloc ?_ _)); exact BK203.out)) : gb203 ≠ gb215)); have n7_ := Aside0.mk ((by rw [hg]; exact Nat.ne_of_gt (blk_lt (g := gb203) (o := .cells #[.int .i64 t199, .int .i64 t200, .int .i64 t201, .int .i64 t202] 25 (0, 0)) (by (with_reducible repeat (first | refine blk_drewN ?_ _ | refine blk_drew ?_ | refine blk_alloc ?_ _)); exact BK203.out)) : gb215 ≠ gb203)); have n8_ := Aside0.mk ((by rw [hg]; exact Nat.ne_of_lt (blk_lt (g := gb211) (o := .cells #[.int .i64 t208, .int .i64 t209] 31 (0, 0)) (by (with_reducible repeat (first | refine blk_drewN ?_ _ | refine blk_drew ?_ | refine blk_alloc ?_ _)); exact BK211.out)) : gb211 ≠ gb215)); have n9_ := Aside0.mk ((by rw [hg]; exact Nat.ne_of_gt (blk_lt (g := gb211) (o := .cells #[.int .i64 t208, .int .i64 t209] 31 (0, 0)) (by (with_reducible repeat (first | refine blk_drewN ?_ _ | refine blk_drew ?_ | refine blk_alloc ?_ _)); exact BK211.out)) : gb215 ≠ gb211)); clear BK203; clear BK211; clear HB; have BK203 := n0_; have BK211 := n1_; have HB := n2_; have BK215 := n3_; have GW215 := n4_; have GE215 := n5_; have NB203_215 := n6_; have NB215_203 := n7_; have NB211_215 := n8_; have NB215_211 := n9_; clear n0_ n1_ n2_ n3_ n4_ n5_ n6_ n7_ n8_ n9_; clear hb hbox hg; have hnb44 := NB215_203.out; have hnc44 := NB203_215.out; have hnb45 := NB215_211.out; have hnc45 := NB211_215.out; have hcz46_0 : w43.cell? ⟨gb215, 0, none⟩ = some (.int .i64 0) := (blk_cell BK215.out 0).trans rfl; have hcz46_1 : w43.cell? ⟨gb215, 1, none⟩ = some (.int .i64 0) := (blk_cell BK215.out 1).trans rfl; have hfz46_0 := blk_frozen BK215.out 0; have hfz46_1 := blk_frozen BK215.out 1))
                        repeat (go_quiet (first | (go_at_call 8; (with_reducible refine (impl_WetError.calls kj9 (wrap64 (t206 - 1)) (wrap64 (50 + (wrap64 (10 * t204)))) t202 t212 t213 t214 _ A30.out).mono ?_); rintro e w42 ⟨rfl, hb⟩; have n0_ := Aside0.mk (blk_below (g := gb203) (o := .cells #[.int .i64 t199, .int .i64 t200, .int .i64 t201, .int .i64 t202] 25 (0, 0)) (by (with_reducible repeat (first | refine blk_drewN ?_ _ | refine blk_drew ?_ | refine blk_alloc ?_ _)); exact BK203.out) hb); have n1_ := Aside0.mk (blk_below (g := gb211) (o := .cells #[.int .i64 t208, .int .i64 t209] 31 (0, 0)) (by (with_reducible repeat (first | refine blk_drewN ?_ _ | refine blk_drew ?_ | refine blk_alloc ?_ _)); exact BK211.out) hb); have n2_ := Aside0.mk (below_step (by repeat (first | (with_reducible first | exact HB.out | apply below_alloc | apply pw_below_drewN | apply below_drew1 | refine below_set ?_ GE203.out | refine below_set ?_ GE211.out) | exact HB.out)) hb); clear BK203; clear BK211; clear HB; have BK203 := n0_; have BK211 := n1_; have HB := n2_; clear n0_ n1_ n2_; (try clear hb); (try clear hb2); (try clear hk); (try clear hi)) | ((with_reducible refine gate_dst (N := 12) rfl ?_); (try (refine gate_guard (by rfl) ?_; dsimp only)); refine box_event ?hg (N := 12) ?hd (cs := #[.int .i64 0, .int .i64 0]) (t := 31) ?hr ?_; (case hd => rfl); (case hg => rfl); (case hr => first | (go_simp; done) | (go_simp; rfl)); intro gb215 hg w43 hbox hb; have n0_ := Aside0.mk (blk_below (g := gb203) (o := .cells #[.int .i64 t199, .int .i64 t200, .int .i64 t201, .int .i64 t202] 25 (0, 0)) (by (with_reducible repeat (first | refine blk_drewN ?_ _ | refine blk_drew ?_ | refine blk_alloc ?_ _)); exact BK203.out) hb); have n1_ := Aside0.mk (blk_below (g := gb211) (o := .cells #[.int .i64 t208, .int .i64 t209] 31 (0, 0)) (by (with_reducible repeat (first | refine blk_drewN ?_ _ | refine blk_drew ?_ | refine blk_alloc ?_ _)); exact BK211.out) hb); have n2_ := Aside0.mk (below_step (by repeat (first | (with_reducible first | exact HB.out | apply below_alloc | apply pw_below_drewN | apply below_drew1 | refine below_set ?_ GE203.out | refine below_set ?_ GE211.out) | exact HB.out)) hb); have n3_ := Aside0.mk (hbox); have n4_ := Aside0.mk ((by rw [hg]; exact (below_size (by repeat (first | (with_reducible first | exact HB.out | apply below_alloc | apply pw_below_drewN | apply below_drew1 | refine below_set ?_ GE203.out | refine below_set ?_ GE211.out) | exact HB.out))) : w.heap.size ≤ gb215)); have n5_ := Aside0.mk ((by rw [hg]; exact (below_size (by repeat (first | (with_reducible first | exact HB.out | apply below_alloc | apply pw_below_drewN | apply below_drew1 | refine below_set ?_ GE203.out | refine below_set ?_ GE211.out) | exact HB.out))) : w.heap.size ≤ gb215)); have n6_ := Aside0.mk ((by rw [hg]; exact Nat.ne_of_lt (blk_lt (g := gb203) (o := .cells #[.int .i64 t199, .int .i64 t200, .int .i64 t201, .int .i64 t202] 25 (0, 0)) (by (with_reducible repeat (first | refine blk_drewN ?_ _ | refine blk_drew ?_ | refine blk_alloc ?_ _)); exact BK203.out)) : gb203 ≠ gb215)); have n7_ := Aside0.mk ((by rw [hg]; exact Nat.ne_of_gt (blk_lt (g := gb203) (o := .cells #[.int .i64 t199, .int .i64 t200, .int .i64 t201, .int .i64 t202] 25 (0, 0)) (by (with_reducible repeat (first | refine blk_drewN ?_ _ | refine blk_drew ?_ | refine blk_alloc ?_ _)); exact BK203.out)) : gb215 ≠ gb203)); have n8_ := Aside0.mk ((by rw [hg]; exact Nat.ne_of_lt (blk_lt (g := gb211) (o := .cells #[.int .i64 t208, .int .i64 t209] 31 (0, 0)) (by (with_reducible repeat (first | refine blk_drewN ?_ _ | refine blk_drew ?_ | refine blk_alloc ?_ _)); exact BK211.out)) : gb211 ≠ gb215)); have n9_ := Aside0.mk ((by rw [hg]; exact Nat.ne_of_gt (blk_lt (g := gb211) (o := .cells #[.int .i64 t208, .int .i64 t209] 31 (0, 0)) (by (with_reducible repeat (first | refine blk_drewN ?_ _ | refine blk_drew ?_ | refine blk_alloc ?_ _)); exact BK211.out)) : gb215 ≠ gb211)); clear BK203; clear BK211; clear HB; have BK203 := n0_; have BK211 := n1_; have HB := n2_; have BK215 := n3_; have GW215 := n4_; have GE215 := n5_; have NB203_215 := n6_; have NB215_203 := n7_; have NB211_215 := n8_; have NB215_211 := n9_; clear n0_ n1_ n2_ n3_ n4_ n5_ n6_ n7_ n8_ n9_; clear hb hbox hg; have hnb44 := NB215_203.out; have hnc44 := NB203_215.out; have hnb45 := NB215_211.out; have hnc45 := NB211_215.out; have hcz46_0 : w43.cell? ⟨gb215, 0, none⟩ = some (.int .i64 0) := (blk_cell BK215.out 0).trans rfl; have hcz46_1 : w43.cell? ⟨gb215, 1, none⟩ = some (.int .i64 0) := (blk_cell BK215.out 1).trans rfl; have hfz46_0 := blk_frozen BK215.out 0; have hfz46_1 := blk_frozen BK215.out 1)); try go_wp2_with (first | (go_at_call 8; (with_reducible refine (impl_WetError.calls kj9 (wrap64 (t206 - 1)) (wrap64 (50 + (wrap64 (10 * t204)))) t202 t212 t213 t214 _ A30.out).mono ?_); rintro e w42 ⟨rfl, hb⟩; have n0_ := Aside0.mk (blk_below (g := gb203) (o := .cells #[.int .i64 t199, .int .i64 t200, .int .i64 t201, .int .i64 t202] 25 (0, 0)) (by (with_reducible repeat (first | refine blk_drewN ?_ _ | refine blk_drew ?_ | refine blk_alloc ?_ _)); exact BK203.out) hb); have n1_ := Aside0.mk (blk_below (g := gb211) (o := .cells #[.int .i64 t208, .int .i64 t209] 31 (0, 0)) (by (with_reducible repeat (first | refine blk_drewN ?_ _ | refine blk_drew ?_ | refine blk_alloc ?_ _)); exact BK211.out) hb); have n2_ := Aside0.mk (below_step (by repeat (first | (with_reducible first | exact HB.out | apply below_alloc | apply pw_below_drewN | apply below_drew1 | refine below_set ?_ GE203.out | refine below_set ?_ GE211.out) | exact HB.out)) hb); clear BK203; clear BK211; clear HB; have BK203 := n0_; have BK211 := n1_; have HB := n2_; clear n0_ n1_ n2_; (try clear hb); (try clear hb2); (try clear hk); (try clear hi)) | ((with_reducible refine gate_dst (N := 12) rfl ?_); (try (refine gate_guard (by rfl) ?_; dsimp only)); refine box_event ?hg (N := 12) ?hd (cs := #[.int .i64 0, .int .i64 0]) (t := 31) ?hr ?_; (case hd => rfl); (case hg => rfl); (case hr => first | (go_simp; done) | (go_simp; rfl)); intro gb215 hg w43 hbox hb; have n0_ := Aside0.mk (blk_below (g := gb203) (o := .cells #[.int .i64 t199, .int .i64 t200, .int .i64 t201, .int .i64 t202] 25 (0, 0)) (by (with_reducible repeat (first | refine blk_drewN ?_ _ | refine blk_drew ?_ | refine blk_alloc ?_ _)); exact BK203.out) hb); have n1_ := Aside0.mk (blk_below (g := gb211) (o := .cells #[.int .i64 t208, .int .i64 t209] 31 (0, 0)) (by (with_reducible repeat (first | refine blk_drewN ?_ _ | refine blk_drew ?_ | refine blk_alloc ?_ _)); exact BK211.out) hb); have n2_ := Aside0.mk (below_step (by repeat (first | (with_reducible first | exact HB.out | apply below_alloc | apply pw_below_drewN | apply below_drew1 | refine below_set ?_ GE203.out | refine below_set ?_ GE211.out) | exact HB.out)) hb); have n3_ := Aside0.mk (hbox); have n4_ := Aside0.mk ((by rw [hg]; exact (below_size (by repeat (first | (with_reducible first | exact HB.out | apply below_alloc | apply pw_below_drewN | apply below_drew1 | refine below_set ?_ GE203.out | refine below_set ?_ GE211.out) | exact HB.out))) : w.heap.size ≤ gb215)); have n5_ := Aside0.mk ((by rw [hg]; exact (below_size (by repeat (first | (with_reducible first | exact HB.out | apply below_alloc | apply pw_below_drewN | apply below_drew1 | refine below_set ?_ GE203.out | refine below_set ?_ GE211.out) | exact HB.out))) : w.heap.size ≤ gb215)); have n6_ := Aside0.mk ((by rw [hg]; exact Nat.ne_of_lt (blk_lt (g := gb203) (o := .cells #[.int .i64 t199, .int .i64 t200, .int .i64 t201, .int .i64 t202] 25 (0, 0)) (by (with_reducible repeat (first | refine blk_drewN ?_ _ | refine blk_drew ?_ | refine blk_alloc ?_ _)); exact BK203.out)) : gb203 ≠ gb215)); have n7_ := Aside0.mk ((by rw [hg]; exact Nat.ne_of_gt (blk_lt (g := gb203) (o := .cells #[.int .i64 t199, .int .i64 t200, .int .i64 t201, .int .i64 t202] 25 (0, 0)) (by (with_reducible repeat (first | refine blk_drewN ?_ _ | refine blk_drew ?_ | refine blk_alloc ?_ _)); exact BK203.out)) : gb215 ≠ gb203)); have n8_ := Aside0.mk ((by rw [hg]; exact Nat.ne_of_lt (blk_lt (g := gb211) (o := .cells #[.int .i64 t208, .int .i64 t209] 31 (0, 0)) (by (with_reducible repeat (first | refine blk_drewN ?_ _ | refine blk_drew ?_ | refine blk_alloc ?_ _)); exact BK211.out)) : gb211 ≠ gb215)); have n9_ := Aside0.mk ((by rw [hg]; exact Nat.ne_of_gt (blk_lt (g := gb211) (o := .cells #[.int .i64 t208, .int .i64 t209] 31 (0, 0)) (by (with_reducible repeat (first | refine blk_drewN ?_ _ | refine blk_drew ?_ | refine blk_alloc ?_ _)); exact BK211.out)) : gb215 ≠ gb211)); clear BK203; clear BK211; clear HB; have BK203 := n0_; have BK211 := n1_; have HB := n2_; have BK215 := n3_; have GW215 := n4_; have GE215 := n5_; have NB203_215 := n6_; have NB215_203 := n7_; have NB211_215 := n8_; have NB215_211 := n9_; clear n0_ n1_ n2_ n3_ n4_ n5_ n6_ n7_ n8_ n9_; clear hb hbox hg; have hnb44 := NB215_203.out; have hnc44 := NB203_215.out; have hnb45 := NB215_211.out; have hnc45 := NB211_215.out; have hcz46_0 : w43.cell? ⟨gb215, 0, none⟩ = some (.int .i64 0) := (blk_cell BK215.out 0).trans rfl; have hcz46_1 : w43.cell? ⟨gb215, 1, none⟩ = some (.int .i64 0) := (blk_cell BK215.out 1).trans rfl; have hfz46_0 := blk_frozen BK215.out 0; have hfz46_1 := blk_frozen BK215.out 1)))
                        go_meet
                        case rel => exact ⟨_, H', ⟨by have := HJ9.out; first | omega | exact Nat.le_refl _⟩, ⟨by (with_reducible repeat (first | refine blk_drewN ?_ _ | refine blk_drew ?_ | refine blk_alloc ?_ _)); refine blk_far ?_ NB203_215.out _; (with_reducible repeat (first | refine blk_drewN ?_ _ | refine blk_drew ?_ | refine blk_alloc ?_ _)); refine blk_far ?_ NB203_215.out _; (with_reducible repeat (first | refine blk_drewN ?_ _ | refine blk_drew ?_ | refine blk_alloc ?_ _)); exact BK203.out⟩, ⟨by (with_reducible repeat (first | refine blk_drewN ?_ _ | refine blk_drew ?_ | refine blk_alloc ?_ _)); refine blk_far ?_ NB211_215.out _; (with_reducible repeat (first | refine blk_drewN ?_ _ | refine blk_drew ?_ | refine blk_alloc ?_ _)); refine blk_far ?_ NB211_215.out _; (with_reducible repeat (first | refine blk_drewN ?_ _ | refine blk_drew ?_ | refine blk_alloc ?_ _)); exact BK211.out⟩, ⟨by repeat (first | (with_reducible first | exact HB.out | apply below_alloc | apply pw_below_drewN | apply below_drew1 | refine below_set ?_ GE203.out | refine below_set ?_ GE211.out | refine below_set ?_ GE215.out) | exact HB.out)⟩⟩
                  · rw [if_neg c31] at H
                    exact absurd ((Option.some.inj H).trans hT_) Bool.false_ne_true
                · rw [if_neg c29] at H
                  have c29b0 : decide (1 < t206) = false := decide_eq_false c29
                  clear c29
                  (first | rw [c29b0] | (simp only [i64_w, i32_w]; rw [c29b0]) | skip)
                  as_aux_lemma =>
                    have H' := Aside0.mk H
                    clear H
                    go_wp2
                    repeat (go_quiet (fail); try go_wp2)
                    go_meet
                    case rel => exact ⟨_, H', ⟨by have := HJ9.out; first | omega | exact Nat.le_refl _⟩, ⟨by (with_reducible repeat (first | refine blk_drewN ?_ _ | refine blk_drew ?_ | refine blk_alloc ?_ _)); exact BK203.out⟩, ⟨by (with_reducible repeat (first | refine blk_drewN ?_ _ | refine blk_drew ?_ | refine blk_alloc ?_ _)); exact BK211.out⟩, ⟨by repeat (first | (with_reducible first | exact HB.out | apply below_alloc | apply pw_below_drewN | apply below_drew1 | refine below_set ?_ GE203.out | refine below_set ?_ GE211.out) | exact HB.out)⟩⟩
            case rest =>
              as_aux_lemma =>
                clear HC28
                try clear c1
                try clear c2
                try clear p2
                try clear c3
                try clear c4
                try clear c5
                try clear p6
                try clear c16
                try clear c18
                try clear c18b0
                try clear c18b1
                try clear c19
                try clear c19b0
                try clear c20
                try clear c20b0
                try clear c21
                try clear c21b0
                try clear c21b1
                try clear c22
                try clear c22b0
                try clear c23
                try clear c25
                try clear c27
                try clear c29
                try clear c29b0
                try clear c31
                try clear c31b0
                try clear c31b1
                try clear c32
                try clear c32b0
                try clear c33
                try clear c37
                try clear c38
                try clear c40
                try clear c44
                try clear c45
                try clear c47
                try clear c51
                try clear c52
                try clear hcz13_0
                try clear hcz13_1
                try clear hcz13_2
                try clear hcz13_3
                try clear hcz17_0
                try clear hcz17_1
                try clear hcz24_0
                try clear hcz24_1
                try clear hcz26_0
                try clear hcz26_1
                try clear hcz34_0
                try clear hcz34_1
                try clear hcz34_2
                try clear hcz34_3
                try clear hcz39_0
                try clear hcz39_1
                try clear hcz41_0
                try clear hcz41_1
                try clear hcz41_2
                try clear hcz41_3
                try clear hcz46_0
                try clear hcz46_1
                try clear hcz48_0
                try clear hcz48_1
                try clear hcz48_2
                try clear hcz48_3
                try clear hcz53_0
                try clear hcz53_1
                try clear hfz13_0
                try clear hfz13_1
                try clear hfz13_2
                try clear hfz13_3
                try clear hfz17_0
                try clear hfz17_1
                try clear hfz24_0
                try clear hfz24_1
                try clear hfz26_0
                try clear hfz26_1
                try clear hfz34_0
                try clear hfz34_1
                try clear hfz34_2
                try clear hfz34_3
                try clear hfz39_0
                try clear hfz39_1
                try clear hfz41_0
                try clear hfz41_1
                try clear hfz41_2
                try clear hfz41_3
                try clear hfz46_0
                try clear hfz46_1
                try clear hfz48_0
                try clear hfz48_1
                try clear hfz48_2
                try clear hfz48_3
                try clear hfz53_0
                try clear hfz53_1
                try clear p2
                try clear p6
                obtain ⟨kq, HA, HJ27, BK203, BK211, HB⟩ := hcut
                cases kq with
                | zero => exact absurd HA.out (by simp [laws_FnPapers.j1])
                | succ kj27 =>
                  have H := HA.out
                  clear HA
                  simp only [laws_FnPapers.j1] at H
                  replace H := Option.bind_eq_some_iff.mp H
                  obtain ⟨⟨t216, t217⟩, A540, H⟩ := H
                  replace H : ((spec_DryFor.f (wrap64 (50 + (wrap64 (10 * t204)))) t201).bind fun bt218 => ((spec_DryFor.f (wrap64 (50 + (wrap64 (10 * t205)))) t202).bind fun bt220 => ((impl_BetterGrain.f t199 t200 t201 t202 (wrap64 (50 + (wrap64 (10 * t204)))) (wrap64 (50 + (wrap64 (10 * t205))))).bind fun bt222 => (if t217 = 0 then (if bt218.2 = 0 then (if bt220.2 = 0 then (if bt222.2 = 0 then (laws_FnPapers.j2 kj27 l1 (wrap64 (50 + (wrap64 (10 * t204)))) (wrap64 (50 + (wrap64 (10 * t205)))) t206 t216 bt218.1 bt220.1 (bt222.1 != (decide ((wrap64 (t216 + t206)) ≤ (wrap64 (bt220.1 + bt218.1))))) t199 t200 t201 t202) else (laws_FnPapers.j2 kj27 l1 (wrap64 (50 + (wrap64 (10 * t204)))) (wrap64 (50 + (wrap64 (10 * t205)))) t206 t216 bt218.1 bt220.1 true t199 t200 t201 t202)) else (laws_FnPapers.j2 kj27 l1 (wrap64 (50 + (wrap64 (10 * t204)))) (wrap64 (50 + (wrap64 (10 * t205)))) t206 t216 bt218.1 bt220.1 true t199 t200 t201 t202)) else (laws_FnPapers.j2 kj27 l1 (wrap64 (50 + (wrap64 (10 * t204)))) (wrap64 (50 + (wrap64 (10 * t205)))) t206 t216 bt218.1 bt220.1 true t199 t200 t201 t202)) else (laws_FnPapers.j2 kj27 l1 (wrap64 (50 + (wrap64 (10 * t204)))) (wrap64 (50 + (wrap64 (10 * t205)))) t206 t216 bt218.1 bt220.1 true t199 t200 t201 t202))))) = some r := H
                  have A54 := Aside0.mk A540
                  clear A540
                  replace H := Option.bind_eq_some_iff.mp H
                  obtain ⟨⟨t218, t219⟩, A550, H⟩ := H
                  replace H : ((spec_DryFor.f (wrap64 (50 + (wrap64 (10 * t205)))) t202).bind fun bt220 => ((impl_BetterGrain.f t199 t200 t201 t202 (wrap64 (50 + (wrap64 (10 * t204)))) (wrap64 (50 + (wrap64 (10 * t205))))).bind fun bt222 => (if t217 = 0 then (if t219 = 0 then (if bt220.2 = 0 then (if bt222.2 = 0 then (laws_FnPapers.j2 kj27 l1 (wrap64 (50 + (wrap64 (10 * t204)))) (wrap64 (50 + (wrap64 (10 * t205)))) t206 t216 t218 bt220.1 (bt222.1 != (decide ((wrap64 (t216 + t206)) ≤ (wrap64 (bt220.1 + t218))))) t199 t200 t201 t202) else (laws_FnPapers.j2 kj27 l1 (wrap64 (50 + (wrap64 (10 * t204)))) (wrap64 (50 + (wrap64 (10 * t205)))) t206 t216 t218 bt220.1 true t199 t200 t201 t202)) else (laws_FnPapers.j2 kj27 l1 (wrap64 (50 + (wrap64 (10 * t204)))) (wrap64 (50 + (wrap64 (10 * t205)))) t206 t216 t218 bt220.1 true t199 t200 t201 t202)) else (laws_FnPapers.j2 kj27 l1 (wrap64 (50 + (wrap64 (10 * t204)))) (wrap64 (50 + (wrap64 (10 * t205)))) t206 t216 t218 bt220.1 true t199 t200 t201 t202)) else (laws_FnPapers.j2 kj27 l1 (wrap64 (50 + (wrap64 (10 * t204)))) (wrap64 (50 + (wrap64 (10 * t205)))) t206 t216 t218 bt220.1 true t199 t200 t201 t202)))) = some r := H
                  have A55 := Aside0.mk A550
                  clear A550
                  replace H := Option.bind_eq_some_iff.mp H
                  obtain ⟨⟨t220, t221⟩, A560, H⟩ := H
                  replace H : ((impl_BetterGrain.f t199 t200 t201 t202 (wrap64 (50 + (wrap64 (10 * t204)))) (wrap64 (50 + (wrap64 (10 * t205))))).bind fun bt222 => (if t217 = 0 then (if t219 = 0 then (if t221 = 0 then (if bt222.2 = 0 then (laws_FnPapers.j2 kj27 l1 (wrap64 (50 + (wrap64 (10 * t204)))) (wrap64 (50 + (wrap64 (10 * t205)))) t206 t216 t218 t220 (bt222.1 != (decide ((wrap64 (t216 + t206)) ≤ (wrap64 (t220 + t218))))) t199 t200 t201 t202) else (laws_FnPapers.j2 kj27 l1 (wrap64 (50 + (wrap64 (10 * t204)))) (wrap64 (50 + (wrap64 (10 * t205)))) t206 t216 t218 t220 true t199 t200 t201 t202)) else (laws_FnPapers.j2 kj27 l1 (wrap64 (50 + (wrap64 (10 * t204)))) (wrap64 (50 + (wrap64 (10 * t205)))) t206 t216 t218 t220 true t199 t200 t201 t202)) else (laws_FnPapers.j2 kj27 l1 (wrap64 (50 + (wrap64 (10 * t204)))) (wrap64 (50 + (wrap64 (10 * t205)))) t206 t216 t218 t220 true t199 t200 t201 t202)) else (laws_FnPapers.j2 kj27 l1 (wrap64 (50 + (wrap64 (10 * t204)))) (wrap64 (50 + (wrap64 (10 * t205)))) t206 t216 t218 t220 true t199 t200 t201 t202))) = some r := H
                  have A56 := Aside0.mk A560
                  clear A560
                  replace H := Option.bind_eq_some_iff.mp H
                  obtain ⟨⟨t222, t223⟩, A570, H⟩ := H
                  replace H : (if t217 = 0 then (if t219 = 0 then (if t221 = 0 then (if t223 = 0 then (laws_FnPapers.j2 kj27 l1 (wrap64 (50 + (wrap64 (10 * t204)))) (wrap64 (50 + (wrap64 (10 * t205)))) t206 t216 t218 t220 (t222 != (decide ((wrap64 (t216 + t206)) ≤ (wrap64 (t220 + t218))))) t199 t200 t201 t202) else (laws_FnPapers.j2 kj27 l1 (wrap64 (50 + (wrap64 (10 * t204)))) (wrap64 (50 + (wrap64 (10 * t205)))) t206 t216 t218 t220 true t199 t200 t201 t202)) else (laws_FnPapers.j2 kj27 l1 (wrap64 (50 + (wrap64 (10 * t204)))) (wrap64 (50 + (wrap64 (10 * t205)))) t206 t216 t218 t220 true t199 t200 t201 t202)) else (laws_FnPapers.j2 kj27 l1 (wrap64 (50 + (wrap64 (10 * t204)))) (wrap64 (50 + (wrap64 (10 * t205)))) t206 t216 t218 t220 true t199 t200 t201 t202)) else (laws_FnPapers.j2 kj27 l1 (wrap64 (50 + (wrap64 (10 * t204)))) (wrap64 (50 + (wrap64 (10 * t205)))) t206 t216 t218 t220 true t199 t200 t201 t202)) = some r := H
                  have A57 := Aside0.mk A570
                  clear A570
                  have HC58 := Aside0.mk H
                  clear H
                  have hnb59 := NB203_211.out
                  have hnc59 := NB211_203.out
                  have hcz60_0 : wc.cell? ⟨gb203, 0, none⟩ = some (.int .i64 t199) := (blk_cell BK203.out 0).trans rfl
                  have hcz60_1 : wc.cell? ⟨gb203, 1, none⟩ = some (.int .i64 t200) := (blk_cell BK203.out 1).trans rfl
                  have hcz60_2 : wc.cell? ⟨gb203, 2, none⟩ = some (.int .i64 t201) := (blk_cell BK203.out 2).trans rfl
                  have hcz60_3 : wc.cell? ⟨gb203, 3, none⟩ = some (.int .i64 t202) := (blk_cell BK203.out 3).trans rfl
                  have hfz60_0 := blk_frozen BK203.out 0
                  have hfz60_1 := blk_frozen BK203.out 1
                  have hfz60_2 := blk_frozen BK203.out 2
                  have hfz60_3 := blk_frozen BK203.out 3
                  go_upto_region 18 with (first | (go_at_call 9; (with_reducible refine (spec_DryFor.calls (wrap64 (50 + (wrap64 (10 * t205)))) t201 t216 t217 _ A54.out).mono ?_); rintro e w' ⟨rfl, ⟨nd, rfl⟩⟩; (try first | exact ⟨rfl, _, World.drewN_drewN _ _ _⟩ | exact ⟨rfl, _, Eq.trans (World.drewN_drewN _ _ _) (congrArg (World.drewN _) (Nat.add_assoc _ _ _))⟩)) | (go_at_call 9; (with_reducible refine (spec_DryFor.calls (wrap64 (50 + (wrap64 (10 * t204)))) t201 t218 t219 _ A55.out).mono ?_); rintro e w' ⟨rfl, ⟨nd, rfl⟩⟩; (try first | exact ⟨rfl, _, World.drewN_drewN _ _ _⟩ | exact ⟨rfl, _, Eq.trans (World.drewN_drewN _ _ _) (congrArg (World.drewN _) (Nat.add_assoc _ _ _))⟩)) | (go_at_call 9; (with_reducible refine (spec_DryFor.calls (wrap64 (50 + (wrap64 (10 * t205)))) t202 t220 t221 _ A56.out).mono ?_); rintro e w' ⟨rfl, ⟨nd, rfl⟩⟩; (try first | exact ⟨rfl, _, World.drewN_drewN _ _ _⟩ | exact ⟨rfl, _, Eq.trans (World.drewN_drewN _ _ _) (congrArg (World.drewN _) (Nat.add_assoc _ _ _))⟩)) | (go_at_call 10; (with_reducible refine (impl_BetterGrain.calls t199 t200 t201 t202 (wrap64 (50 + (wrap64 (10 * t204)))) (wrap64 (50 + (wrap64 (10 * t205)))) t222 t223 _ A57.out).mono ?_); rintro e w61 ⟨rfl, hb⟩; have n0_ := Aside0.mk (blk_below (g := gb203) (o := .cells #[.int .i64 t199, .int .i64 t200, .int .i64 t201, .int .i64 t202] 25 (0, 0)) (by (with_reducible repeat (first | refine blk_drewN ?_ _ | refine blk_drew ?_ | refine blk_alloc ?_ _)); exact BK203.out) hb); have n1_ := Aside0.mk (blk_below (g := gb211) (o := .cells #[.int .i64 t208, .int .i64 t209] 31 (0, 0)) (by (with_reducible repeat (first | refine blk_drewN ?_ _ | refine blk_drew ?_ | refine blk_alloc ?_ _)); exact BK211.out) hb); have n2_ := Aside0.mk (below_step (by repeat (first | (with_reducible first | exact HB.out | apply below_alloc | apply pw_below_drewN | apply below_drew1 | refine below_set ?_ GE203.out | refine below_set ?_ GE211.out) | exact HB.out)) hb); clear BK203; clear BK211; clear HB; have BK203 := n0_; have BK211 := n1_; have HB := n2_; clear n0_ n1_ n2_; (try clear hb); (try clear hb2); (try clear hk); (try clear hi)))
                  repeat (go_quiet (first | (go_at_call 9; (with_reducible refine (spec_DryFor.calls (wrap64 (50 + (wrap64 (10 * t205)))) t201 t216 t217 _ A54.out).mono ?_); rintro e w' ⟨rfl, ⟨nd, rfl⟩⟩; (try first | exact ⟨rfl, _, World.drewN_drewN _ _ _⟩ | exact ⟨rfl, _, Eq.trans (World.drewN_drewN _ _ _) (congrArg (World.drewN _) (Nat.add_assoc _ _ _))⟩)) | (go_at_call 9; (with_reducible refine (spec_DryFor.calls (wrap64 (50 + (wrap64 (10 * t204)))) t201 t218 t219 _ A55.out).mono ?_); rintro e w' ⟨rfl, ⟨nd, rfl⟩⟩; (try first | exact ⟨rfl, _, World.drewN_drewN _ _ _⟩ | exact ⟨rfl, _, Eq.trans (World.drewN_drewN _ _ _) (congrArg (World.drewN _) (Nat.add_assoc _ _ _))⟩)) | (go_at_call 9; (with_reducible refine (spec_DryFor.calls (wrap64 (50 + (wrap64 (10 * t205)))) t202 t220 t221 _ A56.out).mono ?_); rintro e w' ⟨rfl, ⟨nd, rfl⟩⟩; (try first | exact ⟨rfl, _, World.drewN_drewN _ _ _⟩ | exact ⟨rfl, _, Eq.trans (World.drewN_drewN _ _ _) (congrArg (World.drewN _) (Nat.add_assoc _ _ _))⟩)) | (go_at_call 10; (with_reducible refine (impl_BetterGrain.calls t199 t200 t201 t202 (wrap64 (50 + (wrap64 (10 * t204)))) (wrap64 (50 + (wrap64 (10 * t205)))) t222 t223 _ A57.out).mono ?_); rintro e w61 ⟨rfl, hb⟩; have n0_ := Aside0.mk (blk_below (g := gb203) (o := .cells #[.int .i64 t199, .int .i64 t200, .int .i64 t201, .int .i64 t202] 25 (0, 0)) (by (with_reducible repeat (first | refine blk_drewN ?_ _ | refine blk_drew ?_ | refine blk_alloc ?_ _)); exact BK203.out) hb); have n1_ := Aside0.mk (blk_below (g := gb211) (o := .cells #[.int .i64 t208, .int .i64 t209] 31 (0, 0)) (by (with_reducible repeat (first | refine blk_drewN ?_ _ | refine blk_drew ?_ | refine blk_alloc ?_ _)); exact BK211.out) hb); have n2_ := Aside0.mk (below_step (by repeat (first | (with_reducible first | exact HB.out | apply below_alloc | apply pw_below_drewN | apply below_drew1 | refine below_set ?_ GE203.out | refine below_set ?_ GE211.out) | exact HB.out)) hb); clear BK203; clear BK211; clear HB; have BK203 := n0_; have BK211 := n1_; have HB := n2_; clear n0_ n1_ n2_; (try clear hb); (try clear hb2); (try clear hk); (try clear hi))); go_upto_region 18 with (first | (go_at_call 9; (with_reducible refine (spec_DryFor.calls (wrap64 (50 + (wrap64 (10 * t205)))) t201 t216 t217 _ A54.out).mono ?_); rintro e w' ⟨rfl, ⟨nd, rfl⟩⟩; (try first | exact ⟨rfl, _, World.drewN_drewN _ _ _⟩ | exact ⟨rfl, _, Eq.trans (World.drewN_drewN _ _ _) (congrArg (World.drewN _) (Nat.add_assoc _ _ _))⟩)) | (go_at_call 9; (with_reducible refine (spec_DryFor.calls (wrap64 (50 + (wrap64 (10 * t204)))) t201 t218 t219 _ A55.out).mono ?_); rintro e w' ⟨rfl, ⟨nd, rfl⟩⟩; (try first | exact ⟨rfl, _, World.drewN_drewN _ _ _⟩ | exact ⟨rfl, _, Eq.trans (World.drewN_drewN _ _ _) (congrArg (World.drewN _) (Nat.add_assoc _ _ _))⟩)) | (go_at_call 9; (with_reducible refine (spec_DryFor.calls (wrap64 (50 + (wrap64 (10 * t205)))) t202 t220 t221 _ A56.out).mono ?_); rintro e w' ⟨rfl, ⟨nd, rfl⟩⟩; (try first | exact ⟨rfl, _, World.drewN_drewN _ _ _⟩ | exact ⟨rfl, _, Eq.trans (World.drewN_drewN _ _ _) (congrArg (World.drewN _) (Nat.add_assoc _ _ _))⟩)) | (go_at_call 10; (with_reducible refine (impl_BetterGrain.calls t199 t200 t201 t202 (wrap64 (50 + (wrap64 (10 * t204)))) (wrap64 (50 + (wrap64 (10 * t205)))) t222 t223 _ A57.out).mono ?_); rintro e w61 ⟨rfl, hb⟩; have n0_ := Aside0.mk (blk_below (g := gb203) (o := .cells #[.int .i64 t199, .int .i64 t200, .int .i64 t201, .int .i64 t202] 25 (0, 0)) (by (with_reducible repeat (first | refine blk_drewN ?_ _ | refine blk_drew ?_ | refine blk_alloc ?_ _)); exact BK203.out) hb); have n1_ := Aside0.mk (blk_below (g := gb211) (o := .cells #[.int .i64 t208, .int .i64 t209] 31 (0, 0)) (by (with_reducible repeat (first | refine blk_drewN ?_ _ | refine blk_drew ?_ | refine blk_alloc ?_ _)); exact BK211.out) hb); have n2_ := Aside0.mk (below_step (by repeat (first | (with_reducible first | exact HB.out | apply below_alloc | apply pw_below_drewN | apply below_drew1 | refine below_set ?_ GE203.out | refine below_set ?_ GE211.out) | exact HB.out)) hb); clear BK203; clear BK211; clear HB; have BK203 := n0_; have BK211 := n1_; have HB := n2_; clear n0_ n1_ n2_; (try clear hb); (try clear hb2); (try clear hk); (try clear hi))))
                  (try simp only [Act.put, List.setIfInBounds_toArray, List.set_cons_zero, List.set_cons_succ])
                  go_cut [156] (fun v156 wc => ∃ (kq : Nat) (x156_57 : Bool), v156 = .bool x156_57 ∧ Aside0 (laws_FnPapers.j2 kq l1 (wrap64 (50 + (wrap64 (10 * t204)))) (wrap64 (50 + (wrap64 (10 * t205)))) t206 t216 t218 t220 x156_57 t199 t200 t201 t202 = some r) ∧ Aside0 (kq ≤ kj27) ∧ Aside0 (wc.heap[gb203]? = some (.cells #[.int .i64 t199, .int .i64 t200, .int .i64 t201, .int .i64 t202] 25 (0, 0))) ∧ Aside0 (wc.heap[gb211]? = some (.cells #[.int .i64 t208, .int .i64 t209] 31 (0, 0))) ∧ Aside0 (Below w.heap.size w wc))
                  case first =>
                    as_aux_lemma =>
                      have H := HC58.out
                      clear HC58
                      by_cases c62 : t217 = 0
                      · rw [if_pos c62] at H
                        have c62b0 : (t217 == 0) = true := beq_iff_eq.mpr c62
                        have c62b1 : (t217 != 0) = false := bne_eq_false_iff_eq.mpr c62
                        clear c62
                        (first | rw [c62b0] | (simp only [i64_w, i32_w]; rw [c62b0]) | skip)
                        by_cases c63 : t219 = 0
                        · rw [if_pos c63] at H
                          have c63b0 : (t219 == 0) = true := beq_iff_eq.mpr c63
                          have c63b1 : (t219 != 0) = false := bne_eq_false_iff_eq.mpr c63
                          clear c63
                          by_cases c64 : t221 = 0
                          · rw [if_pos c64] at H
                            have c64b0 : (t221 == 0) = true := beq_iff_eq.mpr c64
                            have c64b1 : (t221 != 0) = false := bne_eq_false_iff_eq.mpr c64
                            clear c64
                            by_cases c65 : t223 = 0
                            · rw [if_pos c65] at H
                              have c65b0 : (t223 == 0) = true := beq_iff_eq.mpr c65
                              have c65b1 : (t223 != 0) = false := bne_eq_false_iff_eq.mpr c65
                              clear c65
                              as_aux_lemma =>
                                have H' := Aside0.mk H
                                clear H
                                go_wp2
                                repeat (go_quiet (fail); try go_wp2)
                                go_meet
                                case rel => exact ⟨_, ((t222 != (decide ((wrap64 (t216 + t206)) ≤ (wrap64 (t220 + t218)))))), (by first | rfl | (simp; done) | (simp [*]; done)), H', ⟨by have := HJ9.out; have := HJ27.out; first | omega | exact Nat.le_refl _⟩, ⟨by (with_reducible repeat (first | refine blk_drewN ?_ _ | refine blk_drew ?_ | refine blk_alloc ?_ _)); exact BK203.out⟩, ⟨by (with_reducible repeat (first | refine blk_drewN ?_ _ | refine blk_drew ?_ | refine blk_alloc ?_ _)); exact BK211.out⟩, ⟨by repeat (first | (with_reducible first | exact HB.out | apply below_alloc | apply pw_below_drewN | apply below_drew1 | refine below_set ?_ GE203.out | refine below_set ?_ GE211.out) | exact HB.out)⟩⟩
                            · rw [if_neg c65] at H
                              exact (laws_FnPapers.j2_no _ _ _ _ _ _ _ _ _ _ _ _ (H.trans (congrArg some hT_))).elim
                          · rw [if_neg c64] at H
                            exact (laws_FnPapers.j2_no _ _ _ _ _ _ _ _ _ _ _ _ (H.trans (congrArg some hT_))).elim
                        · rw [if_neg c63] at H
                          exact (laws_FnPapers.j2_no _ _ _ _ _ _ _ _ _ _ _ _ (H.trans (congrArg some hT_))).elim
                      · rw [if_neg c62] at H
                        exact (laws_FnPapers.j2_no _ _ _ _ _ _ _ _ _ _ _ _ (H.trans (congrArg some hT_))).elim
                  case rest =>
                    as_aux_lemma =>
                      clear HC58
                      try clear c1
                      try clear c2
                      try clear p2
                      try clear c3
                      try clear c4
                      try clear c5
                      try clear c6
                      try clear p6
                      try clear c16
                      try clear c18
                      try clear c18b0
                      try clear c18b1
                      try clear c19
                      try clear c19b0
                      try clear c20
                      try clear c20b0
                      try clear c21
                      try clear c21b0
                      try clear c21b1
                      try clear c22
                      try clear c22b0
                      try clear c23
                      try clear c25
                      try clear c27
                      try clear c29
                      try clear c29b0
                      try clear c31
                      try clear c31b0
                      try clear c31b1
                      try clear c32
                      try clear c32b0
                      try clear c33
                      try clear c37
                      try clear c38
                      try clear c40
                      try clear c44
                      try clear c45
                      try clear c47
                      try clear c51
                      try clear c52
                      try clear c59
                      try clear c62
                      try clear c62b0
                      try clear c62b1
                      try clear c63
                      try clear c63b0
                      try clear c63b1
                      try clear c64
                      try clear c64b0
                      try clear c64b1
                      try clear p64
                      try clear c65
                      try clear c65b0
                      try clear c65b1
                      try clear hcz13_0
                      try clear hcz13_1
                      try clear hcz13_2
                      try clear hcz13_3
                      try clear hcz17_0
                      try clear hcz17_1
                      try clear hcz24_0
                      try clear hcz24_1
                      try clear hcz26_0
                      try clear hcz26_1
                      try clear hcz34_0
                      try clear hcz34_1
                      try clear hcz34_2
                      try clear hcz34_3
                      try clear hcz39_0
                      try clear hcz39_1
                      try clear hcz41_0
                      try clear hcz41_1
                      try clear hcz41_2
                      try clear hcz41_3
                      try clear hcz46_0
                      try clear hcz46_1
                      try clear hcz48_0
                      try clear hcz48_1
                      try clear hcz48_2
                      try clear hcz48_3
                      try clear hcz53_0
                      try clear hcz53_1
                      try clear hcz60_0
                      try clear hcz60_1
                      try clear hcz60_2
                      try clear hcz60_3
                      try clear hfz13_0
                      try clear hfz13_1
                      try clear hfz13_2
                      try clear hfz13_3
                      try clear hfz17_0
                      try clear hfz17_1
                      try clear hfz24_0
                      try clear hfz24_1
                      try clear hfz26_0
                      try clear hfz26_1
                      try clear hfz34_0
                      try clear hfz34_1
                      try clear hfz34_2
                      try clear hfz34_3
                      try clear hfz39_0
                      try clear hfz39_1
                      try clear hfz41_0
                      try clear hfz41_1
                      try clear hfz41_2
                      try clear hfz41_3
                      try clear hfz46_0
                      try clear hfz46_1
                      try clear hfz48_0
                      try clear hfz48_1
                      try clear hfz48_2
                      try clear hfz48_3
                      try clear hfz53_0
                      try clear hfz53_1
                      try clear hfz60_0
                      try clear hfz60_1
                      try clear hfz60_2
                      try clear hfz60_3
                      try clear p2
                      try clear p6
                      obtain ⟨kq, x156_57, rfl, HA, HJ57, BK203, BK211, HB⟩ := hcut
                      cases kq with
                      | zero => exact absurd HA.out (by simp [laws_FnPapers.j2])
                      | succ kj57 =>
                        have H := HA.out
                        clear HA
                        simp only [laws_FnPapers.j2] at H
                        by_cases c66 : x156_57 = true
                        · subst c66
                          have H1 : (some false) = some r := by rw [if_pos rfl] at H; exact H
                          exact absurd ((Option.some.inj H1).trans hT_) Bool.false_ne_true
                        · replace c66 := Bool.eq_false_iff.mpr c66
                          subst c66
                          have H1 : (if t216 = 0 then (none) else (if t206 = 0 then (none) else (if t218 = 0 then (none) else (if t220 = 0 then (none) else ((impl_CutsFrom.f t199 t200 t201 t202 (wrap64 (50 + (wrap64 (10 * t204)))) (wrap64 (50 + (wrap64 (10 * t205))))).bind fun bt224 => (if bt224.2.2 = 0 then (if bt224.1 = (mx (wrap64 ((wrap64 (Int.tdiv t199 t216)) * (wrap64 (Int.tdiv t200 t206)))) (wrap64 ((wrap64 (Int.tdiv t199 t218)) * (wrap64 (Int.tdiv t200 t220))))) then (laws_FnPapers.j3 kj57 l1 (wrap64 (50 + (wrap64 (10 * t204)))) (wrap64 (50 + (wrap64 (10 * t205)))) bt224.1 (bt224.2.1 != (decide ((wrap64 ((wrap64 (Int.tdiv t199 t216)) * (wrap64 (Int.tdiv t200 t206)))) ≥ (wrap64 ((wrap64 (Int.tdiv t199 t218)) * (wrap64 (Int.tdiv t200 t220))))))) t199 t200 t201 t202) else (laws_FnPapers.j3 kj57 l1 (wrap64 (50 + (wrap64 (10 * t204)))) (wrap64 (50 + (wrap64 (10 * t205)))) bt224.1 true t199 t200 t201 t202)) else (laws_FnPapers.j3 kj57 l1 (wrap64 (50 + (wrap64 (10 * t204)))) (wrap64 (50 + (wrap64 (10 * t205)))) bt224.1 true t199 t200 t201 t202))))))) = some r := by rw [if_neg (show ¬ (false = true) by decide)] at H; exact H
                          clear H
                          have H := H1
                          clear H1
                          by_cases c67 : t216 = 0
                          · rw [if_pos c67] at H
                            exact absurd H (by simp)
                          · rw [if_neg c67] at H
                            have c67b0 : (t216 == 0) = false := beq_eq_false_iff_ne.mpr c67
                            have c67b1 : (t216 != 0) = true := bne_iff_ne.mpr c67
                            by_cases c68 : t206 = 0
                            · rw [if_pos c68] at H
                              exact absurd H (by simp)
                            · rw [if_neg c68] at H
                              have c68b0 : (t206 == 0) = false := beq_eq_false_iff_ne.mpr c68
                              have c68b1 : (t206 != 0) = true := bne_iff_ne.mpr c68
                              by_cases c69 : t218 = 0
                              · rw [if_pos c69] at H
                                exact absurd H (by simp)
                              · rw [if_neg c69] at H
                                have c69b0 : (t218 == 0) = false := beq_eq_false_iff_ne.mpr c69
                                have c69b1 : (t218 != 0) = true := bne_iff_ne.mpr c69
                                by_cases c70 : t220 = 0
                                · rw [if_pos c70] at H
                                  exact absurd H (by simp)
                                · rw [if_neg c70] at H
                                  have c70b0 : (t220 == 0) = false := beq_eq_false_iff_ne.mpr c70
                                  have c70b1 : (t220 != 0) = true := bne_iff_ne.mpr c70
                                  replace H := Option.bind_eq_some_iff.mp H
                                  obtain ⟨⟨t224, t225, t226⟩, A710, H⟩ := H
                                  replace H : (if t226 = 0 then (if t224 = (mx (wrap64 ((wrap64 (Int.tdiv t199 t216)) * (wrap64 (Int.tdiv t200 t206)))) (wrap64 ((wrap64 (Int.tdiv t199 t218)) * (wrap64 (Int.tdiv t200 t220))))) then (laws_FnPapers.j3 kj57 l1 (wrap64 (50 + (wrap64 (10 * t204)))) (wrap64 (50 + (wrap64 (10 * t205)))) t224 (t225 != (decide ((wrap64 ((wrap64 (Int.tdiv t199 t216)) * (wrap64 (Int.tdiv t200 t206)))) ≥ (wrap64 ((wrap64 (Int.tdiv t199 t218)) * (wrap64 (Int.tdiv t200 t220))))))) t199 t200 t201 t202) else (laws_FnPapers.j3 kj57 l1 (wrap64 (50 + (wrap64 (10 * t204)))) (wrap64 (50 + (wrap64 (10 * t205)))) t224 true t199 t200 t201 t202)) else (laws_FnPapers.j3 kj57 l1 (wrap64 (50 + (wrap64 (10 * t204)))) (wrap64 (50 + (wrap64 (10 * t205)))) t224 true t199 t200 t201 t202)) = some r := H
                                  have A71 := Aside0.mk A710
                                  clear A710
                                  have HC72 := Aside0.mk H
                                  clear H
                                  have hnb73 := NB203_211.out
                                  have hnc73 := NB211_203.out
                                  have hcz74_0 : wc.cell? ⟨gb203, 0, none⟩ = some (.int .i64 t199) := (blk_cell BK203.out 0).trans rfl
                                  have hcz74_1 : wc.cell? ⟨gb203, 1, none⟩ = some (.int .i64 t200) := (blk_cell BK203.out 1).trans rfl
                                  have hcz74_2 : wc.cell? ⟨gb203, 2, none⟩ = some (.int .i64 t201) := (blk_cell BK203.out 2).trans rfl
                                  have hcz74_3 : wc.cell? ⟨gb203, 3, none⟩ = some (.int .i64 t202) := (blk_cell BK203.out 3).trans rfl
                                  have hfz74_0 := blk_frozen BK203.out 0
                                  have hfz74_1 := blk_frozen BK203.out 1
                                  have hfz74_2 := blk_frozen BK203.out 2
                                  have hfz74_3 := blk_frozen BK203.out 3
                                  go_upto_region 23 with (first | (go_at_call 11; (with_reducible refine (impl_CutsFrom.calls t199 t200 t201 t202 (wrap64 (50 + (wrap64 (10 * t204)))) (wrap64 (50 + (wrap64 (10 * t205)))) t224 t225 t226 _ A71.out).mono ?_); rintro e w75 ⟨rfl, hb⟩; have n0_ := Aside0.mk (blk_below (g := gb203) (o := .cells #[.int .i64 t199, .int .i64 t200, .int .i64 t201, .int .i64 t202] 25 (0, 0)) (by (with_reducible repeat (first | refine blk_drewN ?_ _ | refine blk_drew ?_ | refine blk_alloc ?_ _)); exact BK203.out) hb); have n1_ := Aside0.mk (blk_below (g := gb211) (o := .cells #[.int .i64 t208, .int .i64 t209] 31 (0, 0)) (by (with_reducible repeat (first | refine blk_drewN ?_ _ | refine blk_drew ?_ | refine blk_alloc ?_ _)); exact BK211.out) hb); have n2_ := Aside0.mk (below_step (by repeat (first | (with_reducible first | exact HB.out | apply below_alloc | apply pw_below_drewN | apply below_drew1 | refine below_set ?_ GE203.out | refine below_set ?_ GE211.out) | exact HB.out)) hb); clear BK203; clear BK211; clear HB; have BK203 := n0_; have BK211 := n1_; have HB := n2_; clear n0_ n1_ n2_; (try clear hb); (try clear hb2); (try clear hk); (try clear hi)))
                                  repeat (go_quiet (first | (go_at_call 11; (with_reducible refine (impl_CutsFrom.calls t199 t200 t201 t202 (wrap64 (50 + (wrap64 (10 * t204)))) (wrap64 (50 + (wrap64 (10 * t205)))) t224 t225 t226 _ A71.out).mono ?_); rintro e w75 ⟨rfl, hb⟩; have n0_ := Aside0.mk (blk_below (g := gb203) (o := .cells #[.int .i64 t199, .int .i64 t200, .int .i64 t201, .int .i64 t202] 25 (0, 0)) (by (with_reducible repeat (first | refine blk_drewN ?_ _ | refine blk_drew ?_ | refine blk_alloc ?_ _)); exact BK203.out) hb); have n1_ := Aside0.mk (blk_below (g := gb211) (o := .cells #[.int .i64 t208, .int .i64 t209] 31 (0, 0)) (by (with_reducible repeat (first | refine blk_drewN ?_ _ | refine blk_drew ?_ | refine blk_alloc ?_ _)); exact BK211.out) hb); have n2_ := Aside0.mk (below_step (by repeat (first | (with_reducible first | exact HB.out | apply below_alloc | apply pw_below_drewN | apply below_drew1 | refine below_set ?_ GE203.out | refine below_set ?_ GE211.out) | exact HB.out)) hb); clear BK203; clear BK211; clear HB; have BK203 := n0_; have BK211 := n1_; have HB := n2_; clear n0_ n1_ n2_; (try clear hb); (try clear hb2); (try clear hk); (try clear hi))); go_upto_region 23 with (first | (go_at_call 11; (with_reducible refine (impl_CutsFrom.calls t199 t200 t201 t202 (wrap64 (50 + (wrap64 (10 * t204)))) (wrap64 (50 + (wrap64 (10 * t205)))) t224 t225 t226 _ A71.out).mono ?_); rintro e w75 ⟨rfl, hb⟩; have n0_ := Aside0.mk (blk_below (g := gb203) (o := .cells #[.int .i64 t199, .int .i64 t200, .int .i64 t201, .int .i64 t202] 25 (0, 0)) (by (with_reducible repeat (first | refine blk_drewN ?_ _ | refine blk_drew ?_ | refine blk_alloc ?_ _)); exact BK203.out) hb); have n1_ := Aside0.mk (blk_below (g := gb211) (o := .cells #[.int .i64 t208, .int .i64 t209] 31 (0, 0)) (by (with_reducible repeat (first | refine blk_drewN ?_ _ | refine blk_drew ?_ | refine blk_alloc ?_ _)); exact BK211.out) hb); have n2_ := Aside0.mk (below_step (by repeat (first | (with_reducible first | exact HB.out | apply below_alloc | apply pw_below_drewN | apply below_drew1 | refine below_set ?_ GE203.out | refine below_set ?_ GE211.out) | exact HB.out)) hb); clear BK203; clear BK211; clear HB; have BK203 := n0_; have BK211 := n1_; have HB := n2_; clear n0_ n1_ n2_; (try clear hb); (try clear hb2); (try clear hk); (try clear hi))))
                                  (try simp only [Act.put, List.setIfInBounds_toArray, List.set_cons_zero, List.set_cons_succ])
                                  go_cut [198] (fun v198 wc => ∃ (kq : Nat) (x198_71 : Bool), v198 = .bool x198_71 ∧ Aside0 (laws_FnPapers.j3 kq l1 (wrap64 (50 + (wrap64 (10 * t204)))) (wrap64 (50 + (wrap64 (10 * t205)))) t224 x198_71 t199 t200 t201 t202 = some r) ∧ Aside0 (kq ≤ kj57) ∧ Aside0 (wc.heap[gb203]? = some (.cells #[.int .i64 t199, .int .i64 t200, .int .i64 t201, .int .i64 t202] 25 (0, 0))) ∧ Aside0 (wc.heap[gb211]? = some (.cells #[.int .i64 t208, .int .i64 t209] 31 (0, 0))) ∧ Aside0 (Below w.heap.size w wc))
                                  case first =>
                                    as_aux_lemma =>
                                      have H := HC72.out
                                      clear HC72
                                      by_cases c76 : t226 = 0
                                      · rw [if_pos c76] at H
                                        have c76b0 : (t226 == 0) = true := beq_iff_eq.mpr c76
                                        have c76b1 : (t226 != 0) = false := bne_eq_false_iff_eq.mpr c76
                                        clear c76
                                        (first | rw [c76b0] | (simp only [i64_w, i32_w]; rw [c76b0]) | skip)
                                        obtain ⟨ji77, hji77⟩ : ∃ j_ : Int, (mx (wrap64 ((wrap64 (Int.tdiv t199 t216)) * (wrap64 (Int.tdiv t200 t206)))) (wrap64 ((wrap64 (Int.tdiv t199 t218)) * (wrap64 (Int.tdiv t200 t220))))) = j_ := ⟨_, rfl⟩
                                        replace H : (if t224 = (ji77) then (laws_FnPapers.j3 kj57 l1 (wrap64 (50 + (wrap64 (10 * t204)))) (wrap64 (50 + (wrap64 (10 * t205)))) t224 (t225 != (decide ((wrap64 ((wrap64 (Int.tdiv t199 t216)) * (wrap64 (Int.tdiv t200 t206)))) ≥ (wrap64 ((wrap64 (Int.tdiv t199 t218)) * (wrap64 (Int.tdiv t200 t220))))))) t199 t200 t201 t202) else (laws_FnPapers.j3 kj57 l1 (wrap64 (50 + (wrap64 (10 * t204)))) (wrap64 (50 + (wrap64 (10 * t205)))) t224 true t199 t200 t201 t202)) = some r := by first | (rw [hji77] at H; exact H) | (simp only [hji77] at H ⊢; exact H)
                                        have hji77_ : (if (wrap64 ((wrap64 (Int.tdiv t199 t216)) * (wrap64 (Int.tdiv t200 t206)))) < (wrap64 ((wrap64 (Int.tdiv t199 t218)) * (wrap64 (Int.tdiv t200 t220)))) then (wrap64 ((wrap64 (Int.tdiv t199 t218)) * (wrap64 (Int.tdiv t200 t220)))) else (wrap64 ((wrap64 (Int.tdiv t199 t216)) * (wrap64 (Int.tdiv t200 t206))))) = ji77 := hji77
                                        by_cases c78 : t224 = (ji77)
                                        · rw [if_pos c78] at H
                                          have c78b0 : (t224 == (ji77)) = true := beq_iff_eq.mpr c78
                                          have c78b1 : (t224 != (ji77)) = false := bne_eq_false_iff_eq.mpr c78
                                          clear c78
                                          as_aux_lemma =>
                                            have H' := Aside0.mk H
                                            clear H
                                            go_wp2
                                            repeat (go_quiet (fail); try go_wp2)
                                            go_meet
                                            case rel => exact ⟨_, ((t225 != (decide ((wrap64 ((wrap64 (Int.tdiv t199 t216)) * (wrap64 (Int.tdiv t200 t206)))) ≥ (wrap64 ((wrap64 (Int.tdiv t199 t218)) * (wrap64 (Int.tdiv t200 t220)))))))), (by first | rfl | (simp; done) | (simp [*]; done)), H', ⟨by have := HJ9.out; have := HJ27.out; have := HJ57.out; first | omega | exact Nat.le_refl _⟩, ⟨by (with_reducible repeat (first | refine blk_drewN ?_ _ | refine blk_drew ?_ | refine blk_alloc ?_ _)); exact BK203.out⟩, ⟨by (with_reducible repeat (first | refine blk_drewN ?_ _ | refine blk_drew ?_ | refine blk_alloc ?_ _)); exact BK211.out⟩, ⟨by repeat (first | (with_reducible first | exact HB.out | apply below_alloc | apply pw_below_drewN | apply below_drew1 | refine below_set ?_ GE203.out | refine below_set ?_ GE211.out) | exact HB.out)⟩⟩
                                        · rw [if_neg c78] at H
                                          exact (laws_FnPapers.j3_no _ _ _ _ _ _ _ _ _ (H.trans (congrArg some hT_))).elim
                                      · rw [if_neg c76] at H
                                        exact (laws_FnPapers.j3_no _ _ _ _ _ _ _ _ _ (H.trans (congrArg some hT_))).elim
                                  case rest =>
                                    as_aux_lemma =>
                                      clear HC72
                                      try clear c1
                                      try clear c2
                                      try clear p2
                                      try clear c3
                                      try clear c4
                                      try clear c5
                                      try clear c6
                                      try clear p6
                                      try clear c7
                                      try clear c16
                                      try clear c18
                                      try clear c18b0
                                      try clear c18b1
                                      try clear c19
                                      try clear c19b0
                                      try clear c20
                                      try clear c20b0
                                      try clear c21
                                      try clear c21b0
                                      try clear c21b1
                                      try clear c22
                                      try clear c22b0
                                      try clear c23
                                      try clear c25
                                      try clear c27
                                      try clear c29
                                      try clear c29b0
                                      try clear c31
                                      try clear c31b0
                                      try clear c31b1
                                      try clear c32
                                      try clear c32b0
                                      try clear c33
                                      try clear c37
                                      try clear c38
                                      try clear c40
                                      try clear c44
                                      try clear c45
                                      try clear c47
                                      try clear c51
                                      try clear c52
                                      try clear c59
                                      try clear c62
                                      try clear c62b0
                                      try clear c62b1
                                      try clear c63
                                      try clear c63b0
                                      try clear c63b1
                                      try clear c64
                                      try clear c64b0
                                      try clear c64b1
                                      try clear p64
                                      try clear c65
                                      try clear c65b0
                                      try clear c65b1
                                      try clear c66
                                      try clear c67
                                      try clear c67b0
                                      try clear c67b1
                                      try clear c68
                                      try clear c68b0
                                      try clear c68b1
                                      try clear c69
                                      try clear c69b0
                                      try clear c69b1
                                      try clear c70
                                      try clear c70b0
                                      try clear c70b1
                                      try clear c73
                                      try clear c76
                                      try clear c76b0
                                      try clear c76b1
                                      try clear c78
                                      try clear c78b0
                                      try clear c78b1
                                      try clear hcz13_0
                                      try clear hcz13_1
                                      try clear hcz13_2
                                      try clear hcz13_3
                                      try clear hcz17_0
                                      try clear hcz17_1
                                      try clear hcz24_0
                                      try clear hcz24_1
                                      try clear hcz26_0
                                      try clear hcz26_1
                                      try clear hcz34_0
                                      try clear hcz34_1
                                      try clear hcz34_2
                                      try clear hcz34_3
                                      try clear hcz39_0
                                      try clear hcz39_1
                                      try clear hcz41_0
                                      try clear hcz41_1
                                      try clear hcz41_2
                                      try clear hcz41_3
                                      try clear hcz46_0
                                      try clear hcz46_1
                                      try clear hcz48_0
                                      try clear hcz48_1
                                      try clear hcz48_2
                                      try clear hcz48_3
                                      try clear hcz53_0
                                      try clear hcz53_1
                                      try clear hcz60_0
                                      try clear hcz60_1
                                      try clear hcz60_2
                                      try clear hcz60_3
                                      try clear hcz74_0
                                      try clear hcz74_1
                                      try clear hcz74_2
                                      try clear hcz74_3
                                      try clear hfz13_0
                                      try clear hfz13_1
                                      try clear hfz13_2
                                      try clear hfz13_3
                                      try clear hfz17_0
                                      try clear hfz17_1
                                      try clear hfz24_0
                                      try clear hfz24_1
                                      try clear hfz26_0
                                      try clear hfz26_1
                                      try clear hfz34_0
                                      try clear hfz34_1
                                      try clear hfz34_2
                                      try clear hfz34_3
                                      try clear hfz39_0
                                      try clear hfz39_1
                                      try clear hfz41_0
                                      try clear hfz41_1
                                      try clear hfz41_2
                                      try clear hfz41_3
                                      try clear hfz46_0
                                      try clear hfz46_1
                                      try clear hfz48_0
                                      try clear hfz48_1
                                      try clear hfz48_2
                                      try clear hfz48_3
                                      try clear hfz53_0
                                      try clear hfz53_1
                                      try clear hfz60_0
                                      try clear hfz60_1
                                      try clear hfz60_2
                                      try clear hfz60_3
                                      try clear hfz74_0
                                      try clear hfz74_1
                                      try clear hfz74_2
                                      try clear hfz74_3
                                      try clear p2
                                      try clear p6
                                      try clear p64
                                      obtain ⟨kq, x198_71, rfl, HA, HJ71, BK203, BK211, HB⟩ := hcut
                                      cases kq with
                                      | zero => exact absurd HA.out (by simp [laws_FnPapers.j3])
                                      | succ kj71 =>
                                        have H := HA.out
                                        clear HA
                                        simp only [laws_FnPapers.j3] at H
                                        by_cases c79 : x198_71 = true
                                        · subst c79
                                          have H1 : (some false) = some r := by rw [if_pos rfl] at H; exact H
                                          exact absurd ((Option.some.inj H1).trans hT_) Bool.false_ne_true
                                        · replace c79 := Bool.eq_false_iff.mpr c79
                                          subst c79
                                          have H1 : ((laws_a2At.f l1 2 60).bind fun t227 => ((impl_PapersFor.f kj71 t199 t200 t201 t202 (wrap64 (50 + (wrap64 (10 * t204)))) (wrap64 (50 + (wrap64 (10 * t205)))) (wrap64 (1 + t227))).bind fun bt228 => (if t224 = 0 then (some (bt228.2 == 3)) else ((impl_WetSides.f kj71 t199 t200 t201 t202).bind fun bt230 => (if bt228.2 = 0 then (if bt228.1 ≥ 1 then (if bt228.1 ≤ (wrap64 (1 + t227)) then (if (wrap64 (bt228.1 * t224)) ≥ (wrap64 (1 + t227)) then (if (wrap64 ((wrap64 (bt228.1 - 1)) * t224)) < (wrap64 (1 + t227)) then (if bt230.2.2.2.2 = 0 then (if (wrap64 (bt230.1 * 1000)) = (wrap64 ((wrap64 (t199 * (wrap64 (1000 + t201)))) * bt230.2.1)) then (if (wrap64 (bt230.2.2.1 * 1000)) = (wrap64 ((wrap64 (t200 * (wrap64 (1000 + t202)))) * bt230.2.2.2.1)) then (if bt230.2.1 ≥ 1 then (some (decide (bt230.2.2.2.1 ≥ 1))) else (some false)) else (some false)) else (some false)) else (some false)) else (some false)) else (some false)) else (some false)) else (some false)) else (some false)))))) = some r := by rw [if_neg (show ¬ (false = true) by decide)] at H; exact H
                                          clear H
                                          have H := H1
                                          clear H1
                                          replace H := Option.bind_eq_some_iff.mp H
                                          obtain ⟨t227, A800, H⟩ := H
                                          replace H : ((impl_PapersFor.f kj71 t199 t200 t201 t202 (wrap64 (50 + (wrap64 (10 * t204)))) (wrap64 (50 + (wrap64 (10 * t205)))) (wrap64 (1 + t227))).bind fun bt228 => (if t224 = 0 then (some (bt228.2 == 3)) else ((impl_WetSides.f kj71 t199 t200 t201 t202).bind fun bt230 => (if bt228.2 = 0 then (if bt228.1 ≥ 1 then (if bt228.1 ≤ (wrap64 (1 + t227)) then (if (wrap64 (bt228.1 * t224)) ≥ (wrap64 (1 + t227)) then (if (wrap64 ((wrap64 (bt228.1 - 1)) * t224)) < (wrap64 (1 + t227)) then (if bt230.2.2.2.2 = 0 then (if (wrap64 (bt230.1 * 1000)) = (wrap64 ((wrap64 (t199 * (wrap64 (1000 + t201)))) * bt230.2.1)) then (if (wrap64 (bt230.2.2.1 * 1000)) = (wrap64 ((wrap64 (t200 * (wrap64 (1000 + t202)))) * bt230.2.2.2.1)) then (if bt230.2.1 ≥ 1 then (some (decide (bt230.2.2.2.1 ≥ 1))) else (some false)) else (some false)) else (some false)) else (some false)) else (some false)) else (some false)) else (some false)) else (some false)) else (some false))))) = some r := H
                                          have A80 := Aside0.mk A800
                                          clear A800
                                          replace H := Option.bind_eq_some_iff.mp H
                                          obtain ⟨⟨t228, t229⟩, A810, H⟩ := H
                                          replace H : (if t224 = 0 then (some (t229 == 3)) else ((impl_WetSides.f kj71 t199 t200 t201 t202).bind fun bt230 => (if t229 = 0 then (if t228 ≥ 1 then (if t228 ≤ (wrap64 (1 + t227)) then (if (wrap64 (t228 * t224)) ≥ (wrap64 (1 + t227)) then (if (wrap64 ((wrap64 (t228 - 1)) * t224)) < (wrap64 (1 + t227)) then (if bt230.2.2.2.2 = 0 then (if (wrap64 (bt230.1 * 1000)) = (wrap64 ((wrap64 (t199 * (wrap64 (1000 + t201)))) * bt230.2.1)) then (if (wrap64 (bt230.2.2.1 * 1000)) = (wrap64 ((wrap64 (t200 * (wrap64 (1000 + t202)))) * bt230.2.2.2.1)) then (if bt230.2.1 ≥ 1 then (some (decide (bt230.2.2.2.1 ≥ 1))) else (some false)) else (some false)) else (some false)) else (some false)) else (some false)) else (some false)) else (some false)) else (some false)) else (some false)))) = some r := H
                                          have A81 := Aside0.mk A810
                                          clear A810
                                          by_cases c82 : t224 = 0
                                          · rw [if_pos c82] at H
                                            have c82b0 : (t224 == 0) = true := beq_iff_eq.mpr c82
                                            have c82b1 : (t224 != 0) = false := bne_eq_false_iff_eq.mpr c82
                                            clear c82
                                            as_aux_lemma =>
                                              obtain rfl := Option.some.inj H
                                              go_wp2_with (first | (go_at_call 6; (with_reducible refine (laws_a2At.calls _ _ l1 2 60 t227 _ ?side1 ?side2 A80.out).mono ?_); (case side1 => repeat (first | exact (Kd.C_below HR1.out HB.out) | (with_reducible refine Kd.C_alloc ?_ _) | (with_reducible refine Kd.C_drewN ?_ _) | (with_reducible refine Kd.C_drew ?_))); (case side2 => exact HC1.out); rintro e w' ⟨rfl, ⟨nd, rfl⟩⟩; (try first | exact ⟨rfl, _, World.drewN_drewN _ _ _⟩ | exact ⟨rfl, _, Eq.trans (World.drewN_drewN _ _ _) (congrArg (World.drewN _) (Nat.add_assoc _ _ _))⟩); have hnb83 := NB203_211.out; have hnc83 := NB211_203.out; have hcz84_0 : wc.cell? ⟨gb203, 0, none⟩ = some (.int .i64 t199) := (blk_cell BK203.out 0).trans rfl; have hcz84_1 : wc.cell? ⟨gb203, 1, none⟩ = some (.int .i64 t200) := (blk_cell BK203.out 1).trans rfl; have hcz84_2 : wc.cell? ⟨gb203, 2, none⟩ = some (.int .i64 t201) := (blk_cell BK203.out 2).trans rfl; have hcz84_3 : wc.cell? ⟨gb203, 3, none⟩ = some (.int .i64 t202) := (blk_cell BK203.out 3).trans rfl; have hfz84_0 := blk_frozen BK203.out 0; have hfz84_1 := blk_frozen BK203.out 1; have hfz84_2 := blk_frozen BK203.out 2; have hfz84_3 := blk_frozen BK203.out 3) | (go_at_call 12; (with_reducible refine (impl_PapersFor.calls kj71 t199 t200 t201 t202 (wrap64 (50 + (wrap64 (10 * t204)))) (wrap64 (50 + (wrap64 (10 * t205)))) (wrap64 (1 + t227)) t228 t229 _ A81.out).mono ?_); rintro e w85 ⟨rfl, hb⟩; have n0_ := Aside0.mk (blk_below (g := gb203) (o := .cells #[.int .i64 t199, .int .i64 t200, .int .i64 t201, .int .i64 t202] 25 (0, 0)) (by (with_reducible repeat (first | refine blk_drewN ?_ _ | refine blk_drew ?_ | refine blk_alloc ?_ _)); exact BK203.out) hb); have n1_ := Aside0.mk (blk_below (g := gb211) (o := .cells #[.int .i64 t208, .int .i64 t209] 31 (0, 0)) (by (with_reducible repeat (first | refine blk_drewN ?_ _ | refine blk_drew ?_ | refine blk_alloc ?_ _)); exact BK211.out) hb); have n2_ := Aside0.mk (below_step (by repeat (first | (with_reducible first | exact HB.out | apply below_alloc | apply pw_below_drewN | apply below_drew1 | refine below_set ?_ GE203.out | refine below_set ?_ GE211.out) | exact HB.out)) hb); clear BK203; clear BK211; clear HB; have BK203 := n0_; have BK211 := n1_; have HB := n2_; clear n0_ n1_ n2_; (try clear hb); (try clear hb2); (try clear hk); (try clear hi)))
                                              repeat (go_quiet (first | (go_at_call 6; (with_reducible refine (laws_a2At.calls _ _ l1 2 60 t227 _ ?side1 ?side2 A80.out).mono ?_); (case side1 => repeat (first | exact (Kd.C_below HR1.out HB.out) | (with_reducible refine Kd.C_alloc ?_ _) | (with_reducible refine Kd.C_drewN ?_ _) | (with_reducible refine Kd.C_drew ?_))); (case side2 => exact HC1.out); rintro e w' ⟨rfl, ⟨nd, rfl⟩⟩; (try first | exact ⟨rfl, _, World.drewN_drewN _ _ _⟩ | exact ⟨rfl, _, Eq.trans (World.drewN_drewN _ _ _) (congrArg (World.drewN _) (Nat.add_assoc _ _ _))⟩); have hnb83 := NB203_211.out; have hnc83 := NB211_203.out; have hcz84_0 : wc.cell? ⟨gb203, 0, none⟩ = some (.int .i64 t199) := (blk_cell BK203.out 0).trans rfl; have hcz84_1 : wc.cell? ⟨gb203, 1, none⟩ = some (.int .i64 t200) := (blk_cell BK203.out 1).trans rfl; have hcz84_2 : wc.cell? ⟨gb203, 2, none⟩ = some (.int .i64 t201) := (blk_cell BK203.out 2).trans rfl; have hcz84_3 : wc.cell? ⟨gb203, 3, none⟩ = some (.int .i64 t202) := (blk_cell BK203.out 3).trans rfl; have hfz84_0 := blk_frozen BK203.out 0; have hfz84_1 := blk_frozen BK203.out 1; have hfz84_2 := blk_frozen BK203.out 2; have hfz84_3 := blk_frozen BK203.out 3) | (go_at_call 12; (with_reducible refine (impl_PapersFor.calls kj71 t199 t200 t201 t202 (wrap64 (50 + (wrap64 (10 * t204)))) (wrap64 (50 + (wrap64 (10 * t205)))) (wrap64 (1 + t227)) t228 t229 _ A81.out).mono ?_); rintro e w85 ⟨rfl, hb⟩; have n0_ := Aside0.mk (blk_below (g := gb203) (o := .cells #[.int .i64 t199, .int .i64 t200, .int .i64 t201, .int .i64 t202] 25 (0, 0)) (by (with_reducible repeat (first | refine blk_drewN ?_ _ | refine blk_drew ?_ | refine blk_alloc ?_ _)); exact BK203.out) hb); have n1_ := Aside0.mk (blk_below (g := gb211) (o := .cells #[.int .i64 t208, .int .i64 t209] 31 (0, 0)) (by (with_reducible repeat (first | refine blk_drewN ?_ _ | refine blk_drew ?_ | refine blk_alloc ?_ _)); exact BK211.out) hb); have n2_ := Aside0.mk (below_step (by repeat (first | (with_reducible first | exact HB.out | apply below_alloc | apply pw_below_drewN | apply below_drew1 | refine below_set ?_ GE203.out | refine below_set ?_ GE211.out) | exact HB.out)) hb); clear BK203; clear BK211; clear HB; have BK203 := n0_; have BK211 := n1_; have HB := n2_; clear n0_ n1_ n2_; (try clear hb); (try clear hb2); (try clear hk); (try clear hi))); try go_wp2_with (first | (go_at_call 6; (with_reducible refine (laws_a2At.calls _ _ l1 2 60 t227 _ ?side1 ?side2 A80.out).mono ?_); (case side1 => repeat (first | exact (Kd.C_below HR1.out HB.out) | (with_reducible refine Kd.C_alloc ?_ _) | (with_reducible refine Kd.C_drewN ?_ _) | (with_reducible refine Kd.C_drew ?_))); (case side2 => exact HC1.out); rintro e w' ⟨rfl, ⟨nd, rfl⟩⟩; (try first | exact ⟨rfl, _, World.drewN_drewN _ _ _⟩ | exact ⟨rfl, _, Eq.trans (World.drewN_drewN _ _ _) (congrArg (World.drewN _) (Nat.add_assoc _ _ _))⟩); have hnb83 := NB203_211.out; have hnc83 := NB211_203.out; have hcz84_0 : wc.cell? ⟨gb203, 0, none⟩ = some (.int .i64 t199) := (blk_cell BK203.out 0).trans rfl; have hcz84_1 : wc.cell? ⟨gb203, 1, none⟩ = some (.int .i64 t200) := (blk_cell BK203.out 1).trans rfl; have hcz84_2 : wc.cell? ⟨gb203, 2, none⟩ = some (.int .i64 t201) := (blk_cell BK203.out 2).trans rfl; have hcz84_3 : wc.cell? ⟨gb203, 3, none⟩ = some (.int .i64 t202) := (blk_cell BK203.out 3).trans rfl; have hfz84_0 := blk_frozen BK203.out 0; have hfz84_1 := blk_frozen BK203.out 1; have hfz84_2 := blk_frozen BK203.out 2; have hfz84_3 := blk_frozen BK203.out 3) | (go_at_call 12; (with_reducible refine (impl_PapersFor.calls kj71 t199 t200 t201 t202 (wrap64 (50 + (wrap64 (10 * t204)))) (wrap64 (50 + (wrap64 (10 * t205)))) (wrap64 (1 + t227)) t228 t229 _ A81.out).mono ?_); rintro e w85 ⟨rfl, hb⟩; have n0_ := Aside0.mk (blk_below (g := gb203) (o := .cells #[.int .i64 t199, .int .i64 t200, .int .i64 t201, .int .i64 t202] 25 (0, 0)) (by (with_reducible repeat (first | refine blk_drewN ?_ _ | refine blk_drew ?_ | refine blk_alloc ?_ _)); exact BK203.out) hb); have n1_ := Aside0.mk (blk_below (g := gb211) (o := .cells #[.int .i64 t208, .int .i64 t209] 31 (0, 0)) (by (with_reducible repeat (first | refine blk_drewN ?_ _ | refine blk_drew ?_ | refine blk_alloc ?_ _)); exact BK211.out) hb); have n2_ := Aside0.mk (below_step (by repeat (first | (with_reducible first | exact HB.out | apply below_alloc | apply pw_below_drewN | apply below_drew1 | refine below_set ?_ GE203.out | refine below_set ?_ GE211.out) | exact HB.out)) hb); clear BK203; clear BK211; clear HB; have BK203 := n0_; have BK211 := n1_; have HB := n2_; clear n0_ n1_ n2_; (try clear hb); (try clear hb2); (try clear hk); (try clear hi))))
                                              go_ret
                                              exact ⟨by first | rfl | (simp [errW_none, errW_some] <;> rfl) | (simp [*, errW_none, errW_some] <;> rfl), by repeat (first | (with_reducible first | exact HB.out | apply below_alloc | apply pw_below_drewN | apply below_drew1 | refine below_set ?_ GE203.out | refine below_set ?_ GE211.out) | exact HB.out)⟩
                                          · rw [if_neg c82] at H
                                            have c82b0 : (t224 == 0) = false := beq_eq_false_iff_ne.mpr c82
                                            have c82b1 : (t224 != 0) = true := bne_iff_ne.mpr c82
                                            replace H := Option.bind_eq_some_iff.mp H
                                            obtain ⟨⟨t230, t231, t232, t233, t234⟩, A860, H⟩ := H
                                            replace H : (if t229 = 0 then (if t228 ≥ 1 then (if t228 ≤ (wrap64 (1 + t227)) then (if (wrap64 (t228 * t224)) ≥ (wrap64 (1 + t227)) then (if (wrap64 ((wrap64 (t228 - 1)) * t224)) < (wrap64 (1 + t227)) then (if t234 = 0 then (if (wrap64 (t230 * 1000)) = (wrap64 ((wrap64 (t199 * (wrap64 (1000 + t201)))) * t231)) then (if (wrap64 (t232 * 1000)) = (wrap64 ((wrap64 (t200 * (wrap64 (1000 + t202)))) * t233)) then (if t231 ≥ 1 then (some (decide (t233 ≥ 1))) else (some false)) else (some false)) else (some false)) else (some false)) else (some false)) else (some false)) else (some false)) else (some false)) else (some false)) = some r := H
                                            have A86 := Aside0.mk A860
                                            clear A860
                                            by_cases c87 : t229 = 0
                                            · rw [if_pos c87] at H
                                              have c87b0 : (t229 == 0) = true := beq_iff_eq.mpr c87
                                              have c87b1 : (t229 != 0) = false := bne_eq_false_iff_eq.mpr c87
                                              clear c87
                                              by_cases c88 : t228 ≥ 1
                                              · rw [if_pos c88] at H
                                                have c88b0 : decide (1 ≤ t228) = true := decide_eq_true c88
                                                clear c88
                                                by_cases c89 : t228 ≤ (wrap64 (1 + t227))
                                                · rw [if_pos c89] at H
                                                  have c89b0 : decide (t228 ≤ (wrap64 (1 + t227))) = true := decide_eq_true c89
                                                  clear c89
                                                  by_cases c90 : (wrap64 (t228 * t224)) ≥ (wrap64 (1 + t227))
                                                  · rw [if_pos c90] at H
                                                    have c90b0 : decide ((wrap64 (1 + t227)) ≤ (wrap64 (t228 * t224))) = true := decide_eq_true c90
                                                    clear c90
                                                    by_cases c91 : (wrap64 ((wrap64 (t228 - 1)) * t224)) < (wrap64 (1 + t227))
                                                    · rw [if_pos c91] at H
                                                      have c91b0 : decide ((wrap64 ((wrap64 (t228 - 1)) * t224)) < (wrap64 (1 + t227))) = true := decide_eq_true c91
                                                      clear c91
                                                      by_cases c92 : t234 = 0
                                                      · rw [if_pos c92] at H
                                                        have c92b0 : (t234 == 0) = true := beq_iff_eq.mpr c92
                                                        have c92b1 : (t234 != 0) = false := bne_eq_false_iff_eq.mpr c92
                                                        clear c92
                                                        by_cases c93 : (wrap64 (t230 * 1000)) = (wrap64 ((wrap64 (t199 * (wrap64 (1000 + t201)))) * t231))
                                                        · rw [if_pos c93] at H
                                                          have c93b0 : ((wrap64 (t230 * 1000)) == (wrap64 ((wrap64 (t199 * (wrap64 (1000 + t201)))) * t231))) = true := beq_iff_eq.mpr c93
                                                          have c93b1 : ((wrap64 (t230 * 1000)) != (wrap64 ((wrap64 (t199 * (wrap64 (1000 + t201)))) * t231))) = false := bne_eq_false_iff_eq.mpr c93
                                                          clear c93
                                                          by_cases c94 : (wrap64 (t232 * 1000)) = (wrap64 ((wrap64 (t200 * (wrap64 (1000 + t202)))) * t233))
                                                          · rw [if_pos c94] at H
                                                            have c94b0 : ((wrap64 (t232 * 1000)) == (wrap64 ((wrap64 (t200 * (wrap64 (1000 + t202)))) * t233))) = true := beq_iff_eq.mpr c94
                                                            have c94b1 : ((wrap64 (t232 * 1000)) != (wrap64 ((wrap64 (t200 * (wrap64 (1000 + t202)))) * t233))) = false := bne_eq_false_iff_eq.mpr c94
                                                            clear c94
                                                            by_cases c95 : t231 ≥ 1
                                                            · rw [if_pos c95] at H
                                                              have c95b0 : decide (1 ≤ t231) = true := decide_eq_true c95
                                                              clear c95
                                                              as_aux_lemma =>
                                                                obtain rfl := Option.some.inj H
                                                                go_wp2_with (first | (go_at_call 6; (with_reducible refine (laws_a2At.calls _ _ l1 2 60 t227 _ ?side1 ?side2 A80.out).mono ?_); (case side1 => repeat (first | exact (Kd.C_below HR1.out HB.out) | (with_reducible refine Kd.C_alloc ?_ _) | (with_reducible refine Kd.C_drewN ?_ _) | (with_reducible refine Kd.C_drew ?_))); (case side2 => exact HC1.out); rintro e w' ⟨rfl, ⟨nd, rfl⟩⟩; (try first | exact ⟨rfl, _, World.drewN_drewN _ _ _⟩ | exact ⟨rfl, _, Eq.trans (World.drewN_drewN _ _ _) (congrArg (World.drewN _) (Nat.add_assoc _ _ _))⟩); have hnb96 := NB203_211.out; have hnc96 := NB211_203.out; have hcz97_0 : wc.cell? ⟨gb203, 0, none⟩ = some (.int .i64 t199) := (blk_cell BK203.out 0).trans rfl; have hcz97_1 : wc.cell? ⟨gb203, 1, none⟩ = some (.int .i64 t200) := (blk_cell BK203.out 1).trans rfl; have hcz97_2 : wc.cell? ⟨gb203, 2, none⟩ = some (.int .i64 t201) := (blk_cell BK203.out 2).trans rfl; have hcz97_3 : wc.cell? ⟨gb203, 3, none⟩ = some (.int .i64 t202) := (blk_cell BK203.out 3).trans rfl; have hfz97_0 := blk_frozen BK203.out 0; have hfz97_1 := blk_frozen BK203.out 1; have hfz97_2 := blk_frozen BK203.out 2; have hfz97_3 := blk_frozen BK203.out 3) | (go_at_call 12; (with_reducible refine (impl_PapersFor.calls kj71 t199 t200 t201 t202 (wrap64 (50 + (wrap64 (10 * t204)))) (wrap64 (50 + (wrap64 (10 * t205)))) (wrap64 (1 + t227)) t228 t229 _ A81.out).mono ?_); rintro e w98 ⟨rfl, hb⟩; have n0_ := Aside0.mk (blk_below (g := gb203) (o := .cells #[.int .i64 t199, .int .i64 t200, .int .i64 t201, .int .i64 t202] 25 (0, 0)) (by (with_reducible repeat (first | refine blk_drewN ?_ _ | refine blk_drew ?_ | refine blk_alloc ?_ _)); exact BK203.out) hb); have n1_ := Aside0.mk (blk_below (g := gb211) (o := .cells #[.int .i64 t208, .int .i64 t209] 31 (0, 0)) (by (with_reducible repeat (first | refine blk_drewN ?_ _ | refine blk_drew ?_ | refine blk_alloc ?_ _)); exact BK211.out) hb); have n2_ := Aside0.mk (below_step (by repeat (first | (with_reducible first | exact HB.out | apply below_alloc | apply pw_below_drewN | apply below_drew1 | refine below_set ?_ GE203.out | refine below_set ?_ GE211.out) | exact HB.out)) hb); clear BK203; clear BK211; clear HB; have BK203 := n0_; have BK211 := n1_; have HB := n2_; clear n0_ n1_ n2_; (try clear hb); (try clear hb2); (try clear hk); (try clear hi); have hcz99_0 : w98.cell? ⟨gb203, 0, none⟩ = some (.int .i64 t199) := (blk_cell BK203.out 0).trans rfl; have hcz99_1 : w98.cell? ⟨gb203, 1, none⟩ = some (.int .i64 t200) := (blk_cell BK203.out 1).trans rfl; have hcz99_2 : w98.cell? ⟨gb203, 2, none⟩ = some (.int .i64 t201) := (blk_cell BK203.out 2).trans rfl; have hcz99_3 : w98.cell? ⟨gb203, 3, none⟩ = some (.int .i64 t202) := (blk_cell BK203.out 3).trans rfl; have hfz99_0 := blk_frozen BK203.out 0; have hfz99_1 := blk_frozen BK203.out 1; have hfz99_2 := blk_frozen BK203.out 2; have hfz99_3 := blk_frozen BK203.out 3) | (go_at_call 13; (with_reducible refine (impl_WetSides.calls kj71 t199 t200 t201 t202 t230 t231 t232 t233 t234 _ A86.out).mono ?_); rintro e w100 ⟨rfl, hb⟩; have n0_ := Aside0.mk (blk_below (g := gb203) (o := .cells #[.int .i64 t199, .int .i64 t200, .int .i64 t201, .int .i64 t202] 25 (0, 0)) (by (with_reducible repeat (first | refine blk_drewN ?_ _ | refine blk_drew ?_ | refine blk_alloc ?_ _)); exact BK203.out) hb); have n1_ := Aside0.mk (blk_below (g := gb211) (o := .cells #[.int .i64 t208, .int .i64 t209] 31 (0, 0)) (by (with_reducible repeat (first | refine blk_drewN ?_ _ | refine blk_drew ?_ | refine blk_alloc ?_ _)); exact BK211.out) hb); have n2_ := Aside0.mk (below_step (by repeat (first | (with_reducible first | exact HB.out | apply below_alloc | apply pw_below_drewN | apply below_drew1 | refine below_set ?_ GE203.out | refine below_set ?_ GE211.out) | exact HB.out)) hb); clear BK203; clear BK211; clear HB; have BK203 := n0_; have BK211 := n1_; have HB := n2_; clear n0_ n1_ n2_; (try clear hb); (try clear hb2); (try clear hk); (try clear hi)) | ((with_reducible refine gate_dst (N := 30) rfl ?_); (try (refine gate_guard (by rfl) ?_; dsimp only)); refine box_event ?hg (N := 30) ?hd (cs := #[.int .i64 0, .int .i64 0]) (t := 31) ?hr ?_; (case hd => rfl); (case hg => rfl); (case hr => first | (go_simp; done) | (go_simp; rfl)); intro gb235 hg w101 hbox hb; have n0_ := Aside0.mk (blk_below (g := gb203) (o := .cells #[.int .i64 t199, .int .i64 t200, .int .i64 t201, .int .i64 t202] 25 (0, 0)) (by (with_reducible repeat (first | refine blk_drewN ?_ _ | refine blk_drew ?_ | refine blk_alloc ?_ _)); exact BK203.out) hb); have n1_ := Aside0.mk (blk_below (g := gb211) (o := .cells #[.int .i64 t208, .int .i64 t209] 31 (0, 0)) (by (with_reducible repeat (first | refine blk_drewN ?_ _ | refine blk_drew ?_ | refine blk_alloc ?_ _)); exact BK211.out) hb); have n2_ := Aside0.mk (below_step (by repeat (first | (with_reducible first | exact HB.out | apply below_alloc | apply pw_below_drewN | apply below_drew1 | refine below_set ?_ GE203.out | refine below_set ?_ GE211.out) | exact HB.out)) hb); have n3_ := Aside0.mk (hbox); have n4_ := Aside0.mk ((by rw [hg]; exact (below_size (by repeat (first | (with_reducible first | exact HB.out | apply below_alloc | apply pw_below_drewN | apply below_drew1 | refine below_set ?_ GE203.out | refine below_set ?_ GE211.out) | exact HB.out))) : w.heap.size ≤ gb235)); have n5_ := Aside0.mk ((by rw [hg]; exact (below_size (by repeat (first | (with_reducible first | exact HB.out | apply below_alloc | apply pw_below_drewN | apply below_drew1 | refine below_set ?_ GE203.out | refine below_set ?_ GE211.out) | exact HB.out))) : w.heap.size ≤ gb235)); have n6_ := Aside0.mk ((by rw [hg]; exact Nat.ne_of_lt (blk_lt (g := gb203) (o := .cells #[.int .i64 t199, .int .i64 t200, .int .i64 t201, .int .i64 t202] 25 (0, 0)) (by (with_reducible repeat (first | refine blk_drewN ?_ _ | refine blk_drew ?_ | refine blk_alloc ?_ _)); exact BK203.out)) : gb203 ≠ gb235)); have n7_ := Aside0.mk ((by rw [hg]; exact Nat.ne_of_gt (blk_lt (g := gb203) (o := .cells #[.int .i64 t199, .int .i64 t200, .int .i64 t201, .int .i64 t202] 25 (0, 0)) (by (with_reducible repeat (first | refine blk_drewN ?_ _ | refine blk_drew ?_ | refine blk_alloc ?_ _)); exact BK203.out)) : gb235 ≠ gb203)); have n8_ := Aside0.mk ((by rw [hg]; exact Nat.ne_of_lt (blk_lt (g := gb211) (o := .cells #[.int .i64 t208, .int .i64 t209] 31 (0, 0)) (by (with_reducible repeat (first | refine blk_drewN ?_ _ | refine blk_drew ?_ | refine blk_alloc ?_ _)); exact BK211.out)) : gb211 ≠ gb235)); have n9_ := Aside0.mk ((by rw [hg]; exact Nat.ne_of_gt (blk_lt (g := gb211) (o := .cells #[.int .i64 t208, .int .i64 t209] 31 (0, 0)) (by (with_reducible repeat (first | refine blk_drewN ?_ _ | refine blk_drew ?_ | refine blk_alloc ?_ _)); exact BK211.out)) : gb235 ≠ gb211)); clear BK203; clear BK211; clear HB; have BK203 := n0_; have BK211 := n1_; have HB := n2_; have BK235 := n3_; have GW235 := n4_; have GE235 := n5_; have NB203_235 := n6_; have NB235_203 := n7_; have NB211_235 := n8_; have NB235_211 := n9_; clear n0_ n1_ n2_ n3_ n4_ n5_ n6_ n7_ n8_ n9_; clear hb hbox hg) | ((with_reducible refine gate_dst (N := 31) rfl ?_); (try (refine gate_guard (by rfl) ?_; dsimp only)); refine box_event ?hg (N := 31) ?hd (cs := #[.int .i64 0, .int .i64 0]) (t := 31) ?hr ?_; (case hd => rfl); (case hg => rfl); (case hr => first | (go_simp; done) | (go_simp; rfl)); intro gb236 hg w102 hbox hb; have n0_ := Aside0.mk (blk_below (g := gb203) (o := .cells #[.int .i64 t199, .int .i64 t200, .int .i64 t201, .int .i64 t202] 25 (0, 0)) (by (with_reducible repeat (first | refine blk_drewN ?_ _ | refine blk_drew ?_ | refine blk_alloc ?_ _)); exact BK203.out) hb); have n1_ := Aside0.mk (blk_below (g := gb211) (o := .cells #[.int .i64 t208, .int .i64 t209] 31 (0, 0)) (by (with_reducible repeat (first | refine blk_drewN ?_ _ | refine blk_drew ?_ | refine blk_alloc ?_ _)); exact BK211.out) hb); have n2_ := Aside0.mk (blk_below (g := gb235) (o := .cells #[.int .i64 0, .int .i64 0] 31 (0, 0)) (by (with_reducible repeat (first | refine blk_drewN ?_ _ | refine blk_drew ?_ | refine blk_alloc ?_ _)); exact BK235.out) hb); have n3_ := Aside0.mk (below_step (by repeat (first | (with_reducible first | exact HB.out | apply below_alloc | apply pw_below_drewN | apply below_drew1 | refine below_set ?_ GE203.out | refine below_set ?_ GE211.out | refine below_set ?_ GE235.out) | exact HB.out)) hb); have n4_ := Aside0.mk (hbox); have n5_ := Aside0.mk ((by rw [hg]; exact (below_size (by repeat (first | (with_reducible first | exact HB.out | apply below_alloc | apply pw_below_drewN | apply below_drew1 | refine below_set ?_ GE203.out | refine below_set ?_ GE211.out | refine below_set ?_ GE235.out) | exact HB.out))) : w.heap.size ≤ gb236)); have n6_ := Aside0.mk ((by rw [hg]; exact (below_size (by repeat (first | (with_reducible first | exact HB.out | apply below_alloc | apply pw_below_drewN | apply below_drew1 | refine below_set ?_ GE203.out | refine below_set ?_ GE211.out | refine below_set ?_ GE235.out) | exact HB.out))) : w.heap.size ≤ gb236)); have n7_ := Aside0.mk ((by rw [hg]; exact Nat.ne_of_lt (blk_lt (g := gb203) (o := .cells #[.int .i64 t199, .int .i64 t200, .int .i64 t201, .int .i64 t202] 25 (0, 0)) (by (with_reducible repeat (first | refine blk_drewN ?_ _ | refine blk_drew ?_ | refine blk_alloc ?_ _)); exact BK203.out)) : gb203 ≠ gb236)); have n8_ := Aside0.mk ((by rw [hg]; exact Nat.ne_of_gt (blk_lt (g := gb203) (o := .cells #[.int .i64 t199, .int .i64 t200, .int .i64 t201, .int .i64 t202] 25 (0, 0)) (by (with_reducible repeat (first | refine blk_drewN ?_ _ | refine blk_drew ?_ | refine blk_alloc ?_ _)); exact BK203.out)) : gb236 ≠ gb203)); have n9_ := Aside0.mk ((by rw [hg]; exact Nat.ne_of_lt (blk_lt (g := gb211) (o := .cells #[.int .i64 t208, .int .i64 t209] 31 (0, 0)) (by (with_reducible repeat (first | refine blk_drewN ?_ _ | refine blk_drew ?_ | refine blk_alloc ?_ _)); exact BK211.out)) : gb211 ≠ gb236)); have n10_ := Aside0.mk ((by rw [hg]; exact Nat.ne_of_gt (blk_lt (g := gb211) (o := .cells #[.int .i64 t208, .int .i64 t209] 31 (0, 0)) (by (with_reducible repeat (first | refine blk_drewN ?_ _ | refine blk_drew ?_ | refine blk_alloc ?_ _)); exact BK211.out)) : gb236 ≠ gb211)); have n11_ := Aside0.mk ((by rw [hg]; exact Nat.ne_of_lt (blk_lt (g := gb235) (o := .cells #[.int .i64 0, .int .i64 0] 31 (0, 0)) (by (with_reducible repeat (first | refine blk_drewN ?_ _ | refine blk_drew ?_ | refine blk_alloc ?_ _)); exact BK235.out)) : gb235 ≠ gb236)); have n12_ := Aside0.mk ((by rw [hg]; exact Nat.ne_of_gt (blk_lt (g := gb235) (o := .cells #[.int .i64 0, .int .i64 0] 31 (0, 0)) (by (with_reducible repeat (first | refine blk_drewN ?_ _ | refine blk_drew ?_ | refine blk_alloc ?_ _)); exact BK235.out)) : gb236 ≠ gb235)); clear BK203; clear BK211; clear BK235; clear HB; have BK203 := n0_; have BK211 := n1_; have BK235 := n2_; have HB := n3_; have BK236 := n4_; have GW236 := n5_; have GE236 := n6_; have NB203_236 := n7_; have NB236_203 := n8_; have NB211_236 := n9_; have NB236_211 := n10_; have NB235_236 := n11_; have NB236_235 := n12_; clear n0_ n1_ n2_ n3_ n4_ n5_ n6_ n7_ n8_ n9_ n10_ n11_ n12_; clear hb hbox hg; have hnb103 := NB235_203.out; have hnc103 := NB203_235.out; have hnb104 := NB235_211.out; have hnc104 := NB211_235.out; have hnb105 := NB235_236.out; have hnc105 := NB236_235.out; have hcz106_0 : w102.cell? ⟨gb235, 0, none⟩ = some (.int .i64 0) := (blk_cell BK235.out 0).trans rfl; have hcz106_1 : w102.cell? ⟨gb235, 1, none⟩ = some (.int .i64 0) := (blk_cell BK235.out 1).trans rfl; have hfz106_0 := blk_frozen BK235.out 0; have hfz106_1 := blk_frozen BK235.out 1; have hnb107 := NB236_203.out; have hnc107 := NB203_236.out; have hnb108 := NB236_211.out; have hnc108 := NB211_236.out; have hcz109_0 : w102.cell? ⟨gb236, 0, none⟩ = some (.int .i64 0) := (blk_cell BK236.out 0).trans rfl; have hcz109_1 : w102.cell? ⟨gb236, 1, none⟩ = some (.int .i64 0) := (blk_cell BK236.out 1).trans rfl; have hfz109_0 := blk_frozen BK236.out 0; have hfz109_1 := blk_frozen BK236.out 1; have hcz110_0 : w102.cell? ⟨gb203, 0, none⟩ = some (.int .i64 t199) := (blk_cell BK203.out 0).trans rfl; have hcz110_1 : w102.cell? ⟨gb203, 1, none⟩ = some (.int .i64 t200) := (blk_cell BK203.out 1).trans rfl; have hcz110_2 : w102.cell? ⟨gb203, 2, none⟩ = some (.int .i64 t201) := (blk_cell BK203.out 2).trans rfl; have hcz110_3 : w102.cell? ⟨gb203, 3, none⟩ = some (.int .i64 t202) := (blk_cell BK203.out 3).trans rfl; have hfz110_0 := blk_frozen BK203.out 0; have hfz110_1 := blk_frozen BK203.out 1; have hfz110_2 := blk_frozen BK203.out 2; have hfz110_3 := blk_frozen BK203.out 3))
                                                                repeat (go_quiet (first | (go_at_call 6; (with_reducible refine (laws_a2At.calls _ _ l1 2 60 t227 _ ?side1 ?side2 A80.out).mono ?_); (case side1 => repeat (first | exact (Kd.C_below HR1.out HB.out) | (with_reducible refine Kd.C_alloc ?_ _) | (with_reducible refine Kd.C_drewN ?_ _) | (with_reducible refine Kd.C_drew ?_))); (case side2 => exact HC1.out); rintro e w' ⟨rfl, ⟨nd, rfl⟩⟩; (try first | exact ⟨rfl, _, World.drewN_drewN _ _ _⟩ | exact ⟨rfl, _, Eq.trans (World.drewN_drewN _ _ _) (congrArg (World.drewN _) (Nat.add_assoc _ _ _))⟩); have hnb96 := NB203_211.out; have hnc96 := NB211_203.out; have hcz97_0 : wc.cell? ⟨gb203, 0, none⟩ = some (.int .i64 t199) := (blk_cell BK203.out 0).trans rfl; have hcz97_1 : wc.cell? ⟨gb203, 1, none⟩ = some (.int .i64 t200) := (blk_cell BK203.out 1).trans rfl; have hcz97_2 : wc.cell? ⟨gb203, 2, none⟩ = some (.int .i64 t201) := (blk_cell BK203.out 2).trans rfl; have hcz97_3 : wc.cell? ⟨gb203, 3, none⟩ = some (.int .i64 t202) := (blk_cell BK203.out 3).trans rfl; have hfz97_0 := blk_frozen BK203.out 0; have hfz97_1 := blk_frozen BK203.out 1; have hfz97_2 := blk_frozen BK203.out 2; have hfz97_3 := blk_frozen BK203.out 3) | (go_at_call 12; (with_reducible refine (impl_PapersFor.calls kj71 t199 t200 t201 t202 (wrap64 (50 + (wrap64 (10 * t204)))) (wrap64 (50 + (wrap64 (10 * t205)))) (wrap64 (1 + t227)) t228 t229 _ A81.out).mono ?_); rintro e w98 ⟨rfl, hb⟩; have n0_ := Aside0.mk (blk_below (g := gb203) (o := .cells #[.int .i64 t199, .int .i64 t200, .int .i64 t201, .int .i64 t202] 25 (0, 0)) (by (with_reducible repeat (first | refine blk_drewN ?_ _ | refine blk_drew ?_ | refine blk_alloc ?_ _)); exact BK203.out) hb); have n1_ := Aside0.mk (blk_below (g := gb211) (o := .cells #[.int .i64 t208, .int .i64 t209] 31 (0, 0)) (by (with_reducible repeat (first | refine blk_drewN ?_ _ | refine blk_drew ?_ | refine blk_alloc ?_ _)); exact BK211.out) hb); have n2_ := Aside0.mk (below_step (by repeat (first | (with_reducible first | exact HB.out | apply below_alloc | apply pw_below_drewN | apply below_drew1 | refine below_set ?_ GE203.out | refine below_set ?_ GE211.out) | exact HB.out)) hb); clear BK203; clear BK211; clear HB; have BK203 := n0_; have BK211 := n1_; have HB := n2_; clear n0_ n1_ n2_; (try clear hb); (try clear hb2); (try clear hk); (try clear hi); have hcz99_0 : w98.cell? ⟨gb203, 0, none⟩ = some (.int .i64 t199) := (blk_cell BK203.out 0).trans rfl; have hcz99_1 : w98.cell? ⟨gb203, 1, none⟩ = some (.int .i64 t200) := (blk_cell BK203.out 1).trans rfl; have hcz99_2 : w98.cell? ⟨gb203, 2, none⟩ = some (.int .i64 t201) := (blk_cell BK203.out 2).trans rfl; have hcz99_3 : w98.cell? ⟨gb203, 3, none⟩ = some (.int .i64 t202) := (blk_cell BK203.out 3).trans rfl; have hfz99_0 := blk_frozen BK203.out 0; have hfz99_1 := blk_frozen BK203.out 1; have hfz99_2 := blk_frozen BK203.out 2; have hfz99_3 := blk_frozen BK203.out 3) | (go_at_call 13; (with_reducible refine (impl_WetSides.calls kj71 t199 t200 t201 t202 t230 t231 t232 t233 t234 _ A86.out).mono ?_); rintro e w100 ⟨rfl, hb⟩; have n0_ := Aside0.mk (blk_below (g := gb203) (o := .cells #[.int .i64 t199, .int .i64 t200, .int .i64 t201, .int .i64 t202] 25 (0, 0)) (by (with_reducible repeat (first | refine blk_drewN ?_ _ | refine blk_drew ?_ | refine blk_alloc ?_ _)); exact BK203.out) hb); have n1_ := Aside0.mk (blk_below (g := gb211) (o := .cells #[.int .i64 t208, .int .i64 t209] 31 (0, 0)) (by (with_reducible repeat (first | refine blk_drewN ?_ _ | refine blk_drew ?_ | refine blk_alloc ?_ _)); exact BK211.out) hb); have n2_ := Aside0.mk (below_step (by repeat (first | (with_reducible first | exact HB.out | apply below_alloc | apply pw_below_drewN | apply below_drew1 | refine below_set ?_ GE203.out | refine below_set ?_ GE211.out) | exact HB.out)) hb); clear BK203; clear BK211; clear HB; have BK203 := n0_; have BK211 := n1_; have HB := n2_; clear n0_ n1_ n2_; (try clear hb); (try clear hb2); (try clear hk); (try clear hi)) | ((with_reducible refine gate_dst (N := 30) rfl ?_); (try (refine gate_guard (by rfl) ?_; dsimp only)); refine box_event ?hg (N := 30) ?hd (cs := #[.int .i64 0, .int .i64 0]) (t := 31) ?hr ?_; (case hd => rfl); (case hg => rfl); (case hr => first | (go_simp; done) | (go_simp; rfl)); intro gb235 hg w101 hbox hb; have n0_ := Aside0.mk (blk_below (g := gb203) (o := .cells #[.int .i64 t199, .int .i64 t200, .int .i64 t201, .int .i64 t202] 25 (0, 0)) (by (with_reducible repeat (first | refine blk_drewN ?_ _ | refine blk_drew ?_ | refine blk_alloc ?_ _)); exact BK203.out) hb); have n1_ := Aside0.mk (blk_below (g := gb211) (o := .cells #[.int .i64 t208, .int .i64 t209] 31 (0, 0)) (by (with_reducible repeat (first | refine blk_drewN ?_ _ | refine blk_drew ?_ | refine blk_alloc ?_ _)); exact BK211.out) hb); have n2_ := Aside0.mk (below_step (by repeat (first | (with_reducible first | exact HB.out | apply below_alloc | apply pw_below_drewN | apply below_drew1 | refine below_set ?_ GE203.out | refine below_set ?_ GE211.out) | exact HB.out)) hb); have n3_ := Aside0.mk (hbox); have n4_ := Aside0.mk ((by rw [hg]; exact (below_size (by repeat (first | (with_reducible first | exact HB.out | apply below_alloc | apply pw_below_drewN | apply below_drew1 | refine below_set ?_ GE203.out | refine below_set ?_ GE211.out) | exact HB.out))) : w.heap.size ≤ gb235)); have n5_ := Aside0.mk ((by rw [hg]; exact (below_size (by repeat (first | (with_reducible first | exact HB.out | apply below_alloc | apply pw_below_drewN | apply below_drew1 | refine below_set ?_ GE203.out | refine below_set ?_ GE211.out) | exact HB.out))) : w.heap.size ≤ gb235)); have n6_ := Aside0.mk ((by rw [hg]; exact Nat.ne_of_lt (blk_lt (g := gb203) (o := .cells #[.int .i64 t199, .int .i64 t200, .int .i64 t201, .int .i64 t202] 25 (0, 0)) (by (with_reducible repeat (first | refine blk_drewN ?_ _ | refine blk_drew ?_ | refine blk_alloc ?_ _)); exact BK203.out)) : gb203 ≠ gb235)); have n7_ := Aside0.mk ((by rw [hg]; exact Nat.ne_of_gt (blk_lt (g := gb203) (o := .cells #[.int .i64 t199, .int .i64 t200, .int .i64 t201, .int .i64 t202] 25 (0, 0)) (by (with_reducible repeat (first | refine blk_drewN ?_ _ | refine blk_drew ?_ | refine blk_alloc ?_ _)); exact BK203.out)) : gb235 ≠ gb203)); have n8_ := Aside0.mk ((by rw [hg]; exact Nat.ne_of_lt (blk_lt (g := gb211) (o := .cells #[.int .i64 t208, .int .i64 t209] 31 (0, 0)) (by (with_reducible repeat (first | refine blk_drewN ?_ _ | refine blk_drew ?_ | refine blk_alloc ?_ _)); exact BK211.out)) : gb211 ≠ gb235)); have n9_ := Aside0.mk ((by rw [hg]; exact Nat.ne_of_gt (blk_lt (g := gb211) (o := .cells #[.int .i64 t208, .int .i64 t209] 31 (0, 0)) (by (with_reducible repeat (first | refine blk_drewN ?_ _ | refine blk_drew ?_ | refine blk_alloc ?_ _)); exact BK211.out)) : gb235 ≠ gb211)); clear BK203; clear BK211; clear HB; have BK203 := n0_; have BK211 := n1_; have HB := n2_; have BK235 := n3_; have GW235 := n4_; have GE235 := n5_; have NB203_235 := n6_; have NB235_203 := n7_; have NB211_235 := n8_; have NB235_211 := n9_; clear n0_ n1_ n2_ n3_ n4_ n5_ n6_ n7_ n8_ n9_; clear hb hbox hg) | ((with_reducible refine gate_dst (N := 31) rfl ?_); (try (refine gate_guard (by rfl) ?_; dsimp only)); refine box_event ?hg (N := 31) ?hd (cs := #[.int .i64 0, .int .i64 0]) (t := 31) ?hr ?_; (case hd => rfl); (case hg => rfl); (case hr => first | (go_simp; done) | (go_simp; rfl)); intro gb236 hg w102 hbox hb; have n0_ := Aside0.mk (blk_below (g := gb203) (o := .cells #[.int .i64 t199, .int .i64 t200, .int .i64 t201, .int .i64 t202] 25 (0, 0)) (by (with_reducible repeat (first | refine blk_drewN ?_ _ | refine blk_drew ?_ | refine blk_alloc ?_ _)); exact BK203.out) hb); have n1_ := Aside0.mk (blk_below (g := gb211) (o := .cells #[.int .i64 t208, .int .i64 t209] 31 (0, 0)) (by (with_reducible repeat (first | refine blk_drewN ?_ _ | refine blk_drew ?_ | refine blk_alloc ?_ _)); exact BK211.out) hb); have n2_ := Aside0.mk (blk_below (g := gb235) (o := .cells #[.int .i64 0, .int .i64 0] 31 (0, 0)) (by (with_reducible repeat (first | refine blk_drewN ?_ _ | refine blk_drew ?_ | refine blk_alloc ?_ _)); exact BK235.out) hb); have n3_ := Aside0.mk (below_step (by repeat (first | (with_reducible first | exact HB.out | apply below_alloc | apply pw_below_drewN | apply below_drew1 | refine below_set ?_ GE203.out | refine below_set ?_ GE211.out | refine below_set ?_ GE235.out) | exact HB.out)) hb); have n4_ := Aside0.mk (hbox); have n5_ := Aside0.mk ((by rw [hg]; exact (below_size (by repeat (first | (with_reducible first | exact HB.out | apply below_alloc | apply pw_below_drewN | apply below_drew1 | refine below_set ?_ GE203.out | refine below_set ?_ GE211.out | refine below_set ?_ GE235.out) | exact HB.out))) : w.heap.size ≤ gb236)); have n6_ := Aside0.mk ((by rw [hg]; exact (below_size (by repeat (first | (with_reducible first | exact HB.out | apply below_alloc | apply pw_below_drewN | apply below_drew1 | refine below_set ?_ GE203.out | refine below_set ?_ GE211.out | refine below_set ?_ GE235.out) | exact HB.out))) : w.heap.size ≤ gb236)); have n7_ := Aside0.mk ((by rw [hg]; exact Nat.ne_of_lt (blk_lt (g := gb203) (o := .cells #[.int .i64 t199, .int .i64 t200, .int .i64 t201, .int .i64 t202] 25 (0, 0)) (by (with_reducible repeat (first | refine blk_drewN ?_ _ | refine blk_drew ?_ | refine blk_alloc ?_ _)); exact BK203.out)) : gb203 ≠ gb236)); have n8_ := Aside0.mk ((by rw [hg]; exact Nat.ne_of_gt (blk_lt (g := gb203) (o := .cells #[.int .i64 t199, .int .i64 t200, .int .i64 t201, .int .i64 t202] 25 (0, 0)) (by (with_reducible repeat (first | refine blk_drewN ?_ _ | refine blk_drew ?_ | refine blk_alloc ?_ _)); exact BK203.out)) : gb236 ≠ gb203)); have n9_ := Aside0.mk ((by rw [hg]; exact Nat.ne_of_lt (blk_lt (g := gb211) (o := .cells #[.int .i64 t208, .int .i64 t209] 31 (0, 0)) (by (with_reducible repeat (first | refine blk_drewN ?_ _ | refine blk_drew ?_ | refine blk_alloc ?_ _)); exact BK211.out)) : gb211 ≠ gb236)); have n10_ := Aside0.mk ((by rw [hg]; exact Nat.ne_of_gt (blk_lt (g := gb211) (o := .cells #[.int .i64 t208, .int .i64 t209] 31 (0, 0)) (by (with_reducible repeat (first | refine blk_drewN ?_ _ | refine blk_drew ?_ | refine blk_alloc ?_ _)); exact BK211.out)) : gb236 ≠ gb211)); have n11_ := Aside0.mk ((by rw [hg]; exact Nat.ne_of_lt (blk_lt (g := gb235) (o := .cells #[.int .i64 0, .int .i64 0] 31 (0, 0)) (by (with_reducible repeat (first | refine blk_drewN ?_ _ | refine blk_drew ?_ | refine blk_alloc ?_ _)); exact BK235.out)) : gb235 ≠ gb236)); have n12_ := Aside0.mk ((by rw [hg]; exact Nat.ne_of_gt (blk_lt (g := gb235) (o := .cells #[.int .i64 0, .int .i64 0] 31 (0, 0)) (by (with_reducible repeat (first | refine blk_drewN ?_ _ | refine blk_drew ?_ | refine blk_alloc ?_ _)); exact BK235.out)) : gb236 ≠ gb235)); clear BK203; clear BK211; clear BK235; clear HB; have BK203 := n0_; have BK211 := n1_; have BK235 := n2_; have HB := n3_; have BK236 := n4_; have GW236 := n5_; have GE236 := n6_; have NB203_236 := n7_; have NB236_203 := n8_; have NB211_236 := n9_; have NB236_211 := n10_; have NB235_236 := n11_; have NB236_235 := n12_; clear n0_ n1_ n2_ n3_ n4_ n5_ n6_ n7_ n8_ n9_ n10_ n11_ n12_; clear hb hbox hg; have hnb103 := NB235_203.out; have hnc103 := NB203_235.out; have hnb104 := NB235_211.out; have hnc104 := NB211_235.out; have hnb105 := NB235_236.out; have hnc105 := NB236_235.out; have hcz106_0 : w102.cell? ⟨gb235, 0, none⟩ = some (.int .i64 0) := (blk_cell BK235.out 0).trans rfl; have hcz106_1 : w102.cell? ⟨gb235, 1, none⟩ = some (.int .i64 0) := (blk_cell BK235.out 1).trans rfl; have hfz106_0 := blk_frozen BK235.out 0; have hfz106_1 := blk_frozen BK235.out 1; have hnb107 := NB236_203.out; have hnc107 := NB203_236.out; have hnb108 := NB236_211.out; have hnc108 := NB211_236.out; have hcz109_0 : w102.cell? ⟨gb236, 0, none⟩ = some (.int .i64 0) := (blk_cell BK236.out 0).trans rfl; have hcz109_1 : w102.cell? ⟨gb236, 1, none⟩ = some (.int .i64 0) := (blk_cell BK236.out 1).trans rfl; have hfz109_0 := blk_frozen BK236.out 0; have hfz109_1 := blk_frozen BK236.out 1; have hcz110_0 : w102.cell? ⟨gb203, 0, none⟩ = some (.int .i64 t199) := (blk_cell BK203.out 0).trans rfl; have hcz110_1 : w102.cell? ⟨gb203, 1, none⟩ = some (.int .i64 t200) := (blk_cell BK203.out 1).trans rfl; have hcz110_2 : w102.cell? ⟨gb203, 2, none⟩ = some (.int .i64 t201) := (blk_cell BK203.out 2).trans rfl; have hcz110_3 : w102.cell? ⟨gb203, 3, none⟩ = some (.int .i64 t202) := (blk_cell BK203.out 3).trans rfl; have hfz110_0 := blk_frozen BK203.out 0; have hfz110_1 := blk_frozen BK203.out 1; have hfz110_2 := blk_frozen BK203.out 2; have hfz110_3 := blk_frozen BK203.out 3)); try go_wp2_with (first | (go_at_call 6; (with_reducible refine (laws_a2At.calls _ _ l1 2 60 t227 _ ?side1 ?side2 A80.out).mono ?_); (case side1 => repeat (first | exact (Kd.C_below HR1.out HB.out) | (with_reducible refine Kd.C_alloc ?_ _) | (with_reducible refine Kd.C_drewN ?_ _) | (with_reducible refine Kd.C_drew ?_))); (case side2 => exact HC1.out); rintro e w' ⟨rfl, ⟨nd, rfl⟩⟩; (try first | exact ⟨rfl, _, World.drewN_drewN _ _ _⟩ | exact ⟨rfl, _, Eq.trans (World.drewN_drewN _ _ _) (congrArg (World.drewN _) (Nat.add_assoc _ _ _))⟩); have hnb96 := NB203_211.out; have hnc96 := NB211_203.out; have hcz97_0 : wc.cell? ⟨gb203, 0, none⟩ = some (.int .i64 t199) := (blk_cell BK203.out 0).trans rfl; have hcz97_1 : wc.cell? ⟨gb203, 1, none⟩ = some (.int .i64 t200) := (blk_cell BK203.out 1).trans rfl; have hcz97_2 : wc.cell? ⟨gb203, 2, none⟩ = some (.int .i64 t201) := (blk_cell BK203.out 2).trans rfl; have hcz97_3 : wc.cell? ⟨gb203, 3, none⟩ = some (.int .i64 t202) := (blk_cell BK203.out 3).trans rfl; have hfz97_0 := blk_frozen BK203.out 0; have hfz97_1 := blk_frozen BK203.out 1; have hfz97_2 := blk_frozen BK203.out 2; have hfz97_3 := blk_frozen BK203.out 3) | (go_at_call 12; (with_reducible refine (impl_PapersFor.calls kj71 t199 t200 t201 t202 (wrap64 (50 + (wrap64 (10 * t204)))) (wrap64 (50 + (wrap64 (10 * t205)))) (wrap64 (1 + t227)) t228 t229 _ A81.out).mono ?_); rintro e w98 ⟨rfl, hb⟩; have n0_ := Aside0.mk (blk_below (g := gb203) (o := .cells #[.int .i64 t199, .int .i64 t200, .int .i64 t201, .int .i64 t202] 25 (0, 0)) (by (with_reducible repeat (first | refine blk_drewN ?_ _ | refine blk_drew ?_ | refine blk_alloc ?_ _)); exact BK203.out) hb); have n1_ := Aside0.mk (blk_below (g := gb211) (o := .cells #[.int .i64 t208, .int .i64 t209] 31 (0, 0)) (by (with_reducible repeat (first | refine blk_drewN ?_ _ | refine blk_drew ?_ | refine blk_alloc ?_ _)); exact BK211.out) hb); have n2_ := Aside0.mk (below_step (by repeat (first | (with_reducible first | exact HB.out | apply below_alloc | apply pw_below_drewN | apply below_drew1 | refine below_set ?_ GE203.out | refine below_set ?_ GE211.out) | exact HB.out)) hb); clear BK203; clear BK211; clear HB; have BK203 := n0_; have BK211 := n1_; have HB := n2_; clear n0_ n1_ n2_; (try clear hb); (try clear hb2); (try clear hk); (try clear hi); have hcz99_0 : w98.cell? ⟨gb203, 0, none⟩ = some (.int .i64 t199) := (blk_cell BK203.out 0).trans rfl; have hcz99_1 : w98.cell? ⟨gb203, 1, none⟩ = some (.int .i64 t200) := (blk_cell BK203.out 1).trans rfl; have hcz99_2 : w98.cell? ⟨gb203, 2, none⟩ = some (.int .i64 t201) := (blk_cell BK203.out 2).trans rfl; have hcz99_3 : w98.cell? ⟨gb203, 3, none⟩ = some (.int .i64 t202) := (blk_cell BK203.out 3).trans rfl; have hfz99_0 := blk_frozen BK203.out 0; have hfz99_1 := blk_frozen BK203.out 1; have hfz99_2 := blk_frozen BK203.out 2; have hfz99_3 := blk_frozen BK203.out 3) | (go_at_call 13; (with_reducible refine (impl_WetSides.calls kj71 t199 t200 t201 t202 t230 t231 t232 t233 t234 _ A86.out).mono ?_); rintro e w100 ⟨rfl, hb⟩; have n0_ := Aside0.mk (blk_below (g := gb203) (o := .cells #[.int .i64 t199, .int .i64 t200, .int .i64 t201, .int .i64 t202] 25 (0, 0)) (by (with_reducible repeat (first | refine blk_drewN ?_ _ | refine blk_drew ?_ | refine blk_alloc ?_ _)); exact BK203.out) hb); have n1_ := Aside0.mk (blk_below (g := gb211) (o := .cells #[.int .i64 t208, .int .i64 t209] 31 (0, 0)) (by (with_reducible repeat (first | refine blk_drewN ?_ _ | refine blk_drew ?_ | refine blk_alloc ?_ _)); exact BK211.out) hb); have n2_ := Aside0.mk (below_step (by repeat (first | (with_reducible first | exact HB.out | apply below_alloc | apply pw_below_drewN | apply below_drew1 | refine below_set ?_ GE203.out | refine below_set ?_ GE211.out) | exact HB.out)) hb); clear BK203; clear BK211; clear HB; have BK203 := n0_; have BK211 := n1_; have HB := n2_; clear n0_ n1_ n2_; (try clear hb); (try clear hb2); (try clear hk); (try clear hi)) | ((with_reducible refine gate_dst (N := 30) rfl ?_); (try (refine gate_guard (by rfl) ?_; dsimp only)); refine box_event ?hg (N := 30) ?hd (cs := #[.int .i64 0, .int .i64 0]) (t := 31) ?hr ?_; (case hd => rfl); (case hg => rfl); (case hr => first | (go_simp; done) | (go_simp; rfl)); intro gb235 hg w101 hbox hb; have n0_ := Aside0.mk (blk_below (g := gb203) (o := .cells #[.int .i64 t199, .int .i64 t200, .int .i64 t201, .int .i64 t202] 25 (0, 0)) (by (with_reducible repeat (first | refine blk_drewN ?_ _ | refine blk_drew ?_ | refine blk_alloc ?_ _)); exact BK203.out) hb); have n1_ := Aside0.mk (blk_below (g := gb211) (o := .cells #[.int .i64 t208, .int .i64 t209] 31 (0, 0)) (by (with_reducible repeat (first | refine blk_drewN ?_ _ | refine blk_drew ?_ | refine blk_alloc ?_ _)); exact BK211.out) hb); have n2_ := Aside0.mk (below_step (by repeat (first | (with_reducible first | exact HB.out | apply below_alloc | apply pw_below_drewN | apply below_drew1 | refine below_set ?_ GE203.out | refine below_set ?_ GE211.out) | exact HB.out)) hb); have n3_ := Aside0.mk (hbox); have n4_ := Aside0.mk ((by rw [hg]; exact (below_size (by repeat (first | (with_reducible first | exact HB.out | apply below_alloc | apply pw_below_drewN | apply below_drew1 | refine below_set ?_ GE203.out | refine below_set ?_ GE211.out) | exact HB.out))) : w.heap.size ≤ gb235)); have n5_ := Aside0.mk ((by rw [hg]; exact (below_size (by repeat (first | (with_reducible first | exact HB.out | apply below_alloc | apply pw_below_drewN | apply below_drew1 | refine below_set ?_ GE203.out | refine below_set ?_ GE211.out) | exact HB.out))) : w.heap.size ≤ gb235)); have n6_ := Aside0.mk ((by rw [hg]; exact Nat.ne_of_lt (blk_lt (g := gb203) (o := .cells #[.int .i64 t199, .int .i64 t200, .int .i64 t201, .int .i64 t202] 25 (0, 0)) (by (with_reducible repeat (first | refine blk_drewN ?_ _ | refine blk_drew ?_ | refine blk_alloc ?_ _)); exact BK203.out)) : gb203 ≠ gb235)); have n7_ := Aside0.mk ((by rw [hg]; exact Nat.ne_of_gt (blk_lt (g := gb203) (o := .cells #[.int .i64 t199, .int .i64 t200, .int .i64 t201, .int .i64 t202] 25 (0, 0)) (by (with_reducible repeat (first | refine blk_drewN ?_ _ | refine blk_drew ?_ | refine blk_alloc ?_ _)); exact BK203.out)) : gb235 ≠ gb203)); have n8_ := Aside0.mk ((by rw [hg]; exact Nat.ne_of_lt (blk_lt (g := gb211) (o := .cells #[.int .i64 t208, .int .i64 t209] 31 (0, 0)) (by (with_reducible repeat (first | refine blk_drewN ?_ _ | refine blk_drew ?_ | refine blk_alloc ?_ _)); exact BK211.out)) : gb211 ≠ gb235)); have n9_ := Aside0.mk ((by rw [hg]; exact Nat.ne_of_gt (blk_lt (g := gb211) (o := .cells #[.int .i64 t208, .int .i64 t209] 31 (0, 0)) (by (with_reducible repeat (first | refine blk_drewN ?_ _ | refine blk_drew ?_ | refine blk_alloc ?_ _)); exact BK211.out)) : gb235 ≠ gb211)); clear BK203; clear BK211; clear HB; have BK203 := n0_; have BK211 := n1_; have HB := n2_; have BK235 := n3_; have GW235 := n4_; have GE235 := n5_; have NB203_235 := n6_; have NB235_203 := n7_; have NB211_235 := n8_; have NB235_211 := n9_; clear n0_ n1_ n2_ n3_ n4_ n5_ n6_ n7_ n8_ n9_; clear hb hbox hg) | ((with_reducible refine gate_dst (N := 31) rfl ?_); (try (refine gate_guard (by rfl) ?_; dsimp only)); refine box_event ?hg (N := 31) ?hd (cs := #[.int .i64 0, .int .i64 0]) (t := 31) ?hr ?_; (case hd => rfl); (case hg => rfl); (case hr => first | (go_simp; done) | (go_simp; rfl)); intro gb236 hg w102 hbox hb; have n0_ := Aside0.mk (blk_below (g := gb203) (o := .cells #[.int .i64 t199, .int .i64 t200, .int .i64 t201, .int .i64 t202] 25 (0, 0)) (by (with_reducible repeat (first | refine blk_drewN ?_ _ | refine blk_drew ?_ | refine blk_alloc ?_ _)); exact BK203.out) hb); have n1_ := Aside0.mk (blk_below (g := gb211) (o := .cells #[.int .i64 t208, .int .i64 t209] 31 (0, 0)) (by (with_reducible repeat (first | refine blk_drewN ?_ _ | refine blk_drew ?_ | refine blk_alloc ?_ _)); exact BK211.out) hb); have n2_ := Aside0.mk (blk_below (g := gb235) (o := .cells #[.int .i64 0, .int .i64 0] 31 (0, 0)) (by (with_reducible repeat (first | refine blk_drewN ?_ _ | refine blk_drew ?_ | refine blk_alloc ?_ _)); exact BK235.out) hb); have n3_ := Aside0.mk (below_step (by repeat (first | (with_reducible first | exact HB.out | apply below_alloc | apply pw_below_drewN | apply below_drew1 | refine below_set ?_ GE203.out | refine below_set ?_ GE211.out | refine below_set ?_ GE235.out) | exact HB.out)) hb); have n4_ := Aside0.mk (hbox); have n5_ := Aside0.mk ((by rw [hg]; exact (below_size (by repeat (first | (with_reducible first | exact HB.out | apply below_alloc | apply pw_below_drewN | apply below_drew1 | refine below_set ?_ GE203.out | refine below_set ?_ GE211.out | refine below_set ?_ GE235.out) | exact HB.out))) : w.heap.size ≤ gb236)); have n6_ := Aside0.mk ((by rw [hg]; exact (below_size (by repeat (first | (with_reducible first | exact HB.out | apply below_alloc | apply pw_below_drewN | apply below_drew1 | refine below_set ?_ GE203.out | refine below_set ?_ GE211.out | refine below_set ?_ GE235.out) | exact HB.out))) : w.heap.size ≤ gb236)); have n7_ := Aside0.mk ((by rw [hg]; exact Nat.ne_of_lt (blk_lt (g := gb203) (o := .cells #[.int .i64 t199, .int .i64 t200, .int .i64 t201, .int .i64 t202] 25 (0, 0)) (by (with_reducible repeat (first | refine blk_drewN ?_ _ | refine blk_drew ?_ | refine blk_alloc ?_ _)); exact BK203.out)) : gb203 ≠ gb236)); have n8_ := Aside0.mk ((by rw [hg]; exact Nat.ne_of_gt (blk_lt (g := gb203) (o := .cells #[.int .i64 t199, .int .i64 t200, .int .i64 t201, .int .i64 t202] 25 (0, 0)) (by (with_reducible repeat (first | refine blk_drewN ?_ _ | refine blk_drew ?_ | refine blk_alloc ?_ _)); exact BK203.out)) : gb236 ≠ gb203)); have n9_ := Aside0.mk ((by rw [hg]; exact Nat.ne_of_lt (blk_lt (g := gb211) (o := .cells #[.int .i64 t208, .int .i64 t209] 31 (0, 0)) (by (with_reducible repeat (first | refine blk_drewN ?_ _ | refine blk_drew ?_ | refine blk_alloc ?_ _)); exact BK211.out)) : gb211 ≠ gb236)); have n10_ := Aside0.mk ((by rw [hg]; exact Nat.ne_of_gt (blk_lt (g := gb211) (o := .cells #[.int .i64 t208, .int .i64 t209] 31 (0, 0)) (by (with_reducible repeat (first | refine blk_drewN ?_ _ | refine blk_drew ?_ | refine blk_alloc ?_ _)); exact BK211.out)) : gb236 ≠ gb211)); have n11_ := Aside0.mk ((by rw [hg]; exact Nat.ne_of_lt (blk_lt (g := gb235) (o := .cells #[.int .i64 0, .int .i64 0] 31 (0, 0)) (by (with_reducible repeat (first | refine blk_drewN ?_ _ | refine blk_drew ?_ | refine blk_alloc ?_ _)); exact BK235.out)) : gb235 ≠ gb236)); have n12_ := Aside0.mk ((by rw [hg]; exact Nat.ne_of_gt (blk_lt (g := gb235) (o := .cells #[.int .i64 0, .int .i64 0] 31 (0, 0)) (by (with_reducible repeat (first | refine blk_drewN ?_ _ | refine blk_drew ?_ | refine blk_alloc ?_ _)); exact BK235.out)) : gb236 ≠ gb235)); clear BK203; clear BK211; clear BK235; clear HB; have BK203 := n0_; have BK211 := n1_; have BK235 := n2_; have HB := n3_; have BK236 := n4_; have GW236 := n5_; have GE236 := n6_; have NB203_236 := n7_; have NB236_203 := n8_; have NB211_236 := n9_; have NB236_211 := n10_; have NB235_236 := n11_; have NB236_235 := n12_; clear n0_ n1_ n2_ n3_ n4_ n5_ n6_ n7_ n8_ n9_ n10_ n11_ n12_; clear hb hbox hg; have hnb103 := NB235_203.out; have hnc103 := NB203_235.out; have hnb104 := NB235_211.out; have hnc104 := NB211_235.out; have hnb105 := NB235_236.out; have hnc105 := NB236_235.out; have hcz106_0 : w102.cell? ⟨gb235, 0, none⟩ = some (.int .i64 0) := (blk_cell BK235.out 0).trans rfl; have hcz106_1 : w102.cell? ⟨gb235, 1, none⟩ = some (.int .i64 0) := (blk_cell BK235.out 1).trans rfl; have hfz106_0 := blk_frozen BK235.out 0; have hfz106_1 := blk_frozen BK235.out 1; have hnb107 := NB236_203.out; have hnc107 := NB203_236.out; have hnb108 := NB236_211.out; have hnc108 := NB211_236.out; have hcz109_0 : w102.cell? ⟨gb236, 0, none⟩ = some (.int .i64 0) := (blk_cell BK236.out 0).trans rfl; have hcz109_1 : w102.cell? ⟨gb236, 1, none⟩ = some (.int .i64 0) := (blk_cell BK236.out 1).trans rfl; have hfz109_0 := blk_frozen BK236.out 0; have hfz109_1 := blk_frozen BK236.out 1; have hcz110_0 : w102.cell? ⟨gb203, 0, none⟩ = some (.int .i64 t199) := (blk_cell BK203.out 0).trans rfl; have hcz110_1 : w102.cell? ⟨gb203, 1, none⟩ = some (.int .i64 t200) := (blk_cell BK203.out 1).trans rfl; have hcz110_2 : w102.cell? ⟨gb203, 2, none⟩ = some (.int .i64 t201) := (blk_cell BK203.out 2).trans rfl; have hcz110_3 : w102.cell? ⟨gb203, 3, none⟩ = some (.int .i64 t202) := (blk_cell BK203.out 3).trans rfl; have hfz110_0 := blk_frozen BK203.out 0; have hfz110_1 := blk_frozen BK203.out 1; have hfz110_2 := blk_frozen BK203.out 2; have hfz110_3 := blk_frozen BK203.out 3)))
                                                                go_ret
                                                                exact ⟨by first | rfl | (simp [errW_none, errW_some] <;> rfl) | (simp [*, errW_none, errW_some] <;> rfl), by repeat (first | (with_reducible first | exact HB.out | apply below_alloc | apply pw_below_drewN | apply below_drew1 | refine below_set ?_ GE203.out | refine below_set ?_ GE211.out | refine below_set ?_ GE235.out | refine below_set ?_ GE236.out) | exact HB.out)⟩
                                                            · rw [if_neg c95] at H
                                                              exact absurd ((Option.some.inj H).trans hT_) Bool.false_ne_true
                                                          · rw [if_neg c94] at H
                                                            exact absurd ((Option.some.inj H).trans hT_) Bool.false_ne_true
                                                        · rw [if_neg c93] at H
                                                          exact absurd ((Option.some.inj H).trans hT_) Bool.false_ne_true
                                                      · rw [if_neg c92] at H
                                                        exact absurd ((Option.some.inj H).trans hT_) Bool.false_ne_true
                                                    · rw [if_neg c91] at H
                                                      exact absurd ((Option.some.inj H).trans hT_) Bool.false_ne_true
                                                  · rw [if_neg c90] at H
                                                    exact absurd ((Option.some.inj H).trans hT_) Bool.false_ne_true
                                                · rw [if_neg c89] at H
                                                  exact absurd ((Option.some.inj H).trans hT_) Bool.false_ne_true
                                              · rw [if_neg c88] at H
                                                exact absurd ((Option.some.inj H).trans hT_) Bool.false_ne_true
                                            · rw [if_neg c87] at H
                                              exact absurd ((Option.some.inj H).trans hT_) Bool.false_ne_true
/-- THE ONE PURE STATEMENT of laws_FnPapers: yours. -/
def laws_FnPapers.Pure : Prop := ∀ (l0 : List Int) (l1 : List Int), l0.length ≤ maxLen → l0.length * 1 ≤ 140737488351232 → (∀ x ∈ l0, (Lit.int .u8 x).wf = true) → l1.length ≤ maxLen → l1.length * 1 ≤ 140737488351232 → (∀ x ∈ l1, (Lit.int .u8 x).wf = true) → ∃ k, laws_FnPapers.f k l0 l1 = some true
theorem laws_FnPapers.walk (P : laws_FnPapers.Pure) (a0 : Option Addr) (len0 cap0 : Nat) (z0 : List Int) (a1 : Option Addr) (len1 cap1 : Nat) (z1 : List Int) (w : World) (w0 : (a0 = none ∧ len0 = 0 ∧ cap0 = 0 ∧ z0 = []) ∨ ∃ x, a0 = some x ∧ len0 ≤ cap0 ∧ cap0 ≤ maxLen ∧ z0.length = cap0 ∧ (∀ i, i < z0.length → w.cell? (x.add i) = some (.int .u8 (z0.getD i 0))) ∧ ∀ n ∈ z0, (Lit.int .u8 n).wf = true) (y0 : len0 * 1 ≤ 140737488351232) (w1 : (a1 = none ∧ len1 = 0 ∧ cap1 = 0 ∧ z1 = []) ∨ ∃ x, a1 = some x ∧ len1 ≤ cap1 ∧ cap1 ≤ maxLen ∧ z1.length = cap1 ∧ (∀ i, i < z1.length → w.cell? (x.add i) = some (.int .u8 (z1.getD i 0))) ∧ ∀ n ∈ z1, (Lit.int .u8 n).wf = true) (y1 : len1 * 1 ≤ 140737488351232) :
    Calls Try.prog 3 #[.slice a0 len0 cap0, .slice a1 len1 cap1] w fun e w' => e = .returned (.bool true) ∧ Below w.heap.size w w' := by
  obtain ⟨l0, rfl, hr0, hm0, hw0, hc0⟩ := ReadsInt.ofRowC w0
  obtain ⟨l1, rfl, hr1, hm1, hw1, hc1⟩ := ReadsInt.ofRowC w1
  obtain ⟨k, h⟩ := P l0 l1 hm0 y0 hw0 hm1 y1 hw1
  refine (laws_FnPapers.calls k _ _ l0 _ _ l1 true w (Kd.C_of_reads (d := (0 : Int)) (h1 := fun _ => rfl) hr0) hc0 (Kd.C_of_reads (d := (0 : Int)) (h1 := fun _ => rfl) hr1) hc1 h rfl).mono ?_
  rintro e w' ⟨rfl, hd⟩
  exact ⟨rfl, hd⟩

end Go.Proofs.Ytdhpkmpekbikpaa.PFnPapers
