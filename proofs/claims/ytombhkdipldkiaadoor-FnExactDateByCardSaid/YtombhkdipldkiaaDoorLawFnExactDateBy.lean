/- The law FnExactDateBy: called with any arguments it returns true, and each argument reads as before. Conditions: the two tables of Go's library that the row lists read as the program's text lays them (the card ties them). -/
import Derived.Test.YtombhkdipldkiaaDoorRows
import Derived.Test.YtombhkdipldkiaaDoorPFnExactDateByx
import Derived.Test.YtombhkdipldkiaaDoorPureFnExactDateBy
import Derived.Test.YtombhkdipldkiaaDoorRd
import Derived.Test.YtombhkdipldkiaaDoorCards
import Derived.Test.YtombhkdipldkiaaDoorTie
import Derived.WalkKit
import Derived.ProofKit
import Derived.OpenShut
import Derived.ShutString
import Derived.ChangeOld
import Derived.Below
import Derived.SizedLaws
import Derived.Lib.SmallJoins
import Derived.LaidMore
import Derived.Lay
import Derived.SevenTiedAt
import Derived.Stop.Joined
namespace Go.Proofs.YtombhkdipldkiaaDoor.fnExactDateBy
open Go.ChangeShapes Go.WideShapes Go.ChangeAt Go.RowKit Go.Proofs.YtombhkdipldkiaaDoor.Rd Go.Proofs.YtombhkdipldkiaaDoor.PFnExactDateBy Go.Proofs.YtombhkdipldkiaaDoorW.PrintWords
open Go.ChangeMaps (open_string shut_string)
set_option linter.unusedVariables false
theorem own : ownKnob Tryd.prog.godebug = none := by kernel_rfl
theorem laidOut : laidOutB Tryd.prog = true := by kernel_rfl
theorem cells9 : Tryd.prog.cellsOf 9 = 1 := by kernel_rfl
theorem cells2 : Tryd.prog.cellsOf 2 = 1 := by kernel_rfl
theorem cells121 : Tryd.prog.cellsOf 121 = 3 := by kernel_rfl
instance : Inhabited S121 := ⟨z121⟩
theorem rd_T121 {H : Type} {enc : TypeId × Value → H} {w : World} {base : Nat} {spare : Nat → Bool} {held : Bool} {fuel : Nat} {cs : List Value} {x : DataW H × List MemPlace} (h : DataW.trod enc Tryd.prog w base spare held fuel 121 cs = some x) : ∃ x : S121, k121.K w x cs ∧ (x.f0.size ≤ maxLen ∧ (Lit.int .i64 x.f1).wf = true ∧ (Lit.int .i64 x.f2).wf = true) := by
  obtain ⟨hl, n, hf⟩ := piece Tryd.underlying121 h
  rw [cells121] at hl
  obtain ⟨c0, c1, c2, rfl⟩ := list3 hl
  obtain ⟨y0, g0⟩ := hf 0 _ rfl
  have g0' : DataW.trod enc Tryd.prog w base spare held n 9 [c0] = some y0 := by simpa [cells9] using g0
  obtain ⟨b0, hK0, hW0⟩ := rd_string (w := w) Tryd.underlying9 g0'
  obtain ⟨y1, g1⟩ := hf 1 _ rfl
  have g1' : DataW.trod enc Tryd.prog w base spare held n 2 [c1] = some y1 := by simpa [cells2] using g1
  obtain ⟨b1, hK1, hW1⟩ := rd_int (w := w) Tryd.underlying2 g1'
  obtain ⟨y2, g2⟩ := hf 2 _ rfl
  have g2' : DataW.trod enc Tryd.prog w base spare held n 2 [c2] = some y2 := by simpa [cells2] using g2
  obtain ⟨b2, hK2, hW2⟩ := rd_int (w := w) Tryd.underlying2 g2'
  exact ⟨⟨b0, b1, b2⟩, ⟨[c0], [c1, c2], rfl, hK0, ⟨[c1], [c2], rfl, hK1, hK2⟩⟩, hW0, hW1, hW2⟩
set_option maxRecDepth 100000 in
theorem lifted (os : Os) (started : os.Started) (H : Type) (enc : TypeId × Value → H) :
    ReturnsInHanded {} Tryd.checked os 8 .any (fun w args => (Rows.fnExactDateBySpec.pre enc Tryd.prog Tryd.f8 Rows.fnExactDateByRow.domain false w args ∧ laidMetH Tryd.prog Rows.fnExactDateByRow.laid w) ∧ sizedMet enc Tryd.prog Tryd.f8 (OpenSpec.ofChange Rows.fnExactDateBySpec) false w args)
      (Rows.fnExactDateBySpec.post enc Tryd.prog Tryd.f8 false true false false) := by
  refine returnsInHanded_of_change_and (C := Tryd.checked) (X := fun w _ => laidMetH Tryd.prog Rows.fnExactDateByRow.laid w) (fun _ _ _ hh h => h.of_heap hh) own started (by kernel_rfl) Tryd.func8
    (ChangeSpec.witness_shaped (enc := enc) (C := Tryd.checked) (os := os) (X := fun w _ => laidMetH Tryd.prog Rows.fnExactDateByRow.laid w) false (World.laidAll Tryd.prog os Rows.fnExactDateByRow.laid) #[.slice none 0 0, .slice none 0 0] 8 (World.laidAll_os _ _ _)
      (World.shaped_of_ZipB (by kernel_rfl) (by kernel_rfl)) (by kernel_rfl) (by kernel_rfl) (by kernel_rfl)
      (by rw [MakeChecks.laidMetH_plain _ _ _ (by kernel_rfl)]; exact laidMet_laidAll _ (by kernel_rfl) (by kernel_rfl))) ?_
  intro W base args ds gs before hval0 hW hcnd hsz0 hL _
  have hsz : (DataW.weightsEach Tryd.prog (Tryd.f8.params.toList ++ Rows.fnExactDateBySpec.plain.varTypes Tryd.prog) (ds ++ gs)).all (· ≤ reachBytes) = true := hsz0
  have hval : ∀ (j : Nat) t v, Tryd.f8.params[j]? = some t → args[j]? = some v → Value.okWide Tryd.prog W .any base t v := hval0
  have hW' := hW
  obtain ⟨p, q, hA0, hV, rfl, hfz, hnd⟩ := hW
  have hA : DataW.TrodAll enc Tryd.prog W 0 (fun _ => true) true Tryd.f8.params.toList args.toList ds p := hA0
  rw [Tryd.params8] at hA hval hsz
  obtain ⟨v0, vs0, d0, ds0, p0, q0, hargs, rfl, rfl, h0, r0⟩ := trodAll_cons hA
  obtain ⟨v1, vs1, d1, ds1, p1, q1, rfl, rfl, rfl, h1, r1⟩ := trodAll_cons r0
  obtain ⟨rfl, rfl, rfl⟩ := trodAll_nil r1
  obtain rfl : args = #[v0, v1] := by cases args; simp_all
  obtain ⟨rfl, rfl⟩ := trodVars_none hV
  have k0_ := h0
  have lt0 : ∀ x ∈ p0, x.block < W.heap.size := by obtain ⟨m, hm⟩ := k0_; exact DataW.trod_lt m _ _ _ hm
  obtain ⟨o0, len0, cap0, rfl⟩ := okWide_slice Tryd.underlying57 (hval 0 57 v0 rfl rfl)
  obtain ⟨fuel0, hf0⟩ := h0
  obtain ⟨A0, c0, l0, he0, hc0, hC0, hm0, hw0⟩ := rd_row (w := W) k121 (fun x => (x.f0.size ≤ maxLen ∧ (Lit.int .i64 x.f1).wf = true ∧ (Lit.int .i64 x.f2).wf = true)) Tryd.underlying57 cells121 (fun _ _ _ h => rd_T121 h) hf0
  simp only [Value.cells, List.cons.injEq, Value.slice.injEq, and_true] at he0
  obtain ⟨rfl, rfl, rfl⟩ := he0
  have k1_ := h1
  have lt1 : ∀ x ∈ p1, x.block < W.heap.size := by obtain ⟨m, hm⟩ := k1_; exact DataW.trod_lt m _ _ _ hm
  obtain ⟨o1, len1, cap1, rfl⟩ := okWide_slice Tryd.underlying49 (hval 1 49 v1 rfl rfl)
  obtain ⟨fuel1, hf1⟩ := h1
  obtain ⟨A1, c1, l1, he1, hc1, hC1, hm1, hw1⟩ := rd_row (w := W) Kd.string (fun x => x.size ≤ maxLen) Tryd.underlying49 cells9 (fun _ _ _ h => rd_string Tryd.underlying9 h) hf1
  simp only [Value.cells, List.cons.injEq, Value.slice.injEq, and_true] at he1
  obtain ⟨rfl, rfl, rfl⟩ := he1
  clear hA0 hval0 hsz0 hsz
  obtain ⟨k, h⟩ := Pure.FnExactDateBy l0 l1 hm0 (fun y hy => ⟨(hw0 y hy).1, (hw0 y hy).2.1, (hw0 y hy).2.2⟩) hm1 (fun y hy => (hw1 y hy))
  refine (laws_FnExactDateBy.calls k _ _ l0 _ _ l1 true W hC0 hc0 hC1 hc1 h).mono fun e W' hh => ?_
  obtain ⟨he, bel0⟩ := hh
  have bel : Below W.heap.size W W' := bel0
  subst he
  exact ⟨_, rfl, _, _, _, [], _, [], hW', trodAll_mk1 (shut_bool Tryd.underlying4 _), (trodAll_cons_mk (Below.trod laidOut (by kernel_rfl) (of_decide_eq_true (by kernel_rfl)) k0_ bel lt0) (trodAll_cons_mk (Below.trod laidOut (by kernel_rfl) (of_decide_eq_true (by kernel_rfl)) k1_ bel lt1) trodAll_mk0)), rfl, bel.frame _, fun h => by cases h⟩
theorem over : Rows.fnExactDateByRow.holds Tryd.pinned (OpenSpec.ofChange Rows.fnExactDateBySpec) :=
  OpenClaim.holds_of_wide 8 Tryd.f8 rfl rfl rfl rfl rfl rfl rfl ⟨rfl, rfl, rfl, rfl, rfl⟩ rfl rfl rfl rfl rfl (by kernel_rfl) Tryd.func8 (by kernel_rfl)
    (of_decide_eq_true (by kernel_rfl)) (by unfold Func.isWrapper; first | (rw [if_pos (by decide +kernel)]; kernel_rfl) | (rw [if_neg (by decide +kernel)]; exact ⟨rfl, rfl⟩))
    (fun os started H enc _ => lifted os started H enc)
theorem proved : Rows.FnExactDateByCardSaid :=
  Claim7.holds_tied_plain_at .later [] [.data, .pinned] true (true, "18be9983159563319864430eebd87e3d65edd0c9b17e9ddb35e8b248053f0fd5") false over (fun _ h => by cases h) (by kernel_rfl) (fun _ h => by cases h) fnExactDateBy_row_tie rfl ⟨rfl, rfl⟩ (by kernel_rfl) rfl
    (fun f fn hf hfn => by
      obtain rfl : f = 8 := Option.some.inj ((show Tryd.prog.funcNamed "loop.example/g01055/laws.FnExactDateBy" = some 8 by kernel_rfl).symm.trans hf) |>.symm
      obtain rfl : fn = Tryd.f8 := (Option.some.inj (Tryd.func8.symm.trans hfn)).symm
      exact ⟨by kernel_rfl, fun j t ht => by
        rw [Tryd.params8] at ht
        have hm : t ∈ [57, 49] := by simpa using Array.mem_of_getElem? ht
        have hall : ([57, 49].all fun u => !Tryd.prog.wantsStandIn u) = true := by kernel_rfl
        exact (show Tryd.prog.wantsStandIn t = false by simpa using List.all_eq_true.1 hall t hm)⟩)
    (by kernel_rfl)
#print axioms proved
end Go.Proofs.YtombhkdipldkiaaDoor.fnExactDateBy
namespace Go.Proofs.YtombhkdipldkiaaDoor
/-- The row, under a short name, for the claim. -/
theorem fnExactDateBy_holds : Rows.FnExactDateByCardSaid := fnExactDateBy.proved
end Go.Proofs.YtombhkdipldkiaaDoor
