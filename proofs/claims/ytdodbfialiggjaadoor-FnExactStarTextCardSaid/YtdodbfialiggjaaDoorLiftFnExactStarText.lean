/- A part of the row of FnExactStarText: called with any arguments it returns true. -/
import Derived.Test.YtdodbfialiggjaaDoorRows
import Derived.Test.YtdodbfialiggjaaDoorPFnExactStarTextx
import Derived.Test.YtdodbfialiggjaaDoorPureFnExactStarText
import Derived.Test.YtdodbfialiggjaaDoorRd
import Derived.Test.YtdodbfialiggjaaDoorCards
import Derived.Test.YtdodbfialiggjaaDoorTie
import Derived.WalkKit
import Derived.ProofKit
import Derived.OpenShut
import Derived.ShutString
import Derived.ChangeOld
import Derived.Below
import Derived.SizedLaws
import Derived.Lib.SmallJoins
import Derived.LaidMore
import Derived.Lay
import Derived.SevenTiedAt
import Derived.Stop.Joined
namespace Go.Proofs.YtdodbfialiggjaaDoor.fnExactStarText
open Go.ChangeShapes Go.WideShapes Go.ChangeAt Go.RowKit Go.Proofs.YtdodbfialiggjaaDoor.Rd Go.Proofs.YtdodbfialiggjaaDoor.PFnExactStarText Go.Proofs.YtdodbfialiggjaaDoorW.PrintWords
open Go.ChangeMaps (open_string shut_string)
set_option linter.unusedVariables false
theorem own : ownKnob Tryd.prog.godebug = none := by kernel_rfl
theorem laidOut : laidOutB Tryd.prog = true := by kernel_rfl
theorem cells9 : Tryd.prog.cellsOf 9 = 1 := by kernel_rfl
theorem cells2 : Tryd.prog.cellsOf 2 = 1 := by kernel_rfl
theorem cells23 : Tryd.prog.cellsOf 23 = 2 := by kernel_rfl
instance : Inhabited S23 := ⟨z23⟩
theorem rd_T23 {H : Type} {enc : TypeId × Value → H} {w : World} {base : Nat} {spare : Nat → Bool} {held : Bool} {fuel : Nat} {cs : List Value} {x : DataW H × List MemPlace} (h : DataW.trod enc Tryd.prog w base spare held fuel 23 cs = some x) : ∃ x : S23, k23.K w x cs ∧ ((Lit.int .i64 x.f0).wf = true ∧ (Lit.int .i64 x.f1).wf = true) := by
  obtain ⟨hl, n, hf⟩ := piece Tryd.underlying23 h
  rw [cells23] at hl
  obtain ⟨c0, c1, rfl⟩ := list2 hl
  obtain ⟨y0, g0⟩ := hf 0 _ rfl
  have g0' : DataW.trod enc Tryd.prog w base spare held n 2 [c0] = some y0 := by simpa [cells2] using g0
  obtain ⟨b0, hK0, hW0⟩ := rd_int (w := w) Tryd.underlying2 g0'
  obtain ⟨y1, g1⟩ := hf 1 _ rfl
  have g1' : DataW.trod enc Tryd.prog w base spare held n 2 [c1] = some y1 := by simpa [cells2] using g1
  obtain ⟨b1, hK1, hW1⟩ := rd_int (w := w) Tryd.underlying2 g1'
  exact ⟨⟨b0, b1⟩, ⟨[c0], [c1], rfl, hK0, hK1⟩, hW0, hW1⟩
theorem cells25 : Tryd.prog.cellsOf 25 = 4 := by kernel_rfl
instance : Inhabited S25 := ⟨z25⟩
theorem rd_T25 {H : Type} {enc : TypeId × Value → H} {w : World} {base : Nat} {spare : Nat → Bool} {held : Bool} {fuel : Nat} {cs : List Value} {x : DataW H × List MemPlace} (h : DataW.trod enc Tryd.prog w base spare held fuel 25 cs = some x) : ∃ x : S25, k25.K w x cs ∧ (x.f0.size ≤ maxLen ∧ (Lit.int .i64 x.f1).wf = true ∧ ((Lit.int .i64 x.f2.f0).wf = true ∧ (Lit.int .i64 x.f2.f1).wf = true)) := by
  obtain ⟨hl, n, hf⟩ := piece Tryd.underlying25 h
  rw [cells25] at hl
  obtain ⟨c0, c1, c2, c3, rfl⟩ := list4 hl
  obtain ⟨y0, g0⟩ := hf 0 _ rfl
  have g0' : DataW.trod enc Tryd.prog w base spare held n 9 [c0] = some y0 := by simpa [cells9] using g0
  obtain ⟨b0, hK0, hW0⟩ := rd_string (w := w) Tryd.underlying9 g0'
  obtain ⟨y1, g1⟩ := hf 1 _ rfl
  have g1' : DataW.trod enc Tryd.prog w base spare held n 2 [c1] = some y1 := by simpa [cells2] using g1
  obtain ⟨b1, hK1, hW1⟩ := rd_int (w := w) Tryd.underlying2 g1'
  obtain ⟨y2, g2⟩ := hf 2 _ rfl
  have g2' : DataW.trod enc Tryd.prog w base spare held n 23 [c2, c3] = some y2 := by simpa [cells23] using g2
  obtain ⟨b2, hK2, hW2⟩ := rd_T23 (w := w) g2'
  exact ⟨⟨b0, b1, b2⟩, ⟨[c0], [c1, c2, c3], rfl, hK0, ⟨[c1], [c2, c3], rfl, hK1, hK2⟩⟩, hW0, hW1, hW2⟩
set_option maxRecDepth 100000 in
theorem lifted (os : Os) (started : os.Started) (H : Type) (enc : TypeId × Value → H) :
    ReturnsInHanded {} Tryd.checked os 3 .any (fun w args => (Rows.fnExactStarTextSpec.pre enc Tryd.prog Tryd.f3 Rows.fnExactStarTextRow.domain false w args ∧ laidMetH Tryd.prog Rows.fnExactStarTextRow.laid w) ∧ sizedMet enc Tryd.prog Tryd.f3 (OpenSpec.ofChange Rows.fnExactStarTextSpec) false w args)
      (Rows.fnExactStarTextSpec.post enc Tryd.prog Tryd.f3 false true false false) := by
  refine returnsInHanded_of_change_and (C := Tryd.checked) (X := fun w _ => laidMetH Tryd.prog Rows.fnExactStarTextRow.laid w) (fun _ _ _ hh h => h.of_heap hh) own started (by kernel_rfl) Tryd.func3
    (ChangeSpec.witness_shaped (enc := enc) (C := Tryd.checked) (os := os) (X := fun w _ => laidMetH Tryd.prog Rows.fnExactStarTextRow.laid w) false (World.laidAll Tryd.prog os Rows.fnExactStarTextRow.laid) #[.agg #[.string ByteArray.empty, .int .i64 0, .int .i64 0, .int .i64 0]] 8 (World.laidAll_os _ _ _)
      (World.shaped_of_ZipB (by kernel_rfl) (by kernel_rfl)) (by kernel_rfl) (by kernel_rfl) (by kernel_rfl)
      (by rw [MakeChecks.laidMetH_plain _ _ _ (by kernel_rfl)]; exact laidMet_laidAll _ (by kernel_rfl) (by kernel_rfl))) ?_
  intro W base args ds gs before hval0 hW hcnd hsz0 hL _
  have hsz : (DataW.weightsEach Tryd.prog (Tryd.f3.params.toList ++ Rows.fnExactStarTextSpec.plain.varTypes Tryd.prog) (ds ++ gs)).all (· ≤ reachBytes) = true := hsz0
  have hval : ∀ (j : Nat) t v, Tryd.f3.params[j]? = some t → args[j]? = some v → Value.okWide Tryd.prog W .any base t v := hval0
  have hW' := hW
  obtain ⟨p, q, hA0, hV, rfl, hfz, hnd⟩ := hW
  have hA : DataW.TrodAll enc Tryd.prog W 0 (fun _ => true) true Tryd.f3.params.toList args.toList ds p := hA0
  rw [Tryd.params3] at hA hval hsz
  obtain ⟨v0, vs0, d0, ds0, p0, q0, hargs, rfl, rfl, h0, r0⟩ := trodAll_cons hA
  obtain ⟨rfl, rfl, rfl⟩ := trodAll_nil r0
  obtain rfl : args = #[v0] := by cases args; simp_all
  obtain ⟨rfl, rfl⟩ := trodVars_none hV
  have k0_ := h0
  have lt0 : ∀ x ∈ p0, x.block < W.heap.size := by obtain ⟨m, hm⟩ := k0_; exact DataW.trod_lt m _ _ _ hm
  obtain ⟨cs0, rfl, hz0⟩ := okWide_struct Tryd.underlying25 (hval 0 25 v0 rfl rfl)
  obtain ⟨fuel0, hf0⟩ := h0
  obtain ⟨x0, hK0, hw0⟩ := rd_T25 (w := W) hf0
  have he0 := k25_open hK0
  obtain rfl : cs0 = #[.string x0.f0, .int .i64 x0.f1, .int .i64 x0.f2.f0, .int .i64 x0.f2.f1] := by cases cs0; simpa [Value.cells] using he0
  clear hA0 hval0 hsz0 hsz
  obtain ⟨k, h⟩ := Pure.FnExactStarText x0.f0 x0.f1 x0.f2.f0 x0.f2.f1 hw0.1 hw0.2.1 hw0.2.2.1 hw0.2.2.2
  have hL1 := hL.filter (fun x => x.1 == "internal/strconv.uint64pow10")
  have hL2 : laidMetH Tryd.prog [("internal/strconv.uint64pow10", Go.Lib.tabData .u64 Go.Lib.pow10Tab)] W := by
    rw [show [("internal/strconv.uint64pow10", (Go.Lib.tabData .u64 Go.Lib.pow10Tab : DataW Unit))] = Rows.fnExactStarTextRow.laid.filter (fun x => x.1 == "internal/strconv.uint64pow10") by kernel_rfl]
    exact hL1
  rw [MakeChecks.laidMetH_plain _ _ _ (by kernel_rfl)] at hL2
  have hT : TabW W := by
    exact Go.Lib.tabIs_of_head (P := Tryd.prog) (g := Tryd.prog.globalNamed "internal/strconv.uint64pow10" |>.getD 0) (t := 171) (e := 145) (n := 20) (by kernel_rfl) (by kernel_rfl) (by kernel_rfl) (by kernel_rfl) (by kernel_rfl) (by kernel_rfl) hL2
  refine (laws_FnExactStarText.calls k x0.f0 x0.f1 x0.f2.f0 x0.f2.f1 true W  h hT).mono fun e W' hh => ?_
  obtain ⟨he, bel0⟩ := hh
  have bel : Below W.heap.size W W' := bel0
  subst he
  exact ⟨_, rfl, _, _, _, [], _, [], hW', trodAll_mk1 (shut_bool Tryd.underlying4 _), (trodAll_cons_mk (Below.trod laidOut (by kernel_rfl) (of_decide_eq_true (by kernel_rfl)) k0_ bel lt0) trodAll_mk0), rfl, bel.frame _, fun h => by cases h⟩
end Go.Proofs.YtdodbfialiggjaaDoor.fnExactStarText
