/- The law FnExactMatchSheets: called with any arguments it returns true, and each argument reads as before. Conditions: none. -/
import Derived.Test.YtoehbcdhplagfaaRows
import Derived.Test.YtoehbcdhplagfaaPFnExactMatchSheetsx
import Derived.Test.YtoehbcdhplagfaaPureFnExactMatchSheets
import Derived.Test.YtoehbcdhplagfaaRd
import Derived.WalkKit
import Derived.ProofKit
import Derived.OpenShut
import Derived.ShutString
import Derived.ChangeOld
import Derived.Below
import Derived.SizedLaws
import Derived.Lib.SmallJoins
namespace Go.Proofs.Ytoehbcdhplagfaa.fnExactMatchSheets
open Go.ChangeShapes Go.WideShapes Go.ChangeAt Go.RowKit Go.Proofs.Ytoehbcdhplagfaa.Rd Go.Proofs.Ytoehbcdhplagfaa.PFnExactMatchSheets Go.Proofs.YtoehbcdhplagfaaW.PrintWords
open Go.ChangeMaps (open_string shut_string)
set_option linter.unusedVariables false
theorem own : ownKnob Try.prog.godebug = none := by kernel_rfl
theorem laidOut : laidOutB Try.prog = true := by kernel_rfl
theorem cells2 : Try.prog.cellsOf 2 = 1 := by kernel_rfl
theorem cells23 : Try.prog.cellsOf 23 = 4 := by kernel_rfl
instance : Inhabited S23 := ⟨z23⟩
theorem rd_T23 {H : Type} {enc : TypeId × Value → H} {w : World} {base : Nat} {spare : Nat → Bool} {held : Bool} {fuel : Nat} {cs : List Value} {x : DataW H × List MemPlace} (h : DataW.trod enc Try.prog w base spare held fuel 23 cs = some x) : ∃ x : S23, k23.K w x cs ∧ ((Lit.int .i64 x.f0).wf = true ∧ (Lit.int .i64 x.f1).wf = true ∧ (Lit.int .i64 x.f2).wf = true ∧ (Lit.int .i64 x.f3).wf = true) := by
  obtain ⟨hl, n, hf⟩ := piece Try.underlying23 h
  rw [cells23] at hl
  obtain ⟨c0, c1, c2, c3, rfl⟩ := list4 hl
  obtain ⟨y0, g0⟩ := hf 0 _ rfl
  have g0' : DataW.trod enc Try.prog w base spare held n 2 [c0] = some y0 := by simpa [cells2] using g0
  obtain ⟨b0, hK0, hW0⟩ := rd_int (w := w) Try.underlying2 g0'
  obtain ⟨y1, g1⟩ := hf 1 _ rfl
  have g1' : DataW.trod enc Try.prog w base spare held n 2 [c1] = some y1 := by simpa [cells2] using g1
  obtain ⟨b1, hK1, hW1⟩ := rd_int (w := w) Try.underlying2 g1'
  obtain ⟨y2, g2⟩ := hf 2 _ rfl
  have g2' : DataW.trod enc Try.prog w base spare held n 2 [c2] = some y2 := by simpa [cells2] using g2
  obtain ⟨b2, hK2, hW2⟩ := rd_int (w := w) Try.underlying2 g2'
  obtain ⟨y3, g3⟩ := hf 3 _ rfl
  have g3' : DataW.trod enc Try.prog w base spare held n 2 [c3] = some y3 := by simpa [cells2] using g3
  obtain ⟨b3, hK3, hW3⟩ := rd_int (w := w) Try.underlying2 g3'
  exact ⟨⟨b0, b1, b2, b3⟩, ⟨[c0], [c1, c2, c3], rfl, hK0, ⟨[c1], [c2, c3], rfl, hK1, ⟨[c2], [c3], rfl, hK2, hK3⟩⟩⟩, hW0, hW1, hW2, hW3⟩
set_option maxRecDepth 100000 in
theorem lifted (os : Os) (started : os.Started) (H : Type) (enc : TypeId × Value → H) :
    ReturnsInHanded {} Try.checked os 9 .any (Rows.fnExactMatchSheetsSpec.pre6 enc Try.prog Try.f9 Rows.fnExactMatchSheetsRow.domain false) (Rows.fnExactMatchSheetsSpec.post enc Try.prog Try.f9 false true false false) := by
  refine returnsInHanded_of_change_sized (C := Try.checked) own started (by kernel_rfl) Try.func9
    (ChangeSpec.witness6 (enc := enc) (C := Try.checked) false ⟨#[], #[.slice none 0 0], []⟩ 8 (by kernel_rfl) (by kernel_rfl) (by kernel_rfl) (by kernel_rfl)) ?_
  intro W base args ds gs before hval0 hW hcnd hsz0 _
  have hsz : (DataW.weightsEach Try.prog (Try.f9.params.toList ++ Rows.fnExactMatchSheetsSpec.plain.varTypes Try.prog) (ds ++ gs)).all (· ≤ reachBytes) = true := hsz0
  have hval : ∀ (j : Nat) t v, Try.f9.params[j]? = some t → args[j]? = some v → Value.okWide Try.prog W .any base t v := hval0
  have hW' := hW
  obtain ⟨p, q, hA0, hV, rfl, hfz, hnd⟩ := hW
  have hA : DataW.TrodAll enc Try.prog W 0 (fun _ => true) true Try.f9.params.toList args.toList ds p := hA0
  rw [Try.params9] at hA hval hsz
  obtain ⟨v0, vs0, d0, ds0, p0, q0, hargs, rfl, rfl, h0, r0⟩ := trodAll_cons hA
  obtain ⟨rfl, rfl, rfl⟩ := trodAll_nil r0
  obtain rfl : args = #[v0] := by cases args; simp_all
  obtain ⟨rfl, rfl⟩ := trodVars_none hV
  have k0_ := h0
  have lt0 : ∀ x ∈ p0, x.block < W.heap.size := by obtain ⟨m, hm⟩ := k0_; exact DataW.trod_lt m _ _ _ hm
  obtain ⟨o0, len0, cap0, rfl⟩ := okWide_slice Try.underlying48 (hval 0 48 v0 rfl rfl)
  obtain ⟨fuel0, hf0⟩ := h0
  obtain ⟨A0, c0, l0, he0, hc0, hC0, hm0, hw0⟩ := rd_row (w := W) k23 (fun x => ((Lit.int .i64 x.f0).wf = true ∧ (Lit.int .i64 x.f1).wf = true ∧ (Lit.int .i64 x.f2).wf = true ∧ (Lit.int .i64 x.f3).wf = true)) Try.underlying48 cells23 (fun _ _ _ h => rd_T23 h) hf0
  simp only [Value.cells, List.cons.injEq, Value.slice.injEq, and_true] at he0
  obtain ⟨rfl, rfl, rfl⟩ := he0
  clear hA0 hval0 hsz0 hsz
  obtain ⟨k, h⟩ := Pure.FnExactMatchSheets l0 hm0 (fun y hy => ⟨(hw0 y hy).1, (hw0 y hy).2.1, (hw0 y hy).2.2.1, (hw0 y hy).2.2.2⟩)
  refine (laws_FnExactMatchSheets.calls k _ _ l0 true W hC0 hc0 h).mono fun e W' hh => ?_
  obtain ⟨he, bel0⟩ := hh
  have bel : Below W.heap.size W W' := bel0
  subst he
  exact ⟨_, rfl, _, _, _, [], _, [], hW', trodAll_mk1 (shut_bool Try.underlying4 _), (trodAll_cons_mk (Below.trod laidOut (by kernel_rfl) (of_decide_eq_true (by kernel_rfl)) k0_ bel lt0) trodAll_mk0), rfl, bel.frame _, fun h => by cases h⟩
theorem over : Rows.fnExactMatchSheetsRow.holds Try.pinned (OpenSpec.ofChange Rows.fnExactMatchSheetsSpec) :=
  OpenClaim.holds_of_wide 9 Try.f9 rfl rfl rfl rfl rfl rfl rfl ⟨rfl, rfl, rfl, rfl, rfl⟩ rfl rfl rfl rfl rfl (by kernel_rfl) Try.func9 (by kernel_rfl)
    (of_decide_eq_true (by kernel_rfl)) (by unfold Func.isWrapper; first | (rw [if_pos (by decide +kernel)]; kernel_rfl) | (rw [if_neg (by decide +kernel)]; exact ⟨rfl, rfl⟩))
    (fun os started H enc _ => lifted os started H enc)
theorem proved : Rows.FnExactMatchSheetsSaid := over
#print axioms proved
end Go.Proofs.Ytoehbcdhplagfaa.fnExactMatchSheets
namespace Go.Proofs.Ytoehbcdhplagfaa
/-- The row, under a short name, for the claim. -/
theorem fnExactMatchSheets_holds : Rows.FnExactMatchSheetsSaid := fnExactMatchSheets.proved
end Go.Proofs.Ytoehbcdhplagfaa
