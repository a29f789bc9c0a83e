/- The law FnExactCutsFrom: called with any arguments it returns true, and each argument reads as before. Conditions: none. -/
import Derived.Test.YtoehbcdhplagfaaRows
import Derived.Test.YtoehbcdhplagfaaPFnExactCutsFromx
import Derived.Test.YtoehbcdhplagfaaPureFnExactCutsFrom
import Derived.Test.YtoehbcdhplagfaaRd
import Derived.WalkKit
import Derived.ProofKit
import Derived.OpenShut
import Derived.ShutString
import Derived.ChangeOld
import Derived.Below
import Derived.SizedLaws
import Derived.Lib.SmallJoins
namespace Go.Proofs.Ytoehbcdhplagfaa.fnExactCutsFrom
open Go.ChangeShapes Go.WideShapes Go.ChangeAt Go.RowKit Go.Proofs.Ytoehbcdhplagfaa.Rd Go.Proofs.Ytoehbcdhplagfaa.PFnExactCutsFrom Go.Proofs.YtoehbcdhplagfaaW.PrintWords
open Go.ChangeMaps (open_string shut_string)
set_option linter.unusedVariables false
theorem own : ownKnob Try.prog.godebug = none := by kernel_rfl
theorem laidOut : laidOutB Try.prog = true := by kernel_rfl
theorem cells2 : Try.prog.cellsOf 2 = 1 := by kernel_rfl
theorem cells23 : Try.prog.cellsOf 23 = 4 := by kernel_rfl
instance : Inhabited S23 := ⟨z23⟩
theorem rd_T23 {H : Type} {enc : TypeId × Value → H} {w : World} {base : Nat} {spare : Nat → Bool} {held : Bool} {fuel : Nat} {cs : List Value} {x : DataW H × List MemPlace} (h : DataW.trod enc Try.prog w base spare held fuel 23 cs = some x) : ∃ x : S23, k23.K w x cs ∧ ((Lit.int .i64 x.f0).wf = true ∧ (Lit.int .i64 x.f1).wf = true ∧ (Lit.int .i64 x.f2).wf = true ∧ (Lit.int .i64 x.f3).wf = true) := by
  obtain ⟨hl, n, hf⟩ := piece Try.underlying23 h
  rw [cells23] at hl
  obtain ⟨c0, c1, c2, c3, rfl⟩ := list4 hl
  obtain ⟨y0, g0⟩ := hf 0 _ rfl
  have g0' : DataW.trod enc Try.prog w base spare held n 2 [c0] = some y0 := by simpa [cells2] using g0
  obtain ⟨b0, hK0, hW0⟩ := rd_int (w := w) Try.underlying2 g0'
  obtain ⟨y1, g1⟩ := hf 1 _ rfl
  have g1' : DataW.trod enc Try.prog w base spare held n 2 [c1] = some y1 := by simpa [cells2] using g1
  obtain ⟨b1, hK1, hW1⟩ := rd_int (w := w) Try.underlying2 g1'
  obtain ⟨y2, g2⟩ := hf 2 _ rfl
  have g2' : DataW.trod enc Try.prog w base spare held n 2 [c2] = some y2 := by simpa [cells2] using g2
  obtain ⟨b2, hK2, hW2⟩ := rd_int (w := w) Try.underlying2 g2'
  obtain ⟨y3, g3⟩ := hf 3 _ rfl
  have g3' : DataW.trod enc Try.prog w base spare held n 2 [c3] = some y3 := by simpa [cells2] using g3
  obtain ⟨b3, hK3, hW3⟩ := rd_int (w := w) Try.underlying2 g3'
  exact ⟨⟨b0, b1, b2, b3⟩, ⟨[c0], [c1, c2, c3], rfl, hK0, ⟨[c1], [c2, c3], rfl, hK1, ⟨[c2], [c3], rfl, hK2, hK3⟩⟩⟩, hW0, hW1, hW2, hW3⟩
set_option maxRecDepth 100000 in
theorem lifted (os : Os) (started : os.Started) (H : Type) (enc : TypeId × Value → H) :
    ReturnsInHanded {} Try.checked os 7 .any (Rows.fnExactCutsFromSpec.pre6 enc Try.prog Try.f7 Rows.fnExactCutsFromRow.domain false) (Rows.fnExactCutsFromSpec.post enc Try.prog Try.f7 false true false false) := by
  refine returnsInHanded_of_change_sized (C := Try.checked) own started (by kernel_rfl) Try.func7
    (ChangeSpec.witness6 (enc := enc) (C := Try.checked) false ⟨#[], #[.agg #[.int .i64 0, .int .i64 0, .int .i64 0, .int .i64 0], .int .i64 0, .int .i64 0], []⟩ 8 (by kernel_rfl) (by kernel_rfl) (by kernel_rfl) (by kernel_rfl)) ?_
  intro W base args ds gs before hval0 hW hcnd hsz0 _
  have hsz : (DataW.weightsEach Try.prog (Try.f7.params.toList ++ Rows.fnExactCutsFromSpec.plain.varTypes Try.prog) (ds ++ gs)).all (· ≤ reachBytes) = true := hsz0
  have hval : ∀ (j : Nat) t v, Try.f7.params[j]? = some t → args[j]? = some v → Value.okWide Try.prog W .any base t v := hval0
  have hW' := hW
  obtain ⟨p, q, hA0, hV, rfl, hfz, hnd⟩ := hW
  have hA : DataW.TrodAll enc Try.prog W 0 (fun _ => true) true Try.f7.params.toList args.toList ds p := hA0
  rw [Try.params7] at hA hval hsz
  obtain ⟨v0, vs0, d0, ds0, p0, q0, hargs, rfl, rfl, h0, r0⟩ := trodAll_cons hA
  obtain ⟨v1, vs1, d1, ds1, p1, q1, rfl, rfl, rfl, h1, r1⟩ := trodAll_cons r0
  obtain ⟨v2, vs2, d2, ds2, p2, q2, rfl, rfl, rfl, h2, r2⟩ := trodAll_cons r1
  obtain ⟨rfl, rfl, rfl⟩ := trodAll_nil r2
  obtain rfl : args = #[v0, v1, v2] := by cases args; simp_all
  obtain ⟨rfl, rfl⟩ := trodVars_none hV
  have k0_ := h0
  have lt0 : ∀ x ∈ p0, x.block < W.heap.size := by obtain ⟨m, hm⟩ := k0_; exact DataW.trod_lt m _ _ _ hm
  obtain ⟨cs0, rfl, hz0⟩ := okWide_struct Try.underlying23 (hval 0 23 v0 rfl rfl)
  obtain ⟨fuel0, hf0⟩ := h0
  obtain ⟨x0, hK0, hw0⟩ := rd_T23 (w := W) hf0
  have he0 := k23_open hK0
  obtain rfl : cs0 = #[.int .i64 x0.f0, .int .i64 x0.f1, .int .i64 x0.f2, .int .i64 x0.f3] := by cases cs0; simpa [Value.cells] using he0
  obtain ⟨a1, rfl, rfl, rfl, w1⟩ := open_int Try.underlying2 (hval 1 2 v1 rfl rfl) h1
  obtain ⟨a2, rfl, rfl, rfl, w2⟩ := open_int Try.underlying2 (hval 2 2 v2 rfl rfl) h2
  clear hA0 hval0 hsz0 hsz
  have h := Pure.FnExactCutsFrom x0.f0 x0.f1 x0.f2 x0.f3 a1 a2 hw0.1 hw0.2.1 hw0.2.2.1 hw0.2.2.2 w1 w2
  refine (laws_FnExactCutsFrom.calls x0.f0 x0.f1 x0.f2 x0.f3 a1 a2 true W  h).mono fun e W' hh => ?_
  obtain ⟨he, bel0⟩ := hh
  have bel : Below W.heap.size W W' := bel0
  subst he
  exact ⟨_, rfl, _, _, _, [], _, [], hW', trodAll_mk1 (shut_bool Try.underlying4 _), (trodAll_cons_mk (Below.trod laidOut (by kernel_rfl) (of_decide_eq_true (by kernel_rfl)) k0_ bel lt0) (trodAll_cons_mk (shut_int Try.underlying2 w1) (trodAll_cons_mk (shut_int Try.underlying2 w2) trodAll_mk0))), rfl, bel.frame _, fun h => by cases h⟩
theorem over : Rows.fnExactCutsFromRow.holds Try.pinned (OpenSpec.ofChange Rows.fnExactCutsFromSpec) :=
  OpenClaim.holds_of_wide 7 Try.f7 rfl rfl rfl rfl rfl rfl rfl ⟨rfl, rfl, rfl, rfl, rfl⟩ rfl rfl rfl rfl rfl (by kernel_rfl) Try.func7 (by kernel_rfl)
    (of_decide_eq_true (by kernel_rfl)) (by unfold Func.isWrapper; first | (rw [if_pos (by decide +kernel)]; kernel_rfl) | (rw [if_neg (by decide +kernel)]; exact ⟨rfl, rfl⟩))
    (fun os started H enc _ => lifted os started H enc)
theorem proved : Rows.FnExactCutsFromSaid := over
#print axioms proved
end Go.Proofs.Ytoehbcdhplagfaa.fnExactCutsFrom
namespace Go.Proofs.Ytoehbcdhplagfaa
/-- The row, under a short name, for the claim. -/
theorem fnExactCutsFrom_holds : Rows.FnExactCutsFromSaid := fnExactCutsFrom.proved
end Go.Proofs.Ytoehbcdhplagfaa
