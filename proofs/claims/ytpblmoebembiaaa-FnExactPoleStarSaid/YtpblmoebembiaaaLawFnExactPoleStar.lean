/- The law FnExactPoleStar: called with any arguments it returns true, and each argument reads as before. Conditions: none. -/
import Derived.Test.YtpblmoebembiaaaRows
import Derived.Test.YtpblmoebembiaaaPFnExactPoleStarx
import Derived.Test.YtpblmoebembiaaaPureFnExactPoleStar
import Derived.Test.YtpblmoebembiaaaRd
import Derived.WalkKit
import Derived.ProofKit
import Derived.OpenShut
import Derived.ShutString
import Derived.ChangeOld
import Derived.Below
import Derived.SizedLaws
import Derived.Lib.SmallJoins
namespace Go.Proofs.Ytpblmoebembiaaa.fnExactPoleStar
open Go.ChangeShapes Go.WideShapes Go.ChangeAt Go.RowKit Go.Proofs.Ytpblmoebembiaaa.Rd Go.Proofs.Ytpblmoebembiaaa.PFnExactPoleStar Go.Proofs.YtpblmoebembiaaaW.PrintWords
open Go.ChangeMaps (open_string shut_string)
set_option linter.unusedVariables false
theorem own : ownKnob Try.prog.godebug = none := by kernel_rfl
theorem laidOut : laidOutB Try.prog = true := by kernel_rfl
theorem cells2 : Try.prog.cellsOf 2 = 1 := by kernel_rfl
theorem cells35 : Try.prog.cellsOf 35 = 2 := by kernel_rfl
instance : Inhabited S35 := ⟨z35⟩
theorem rd_T35 {H : Type} {enc : TypeId × Value → H} {w : World} {base : Nat} {spare : Nat → Bool} {held : Bool} {fuel : Nat} {cs : List Value} {x : DataW H × List MemPlace} (h : DataW.trod enc Try.prog w base spare held fuel 35 cs = some x) : ∃ x : S35, k35.K w x cs ∧ ((Lit.int .i64 x.f0).wf = true ∧ (Lit.int .i64 x.f1).wf = true) := by
  obtain ⟨hl, n, hf⟩ := piece Try.underlying35 h
  rw [cells35] at hl
  obtain ⟨c0, c1, rfl⟩ := list2 hl
  obtain ⟨y0, g0⟩ := hf 0 _ rfl
  have g0' : DataW.trod enc Try.prog w base spare held n 2 [c0] = some y0 := by simpa [cells2] using g0
  obtain ⟨b0, hK0, hW0⟩ := rd_int (w := w) Try.underlying2 g0'
  obtain ⟨y1, g1⟩ := hf 1 _ rfl
  have g1' : DataW.trod enc Try.prog w base spare held n 2 [c1] = some y1 := by simpa [cells2] using g1
  obtain ⟨b1, hK1, hW1⟩ := rd_int (w := w) Try.underlying2 g1'
  exact ⟨⟨b0, b1⟩, ⟨[c0], [c1], rfl, hK0, hK1⟩, hW0, hW1⟩
set_option maxRecDepth 100000 in
theorem lifted (os : Os) (started : os.Started) (H : Type) (enc : TypeId × Value → H) :
    ReturnsInHanded {} Try.checked os 3 .any (Rows.fnExactPoleStarSpec.pre6 enc Try.prog Try.f3 Rows.fnExactPoleStarRow.domain false) (Rows.fnExactPoleStarSpec.post enc Try.prog Try.f3 false true false false) := by
  refine returnsInHanded_of_change_sized (C := Try.checked) own started (by kernel_rfl) Try.func3
    (ChangeSpec.witness6 (enc := enc) (C := Try.checked) false ⟨#[], #[.slice none 0 0, .int .i64 0, .int .i64 0], []⟩ 8 (by kernel_rfl) (by kernel_rfl) (by kernel_rfl) (by kernel_rfl)) ?_
  intro W base args ds gs before hval0 hW hcnd hsz0 _
  have hsz : (DataW.weightsEach Try.prog (Try.f3.params.toList ++ Rows.fnExactPoleStarSpec.plain.varTypes Try.prog) (ds ++ gs)).all (· ≤ reachBytes) = true := hsz0
  have hval : ∀ (j : Nat) t v, Try.f3.params[j]? = some t → args[j]? = some v → Value.okWide Try.prog W .any base t v := hval0
  have hW' := hW
  obtain ⟨p, q, hA0, hV, rfl, hfz, hnd⟩ := hW
  have hA : DataW.TrodAll enc Try.prog W 0 (fun _ => true) true Try.f3.params.toList args.toList ds p := hA0
  rw [Try.params3] at hA hval hsz
  obtain ⟨v0, vs0, d0, ds0, p0, q0, hargs, rfl, rfl, h0, r0⟩ := trodAll_cons hA
  obtain ⟨v1, vs1, d1, ds1, p1, q1, rfl, rfl, rfl, h1, r1⟩ := trodAll_cons r0
  obtain ⟨v2, vs2, d2, ds2, p2, q2, rfl, rfl, rfl, h2, r2⟩ := trodAll_cons r1
  obtain ⟨rfl, rfl, rfl⟩ := trodAll_nil r2
  obtain rfl : args = #[v0, v1, v2] := by cases args; simp_all
  obtain ⟨rfl, rfl⟩ := trodVars_none hV
  have k0_ := h0
  have lt0 : ∀ x ∈ p0, x.block < W.heap.size := by obtain ⟨m, hm⟩ := k0_; exact DataW.trod_lt m _ _ _ hm
  obtain ⟨o0, len0, cap0, rfl⟩ := okWide_slice Try.underlying22 (hval 0 22 v0 rfl rfl)
  obtain ⟨fuel0, hf0⟩ := h0
  obtain ⟨A0, c0, l0, he0, hc0, hC0, hm0, hw0⟩ := rd_row (w := W) k35 (fun x => ((Lit.int .i64 x.f0).wf = true ∧ (Lit.int .i64 x.f1).wf = true)) Try.underlying22 cells35 (fun _ _ _ h => rd_T35 h) hf0
  simp only [Value.cells, List.cons.injEq, Value.slice.injEq, and_true] at he0
  obtain ⟨rfl, rfl, rfl⟩ := he0
  obtain ⟨a1, rfl, rfl, rfl, w1⟩ := open_int Try.underlying2 (hval 1 2 v1 rfl rfl) h1
  obtain ⟨a2, rfl, rfl, rfl, w2⟩ := open_int Try.underlying2 (hval 2 2 v2 rfl rfl) h2
  clear hA0 hval0 hsz0 hsz
  obtain ⟨k, h⟩ := Pure.FnExactPoleStar l0 a1 a2 hm0 (fun y hy => ⟨(hw0 y hy).1, (hw0 y hy).2⟩) w1 w2
  refine (laws_FnExactPoleStar.calls k _ _ l0 a1 a2 true W hC0 hc0 h).mono fun e W' hh => ?_
  obtain ⟨he, bel0⟩ := hh
  have bel : Below W.heap.size W W' := bel0
  subst he
  exact ⟨_, rfl, _, _, _, [], _, [], hW', trodAll_mk1 (shut_bool Try.underlying4 _), (trodAll_cons_mk (Below.trod laidOut (by kernel_rfl) (of_decide_eq_true (by kernel_rfl)) k0_ bel lt0) (trodAll_cons_mk (shut_int Try.underlying2 w1) (trodAll_cons_mk (shut_int Try.underlying2 w2) trodAll_mk0))), rfl, bel.frame _, fun h => by cases h⟩
theorem over : Rows.fnExactPoleStarRow.holds Try.pinned (OpenSpec.ofChange Rows.fnExactPoleStarSpec) :=
  OpenClaim.holds_of_wide 3 Try.f3 rfl rfl rfl rfl rfl rfl rfl ⟨rfl, rfl, rfl, rfl, rfl⟩ rfl rfl rfl rfl rfl (by kernel_rfl) Try.func3 (by kernel_rfl)
    (of_decide_eq_true (by kernel_rfl)) (by unfold Func.isWrapper; first | (rw [if_pos (by decide +kernel)]; kernel_rfl) | (rw [if_neg (by decide +kernel)]; exact ⟨rfl, rfl⟩))
    (fun os started H enc _ => lifted os started H enc)
theorem proved : Rows.FnExactPoleStarSaid := over
#print axioms proved
end Go.Proofs.Ytpblmoebembiaaa.fnExactPoleStar
namespace Go.Proofs.Ytpblmoebembiaaa
/-- The row, under a short name, for the claim. -/
theorem fnExactPoleStar_holds : Rows.FnExactPoleStarSaid := fnExactPoleStar.proved
end Go.Proofs.Ytpblmoebembiaaa
