-- Made by a program of this session (gprint.py) out of the kit's print of the translation and texts of my own. SLIM
import Derived.Test.YtlkgajfhgcongaaGreatDoorPFnEditsx0
import Derived.Test.YtlkgajfhgcongaaGreatDoorPFnEditsx4
namespace Go.Proofs.YtlkgajfhgcongaaGreatDoor.PFnEdits
open Go.RowKit Go.Proofs.YtlkgajfhgcongaaGreatDoorW.PrintWords Go.Proofs.YtlkgajfhgcongaaGreatDoorW.PrintLast Go.Proofs.YtlkgajfhgcongaaGreatDoorW.PrintMore
set_option maxHeartbeats 64000000
set_option maxRecDepth 100000
attribute [local go_sem] max2_int min2_int max_two min_two max_three min_three max_four min_four   -- for this text's walks alone
set_option linter.unusedVariables false
set_option linter.unusedSimpArgs false

/-! ### impl_ShortEdits: function 11 -/
-- given by hand
/-! ### Rows of edits, cell by cell -/
def eC (x : S36) : List Value := [.int .i64 x.f0, .string x.f1, .string x.f2]
def flE (xs : List S36) : List Value := xs.flatMap eC
theorem flE_length : ∀ xs : List S36, (flE xs).length = xs.length * 3
 | [] => rfl
 | x :: xs => by
  show (eC x ++ flE xs).length = (xs.length + 1) * 3
  rw [List.length_append, flE_length xs]
  show 3 + xs.length * 3 = _
  omega
theorem flE_append (xs ys : List S36) : flE (xs ++ ys) = flE xs ++ flE ys := List.flatMap_append
theorem flE_one (x : S36) (xs : List S36) : flE (x :: xs) = eC x ++ flE xs := rfl
theorem flE_take (xs : List S36) (i : Nat) (h : i ≤ xs.length) : (flE xs).take (i * 3) = flE (xs.take i) := by
 (have e : flE xs = flE (xs.take i) ++ flE (xs.drop i) := by rw [← flE_append, List.take_append_drop]);(have hl : (flE (xs.take i)).length = i * 3 := by rw [flE_length, List.length_take, Nat.min_eq_left h]);(rw [e, List.take_append_of_le_length (by omega), List.take_of_length_le (by omega)])
theorem flE_drop (xs : List S36) (i : Nat) (h : i ≤ xs.length) : (flE xs).drop (i * 3) = flE (xs.drop i) := by
 (have e : flE xs = flE (xs.take i) ++ flE (xs.drop i) := by rw [← flE_append, List.take_append_drop]);(have hl : (flE (xs.take i)).length = i * 3 := by rw [flE_length, List.length_take, Nat.min_eq_left h]);(rw [e, List.drop_append_of_le_length (by omega), List.drop_of_length_le (by omega), List.nil_append])
theorem flE_oneCell (xs : List S36) : ∀ v ∈ flE xs, v.oneCell' = true := by
 intro v hv;(obtain ⟨x, _, hx⟩ := List.mem_flatMap.1 hv);(simp only [eC, List.mem_cons, List.not_mem_nil, or_false] at hx)
 rcases hx with rfl | rfl | rfl <;> rfl
theorem reps_flE (w : World) (base : Nat) (ok : Nat → Prop) : ∀ (xs : List S36), Reps (k36.M w base ok) 3 xs (flE xs) := by
 intro xs;(refine ⟨flE_length xs, fun j p hj => ?_⟩);(have hlt := (List.getElem?_eq_some_iff.1 hj).1);(have hp := (List.getElem?_eq_some_iff.1 hj).2);(rw [flE_drop xs j (by omega), List.drop_eq_getElem_cons hlt, hp, flE_one]);(exact k36_mkM w base ok p)
theorem reps_eqE {w : World} {base : Nat} {ok : Nat → Prop} : ∀ {xs : List S36} {inner : List Value}, Reps (k36.M w base ok) 3 xs inner → inner = flE xs
 | [], inner, h => by
  (have := h.1);(rw [List.length_nil, Nat.zero_mul] at this);(exact List.length_eq_zero_iff.1 this)
 | x :: xs, inner, h => by
  (have h1 := h.1);(rw [List.length_cons] at h1);(have h2 := k36_openM (h.2 0 x rfl));(rw [Nat.zero_mul, List.drop_zero] at h2)
  have h3 : Reps (k36.M w base ok) 3 xs (inner.drop 3) := by
   (refine ⟨by rw [List.length_drop]; omega, fun j p hj => ?_⟩);(have := h.2 (j + 1) p (by simpa using hj));(rw [List.drop_drop, show 3 + j * 3 = (j + 1) * 3 by omega]);(exact this)
  (rw [← List.take_append_drop 3 inner, h2, reps_eqE h3]);rfl
theorem ownE {w : World} {base : Nat} {ok : Nat → Prop} {v : Value} {xs : List S36} (h : Kd.R k36 36 w base ok v xs) : w.ownsRow base 36 3 v xs.length (flE xs) := by
 (obtain ⟨_, inner, ho, hr⟩ := h);(have e := reps_eqE hr);subst e;(exact ho)
theorem mkE {w : World} {base : Nat} {v : Value} {xs : List S36} (h : w.ownsRow base 36 3 v xs.length (flE xs)) : Kd.R k36 36 w base (fun _ => True) v xs :=
 ⟨fun _ _ => trivial, flE xs, h, reps_flE _ _ _ xs⟩
/-- The builtin copy at elements of several cells. -/
theorem run_copyE {P : Program} (w : World) (dT sT ty elem : TypeId) (b o dLen dCap : Nat) (a : Addr) (sLen sCap : Nat) (cs : List Value)
  (hu : P.underlying dT = some (.slice elem)) (hs : (P.info? elem).map (·.size) = some 3) (hn : cs.length = Nat.min sLen dLen * 3)
  (hsrc : ∀ j v, cs[j]? = some v → w.cell? (a.add j) = some v) (hc : ∀ j, j < cs.length → (w.cell? ⟨b, o + j, none⟩).isSome = true) (hf : ∀ j, j < cs.length → w.frozen? ⟨b, o + j, none⟩ = false) (h1 : ∀ v ∈ cs, v.oneCell' = true) :
  (Builtin.copy_ #[dT, sT] ty #[.slice (some ⟨b, o, none⟩) dLen dCap, .slice (some a) sLen sCap]).run P w = .ok (goInt (Nat.min sLen dLen)) (w.setCells b o cs) := by
 (have hl := run_loadCells_list (P := P) w a cs hsrc);(have hst := run_storeCells_cells (P := P) b o cs 0 w (by simpa using hc) (by simpa using hf) h1)
 cases hq : P.info? elem with
 | none => simp [hq] at hs
 | some i =>
  (have hi : i.size = 3 := by simpa [hq] using hs);(simp [Builtin.copy_, run_underlying hu, Builtin.lenOf, Builtin.firstCells, sizeOf, typeInfo, hq, hi, ← hn, hl, hst])
theorem infoE : (Tryz.prog.info? 36).map (·.size) = some 3 := by kernel_rfl
/-- There is room behind the row and the place is not its end: in place. -/
theorem insE_shift (g n c i vb : Nat) (xs : List S36) (x : S36) (w : World) (cur : Array Value) (hh : w.heap[g]? = some (.cells cur 36 (0, 0))) (hn : xs.length = n) (hi : i < n) (hroom : n + 1 ≤ c) (hc63 : c ≤ 9223372036854775807) (hsz : cur.size = c * 3)
  (ht : cur.toList.take (n * 3) = flE xs) (hvb : w.heap[vb]? = some (.cells (eC x).toArray 36 (0, 0))) (hne : vb ≠ g) :
  Calls Tryz.prog 26 #[.slice (some ⟨g, 0, none⟩) n c, .int .i64 i, .slice (some ⟨vb, 0, none⟩) 1 1] w fun e w' => e = .returned (.slice (some ⟨g, 0, none⟩) (n + 1) c) ∧ w' = (w.drew.setCells g ((i + 1) * 3) (flE (xs.drop i))).setCells g (i * 3) (eC x) := by
 (have hz2 : ¬ ((i : Int) = (n : Int)) := by omega);(have hz3 : ¬ ((c : Int) < (n : Int) + 1) := by omega);(have hfv : ∀ j, w.frozen? ⟨vb, j, none⟩ = false := fun j => blk_frozen hvb j);(have hfg : ∀ j, w.frozen? ⟨g, j, none⟩ = false := fun j => blk_frozen hh j)
 have hcg : ∀ j, j < n * 3 → w.cell? ⟨g, j, none⟩ = (flE xs)[j]? := fun j hj => by
  rw [blk_cell hh j, ← ht, List.getElem?_take, if_pos hj, Array.getElem?_toList]
 have hsp : ∀ j, j < c * 3 → (w.cell? ⟨g, j, none⟩).isSome = true := fun j hj => by
  (rw [blk_cell hh j, Array.getElem?_eq_getElem (by omega)]);rfl
 have hov : ∀ off lb cb, (callFunc 45 #[.slice (some ⟨vb, 0, none⟩) 1 1, .slice (some ⟨g, off, none⟩) lb cb]).run Tryz.prog w = .ok (.value (.bool false)) w := fun off lb cb => by
  rw [run_callFunc_extern Tryz.func45 (by kernel_rfl) (by kernel_rfl) (by kernel_rfl) (e := Extern.SlicesOverlaps.overlaps #[27, 27] #[4]) (by kernel_rfl),
   Lib.run_overlaps_apart w 27 4 36 Tryz.underlying27 3 Tryz.sizeOf36 ⟨vb, 0, none⟩ ⟨g, off, none⟩ 1 1 lb cb hne 36 36 3 cur.size (by simp [World.shape?, hvb, eC]) (by simp [World.shape?, hh]) (by omega) (hfv 0) (hfv 3)]
  rfl
 have hdl : (flE (xs.drop i)).length = (n - i) * 3 := by rw [flE_length, List.length_drop, hn]
 have hcp1 : ∀ ty dc sc, (Builtin.copy_ #[27, 27] ty #[.slice (some ⟨g, (i + 1) * 3, none⟩) (n - i) dc, .slice (some ⟨g, i * 3, none⟩) (n + 1 - i) sc]).run Tryz.prog w.drew = .ok (goInt (Nat.min (n + 1 - i) (n - i))) (w.drew.setCells g ((i + 1) * 3) (flE (xs.drop i))) := fun ty dc sc =>
  run_copyE w.drew _ _ ty 36 g ((i + 1) * 3) (n - i) dc ⟨g, i * 3, none⟩ (n + 1 - i) sc (flE (xs.drop i)) Tryz.underlying27 infoE (by rw [hdl]; simp only [Nat.min_def]; split <;> omega)
   (fun j v hj => by
    (have hj2 := (List.getElem?_eq_some_iff.1 hj).1);(rw [Addr.add_lit])
    show w.cell? _ = _
    rw [hcg (i * 3 + j) (by omega), ← hj, ← flE_drop xs i (by omega), List.getElem?_drop])
   (fun j hj => hsp _ (by omega)) (fun j hj => hfg _) (flE_oneCell _)
 obtain ⟨W1, hW1⟩ : ∃ W1, W1 = w.drew.setCells g ((i + 1) * 3) (flE (xs.drop i)) := ⟨_, rfl⟩
 have hsp1 : ∀ k, k < c * 3 → (W1.cell? ⟨g, k, none⟩).isSome = true := fun k hk => by
  (rw [hW1]);(exact isSome_setCells g (flE (xs.drop i)) ((i + 1) * 3) w.drew (fun j hj => hsp ((i + 1) * 3 + j) (by omega)) k (hsp k hk))
 have hcp2 : ∀ (W : World), (∀ x, W.cell? x = W1.cell? x) → (∀ x, W.frozen? x = W1.frozen? x) → ∀ ty dc, (Builtin.copy_ #[27, 27] ty #[.slice (some ⟨g, i * 3, none⟩) (n + 1 - i) dc, .slice (some ⟨vb, 0, none⟩) 1 1]).run Tryz.prog W = .ok (goInt (Nat.min 1 (n + 1 - i))) (W.setCells g (i * 3) (eC x)) := fun W hWc hWf ty dc =>
  run_copyE W _ _ ty 36 g (i * 3) (n + 1 - i) dc ⟨vb, 0, none⟩ 1 1 (eC x) Tryz.underlying27 infoE (by show 3 = _; simp only [Nat.min_def]; split <;> omega)
   (fun j v hj => by
    rw [Addr.add_lit, hWc, hW1, World.cell?_setCells_out g _ _ _ _ (fun h _ => absurd h hne), Nat.zero_add]
    show w.cell? _ = _
    rw [blk_cell hvb j, ← hj]
    simp)
   (fun j hj => by rw [hWc]; exact hsp1 _ (by have : (eC x).length = 3 := rfl; omega)) (fun j hj => by rw [hWf, hW1, World.frozen?_setCells]; exact hfg _) (by have := flE_oneCell [x]; simpa [flE] using this)
 (rw [← hW1] at hcp1);(have hw1 : IntKind.i64.wrap ((i : Int) + 1) = (i : Int) + 1 := zq79);(have hw2 : IntKind.i64.wrap ((n : Int) + 1) = (n : Int) + 1 := zq79);(have hb1 : (0 : Int) ≤ (i : Int) + 1 := by omega);(have hin : i ≤ n := by omega);(have htn : ((i : Int) + 1).toNat = i + 1 := by omega);(have htn2 : ((n : Int) + 1).toNat = n + 1 := by omega);(have hb2 : ¬ (c = i + 1) := by omega);(have hb3 : (i : Int) ≤ (n : Int) + 1 := by omega);(have hb4 : ¬ (c = i) := by omega);(have mixed : Tryz.prog.follows .mixedOrders = true := by kernel_rfl)
 go_enter Tryz.func26, Tryz.ntmps26
 go_wp2_with (simp only [hov])
 go_region_law_o (refine step_copy_runI rfl _ _ 27 27 rfl _ _ (by simp [Act.eval, Act.put]) (by simp [Act.eval, Act.put]) (hcp1 _ _ _) ?_)
 (go_wp2_with (at_builtin; refine wpList_copy_runI _ rfl _ _ 27 27 rfl _ _ rfl rfl (hcp2 _ (fun _ => rfl) (fun _ => rfl) _ _) ?_));(go_ret);(exact ⟨rfl, rfl⟩)
/-- There is no room behind the row and the place is not its end: a new row. -/
theorem insE_grow (g n c i vb : Nat) (xs : List S36) (x : S36) (w : World) (cur : Array Value) (hh : w.heap[g]? = some (.cells cur 36 (0, 0))) (hn : xs.length = n) (hi : i < n) (hnc : n ≤ c) (hroom : c < n + 1) (hbig : n ≤ 1000) (hsz : cur.size = c * 3)
  (ht : cur.toList.take (n * 3) = flE xs) (hvb : w.heap[vb]? = some (.cells (eC x).toArray 36 (0, 0))) :
  Calls Tryz.prog 26 #[.slice (some ⟨g, 0, none⟩) n c, .int .i64 i, .slice (some ⟨vb, 0, none⟩) 1 1] w fun e w' => ∃ (G : Nat) (ROW : Array Value), n + 1 ≤ G ∧ G ≤ maxLen ∧ ROW.size = G * 3 ∧ ROW.toList.take (i * 3) = flE (xs.take i) ∧ e = .returned (.slice (some ⟨w.heap.size, 0, none⟩) (n + 1) G) ∧ w' = (((w.alloc (.cells ROW 36)).drew.setCells w.heap.size (i * 3) (eC x)).drew).setCells w.heap.size ((i + 1) * 3) (flE (xs.drop i)) := by
 (have hz2 : ¬ ((i : Int) = (n : Int)) := by omega);(have hz3 : (c : Int) < (n : Int) + 1 := by omega);(have hgw : g < w.heap.size := blk_lt hh);(have hvw : vb < w.heap.size := blk_lt hvb)
 have hcg : ∀ j, j < n * 3 → w.cell? ⟨g, j, none⟩ = (flE xs)[j]? := fun j hj => by
  rw [blk_cell hh j, ← ht, List.getElem?_take, if_pos hj, Array.getElem?_toList]
 (have hkk : (n : Int) + 1 - (i : Int) = ((n + 1 - i : Nat) : Int) := by omega);(have hik : i + (n + 1 - i) = n + 1 := by omega)
 obtain ⟨i0, hi0, hz0⟩ : ∃ i0, Tryz.prog.info? 36 = some i0 ∧ (i0.zero = some (.agg #[.int .i64 0, .string ⟨#[]⟩, .string ⟨#[]⟩]) ∧ i0.size = 3 ∧ i0.bytes = 40) := by
  (have h := (show (Tryz.prog.info? 36).map (fun i => (i.zero, i.size, i.bytes)) = some (some (.agg #[.int .i64 0, .string ⟨#[]⟩, .string ⟨#[]⟩]), 3, 40) by kernel_rfl));(obtain ⟨i0, h1, h2⟩ := Option.map_eq_some_iff.1 h);(simp only [Prod.mk.injEq] at h2);(exact ⟨i0, h1, h2⟩)
 (obtain ⟨hz0, hzs, hzb⟩ := hz0);(have htl : (flE (xs.take i)).length = i * 3 := by rw [flE_length, List.length_take, Nat.min_eq_left (by omega)])
 have hold : (Builtin.firstCells i0.size i (.slice (some ⟨g, 0, none⟩) i c)).run Tryz.prog w.drew = .ok (flE (xs.take i)).toArray w.drew := by
  rw [hzs]
  exact run_firstCells_some w.drew 3 i ⟨g, 0, none⟩ i c (flE (xs.take i)) (by rw [htl]) (fun j v hj => by
   (have hj2 := (List.getElem?_eq_some_iff.1 hj).1);(rw [Addr.add_lit, Nat.zero_add])
   show w.cell? _ = _
   rw [hcg j (by omega), ← hj, ← flE_take xs i (by omega), List.getElem?_take, if_pos (by omega)])
 have hrz : ∀ ty, (Builtin.append_ #[27, 3] ty #[.slice (some ⟨g, 0, none⟩) i c, .int .i64 ((n : Int) + 1 - (i : Int))]).run Tryz.prog w =
   .ok (.slice (some ⟨w.heap.size, 0, none⟩) (n + 1) (grownCap w (n + 1) c 36)) (w.drew.alloc (.cells ((flE (xs.take i)).toArray ++ Builtin.zeroCells (Value.agg #[.int .i64 0, .string ⟨#[]⟩, .string ⟨#[]⟩]).cells (n + 1 - i) ++ Builtin.zeroCells (Value.agg #[.int .i64 0, .string ⟨#[]⟩, .string ⟨#[]⟩]).cells (grownCap w (n + 1) c 36 - (n + 1))) 36)) := fun ty => by
  (have h := Lib.run_append_grow_zeros w 27 3 ty 36 i0 _ .i64 .i64 Tryz.underlying27 Tryz.underlying3 hi0 hz0 (some ⟨g, 0, none⟩) i c (flE (xs.take i)) hold (n + 1 - i) (by omega) (by omega) (by omega) (by omega) (by rw [hzb]; omega) (by rw [hzb, hik]; exact growslice_fits hroom (by omega)));(rw [hik] at h);(rw [hkk]);(exact h)
 (obtain ⟨G, hG⟩ : ∃ G, G = grownCap w (n + 1) c 36 := ⟨_, rfl⟩);(obtain ⟨ROW, hROW⟩ : ∃ ROW : Array Value, ROW = (flE (xs.take i)).toArray ++ Builtin.zeroCells (Value.agg #[.int .i64 0, .string ⟨#[]⟩, .string ⟨#[]⟩]).cells (n + 1 - i) ++ Builtin.zeroCells (Value.agg #[.int .i64 0, .string ⟨#[]⟩, .string ⟨#[]⟩]).cells (G - (n + 1)) := ⟨_, rfl⟩);(rw [← hG] at hrz);(rw [← hROW] at hrz);(have hGn : n + 1 ≤ G := by rw [hG]; exact grownCap_ge w _ _ _);(have hG63 : G ≤ maxLen := by rw [hG]; exact grownCap_le_maxLen w (n + 1) c 36 (by unfold maxLen; omega));(have hG63' : G ≤ 9223372036854775807 := by unfold maxLen at hG63; omega)
 have hRl : ROW.size = G * 3 := by
  (rw [hROW]);(simp [Builtin.zeroCells, Value.cells, htl]);(omega)
 have hRt : ROW.toList.take (i * 3) = flE (xs.take i) := by
  rw [hROW, Array.toList_append, Array.toList_append, List.append_assoc, List.take_append_of_le_length (by show i * 3 ≤ (flE (xs.take i)).length; omega), List.take_of_length_le (by show (flE (xs.take i)).length ≤ _; omega)]
 (obtain ⟨W1, hW1⟩ : ∃ W1, W1 = w.drew.alloc (.cells ROW 36) := ⟨_, rfl⟩);(rw [← hW1] at hrz)
 have hN : ∀ j, j < G * 3 → (W1.cell? ⟨w.heap.size, j, none⟩).isSome = true := fun j hj => by
  rw [hW1, World.cell?_alloc_at (w := w.drew) ROW _ w.heap.size j rfl, Array.getElem?_eq_getElem (by omega)]; rfl
 (have hNf : ∀ j, W1.frozen? ⟨w.heap.size, j, none⟩ = false := fun j => by rw [hW1]; exact World.frozen?_alloc_at (w := w.drew) ROW _ w.heap.size j rfl);(have hOb : ∀ j, W1.cell? ⟨g, j, none⟩ = w.cell? ⟨g, j, none⟩ := fun j => by rw [hW1, World.cell?_alloc_past (w := w.drew) _ g j hgw]; rfl);(have hOv : ∀ j, W1.cell? ⟨vb, j, none⟩ = w.cell? ⟨vb, j, none⟩ := fun j => by rw [hW1, World.cell?_alloc_past (w := w.drew) _ vb j hvw]; rfl);(have hel : (eC x).length = 3 := rfl);(have hdl : (flE (xs.drop i)).length = (n - i) * 3 := by rw [flE_length, List.length_drop, hn]);(have hgN : g ≠ w.heap.size := by omega)
 have hcpA : ∀ (W : World), (∀ x, W.cell? x = W1.cell? x) → (∀ x, W.frozen? x = W1.frozen? x) → ∀ ty dc, (Builtin.copy_ #[27, 27] ty #[.slice (some ⟨w.heap.size, i * 3, none⟩) (n + 1 - i) dc, .slice (some ⟨vb, 0, none⟩) 1 1]).run Tryz.prog W = .ok (goInt (Nat.min 1 (n + 1 - i))) (W.setCells w.heap.size (i * 3) (eC x)) := fun W hWc hWf ty dc =>
  run_copyE W _ _ ty 36 w.heap.size (i * 3) (n + 1 - i) dc ⟨vb, 0, none⟩ 1 1 (eC x) Tryz.underlying27 infoE (by show 3 = _; simp only [Nat.min_def]; split <;> omega)
   (fun j v hj => by
    rw [Addr.add_lit, hWc, Nat.zero_add, hOv, blk_cell hvb j, ← hj]
    simp)
   (fun j hj => by rw [hWc]; exact hN (i * 3 + j) (by omega)) (fun j hj => by rw [hWf]; exact hNf _) (by have := flE_oneCell [x]; simpa [flE] using this)
 have hcpB : ∀ (W : World), (∀ x', W.cell? x' = (W1.setCells w.heap.size (i * 3) (eC x)).cell? x') → (∀ x', W.frozen? x' = (W1.setCells w.heap.size (i * 3) (eC x)).frozen? x') → ∀ ty dc sc, (Builtin.copy_ #[27, 27] ty #[.slice (some ⟨w.heap.size, (i + 1) * 3, none⟩) (n - i) dc, .slice (some ⟨g, i * 3, none⟩) (n - i) sc]).run Tryz.prog W = .ok (goInt (Nat.min (n - i) (n - i))) (W.setCells w.heap.size ((i + 1) * 3) (flE (xs.drop i))) := fun W hWc hWf ty dc sc =>
  run_copyE W _ _ ty 36 w.heap.size ((i + 1) * 3) (n - i) dc ⟨g, i * 3, none⟩ (n - i) sc (flE (xs.drop i)) Tryz.underlying27 infoE (by rw [hdl]; simp only [Nat.min_def]; split <;> omega)
   (fun j v hj => by
    (have hj2 := (List.getElem?_eq_some_iff.1 hj).1);(rw [Addr.add_lit, hWc, World.cell?_setCells_out _ _ _ _ _ (fun h _ => absurd h hgN), hOb, hcg (i * 3 + j) (by omega), ← hj, ← flE_drop xs i (by omega), List.getElem?_drop]))
   (fun j hj => by rw [hWc]; exact isSome_setCells w.heap.size (eC x) (i * 3) W1 (fun t ht => hN (i * 3 + t) (by omega)) ((i + 1) * 3 + j) (hN ((i + 1) * 3 + j) (by omega)))
   (fun j hj => by rw [hWf, World.frozen?_setCells]; exact hNf _) (flE_oneCell _)
 (have hGi : ¬ (G = i) := by omega);(have hGim : ¬ (G = i + 1) := by omega);(have hci : ¬ (c = i) := by omega);subst hW1;(have hE1 : ∀ x', ((w.alloc (.cells ROW 36)).drew).cell? x' = (w.drew.alloc (.cells ROW 36)).cell? x' := fun x' => rfl);(have hE2 : ∀ x', ((w.alloc (.cells ROW 36)).drew).frozen? x' = (w.drew.alloc (.cells ROW 36)).frozen? x' := fun x' => rfl);(have hF1 : ∀ x', (((w.alloc (.cells ROW 36)).drew.setCells w.heap.size (i * 3) (eC x)).drew).cell? x' = ((w.drew.alloc (.cells ROW 36)).setCells w.heap.size (i * 3) (eC x)).cell? x' := fun x' => rfl);(have hF2 : ∀ x', (((w.alloc (.cells ROW 36)).drew.setCells w.heap.size (i * 3) (eC x)).drew).frozen? x' = ((w.drew.alloc (.cells ROW 36)).setCells w.heap.size (i * 3) (eC x)).frozen? x' := fun x' => rfl);(have hw1 : IntKind.i64.wrap ((i : Int) + 1) = (i : Int) + 1 := zq79);(have hw2 : IntKind.i64.wrap ((n : Int) + 1) = (n : Int) + 1 := zq79);(have hw3 : IntKind.i64.wrap ((n : Int) + 1 - (i : Int)) = (n : Int) + 1 - (i : Int) := zq79);(have hb1 : (0 : Int) ≤ (i : Int) + 1 := by omega);(have hin : i ≤ n := by omega);(have htn : ((i : Int) + 1).toNat = i + 1 := by omega);(have hb3 : (i : Int) ≤ (n : Int) := by omega);(have mixed : Tryz.prog.follows .mixedOrders = true := by kernel_rfl);clear hkk hik hold hROW hG
 go_enter Tryz.func26, Tryz.ntmps26
 go_wp2_with (first
  | (at_builtin; refine Lib.wpList_append_run _ rfl _ _ _ _ rfl _ _ rfl rfl _ _ (hrz _) ?_)
  | (at_builtin; refine wpList_copy_runI _ rfl _ _ 27 27 rfl _ _ rfl rfl (hcpA _ hE1 hE2 _ _) ?_)
  | (at_builtin; refine wpList_copy_runI _ rfl _ _ 27 27 rfl _ _ rfl rfl (hcpB _ (fun _ => rfl) (fun _ => rfl) _ _ _) ?_))
 go_region_law_o (refine step_copy_runI rfl _ _ 27 27 rfl (.slice (some ⟨w.heap.size, (i + 1) * 3, none⟩) (n - i) (G - (i + 1))) (.slice (some ⟨g, i * 3, none⟩) (n - i) (c - i)) (by simp [Act.eval, Act.put]) (by simp [Act.eval, Act.put]) (hcpB _ hF1 hF2 3 (G - (i + 1)) (c - i)) ?_)
 (go_wp2);(go_ret);(exact ⟨G, ROW, hGn, hG63, hRl, hRt, rfl, rfl⟩)
theorem put_mid (a b r vs : List Value) (o : Nat) (ho : o = a.length) (h : b.length = vs.length) : (a ++ (b ++ r)).take o ++ vs ++ (a ++ (b ++ r)).drop (o + vs.length) = a ++ (vs ++ r) := by
 subst ho;(rw [List.take_left, ← h, ← List.drop_drop, List.drop_left, List.drop_left, List.append_assoc])
theorem cut4 (L : List Value) (p q : Nat) (h : p + 3 + q ≤ L.length) : ∃ a m d r, L = a ++ (m ++ (d ++ r)) ∧ a = L.take p ∧ m.length = 3 ∧ d.length = q := by
 refine ⟨L.take p, (L.drop p).take 3, ((L.drop p).drop 3).take q, ((L.drop p).drop 3).drop q, ?_, rfl, ?_, ?_⟩
 ·rw [List.take_append_drop, List.take_append_drop, List.take_append_drop]
 ·rw [List.length_take, List.length_drop]; omega
 ·rw [List.length_take, List.length_drop, List.length_drop]; omega
theorem below_setCells {base : Nat} {w W : World} (hb : Below base w W) (hle : base ≤ W.heap.size) {g : Nat} (hg : base ≤ g) (o : Nat) (vs : List Value) : Below base w (W.setCells g o vs) := by
 (obtain ⟨s1, s2, s3, s4⟩ := setCells_same g vs o W);(have hgr : W.grownBy (W.setCells g o vs) (some g) := ⟨s1, s2, s3, by rw [s4]; exact Nat.le_refl _, fun k _ hk => setCells_far vs o k (fun he => hk (by rw [he]))⟩);(exact hb.grown hgr hle (fun k hk => by cases hk; exact hg))
/-- What both roads leave: the row with the edit put in. -/
theorem mkIns {W : World} {base g c i : Nat} {cur : Array Value} {xs : List S36} {x : S36} (hh : W.heap[g]? = some (.cells cur 36 (0, 0))) (hg : base ≤ g) (hi : i ≤ xs.length) (hnc : xs.length + 1 ≤ c) (hc : c ≤ maxLen) (hsz : cur.size = c * 3) (hr : ∃ r, cur.toList = flE (xs.take i) ++ (eC x ++ (flE (xs.drop i) ++ r))) :
  Kd.R k36 36 W base (fun _ => True) (.slice (some ⟨g, 0, none⟩) (xs.length + 1) c) (xs.take i ++ x :: xs.drop i) := by
 (have hl : (xs.take i ++ x :: xs.drop i).length = xs.length + 1 := by rw [List.length_append, List.length_take, List.length_cons, List.length_drop]; omega);(obtain ⟨r, hr⟩ := hr)
 apply mkE
 (refine ⟨flE_length _, .inr ⟨g, c, cur, by rw [hl], hg, hh, by rw [hl]; exact hnc, hc, hsz, ?_⟩⟩);(have e : flE (xs.take i ++ x :: xs.drop i) = flE (xs.take i) ++ (eC x ++ flE (xs.drop i)) := by rw [flE_append, flE_one]);(have e2 : cur.toList = flE (xs.take i ++ x :: xs.drop i) ++ r := by rw [hr, e]; simp only [List.append_assoc]);(rw [e2, ← flE_length, List.take_left])
theorem insE_calls (base : Nat) (v : Value) (xs : List S36) (x : S36) (i vb : Nat) (w : World) (hR : Kd.R k36 36 w base (fun _ => True) v xs) (hi : i < xs.length) (hl : xs.length ≤ 1000) (hvb : w.heap[vb]? = some (.cells (eC x).toArray 36 (0, 0))) (hne : some vb ≠ v.ownBlock) (hbase : base ≤ w.heap.size) :
  Calls Tryz.prog 26 #[v, .int .i64 i, .slice (some ⟨vb, 0, none⟩) 1 1] w fun e w' => ∃ v1, e = .returned v1 ∧ Kd.R k36 36 w' base (fun _ => True) v1 (xs.take i ++ x :: xs.drop i) ∧ Below base w w' := by
 have ho := ownE hR
 rcases ho.2 with ⟨_, h0⟩ | ⟨g, c, cur, rfl, hg, hh, hnc, hc, hsz, ht⟩
 ·omega
 (have hvg : vb ≠ g := fun h => hne (by rw [h]; rfl));(have hc63 : c ≤ 9223372036854775807 := by unfold maxLen at hc; omega);(have hdl : (flE (xs.drop i)).length = (xs.length - i) * 3 := by rw [flE_length, List.length_drop]);(have htl : (flE (xs.take i)).length = i * 3 := by rw [flE_length, List.length_take, Nat.min_eq_left (by omega)]);(have hel : (eC x).length = 3 := rfl);(by_cases hroom : xs.length + 1 ≤ c)
 ·refine (insE_shift g xs.length c i vb xs x w cur hh rfl hi hroom hc63 hsz ht hvb hvg).mono ?_
  (rintro e w' ⟨rfl, rfl⟩);(have hh0 : w.drew.heap[g]? = some (.cells cur 36 (0, 0)) := hh);(obtain ⟨cur1, h1, h2, h3⟩ := setCells_row (flE (xs.drop i)) ((i + 1) * 3) w.drew cur hh0 (by omega));(obtain ⟨cur2, h4, h5, h6⟩ := setCells_row (eC x) (i * 3) _ cur1 h1 (by omega));(have hb0 : Below base w w.drew := below_drew (Below.refl base w));(have hb1 := below_setCells hb0 hbase hg ((i + 1) * 3) (flE (xs.drop i)));(refine ⟨_, rfl, mkIns h4 hg (by omega) hroom hc (by rw [h5, h2, hsz]) ?_, below_setCells hb1 (by rw [(setCells_same g (flE (xs.drop i)) ((i + 1) * 3) w.drew).2.2.2]; exact hbase) hg _ _⟩);(obtain ⟨a, m, d, r, e1, e2, e3, e4⟩ := cut4 cur.toList (i * 3) ((xs.length - i) * 3) (by have := Array.length_toList (xs := cur); omega))
  have ea : a = flE (xs.take i) := by
   rw [e2, ← flE_take xs i (by omega), ← ht, List.take_take, Nat.min_eq_left (by omega)]
  (refine ⟨r, ?_⟩);(rw [e1] at h3)
  have h7 : cur1.toList = a ++ (m ++ (flE (xs.drop i) ++ r)) := by
   (rw [h3]);(have := put_mid (a ++ m) d r (flE (xs.drop i)) ((i + 1) * 3) (by rw [List.length_append, e3, ea, htl]; omega) (by rw [e4, hdl]));(simp only [List.append_assoc] at this ⊢);(exact this)
  (rw [h7] at h6);(rw [h6, ← ea]);(exact put_mid a m (flE (xs.drop i) ++ r) (eC x) (i * 3) (by rw [ea, htl]) (by rw [e3, hel]))
 ·refine (insE_grow g xs.length c i vb xs x w cur hh rfl hi hnc (by omega) hl hsz ht hvb).mono ?_
  (rintro e w' ⟨G, ROW, hG, hG2, hRs, hRt, rfl, rfl⟩);(have hh0 : (w.alloc (.cells ROW 36)).drew.heap[w.heap.size]? = some (.cells ROW 36 (0, 0)) := blk_new w _);(obtain ⟨cur1, h1, h2, h3⟩ := setCells_row (eC x) (i * 3) (w.alloc (.cells ROW 36)).drew ROW hh0 (by omega));(have h1' : (((w.alloc (.cells ROW 36)).drew.setCells w.heap.size (i * 3) (eC x)).drew).heap[w.heap.size]? = some (.cells cur1 36 (0, 0)) := h1);(obtain ⟨cur2, h4, h5, h6⟩ := setCells_row (flE (xs.drop i)) ((i + 1) * 3) _ cur1 h1' (by omega));(have hb0 : Below base w (w.alloc (.cells ROW 36)).drew := below_drew ((Below.refl base w).alloc hbase _));(have hz0 : (w.alloc (.cells ROW 36)).drew.heap.size = w.heap.size + 1 := by show (w.heap.push _).size = _; exact Array.size_push _);(have hb1 : Below base w (((w.alloc (.cells ROW 36)).drew.setCells w.heap.size (i * 3) (eC x)).drew) := below_drew (below_setCells hb0 (by omega) hbase (i * 3) (eC x)))
  have hz1 : (((w.alloc (.cells ROW 36)).drew.setCells w.heap.size (i * 3) (eC x)).drew).heap.size = w.heap.size + 1 := by
   show ((w.alloc (.cells ROW 36)).drew.setCells w.heap.size (i * 3) (eC x)).heap.size = _
   rw [(setCells_same w.heap.size (eC x) (i * 3) _).2.2.2, hz0]
  (refine ⟨_, rfl, mkIns h4 hbase (by omega) hG hG2 (by rw [h5, h2, hRs]) ?_, below_setCells hb1 (by omega) hbase _ _⟩);(obtain ⟨a, m, d, r, e1, e2, e3, e4⟩ := cut4 ROW.toList (i * 3) ((xs.length - i) * 3) (by have := Array.length_toList (xs := ROW); omega));(have ea : a = flE (xs.take i) := by rw [e2, hRt]);(refine ⟨r, ?_⟩);(rw [e1] at h3)
  have h7 : cur1.toList = a ++ (eC x ++ (d ++ r)) := by
   (rw [h3]);(exact put_mid a m (d ++ r) (eC x) (i * 3) (by rw [ea, htl]) (by rw [e3, hel]))
  (rw [h7] at h6);(rw [h6, ← ea]);(have := put_mid (a ++ eC x) d r (flE (xs.drop i)) ((i + 1) * 3) (by rw [List.length_append, hel, ea, htl]; omega) (by rw [e4, hdl]));(simp only [List.append_assoc] at this ⊢);(exact this)
theorem info36E : (Tryz.prog.info? 36).map (fun i => (i.zero, i.size, i.bytes)) = some (some (.agg #[.int .i64 0, .string ⟨#[]⟩, .string ⟨#[]⟩]), 3, 40) := by kernel_rfl
theorem readsOne {w : World} {vb : Nat} {x : S36} (hvb : w.heap[vb]? = some (.cells (eC x).toArray 36 (0, 0))) : ReadsRow (fun (y : S36) cs => cs = eC y) 3 w (some ⟨vb, 0, none⟩) 1 [x] := by
 refine ⟨rfl, by omega, fun _ => ⟨_, rfl, fun j p hj => ?_⟩⟩
 cases j with
 | zero =>
  (obtain rfl : x = p := by simpa using hj);(refine ⟨eC x, rfl, rfl, fun i u hu => ?_⟩);(rw [Nat.zero_mul, Nat.zero_add, Addr.add_lit, Nat.zero_add, blk_cell hvb i, ← hu])
  simp
 | succ j => simp at hj
theorem insE_end (base : Nat) (v : Value) (xs : List S36) (x : S36) (vb : Nat) (w : World) (hR : Kd.R k36 36 w base (fun _ => True) v xs) (hl : xs.length ≤ 1000) (hvb : w.heap[vb]? = some (.cells (eC x).toArray 36 (0, 0))) (hne : some vb ≠ v.ownBlock) (hbase : base ≤ w.heap.size) :
  Calls Tryz.prog 26 #[v, .int .i64 xs.length, .slice (some ⟨vb, 0, none⟩) 1 1] w fun e w' => ∃ v1, e = .returned v1 ∧ Kd.R k36 36 w' base (fun _ => True) v1 (xs ++ [x]) ∧ Below base w w' := by
 (obtain ⟨A, c, rfl⟩ := Kd.R_slice hR);(obtain ⟨_, hnc, hC⟩ := Kd.R_reads' hR);(have HR := Aside0.mk hR);(have HL := Aside0.mk hl);(have HV := Aside0.mk hvb);(have HN := Aside0.mk hne);(have HB := Aside0.mk hbase);clear hR hC hvb hne hbase;(have hc1 : ((xs.length : Int) == (xs.length : Int)) = true := beq_self_eq_true _);(have hp : (0 : Int) ≤ (xs.length : Int) := by omega)
 rcases A with _ | ⟨⟨g, o, sp⟩⟩
 ·obtain rfl : xs = [] := by
   have ho := ownE HR.out
   rcases ho.2 with ⟨_, h0⟩ | ⟨g, c', cur, h, _⟩
   ·exact List.length_eq_zero_iff.1 h0
   ·cases h
  obtain rfl : c = 0 := by
   have ho := ownE HR.out
   rcases ho.2 with ⟨h, h0⟩ | ⟨g, c', cur, h, _⟩
   ·injection h
   ·cases h
  show Calls Tryz.prog 26 #[.slice none 0 0, .int .i64 0, .slice (some ⟨vb, 0, none⟩) 1 1] w _
  clear hc1 hp hnc hl
  go_enter Tryz.func26, Tryz.ntmps26
  go_wp2_with (first | ((with_reducible refine gate_builtin (b := .append) (xs := #[.tmp 23, .tmp 24]) rfl ?_); at_builtin; refine Kd.R_append_rows k36 (Rr := fun (y : S36) cs => cs = eC y) (w0 := w) base rfl (.tmp 23) (.tmp 24) 27 36 (.agg #[.int .i64 0, .string ⟨#[]⟩, .string ⟨#[]⟩]) 40 rfl Tryz.underlying27 info36E rfl (by decide) (by omega) _ ([] : List S36) [x] (some ⟨vb, 0, none⟩) 1 1 (fun _ => True) (fun _ => False) rfl rfl HR.out (readsOne HV.out) (fun y cs h => by subst h; exact k36_mkM _ _ _ y) (fun k hk => hk.elim) (fun _ _ => trivial) (Below.refl _ _) HB.out (by have := HL.out; omega) ?_; intro v1 w1 ho hb hg hat; have HO := Aside0.mk ho; have HBB := Aside0.mk hb; clear ho hb hg hat))
  all_goals (go_ret; exact ⟨_, rfl, HO.out, HBB.out⟩)
 ·go_enter Tryz.func26, Tryz.ntmps26
  go_wp2_with (first | ((with_reducible refine gate_builtin (b := .append) (xs := #[.tmp 23, .tmp 24]) rfl ?_); at_builtin; refine Kd.R_append_rows k36 (Rr := fun (y : S36) cs => cs = eC y) (w0 := w) base rfl (.tmp 23) (.tmp 24) 27 36 (.agg #[.int .i64 0, .string ⟨#[]⟩, .string ⟨#[]⟩]) 40 rfl Tryz.underlying27 info36E rfl (by decide) (by omega) _ xs [x] (some ⟨vb, 0, none⟩) 1 1 (fun _ => True) (fun _ => False) rfl rfl HR.out (readsOne HV.out) (fun y cs h => by subst h; exact k36_mkM _ _ _ y) (fun k hk => hk.elim) (fun _ _ => trivial) (Below.refl _ _) HB.out (by have := HL.out; omega) ?_; intro v1 w1 ho hb hg hat; have HO := Aside0.mk ho; have HBB := Aside0.mk hb; clear ho hb hg hat))
  all_goals (go_ret; exact ⟨_, rfl, HO.out, HBB.out⟩)
theorem cmpE_calls (a b : S36) (W : World) : Calls Tryz.prog 25 #[.agg #[.int .i64 a.f0, .string a.f1, .string a.f2], .agg #[.int .i64 b.f0, .string b.f1, .string b.f2]] W fun e w' => e = .returned (.int .i64 (wrap64 (a.f0 - b.f0))) ∧ Below W.heap.size W w' := by
 show Calls Tryz.prog 25 #[.agg #[.int .i64 a.f0, .string a.f1, .string a.f2], .agg #[.int .i64 b.f0, .string b.f1, .string b.f2]] W _
 cases a with
 | mk a0 a1 a2 =>
  cases b with
  | mk b0 b1 b2 =>
   go_enter Tryz.func25, Tryz.ntmps25
   (go_wp2);(go_ret);(exact ⟨rfl, below_alloc (below_alloc (Below.refl _ _) _) _⟩)
/-- A call of a function value that captures nothing, in a region that draws. -/
theorem goesF_ {P : Program} {ops : Array Oper} {Q : Exit → Act → World → Prop} {oi : Oper} {N : Option Tmp} {a : Act} {w : World} {K : Act → World → Prop} {f : FuncId} {fn : Func} {t : Tmp} {ars : Array Operand} {ts : Array TypeId} (hf : P.funcs[f]? = some fn) (hname : (fn.name == "runtime.NumGoroutine") = false) (hb : fn.body.isSome = true) (args : Array Value)
  (hw : Region.wanted oi (yielded ops a.tmps) = true) (hN : oi.dst = N) (hop : oi.op = .call { callee := .value (.tmp t), args := ars, argTypes := ts }) (hv : a.eval (.tmp t) = .func (.func f) #[] #[]) (hargs : ars.map a.eval = args)
  (h : Calls P f args w fun e w' => ∃ v, e = .returned v ∧ K (a.put N v) w') : if Region.wanted oi (yielded ops a.tmps) = true then Oper.wp P oi a w K Q else K (a.put N undef) w := by
 (refine call_ f args hw hN ?_ h);(have he := enters_ hf hname hb args w);(unfold execOp);(simp [hop, resolve, Deferred.ofValue, invoke, hv, hargs, he])
/-- slices.BinarySearchFunc, as it goes. -/
def bsGo (xs : List S36) (p : Int) : Nat → Nat → Nat → Nat
 | 0, i, _ => i
 | k + 1, i, j => if i < j then (if wrap64 ((rd_T36 xs (((i + j) / 2 : Nat) : Int)).f0 - p) < 0 then bsGo xs p k ((i + j) / 2 + 1) j else bsGo xs p k i ((i + j) / 2)) else i
def bsI (xs : List S36) (p : Int) : Nat := bsGo xs p xs.length 0 xs.length
theorem bsGo_le (xs : List S36) (p : Int) : ∀ (k i j : Nat), i ≤ j → bsGo xs p k i j ≤ j
 | 0, i, j, h => h
 | k + 1, i, j, h => by
  unfold bsGo
  split
  ·split
   ·exact bsGo_le xs p k _ j (by omega)
   ·have := bsGo_le xs p k i ((i + j) / 2) (by omega)
    omega
  ·exact h
theorem bsE_calls (A : Option Addr) (c : Nat) (xs : List S36) (t0 : Int) (t1 t2 : ByteArray) (w : World) (hC : Kd.C k36 w A xs.length xs) (hl : xs.length ≤ 1000) :
  Calls Tryz.prog 24 #[.slice A xs.length c, .agg #[.int .i64 t0, .string t1, .string t2], .func (.func 25) #[] #[]] w fun e w' => e = .returned (.tuple #[.int .i64 (bsI xs t0), .bool (decide (bsI xs t0 < xs.length) && decide (wrap64 ((rd_T36 xs (bsI xs t0)).f0 - t0) = 0))]) ∧ Below w.heap.size w w' := by
 (have HC := Aside0.mk hC);clear hC;(obtain ⟨R, hR⟩ : ∃ R, R = bsI xs t0 := ⟨_, rfl⟩);(have R0 := Aside0.mk (show bsGo xs t0 xs.length 0 xs.length = R from hR.symm));(have R1 := Aside0.mk (show R ≤ xs.length by rw [hR]; exact bsGo_le xs t0 _ _ _ (Nat.zero_le _)));(rw [← hR]);clear hR
 go_enter Tryz.func24, Tryz.ntmps24
 go_wp2
 go_loopg [9, 10] xs.length (fun gk v9 v10 wr => ∃ i j : Nat, v9 = .int .i64 i ∧ v10 = .int .i64 j ∧ i ≤ j ∧ j ≤ xs.length ∧ j - i ≤ gk ∧ Aside0 (bsGo xs t0 gk i j = R) ∧ Aside0 (Below w.heap.size w wr) ∧ Aside0 (wr.heap[w.heap.size]? = some (.cells #[.int .i64 t0, .string t1, .string t2] 36 (0, 0))))
 case atStart => exact ⟨0, xs.length, rfl, rfl, Nat.zero_le _, Nat.le_refl _, by omega, R0, ⟨below_alloc (Below.refl _ _) _⟩, ⟨blk_new w _⟩⟩
 case round =>
  clear R0;(obtain ⟨i, j, rfl, rfl, hij, hjl, hg, R0, HB, HT⟩ := hrel);(by_cases hlt : i < j)
  ·obtain ⟨k, rfl⟩ : ∃ k, gk = k + 1 := ⟨gk - 1, by omega⟩
   (have H := R0.out);clear R0;(unfold bsGo at H);(rw [if_pos hlt] at H);(obtain ⟨ad, e5, hx0, hx1, hx2⟩ := at_T36 (Kd.C_below HC.out HB.out) (((i + j) / 2 : Nat) : Int) (by omega) (by omega));subst e5;(obtain ⟨y, hy⟩ : ∃ y, y = rd_T36 xs (((i + j) / 2 : Nat) : Int) := ⟨_, rfl⟩);(rw [← hy] at hx0 hx1 hx2 H);clear hy;(have ht0 := blk_cell HT.out 0);(have ht1 := blk_cell HT.out 1);(have ht2 := blk_cell HT.out 2);(simp only [Int.toNat_natCast] at hx0 hx1 hx2);(have hq1 : (0 ≤ ((i : Int) + (j : Int)) / 2) = True := eq_true (by omega));(have hq2 : (((i : Int) + (j : Int)) / 2 < (xs.length : Int)) = True := eq_true (by omega));(have hq3 : (((i : Int) + (j : Int)) / 2).toNat = (i + j) / 2 := by omega);(have HB5 := Aside0.mk (below_drew HB.out));(have HT5 := Aside0.mk (blk_drew HT.out));(go_wp2)
   go_still_tail 6, (by kernel_rfl)
   change wpList _ _ _ _ _ wr.drew
   (obtain ⟨W5, hW5⟩ : ∃ W5, W5 = wr.drew := ⟨_, rfl⟩);(rw [← hW5] at HB5 HT5 ⊢);clear hW5 HB HT hx0 hx1 hx2 ht0 ht1 ht2 hq1 hq2 hq3;(by_cases hlo : wrap64 (y.f0 - t0) < 0)
   ·rw [if_pos hlo] at H
    (have R5 := Aside0.mk H);(have c1b : decide (wrap64 (y.f0 - t0) < 0) = true := decide_eq_true hlo);clear hlo H;(go_wp2_with (go_at_call 25; refine (cmpE_calls y ⟨t0, t1, t2⟩ _).mono ?_; rintro e w6 ⟨rfl, hb⟩; have HB6 := Aside0.mk (below_step HB5.out hb); have HT6 := Aside0.mk (blk_below HT5.out hb); clear hb HB5 HT5));(go_roundg k)
    case measure => omega
    case rel => exact ⟨(i + j) / 2 + 1, j, by rw [show ((i : Int) + (j : Int)) / 2 + 1 = (((i + j) / 2 + 1 : Nat) : Int) by omega], rfl, by omega, hjl, by omega, R5, HB6, HT6⟩
   ·rw [if_neg hlo] at H
    (have R5 := Aside0.mk H);(have c1b : decide (wrap64 (y.f0 - t0) < 0) = false := decide_eq_false hlo);clear hlo H;(go_wp2_with (go_at_call 25; refine (cmpE_calls y ⟨t0, t1, t2⟩ _).mono ?_; rintro e w6 ⟨rfl, hb⟩; have HB6 := Aside0.mk (below_step HB5.out hb); have HT6 := Aside0.mk (blk_below HT5.out hb); clear hb HB5 HT5));(go_roundg k)
    case measure => omega
    case rel => exact ⟨i, (i + j) / 2, rfl, by rw [show ((i : Int) + (j : Int)) / 2 = (((i + j) / 2 : Nat) : Int) by omega], by omega, by omega, by omega, R5, HB6, HT6⟩
  ·obtain rfl : j = i := by omega
   have hRi : R = j := by
    have H := R0.out
    cases gk with
    | zero => exact H.symm
    | succ k =>
     (unfold bsGo at H);(rw [if_neg (by omega)] at H);(exact H.symm)
   subst hRi;clear R0 R1;(by_cases hn : R < xs.length)
   ·have c2b : decide ((R : Int) < (xs.length : Int)) = true := decide_eq_true (by omega)
    (have c2c : decide (R < xs.length) = true := decide_eq_true hn);(have hq1 : (0 ≤ (R : Int)) = True := eq_true (by omega));(have hq2 : ((R : Int) < (xs.length : Int)) = True := eq_true (by omega));(obtain ⟨ad, e5, hx0, hx1, hx2⟩ := at_T36 (Kd.C_below HC.out HB.out) (R : Int) (by omega) (by omega));subst e5;(obtain ⟨y, hy⟩ : ∃ y, y = rd_T36 xs (R : Int) := ⟨_, rfl⟩);(rw [← hy] at hx0 hx1 hx2);(have HY := Aside0.mk hy);clear hy;(have ht0 := blk_cell HT.out 0);(have ht1 := blk_cell HT.out 1);(have ht2 := blk_cell HT.out 2);(simp only [Int.toNat_natCast] at hx0 hx1 hx2);(go_wp2);(refine start_ (n := 16) (S := fun w' => w'.cell? (ad.add (R * 3)) = some (.int .i64 y.f0) ∧ w'.cell? ⟨(ad.add (R * 3)).block, (ad.add (R * 3)).off + 1, none⟩ = some (.string y.f1) ∧ w'.cell? ⟨(ad.add (R * 3)).block, (ad.add (R * 3)).off + 2, none⟩ = some (.string y.f2) ∧ w'.cell? ⟨w.heap.size, 0, none⟩ = some (.int .i64 t0) ∧ w'.cell? ⟨w.heap.size, 1, none⟩ = some (.string t1) ∧ w'.cell? ⟨w.heap.size, 2, none⟩ = some (.string t2)) (ds := []) #[false,false,false,false,false,false,false,false,false,false,false,false,false,false,false,false] (by kernel_rfl) rfl rfl ⟨hx0, hx1, hx2, ht0, ht1, ht2⟩ (fun hHeld => ?_));(have HB5 := Aside0.mk (below_drew1 HB.out));(replace hx0 : wr.drew.cell? (ad.add (R * 3)) = some (.int .i64 y.f0) := hx0);(replace hx1 : wr.drew.cell? ⟨(ad.add (R * 3)).block, (ad.add (R * 3)).off + 1, none⟩ = some (.string y.f1) := hx1);(replace hx2 : wr.drew.cell? ⟨(ad.add (R * 3)).block, (ad.add (R * 3)).off + 2, none⟩ = some (.string y.f2) := hx2);(replace ht0 : wr.drew.cell? ⟨w.heap.size, 0, none⟩ = some (.int .i64 t0) := ht0);(replace ht1 : wr.drew.cell? ⟨w.heap.size, 1, none⟩ = some (.string t1) := ht1);(replace ht2 : wr.drew.cell? ⟨w.heap.size, 2, none⟩ = some (.string t2) := ht2);(generalize hwa : wr.drew = wa at HB5 hx0 hx1 hx2 ht0 ht1 ht2 hHeld ⊢);clear hwa;(refine pure_ (i := 0) (N := some 35) (v := ?_) (a' := ?_) (mB 16 1) rfl rfl (by kernel_rfl) (fun _ _ _ h => h) (Or.inl ⟨by rfl, ?_⟩) ?_ ?_);rotate_left
    ·intro w'
     go_simp;(with_reducible rfl)
    rotate_left
    ·simp only [Act.put, sA]
     rfl
    (refine pure_ (i := 1) (N := some 36) (v := ?_) (a' := ?_) (mB 16 3) rfl rfl (by kernel_rfl) (fun _ _ _ h => h) (Or.inl ⟨by rfl, ?_⟩) ?_ ?_);rotate_left
    ·intro w'
     go_simp;(with_reducible rfl)
    rotate_left
    ·simp only [Act.put, sA]
     rfl
    (refine pure_ (i := 2) (N := some 37) (v := ?_) (a' := ?_) (mB 16 7) rfl rfl (by kernel_rfl) (fun _ _ _ h => h) (Or.inl ⟨by rfl, ?_⟩) ?_ ?_);rotate_left
    ·intro w'
     go_simp;(with_reducible rfl)
    rotate_left
    ·simp only [Act.put, sA]
     rfl
    (refine pure_ (i := 3) (N := some 38) (v := ?_) (a' := ?_) (mB 16 15) rfl rfl (by kernel_rfl) (fun _ _ _ h => h) (Or.inl ⟨by rfl, ?_⟩) ?_ ?_);rotate_left
    ·intro w'
     go_simp;(with_reducible rfl)
    rotate_left
    ·simp only [Act.put, sA]
     rfl
    (refine pure_ (i := 4) (N := some 39) (v := ?_) (a' := ?_) (mB 16 31) rfl rfl (by kernel_rfl) (fun _ _ _ h => h) (Or.inl ⟨by rfl, ?_⟩) ?_ ?_);rotate_left
    ·intro w'
     go_simp;(with_reducible rfl)
    rotate_left
    ·simp only [Act.put, sA]
     rfl
    (refine pure_ (i := 5) (N := some 40) (v := ?_) (a' := ?_) (mB 16 63) rfl rfl (by kernel_rfl) (fun _ _ _ h => h) (Or.inl ⟨by rfl, ?_⟩) ?_ ?_);rotate_left
    ·intro w'
     go_simp;(with_reducible rfl)
    rotate_left
    ·simp only [Act.put, sA]
     rfl
    (refine pure_ (i := 6) (N := some 41) (v := ?_) (a' := ?_) (mB 16 127) rfl rfl (by kernel_rfl) (fun _ _ _ h => h) (Or.inl ⟨by rfl, ?_⟩) ?_ ?_);rotate_left
    ·intro w'
     go_simp;(with_reducible rfl)
    rotate_left
    ·simp only [Act.put, sA]
     rfl
    (refine pure_ (i := 7) (N := some 42) (v := ?_) (a' := ?_) (mB 16 255) rfl rfl (by kernel_rfl) (fun _ _ _ h => h) (Or.inl ⟨by rfl, ?_⟩) ?_ ?_);rotate_left
    ·intro w'
     go_simp;(with_reducible rfl)
    rotate_left
    ·simp only [Act.put, sA]
     rfl
    (refine pure_ (i := 8) (N := some 43) (v := ?_) (a' := ?_) (mB 16 511) rfl rfl (by kernel_rfl) (fun _ _ _ h => h) (Or.inl ⟨by rfl, ?_⟩) ?_ ?_);rotate_left
    ·intro w'
     go_simp;(with_reducible rfl)
    rotate_left
    ·simp only [Act.put, sA]
     rfl
    (refine take_ (i := 9) (N := some 44) (v := ?_) (a' := ?_) (mB 16 1023) rfl rfl (by kernel_rfl) (fun _ _ _ h => h) (Or.inl ⟨by rfl, ?_⟩) hHeld ?_ ?_);rotate_left
    ·rintro w' ⟨s0, s1, s2, s3, s4, s5⟩
     go_simp;(with_reducible rfl)
    rotate_left
    ·simp only [Act.put, sA]
     rfl
    (refine take_ (i := 10) (N := some 45) (v := ?_) (a' := ?_) (mB 16 2047) rfl rfl (by kernel_rfl) (fun _ _ _ h => h) (Or.inl ⟨by rfl, ?_⟩) hHeld ?_ ?_);rotate_left
    ·rintro w' ⟨s0, s1, s2, s3, s4, s5⟩
     go_simp;(with_reducible rfl)
    rotate_left
    ·simp only [Act.put, sA]
     rfl
    (refine one_ (i := 11) (N := some 46) (mB 16 4095) rfl rfl (by kernel_rfl) (by decide) (fun K hK => ?_));(refine goesF_ Tryz.func25 (by kernel_rfl) rfl #[.agg #[.int .i64 y.f0, .string y.f1, .string y.f2], .agg #[.int .i64 t0, .string t1, .string t2]] (by rfl) rfl rfl (by rfl) (by (try simp only [List.map_toArray, List.map_cons, List.map_nil]); first | done | rfl) ?_);(with_reducible refine (cmpE_calls y ⟨t0, t1, t2⟩ _).mono ?_);(rintro e w6 ⟨rfl, hb⟩);(refine ⟨_, rfl, ?_⟩);(replace hx0 := (hb.cell (World.block_lt_of_cell? wa _ hx0)).trans hx0);(replace hx1 := (hb.cell (World.block_lt_of_cell? wa _ hx1)).trans hx1);(replace hx2 := (hb.cell (World.block_lt_of_cell? wa _ hx2)).trans hx2);(replace ht0 := (hb.cell (World.block_lt_of_cell? wa _ ht0)).trans ht0);(replace ht1 := (hb.cell (World.block_lt_of_cell? wa _ ht1)).trans ht1);(replace ht2 := (hb.cell (World.block_lt_of_cell? wa _ ht2)).trans ht2);(have HB6 := Aside0.mk (below_step HB5.out hb));clear hb HB5;(refine hK.out _ _ ⟨hx0, hx1, hx2, ht0, ht1, ht2⟩ (fun hHeld => ?_));clear hK K;(refine norm_ (a' := ?_) ?_ ?_);rotate_left
    ·show Act.put _ (some 46) _ = _
     (simp only [Act.put, sA]);rfl
    (refine pure_ (i := 12) (N := some 47) (v := ?_) (a' := ?_) (mB 16 8191) rfl rfl (by kernel_rfl) (fun _ _ _ h => h) (Or.inl ⟨by rfl, ?_⟩) ?_ ?_);rotate_left
    ·intro w'
     go_simp;(with_reducible rfl)
    rotate_left
    ·simp only [Act.put, sA]
     rfl
    (refine pure_ (i := 13) (N := some 48) (v := ?_) (a' := ?_) (mB 16 16383) rfl rfl (by kernel_rfl) (fun _ _ _ h => h) (Or.inl ⟨by rfl, ?_⟩) ?_ ?_);rotate_left
    ·intro w'
     go_simp;(with_reducible rfl)
    rotate_left
    ·simp only [Act.put, sA]
     rfl
    (refine pure_ (i := 14) (N := some 6) (v := ?_) (a' := ?_) (mB 16 32767) rfl rfl (by kernel_rfl) (fun _ _ _ h => h) (Or.inl ⟨by rfl, ?_⟩) ?_ ?_);rotate_left
    ·intro w'
     go_simp;(with_reducible rfl)
    rotate_left
    ·simp only [Act.put, sA]
     rfl
    (refine pure_ (i := 15) (N := some 7) (v := ?_) (a' := ?_) (mB 16 65535) rfl rfl (by kernel_rfl) (fun _ _ _ h => h) (Or.inl ⟨by rfl, ?_⟩) ?_ ?_);rotate_left
    ·intro w'
     go_simp;(with_reducible rfl)
    rotate_left
    ·simp only [Act.put, sA]
     rfl
    (refine done_ (by kernel_rfl) ?_);(go_wp2);(go_ret2);(exact ⟨by rw [← HY.out, c2c]; first | rfl | simp, HB6.out⟩)
   ·have c2b : decide ((R : Int) < (xs.length : Int)) = false := decide_eq_false (by omega)
    (have c2c : decide (R < xs.length) = false := decide_eq_false hn);(go_wp2)
    go_quiet (fail)
    (go_wp2);(go_ret2);(exact ⟨by rw [c2c]; rfl, pw_below_drewN HB.out _⟩)
/-- The edit says nothing. -/
def sameE (x : S36) : Bool := x.f1.toList == x.f2.toList
theorem sameE_calls (a : S36) (W : World) : Calls Tryz.prog 28 #[.agg #[.int .i64 a.f0, .string a.f1, .string a.f2]] W fun e w' => e = .returned (.bool (sameE a)) ∧ Below W.heap.size W w' := by
 unfold sameE
 cases a with
 | mk a0 a1 a2 =>
  go_enter Tryz.func28, Tryz.ntmps28
  (go_wp2);(go_ret);(exact ⟨rfl, below_alloc (Below.refl _ _) _⟩)
theorem zeroE_cells (m : Nat) : ((Builtin.zeroCells (Value.agg #[.int .i64 0, .string ⟨#[]⟩, .string ⟨#[]⟩]).cells m).toList).length = m * 3 := by
 simp [Builtin.zeroCells, Value.cells]
theorem zeroE_one (m : Nat) : ∀ v ∈ (Builtin.zeroCells (Value.agg #[.int .i64 0, .string ⟨#[]⟩, .string ⟨#[]⟩]).cells m).toList, v.oneCell' = true := by
 intro v hv;(simp only [Builtin.zeroCells, Array.toList_map, List.mem_map, Value.cells] at hv);(obtain ⟨i, _, rfl⟩ := hv);(have h3 : i % 3 = 0 ∨ i % 3 = 1 ∨ i % 3 = 2 := by omega);(have hsz : (#[Value.int .i64 0, .string ⟨#[]⟩, .string ⟨#[]⟩] : Array Value).size = 3 := rfl);(rw [hsz])
 rcases h3 with h | h | h <;> rw [h] <;> rfl
/-- The builtin clear at elements of several cells. -/
theorem run_clearE (w : World) (b o n c : Nat) (hn : 0 < n) (hc : ∀ j, j < n * 3 → (w.cell? ⟨b, o + j, none⟩).isSome = true) (hf : ∀ j, j < n * 3 → w.frozen? ⟨b, o + j, none⟩ = false) (ty : TypeId) :
  (Builtin.clear_ #[27] ty #[.slice (some ⟨b, o, none⟩) n c]).run Tryz.prog w = .ok (.tuple #[]) (w.setCells b o (Builtin.zeroCells (Value.agg #[.int .i64 0, .string ⟨#[]⟩, .string ⟨#[]⟩]).cells n).toList) := by
 (have hl := zeroE_cells n);(have hst := run_storeCells_cells (P := Tryz.prog) b o (Builtin.zeroCells (Value.agg #[.int .i64 0, .string ⟨#[]⟩, .string ⟨#[]⟩]).cells n).toList 0 w (by simpa [hl] using hc) (by simpa [hl] using hf) (zeroE_one n));(have hn2 : n ≠ 0 := by omega);(obtain ⟨m, rfl⟩ : ∃ m, n = m + 1 := ⟨n - 1, by omega⟩);(rw [Nat.add_zero] at hst);(unfold Builtin.clear_);(simp [run_underlying Tryz.underlying27, Tryz.zeroValue36, hst])
theorem mkTakeE {W : World} {base g c i : Nat} {cur : Array Value} {ys : List S36} (hh : W.heap[g]? = some (.cells cur 36 (0, 0))) (hg : base ≤ g) (hi : i ≤ ys.length) (hnc : ys.length ≤ c) (hc : c ≤ maxLen) (hsz : cur.size = c * 3) (ht : cur.toList.take (i * 3) = flE (ys.take i)) :
  Kd.R k36 36 W base (fun _ => True) (.slice (some ⟨g, 0, none⟩) i c) (ys.take i) := by
 have hl : (ys.take i).length = i := by rw [List.length_take, Nat.min_eq_left hi]
 apply mkE
 exact ⟨flE_length _, .inr ⟨g, c, cur, by rw [hl], hg, hh, by omega, hc, hsz, by rw [hl]; exact ht⟩⟩
theorem cellsE {W : World} {base g n c : Nat} {ys : List S36} (h : Kd.R k36 36 W base (fun _ => True) (.slice (some ⟨g, 0, none⟩) n c) ys) (i : Nat) (hi : i < n) :
  W.cell? ⟨g, i * 3, none⟩ = some (.int .i64 (rd_T36 ys (i : Int)).f0) ∧ W.cell? ⟨g, i * 3 + 1, none⟩ = some (.string (rd_T36 ys (i : Int)).f1) ∧ W.cell? ⟨g, i * 3 + 2, none⟩ = some (.string (rd_T36 ys (i : Int)).f2) ∧ W.frozen? ⟨g, i * 3, none⟩ = false ∧ W.frozen? ⟨g, i * 3 + 1, none⟩ = false ∧ W.frozen? ⟨g, i * 3 + 2, none⟩ = false := by
 (obtain ⟨hn, _, hC⟩ := Kd.R_reads' h);(obtain ⟨ad, e5, hx0, hx1, hx2⟩ := at_T36 hC (i : Int) (by omega) (by omega))
 injection e5 with e5
 subst e5;(simp only [Int.toNat_natCast, Addr.add_lit, Nat.zero_add] at hx0 hx1 hx2)
 rcases (ownE h).2 with ⟨h0, _⟩ | ⟨g', c', cur, hv, hg, hh, _⟩
 ·cases h0
 injection hv with hA _ _
 injection hA with hA
 injection hA with hA
 subst hA;(exact ⟨hx0, hx1, hx2, blk_frozen hh _, blk_frozen hh _, blk_frozen hh _⟩)
theorem setE {W : World} {base g n c : Nat} {ys : List S36} (h : Kd.R k36 36 W base (fun _ => True) (.slice (some ⟨g, 0, none⟩) n c) ys) (hg : base ≤ g) (hz : base ≤ W.heap.size) (i : Nat) (hi : i < n) (y : S36) :
  Kd.R k36 36 (((W.setCell ⟨g, i * 3, none⟩ (.int .i64 y.f0)).setCell ⟨g, i * 3 + 1, none⟩ (.string y.f1)).setCell ⟨g, i * 3 + 2, none⟩ (.string y.f2)) base (fun _ => True) (.slice (some ⟨g, 0, none⟩) n c) (ys.set i y) ∧ Below base W (((W.setCell ⟨g, i * 3, none⟩ (.int .i64 y.f0)).setCell ⟨g, i * 3 + 1, none⟩ (.string y.f1)).setCell ⟨g, i * 3 + 2, none⟩ (.string y.f2)) := by
 (obtain ⟨h0, h1, h2, _⟩ := cellsE h i hi);(have hw : (((W.setCell ⟨g, i * 3, none⟩ (.int .i64 y.f0)).setCell ⟨g, i * 3 + 1, none⟩ (.string y.f1)).setCell ⟨g, i * 3 + 2, none⟩ (.string y.f2)) = W.setCells g ((i : Int).toNat * k36.sz + 0) (eC y) := rfl)
 have hs := Kd.R_seg h (i : Int) (by omega) (by omega) (c := eC (rd_T36 ys (i : Int))) (seg := eC y) (j := 0) (x' := y) (okp := fun _ => False) rfl (fun j u hu => by
  show W.cell? ⟨g, i * 3 + j, none⟩ = some u
  match j, hu with
  | 0, hu => rw [← hu]; exact h0
  | 1, hu => rw [← hu]; exact h1
  | 2, hu => rw [← hu]; exact h2
  | j + 3, hu => simp [eC] at hu) (by show 0 + 3 ≤ 3; omega) (k36_mkM W base _ y) (fun k hk => hk.elim)
 (rw [hw]);(refine ⟨hs.1, below_setCells (Below.refl base W) hz hg _ _⟩)
theorem deE_calls (base : Nat) (v : Value) (xs : List S36) (w : World) (hR : Kd.R k36 36 w base (fun _ => True) v xs) (hl : xs.length ≤ 1000) (hbase : base ≤ w.heap.size) :
  Calls Tryz.prog 27 #[v, .func (.func 28) #[] #[]] w fun e w' => ∃ v1, e = .returned v1 ∧ Kd.R k36 36 w' base (fun _ => True) v1 (xs.filter fun x => !sameE x) ∧ Below base w w' := by
 (obtain ⟨A, c, rfl⟩ := Kd.R_slice hR);(obtain ⟨_, hnc, hC⟩ := Kd.R_reads' hR);(have hI := idxEdit_calls sameE 28 #[] (enters_of Tryz.func28 (by kernel_rfl) rfl) A c xs w hC (fun W x hb => (show Calls Tryz.prog 28 #[.agg #[.int .i64 x.f0, .string x.f1, .string x.f2]] W _ from (sameE_calls x W).mono (fun e w' h => ⟨h.1, below_step hb h.2⟩))));(have HR := Aside0.mk hR);(have HB0 := Aside0.mk hbase);(have HL := Aside0.mk hl);clear hR hC hbase
 cases hany : xs.any sameE with
 | false =>
  (have e1 : idxEdit_v sameE xs = -1 := by unfold idxEdit_v; rw [hany]; rfl);(rw [e1] at hI)
  have hfil : (xs.filter fun x => !sameE x) = xs := List.filter_eq_self.2 (fun x hx => by
   have := List.any_eq_false.1 hany x hx
   simpa using this)
  (have HF := Aside0.mk hfil);clear hfil hany
  go_enter Tryz.func27, Tryz.ntmps27
  (go_wp2_with (go_at_call 47; refine hI.mono ?_; rintro e w2 ⟨rfl, hb⟩; have HB := Aside0.mk hb; clear hb));(go_ret);(exact ⟨_, rfl, by rw [HF.out]; exact Kd.R_below HR.out HB.out, HB.out.mono HB0.out⟩)
 | true =>
  (have hfl : xs.findIdx sameE < xs.length := List.findIdx_lt_length_of_exists (by simpa using hany));(obtain ⟨i0, hi0⟩ : ∃ i0, i0 = xs.findIdx sameE := ⟨_, rfl⟩);(have e1 : idxEdit_v sameE xs = (i0 : Int) := by unfold idxEdit_v; rw [hany, hi0]; rfl);(rw [e1] at hI)
  have hp0 : sameE (rd_T36 xs (i0 : Int)) = true := by
   (rw [idxEdit_rd xs (i0 : Int) (by omega) (by omega)]);(have := List.findIdx_getElem (w := hfl));(simp only [Int.toNat_natCast, hi0]);(exact this)
  have hpre : (xs.take i0).filter (fun x => !sameE x) = xs.take i0 := List.filter_eq_self.2 (fun x hx => by
   (obtain ⟨q, hq, rfl⟩ := List.getElem_of_mem hx);(rw [List.length_take] at hq);(have := List.not_of_lt_findIdx (p := sameE) (xs := xs) (i := q) (by omega));(rw [List.getElem_take])
   simpa using this)
  (rw [← hi0] at hfl);clear hi0 hany e1;(have ho := ownE HR.out)
  rcases ho.2 with ⟨_, h0⟩ | ⟨g, c', cur, hv, hg, hh, hnc', hcm, hsz, ht⟩
  ·omega
  injection hv with hA hlen hc'
  clear hlen;subst hA;(subst hc');clear hh hsz ht cur ho
  have E0 := Aside0.mk (show xs.take i0 = (xs.take (i0 + 1)).filter (fun x => !sameE x) by
   (rw [List.take_succ_eq_append_getElem (by omega), List.filter_append, hpre]);(have e9 := hp0);(rw [idxEdit_rd xs (i0 : Int) (by omega) (by omega)] at e9);(simp only [Int.toNat_natCast] at e9);(simp [e9]))
  clear hpre hp0
  go_enter Tryz.func27, Tryz.ntmps27
  go_wp2_with (go_at_call 47; refine hI.mono ?_; rintro e w2 ⟨rfl, hb⟩; have HR2 := Aside0.mk (Kd.R_below HR.out hb); have HB := Aside0.mk (hb.mono HB0.out); have HZ := Aside0.mk (Nat.le_trans HB0.out hb.size); clear hb HR)
  go_loopg [5, 6] (xs.length - (i0 + 1)) (fun gk v5 v6 wr => ∃ (i j : Nat) (ys : List S36), v5 = .int .i64 i ∧ v6 = .int .i64 j ∧ i < j ∧ j ≤ xs.length ∧ j + gk = xs.length ∧ ys.length = xs.length ∧ Aside0 (ys.take i = (xs.take j).filter (fun x => !sameE x)) ∧ Aside0 (ys.drop j = xs.drop j) ∧ Aside0 (Kd.R k36 36 wr base (fun _ => True) (.slice (some ⟨g, 0, none⟩) xs.length c) ys) ∧ Aside0 (Below base w wr) ∧ Aside0 (base ≤ wr.heap.size))
  case atStart => exact ⟨i0, i0 + 1, xs, rfl, by first | rfl | (congr 1; omega), by omega, by omega, by omega, rfl, E0, ⟨rfl⟩, HR2, HB, HZ⟩
  case round =>
   clear E0 HR2 HB HZ;(obtain ⟨i, j, ys, rfl, rfl, hij, hjn, hjg, hyl, EA, ED, HR, HB, HZ⟩ := hrel);(have hCy := (Kd.R_reads' HR.out).2.2);(rw [hyl] at hCy)
   cases gk with
   | zero =>
    (obtain rfl : j = xs.length := by omega);(have c5b : decide ((xs.length : Int) < (xs.length : Int)) = false := decide_eq_false (by omega))
    rcases (ownE HR.out).2 with ⟨h0, _⟩ | ⟨g', c', cur, hv, hg2, hh, hnc2, hcm2, hsz, ht⟩
    ·cases h0
    injection hv with hA hlen hcc
    clear hlen
    injection hA with hA
    injection hA with hA
    (subst hA hcc);(have hcl : ∀ ty, (Builtin.clear_ #[27] ty #[.slice (some ⟨g, i * 3, none⟩) (xs.length - i) (c - i)]).run Tryz.prog wr = .ok (.tuple #[]) (wr.setCells g (i * 3) (Builtin.zeroCells (Value.agg #[.int .i64 0, .string ⟨#[]⟩, .string ⟨#[]⟩]).cells (xs.length - i)).toList) := fun ty => run_clearE wr g (i * 3) (xs.length - i) (c - i) (by omega) (fun t ht2 => (by rw [blk_cell hh, Array.getElem?_eq_getElem (by omega)]; rfl)) (fun t ht2 => blk_frozen hh _) ty);(have hzl := zeroE_cells (xs.length - i));(obtain ⟨Z, hZ⟩ : ∃ Z, Z = (Builtin.zeroCells (Value.agg #[.int .i64 0, .string ⟨#[]⟩, .string ⟨#[]⟩]).cells (xs.length - i)).toList := ⟨_, rfl⟩);(rw [← hZ] at hcl hzl);clear hZ;(rw [hyl] at ht);(obtain ⟨cur2, h1, h2, h3⟩ := setCells_row Z (i * 3) wr cur hh (by omega))
    have ht2 : cur2.toList.take (i * 3) = flE (ys.take i) := by
     (have hcl2 : cur.toList.length = cur.size := Array.length_toList);(rw [h3, List.append_assoc, List.take_append_of_le_length (by rw [List.length_take]; omega), List.take_take, Nat.min_self, ← flE_take ys i (by omega), ← ht, List.take_take, Nat.min_eq_left (by omega)])
    (have HRZ := Aside0.mk (mkTakeE h1 hg (by omega) (by omega) hcm2 (by rw [h2, hsz]) ht2));(have HBZ := Aside0.mk (HB.out.trans (below_setCells (Below.refl base wr) HZ.out hg (i * 3) Z)));(have hin : i ≤ xs.length := by omega);(have hi9 : ¬ (c = i) := by omega);(have p11 : (0 ≤ (i : Int)) = True := eq_true (by omega));(have q11 : ((i : Int) ≤ (xs.length : Int)) = True := eq_true (by omega));clear h1 h2 h3 ht2 hh hsz ht hzl hCy;clear hjg hjn hyl hcm2 hnc2 hg2;(go_wp2);(go_ret);(refine ⟨_, rfl, ?_, HBZ.out⟩);(have e8 := EA.out);(rw [List.take_length] at e8);(rw [← e8]);(exact HRZ.out)
   | succ gk =>
    (have hj : j < xs.length := by omega);(have c5b : decide ((j : Int) < (xs.length : Int)) = true := decide_eq_true (by omega));(have p7 : (0 ≤ (j : Int)) = True := eq_true (by omega));(have q7 : ((j : Int) < (xs.length : Int)) = True := eq_true (by omega));(obtain ⟨ad, e5, hx0, hx1, hx2⟩ := at_T36 hCy (j : Int) (by omega) (by omega))
    injection e5 with e5
    subst e5;(obtain ⟨y, hy⟩ : ∃ y, y = rd_T36 ys (j : Int) := ⟨_, rfl⟩);(rw [← hy] at hx0 hx1 hx2);(simp only [Int.toNat_natCast, Addr.add_lit, Nat.zero_add] at hx0 hx1 hx2)
    have hxj : xs[j] = y := by
     (rw [hy, idxEdit_rd ys (j : Int) (by omega) (by omega)]);(have e8 := ED.out);(rw [List.drop_eq_getElem_cons hj, List.drop_eq_getElem_cons (show j < ys.length by omega)] at e8)
     injection e8 with e8 _
     (simp only [Int.toNat_natCast]);(exact e8.symm)
    (have HY := Aside0.mk hxj);clear hy hxj
    cases hs : sameE y with
    | true =>
     (go_wp2_with (go_at_call 28; refine (sameE_calls y _).mono ?_; rw [hs]; rintro e w3 ⟨rfl, hb⟩; have HB3 := Aside0.mk hb; clear hb));(have HR3 := Aside0.mk (Kd.R_below (Kd.R_alloc HR.out _) HB3.out));(have HB4 := Aside0.mk ((HB.out.alloc HZ.out _).trans (HB3.out.mono (Nat.le_trans HZ.out zq80))));(have HZ4 := Aside0.mk (show base ≤ w3.heap.size from Nat.le_trans HZ.out (Nat.le_trans zq80 HB3.out.size)));clear hx0 hx1 hx2 p7 q7;(go_roundg gk)
     case measure => omega
     case rel => exact ⟨i, j + 1, ys, rfl, by first | rfl | (simp; done), by omega, by omega, by omega, hyl, ⟨by rw [EA.out, List.take_succ_eq_append_getElem hj, List.filter_append, HY.out]; simp [hs]⟩, ⟨by have e8 := ED.out; rw [List.drop_eq_getElem_cons hj, List.drop_eq_getElem_cons (show j < ys.length by omega)] at e8; injection e8⟩, HR3, HB4, HZ4⟩
    | false =>
     (have hi : i < xs.length := by omega);(have p9 : (0 ≤ (i : Int)) = True := eq_true (by omega));(have q9 : ((i : Int) < (xs.length : Int)) = True := eq_true (by omega));(go_wp2_with (go_at_call 28; refine (sameE_calls y _).mono ?_; rw [hs]; rintro e w3 ⟨rfl, hb⟩; have HB3 := Aside0.mk hb; have HR3 := Aside0.mk (Kd.R_below (Kd.R_alloc HR.out (.cells #[.int .i64 y.f0, .string y.f1, .string y.f2] 36 (0, 0))) hb); have HX := Aside0.mk (blk_below (blk_new wr (.cells #[.int .i64 y.f0, .string y.f1, .string y.f2] 36 (0, 0))) hb); obtain ⟨hc0, hc1, hc2, hf0, hf1, hf2⟩ := cellsE HR3.out i hi; have hb0 := blk_cell HX.out 0; have hb1 := blk_cell HX.out 1; have hb2 := blk_cell HX.out 2; clear hb));(have HZ3 := Aside0.mk (show base ≤ w3.heap.size from Nat.le_trans HZ.out (Nat.le_trans zq80 HB3.out.size)));(have HB4 := Aside0.mk ((HB.out.alloc HZ.out _).trans (HB3.out.mono (Nat.le_trans HZ.out zq80))));(have HS := Aside0.mk (setE HR3.out hg HZ3.out i hi y));clear hx0 hx1 hx2 p7 q7 p9 q9 hc0 hc1 hc2 hf0 hf1 hf2 hb0 hb1 hb2;(go_roundg gk)
     case measure => omega
     case rel => exact ⟨i + 1, j + 1, ys.set i y, by first | rfl | (simp; done), by first | rfl | (simp; done), by omega, by omega, by omega, by rw [List.length_set]; exact hyl, ⟨by rw [List.take_succ_eq_append_getElem (by rw [List.length_set]; omega), List.getElem_set_self, List.take_set_of_le (Nat.le_refl _), EA.out, List.take_succ_eq_append_getElem hj, List.filter_append, HY.out]; simp [hs]⟩, ⟨by rw [List.drop_set_of_lt (by omega)]; have e8 := ED.out; rw [List.drop_eq_getElem_cons hj, List.drop_eq_getElem_cons (show j < ys.length by omega)] at e8; injection e8⟩, ⟨HS.out.1⟩, ⟨HB4.out.trans HS.out.2⟩, ⟨Nat.le_trans HZ3.out HS.out.2.size⟩⟩
theorem insE_any (base : Nat) (v : Value) (xs : List S36) (x : S36) (i vb : Nat) (w : World) (hR : Kd.R k36 36 w base (fun _ => True) v xs) (hi : i ≤ xs.length) (hl : xs.length ≤ 1000) (hvb : w.heap[vb]? = some (.cells (eC x).toArray 36 (0, 0))) (hne : some vb ≠ v.ownBlock) (hbase : base ≤ w.heap.size) :
  Calls Tryz.prog 26 #[v, .int .i64 i, .slice (some ⟨vb, 0, none⟩) 1 1] w fun e w' => ∃ v1, e = .returned v1 ∧ Kd.R k36 36 w' base (fun _ => True) v1 (xs.take i ++ x :: xs.drop i) ∧ Below base w w' := by
 rcases Nat.lt_or_ge i xs.length with h | h
 ·exact insE_calls base v xs x i vb w hR h hl hvb hne hbase
 ·obtain rfl : i = xs.length := by omega
  (rw [List.take_length, List.drop_length]);(exact insE_end base v xs x vb w hR hl hvb hne hbase)
theorem setE2 {W : World} {base g n c : Nat} {ys : List S36} (h : Kd.R k36 36 W base (fun _ => True) (.slice (some ⟨g, 0, none⟩) n c) ys) (hg : base ≤ g) (hz : base ≤ W.heap.size) (i : Nat) (hi : i < n) (s : ByteArray) :
  Kd.R k36 36 (W.setCell ⟨g, i * 3 + 2, none⟩ (.string s)) base (fun _ => True) (.slice (some ⟨g, 0, none⟩) n c) (ys.set i ⟨(rd_T36 ys (i : Int)).f0, (rd_T36 ys (i : Int)).f1, s⟩) ∧ Below base W (W.setCell ⟨g, i * 3 + 2, none⟩ (.string s)) := by
 (obtain ⟨h0, h1, h2, _⟩ := cellsE h i hi);(have hw : (W.setCell ⟨g, i * 3 + 2, none⟩ (.string s)) = W.setCells g ((i : Int).toNat * k36.sz + 2) [.string s] := rfl)
 have hs := Kd.R_seg h (i : Int) (by omega) (by omega) (c := eC (rd_T36 ys (i : Int))) (seg := [.string s]) (j := 2) (x' := ⟨(rd_T36 ys (i : Int)).f0, (rd_T36 ys (i : Int)).f1, s⟩) (okp := fun _ => False) rfl (fun j u hu => by
  show W.cell? ⟨g, i * 3 + j, none⟩ = some u
  match j, hu with
  | 0, hu => rw [← hu]; exact h0
  | 1, hu => rw [← hu]; exact h1
  | 2, hu => rw [← hu]; exact h2
  | j + 3, hu => simp [eC] at hu) (by show 2 + 1 ≤ 3; omega) (k36_mkM W base _ ⟨(rd_T36 ys (i : Int)).f0, (rd_T36 ys (i : Int)).f1, s⟩) (fun k hk => hk.elim)
 (rw [hw]);(exact ⟨hs.1, below_setCells (Below.refl base W) hz hg _ _⟩)
/-- One edit is put to the ones before it. -/
def fdE (o : List S36) (x : S36) : Bool := decide (bsI o x.f0 < o.length) && decide (wrap64 ((rd_T36 o (bsI o x.f0)).f0 - x.f0) = 0)
def shStep (o : List S36) (x : S36) : Option (List S36) := if fdE o x = true then (if (rd_T36 o (bsI o x.f0)).f2.toList = x.f1.toList then some (o.set (bsI o x.f0) ⟨(rd_T36 o (bsI o x.f0)).f0, (rd_T36 o (bsI o x.f0)).f1, x.f2⟩) else none) else some (o.take (bsI o x.f0) ++ x :: o.drop (bsI o x.f0))
def shAll : List S36 → List S36 → Option (List S36)
 | o, [] => some o
 | o, x :: xs => (shStep o x).bind fun o' => shAll o' xs
theorem bsI_le (xs : List S36) (p : Int) : bsI xs p ≤ xs.length := bsGo_le xs p _ _ _ (Nat.zero_le _)
theorem shStep_length {o o' : List S36} {x : S36} (h : shStep o x = some o') : o'.length ≤ o.length + 1 := by
 (unfold shStep at h);(have hb := bsI_le o x.f0)
 split at h
 ·split at h
  ·obtain rfl := Option.some.inj h
   (rw [List.length_set]);(omega)
  ·cases h
 ·obtain rfl := Option.some.inj h
  (rw [List.length_append, List.length_take, List.length_cons, List.length_drop]);(omega)
def impl_ShortEdits.f (l0 : List S36) : Option (List S36 × Int) := (impl_ValidEdits.f l0).bind fun v => if v = true then (match shAll [] l0 with | some o => some (o.filter (fun x => !sameE x), 0) | none => some ([], 9)) else some ([], 1)
theorem impl_ShortEdits.calls (A0 : Option Addr) (c0 : Nat) (l0 : List S36) (r1 : List S36) (r2 : Int) (w : World) (hr0 : Kd.C k36 w A0 l0.length l0) (hc0 : l0.length ≤ c0) (h : impl_ShortEdits.f l0 = some (r1, r2)) :
  Calls Tryz.prog 11 #[.slice A0 l0.length c0] w fun e w' => ∃ v0_ : Value, e = .returned (.tuple #[v0_, .int .i64 r2]) ∧ Kd.R k36 36 w' w.heap.size (fun _ => True) v0_ r1 ∧ Below w.heap.size w w' := by
 (unfold impl_ShortEdits.f at h);(have h0 := h);clear h;(obtain ⟨v, e1, h⟩ := Option.bind_eq_some_iff.1 h0);clear h0;(have A1 := Aside0.mk e1);(have HR0 := Aside0.mk hr0);(have HC0 := Aside0.mk hc0)
 cases v with
 | false =>
  (obtain ⟨rfl, rfl⟩ := Prod.mk.inj (Option.some.inj (show some (([] : List S36), (1 : Int)) = some (r1, r2) from h)));clear h hr0 hc0 e1
  go_enter Tryz.func11, Tryz.ntmps11
  (go_wp2_with (go_at_call 20; (with_reducible refine (impl_ValidEdits.calls A0 c0 l0 false _ HR0.out HC0.out A1.out).mono ?_); rintro e w2 ⟨rfl, hb⟩));(go_ret2);(exact ⟨_, rfl, Kd.R_nil _ _ _ _ _, hb⟩)
 | true =>
  have hn20 : l0.length ≤ 20 := by
   unfold impl_ValidEdits.f at e1
   split at e1
   ·omega
   ·cases e1
  (rw [if_pos rfl] at h);(obtain ⟨res, hres⟩ : ∃ res, res = shAll [] l0 := ⟨_, rfl⟩);(rw [← hres] at h);(have HE := Aside0.mk h);(have HS := Aside0.mk (show shAll [] (l0.drop 0) = res by rw [List.drop_zero]; exact hres.symm));clear h hres hr0 hc0 e1;(have HB := Aside0.mk (Below.refl w.heap.size w))
  go_enter Tryz.func11, Tryz.ntmps11
  go_wp2_with (first | (go_at_call 20; (with_reducible refine (impl_ValidEdits.calls A0 c0 l0 true _ HR0.out HC0.out A1.out).mono ?_); rintro e w2 ⟨rfl, hb⟩; have n1_ := Aside0.mk (below_step HB.out hb); clear HB hb; have HB := n1_; clear n1_) | ((with_reducible refine gate_dst (N := 12) rfl ?_); refine Kd.R_lit k36 _ 36 ?hg (N := 12) ?hd (xs := ([] : List S36)) (inner := []) (ok := fun _ => True) (okp := fun _ => True) ?hr ?hp (fun _ hk => hk) trivial (Below.refl _ _) (Nat.le_refl _) (by simp) ?_; (case hd => rfl); (case hg => rfl); (case hr => first | (go_simp; done) | (go_simp; rfl)); (case hp => exact (Reps.none _ _)); intro v1 w3 ho4 hb hg_ hnew_; clear hg_ hnew_; have HO := Aside0.mk (Kd.R_lower ho4 (below_size HB.out)); have n1_ := Aside0.mk (below_step HB.out hb); clear HB; have HB := n1_; clear n1_ hb ho4))
  go_loopg [4, 15] l0.length (fun g v4 v15 w' => ∃ (i : Nat) (o1 : List S36), v15 = .int .i64 i ∧ i + g = l0.length ∧ o1.length ≤ i ∧ Aside0 (shAll o1 (l0.drop i) = res) ∧ Aside0 (Kd.R k36 36 w' w.heap.size (fun _ => True) v4 o1) ∧ Aside0 (Below w.heap.size w w'))
  case atStart => exact ⟨0, [], rfl, by omega, Nat.le_refl _, HS, HO, HB⟩
  case round =>
   clear HS HO HB;(obtain ⟨i, o1, rfl, hig, hol, HS, HO, HB⟩ := hrel)
   cases gk with
   | zero =>
    (obtain rfl : i = l0.length := by omega);(have c5b0 : decide ((l0.length : Int) < (l0.length : Int)) = false := decide_eq_false (by omega));(have H := HS.out);(rw [List.drop_length] at H);(obtain rfl : some o1 = res := H);(have h := HE.out);(obtain ⟨rfl, rfl⟩ := Prod.mk.inj (Option.some.inj (show some (o1.filter (fun x => !sameE x), (0 : Int)) = some (r1, r2) from h)));clear h HE HS;(have HOL := Aside0.mk hol);clear hig hol;(go_wp2_with (go_at_call 27; refine (deE_calls w.heap.size _ o1 _ HO.out (by have := HOL.out; omega) (below_size HB.out)).mono ?_; rintro e w5 ⟨v5, rfl, hr5, hb5⟩; have HR5 := Aside0.mk hr5; have HB5 := Aside0.mk (HB.out.trans hb5); clear hr5 hb5));(go_ret2);(exact ⟨_, rfl, HR5.out, HB5.out⟩)
   | succ g =>
    (have hi : i < l0.length := by omega);(have c5b0 : decide ((i : Int) < (l0.length : Int)) = true := decide_eq_true (by omega));(have p6 : (0 ≤ (i : Int)) = True := eq_true (by omega));(have q6 : ((i : Int) < (l0.length : Int)) = True := eq_true (by omega));(obtain ⟨ad, e5, hx0, hx1, hx2⟩ := at_T36 (Kd.C_below HR0.out HB.out) (i : Int) (by omega) (by omega));subst e5;(obtain ⟨x, hx⟩ : ∃ x, x = rd_T36 l0 (i : Int) := ⟨_, rfl⟩);(have hdr : l0.drop i = x :: l0.drop (i + 1) := by rw [hx, List.drop_eq_getElem_cons hi]; simp [rd_T36, List.getD, hi]);(rw [← hx] at hx0 hx1 hx2);clear hx;(simp only [Int.toNat_natCast] at hx0 hx1 hx2);(have H := HS.out);(rw [hdr] at H);(unfold shAll at H);clear HS hdr;(have HSP := Aside0.mk H);clear H;(have hol2 : o1.length ≤ 1000 := by omega);(have w15 : wrap64 ((i : Int) + 1) = ((i + 1 : Nat) : Int) := by unfold wrap64; omega);(have HOb := Aside0.mk (Kd.R_alloc HO.out (.cells #[.int .i64 x.f0, .string x.f1, .string x.f2] 36 (0, 0))));(have HBb := Aside0.mk (below_alloc HB.out (.cells #[.int .i64 x.f0, .string x.f1, .string x.f2] 36 (0, 0))));(have HXb := Aside0.mk (blk_new wr (.cells #[.int .i64 x.f0, .string x.f1, .string x.f2] 36 (0, 0))));(obtain ⟨A, c, hu4⟩ := Kd.R_slice HO.out);subst hu4;clear HO HB;(have HKL := Aside0.mk (bsI_le o1 x.f0))
    cases hfd : fdE o1 x with
    | false =>
     (have hst : shStep o1 x = some (o1.take (bsI o1 x.f0) ++ x :: o1.drop (bsI o1 x.f0)) := by unfold shStep; rw [hfd]; rfl);(have H := HSP.out);(rw [hst] at H);(have HSN := Aside0.mk (show shAll (o1.take (bsI o1 x.f0) ++ x :: o1.drop (bsI o1 x.f0)) (l0.drop (i + 1)) = res from H));(have hlen := shStep_length hst);clear H HSP hst;(have hfd2 := hfd);(unfold fdE at hfd2);(go_wp2_with (first | (go_at_call 24; refine (bsE_calls A c o1 x.f0 x.f1 x.f2 _ (Kd.R_reads' HOb.out).2.2 hol2).mono ?_; rw [hfd2]; rintro e w5 ⟨rfl, hb⟩; have HO5 := Aside0.mk (Kd.R_below HOb.out hb); have HB5 := Aside0.mk (below_step HBb.out hb); have HX5 := Aside0.mk (blk_below HXb.out hb); have hb0 := blk_cell HX5.out 0; have hb1 := blk_cell HX5.out 1; have hb2 := blk_cell HX5.out 2; clear hb HOb HBb HXb) | (go_at_call 26; refine (insE_any w.heap.size (.slice A o1.length c) o1 x (bsI o1 x.f0) w5.heap.size _ (Kd.R_alloc HO5.out _) HKL.out hol2 (blk_new w5 _) (fun he => by have := Kd.R_lt HO5.out _ he.symm; omega) (Nat.le_trans (below_size HB5.out) zq80)).mono ?_; rintro e w6 ⟨v6, rfl, hr6, hb6⟩; have HO6 := Aside0.mk hr6; have HB6 := Aside0.mk ((below_alloc HB5.out _).trans hb6); clear hr6 hb6 HO5 HB5 HX5 hb0 hb1 hb2)));(go_roundg g)
     case measure => clear w15; omega
     case rel => exact ⟨i + 1, _, by first | rfl | (simp [*]; done), by clear w15; omega, by clear w15; omega, HSN, HO6, HB6⟩
    | true =>
     (have hfd2 := hfd);(unfold fdE at hfd2);(have hk1 : bsI o1 x.f0 < o1.length := of_decide_eq_true (Bool.and_eq_true_iff.1 hfd2).1);(obtain ⟨gg, cap, hv, hgb, hgl, _⟩ := Kd.R_form HOb.out (show 0 < o1.length by omega))
     injection hv with hA hlen hcc
     clear hlen;(subst hA hcc);(have p10 : (0 ≤ (bsI o1 x.f0 : Int)) = True := eq_true (by omega));(have q10 : ((bsI o1 x.f0 : Int) < (o1.length : Int)) = True := eq_true (by omega));(obtain ⟨z, hz⟩ : ∃ z, z = rd_T36 o1 (bsI o1 x.f0 : Int) := ⟨_, rfl⟩);(have HZ := Aside0.mk hz);(by_cases hcl : z.f2.toList = x.f1.toList)
     ·have hst : shStep o1 x = some (o1.set (bsI o1 x.f0) ⟨z.f0, z.f1, x.f2⟩) := by unfold shStep; rw [hfd, if_pos rfl, ← hz, if_pos hcl]
      (have H := HSP.out);(rw [hst] at H);(have HSN := Aside0.mk (show shAll (o1.set (bsI o1 x.f0) ⟨z.f0, z.f1, x.f2⟩) (l0.drop (i + 1)) = res from H));(have hlen := shStep_length hst);clear H HSP hst;(have c8 : (z.f2.toList == x.f1.toList) = true := beq_iff_eq.2 hcl);(have c8b : (z.f2.toList != x.f1.toList) = false := bne_eq_false_iff_eq.2 hcl);clear hcl hz;(go_wp2_with (first | (go_at_call 24; refine (bsE_calls (some ⟨gg, 0, none⟩) c o1 x.f0 x.f1 x.f2 _ (Kd.R_reads' HOb.out).2.2 hol2).mono ?_; rw [hfd2]; rintro e w5 ⟨rfl, hb⟩; have HO5 := Aside0.mk (Kd.R_below HOb.out hb); have HB5 := Aside0.mk (below_step HBb.out hb); have HX5 := Aside0.mk (blk_below HXb.out hb); have hb0 := blk_cell HX5.out 0; have hb1 := blk_cell HX5.out 1; have hb2 := blk_cell HX5.out 2; obtain ⟨hc0, hc1, hc2, hf0, hf1, hf2⟩ := cellsE HO5.out (bsI o1 x.f0) hk1; rw [← HZ.out] at hc0 hc1 hc2; clear hb HOb HBb HXb)))
      go_quiet (fail)
      (have HO7 := Aside0.mk (Kd.R_drewN HO5.out nq));(have HB7 := Aside0.mk (pw_below_drewN HB5.out nq));(have HX7 := Aside0.mk (blk_drewN HX5.out nq));clear hc0 hc1 hc2 hf0 hf1 hf2 hb0 hb1 hb2;(obtain ⟨W7, hW7⟩ : ∃ W7, W7 = w5.drewN nq := ⟨_, rfl⟩);(rw [← hW7] at HO7 HB7 HX7 ⊢);clear hW7;(have hb2 := blk_cell HX7.out 2);(obtain ⟨hc0, hc1, hc2, hf0, hf1, hf2⟩ := cellsE HO7.out (bsI o1 x.f0) hk1);(rw [← HZ.out] at hc0 hc1 hc2);(have HZB := Aside0.mk (Nat.le_trans (Nat.le_refl _) (below_size HB7.out)));(have HS7 := Aside0.mk (setE2 HO7.out hgb HZB.out (bsI o1 x.f0) hk1 x.f2));(rw [← HZ.out] at HS7);(go_wp2);(go_roundg g)
      case measure => clear w15; omega
      case rel => exact ⟨i + 1, _, by first | rfl | (simp [*]; done), by clear w15; omega, by clear w15; omega, HSN, ⟨HS7.out.1⟩, ⟨HB7.out.trans HS7.out.2⟩⟩
     ·have hst : shStep o1 x = none := by unfold shStep; rw [hfd, if_pos rfl, ← hz, if_neg hcl]
      (have H := HSP.out);(rw [hst] at H);(obtain rfl : none = res := H);(have h := HE.out);(obtain ⟨rfl, rfl⟩ := Prod.mk.inj (Option.some.inj (show some (([] : List S36), (9 : Int)) = some (r1, r2) from h)));clear h HE HSP hst;(have c8 : (z.f2.toList == x.f1.toList) = false := beq_eq_false_iff_ne.2 hcl);(have c8b : (z.f2.toList != x.f1.toList) = true := bne_iff_ne.2 hcl);clear hcl hz;(go_wp2_with (first | (go_at_call 24; refine (bsE_calls (some ⟨gg, 0, none⟩) c o1 x.f0 x.f1 x.f2 _ (Kd.R_reads' HOb.out).2.2 hol2).mono ?_; rw [hfd2]; rintro e w5 ⟨rfl, hb⟩; have HO5 := Aside0.mk (Kd.R_below HOb.out hb); have HB5 := Aside0.mk (below_step HBb.out hb); have HX5 := Aside0.mk (blk_below HXb.out hb); have hb0 := blk_cell HX5.out 0; have hb1 := blk_cell HX5.out 1; have hb2 := blk_cell HX5.out 2; obtain ⟨hc0, hc1, hc2, hf0, hf1, hf2⟩ := cellsE HO5.out (bsI o1 x.f0) hk1; rw [← HZ.out] at hc0 hc1 hc2; clear hb HOb HBb HXb)))
      go_quiet (fail)
      (go_wp2);(go_ret2);(exact ⟨_, rfl, Kd.R_nil _ _ _ _ _, pw_below_drewN HB5.out _⟩)


end Go.Proofs.YtlkgajfhgcongaaGreatDoor.PFnEdits
