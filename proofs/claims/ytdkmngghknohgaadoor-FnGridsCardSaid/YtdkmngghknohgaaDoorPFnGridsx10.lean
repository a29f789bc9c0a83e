-- Made by a program of this session (gprint.py) out of the kit's print of the translation and texts of my own. SLIM
import Derived.Test.YtdkmngghknohgaaDoorPFnGridsx0
import Derived.Test.YtdkmngghknohgaaDoorPFnGridsx1
import Derived.Test.YtdkmngghknohgaaDoorPFnGridsx2
namespace Go.Proofs.YtdkmngghknohgaaDoor.PFnGrids
open Go.RowKit Go.Proofs.YtdkmngghknohgaaDoorW.PrintWords Go.Proofs.YtdkmngghknohgaaDoorW.PrintLast Go.Proofs.YtdkmngghknohgaaDoorW.PrintMore
set_option maxHeartbeats 64000000
set_option maxRecDepth 100000
attribute [local go_sem] max2_int min2_int max_two min_two max_three min_three max_four min_four   -- for this text's walks alone
set_option linter.unusedVariables false
set_option linter.unusedSimpArgs false

/-! ### impl_partsOf: function 41 -/
-- given by hand
/-! ### A map of bools that the call made: the look-up -/
theorem plainElem_bool_inv {H : Type} {P : Program} {e : TypeId} (he : P.underlying e = some .bool) {v : Value} {z : DataW H × List MemPlace} (h : plainElem P e v = some z) : ∃ x, v = .bool x ∧ z = (.lit (.bool x), []) := by
 (unfold plainElem at h);(rw [he] at h)
 cases v <;> simp at h
 exact ⟨_, rfl, h.symm⟩
/-- Block b is a map from cells to bools that holds true at the cells of S and nothing else. -/
def HasS {α : Type} (w : World) (P : Program) (k e : TypeId) (val : α → Value) (b n : Nat) (S : α → Bool) : Prop :=
 ∃ D : DataW Unit, w.ownsMap P k (plainElem P e) b n D ∧ Maps.IsMap D ∧ ∀ (c : α) (l : Lit), keyOf P k (val c) = some l → D.atKey l (.lit (.bool false)) = .lit (.bool (S c))
theorem HasS.made {α : Type} (w : World) (P : Program) (k e : TypeId) (val : α → Value) : HasS (w.alloc (.map #[] 0)) P k e val w.heap.size 0 (fun _ => false) :=
 ⟨.map [], World.ownsMap_made w P k _, ⟨[], rfl⟩, fun _ _ _ => rfl⟩
theorem HasS.kept {α : Type} {w w' : World} {P : Program} {k e : TypeId} {val : α → Value} {b n : Nat} {S : α → Bool} {row : Option Nat} (h : HasS w P k e val b n S) (hg : w.grownBy w' row) (hne : some b ≠ row) : HasS w' P k e val b n S := by
 (obtain ⟨D, h1, h2, h3⟩ := h);(exact ⟨D, h1.kept hg hne, h2, h3⟩)
theorem HasS.lt {α : Type} {w : World} {P : Program} {k e : TypeId} {val : α → Value} {b n : Nat} {S : α → Bool} (h : HasS w P k e val b n S) : b < w.heap.size := by
 (obtain ⟨D, h1, _⟩ := h);(exact h1.lt)
theorem HasS.look {α : Type} {w : World} {P : Program} {k e t : TypeId} {val : α → Value} {b n : Nat} {S : α → Bool} (h : HasS w P k e val b n S) (K : Maps.Keyed P k) (ht : P.underlying t = some (.map k e)) (he : P.underlying e = some .bool) (hz : (zeroValue e).run P w = .ok (.bool false) w)
  {c : α} {l : Lit} (hkey : keyOf P k (val c) = some l) : (Instr.lookup t (.map (some b)) (val c) false).run P w = .ok (.bool (S c)) w := by
 (obtain ⟨D, h1, h2, h3⟩ := h);(obtain ⟨v, ps, hrun, hv⟩ := h1.lookup K ht hz (plainElem_bool he false) hkey);(obtain ⟨x, rfl, hx⟩ := plainElem_bool_inv he hv);(rw [h3 c l hkey] at hx)
 injection hx with hx
 injection hx with hx
 injection hx with hx
 (rw [hx]);(exact hrun)
theorem HasS.put {α : Type} [DecidableEq α] {w : World} {P : Program} {k e t : TypeId} {val : α → Value} (hinj : ∀ c c', val c = val c' → c = c') {b n : Nat} {S : α → Bool} (h : HasS w P k e val b n S) (K : Maps.Keyed P k) (ht : P.underlying t = some (.map k e)) (he : P.underlying e = some .bool) (hn : n < maxLen)
  {c : α} {l : Lit} (hkey : keyOf P k (val c) = some l) : ∃ w', (Instr.mapUpdate t (.map (some b)) (val c) (.bool true)).run P w = .ok () w' ∧ HasS w' P k e val b (n + 1) (fun x => decide (x = c) || S x) ∧ w.grownBy w' (some b) := by
 (obtain ⟨D, h1, h2, h3⟩ := h);(obtain ⟨w', hrun, hown, hg⟩ := h1.update K ht hn hkey (plainElem_bool he true));(refine ⟨w', hrun, ⟨_, hown, ?_, fun c' l' hk' => ?_⟩, hg⟩)
 ·obtain ⟨es, rfl⟩ := h2
  exact ⟨_, rfl⟩
 ·by_cases q : c' = c
  ·subst q
   (rw [hkey] at hk');(obtain rfl := Option.some.inj hk');(rw [Maps.atKey_put_same h2 (K.key hkey)])
   show DataW.lit (Lit.bool true) = DataW.lit (Lit.bool (decide (c' = c') || S c'))
   rw [decide_eq_true rfl, Bool.true_or]
  ·have hl : l' ≠ l := fun e_ => q (hinj _ _ (K.inj hk' (e_ ▸ hkey)))
   rw [Maps.atKey_put_other hl, h3 c' l' hk']
   show DataW.lit (Lit.bool (S c')) = DataW.lit (Lit.bool (decide (c' = c) || S c'))
   rw [decide_eq_false q, Bool.false_or]
/-! ### A row that begins behind its block's front -/
/-- An own row (a queue cut at its front): n elements of the row xs from the cell o of its block on. -/
def World.ownsFrom (w : World) (base : Nat) (e : TypeId) (size : Nat) (v : Value) (n : Nat) (xs : List Value) : Prop :=
 xs.length = n * size ∧ ∃ g o cap cur, v = .slice (some ⟨g, o, none⟩) n cap ∧ base ≤ g ∧ w.heap[g]? = some (.cells cur e (0, 0)) ∧ n ≤ cap ∧ cap ≤ maxLen ∧ o + cap * size ≤ cur.size ∧ (cur.toList.drop o).take (n * size) = xs
theorem ownsFrom_kept {w w' : World} {base : Nat} {e : TypeId} {size : Nat} {v : Value} {n : Nat} {xs : List Value} {row : Option Nat} (h : World.ownsFrom w base e size v n xs) (hg : w.grownBy w' row) (hne : v.ownBlock ≠ row) : World.ownsFrom w' base e size v n xs := by
 (obtain ⟨h1, g, o, cap, cur, rfl, hb, hgg, rest⟩ := h);(refine ⟨h1, g, o, cap, cur, rfl, hb, ?_, rest⟩);(rw [hg.block g (Array.getElem?_eq_some_iff.1 hgg).1 (by simpa [Value.ownBlock] using hne)]);(exact hgg)
theorem ownsFrom_cells {w : World} {base : Nat} {e : TypeId} {size : Nat} {g o : Nat} {n cap : Nat} {xs : List Value} (h : World.ownsFrom w base e size (.slice (some ⟨g, o, none⟩) n cap) n xs) : ∀ j u, xs[j]? = some u → w.cell? ((⟨g, o, none⟩ : Addr).add j) = some u := by
 intro j u hu;(obtain ⟨h1, g', o', cap', cur, he, hb, hgg, hnc, hcm, hcs, htake⟩ := h)
 injection he with he he2 he3
 injection he with he
 injection he with hg ho
 subst hg;subst ho;(rw [Addr.add_lit, cell_of_row w g (o + j) cur e (0, 0) hgg]);(rw [← htake, List.getElem?_take] at hu)
 split at hu
 ·simpa using hu
 ·cases hu
theorem run_append_room_at {P : Program} (w : World) (t ty e : TypeId) (i : TypeInfo) (ht : P.underlying t = some (.slice e)) (hi : P.info? e = some i)
  (g of sLen sCap : Nat) (cur : Array Value) (hg : w.heap[g]? = some (.cells cur e (0, 0)))
  (a : Addr) (m c : Nat) (news : List Value) (hl : news.length = m * i.size) (hnews : ∀ j u, news[j]? = some u → w.cell? (a.add j) = some u) (h1 : ∀ u ∈ news, u.oneCell' = true)
  (hroom : sLen + m ≤ sCap) (hfit : of + sLen * i.size + news.length ≤ cur.size) :
  (Builtin.append_ #[t, t] ty #[.slice (some ⟨g, of, none⟩) sLen sCap, .slice (some a) m c]).run P w =
   .ok (.slice (some ⟨g, of, none⟩) (sLen + m) sCap) (w.setRow g (cur.toList.take (of + sLen * i.size) ++ news ++ cur.toList.drop (of + sLen * i.size + news.length)).toArray) := by
 (have hf := run_firstCells_some (P := P) w i.size m a m c news hl hnews);(have hst := run_storeCells_at P g (of + sLen * i.size) e news 0 cur w hg (by simpa using hfit) h1);(simp only [Nat.add_zero] at hst);(simp [Builtin.append_, run_underlying ht, sizeOf, typeInfo, hi, Builtin.lenOf, hroom, hf, Addr.add_lit, hst])
theorem run_append_from {P : Program} (w : World) (base : Nat) (t ty e : TypeId) (i : TypeInfo) (z : Value) (size bytes : Nat) (ht : P.underlying t = some (.slice e)) (hi : P.info? e = some i) (hz : i.zero = some z)
  (hsize : i.size = size) (hby : i.bytes = bytes) (hzs : z.cells.size = size) (hsz : 0 < size)
  (v : Value) (n : Nat) (xs : List Value) (hown : World.ownsFrom w base e size v n xs)
  (a : Addr) (m c : Nat) (news : List Value) (hl : news.length = m * size) (hnews : ∀ j u, news[j]? = some u → w.cell? (a.add j) = some u) (h1 : ∀ u ∈ news, u.oneCell' = true)
  (h63 : n + m ≤ maxLen) (hbytes : (n + m) * bytes ≤ 140737488355328) (hbase : base ≤ w.heap.size) :
  ∃ v' w', (Builtin.append_ #[t, t] ty #[v, .slice (some a) m c]).run P w = .ok v' w' ∧ World.ownsFrom w' base e size v' (n + m) (xs ++ news) ∧ w.grownBy w' v.ownBlock ∧ (v'.ownBlock = v.ownBlock ∨ v'.ownBlock = some w.heap.size) := by
 subst hsize;subst hby;(have hsmall : n + m ≤ 9223372036854775807 := by simp only [maxLen] at h63; omega);(have hcells := hown);(obtain ⟨hx, g, o, cap, cur, rfl, hbg, hg, hnc, hcm, hcs, htake⟩ := hown);(have hlen : (xs ++ news).length = (n + m) * i.size := by rw [List.length_append, hx, hl, Nat.add_mul]);(by_cases hroom : n + m ≤ cap)
 ·have hmul : n * i.size + m * i.size ≤ cap * i.size := by rw [← Nat.add_mul]; exact Nat.mul_le_mul_right _ hroom
  (have hfit : o + n * i.size + news.length ≤ cur.size := by rw [hl]; omega);(have hr := run_append_room_at (P := P) w t ty e i ht hi g o n cap cur hg a m c news hl hnews h1 hroom hfit);(have hcl : cur.toList.length = cur.size := Array.length_toList);(refine ⟨_, _, hr, ⟨hlen, g, o, cap, _, rfl, hbg, setRow_heap w g cur _ e _ hg, hroom, hcm, ?_, ?_⟩, ⟨rfl, rfl, rfl, by simp, fun k _ hk => setRow_other w g k _ (fun e => hk (by simp [Value.ownBlock, e]))⟩, Or.inl rfl⟩)
  ·simp only [List.size_toArray, List.length_append, List.length_take, List.length_drop, hcl]
   omega
  ·have e1 : cur.toList.take (o + n * i.size) = cur.toList.take o ++ xs := by
    rw [← htake, List.take_add]
   have e2 : (cur.toList.take o).length = o := by rw [List.length_take, hcl]; omega
   show ((cur.toList.take (o + n * i.size) ++ news ++ cur.toList.drop (o + n * i.size + news.length)).drop o).take ((n + m) * i.size) = xs ++ news
   (rw [e1, List.append_assoc, List.append_assoc, List.drop_append_of_le_length (by omega), List.drop_eq_nil_of_le (by omega), List.nil_append, ← List.append_assoc, ← hlen]);(exact List.take_left)
 ·have hr := run_append_grow (P := P) w t ty e i z ht hi hz ⟨g, o, none⟩ n cap xs hx (ownsFrom_cells hcells) a m c news hl hnews (by omega) (by omega) (growslice_fits (by omega) hbytes)
  (have hge := grownCap_ge w (n + m) cap e);(have hcm2 : grownCap w (n + m) cap e ≤ maxLen := grownCap_le_maxLen w (n + m) cap e h63);(refine ⟨_, _, hr, ⟨hlen, w.heap.size, 0, _, _, rfl, hbase, heap_alloc_new w.drew _, hge, hcm2, ?_, ?_⟩, ⟨rfl, rfl, rfl, by simp, fun k hk _ => (World.grownBy_alloc w.drew _ none).block k hk (by simp)⟩, Or.inr rfl⟩)
  ·simp only [Array.size_append, List.size_toArray, size_zeroCells, hzs, hx, hl, ← Nat.add_mul, Nat.zero_add]
   exact Nat.mul_le_mul_right _ (by omega)
  ·simp only [Array.toList_append, List.append_assoc, List.drop_zero]
   (rw [← List.append_assoc, ← hlen]);(exact List.take_left)
/-- A row whose first element is cut off. -/
theorem ownsFrom_cut {w : World} {base : Nat} {e : TypeId} {size : Nat} {g o n cap : Nat} {xs ys : List Value} (h : World.ownsFrom w base e size (.slice (some ⟨g, o, none⟩) (n + 1) cap) (n + 1) (xs ++ ys)) (hx : xs.length = size) :
  World.ownsFrom w base e size (.slice (some ⟨g, o + size, none⟩) n (cap - 1)) n ys := by
 obtain ⟨h1, g', o', cap', cur, he, hb, hgg, hnc, hcm, hcs, htake⟩ := h
 injection he with he he2 he3
 injection he with he
 injection he with hg ho
 subst hg;subst ho;subst he3;(obtain ⟨q, rfl⟩ : ∃ q, cap = q + 1 := ⟨cap - 1, by omega⟩)
 have hl : ys.length = n * size := by
  (rw [List.length_append, hx, Nat.add_mul, Nat.one_mul] at h1);(omega)
 (refine ⟨hl, g, o + size, q, cur, by simp, hb, hgg, by omega, by omega, by rw [Nat.add_mul, Nat.one_mul] at hcs; omega, ?_⟩);(have h2 := congrArg (List.drop size) htake);(rw [List.drop_take, List.drop_drop, Nat.add_mul, Nat.one_mul, Nat.add_sub_cancel, ← hx, List.drop_left, hx] at h2);(exact h2)
/-- .. at a full row the model (as the language's runtime) leaves the address where it is. -/
theorem ownsFrom_cut' {w : World} {base : Nat} {e : TypeId} {size : Nat} {g o n cap : Nat} {xs ys : List Value} (h : World.ownsFrom w base e size (.slice (some ⟨g, o, none⟩) (n + 1) (cap + 1)) (n + 1) (xs ++ ys)) (hx : xs.length = size) :
  World.ownsFrom w base e size (.slice (some ⟨g, if cap = 0 then o else o + size, none⟩) n cap) n ys := by
 by_cases hc : cap = 0
 ·subst hc
  (rw [if_pos rfl]);(obtain ⟨h1, g', o', cap', cur, he, hb, hgg, hnc, hcm, hcs, htake⟩ := h)
  injection he with he he2 he3
  injection he with he
  injection he with hg ho
  subst hg;subst ho;subst he3;(obtain rfl : n = 0 := by omega)
  have hl : ys.length = 0 := by
   (rw [List.length_append, hx, Nat.add_mul, Nat.one_mul] at h1);(omega)
  (obtain rfl := List.length_eq_zero_iff.1 hl);(exact ⟨by simp, g, o, 0, cur, rfl, hb, hgg, Nat.le_refl _, Nat.zero_le _, by omega, by simp⟩)
 ·rw [if_neg hc]
  exact ownsFrom_cut h hx
theorem HasS.isMap {α : Type} {w : World} {P : Program} {k e : TypeId} {val : α → Value} {b n : Nat} {S : α → Bool} (h : HasS w P k e val b n S) : ∃ es clock, w.heap[b]? = some (.map es clock) := by
 (obtain ⟨D, ⟨es, clock, hb, _⟩, _⟩ := h);(exact ⟨es, clock, hb⟩)
theorem HasS.below {α : Type} {w w1 : World} {P : Program} {k e : TypeId} {val : α → Value} {b n : Nat} {S : α → Bool} (h : HasS w P k e val b n S) (hb : Below w.heap.size w w1) : HasS w1 P k e val b n S := by
 (have hlt := h.lt);(obtain ⟨D, ⟨es, clock, h1, rest⟩, h2, h3⟩ := h);(exact ⟨D, ⟨es, clock, (hb.block b hlt).trans h1, rest⟩, h2, h3⟩)
theorem ownsFrom_below {w w1 : World} {base : Nat} {e : TypeId} {size : Nat} {v : Value} {n : Nat} {xs : List Value} (h : World.ownsFrom w base e size v n xs) (hb : Below w.heap.size w w1) : World.ownsFrom w1 base e size v n xs := by
 (obtain ⟨h1, g, o, cap, cur, rfl, hbg, hgg, rest⟩ := h);(exact ⟨h1, g, o, cap, cur, rfl, hbg, (hb.block g (Array.getElem?_eq_some_iff.1 hgg).1).trans hgg, rest⟩)
theorem ownsFrom_map {w w1 : World} {base : Nat} {e : TypeId} {size : Nat} {v : Value} {n : Nat} {xs : List Value} (h : World.ownsFrom w base e size v n xs) {b : Nat} (hm : ∃ es clock, w.heap[b]? = some (.map es clock)) (hg : w.grownBy w1 (some b)) : World.ownsFrom w1 base e size v n xs := by
 (refine ownsFrom_kept h hg (fun he => ?_));(obtain ⟨_, g, o, cap, cur, rfl, _, hgg, _⟩ := h);(obtain ⟨es, clock, hb⟩ := hm);(have e1 : g = b := by simpa [Value.ownBlock] using he);(rw [← e1, hgg] at hb)
 cases hb
theorem R_map {α : Type} {d : Kd α} {W w1 : World} {base : Nat} {e : TypeId} {ok : Nat → Prop} {v : Value} {xs : List α} (h : d.R e W base ok v xs) {b : Nat} (hm : ∃ es clock, W.heap[b]? = some (.map es clock)) (hg : W.grownBy w1 (some b)) : d.R e w1 base ok v xs := by
 (refine Kd.R_mono (Kd.R_move (Kd.R_bound h) (fun k hk => hg.block k hk.2.2.1 (fun he => ?_))) (fun _ hk => hk.1));(obtain ⟨_, _, _, q, hq, cells, hc⟩ := hk);(obtain ⟨es, clock, hb⟩ := hm);(rw [Option.some.inj he, hb] at hc)
 cases hc
/-- A value stored in the call's own map, for the walk. -/
theorem wpList_put_S {α : Type} [DecidableEq α] {P : Program} (w : World) {ops : Array Oper} {rest : List Oper} {o : Oper} {a : Act} {Q : Exit → Act → World → Prop}
  (hgd : o.guard = none) (m x v : Operand) (t : TypeId) (hop : o.op = Op.mapUpdate t m x v) (k e : TypeId) (K : Maps.Keyed P k) (ht : P.underlying t = some (.map k e)) (he : P.underlying e = some .bool)
  {val : α → Value} (hinj : ∀ c c', val c = val c' → c = c') (b n : Nat) (S : α → Bool) (hm : a.eval m = .map (some b)) (hown : HasS w P k e val b n S) (hn : n < maxLen) (c : α) (l : Lit) (hx : a.eval x = val c) (hv : a.eval v = .bool true) (hkey : keyOf P k (val c) = some l)
  (hK : ∀ w', HasS w' P k e val b (n + 1) (fun x => decide (x = c) || S x) → w.grownBy w' (some b) → wpList P ops Q rest (a.put o.dst undef) w') :
  wpList P ops Q (o :: rest) a w := by
 (refine wpList_plain hgd fun K' hK' => ?_);(obtain ⟨w', hrun, r1, r2⟩ := hown.put hinj K ht he hn hkey);(unfold Oper.wp);(simp [execOp, hop, hm, hx, hv, hrun, Result.andThen]);(exact hK' _ _ (hK w' r1 r2))
/-- The key of a cell. -/
abbrev cellV (c : Int × Int) : Value := .agg #[.int .i64 c.1, .int .i64 c.2]
theorem cellV_inj : ∀ c c', cellV c = cellV c' → c = c' := by
 rintro ⟨a, b⟩ ⟨a', b'⟩ h
 injection h with h
 injection h with h
 injection h with h1 h2
 injection h2 with h2 _
 injection h1 with _ h1
 injection h2 with _ h2
 exact Prod.ext h1 h2
/-! ### The search for parts -/
/-- A cell of the grid. -/
def inG (l0 : List ByteArray) (c : S61) : Prop := 0 ≤ c.f0 ∧ c.f0 < (l0.length : Int) ∧ 0 ≤ c.f1 ∧ c.f1 < ((rdOf ByteArray.empty l0 c.f0).size : Int) ∧ (l0.length : Int) ≤ 9223372036854775807 ∧ ((rdOf ByteArray.empty l0 c.f0).size : Int) ≤ 9223372036854775807
instance (l0 : List ByteArray) (c : S61) : Decidable (inG l0 c) := by unfold inG; infer_instance
/-- The neighbours of one cell: those with the byte that were not reached are reached now, and stand at the queue's end. -/
def ptN (l0 : List ByteArray) (b : Int) : List S61 → List (Int × Int) → List S61 → Option (List (Int × Int) × List S61)
 | [], S, L => some (S, L)
 | x :: xs, S, L => if inG l0 x then (if bt (rdOf ByteArray.empty l0 x.f0) x.f1 = b ∧ (x.f0, x.f1) ∉ S then (if L.length < 4398046511104 ∧ S.length < 4398046511104 then ptN l0 b xs ((x.f0, x.f1) :: S) (L ++ [x]) else none) else ptN l0 b xs S L) else none
/-- The queue is emptied. -/
def ptL (l0 : List ByteArray) (b : Int) : Nat → List (Int × Int) → List S61 → Option (List (Int × Int))
 | 0, _, _ => none
 | _ + 1, S, [] => some S
 | k + 1, S, c :: L => (impl_nextTo.f l0 c.f0 c.f1).bind fun ns => (ptN l0 b ns S L).bind fun r => ptL l0 b k r.1 r.2
/-- All cells with the byte. -/
def ptC (l0 : List ByteArray) (b : Int) (k : Nat) : List S61 → List (Int × Int) → Int → Option Int
 | [], _, m => some m
 | c :: cs, S, m => if inG l0 c ∧ S.length < 4398046511104 then (if (c.f0, c.f1) ∈ S then ptC l0 b k cs S m else (ptL l0 b k ((c.f0, c.f1) :: S) [c]).bind fun S' => ptC l0 b k cs S' (wrap64 (m + 1))) else none
def impl_partsOf.f (k : Nat) (l0 : List ByteArray) (a1 : Int) : Option Int := (impl_cellsWith.f k l0 a1).bind fun cs => ptC l0 a1 k cs [] 0
theorem ptL_mono (l0 : List ByteArray) (b : Int) : ∀ (k : Nat) (S : List (Int × Int)) (L : List S61), LeO (ptL l0 b k S L) (ptL l0 b (k + 1) S L)
 | 0, _, _ => LeO.none _
 | _ + 1, _, [] => LeO.refl _
 | k + 1, S, c :: L => by
  show LeO ((impl_nextTo.f l0 c.f0 c.f1).bind fun ns => (ptN l0 b ns S L).bind fun r => ptL l0 b k r.1 r.2) ((impl_nextTo.f l0 c.f0 c.f1).bind fun ns => (ptN l0 b ns S L).bind fun r => ptL l0 b (k + 1) r.1 r.2)
  exact LeO.bind (LeO.refl _) (fun ns => LeO.bind (LeO.refl _) (fun r => ptL_mono l0 b k r.1 r.2))
theorem ptC_mono (l0 : List ByteArray) (b : Int) (k : Nat) : ∀ (cs : List S61) (S : List (Int × Int)) (m : Int), LeO (ptC l0 b k cs S m) (ptC l0 b (k + 1) cs S m)
 | [], _, _ => LeO.refl _
 | c :: cs, S, m => by
  (unfold ptC);(exact LeO.ite (LeO.ite (ptC_mono l0 b k cs S m) (LeO.bind (ptL_mono l0 b k _ _) (fun S' => ptC_mono l0 b k cs S' _))) (LeO.refl _))
theorem impl_partsOf.mono : ∀ a0 a1 k, LeO (impl_partsOf.f k a0 a1) (impl_partsOf.f (k + 1) a0 a1) := by
 intro a0 a1 k;(unfold impl_partsOf.f);(exact LeO.bind (impl_cellsWith.mono _ _ _) (fun cs => ptC_mono a0 a1 k cs [] 0))
theorem cellLaw : Maps.Keyed Tryd.prog 61 := Maps.Keyed.of_law (deep_law_laid (show laidOutB Tryd.prog = true by kernel_rfl) (m := 2) (by omega) (of_decide_eq_true (by kernel_rfl)) (by kernel_rfl) (by kernel_rfl))
theorem cellKey (c : Int × Int) (h1 : (Lit.int .i64 c.1).wf = true) (h2 : (Lit.int .i64 c.2).wf = true) : keyOf Tryd.prog 61 (cellV c) = some (.string (keyBytes [.int .i64 c.1, .int .i64 c.2])) := by
 have hkt : Tryd.prog.keyType 61 = true := by kernel_rfl
 have hf : (cellV c).formed Tryd.prog 61 = true := by
  (have h : Tryd.prog.cellsOf 61 = 2 := by kernel_rfl);(simp [Value.formed, Tryd.underlying61, h])
 (obtain ⟨m, hm⟩ : ∃ m, Tryd.prog.types.size + 1 = m + 2 := ⟨Tryd.prog.types.size - 1, by have h : 1 ≤ Tryd.prog.types.size := of_decide_eq_true (by kernel_rfl); omega⟩);(have hc : Tryd.prog.cellsOf 61 = 2 := by kernel_rfl);(have hi : Tryd.prog.cellsOf 3 = 1 := by kernel_rfl)
 have one : ∀ x : Int, (Lit.int .i64 x).wf = true → Tryd.prog.keyLits (m + 1) 3 [.int .i64 x] = some [.int .i64 x] := by
  intro x hx;(unfold Program.keyLits);(rw [Tryd.underlying3]);(simp only [hx, and_self, if_true])
 have two : Tryd.prog.keyLits (m + 2) 61 [.int .i64 c.1, .int .i64 c.2] = some [.int .i64 c.1, .int .i64 c.2] := by
  conv => lhs; unfold Program.keyLits
  (rw [Tryd.underlying61]);(simp [hc, hi, one _ h1, one _ h2])
 (have hv : (cellV c).cells.toList = [.int .i64 c.1, .int .i64 c.2] := rfl);(unfold keyOf);(rw [Tryd.underlying61]);(simp only [hkt, hf, hm, hv, two]);rfl
theorem zeroB (w : World) : (zeroValue 4).run Tryd.prog w = .ok (.bool false) w := by kernel_rfl
theorem bindE {α β : Type} {o : Option α} {g : α → Option β} {r : β} (h : o.bind g = some r) : ∃ x, o = some x ∧ g x = some r := Option.bind_eq_some_iff.1 h
theorem wrapQ {j n : Nat} (h : j < n) (hn : n ≤ 9223372036854775807) : wrap64 ((j : Int) + 1) = ((j + 1 : Nat) : Int) := by unfold wrap64; omega
/-- The cells of a queue. -/
def cellsL : List S61 → List Value
 | [] => []
 | c :: L => [.int .i64 c.f0, .int .i64 c.f1] ++ cellsL L
theorem cellsL_snoc (L : List S61) (x : S61) : cellsL (L ++ [x]) = cellsL L ++ [.int .i64 x.f0, .int .i64 x.f1] := by
 induction L with
 | nil => rfl
 | cons c L ih =>
  show [_, _] ++ cellsL (L ++ [x]) = ([_, _] ++ cellsL L) ++ _
  rw [ih, List.append_assoc]
theorem inG.wf {l0 : List ByteArray} {c : S61} (h : inG l0 c) : (Lit.int .i64 c.f0).wf = true ∧ (Lit.int .i64 c.f1).wf = true := by
 (obtain ⟨h1, h2, h3, h4, h5, h6⟩ := h);(exact ⟨WalkArith.wf_i64 ⟨by omega, by omega⟩, WalkArith.wf_i64 ⟨by omega, by omega⟩⟩)
abbrev HasL (w : World) (b : Nat) (S : List (Int × Int)) : Prop := HasS w Tryd.prog 61 4 cellV b S.length (fun x => decide (x ∈ S))
theorem HasL.look {w : World} {b : Nat} {S : List (Int × Int)} (h : HasL w b S) {l0 : List ByteArray} {c : S61} (hc : inG l0 c) {q : Bool} (hq : decide ((c.f0, c.f1) ∈ S) = q) :
  (Instr.lookup 71 (.map (some b)) (.agg #[.int .i64 c.f0, .int .i64 c.f1]) false).run Tryd.prog w = .ok (.bool q) w := by
 (have h2 := HasS.look h cellLaw Tryd.underlying71 Tryd.underlying4 (zeroB w) (cellKey (c.f0, c.f1) hc.wf.1 hc.wf.2));(rw [hq] at h2);(exact h2)
theorem wpList_put_L (w : World) {ops : Array Oper} {rest : List Oper} {o : Oper} {a : Act} {Q : Exit → Act → World → Prop}
  (hgd : o.guard = none) (m x v : Operand) (hop : o.op = Op.mapUpdate 71 m x v) {b : Nat} {S : List (Int × Int)} (hown : HasL w b S) (hS : S.length < 4398046511104) {l0 : List ByteArray} {c : S61} (hc : inG l0 c)
  (hm : a.eval m = .map (some b)) (hx : a.eval x = .agg #[.int .i64 c.f0, .int .i64 c.f1]) (hv : a.eval v = .bool true)
  (hK : ∀ w', HasL w' b ((c.f0, c.f1) :: S) → w.grownBy w' (some b) → wpList Tryd.prog ops Q rest (a.put o.dst undef) w') :
  wpList Tryd.prog ops Q (o :: rest) a w := by
 (refine wpList_put_S w hgd m x v 71 hop 61 4 cellLaw Tryd.underlying71 Tryd.underlying4 cellV_inj b S.length _ hm hown (by simp only [maxLen]; omega) (c.f0, c.f1) _ hx hv (cellKey (c.f0, c.f1) hc.wf.1 hc.wf.2) ?_);intro w' h1 h2;(refine hK w' ?_ h2)
 have e : (fun x => decide (x = (c.f0, c.f1)) || decide (x ∈ S)) = fun x => decide (x ∈ (c.f0, c.f1) :: S) := by
  funext x
  simp only [List.mem_cons, Bool.decide_or]
 (rw [e] at h1);(exact h1)
theorem wpList_append_from {P : Program} (w : World) {ops : Array Oper} {rest : List Oper} {o : Oper} {a : Act} {Q : Exit → Act → World → Prop} (hgd : o.guard = none) (s x : Operand) (t : TypeId)
  (ho : o.op = .call { callee := .builtin .append, args := #[s, x], argTypes := #[t, t] })
  (base : Nat) (e : TypeId) (z : Value) (size bytes : Nat) (ht : P.underlying t = some (.slice e)) (hinfo : (P.info? e).map (fun i => (i.zero, i.size, i.bytes)) = some (some z, size, bytes))
  (hzs : z.cells.size = size) (hsz : 0 < size)
  (v : Value) (n : Nat) (xs : List Value) (hs : a.eval s = v) (hown : World.ownsFrom w base e size v n xs)
  (ad : Addr) (m c : Nat) (news : List Value) (hx : a.eval x = .slice (some ad) m c) (hl : news.length = m * size) (hnews : ∀ j u, news[j]? = some u → w.cell? (ad.add j) = some u) (h1 : ∀ u ∈ news, u.oneCell' = true)
  (h63 : n + m ≤ maxLen) (hbytes : (n + m) * bytes ≤ 140737488355328) (hbase : base ≤ w.heap.size)
  (h : ∀ v' w', World.ownsFrom w' base e size v' (n + m) (xs ++ news) → w.grownBy w' v.ownBlock → (v'.ownBlock = v.ownBlock ∨ v'.ownBlock = some w.heap.size) → wpList P ops Q rest (a.put o.dst v') w') :
  wpList P ops Q (o :: rest) a w := by
 (obtain ⟨i, hi, hzz⟩ := Option.map_eq_some_iff.1 hinfo);(simp only [Prod.mk.injEq] at hzz);(obtain ⟨hz, hsize, hby⟩ := hzz);(refine wpList_plain hgd fun K hK => ?_);(obtain ⟨v', w', hr, h2, h3, h5⟩ := run_append_from (P := P) w base t o.type e i z size bytes ht hi hz hsize hby hzs hsz v n xs hown ad m c news hl hnews h1 h63 hbytes hbase);(unfold Oper.wp execOp);(simp only [ho, resolve, invoke, builtin, Sem.run_bind, Sem.run_pure, Result.andThen_ok, List.map_toArray, List.map_cons, List.map_nil, hs, hx, hr]);(exact hK _ _ (h v' w' h2 h3 h5))
theorem ownsFrom_lit (w : World) (base : Nat) (e : TypeId) (a b : Value) (hb : base ≤ w.heap.size) : World.ownsFrom (w.alloc (.cells #[a, b] e)) base e 2 (.slice (some ⟨w.heap.size, 0, none⟩) 1 1) 1 [a, b] :=
 ⟨rfl, w.heap.size, 0, 1, #[a, b], rfl, hb, heap_alloc_new w _, Nat.le_refl _, by simp only [maxLen]; omega, Nat.le_refl _, rfl⟩
theorem box_map {W w1 : World} {cs : Array Value} {t : TypeId} {b : Nat} (hm : ∃ es clock, (W.alloc (.cells cs t)).heap[b]? = some (.map es clock)) (hg : (W.alloc (.cells cs t)).grownBy w1 (some b)) : w1.heap[W.heap.size]? = some (.cells cs t (0, 0)) := by
 rw [hg.block W.heap.size (by rw [World.size_alloc]; exact Nat.lt_succ_self _) (fun he => ?_)]
 ·exact heap_alloc_new W _
 ·obtain ⟨es, clock, h⟩ := hm
  rw [← Option.some.inj he, heap_alloc_new] at h
  cases h
theorem cell_of_box {w : World} {g : Nat} {a b : Value} {t : TypeId} {fr : Nat × Nat} (h : w.heap[g]? = some (.cells #[a, b] t fr)) : w.cell? ⟨g, 0, none⟩ = some a ∧ w.cell? ⟨g, 1, none⟩ = some b := by
 constructor <;> simp [World.cell?, h]
theorem grown_at {w0 w w' : World} {b : Nat} (hb : Below w0.heap.size w0 w) (hg : w.grownBy w' (some b)) (h : w0.heap.size ≤ b) : Below w0.heap.size w0 w' := hb.grown hg hb.size (fun k hk => by cases hk; exact h)
theorem R_from {α : Type} {d : Kd α} {W w1 : World} {base : Nat} {e : TypeId} {v u : Value} {xs : List α} (h : d.R e W base (fun k => some k ≠ v.ownBlock) u xs) (hg : W.grownBy w1 v.ownBlock) {v' : Value} (hv : v'.ownBlock = v.ownBlock ∨ v'.ownBlock = some W.heap.size) : d.R e w1 base (fun k => some k ≠ v'.ownBlock) u xs := by
 refine Kd.R_mono (Kd.R_move (Kd.R_bound h) (fun k hk => hg.block k hk.2.2.1 hk.1)) (fun k hk => ?_)
 rcases hv with hv | hv
 ·rw [hv]; exact hk.1
 ·rw [hv]
  intro he;(have := hk.2.2.1);(have := Option.some.inj he);(omega)
theorem R_new {α : Type} {d : Kd α} {W : World} {base : Nat} {e : TypeId} {u v : Value} {xs : List α} {o : Obj} (h : d.R e W base (fun _ => True) u xs) (hv : v.ownBlock = some W.heap.size) : d.R e (W.alloc o) base (fun k => some k ≠ v.ownBlock) u xs := by
 (refine Kd.R_alloc (Kd.R_mono (Kd.R_bound h) (fun k hk => ?_)) o);(rw [hv]);intro he;(have := hk.2.2.1);(have := Option.some.inj he);(omega)
theorem R_nofrom {α : Type} {d : Kd α} {W w1 : World} {base : Nat} {e e' : TypeId} {size : Nat} {u v : Value} {n : Nat} {ys : List Value} {xs : List α} {P : Nat → Prop} (hown : World.ownsFrom W base e' size v n ys) (h : d.R e w1 base (fun _ => True) u xs) (hb : d.R e w1 W.heap.size (fun k => True ∧ W.heap.size ≤ k ∧ P k) u xs) : d.R e w1 base (fun k => some k ≠ v.ownBlock) u xs := by
 (obtain ⟨_, g, o, cap, cur, rfl, hbg, hg, _⟩ := hown);(have hlt := (Array.getElem?_eq_some_iff.1 hg).1);(refine Kd.R_lower (Kd.R_mono hb (fun k hk he => ?_)) (by omega));(have e1 : k = g := by simpa [Value.ownBlock] using he);(have := hk.2.1);(omega)
theorem news_two (w : World) (a b : Value) (t : TypeId) : ∀ j u, [a, b][j]? = some u → (w.alloc (.cells #[a, b] t)).cell? ((⟨w.heap.size, 0, none⟩ : Addr).add j) = some u := by
 intro j u hj;(have h := cell_of_box (heap_alloc_new w (.cells #[a, b] t)))
 match j, hj with
 | 0, hj =>
  (obtain rfl : a = u := by simpa using hj);(exact h.1)
 | 1, hj =>
  (obtain rfl : b = u := by simpa using hj);(exact h.2)
 | j + 2, hj => simp at hj
theorem box_kept {W w1 : World} {cs : Array Value} {t : TypeId} {b g : Nat} {fr : Nat × Nat} (hb : W.heap[g]? = some (.cells cs t fr)) (hm : ∃ es clock, W.heap[b]? = some (.map es clock)) (hg : W.grownBy w1 (some b)) : w1.heap[g]? = some (.cells cs t fr) := by
 rw [hg.block g (Array.getElem?_eq_some_iff.1 hb).1 (fun he => ?_)]
 ·exact hb
 ·obtain ⟨es, clock, h⟩ := hm
  rw [← Option.some.inj he, hb] at h
  cases h
theorem from_ne_map {w : World} {base : Nat} {e : TypeId} {size : Nat} {v : Value} {n : Nat} {xs : List Value} (h : World.ownsFrom w base e size v n xs) {b : Nat} (hm : ∃ es clock, w.heap[b]? = some (.map es clock)) : some b ≠ v.ownBlock := by
 (obtain ⟨_, g, o, cap, cur, rfl, _, hgg, _⟩ := h);(obtain ⟨es, clock, hb⟩ := hm);intro he;(have e1 : b = g := by simpa [Value.ownBlock] using he);(rw [e1, hgg] at hb)
 cases hb
theorem from_grown {w0 w w' : World} {e : TypeId} {size : Nat} {v : Value} {n : Nat} {xs : List Value} (hb : Below w0.heap.size w0 w) (h : World.ownsFrom w w0.heap.size e size v n xs) (hg : w.grownBy w' v.ownBlock) : Below w0.heap.size w0 w' := by
 (refine hb.grown hg hb.size (fun k hk => ?_));(obtain ⟨_, g, o, cap, cur, rfl, hbg, _⟩ := h);(have e1 : k = g := by simpa [Value.ownBlock, eq_comm] using hk);(rw [e1]);(exact hbg)
theorem from_snoc {w : World} {base : Nat} {e : TypeId} {v : Value} {L : List S61} {y : S61} (h : World.ownsFrom w base e 2 v (L.length + 1) (cellsL L ++ [.int .i64 y.f0, .int .i64 y.f1])) : World.ownsFrom w base e 2 v (L ++ [y]).length (cellsL (L ++ [y])) := by
 (rw [cellsL_snoc, List.length_append]);(exact h)
theorem impl_partsOf.calls (k : Nat) (A0 : Option Addr) (c0 : Nat) (l0 : List ByteArray) (a1 : Int) (r : Int) (w : World) (hr0 : Kd.C Kd.string w A0 l0.length l0) (hc0 : l0.length ≤ c0) (h : impl_partsOf.f k l0 a1 = some r) :
  Calls Tryd.prog 41 #[.slice A0 l0.length c0, .int .u8 a1] w fun e w' => e = .returned (.int .i64 r) ∧ Below w.heap.size w w' := by
 (unfold impl_partsOf.f at h);(obtain ⟨cs, e1, h1⟩ := bindE h);clear h;(have A1 := Aside0.mk e1);(have A2 := Aside0.mk h1);clear e1 h1;(have HR0 := Aside0.mk hr0);(have HC0 := Aside0.mk hc0);(have HB := Aside0.mk (below_alloc (Below.refl w.heap.size w) (.map #[] 0)));(have HS := Aside0.mk (HasS.made w Tryd.prog 61 4 cellV));clear hr0 hc0;(have hmm := @run_makeMap Tryd.prog)
 go_enter Tryd.func41, Tryd.ntmps41
 (go_wp2_with (go_at_call 43; (with_reducible refine (impl_cellsWith.calls k A0 c0 l0 a1 cs _ (Kd.C_below HR0.out HB.out) HC0.out A1.out).mono ?_); rintro e w5 ⟨v16, rfl, hcs, hb⟩; have HS2 := Aside0.mk (HS.out.below hb); have hcs2 := Kd.R_lower hcs (below_size HB.out); have n1_ := Aside0.mk (below_step HB.out hb); clear HB HS hb hcs; have HB := n1_; have HS := HS2; clear n1_ HS2; obtain ⟨A16, c16, rfl, hl16, hr16⟩ := Kd.R_reads hcs2; have HCS := Aside0.mk hcs2; clear hcs2 hr16));(have HS3 : Aside0 (HasL w5 w.heap.size []) := Aside0.mk HS.out);(obtain ⟨bm, hbm⟩ : ∃ bm, bm = w.heap.size := ⟨_, rfl⟩);(have HBM : Aside0 (w.heap.size ≤ bm) := Aside0.mk (Nat.le_of_eq hbm.symm));(rw [← hbm] at HS3);(simp only [← hbm]);clear HS hbm hmm
 go_loopg [5, 18] cs.length (fun g v5 v18 w' => ∃ (j : Nat) (m : Int) (S : List (Int × Int)), v18 = .int .i64 j ∧ j + g = cs.length ∧ v5 = .int .i64 m ∧ Aside0 (ptC l0 a1 k (cs.drop j) S m = some r) ∧ Aside0 (HasL w' bm S) ∧ Aside0 (Kd.R k61 61 w' w.heap.size (fun _ => True) (.slice A16 cs.length c16) cs) ∧ Aside0 (Below w.heap.size w w'))
 case atStart => exact ⟨0, 0, [], rfl, by omega, rfl, A2, HS3, HCS, HB⟩
 case round =>
  clear HS3 HCS HB A2;(obtain ⟨j, m, S, rfl, hjg, rfl, A2, HS, HCS, HB⟩ := hrel);(have hcm := Kd.C_max (Kd.R_reads' HCS.out).2.2)
  cases gk with
  | zero =>
   (have hj : j = cs.length := by omega);subst hj;(have c3b0 : decide ((cs.length : Int) < (cs.length : Int)) = false := decide_eq_false (by omega));(have H := A2.out);(rw [List.drop_length] at H);(obtain rfl : m = r := Option.some.inj H);clear H A2;(go_wp2);(go_ret);(exact ⟨rfl, HB.out⟩)
  | succ g =>
   (have hj : j < cs.length := by omega);(have c3b0 : decide ((j : Int) < (cs.length : Int)) = true := decide_eq_true (by omega));(have p4 : (0 ≤ (j : Int)) = True := eq_true (by omega));(have q4 : ((j : Int) < (cs.length : Int)) = True := eq_true (by omega));(obtain ⟨x, hx⟩ : ∃ x, x = rd_T61 cs (j : Int) := ⟨_, rfl⟩);(have hdr : cs.drop j = x :: cs.drop (j + 1) := by rw [hx, List.drop_eq_getElem_cons hj]; simp [rd_T61, List.getD, hj]);(have H0 := A2.out);(rw [hdr] at H0);(unfold ptC at H0);clear A2 hdr;(by_cases hin : inG l0 x ∧ S.length < 4398046511104)
   ·rw [if_pos hin] at H0
    (have HIN := Aside0.mk hin);clear hin;(obtain ⟨ad4, e4, hx4_0, hx4_1⟩ := at_T61 (Kd.R_reads' HCS.out).2.2 (j : Int) (by omega) (by omega));(rw [← hx] at hx4_0 hx4_1);subst e4;clear hx;(simp only [Int.toNat_natCast] at hx4_0 hx4_1);(have HB1 := Aside0.mk (below_alloc HB.out (.cells #[.int .i64 x.f0, .int .i64 x.f1] 61)));(have HCS1 := Aside0.mk (Kd.R_alloc HCS.out (.cells #[.int .i64 x.f0, .int .i64 x.f1] 61)));(have HS1 : Aside0 (HasL (wr.alloc (.cells #[.int .i64 x.f0, .int .i64 x.f1] 61)) bm S) := Aside0.mk (HS.out.below (below_alloc (Below.refl _ _) (.cells #[.int .i64 x.f0, .int .i64 x.f1] 61))));clear HB HCS HS;(have W18 := Aside0.mk (wrapQ hj hcm));(by_cases hmem : (x.f0, x.f1) ∈ S)
    ·rw [if_pos hmem] at H0
     (have hlk := HS1.out.look HIN.out.1 (decide_eq_true hmem));(replace H0 := Aside0.mk H0);(go_wp2);(go_roundg g)
     case measure => omega
     case rel => exact ⟨j + 1, m, S, congrArg (Value.int .i64) (by omega), by omega, rfl, H0, HS1, HCS1, HB1⟩
    ·rw [if_neg hmem] at H0
     (have hlk := HS1.out.look HIN.out.1 (decide_eq_false hmem));(obtain ⟨S', e5, H⟩ := bindE H0);clear H0 hmem;(have A3 := Aside0.mk e5);(have A2 := Aside0.mk H);clear e5 H;(go_wp2_with (at_mapUpdate; refine wpList_put_L _ rfl _ _ _ rfl HS1.out HIN.out.2 HIN.out.1 rfl rfl rfl ?_; intro w6 hs6 hg6; have hb6 := box_map HS1.out.isMap hg6; obtain ⟨hq6_0, hq6_1⟩ := cell_of_box hb6; have HS2 := Aside0.mk hs6; have HCS2 := Aside0.mk (R_map HCS1.out HS1.out.isMap hg6); have HB2 := Aside0.mk (grown_at HB1.out hg6 HBM.out); clear HS1 HCS1 HB1 hs6 hg6 hb6 hlk));(have HB3 := Aside0.mk (below_alloc HB2.out (.cells #[.int .i64 x.f0, .int .i64 x.f1] 61)));(have HCS3 := Aside0.mk (R_new HCS2.out (o := .cells #[.int .i64 x.f0, .int .i64 x.f1] 61) (v := .slice (some ⟨w6.heap.size, 0, none⟩) 1 1) rfl));(have HS3 : Aside0 (HasL (w6.alloc (.cells #[.int .i64 x.f0, .int .i64 x.f1] 61)) bm ((x.f0, x.f1) :: S)) := Aside0.mk (HS2.out.below (below_alloc (Below.refl _ _) (.cells #[.int .i64 x.f0, .int .i64 x.f1] 61))));(have HL3 := Aside0.mk (ownsFrom_lit w6 w.heap.size 61 (.int .i64 x.f0) (.int .i64 x.f1) (below_size HB2.out)));clear HB2 HCS2 HS2 hq6_0 hq6_1 hx4_0 hx4_1 HIN
     go_loopg [9] k (fun g v9 w' => ∃ (S1 : List (Int × Int)) (L : List S61), Aside0 (ptL l0 a1 g S1 L = some S') ∧ Aside0 (HasL w' bm S1) ∧ Aside0 (World.ownsFrom w' w.heap.size 61 2 v9 L.length (cellsL L)) ∧ Aside0 (Kd.R k61 61 w' w.heap.size (fun k => some k ≠ v9.ownBlock) (.slice (some ad4) cs.length c16) cs) ∧ Aside0 (Below w.heap.size w w'))
     case atStart => exact ⟨_, [x], A3, HS3, HL3, HCS3, HB3⟩
     case round =>
      clear HS3 HL3 HCS3 HB3 A3;(obtain ⟨S1, L, A3, HS, HL, HCS, HB⟩ := hrel);(have H0 := A3.out);clear A3
      cases gk with
      | zero => cases H0
      | succ g2 =>
       cases L with
       | nil =>
        (obtain rfl : S1 = S' := Option.some.inj H0);clear H0
        obtain ⟨gq, oq, cq, hv⟩ : ∃ gq oq cq, u9 = .slice (some ⟨gq, oq, none⟩) 0 cq := by
         (obtain ⟨_, gq, oq, cq, _, hv, _⟩ := HL.out);(exact ⟨gq, oq, cq, hv⟩)
        subst hv;(go_wp2);(go_roundg g)
        case measure => omega
        case rel => exact ⟨j + 1, _, S1, congrArg (Value.int .i64) (by omega), by omega, rfl, A2, HS, ⟨Kd.R_mono HCS.out (fun _ _ => trivial)⟩, HB⟩
       | cons c L =>
        (unfold ptL at H0);(obtain ⟨ns, e6, H⟩ := bindE H0);clear H0;(obtain ⟨⟨S3, L3⟩, e7, A3⟩ := bindE H);clear H;(have A6 := Aside0.mk e6);(have A7 := Aside0.mk e7);(replace A3 := Aside0.mk A3);clear e6 e7
        obtain ⟨gq, oq, n9, cq, hv, hn9⟩ : ∃ gq oq n9 cq, u9 = .slice (some ⟨gq, oq, none⟩) (n9 + 1) (cq + 1) ∧ n9 = L.length := by
         (obtain ⟨_, gq, oq, cq, _, hv, _, _, hn, _⟩ := HL.out);(have hn' : L.length + 1 ≤ cq := hn);(exact ⟨gq, oq, L.length, cq - 1, by rw [hv, Nat.sub_add_cancel (by omega)]; rfl, rfl⟩)
        subst hv;subst hn9;(have hl1 : World.ownsFrom wr w.heap.size 61 2 (.slice (some ⟨gq, oq, none⟩) (L.length + 1) (cq + 1)) (L.length + 1) ([.int .i64 c.f0, .int .i64 c.f1] ++ cellsL L) := HL.out);(have hq10_0 : wr.cell? ⟨gq, oq, none⟩ = some (.int .i64 c.f0) := ownsFrom_cells hl1 0 _ rfl);(have hq10_1 : wr.cell? ⟨gq, oq + 1, none⟩ = some (.int .i64 c.f1) := ownsFrom_cells hl1 1 _ rfl);(have hl2 := ownsFrom_cut' hl1 rfl);(have HL1 : Aside0 (World.ownsFrom (wr.alloc (.cells #[.int .i64 c.f0, .int .i64 c.f1] 61)) w.heap.size 61 2 (.slice (some ⟨gq, if cq = 0 then oq else oq + 2, none⟩) L.length cq) L.length (cellsL L)) := Aside0.mk (ownsFrom_below hl2 (below_alloc (Below.refl _ _) _)));(have c33 : (0 < L.length + 1) = True := eq_true (by omega));(have c33b : decide ((0 : Int) < (L.length : Int) + 1) = true := decide_eq_true (by omega));(have HB1 := Aside0.mk (below_alloc HB.out (.cells #[.int .i64 c.f0, .int .i64 c.f1] 61)));(have HCS1 := Aside0.mk (Kd.R_alloc HCS.out (.cells #[.int .i64 c.f0, .int .i64 c.f1] 61)));(have HS1 : Aside0 (HasL (wr.alloc (.cells #[.int .i64 c.f0, .int .i64 c.f1] 61)) bm S1) := Aside0.mk (HS.out.below (below_alloc (Below.refl _ _) (.cells #[.int .i64 c.f0, .int .i64 c.f1] 61))));clear HB HCS HS HL hl1 hl2;(by_cases hcq : cq = 0)
        all_goals
         first | (rw [if_pos hcq] at HL1; subst hcq) | (rw [if_neg hcq] at HL1; have hcq1 : 0 < cq := Nat.pos_of_ne_zero hcq; have hcq2 : (0 < cq) = True := eq_true hcq1; have hcq3 : (cq = 0) = False := eq_false hcq)
         (go_wp2_with (go_at_call 56; (with_reducible refine (impl_nextTo.calls A0 c0 l0 c.f0 c.f1 ns _ (Kd.C_below HR0.out HB1.out) HC0.out A6.out).mono ?_); rintro e w7 ⟨v41, rfl, hns, hb⟩; have hns2 := R_nofrom HL1.out (Kd.R_lower hns (below_size HB1.out)) (Kd.R_bound hns); have HL2 := Aside0.mk (ownsFrom_below HL1.out hb); have HS2 : Aside0 (HasL w7 bm S1) := Aside0.mk (HS1.out.below hb); have HCS2 := Aside0.mk (Kd.R_below HCS1.out hb); have HB2 := Aside0.mk (below_step HB1.out hb); clear HB1 HL1 HS1 HCS1 hb hns; obtain ⟨A41, c41, rfl, hl41, hr41⟩ := Kd.R_reads hns2; have HNS2 := Aside0.mk hns2; clear hns2 hr41));clear hq10_0 hq10_1 c33 c33b
         go_loopg [9, 43] ns.length (fun g v9 v43 w' => ∃ (i : Nat) (S2 : List (Int × Int)) (L2 : List S61), v43 = .int .i64 i ∧ i + g = ns.length ∧ Aside0 (ptN l0 a1 (ns.drop i) S2 L2 = some (S3, L3)) ∧ Aside0 (HasL w' bm S2) ∧ Aside0 (World.ownsFrom w' w.heap.size 61 2 v9 L2.length (cellsL L2)) ∧ Aside0 (Kd.R k61 61 w' w.heap.size (fun k => some k ≠ v9.ownBlock) (.slice A41 ns.length c41) ns) ∧ Aside0 (Kd.R k61 61 w' w.heap.size (fun k => some k ≠ v9.ownBlock) (.slice (some ad4) cs.length c16) cs) ∧ Aside0 (Below w.heap.size w w'))
         case atStart => exact ⟨0, S1, L, rfl, by omega, A7, HS2, HL2, HNS2, HCS2, HB2⟩
         case round =>
          clear HS2 HL2 HNS2 HCS2 HB2 A7;(obtain ⟨i, S2, L2, rfl, hig, A7, HS, HL, HNS, HCS, HB⟩ := hrel);(have hnm := Kd.C_max (Kd.R_reads' HNS.out).2.2);(have H0 := A7.out);clear A7
          cases gk with
          | zero =>
           (have hi : i = ns.length := by omega);subst hi;(have c13b0 : decide ((ns.length : Int) < (ns.length : Int)) = false := decide_eq_false (by omega));(rw [List.drop_length] at H0);(obtain ⟨rfl, rfl⟩ := Prod.mk.inj (Option.some.inj (show some (S2, L2) = some (S3, L3) from H0)));clear H0;(go_wp2);(go_roundg g2)
           case measure => omega
           case rel => exact ⟨S2, L2, A3, HS, HL, HCS, HB⟩
          | succ g3 =>
           (have hi : i < ns.length := by omega);(have c13b0 : decide ((i : Int) < (ns.length : Int)) = true := decide_eq_true (by omega));(have p14 : (0 ≤ (i : Int)) = True := eq_true (by omega));(have q14 : ((i : Int) < (ns.length : Int)) = True := eq_true (by omega));(obtain ⟨y, hy⟩ : ∃ y, y = rd_T61 ns (i : Int) := ⟨_, rfl⟩);(have hdr : ns.drop i = y :: ns.drop (i + 1) := by rw [hy, List.drop_eq_getElem_cons hi]; simp [rd_T61, List.getD, hi]);(rw [hdr] at H0);(unfold ptN at H0);clear hdr;(by_cases hin : inG l0 y)
           ·rw [if_pos hin] at H0
            (obtain ⟨ad14, e14, hx14_0, hx14_1⟩ := at_T61 (Kd.R_reads' HNS.out).2.2 (i : Int) (by omega) (by omega));(rw [← hy] at hx14_0 hx14_1);subst e14;clear hy;(simp only [Int.toNat_natCast] at hx14_0 hx14_1);(have HIY := Aside0.mk hin);(obtain ⟨i0, i1, i2, i3, _, _⟩ := hin);(obtain ⟨ad15, e15, hx15⟩ := Kd.at_string HR0.out y.f0 i0 i1);subst e15;(replace hx15 := (HB.out.cell (World.block_lt_of_cell? w _ hx15)).trans hx15);(have p15 : (0 ≤ y.f0) = True := eq_true i0);(have q15 : (y.f0 < (l0.length : Int)) = True := eq_true i1);(have p16 : (0 ≤ y.f1) = True := eq_true i2);(have q16 : (y.f1 < ((rdOf ByteArray.empty l0 y.f0).size : Int)) = True := eq_true i3);(have hx16 := bt_at (rdOf ByteArray.empty l0 y.f0) y.f1);(have HB1 := Aside0.mk (below_alloc HB.out (.cells #[.int .i64 y.f0, .int .i64 y.f1] 61)));(have HCS1 := Aside0.mk (Kd.R_alloc HCS.out (.cells #[.int .i64 y.f0, .int .i64 y.f1] 61)));(have HNS1 := Aside0.mk (Kd.R_alloc HNS.out (.cells #[.int .i64 y.f0, .int .i64 y.f1] 61)));(have HL1 := Aside0.mk (ownsFrom_below HL.out (below_alloc (Below.refl _ _) (.cells #[.int .i64 y.f0, .int .i64 y.f1] 61))));(have HS1 : Aside0 (HasL (wr.alloc (.cells #[.int .i64 y.f0, .int .i64 y.f1] 61)) bm S2) := Aside0.mk (HS.out.below (below_alloc (Below.refl _ _) (.cells #[.int .i64 y.f0, .int .i64 y.f1] 61))));(have hx15' := (below_alloc (Below.refl wr.heap.size wr) (.cells #[.int .i64 y.f0, .int .i64 y.f1] 61)).cell (World.block_lt_of_cell? wr _ hx15));(rw [hx15] at hx15');(have W43 := Aside0.mk (wrapQ hi hnm));(have HSn : ∀ n, HasL ((wr.alloc (.cells #[.int .i64 y.f0, .int .i64 y.f1] 61)).drewN n) bm S2 := fun n => HS1.out.below (pw_below_drewN (Below.refl _ _) n));clear HB HCS HNS HL HS;(by_cases hba : bt (rdOf ByteArray.empty l0 y.f0) y.f1 = a1)
            ·have cb : (bt (rdOf ByteArray.empty l0 y.f0) y.f1 == a1) = true := beq_iff_eq.mpr hba
             by_cases hmem : (y.f0, y.f1) ∈ S2
             ·rw [if_neg (fun e => e.2 hmem)] at H0
              (have hlk := fun n => (HSn n).look HIY.out (decide_eq_true hmem));(have A7 := Aside0.mk H0);clear H0 hba;(go_wp2)
              go_quiet (fail)
              clear hx15 hx15' hx16 p15 q15 p16 q16 p14 q14 hx14_0 hx14_1 hlk i0 i1 i2 i3;(have HL := Aside0.mk (ownsFrom_below HL1.out (pw_below_drewN (Below.refl _ _) nq)));(have HS := Aside0.mk (HSn nq));(have HCS := Aside0.mk (Kd.R_drewN HCS1.out nq));(have HNS := Aside0.mk (Kd.R_drewN HNS1.out nq));(have HB := Aside0.mk (pw_below_drewN HB1.out nq));clear HL1 HS1 HCS1 HNS1 HB1 HSn;(go_wp2);(go_roundg g3)
              case measure => omega
              case rel => exact ⟨i + 1, S2, L2, congrArg (Value.int .i64) (by omega), by omega, A7, HS, HL, HNS, HCS, HB⟩
             ·rw [if_pos ⟨hba, hmem⟩] at H0
              by_cases hlen : L2.length < 4398046511104 ∧ S2.length < 4398046511104
              ·rw [if_pos hlen] at H0
               (have hlk := fun n => (HSn n).look HIY.out (decide_eq_false hmem));(have A7 := Aside0.mk H0);(have LM := Aside0.mk hlen);clear H0 hba hlen;(go_wp2)
               go_quiet (fail)
               clear hx15 hx15' hx16 p15 q15 p16 q16 p14 q14 hx14_0 hx14_1 hlk i0 i1 i2 i3;(have HL := Aside0.mk (ownsFrom_below HL1.out (pw_below_drewN (Below.refl _ _) nq)));(have HS := Aside0.mk (HSn nq));(have HCS := Aside0.mk (Kd.R_drewN HCS1.out nq));(have HNS := Aside0.mk (Kd.R_drewN HNS1.out nq));(have HB := Aside0.mk (pw_below_drewN HB1.out nq));(have hbox : ((wr.alloc (.cells #[.int .i64 y.f0, .int .i64 y.f1] 61)).drewN nq).heap[wr.heap.size]? = some (.cells #[.int .i64 y.f0, .int .i64 y.f1] 61 (0, 0)) := ((pw_below_drewN (Below.refl (wr.alloc (.cells #[.int .i64 y.f0, .int .i64 y.f1] 61)).heap.size _) nq).block wr.heap.size (by rw [World.size_alloc]; exact Nat.lt_succ_self _)).trans (heap_alloc_new wr _));clear HL1 HS1 HCS1 HNS1 HB1 HSn;(obtain ⟨W7, hW7⟩ : ∃ W7, W7 = (wr.alloc (Obj.cells #[Value.int IntKind.i64 y.f0, Value.int IntKind.i64 y.f1] 61)).drewN nq := ⟨_, rfl⟩);(rw [← hW7] at HL HS HCS HNS HB hbox);(rw [← hW7]);(obtain ⟨gy, hgy⟩ : ∃ gy, gy = wr.heap.size := ⟨_, rfl⟩);(rw [← hgy] at hbox);(simp only [← hgy]);clear hW7 hgy;(obtain ⟨hq7_0, hq7_1⟩ := cell_of_box hbox);(go_wp2_with (first | (at_mapUpdate; refine wpList_put_L _ rfl _ _ _ rfl HS.out LM.out.2 HIY.out rfl rfl rfl ?_; intro w8 hs8 hg8; have hb8 := box_kept hbox HS.out.isMap hg8; obtain ⟨hq8_0, hq8_1⟩ := cell_of_box hb8; have HS2 := Aside0.mk hs8; have HL2 := Aside0.mk (ownsFrom_map HL.out HS.out.isMap hg8); have HCS2 := Aside0.mk (R_map HCS.out HS.out.isMap hg8); have HNS2 := Aside0.mk (R_map HNS.out HS.out.isMap hg8); have HB2 := Aside0.mk (grown_at HB.out hg8 HBM.out); clear HS HL HCS HNS HB hs8 hg8 hb8 hbox hq7_0 hq7_1) | ((with_reducible refine gate_builtin (b := .append) (xs := #[.tmp 65, .tmp 67]) rfl ?_); at_builtin; refine wpList_append_from (w8.alloc (.cells #[.int .i64 y.f0, .int .i64 y.f1] 61)) rfl (.tmp 65) (.tmp 67) 51 rfl w.heap.size 61 _ 2 16 Tryd.underlying51 info61 rfl (by decide) u9 L2.length (cellsL L2) rfl (ownsFrom_below HL2.out (below_alloc (Below.refl _ _) _)) ⟨w8.heap.size, 0, none⟩ 1 1 [.int .i64 y.f0, .int .i64 y.f1] rfl rfl ?aN ?a1 ?a6 ?aB ?aS ?_; (case aN => exact news_two _ _ _ _); (case a1 => simp [Value.oneCell']); (case a6 => have := LM.out.1; simp only [maxLen]; omega); (case aB => have := LM.out.1; omega); (case aS => have := below_size HB2.out; rw [World.size_alloc]; omega); intro v9 w9 ho hg hat; have HL3 := Aside0.mk (from_snoc ho); have HS3 := Aside0.mk (HasS.kept (HS2.out.below (below_alloc (Below.refl _ _) (.cells #[.int .i64 y.f0, .int .i64 y.f1] 61))) hg (from_ne_map HL2.out HS2.out.isMap)); have HCS3 := Aside0.mk (R_from (Kd.R_alloc HCS2.out (.cells #[.int .i64 y.f0, .int .i64 y.f1] 61)) hg hat); have HNS3 := Aside0.mk (R_from (Kd.R_alloc HNS2.out (.cells #[.int .i64 y.f0, .int .i64 y.f1] 61)) hg hat); have HB3 := Aside0.mk (from_grown (below_alloc HB2.out (.cells #[.int .i64 y.f0, .int .i64 y.f1] 61)) (ownsFrom_below HL2.out (below_alloc (Below.refl _ _) _)) hg); clear HL2 HS2 HCS2 HNS2 HB2 hg hat ho hq8_0 hq8_1)));(go_roundg g3)
               case measure => omega
               case rel => exact ⟨i + 1, _, L2 ++ [y], congrArg (Value.int .i64) (by omega), by omega, A7, HS3, HL3, HNS3, HCS3, HB3⟩
              ·rw [if_neg hlen] at H0
               cases H0
            ·have cb : (bt (rdOf ByteArray.empty l0 y.f0) y.f1 == a1) = false := beq_eq_false_iff_ne.mpr hba
             (rw [if_neg (fun e => hba e.1)] at H0);(have A7 := Aside0.mk H0);clear H0 hba;(go_wp2)
             go_quiet (fail)
             clear hx15 hx15' hx16 p15 q15 p16 q16 p14 q14 hx14_0 hx14_1 i0 i1 i2 i3;(have HL := Aside0.mk (ownsFrom_below HL1.out (pw_below_drewN (Below.refl _ _) nq)));(have HS := Aside0.mk (HSn nq));(have HCS := Aside0.mk (Kd.R_drewN HCS1.out nq));(have HNS := Aside0.mk (Kd.R_drewN HNS1.out nq));(have HB := Aside0.mk (pw_below_drewN HB1.out nq));clear HL1 HS1 HCS1 HNS1 HB1 HSn;(go_wp2);(go_roundg g3)
             case measure => omega
             case rel => exact ⟨i + 1, S2, L2, congrArg (Value.int .i64) (by omega), by omega, A7, HS, HL, HNS, HCS, HB⟩
           ·rw [if_neg hin] at H0
            cases H0
   ·rw [if_neg hin] at H0
    cases H0


/-! ### impl_SeasOf: function 24 -/
def impl_SeasOf.f (k : Nat) (l0 : List ByteArray) : Option (Int × Int) := (impl_ValidGrid.f k l0).bind fun t318 => (if t318 = true then ((impl_partsOf.f k l0 46).bind fun t319 => (some (t319, 0))) else (some (0, 1)))
theorem impl_SeasOf.mono : ∀ a0 k, LeO (impl_SeasOf.f k a0) (impl_SeasOf.f (k + 1) a0) := by
 intro a0 k;(unfold impl_SeasOf.f)
 repeat' first | with_reducible (first | exact impl_ValidGrid.mono _ _ | exact impl_partsOf.mono _ _ _ | exact LeO.refl _ | exact LeO.none _ | refine LeO.ite ?_ ?_ | refine LeO.bind ?_ (fun _ => ?_)) | exact impl_ValidGrid.mono _ _ | exact impl_partsOf.mono _ _ _ | exact LeO.none _ | refine LeO.ite ?_ ?_ | refine LeO.bind ?_ (fun _ => ?_)
theorem impl_SeasOf.calls (k : Nat) (A0 : Option Addr) (c0 : Nat) (l0 : List ByteArray) (r1 : Int) (r2 : Int) (w : World) (hr0 : Kd.C Kd.string w A0 l0.length l0) (hc0 : l0.length ≤ c0) (h : impl_SeasOf.f k l0 = some (r1, r2)) :
  Calls Tryd.prog 24 #[.slice A0 l0.length c0] w fun e w' => e = .returned (.tuple #[.int .i64 r1, .int .i64 r2]) ∧ Below w.heap.size w w' := by
 (have HR0 := Aside0.mk hr0);(have HC0 := Aside0.mk hc0);clear hr0 hc0;(have HB := Aside0.mk (Below.refl w.heap.size w));(have H : ((impl_ValidGrid.f k l0).bind fun t318 => (if t318 = true then ((impl_partsOf.f k l0 46).bind fun t319 => (some (t319, 0))) else (some (0, 1)))) = some (r1, r2) := h);clear h;(replace H := Option.bind_eq_some_iff.mp H);(obtain ⟨t318, A20, H⟩ := H);(replace H : (if t318 = true then ((impl_partsOf.f k l0 46).bind fun t319 => (some (t319, 0))) else (some (0, 1))) = some (r1, r2) := H);(have A2 := Aside0.mk A20);clear A20;(by_cases c3 : t318 = true)
 ·subst c3
  (have H1 : ((impl_partsOf.f k l0 46).bind fun t319 => (some (t319, 0))) = some (r1, r2) := zq62);clear H;(have H := H1);clear H1;(replace H := Option.bind_eq_some_iff.mp H);(obtain ⟨t319, A40, H⟩ := H);(replace H : (some (t319, 0)) = some (r1, r2) := H);(have A4 := Aside0.mk A40);clear A40;(simp only [Option.some.injEq, Prod.mk.injEq] at H);(obtain ⟨rfl, rfl⟩ := H)
  go_enter Tryd.func24, Tryd.ntmps24
  (go_wp2_with (first | ((with_reducible refine gate_callee (f := 30) rfl ?_); refine goesL_ (some 5) rfl rfl Tryd.func30 (by kernel_rfl) rfl #[.slice A0 l0.length c0] rfl zq0 ?_; (with_reducible refine (impl_ValidGrid.calls k _ _ l0 true _ ?side1 ?side2 A2.out).mono ?_); (case side1 => exact zq55); (case side2 => exact HC0.out); rintro e w5 ⟨rfl, hb⟩; refine ⟨_, rfl, ?_⟩; have n0_ := Aside0.mk (below_step zq47 hb); clear HB; have HB := n0_; clear n0_; (try clear hb); (try clear hb2); (try clear hk); (try clear hi)) | ((with_reducible refine gate_callee (f := 41) rfl ?_); refine goesL_ (some 8) rfl rfl Tryd.func41 (by kernel_rfl) rfl #[.slice A0 l0.length c0, .int .u8 46] rfl zq0 ?_; (with_reducible refine (impl_partsOf.calls k _ _ l0 46 t319 _ ?side1 ?side2 A4.out).mono ?_); (case side1 => exact zq53); (case side2 => exact HC0.out); rintro e w6 ⟨rfl, hb⟩; refine ⟨_, rfl, ?_⟩; have n0_ := Aside0.mk (below_step zq47 hb); clear HB; have HB := n0_; clear n0_; (try clear hb); (try clear hb2); (try clear hk); (try clear hi))));(go_ret2);(exact ⟨zq25, zq47⟩)
 ·replace c3 := Bool.eq_false_iff.mpr c3
  subst c3;(have H1 : (some (0, 1)) = some (r1, r2) := zq61);clear H;(have H := H1);clear H1;(simp only [Option.some.injEq, Prod.mk.injEq] at H);(obtain ⟨rfl, rfl⟩ := H)
  go_enter Tryd.func24, Tryd.ntmps24
  (go_wp2_with (first | ((with_reducible refine gate_callee (f := 30) rfl ?_); refine goesL_ (some 5) rfl rfl Tryd.func30 (by kernel_rfl) rfl #[.slice A0 l0.length c0] rfl zq0 ?_; (with_reducible refine (impl_ValidGrid.calls k _ _ l0 false _ ?side1 ?side2 A2.out).mono ?_); (case side1 => exact zq55); (case side2 => exact HC0.out); rintro e w7 ⟨rfl, hb⟩; refine ⟨_, rfl, ?_⟩; have n0_ := Aside0.mk (below_step zq47 hb); clear HB; have HB := n0_; clear n0_; (try clear hb); (try clear hb2); (try clear hk); (try clear hi))));(go_ret2);(exact ⟨zq25, zq47⟩)

end Go.Proofs.YtdkmngghknohgaaDoor.PFnGrids
