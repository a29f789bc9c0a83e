-- Made by a program of this session (gprint.py) out of the kit's print of the translation and texts of my own. SLIM
import Derived.Test.YtdkmngghknohgaaDoorPFnIslandsx0
import Derived.Test.YtdkmngghknohgaaDoorPFnIslandsx1
import Derived.Test.YtdkmngghknohgaaDoorPFnIslandsx2
import Derived.Test.YtdkmngghknohgaaDoorPFnIslandsx3
import Derived.Test.YtdkmngghknohgaaDoorPFnIslandsx4
namespace Go.Proofs.YtdkmngghknohgaaDoor.PFnIslands
open Go.RowKit Go.Proofs.YtdkmngghknohgaaDoorW.PrintWords Go.Proofs.YtdkmngghknohgaaDoorW.PrintLast Go.Proofs.YtdkmngghknohgaaDoorW.PrintMore
set_option maxHeartbeats 64000000
set_option maxRecDepth 100000
attribute [local go_sem] max2_int min2_int max_two min_two max_three min_three max_four min_four   -- for this text's walks alone
set_option linter.unusedVariables false
set_option linter.unusedSimpArgs false

/-! ### spec_GiveLand: function 8 -/
-- given by hand
/-! A row of bytes that a conversion has made -/
/-- The numbers of a text. -/
def numsB (s : ByteArray) : List Int := s.data.toList.map fun b => (b.toNat : Int)
theorem numsB_length (s : ByteArray) : (numsB s).length = s.size := by unfold numsB; rw [List.length_map, Array.length_toList]; rfl
/-- A row of bytes at g, with what a conversion marks behind it. -/
def BRow (w : World) (g : Nat) (e : TypeId) (xs : List Int) : Prop := ∃ cur : Array Value, w.heap[g]? = some (.cells cur e (cur.size, cur.size + 1)) ∧ xs.length ≤ cur.size ∧ xs.length ≤ 9223372036854775807 ∧ ∀ j, j < xs.length → cur[j]? = some (.int .u8 (xs.getD j 0))
theorem BRow.new (w : World) (e : TypeId) (s : ByteArray) (h : s.size ≤ 9223372036854775807) : BRow (Go.Lib.bytesWorld w e s) w.heap.size e (numsB s) := by
 refine ⟨_, Go.Lib.bytesWorld_at_new w e s, ?_, ?_, ?_⟩
 ·rw [numsB_length]
  (unfold Go.Lib.bytesCells);(rw [Array.size_append, Array.size_map]);(exact Nat.le_add_right _ _)
 ·rw [numsB_length]; exact h
 ·intro j hj
  (rw [numsB_length] at hj);(have hj' : j < s.data.size := hj);(simp [Go.Lib.bytesCells, Array.getElem?_append, hj', numsB, List.getD]);(rw [if_pos hj, Array.getElem?_eq_getElem hj']);rfl
theorem BRow.at_ {w : World} {g : Nat} {e : TypeId} {xs : List Int} (h : BRow w g e xs) (j : Nat) (hj : j < xs.length) : w.cell? ⟨g, j, none⟩ = some (.int .u8 (xs.getD j 0)) ∧ w.frozen? ⟨g, j, none⟩ = false := by
 (obtain ⟨cur, h1, h2, h4, h3⟩ := h);(refine ⟨?_, ?_⟩)
 ·simp [World.cell?, h1, h3 j hj]
 ·simp only [World.frozen?, h1]
  (have : ¬ cur.size ≤ j := by omega);(simp [this])
theorem BRow.set {w : World} {g : Nat} {e : TypeId} {xs : List Int} (h : BRow w g e xs) (j : Nat) (hj : j < xs.length) (x : Int) : BRow (w.setCell ⟨g, j, none⟩ (.int .u8 x)) g e (xs.set j x) := by
 (obtain ⟨cur, h1, h2, h4, h3⟩ := h);(refine ⟨cur.setIfInBounds j (.int .u8 x), ?_, ?_, ?_, ?_⟩)
 ·simp [World.setCell, Array.getElem?_modify, h1]
 ·simpa using h2
 ·simpa using h4
 ·intro i hi
  (simp only [List.length_set] at hi);(rw [Array.getElem?_setIfInBounds]);(by_cases c : j = i)
  ·subst c
   (have hlt : j < cur.size := by omega);(simp [hlt, hj, List.getD])
  ·simp only [c, if_false]
   (rw [h3 i hi]);(simp [List.getD, List.getElem?_set_ne c])
theorem BRow.C {w : World} {g : Nat} {e : TypeId} {xs : List Int} (h : BRow w g e xs) : (Kd.int .u8).C w (some ⟨g, 0, none⟩) xs.length xs := by
 (refine Kd.C_of_reads (enc := Value.int .u8) (d := (0 : Int)) (h1 := fun _ => rfl) ⟨rfl, h.choose_spec.2.2.1, fun _ => ⟨_, rfl, fun j hj => ?_⟩⟩);(have := (h.at_ j hj).1)
 rcases Nat.eq_zero_or_pos j with rfl | h0
 ·simpa [Addr.add] using this
 ·simpa [Addr.add, show j ≠ 0 by omega] using this

def gvB (x y b : Int) : Int := if b = x then y else b
def giveB (x y : Int) (r : ByteArray) : ByteArray := strOfNums ((numsB r).map (gvB x y))
/-- The row when k of its bytes are seen. -/
def seenB (x y : Int) (ns : List Int) (k : Nat) : List Int := (ns.take k).map (gvB x y) ++ ns.drop k
theorem seenB_length (x y : Int) (ns : List Int) (k : Nat) : (seenB x y ns k).length = ns.length := by simp [seenB]; omega
theorem seenB_at (x y : Int) (ns : List Int) (k : Nat) (h : k < ns.length) : (seenB x y ns k).getD k 0 = ns.getD k 0 := by
 (unfold seenB);(rw [List.getD_eq_getElem?_getD, List.getElem?_append_right (by simp; omega)]);(simp [List.getD, Nat.min_eq_left (Nat.le_of_lt h)])
theorem seenB_step (x y : Int) (ns : List Int) (k : Nat) (h : k < ns.length) : (seenB x y ns k).set k (gvB x y (ns.getD k 0)) = seenB x y ns (k + 1) := by
 (have e1 : ns.drop k = ns[k] :: ns.drop (k + 1) := List.drop_eq_getElem_cons h);(have e2 : ns.take (k + 1) = ns.take k ++ [ns[k]] := by rw [List.take_add_one, List.getElem?_eq_getElem h]; rfl);(have e3 : ns.getD k 0 = ns[k] := by simp [List.getD, h]);(have e4 : k - ((ns.take k).map (gvB x y)).length = 0 := by simp; omega);(unfold seenB);(rw [List.set_append_right _ _ (by simp; omega), e4, e2, List.map_append, e1, e3, List.append_assoc]);rfl
theorem seenB_same (x y : Int) (ns : List Int) (k : Nat) (h : k < ns.length) (hx : ns.getD k 0 ≠ x) : seenB x y ns k = seenB x y ns (k + 1) := by
 (rw [← seenB_step x y ns k h, show gvB x y (ns.getD k 0) = (seenB x y ns k).getD k 0 by rw [seenB_at x y ns k h]; unfold gvB; rw [if_neg hx]]);(have hl : k < (seenB x y ns k).length := by rw [seenB_length]; exact h);(rw [List.getD_eq_getElem?_getD, List.getElem?_eq_getElem hl])
 simp
theorem seenB_all (x y : Int) (ns : List Int) : seenB x y ns ns.length = ns.map (gvB x y) := by simp [seenB]
theorem seenB_zero (x y : Int) (ns : List Int) : seenB x y ns 0 = ns := by simp [seenB]
def spec_GiveLand.bad (a2 : ByteArray) : Option Bool := if (a2.size : Int) = 1 then (if bt a2 0 = 46 then some false else (spec_l01Small.f (bt a2 0)).map (fun t => !t)) else some true
def spec_GiveLand.f (k : Nat) (l0 : List ByteArray) (a1 a2 : ByteArray) : Option (List ByteArray × Int) := (spec_l12Code.f k l0 a1).bind fun c => if c = 1 then some ([], c) else (spec_GiveLand.bad a2).bind fun bad => if bad = true then some ([], 2) else if c = 0 then (if 1 ≤ a1.size ∧ l0.length < 100 ∧ (∀ r ∈ l0, r.size < 100) then some (l0.map (giveB (bt a1 0) (bt a2 0)), 0) else none) else some ([], c)
theorem spec_GiveLand.mono : ∀ a0 a1 a2 k, LeO (spec_GiveLand.f k a0 a1 a2) (spec_GiveLand.f (k + 1) a0 a1 a2) := by
 intro a0 a1 a2 k;(unfold spec_GiveLand.f)
 repeat' first
   | exact spec_l12Code.mono _ _ _
   | (with_reducible exact LeO.refl _)
   | (with_reducible refine LeO.ite ?_ ?_)
   | (with_reducible refine LeO.bind ?_ (fun _ => ?_))
   | exact LeO.refl _
/-- What the guard of the second text comes to. -/
theorem spec_GiveLand.bad_size (a2 : ByteArray) (h : spec_GiveLand.bad a2 = some false) : a2.size = 1 := by
 unfold spec_GiveLand.bad at h
 split at h
 ·omega
 ·cases h
theorem spec_GiveLand.calls (k : Nat) (A0 : Option Addr) (c0 : Nat) (l0 : List ByteArray) (a1 a2 : ByteArray) (r1 : List ByteArray) (r2 : Int) (w : World) (hr0 : Kd.C Kd.string w A0 l0.length l0) (hc0 : l0.length ≤ c0) (h : spec_GiveLand.f k l0 a1 a2 = some (r1, r2)) :
  Calls Tryd.prog 8 #[.slice A0 l0.length c0, .string a1, .string a2] w fun e w' => ∃ v0_ : Value, e = .returned (.tuple #[v0_, .int .i64 r2]) ∧ Kd.R Kd.string 9 w' w.heap.size (fun _ => True) v0_ r1 ∧ Below w.heap.size w w' := by
 (unfold spec_GiveLand.f at h);(obtain ⟨c, e1, h⟩ := Option.bind_eq_some_iff.1 h);(have A1 := Aside0.mk e1);clear e1;(have hM := Kd.C_max hr0);(by_cases hc1 : c = 1)
 ·rw [if_pos hc1] at h
  subst hc1;(obtain ⟨rfl, rfl⟩ := Prod.mk.inj (Option.some.inj h));clear h
  go_enter Tryd.func8, Tryd.ntmps8
  (go_wp2_with (go_at_call 38; (with_reducible refine (spec_l12Code.calls k A0 c0 l0 a1 1 _ hr0 hc0 A1.out).mono ?_); rintro e w' ⟨rfl, ⟨nd, rfl⟩⟩));(go_ret2);(exact ⟨_, rfl, Kd.R_nil _ _ _ _ _, pw_below_drewN (Below.refl _ _) _⟩)
 ·rw [if_neg hc1] at h
  (obtain ⟨bad, e2, h⟩ := Option.bind_eq_some_iff.1 h);(have c1b : (c == 1) = false := beq_eq_false_iff_ne.2 hc1);(have c1n : (c != 1) = true := bne_iff_ne.2 hc1);(have A2 := Aside0.mk e2);(have H3 := Aside0.mk h);clear e2 h
  go_enter Tryd.func8, Tryd.ntmps8
  (go_upto_region 4 with (go_at_call 38; (with_reducible refine (spec_l12Code.calls k A0 c0 l0 a1 c _ hr0 hc0 A1.out).mono ?_); rintro e w' ⟨rfl, ⟨nd, rfl⟩⟩));((try simp only [Act.put, List.setIfInBounds_toArray, List.set_cons_zero, List.set_cons_succ]))
  go_cut [32] (fun v32 wc => v32 = .bool bad ∧ Drawn0 w wc)
  case first =>
   (have H := A2.out);(unfold spec_GiveLand.bad at H);(by_cases c6 : (a2.size : Int) = 1)
   ·rw [if_pos c6] at H
    (have c6b0 : ((a2.size : Int) == 1) = true := beq_iff_eq.mpr c6);(have c6b1 : ((a2.size : Int) != 1) = false := bne_eq_false_iff_eq.mpr c6);(have c7b0 : decide (0 < (a2.size : Int)) = true := decide_eq_true (by omega));(have c7b1 : decide (0 < a2.size) = true := decide_eq_true (by omega));(have q8 : (0 < a2.size) = True := eq_true (by omega));(have hx8 : ∀ h : 0 < a2.size, ((a2[0]'h).toNat : Int) = bt a2 0 := bt_at a2 0);(have qi8 : (0 < (a2.size : Int)) = True := eq_true (by omega));clear c6;(by_cases c8 : bt a2 0 = 46)
    ·rw [if_pos c8] at H
     (obtain rfl := Option.some.inj H);(have c8b0 : (bt a2 0 == 46) = true := beq_iff_eq.mpr c8);(have c8b1 : (bt a2 0 != 46) = false := bne_eq_false_iff_eq.mpr c8);clear c8 H;(go_wp2)
     go_meet
     case rel => exact ⟨zq22, zq46⟩
    ·rw [if_neg c8] at H
     (have c8b0 : (bt a2 0 == 46) = false := beq_eq_false_iff_ne.mpr c8);(have c8b1 : (bt a2 0 != 46) = true := bne_iff_ne.mpr c8);clear c8;(obtain ⟨t, ht, rfl⟩ := Option.map_eq_some_iff.1 H);(have AT := Aside0.mk ht);clear ht H;(go_wp2_with (first | (go_at_call 39; (with_reducible refine (spec_l01Small.calls (bt a2 0) t _ AT.out).mono ?_); rintro e w' ⟨rfl, ⟨nd2, rfl⟩⟩)))
     go_meet
     case rel => exact ⟨zq22, zq46⟩
   ·rw [if_neg c6] at H
    (have c6b0 : ((a2.size : Int) == 1) = false := beq_eq_false_iff_ne.mpr c6);(have c6b1 : ((a2.size : Int) != 1) = true := bne_iff_ne.mpr c6);(obtain rfl := Option.some.inj H);clear H c6;(go_wp2)
    go_meet
    case rel => exact ⟨zq22, zq46⟩
  case rest =>
   (obtain ⟨rfl, ⟨mc4, rfl⟩⟩ := hcut);(have h := H3.out);clear H3
   cases bad with
   | true =>
    (rw [if_pos rfl] at h);(obtain ⟨rfl, rfl⟩ := Prod.mk.inj (Option.some.inj h));clear h;(go_wp2);(go_ret2);(exact ⟨_, rfl, Kd.R_nil _ _ _ _ _, pw_below_drewN (Below.refl _ _) _⟩)
   | false =>
    (rw [if_neg (by decide)] at h);(have h2s := spec_GiveLand.bad_size a2 A2.out);(by_cases hc0' : c = 0)
    ·subst hc0'
     (rw [if_pos rfl] at h);(by_cases hcc : 1 ≤ a1.size ∧ l0.length < 100 ∧ (∀ r ∈ l0, r.size < 100))
     ·rw [if_pos hcc] at h
      (obtain ⟨hs1, hs2, hs3⟩ := hcc);(obtain ⟨rfl, rfl⟩ := Prod.mk.inj (Option.some.inj h));clear h;(have HB := Aside0.mk (pw_below_drewN (Below.refl w.heap.size w) mc4));(have d1 : decide (0 < a1.size) = true := decide_eq_true (by omega));(have di1 : decide (0 < (a1.size : Int)) = true := decide_eq_true (by omega));(have q1 : (0 < a1.size) = True := eq_true (by omega));(have qi1 : (0 < (a1.size : Int)) = True := eq_true (by omega));(have hx1 : ∀ h : 0 < a1.size, ((a1[0]'h).toNat : Int) = bt a1 0 := bt_at a1 0);(have d2 : decide (0 < a2.size) = true := decide_eq_true (by omega));(have di2 : decide (0 < (a2.size : Int)) = true := decide_eq_true (by omega));(have q2 : (0 < a2.size) = True := eq_true (by omega));(have qi2 : (0 < (a2.size : Int)) = True := eq_true (by omega));(have hx2 : ∀ h : 0 < a2.size, ((a2[0]'h).toNat : Int) = bt a2 0 := bt_at a2 0);(go_wp2_with (first | ((with_reducible refine gate_dst (N := 36) rfl ?_); refine Kd.R_lit Kd.string _ 9 ?hg (N := 36) ?hd (xs := ([] : List ByteArray)) (inner := []) (ok := fun _ => True) (okp := fun _ => True) ?hr ?hp (fun _ hk => hk) trivial (Below.refl _ _) (Nat.le_refl _) (by simp) ?_; (case hd => rfl); (case hg => rfl); (case hr => first | (go_simp; done) | (go_simp; rfl)); (case hp => exact (Reps.none _ _)); intro v1 w3 ho4 hb hg_ hnew_; clear hg_ hnew_; have HO := Aside0.mk (Kd.R_lower ho4 (below_size HB.out)); have n1_ := Aside0.mk (below_step HB.out hb); clear HB; have HB := n1_; clear n1_ hb ho4)))
      go_loopg [9, 10] l0.length (fun g v9 v10 w' => ∃ j : Nat, v10 = .int .i64 j ∧ j + g = l0.length ∧ Aside0 (Kd.R Kd.string 9 w' w.heap.size (fun _ => True) v9 ((l0.take j).map (giveB (bt a1 0) (bt a2 0)))) ∧ Aside0 (Below w.heap.size w w'))
      case atStart => exact ⟨0, rfl, by omega, ⟨by simpa using HO.out⟩, HB⟩
      case round =>
       clear HO HB;(obtain ⟨j, rfl, hjg, HO, HB⟩ := hrel);(obtain ⟨wo, hwo⟩ : ∃ x, x = wr := ⟨_, rfl⟩);subst hwo
       cases gk with
       | zero =>
        (have hj : j = l0.length := by omega);subst hj;(have c5b0 : decide ((l0.length : Int) < (l0.length : Int)) = false := decide_eq_false (by omega));(go_wp2);(go_ret2);(exact ⟨_, rfl, by simpa using HO.out, HB.out⟩)
       | succ g =>
        (have hj : j < l0.length := by omega);(have c5b0 : decide ((j : Int) < (l0.length : Int)) = true := decide_eq_true (by omega));(have p136 : (0 ≤ (j : Int)) = True := eq_true (by omega));(have q136 : ((j : Int) < (l0.length : Int)) = True := eq_true (by omega));(have w136 : wrap64 ((j : Int) + 1) = ((j + 1 : Nat) : Int) := by unfold wrap64; omega);(obtain ⟨ad136, e136, hx136_0⟩ := Kd.at_string hr0 (j : Int) (by omega) (by omega))
        cases e136
        (replace hx136_0 := (HB.out.cell (World.block_lt_of_cell? w _ hx136_0)).trans hx136_0);(obtain ⟨row, hrow⟩ : ∃ row, row = rdOf ByteArray.empty l0 (j : Int) := ⟨_, rfl⟩);(rw [← hrow] at hx136_0);(simp only [Int.toNat_natCast] at hx136_0);(have hrl : row.size < 100 := hs3 _ (by rw [hrow]; unfold rdOf; simp only [Int.toNat_natCast]; rw [List.getD_eq_getElem?_getD, List.getElem?_eq_getElem hj]; exact List.getElem_mem hj));(have HROW := Aside0.mk hrow);clear hrow;(have hcv := Go.Lib.run_convert_string_bytes (P := Tryd.prog) wo 9 22 5 row (u := .string) Tryd.underlying9 Tryd.underlying22 Tryd.underlying5);(have hBN := BRow.new wo 5 row (by omega));(have hBB := Go.Lib.bytesWorld_below wo 5 row);(obtain ⟨W1, hW1⟩ : ∃ W1, W1 = Go.Lib.bytesWorld wo 5 row := ⟨_, rfl⟩);(rw [← hW1] at hcv hBN hBB);clear hW1;(go_wp2)
        go_loopg [12] row.size (fun g v12 wx => ∃ m : Nat, v12 = .int .i64 m ∧ m + g = row.size ∧ Aside0 (BRow wx wo.heap.size 5 (seenB (bt a1 0) (bt a2 0) (numsB row) m)) ∧ Aside0 (Below wo.heap.size wo wx))
        case atStart => exact ⟨0, rfl, by omega, ⟨by rw [seenB_zero]; exact hBN⟩, ⟨hBB⟩⟩
        case round =>
         clear hBN hBB;(obtain ⟨m, rfl, hmg, HN, HBX⟩ := hrel);(have w137 : wrap64 ((m : Int) + 1) = ((m + 1 : Nat) : Int) := by unfold wrap64; omega)
         cases gk with
         | zero =>
          (have hm : m = row.size := by omega);subst hm;(have c6b0 : decide ((row.size : Int) < (row.size : Int)) = false := decide_eq_false (by omega));(have hC := HN.out.C);(rw [seenB_length, numsB_length] at hC);(have hcv2 := Kd.C_string (P := Tryd.prog) (src := 22) (dst := 9) (e := 5) (c := grownCap wo row.size 0 5) Tryd.underlying22 Tryd.underlying5 Tryd.underlying9 hC);(rw [show seenB (bt a1 0) (bt a2 0) (numsB row) row.size = (numsB row).map (gvB (bt a1 0) (bt a2 0)) by rw [← numsB_length row]; exact seenB_all _ _ _] at hcv2);(have HO2 := Aside0.mk (Kd.R_below HO.out HBX.out));(have HB2 := Aside0.mk (below_step HB.out HBX.out));clear HO HB hC;(have hrw := HROW.out);(have hlt : ((l0.take j).map (giveB (bt a1 0) (bt a2 0))).length < 100 := by rw [List.length_map, List.length_take]; omega);(obtain ⟨xo, hxo⟩ : ∃ xo, xo = (l0.take j).map (giveB (bt a1 0) (bt a2 0)) := ⟨_, rfl⟩);(rw [← hxo] at HO2 hlt);(have HXO := Aside0.mk hxo);(have HLT := Aside0.mk hlt);clear hxo hlt hrw;(obtain ⟨so, hso⟩ : ∃ so, so = strOfNums ((numsB row).map (gvB (bt a1 0) (bt a2 0))) := ⟨_, rfl⟩);(rw [← hso] at hcv2);(have HSO := Aside0.mk hso);clear hso;(go_wp2_with (first | ((with_reducible refine gate_builtin (b := .append) (xs := #[.tmp 66, .tmp 69]) rfl ?_); at_builtin; refine Kd.R_append Kd.string (w0 := w) w.heap.size rfl (.tmp 66) (.tmp 69) 24 9 (.string ⟨#[]⟩) 16 rfl Tryd.underlying24 info9 rfl (by decide) (by omega) u9 xo so [.string so] (fun _ => True) (fun _ => False) rfl rfl ?aP (fun _ hk => hk.elim) ?aF ?aO ?aB ?aS ?aL ?_; (case aP => exact rfl); (case aB => exact HB2.out); (case aF => exact (fun _ _ => trivial)); (case aO => exact HO2.out); (case aS => exact (below_size HB2.out)); (case aL => have := HLT.out; omega); intro v138 w14 ho hb hg hat; have HO3 := Aside0.mk ho; have HB3 := Aside0.mk hb; clear HO2 HB2 ho hb hg hat)));(go_roundg g)
          case measure => omega
          case rel => exact ⟨j + 1, zq81, by omega, ⟨by have h9 := HO3.out; rw [HXO.out, HSO.out] at h9; rw [List.take_add_one, List.getElem?_eq_getElem hj, List.map_append]; have h8 := HROW.out; unfold rdOf at h8; simp only [Int.toNat_natCast] at h8; rw [List.getD_eq_getElem?_getD, List.getElem?_eq_getElem hj] at h8; simp only [Option.getD_some] at h8; rw [← h8]; exact h9⟩, HB3⟩
         | succ g2 =>
          (have hm : m < row.size := by omega);(have c6b0 : decide ((m : Int) < (row.size : Int)) = true := decide_eq_true (by omega));(have p137 : (0 ≤ (m : Int)) = True := eq_true (by omega));(have q137 : ((m : Int) < (row.size : Int)) = True := eq_true (by omega));(have hml : m < (numsB row).length := by rw [numsB_length]; exact hm);(have hat := HN.out.at_ m (by rw [seenB_length]; exact hml));(rw [seenB_at _ _ _ _ hml] at hat);(obtain ⟨hat1, hat2⟩ := hat);(by_cases hx : (numsB row).getD m 0 = bt a1 0)
          ·have c7b0 : ((numsB row).getD m 0 == bt a1 0) = true := beq_iff_eq.2 hx
           (rw [hx] at hat1);(have c7b1 : (bt a1 0 == bt a1 0) = true := beq_self_eq_true _);(go_wp2)
           go_quiet (fail)
           (go_wp2);(go_roundg g2)
           case measure => omega
           case rel => exact ⟨m + 1, zq81, by omega, ⟨by have h9 := BRow.set (show BRow (wr.drewN nq) wo.heap.size 5 _ from HN.out) m (by rw [seenB_length]; exact hml) (bt a2 0); have h8 := seenB_step (bt a1 0) (bt a2 0) (numsB row) m hml; rw [show gvB (bt a1 0) (bt a2 0) ((numsB row).getD m 0) = bt a2 0 by unfold gvB; rw [if_pos hx]] at h8; rw [← h8]; exact h9⟩, ⟨(pw_below_drewN HBX.out nq).setCell (p := ⟨wo.heap.size, m, none⟩) (Nat.le_refl _) _⟩⟩
          ·have c7b0 : ((numsB row).getD m 0 == bt a1 0) = false := beq_eq_false_iff_ne.2 hx
           (obtain ⟨bv, hbv⟩ : ∃ bv, bv = (numsB row).getD m 0 := ⟨_, rfl⟩);(rw [← hbv] at hat1 c7b0);clear hbv;(go_wp2)
           go_quiet (fail)
           (go_wp2);(go_roundg g2)
           case measure => omega
           case rel => exact ⟨m + 1, zq81, by omega, ⟨by rw [← seenB_same _ _ _ _ hml hx]; exact HN.out⟩, ⟨pw_below_drewN HBX.out _⟩⟩
     ·rw [if_neg hcc] at h
      cases h
    ·rw [if_neg hc0'] at h
     (obtain ⟨rfl, rfl⟩ := Prod.mk.inj (Option.some.inj h));clear h;(have c0b : (c != 0) = true := bne_iff_ne.2 hc0');(have c0b2 : (c == 0) = false := beq_eq_false_iff_ne.2 hc0');(go_wp2);(go_ret2);(exact ⟨_, rfl, Kd.R_nil _ _ _ _ _, pw_below_drewN (Below.refl _ _) _⟩)


/-! ### spec_l12Ask: function 40 -/
def spec_l12Ask.f (k : Nat) (l0 : List Int) : Option (List ByteArray × ByteArray) := (spec_l00From.f l0).bind fun bt251 => ((spec_l12Bent.f k bt251.1 bt251.2.1 bt251.2.2).bind fun bt255 => ((spec_l12Land.f bt251.1 bt255.2.1 bt255.2.2).bind fun bt260 => (some (bt255.1, bt260.1))))
theorem spec_l12Ask.mono : ∀ a0 k, LeO (spec_l12Ask.f k a0) (spec_l12Ask.f (k + 1) a0) := by
 intro a0 k;(unfold spec_l12Ask.f)
 repeat' first | with_reducible (first | exact spec_l12Bent.mono _ _ _ _ | exact LeO.refl _ | exact LeO.none _ | refine LeO.ite ?_ ?_ | refine LeO.bind ?_ (fun _ => ?_)) | exact spec_l12Bent.mono _ _ _ _ | exact LeO.none _ | refine LeO.ite ?_ ?_ | refine LeO.bind ?_ (fun _ => ?_)
theorem spec_l12Ask.calls (k : Nat) (A0 : Option Addr) (c0 : Nat) (l0 : List Int) (r1 : List ByteArray) (r2 : ByteArray) (w : World) (hr0 : Kd.C (Kd.int .u8) w A0 l0.length l0) (hc0 : l0.length ≤ c0) (h : spec_l12Ask.f k l0 = some (r1, r2)) :
  Calls Tryd.prog 40 #[.slice A0 l0.length c0] w fun e w' => ∃ v0_ : Value, e = .returned (.tuple #[v0_, .string r2]) ∧ Kd.R Kd.string 9 w' w.heap.size (fun _ => True) v0_ r1 ∧ Below w.heap.size w w' := by
 (have HR0 := Aside0.mk hr0);(have HC0 := Aside0.mk hc0);clear hr0 hc0;(have HB := Aside0.mk (Below.refl w.heap.size w));(have H : ((spec_l00From.f l0).bind fun bt251 => ((spec_l12Bent.f k bt251.1 bt251.2.1 bt251.2.2).bind fun bt255 => ((spec_l12Land.f bt251.1 bt255.2.1 bt255.2.2).bind fun bt260 => (some (bt255.1, bt260.1))))) = some (r1, r2) := h);clear h;(replace H := Option.bind_eq_some_iff.mp H);(obtain ⟨⟨t251, t252, t253⟩, A20, H⟩ := H);(replace H : ((spec_l12Bent.f k t251 t252 t253).bind fun bt255 => ((spec_l12Land.f t251 bt255.2.1 bt255.2.2).bind fun bt260 => (some (bt255.1, bt260.1)))) = some (r1, r2) := H);(have A2 := Aside0.mk A20);clear A20;(replace H := Option.bind_eq_some_iff.mp H);(obtain ⟨⟨t255, t258, t259⟩, A30, H⟩ := H);(replace H : ((spec_l12Land.f t251 t258 t259).bind fun bt260 => (some (t255, bt260.1))) = some (r1, r2) := H);(have A3 := Aside0.mk A30);clear A30;(replace H := Option.bind_eq_some_iff.mp H);(obtain ⟨⟨t260, t261, t262⟩, A40, H⟩ := H);(replace H : (some (t255, t260)) = some (r1, r2) := H);(have A4 := Aside0.mk A40);clear A40;(simp only [Option.some.injEq, Prod.mk.injEq] at H);(obtain ⟨rfl, rfl⟩ := H)
 go_enter Tryd.func40, Tryd.ntmps40
 (go_wp2_with (first | ((with_reducible refine gate_callee (f := 32) rfl ?_); refine goesL_ (some 7) rfl rfl Tryd.func32 (by kernel_rfl) rfl #[.slice A0 l0.length c0] rfl zq0 ?_; (with_reducible refine (spec_l00From.calls _ _ l0 t251 t252 t253 w _ ?side1 ?side2 ?side3 A2.out).mono ?_); (case side1 => exact zq40); (case side2 => exact HR0.out); (case side3 => exact HC0.out); rintro e w5 ⟨g254, rfl, hi, hb, hb2⟩; refine ⟨_, rfl, ?_⟩; have n0_ := Aside0.mk (hb); have n1_ := Aside0.mk (hi); clear HB; have HB := n0_; have HI254 := n1_; clear n0_ n1_; (try clear hb); (try clear hb2); (try clear hk); (try clear hi)) | ((with_reducible refine gate_callee (f := 33) rfl ?_); refine goesL_ (some 9) rfl rfl Tryd.func33 (by kernel_rfl) rfl #[.pointer (some ⟨g254, 0, none⟩)] rfl zq0 ?_; (with_reducible refine (spec_l12Bent.calls k g254 t251 t252 t253 t255 t258 t259 w _ ?side1 ?side2 A3.out).mono ?_); (case side1 => exact zq71); (case side2 => exact zq67); rintro e w6 ⟨v256, rfl, ho0, hi, hb, hk⟩; refine ⟨_, rfl, ?_⟩; have n0_ := Aside0.mk (Kd.R_lower ho0 (below_size zq67)); have n1_ := Aside0.mk (hb); have n2_ := Aside0.mk (hi); clear HB; clear HI254; have HO257 := n0_; have HB := n1_; have HI254 := n2_; clear n0_ n1_ n2_; (try clear hb); (try clear hb2); (try clear hk); (try clear hi); (try clear ho0)) | ((with_reducible refine gate_callee (f := 34) rfl ?_); refine goesL_ (some 12) rfl rfl Tryd.func34 (by kernel_rfl) rfl #[.pointer (some ⟨g254, 0, none⟩)] rfl zq0 ?_; (with_reducible refine (spec_l12Land.calls g254 t251 t258 t259 t260 t261 t262 w _ ?side1 ?side2 A4.out).mono ?_); (case side1 => exact zq71); (case side2 => exact zq67); rintro e w7 ⟨rfl, hi, hb, hk⟩; refine ⟨_, rfl, ?_⟩; have n0_ := Aside0.mk (Kd.R_mono (Kd.R_keep (IsS69.apart (show IsS69 w _ g254 t251 t258 t259 from zq71) (zR HO257.out) (by decide)) hk (fun _ h => h.2)) (fun _ h => h.1)); have n1_ := Aside0.mk (hb); have n2_ := Aside0.mk (hi); clear HO257; clear HB; clear HI254; have HO257 := n0_; have HB := n1_; have HI254 := n2_; clear n0_ n1_ n2_; (try clear hb); (try clear hb2); (try clear hk); (try clear hi))));(go_ret2);(exact ⟨_, zq21, zR HO257.out, zq67⟩)

/-! ### spec_DrawIslandsOf: function 9 -/
def spec_DrawIslandsOf.f (k : Nat) (l0 : List Int) : Option (List ByteArray × ByteArray) := (spec_l12Ask.f k l0).bind fun bt263 => (some (bt263.1, bt263.2))
theorem spec_DrawIslandsOf.mono : ∀ a0 k, LeO (spec_DrawIslandsOf.f k a0) (spec_DrawIslandsOf.f (k + 1) a0) := by
 intro a0 k;(unfold spec_DrawIslandsOf.f)
 repeat' first | with_reducible (first | exact spec_l12Ask.mono _ _ | exact LeO.refl _ | exact LeO.none _ | refine LeO.ite ?_ ?_ | refine LeO.bind ?_ (fun _ => ?_)) | exact spec_l12Ask.mono _ _ | exact LeO.none _ | refine LeO.ite ?_ ?_ | refine LeO.bind ?_ (fun _ => ?_)
theorem spec_DrawIslandsOf.calls (k : Nat) (A0 : Option Addr) (c0 : Nat) (l0 : List Int) (r1 : List ByteArray) (r2 : ByteArray) (w : World) (hr0 : Kd.C (Kd.int .u8) w A0 l0.length l0) (hc0 : l0.length ≤ c0) (h : spec_DrawIslandsOf.f k l0 = some (r1, r2)) :
  Calls Tryd.prog 9 #[.slice A0 l0.length c0] w fun e w' => ∃ v0_ : Value, e = .returned (.tuple #[v0_, .string r2]) ∧ Kd.R Kd.string 9 w' w.heap.size (fun _ => True) v0_ r1 ∧ Below w.heap.size w w' := by
 (have HR0 := Aside0.mk hr0);(have HC0 := Aside0.mk hc0);clear hr0 hc0;(have HB := Aside0.mk (Below.refl w.heap.size w));(have H : ((spec_l12Ask.f k l0).bind fun bt263 => (some (bt263.1, bt263.2))) = some (r1, r2) := h);clear h;(replace H := Option.bind_eq_some_iff.mp H);(obtain ⟨⟨t263, t264⟩, A20, H⟩ := H);(replace H : (some (t263, t264)) = some (r1, r2) := H);(have A2 := Aside0.mk A20);clear A20;(simp only [Option.some.injEq, Prod.mk.injEq] at H);(obtain ⟨rfl, rfl⟩ := H)
 go_enter Tryd.func9, Tryd.ntmps9
 (go_wp2_with (first | ((with_reducible refine gate_callee (f := 40) rfl ?_); refine goesL_ (some 5) rfl rfl Tryd.func40 (by kernel_rfl) rfl #[.slice A0 l0.length c0] rfl zq0 ?_; (with_reducible refine (spec_l12Ask.calls k _ _ l0 t263 t264 _ ?side1 ?side2 A2.out).mono ?_); (case side1 => exact zq47); (case side2 => exact HC0.out); rintro e w3 ⟨v265, rfl, ho0, hb⟩; refine ⟨_, rfl, ?_⟩; have n0_ := Aside0.mk (Kd.R_lower ho0 (below_size zq40)); have n1_ := Aside0.mk (below_step zq40 hb); clear HB; have HO266 := n0_; have HB := n1_; clear n0_ n1_; (try clear hb); (try clear hb2); (try clear hk); (try clear hi); (try clear ho0))));(go_ret2);(exact ⟨_, zq21, zR HO266.out, zq40⟩)

end Go.Proofs.YtdkmngghknohgaaDoor.PFnIslands
