-- Made by a program of this session (gprint.py) out of the kit's print of the translation and texts of my own.
import Derived.Test.YtgeeojchgfomjaaDoorProg
import Derived.Below
import Derived.Deep.Draws
import Derived.Deep.AppendLies
import Derived.Maps.AppendAt
import Derived.OwnWalk
import Derived.Laws.BytesArg
import Derived.Laws.MakeOwn
import Derived.Laws.OwnMore
import Derived.Deep.OwnRows
import Derived.Tactics
import Derived.Lib.ConvBytes
import Derived.Laws.Slices
import Derived.WalkKit
import Derived.KernelRfl
import Derived.RowKit3
import Derived.Deep.LoopGhost
import Derived.Deep.QuietTactic
import Derived.BigQuiet
import Derived.WideLaws
import Derived.Deep.DeepCutAuto
import Derived.Deep.CutBlock
import Derived.Deep.RegionHeld3
import Derived.Laws.Rows
import Derived.Lib.AppendStr
import Derived.Laws.Cover1
import Derived.ArgAppend
import Derived.Laws.IdiomCopy
import Derived.OrdersHeld
import Derived.Laws.BitsLemmas
import Derived.RowKit
import Derived.Lib.RowBridge
import Derived.Lib.SliceRun
import Derived.Shelf.Abstract
import Derived.Shelf.SlicesE.Compact
import Derived.Shelf.SortM.Plain
import Derived.Shelf.SortM.SortNone
import Derived.Shelf.Strings.SlTrimAscii
import Derived.Sort.OwnSortedInts
import Derived.Test.YtgeeojchgfomjaaDoorWWords
import Derived.Test.YtgeeojchgfomjaaDoorWLast
import Derived.Test.YtgeeojchgfomjaaDoorWTab
import Derived.Test.YtgeeojchgfomjaaDoorWFour
import Derived.Test.YtgeeojchgfomjaaDoorWQPut
import Derived.Test.YtgeeojchgfomjaaDoorWApart
import Derived.Test.YtgeeojchgfomjaaDoorWArr
import Derived.Test.YtgeeojchgfomjaaDoorWZeros
import Derived.Test.YtgeeojchgfomjaaDoorWFoot
import Derived.Test.YtgeeojchgfomjaaDoorWKept
import Derived.Test.YtgeeojchgfomjaaDoorWShare
import Derived.Test.YtgeeojchgfomjaaDoorWN
import Derived.Test.YtgeeojchgfomjaaDoorWFootNe
import Derived.Test.YtgeeojchgfomjaaDoorWAt
import Derived.Test.YtgeeojchgfomjaaDoorWEqStruct
import Derived.Test.YtgeeojchgfomjaaDoorWRepsOne
import Derived.Test.YtgeeojchgfomjaaDoorWInv
import Derived.Test.YtgeeojchgfomjaaDoorWInvWords
import Derived.Test.YtgeeojchgfomjaaDoorWGuard
import Derived.Test.YtgeeojchgfomjaaDoorWNEv
import Derived.Test.YtgeeojchgfomjaaDoorWMore
namespace Go.Proofs.YtgeeojchgfomjaaDoor.PFnMerges
open Go.RowKit Go.Proofs.YtgeeojchgfomjaaDoorW.PrintWords Go.Proofs.YtgeeojchgfomjaaDoorW.PrintLast Go.Proofs.YtgeeojchgfomjaaDoorW.PrintMore
attribute [local go_sem] max2_int min2_int max_two min_two max_three min_three max_four min_four   -- for this text's walks alone
set_option linter.unusedVariables false
set_option linter.unusedSimpArgs false



def errW : Option Int → Value
  | none => .nilIface
  | some c => .iface 0 (.int .i64 c)
theorem errW_none : errW none = .nilIface := rfl
theorem errW_some (c : Int) : errW (some c) = .iface 0 (.int .i64 c) := rfl

theorem info2 : (Tryd.prog.info? 2).map (fun i => (i.zero, i.size, i.bytes)) = some (some (.int .i64 0), 1, 8) := by kernel_rfl
theorem info9 : (Tryd.prog.info? 9).map (fun i => (i.zero, i.size, i.bytes)) = some (some (.string ⟨#[]⟩), 1, 16) := by kernel_rfl
theorem info63 : (Tryd.prog.info? 63).map (fun i => (i.zero, i.size, i.bytes)) = some (some (.slice none 0 0), 1, 24) := by kernel_rfl
-- the values' own types
def rd_L2 (xs : List (List ByteArray)) (i : Int) : (List ByteArray) := xs.getD i.toNat ([] : List ByteArray)
theorem at_L2 {w : World} {A : Option Addr} {n : Nat} {xs : List (List ByteArray)} (h : Kd.C (Kd.slice 9 Kd.string) w A n xs) (i : Int) (h0 : 0 ≤ i) (h1 : i < n) : ∃ ad A0 c0, A = some ad ∧ w.cell? (ad.add i.toNat) = some (.slice A0 (rd_L2 xs i).length c0) ∧ (rd_L2 xs i).length ≤ c0 ∧ Kd.string.C w A0 (rd_L2 xs i).length (rd_L2 xs i) := by
  obtain ⟨ad, c, e, _, hK, hc0⟩ := Kd.C_get h ([] : List ByteArray) i h0 h1
  have hc : ∀ j u, c[j]? = some u → w.cell? (ad.add (i.toNat * 1 + j)) = some u := hc0
  obtain ⟨A0, c0, rfl, l0, g0⟩ := hK
  exact ⟨ad, A0, c0, e, by have hq := hc 0 _ rfl; rwa [Nat.mul_one, Nat.add_zero] at hq, l0, g0⟩

end Go.Proofs.YtgeeojchgfomjaaDoor.PFnMerges
