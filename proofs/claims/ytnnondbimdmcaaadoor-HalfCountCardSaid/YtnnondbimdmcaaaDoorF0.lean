-- Written by eprint.py, a program of this session, over the kit's printer. Lean checks it.
import Derived.Test.YtnnondbimdmcaaaDoorProg
import Derived.Below
import Derived.Deep.Draws
import Derived.Deep.AppendLies
import Derived.Maps.AppendAt
import Derived.OwnWalk
import Derived.Laws.BytesArg
import Derived.Laws.MakeOwn
import Derived.Laws.OwnMore
import Derived.Deep.OwnRows
import Derived.Tactics
import Derived.Lib.ConvBytes
import Derived.Laws.Slices
import Derived.WalkKit
import Derived.KernelRfl
import Derived.RowKit3
import Derived.Deep.LoopGhost
import Derived.Deep.QuietTactic
import Derived.BigQuiet
import Derived.WideLaws
import Derived.Deep.DeepCutAuto
import Derived.Deep.CutBlock
import Derived.Deep.RegionHeld3
import Derived.Laws.Rows
import Derived.Lib.AppendStr
import Derived.ArgAppend
import Derived.Laws.IdiomCopy
import Derived.OrdersHeld
import Derived.Laws.BitsLemmas
import Derived.RowKit
import Derived.Test.YtnnondbimdmcaaaDoorE
import Derived.Test.YtnnondbimdmcaaaDoorWWords
import Derived.Test.YtnnondbimdmcaaaDoorWLast
import Derived.Test.YtnnondbimdmcaaaDoorWTab
import Derived.Test.YtnnondbimdmcaaaDoorWFour
import Derived.Test.YtnnondbimdmcaaaDoorWQPut
import Derived.Test.YtnnondbimdmcaaaDoorWApart
import Derived.Test.YtnnondbimdmcaaaDoorWArr
import Derived.Test.YtnnondbimdmcaaaDoorWZeros
import Derived.Test.YtnnondbimdmcaaaDoorWFoot
import Derived.Test.YtnnondbimdmcaaaDoorWKept
import Derived.Test.YtnnondbimdmcaaaDoorWShare
import Derived.Test.YtnnondbimdmcaaaDoorWN
import Derived.Test.YtnnondbimdmcaaaDoorWFootNe
import Derived.Test.YtnnondbimdmcaaaDoorWAt
import Derived.Test.YtnnondbimdmcaaaDoorWEqStruct
import Derived.Test.YtnnondbimdmcaaaDoorWRepsOne
import Derived.Test.YtnnondbimdmcaaaDoorWInv
import Derived.Test.YtnnondbimdmcaaaDoorWInvWords
import Derived.Test.YtnnondbimdmcaaaDoorWGuard
import Derived.Test.YtnnondbimdmcaaaDoorWNEv
import Derived.Test.YtnnondbimdmcaaaDoorWMore
namespace Go.Proofs.YtnnondbimdmcaaaDoor.F
open Go.RowKit Go.Proofs.YtnnondbimdmcaaaDoorW.PrintWords Go.Proofs.YtnnondbimdmcaaaDoorW.PrintLast Go.Proofs.YtnnondbimdmcaaaDoorW.PrintMore
attribute [local go_sem] max2_int min2_int max_two min_two max_three min_three max_four min_four   -- for this text's walks alone
set_option linter.unusedVariables false
set_option linter.unusedSimpArgs false
set_option linter.unusedSectionVars false
open Go.Proofs.YtnnondbimdmcaaaDoor
variable [Errs]

theorem info3 : (Tryd.prog.info? 3).map (fun i => (i.zero, i.size, i.bytes)) = some (some (.int .i64 0), 1, 8) := by kernel_rfl
theorem info5 : (Tryd.prog.info? 5).map (fun i => (i.zero, i.size, i.bytes)) = some (some (.int .u8 0), 1, 1) := by kernel_rfl
theorem info9 : (Tryd.prog.info? 9).map (fun i => (i.zero, i.size, i.bytes)) = some (some (.string ⟨#[]⟩), 1, 16) := by kernel_rfl
theorem info39 : (Tryd.prog.info? 39).map (fun i => (i.zero, i.size, i.bytes)) = some (some (.slice none 0 0), 1, 24) := by kernel_rfl
-- the values' own types
def rd_L3 (xs : List (List Int)) (i : Int) : (List Int) := xs.getD i.toNat ([] : List Int)
theorem at_L3 {w : World} {A : Option Addr} {n : Nat} {xs : List (List Int)} (h : Kd.C (Kd.slice 5 (Kd.int .u8)) w A n xs) (i : Int) (h0 : 0 ≤ i) (h1 : i < n) : ∃ ad A0 c0, A = some ad ∧ w.cell? (ad.add i.toNat) = some (.slice A0 (rd_L3 xs i).length c0) ∧ (rd_L3 xs i).length ≤ c0 ∧ (Kd.int .u8).C w A0 (rd_L3 xs i).length (rd_L3 xs i) := by
  obtain ⟨ad, c, e, _, hK, hc0⟩ := Kd.C_get h ([] : List Int) i h0 h1
  have hc : ∀ j u, c[j]? = some u → w.cell? (ad.add (i.toNat * 1 + j)) = some u := hc0
  obtain ⟨A0, c0, rfl, l0, g0⟩ := hK
  exact ⟨ad, A0, c0, e, by have hq := hc 0 _ rfl; rwa [Nat.mul_one, Nat.add_zero] at hq, l0, g0⟩

end Go.Proofs.YtnnondbimdmcaaaDoor.F
