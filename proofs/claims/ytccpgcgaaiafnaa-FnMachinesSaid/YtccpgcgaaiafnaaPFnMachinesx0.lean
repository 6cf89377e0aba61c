/- This text is this session's own: written by a program of its own that goes the same way as print.sh (wip/ownprint.py says what it does otherwise). -/
import Derived.Test.YtccpgcgaaiafnaaProg
import Derived.Below
import Derived.Deep.Draws
import Derived.Deep.AppendLies
import Derived.Maps.AppendAt
import Derived.OwnWalk
import Derived.Laws.BytesArg
import Derived.Laws.MakeOwn
import Derived.Laws.OwnMore
import Derived.Deep.OwnRows
import Derived.Tactics
import Derived.Lib.ConvBytes
import Derived.Laws.Slices
import Derived.WalkKit
import Derived.KernelRfl
import Derived.RowKit3
import Derived.Deep.LoopGhost
import Derived.Deep.QuietTactic
import Derived.BigQuiet
import Derived.WideLaws
import Derived.Deep.DeepCutAuto
import Derived.Deep.CutBlock
import Derived.Deep.RegionHeld3
import Derived.Laws.Rows
import Derived.Lib.AppendStr
import Derived.ArgAppend
import Derived.Laws.IdiomCopy
import Derived.OrdersHeld
import Derived.Laws.BitsLemmas
import Derived.RowKit
import Derived.Test.YtccpgcgaaiafnaaWWords
import Derived.Test.YtccpgcgaaiafnaaWLast
import Derived.Test.YtccpgcgaaiafnaaWTab
import Derived.Test.YtccpgcgaaiafnaaWFour
import Derived.Test.YtccpgcgaaiafnaaWQPut
import Derived.Test.YtccpgcgaaiafnaaWApart
import Derived.Test.YtccpgcgaaiafnaaWArr
import Derived.Test.YtccpgcgaaiafnaaWZeros
import Derived.Test.YtccpgcgaaiafnaaWFoot
import Derived.Test.YtccpgcgaaiafnaaWKept
import Derived.Test.YtccpgcgaaiafnaaWShare
import Derived.Test.YtccpgcgaaiafnaaWN
import Derived.Test.YtccpgcgaaiafnaaWFootNe
import Derived.Test.YtccpgcgaaiafnaaWAt
import Derived.Test.YtccpgcgaaiafnaaWEqStruct
import Derived.Test.YtccpgcgaaiafnaaWRepsOne
import Derived.Test.YtccpgcgaaiafnaaWInv
import Derived.Test.YtccpgcgaaiafnaaWInvWords
import Derived.Test.YtccpgcgaaiafnaaWGuard
import Derived.Test.YtccpgcgaaiafnaaWNEv
import Derived.Test.YtccpgcgaaiafnaaWMore
namespace Go.Proofs.Ytccpgcgaaiafnaa.PFnMachines
open Go.RowKit Go.Proofs.YtccpgcgaaiafnaaW.PrintWords Go.Proofs.YtccpgcgaaiafnaaW.PrintLast Go.Proofs.YtccpgcgaaiafnaaW.PrintMore
attribute [local go_sem] max2_int min2_int max_two min_two max_three min_three max_four min_four   -- for this text's walks alone
set_option linter.unusedVariables false
set_option linter.unusedSimpArgs false



def errW : Option Int → Value
  | none => .nilIface
  | some c => .iface 0 (.int .i64 c)
theorem errW_none : errW none = .nilIface := rfl
theorem errW_some (c : Int) : errW (some c) = .iface 0 (.int .i64 c) := rfl

theorem info3 : (Try.prog.info? 3).map (fun i => (i.zero, i.size, i.bytes)) = some (some (.int .i64 0), 1, 8) := by kernel_rfl
theorem info4 : (Try.prog.info? 4).map (fun i => (i.zero, i.size, i.bytes)) = some (some (.bool false), 1, 1) := by kernel_rfl
-- the values' own types

end Go.Proofs.Ytccpgcgaaiafnaa.PFnMachines
