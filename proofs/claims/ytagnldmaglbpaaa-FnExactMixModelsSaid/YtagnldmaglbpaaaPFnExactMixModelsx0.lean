/- This text is this session's own: written by a program of its own that goes the same way as print.sh (wip/ownprint.py says what it does otherwise). -/
import Derived.Test.YtagnldmaglbpaaaProg
import Derived.Below
import Derived.Deep.Draws
import Derived.Deep.AppendLies
import Derived.Maps.AppendAt
import Derived.OwnWalk
import Derived.Laws.BytesArg
import Derived.Laws.MakeOwn
import Derived.Laws.OwnMore
import Derived.Deep.OwnRows
import Derived.Tactics
import Derived.Lib.ConvBytes
import Derived.Laws.Slices
import Derived.WalkKit
import Derived.KernelRfl
import Derived.RowKit3
import Derived.Deep.LoopGhost
import Derived.Deep.QuietTactic
import Derived.BigQuiet
import Derived.WideLaws
import Derived.Deep.DeepCutAuto
import Derived.Deep.CutBlock
import Derived.Deep.RegionHeld3
import Derived.Laws.Rows
import Derived.Lib.AppendStr
import Derived.ArgAppend
import Derived.Laws.IdiomCopy
import Derived.OrdersHeld
import Derived.Laws.BitsLemmas
import Derived.RowKit
import Derived.Test.YtagnldmaglbpaaaWWords
import Derived.Test.YtagnldmaglbpaaaWLast
import Derived.Test.YtagnldmaglbpaaaWTab
import Derived.Test.YtagnldmaglbpaaaWFour
import Derived.Test.YtagnldmaglbpaaaWQPut
import Derived.Test.YtagnldmaglbpaaaWApart
import Derived.Test.YtagnldmaglbpaaaWArr
import Derived.Test.YtagnldmaglbpaaaWZeros
import Derived.Test.YtagnldmaglbpaaaWFoot
import Derived.Test.YtagnldmaglbpaaaWKept
import Derived.Test.YtagnldmaglbpaaaWShare
import Derived.Test.YtagnldmaglbpaaaWN
import Derived.Test.YtagnldmaglbpaaaWFootNe
import Derived.Test.YtagnldmaglbpaaaWAt
import Derived.Test.YtagnldmaglbpaaaWEqStruct
import Derived.Test.YtagnldmaglbpaaaWRepsOne
import Derived.Test.YtagnldmaglbpaaaWInv
import Derived.Test.YtagnldmaglbpaaaWInvWords
import Derived.Test.YtagnldmaglbpaaaWGuard
import Derived.Test.YtagnldmaglbpaaaWNEv
import Derived.Test.YtagnldmaglbpaaaWMore
namespace Go.Proofs.Ytagnldmaglbpaaa.PFnExactMixModels
open Go.RowKit Go.Proofs.YtagnldmaglbpaaaW.PrintWords Go.Proofs.YtagnldmaglbpaaaW.PrintLast Go.Proofs.YtagnldmaglbpaaaW.PrintMore
attribute [local go_sem] max2_int min2_int max_two min_two max_three min_three max_four min_four   -- for this text's walks alone
set_option linter.unusedVariables false
set_option linter.unusedSimpArgs false



def errW : Option Int → Value
  | none => .nilIface
  | some c => .iface 0 (.int .i64 c)
theorem errW_none : errW none = .nilIface := rfl
theorem errW_some (c : Int) : errW (some c) = .iface 0 (.int .i64 c) := rfl

theorem info3 : (Try.prog.info? 3).map (fun i => (i.zero, i.size, i.bytes)) = some (some (.int .i64 0), 1, 8) := by kernel_rfl
-- the values' own types

end Go.Proofs.Ytagnldmaglbpaaa.PFnExactMixModels
