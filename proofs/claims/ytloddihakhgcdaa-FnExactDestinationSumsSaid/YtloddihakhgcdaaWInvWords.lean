/- This text is this session's own, not the print's: a program (wip/shake.py) left out of the print's words what nothing here names. -/
/- This text is this session's own: written by a program of its own that goes the same way as print.sh (wip/ownprint.py says what it does otherwise). -/
import Derived.Test.YtloddihakhgcdaaWInv
import Derived.Test.YtloddihakhgcdaaWFootNe
namespace Go.Proofs.YtloddihakhgcdaaW.PrintWords
open Go.RowKit
end Go.Proofs.YtloddihakhgcdaaW.PrintWords
namespace Go.Proofs.YtloddihakhgcdaaW.PrintLast
section
variable {ops : Array Oper} {a : Act} {o og : Oper} {g : Nat} {t : Tmp} {u : Bool}
end
end Go.Proofs.YtloddihakhgcdaaW.PrintLast
