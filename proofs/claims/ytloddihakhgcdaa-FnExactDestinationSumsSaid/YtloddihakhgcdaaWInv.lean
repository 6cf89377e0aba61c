/- This text is this session's own, not the print's: a program (wip/shake.py) left out of the print's words what nothing here names. -/
/- This text is this session's own: written by a program of its own that goes the same way as print.sh (wip/ownprint.py says what it does otherwise). -/
import Derived.Test.YtloddihakhgcdaaWTab
namespace Go.Proofs.YtloddihakhgcdaaW.PrintLast
def up (b : Nat → Bool) (i : Nat) : Nat → Bool := fun j => if j = i then true else b j
section
variable {P : Program} {ops : Array Oper} {Q : Exit → Act → World → Prop} {md : Region.Mode} {T : Bool × List (List Nat × List Nat)} {B : List Nat} {O : List Nat} {b : Nat → Bool} {i j n : Nat}
end
end Go.Proofs.YtloddihakhgcdaaW.PrintLast
