import Derived.Test.YtccpgcgaaiafnaaPFnShiftsx8
namespace Go.Proofs.Ytccpgcgaaiafnaa.Stat
open Go.RowKit Go.Proofs.Ytccpgcgaaiafnaa.PFnShifts Go.Proofs.YtccpgcgaaiafnaaW.PrintWords Go.Proofs.YtccpgcgaaiafnaaW.PrintLast
/-- What is left of the law FnShifts: numbers and lists alone. -/
def FnShifts : Prop := ∀ (l0 : List Int) (l1 : List Int), ((l0.length ≤ 9223372036854775807 ∧ ∀ y0 ∈ l0, (Lit.int .u8 y0).wf = true)) → ((l1.length ≤ 9223372036854775807 ∧ ∀ y1 ∈ l1, (Lit.int .u8 y1).wf = true)) → ∃ k, laws_FnShifts.f k l0 l1 = some true
end Go.Proofs.Ytccpgcgaaiafnaa.Stat
