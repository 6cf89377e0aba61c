import Derived.Test.YtccpgcgaaiafnaaPFnMachinesx7
namespace Go.Proofs.Ytccpgcgaaiafnaa.Stat
open Go.RowKit Go.Proofs.Ytccpgcgaaiafnaa.PFnMachines Go.Proofs.YtccpgcgaaiafnaaW.PrintWords Go.Proofs.YtccpgcgaaiafnaaW.PrintLast
/-- What is left of the law FnMachines: numbers and lists alone. -/
def FnMachines : Prop := ∀ (l0 : List Int) (l1 : List Int), ((l0.length ≤ 9223372036854775807 ∧ ∀ y0 ∈ l0, (Lit.int .u8 y0).wf = true)) → ((l1.length ≤ 9223372036854775807 ∧ ∀ y1 ∈ l1, (Lit.int .u8 y1).wf = true)) → ∃ k, laws_FnMachines.f k l0 l1 = some true
end Go.Proofs.Ytccpgcgaaiafnaa.Stat
