import Derived.Test.YtoaglacdklmafaaPFnExactFleetReadyx5
namespace Go.Proofs.Ytoaglacdklmafaa.Stat
open Go.RowKit Go.Proofs.Ytoaglacdklmafaa.PFnExactFleetReady Go.Proofs.YtoaglacdklmafaaW.PrintWords Go.Proofs.YtoaglacdklmafaaW.PrintLast
/-- What is left of the law FnExactFleetReady: numbers and lists alone. -/
def FnExactFleetReady : Prop := ∀ (l0 : List (S107)) (a1 : Int) (a2 : Int), ((l0.length ≤ 9223372036854775807 ∧ ∀ y0 ∈ l0, ((Lit.int .i64 y0.f0).wf = true ∧ (Lit.int .i64 y0.f1).wf = true ∧ True))) → ((Lit.int .i64 a1).wf = true) → ((Lit.int .i64 a2).wf = true) → ∃ k, laws_FnExactFleetReady.f k l0 a1 a2 = some true
end Go.Proofs.Ytoaglacdklmafaa.Stat
