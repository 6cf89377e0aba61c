import Derived.Test.YtoaglacdklmafaaPFnExactBestRowx5
namespace Go.Proofs.Ytoaglacdklmafaa.Stat
open Go.RowKit Go.Proofs.Ytoaglacdklmafaa.PFnExactBestRow Go.Proofs.YtoaglacdklmafaaW.PrintWords Go.Proofs.YtoaglacdklmafaaW.PrintLast
/-- What is left of the law FnExactBestRow: numbers and lists alone. -/
def FnExactBestRow : Prop := ∀ (l0 : List Int) (a1 : Int), ((l0.length ≤ 9223372036854775807 ∧ ∀ y0 ∈ l0, (Lit.int .i64 y0).wf = true)) → ((Lit.int .i64 a1).wf = true) → ∃ k, laws_FnExactBestRow.f k l0 a1 = some true
end Go.Proofs.Ytoaglacdklmafaa.Stat
