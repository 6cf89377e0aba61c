import Derived.Test.YtbkolnbdcifnlaaPFnExactMixOfx2
namespace Go.Proofs.Ytbkolnbdcifnlaa.Stat
open Go.RowKit Go.Proofs.Ytbkolnbdcifnlaa.PFnExactMixOf Go.Proofs.YtbkolnbdcifnlaaW.PrintWords Go.Proofs.YtbkolnbdcifnlaaW.PrintLast
/-- What is left of the law FnExactMixOf: numbers and lists alone. -/
def FnExactMixOf : Prop := ∀ (l0 : List Int), ((l0.length ≤ 9223372036854775807 ∧ ∀ y0 ∈ l0, (Lit.int .i64 y0).wf = true)) → ∃ k, laws_FnExactMixOf.f k l0 = some true
end Go.Proofs.Ytbkolnbdcifnlaa.Stat
