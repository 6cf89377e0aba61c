import Derived.Test.YtbkolnbdcifnlaaPFnExactRowBalancesx2
namespace Go.Proofs.Ytbkolnbdcifnlaa.Stat
open Go.RowKit Go.Proofs.Ytbkolnbdcifnlaa.PFnExactRowBalances Go.Proofs.YtbkolnbdcifnlaaW.PrintWords Go.Proofs.YtbkolnbdcifnlaaW.PrintLast
/-- What is left of the law FnExactRowBalances: numbers and lists alone. -/
def FnExactRowBalances : Prop := ∀ (l0 : List Int), ((l0.length ≤ 9223372036854775807 ∧ ∀ y0 ∈ l0, (Lit.int .i64 y0).wf = true)) → ∃ k, laws_FnExactRowBalances.f k l0 = some true
end Go.Proofs.Ytbkolnbdcifnlaa.Stat
