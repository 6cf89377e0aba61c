import Derived.Test.YtbkolnbdcifnlaaPFnExactIsBenchx2
namespace Go.Proofs.Ytbkolnbdcifnlaa.Stat
open Go.RowKit Go.Proofs.Ytbkolnbdcifnlaa.PFnExactIsBench Go.Proofs.YtbkolnbdcifnlaaW.PrintWords Go.Proofs.YtbkolnbdcifnlaaW.PrintLast
/-- What is left of the law FnExactIsBench: numbers and lists alone. -/
def FnExactIsBench : Prop := ∀ (a0_0 : Int) (a0_1 : Int) (l0_2 : List Int), ((Lit.int .i64 a0_0).wf = true) → ((Lit.int .i64 a0_1).wf = true) → ((l0_2.length ≤ 9223372036854775807 ∧ ∀ y0 ∈ l0_2, (Lit.int .i64 y0).wf = true)) → ∃ k, laws_FnExactIsBench.f k a0_0 a0_1 l0_2 = some true
end Go.Proofs.Ytbkolnbdcifnlaa.Stat
