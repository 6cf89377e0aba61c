import Derived.Test.YtbkolnbdcifnlaaPFnExactMeanReadyx2
namespace Go.Proofs.Ytbkolnbdcifnlaa.Stat
open Go.RowKit Go.Proofs.Ytbkolnbdcifnlaa.PFnExactMeanReady Go.Proofs.YtbkolnbdcifnlaaW.PrintWords Go.Proofs.YtbkolnbdcifnlaaW.PrintLast
/-- What is left of the law FnExactMeanReady: numbers and lists alone. -/
def FnExactMeanReady : Prop := ∀ (a0_0 : Int) (a0_1 : Int) (a0_2 : Bool) (a1 : Int), ((Lit.int .i64 a0_0).wf = true) → ((Lit.int .i64 a0_1).wf = true) → ((Lit.int .i64 a1).wf = true) → ∃ k, laws_FnExactMeanReady.f k a0_0 a0_1 a0_2 a1 = some true
end Go.Proofs.Ytbkolnbdcifnlaa.Stat
