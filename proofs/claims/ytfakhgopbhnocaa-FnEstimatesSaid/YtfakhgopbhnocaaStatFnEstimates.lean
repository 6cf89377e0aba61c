import Derived.Test.YtfakhgopbhnocaaPFnEstimatesx0
namespace Go.Proofs.Ytfakhgopbhnocaa.Stat
open Go.RowKit Go.Proofs.Ytfakhgopbhnocaa.PFnEstimates Go.Proofs.YtfakhgopbhnocaaW.PrintWords Go.Proofs.YtfakhgopbhnocaaW.PrintLast
/-- What is left of the law FnEstimates: numbers and lists alone. -/
def FnEstimates : Prop := ∀ (l0 : List Int) (l1 : List Int), ((l0.length ≤ 9223372036854775807 ∧ ∀ y0 ∈ l0, (Lit.int .u8 y0).wf = true)) → ((l1.length ≤ 9223372036854775807 ∧ ∀ y1 ∈ l1, (Lit.int .u8 y1).wf = true)) → ∃ k, laws_FnEstimates.f k l0 l1 = some true
end Go.Proofs.Ytfakhgopbhnocaa.Stat
