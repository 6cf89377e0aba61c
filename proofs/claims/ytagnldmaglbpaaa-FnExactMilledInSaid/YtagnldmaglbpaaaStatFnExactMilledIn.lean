import Derived.Test.YtagnldmaglbpaaaPFnExactMilledInx4
namespace Go.Proofs.Ytagnldmaglbpaaa.Stat
open Go.RowKit Go.Proofs.Ytagnldmaglbpaaa.PFnExactMilledIn Go.Proofs.YtagnldmaglbpaaaW.PrintWords Go.Proofs.YtagnldmaglbpaaaW.PrintLast
/-- What is left of the law FnExactMilledIn: numbers and lists alone. -/
def FnExactMilledIn : Prop := ∀ (l0 : List (List Int)), ((l0.length ≤ 9223372036854775807 ∧ ∀ y0 ∈ l0, (y0.length ≤ 9223372036854775807 ∧ ∀ y1 ∈ y0, (Lit.int .i64 y1).wf = true))) → ∃ k, laws_FnExactMilledIn.f k l0 = some true
end Go.Proofs.Ytagnldmaglbpaaa.Stat
