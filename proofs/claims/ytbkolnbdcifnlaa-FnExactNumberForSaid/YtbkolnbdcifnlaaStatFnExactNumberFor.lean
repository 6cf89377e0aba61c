import Derived.Test.YtbkolnbdcifnlaaPFnExactNumberForx2
namespace Go.Proofs.Ytbkolnbdcifnlaa.Stat
open Go.RowKit Go.Proofs.Ytbkolnbdcifnlaa.PFnExactNumberFor Go.Proofs.YtbkolnbdcifnlaaW.PrintWords Go.Proofs.YtbkolnbdcifnlaaW.PrintLast
/-- What is left of the law FnExactNumberFor: numbers and lists alone. -/
def FnExactNumberFor : Prop := ∀ (l0 : List Int) (a1 : Int), ((l0.length ≤ 9223372036854775807 ∧ ∀ y0 ∈ l0, (Lit.int .i64 y0).wf = true)) → ((Lit.int .i64 a1).wf = true) → ∃ k, laws_FnExactNumberFor.f k l0 a1 = some true
end Go.Proofs.Ytbkolnbdcifnlaa.Stat
