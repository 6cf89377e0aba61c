import Derived.Test.YtbkolnbdcifnlaaPFnExactLongestDownx1
namespace Go.Proofs.Ytbkolnbdcifnlaa.Stat
open Go.RowKit Go.Proofs.Ytbkolnbdcifnlaa.PFnExactLongestDown Go.Proofs.YtbkolnbdcifnlaaW.PrintWords Go.Proofs.YtbkolnbdcifnlaaW.PrintLast
/-- What is left of the law FnExactLongestDown: numbers and lists alone. -/
def FnExactLongestDown : Prop := ∀ (l0 : List Bool), ((l0.length ≤ 9223372036854775807 ∧ ∀ y0 ∈ l0, True)) → ∃ k, laws_FnExactLongestDown.f k l0 = some true
end Go.Proofs.Ytbkolnbdcifnlaa.Stat
