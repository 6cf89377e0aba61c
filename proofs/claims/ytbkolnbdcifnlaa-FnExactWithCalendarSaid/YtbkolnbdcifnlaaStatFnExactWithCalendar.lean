import Derived.Test.YtbkolnbdcifnlaaPFnExactWithCalendarx3
namespace Go.Proofs.Ytbkolnbdcifnlaa.Stat
open Go.RowKit Go.Proofs.Ytbkolnbdcifnlaa.PFnExactWithCalendar Go.Proofs.YtbkolnbdcifnlaaW.PrintWords Go.Proofs.YtbkolnbdcifnlaaW.PrintLast
/-- What is left of the law FnExactWithCalendar: numbers and lists alone. -/
def FnExactWithCalendar : Prop := ∀ (l0 : List Bool) (l1 : List Int), ((l0.length ≤ 9223372036854775807 ∧ ∀ y0 ∈ l0, True)) → ((l1.length ≤ 9223372036854775807 ∧ ∀ y1 ∈ l1, (Lit.int .i64 y1).wf = true)) → ∃ k, laws_FnExactWithCalendar.f k l0 l1 = some true
end Go.Proofs.Ytbkolnbdcifnlaa.Stat
