import Derived.Test.YtbkolnbdcifnlaaPFnExactAreHolesx3
namespace Go.Proofs.Ytbkolnbdcifnlaa.Stat
open Go.RowKit Go.Proofs.Ytbkolnbdcifnlaa.PFnExactAreHoles Go.Proofs.YtbkolnbdcifnlaaW.PrintWords Go.Proofs.YtbkolnbdcifnlaaW.PrintLast
/-- What is left of the law FnExactAreHoles: numbers and lists alone. -/
def FnExactAreHoles : Prop := ∀ (a0_0 : Int) (a0_1 : Int) (a0_2 : Int) (l1 : List (S37)), ((Lit.int .i64 a0_0).wf = true) → ((Lit.int .i64 a0_1).wf = true) → ((Lit.int .i64 a0_2).wf = true) → ((l1.length ≤ 9223372036854775807 ∧ ∀ y0 ∈ l1, ((Lit.int .i64 y0.f0).wf = true ∧ (Lit.int .i64 y0.f1).wf = true ∧ (Lit.int .i64 y0.f2).wf = true ∧ (Lit.int .i64 y0.f3).wf = true ∧ (Lit.int .i64 y0.f4).wf = true))) → ∃ k, laws_FnExactAreHoles.f k a0_0 a0_1 a0_2 l1 = some true
end Go.Proofs.Ytbkolnbdcifnlaa.Stat
