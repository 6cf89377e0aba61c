import Derived.Test.YtagnldmaglbpaaaPFnExactUpdateAllx11
namespace Go.Proofs.Ytagnldmaglbpaaa.Stat
open Go.RowKit Go.Proofs.Ytagnldmaglbpaaa.PFnExactUpdateAll Go.Proofs.YtagnldmaglbpaaaW.PrintWords Go.Proofs.YtagnldmaglbpaaaW.PrintLast
/-- What is left of the law FnExactUpdateAll: numbers and lists alone. -/
def FnExactUpdateAll : Prop := ∀ (a0_0 : Int) (a0_1 : Int) (a0_2 : Int) (l0_3 : List Int) (l0_4 : List Int) (l0_5 : List Int) (l1 : List (S122)) (a2 : Int), ((Lit.int .i64 a0_0).wf = true) → ((Lit.int .i64 a0_1).wf = true) → ((Lit.int .i64 a0_2).wf = true) → ((l0_3.length ≤ 9223372036854775807 ∧ ∀ y0 ∈ l0_3, (Lit.int .i64 y0).wf = true)) → ((l0_4.length ≤ 9223372036854775807 ∧ ∀ y1 ∈ l0_4, (Lit.int .i64 y1).wf = true)) → ((l0_5.length ≤ 9223372036854775807 ∧ ∀ y2 ∈ l0_5, (Lit.int .i64 y2).wf = true)) → ((l1.length ≤ 9223372036854775807 ∧ ∀ y3 ∈ l1, ((Lit.int .i64 y3.f0).wf = true ∧ (Lit.int .i64 y3.f1).wf = true ∧ (Lit.int .i64 y3.f2).wf = true ∧ (Lit.int .i64 y3.f3).wf = true ∧ (Lit.int .i64 y3.f4).wf = true))) → ((Lit.int .i64 a2).wf = true) → ∃ k, laws_FnExactUpdateAll.f k a0_0 a0_1 a0_2 l0_3 l0_4 l0_5 l1 a2 = some true
end Go.Proofs.Ytagnldmaglbpaaa.Stat
