import Derived.Test.YtjkkcejoniadpaaPFnExactBestDigx6
namespace Go.Proofs.Ytjkkcejoniadpaa.Stat
open Go.RowKit Go.Proofs.Ytjkkcejoniadpaa.PFnExactBestDig Go.Proofs.YtjkkcejoniadpaaW.PrintWords Go.Proofs.YtjkkcejoniadpaaW.PrintLast
/-- What is left of the law FnExactBestDig: numbers and lists alone. -/
def FnExactBestDig : Prop := ∀ (a0_0 : Int) (a0_1 : Int) (l0_2 : List Int) (a1 : Int), ((Lit.int .i64 a0_0).wf = true) → ((Lit.int .i64 a0_1).wf = true) → ((l0_2.length ≤ 9223372036854775807 ∧ ∀ y0 ∈ l0_2, (Lit.int .i64 y0).wf = true)) → ((Lit.int .i64 a1).wf = true) → ∃ k, laws_FnExactBestDig.f k a0_0 a0_1 l0_2 a1 = some true
end Go.Proofs.Ytjkkcejoniadpaa.Stat
