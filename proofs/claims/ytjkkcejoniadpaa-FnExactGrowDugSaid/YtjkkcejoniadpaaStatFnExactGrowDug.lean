import Derived.Test.YtjkkcejoniadpaaPFnExactGrowDugx6
namespace Go.Proofs.Ytjkkcejoniadpaa.Stat
open Go.RowKit Go.Proofs.Ytjkkcejoniadpaa.PFnExactGrowDug Go.Proofs.YtjkkcejoniadpaaW.PrintWords Go.Proofs.YtjkkcejoniadpaaW.PrintLast
/-- What is left of the law FnExactGrowDug: numbers and lists alone. -/
def FnExactGrowDug : Prop := ∀ (a0_0 : Int) (a0_1 : Int) (l0_2 : List Int) (l1 : List Bool), ((Lit.int .i64 a0_0).wf = true) → ((Lit.int .i64 a0_1).wf = true) → ((l0_2.length ≤ 9223372036854775807 ∧ ∀ y0 ∈ l0_2, (Lit.int .i64 y0).wf = true)) → ((l1.length ≤ 9223372036854775807 ∧ ∀ y1 ∈ l1, True)) → ∃ k, laws_FnExactGrowDug.f k a0_0 a0_1 l0_2 l1 = some true
end Go.Proofs.Ytjkkcejoniadpaa.Stat
