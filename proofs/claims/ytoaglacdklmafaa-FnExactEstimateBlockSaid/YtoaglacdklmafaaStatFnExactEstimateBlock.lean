import Derived.Test.YtoaglacdklmafaaPFnExactEstimateBlockx5
namespace Go.Proofs.Ytoaglacdklmafaa.Stat
open Go.RowKit Go.Proofs.Ytoaglacdklmafaa.PFnExactEstimateBlock Go.Proofs.YtoaglacdklmafaaW.PrintWords Go.Proofs.YtoaglacdklmafaaW.PrintLast
/-- What is left of the law FnExactEstimateBlock: numbers and lists alone. -/
def FnExactEstimateBlock : Prop := ∀ (a0_0 : Int) (a0_1 : Int) (a0_2 : Int) (l1 : List (S91)) (a2 : Int) (a3 : Int), ((Lit.int .i64 a0_0).wf = true) → ((Lit.int .i64 a0_1).wf = true) → ((Lit.int .i64 a0_2).wf = true) → ((l1.length ≤ 9223372036854775807 ∧ ∀ y0 ∈ l1, ((Lit.int .i64 y0.f0).wf = true ∧ (Lit.int .i64 y0.f1).wf = true ∧ (Lit.int .i64 y0.f2).wf = true ∧ (Lit.int .i64 y0.f3).wf = true ∧ (Lit.int .i64 y0.f4).wf = true))) → ((Lit.int .i64 a2).wf = true) → ((Lit.int .i64 a3).wf = true) → ∃ k, laws_FnExactEstimateBlock.f k a0_0 a0_1 a0_2 l1 a2 a3 = some true
end Go.Proofs.Ytoaglacdklmafaa.Stat
