import Derived.Test.YtbkolnbdcifnlaaPFnExactBlockOfHolex3
namespace Go.Proofs.Ytbkolnbdcifnlaa.Stat
open Go.RowKit Go.Proofs.Ytbkolnbdcifnlaa.PFnExactBlockOfHole Go.Proofs.YtbkolnbdcifnlaaW.PrintWords Go.Proofs.YtbkolnbdcifnlaaW.PrintLast
/-- What is left of the law FnExactBlockOfHole: numbers and lists alone. -/
def FnExactBlockOfHole : Prop := ∀ (a0_0 : Int) (a0_1 : Int) (a0_2 : Int) (a1_0 : Int) (a1_1 : Int) (a1_2 : Int) (a1_3 : Int) (a1_4 : Int), ((Lit.int .i64 a0_0).wf = true) → ((Lit.int .i64 a0_1).wf = true) → ((Lit.int .i64 a0_2).wf = true) → ((Lit.int .i64 a1_0).wf = true) → ((Lit.int .i64 a1_1).wf = true) → ((Lit.int .i64 a1_2).wf = true) → ((Lit.int .i64 a1_3).wf = true) → ((Lit.int .i64 a1_4).wf = true) → ∃ k, laws_FnExactBlockOfHole.f k a0_0 a0_1 a0_2 a1_0 a1_1 a1_2 a1_3 a1_4 = some true
end Go.Proofs.Ytbkolnbdcifnlaa.Stat
