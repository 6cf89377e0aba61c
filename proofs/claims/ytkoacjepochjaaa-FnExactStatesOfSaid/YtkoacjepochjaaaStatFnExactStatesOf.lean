import Derived.Test.YtkoacjepochjaaaPFnExactStatesOfx3
namespace Go.Proofs.Ytkoacjepochjaaa.Stat
open Go.RowKit Go.Proofs.Ytkoacjepochjaaa.PFnExactStatesOf Go.Proofs.YtkoacjepochjaaaW.PrintWords Go.Proofs.YtkoacjepochjaaaW.PrintLast
/-- What is left of the law FnExactStatesOf: numbers and lists alone. -/
def FnExactStatesOf : Prop := ∀ (a0_0 : Int) (a0_1 : Int) (a0_2 : Bool) (a1 : Int) (a2 : Int), ((Lit.int .i64 a0_0).wf = true) → ((Lit.int .i64 a0_1).wf = true) → ((Lit.int .i64 a1).wf = true) → ((Lit.int .i64 a2).wf = true) → ∃ k, laws_FnExactStatesOf.f k a0_0 a0_1 a0_2 a1 a2 = some true
end Go.Proofs.Ytkoacjepochjaaa.Stat
