import Derived.Test.YtkoacjepochjaaaPFnExactFirstImbalancex5
namespace Go.Proofs.Ytkoacjepochjaaa.Stat
open Go.RowKit Go.Proofs.Ytkoacjepochjaaa.PFnExactFirstImbalance Go.Proofs.YtkoacjepochjaaaW.PrintWords Go.Proofs.YtkoacjepochjaaaW.PrintLast
/-- What is left of the law FnExactFirstImbalance: numbers and lists alone. -/
def FnExactFirstImbalance : Prop := ∀ (a0 : Int) (a1 : Int) (l2 : List (List Int)), ((Lit.int .i64 a0).wf = true) → ((Lit.int .i64 a1).wf = true) → ((l2.length ≤ 9223372036854775807 ∧ ∀ y0 ∈ l2, (y0.length ≤ 9223372036854775807 ∧ ∀ y1 ∈ y0, (Lit.int .i64 y1).wf = true))) → ∃ k, laws_FnExactFirstImbalance.f k a0 a1 l2 = some true
end Go.Proofs.Ytkoacjepochjaaa.Stat
