import Derived.Test.YtkoacjepochjaaaPFnExactGreatestPilex3
namespace Go.Proofs.Ytkoacjepochjaaa.Stat
open Go.RowKit Go.Proofs.Ytkoacjepochjaaa.PFnExactGreatestPile Go.Proofs.YtkoacjepochjaaaW.PrintWords Go.Proofs.YtkoacjepochjaaaW.PrintLast
/-- What is left of the law FnExactGreatestPile: numbers and lists alone. -/
def FnExactGreatestPile : Prop := ∀ (l0 : List (List Int)), ((l0.length ≤ 9223372036854775807 ∧ ∀ y0 ∈ l0, (y0.length ≤ 9223372036854775807 ∧ ∀ y1 ∈ y0, (Lit.int .i64 y1).wf = true))) → ∃ k, laws_FnExactGreatestPile.f k l0 = some true
end Go.Proofs.Ytkoacjepochjaaa.Stat
