import Derived.Test.YtkoacjepochjaaaPFnExactNearestHolex4
namespace Go.Proofs.Ytkoacjepochjaaa.Stat
open Go.RowKit Go.Proofs.Ytkoacjepochjaaa.PFnExactNearestHole Go.Proofs.YtkoacjepochjaaaW.PrintWords Go.Proofs.YtkoacjepochjaaaW.PrintLast
/-- What is left of the law FnExactNearestHole: numbers and lists alone. -/
def FnExactNearestHole : Prop := ∀ (a0_0 : Int) (a0_1 : Int) (a0_2 : Int) (l1 : List (S135)) (a2 : Int), ((Lit.int .i64 a0_0).wf = true) → ((Lit.int .i64 a0_1).wf = true) → ((Lit.int .i64 a0_2).wf = true) → ((l1.length ≤ 9223372036854775807 ∧ ∀ y0 ∈ l1, ((Lit.int .i64 y0.f0).wf = true ∧ (Lit.int .i64 y0.f1).wf = true ∧ (Lit.int .i64 y0.f2).wf = true ∧ (Lit.int .i64 y0.f3).wf = true ∧ (Lit.int .i64 y0.f4).wf = true))) → ((Lit.int .i64 a2).wf = true) → ∃ k, laws_FnExactNearestHole.f k a0_0 a0_1 a0_2 l1 a2 = some true
end Go.Proofs.Ytkoacjepochjaaa.Stat
