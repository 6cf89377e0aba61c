import Derived.Test.YtinfalmpncfneaaPFnDigsx10
namespace Go.Proofs.Ytinfalmpncfneaa.Stat
open Go.RowKit Go.Proofs.Ytinfalmpncfneaa.PFnDigs Go.Proofs.YtinfalmpncfneaaW.PrintWords Go.Proofs.YtinfalmpncfneaaW.PrintLast
/-- What is left of the law FnDigs: numbers and lists alone. -/
def FnDigs : Prop := ∀ (l0 : List Int) (l1 : List Int), ((l0.length ≤ 9223372036854775807 ∧ ∀ y0 ∈ l0, (Lit.int .u8 y0).wf = true)) → ((l1.length ≤ 9223372036854775807 ∧ ∀ y1 ∈ l1, (Lit.int .u8 y1).wf = true)) → ∃ k, laws_FnDigs.f k l0 l1 = some true
end Go.Proofs.Ytinfalmpncfneaa.Stat
