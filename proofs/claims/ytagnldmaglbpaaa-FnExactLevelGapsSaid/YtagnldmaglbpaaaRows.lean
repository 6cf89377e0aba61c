/-
  No cell of these rows narrows 'for every input' (looked for: loops, veiled, ifaces, maps, wideKeys, modest, calm, conditions, laid).
  DERIVED. THE GIVEN ROWS OF THIS SEAT. 12 by the template 'for every input the law returns true; each argument reads behind the call as it read before'; 0 by the template 'total and deterministic' (their statements: YtagnldmaglbpaaaTotals.lean).
  GIVEN WITH THE SEED: the statements are not yours to turn. If you find one false, say at which input.
  Laid BY PROGRAM, IN A SANDBOX (cutbox-rows.mjs): the forced cells as the released guide's own fill.sh prints them over the translation b1e538eb0bd7e6de… (all of the seat's roots in one cut). By AI agents, Wed Nov 11 2026. No macro, syntax, notation, axiom, sorry.
-/
import Derived.Test.YtagnldmaglbpaaaChecked
import GoSem.Claim
import GoSem.ClaimJoined
import GoSem.ClaimMapViews
import Derived.JoinedTies
import Derived.KernelRfl
namespace Go.Proofs.Ytagnldmaglbpaaa
/- THE CELL 'sum', in the pinned program and in every row, IS THE sha256 OF THE DUMP (.gsa) THAT YtagnldmaglbpaaaProg.lean LOADS. Nothing in Lean hashes anything: it is a label: what it is worth is what the hold of that sum in a sandbox is worth. -/
noncomputable def Try.pinned : Pinned := { name := "ytagnldmaglbpaaa", sum := "b1e538eb0bd7e6decdeacfae267a5c4a249a6cac90391a46ffd95f7b5eea0439", checked := Try.checked }
namespace Rows
def none {H : Type} : Left H := { results := [], args := [] }

/-- 'laws.FnExactDestinationSums': WHATEVER THE INPUT: true; the input reads as it did. -/
def fnExactDestinationSumsSpec : ChangeSpec := { name := "fnExactDestinationSums", fn := fun _ => fun
  | [d1, d2, d3, d4] => { results := [.lit (.bool true)], args := [d1, d2, d3, d4] }
  | _ => none }
def fnExactDestinationSumsRow : OpenClaim := { program := "ytagnldmaglbpaaa", sum := "b1e538eb0bd7e6decdeacfae267a5c4a249a6cac90391a46ffd95f7b5eea0439", func := "loop.example/g00914/laws.FnExactDestinationSums", spec := "fnExactDestinationSums", apart := false }
def FnExactDestinationSumsSaid : Prop := fnExactDestinationSumsRow.holds Try.pinned (OpenSpec.ofChange fnExactDestinationSumsSpec)

/-- ITS FALSE NEIGHBOUR: 'it returns false'. Refute it at one input. -/
def fnExactDestinationSumsWrong : ChangeSpec := { name := "fnExactDestinationSums", fn := fun _ => fun
  | [d1, d2, d3, d4] => { results := [.lit (.bool false)], args := [d1, d2, d3, d4] }
  | _ => none }
def FnExactDestinationSumsWrongFalsely : Prop := fnExactDestinationSumsRow.holds Try.pinned (OpenSpec.ofChange fnExactDestinationSumsWrong)

/-- 'laws.FnExactMilledIn': WHATEVER THE INPUT: true; the input reads as it did. -/
def fnExactMilledInSpec : ChangeSpec := { name := "fnExactMilledIn", fn := fun _ => fun
  | [d] => { results := [.lit (.bool true)], args := [d] }
  | _ => none }
def fnExactMilledInRow : OpenClaim := { program := "ytagnldmaglbpaaa", sum := "b1e538eb0bd7e6decdeacfae267a5c4a249a6cac90391a46ffd95f7b5eea0439", func := "loop.example/g00914/laws.FnExactMilledIn", spec := "fnExactMilledIn", apart := false }
def FnExactMilledInSaid : Prop := fnExactMilledInRow.holds Try.pinned (OpenSpec.ofChange fnExactMilledInSpec)

/-- ITS FALSE NEIGHBOUR: 'it returns false'. Refute it at one input. -/
def fnExactMilledInWrong : ChangeSpec := { name := "fnExactMilledIn", fn := fun _ => fun
  | [d] => { results := [.lit (.bool false)], args := [d] }
  | _ => none }
def FnExactMilledInWrongFalsely : Prop := fnExactMilledInRow.holds Try.pinned (OpenSpec.ofChange fnExactMilledInWrong)

/-- 'laws.FnExactSortTable': WHATEVER THE INPUT: true; the input reads as it did. -/
def fnExactSortTableSpec : ChangeSpec := { name := "fnExactSortTable", fn := fun _ => fun
  | [d1, d2, d3] => { results := [.lit (.bool true)], args := [d1, d2, d3] }
  | _ => none }
def fnExactSortTableRow : OpenClaim := { program := "ytagnldmaglbpaaa", sum := "b1e538eb0bd7e6decdeacfae267a5c4a249a6cac90391a46ffd95f7b5eea0439", func := "loop.example/g00914/laws.FnExactSortTable", spec := "fnExactSortTable", apart := false }
def FnExactSortTableSaid : Prop := fnExactSortTableRow.holds Try.pinned (OpenSpec.ofChange fnExactSortTableSpec)

/-- ITS FALSE NEIGHBOUR: 'it returns false'. Refute it at one input. -/
def fnExactSortTableWrong : ChangeSpec := { name := "fnExactSortTable", fn := fun _ => fun
  | [d1, d2, d3] => { results := [.lit (.bool false)], args := [d1, d2, d3] }
  | _ => none }
def FnExactSortTableWrongFalsely : Prop := fnExactSortTableRow.holds Try.pinned (OpenSpec.ofChange fnExactSortTableWrong)

/-- 'laws.FnExactMixModels': WHATEVER THE INPUT: true; the input reads as it did. -/
def fnExactMixModelsSpec : ChangeSpec := { name := "fnExactMixModels", fn := fun _ => fun
  | [d1, d2, d3] => { results := [.lit (.bool true)], args := [d1, d2, d3] }
  | _ => none }
def fnExactMixModelsRow : OpenClaim := { program := "ytagnldmaglbpaaa", sum := "b1e538eb0bd7e6decdeacfae267a5c4a249a6cac90391a46ffd95f7b5eea0439", func := "loop.example/g00914/laws.FnExactMixModels", spec := "fnExactMixModels", apart := false }
def FnExactMixModelsSaid : Prop := fnExactMixModelsRow.holds Try.pinned (OpenSpec.ofChange fnExactMixModelsSpec)

/-- ITS FALSE NEIGHBOUR: 'it returns false'. Refute it at one input. -/
def fnExactMixModelsWrong : ChangeSpec := { name := "fnExactMixModels", fn := fun _ => fun
  | [d1, d2, d3] => { results := [.lit (.bool false)], args := [d1, d2, d3] }
  | _ => none }
def FnExactMixModelsWrongFalsely : Prop := fnExactMixModelsRow.holds Try.pinned (OpenSpec.ofChange fnExactMixModelsWrong)

/-- 'laws.FnExactScaleModel': WHATEVER THE INPUT: true; the input reads as it did. -/
def fnExactScaleModelSpec : ChangeSpec := { name := "fnExactScaleModel", fn := fun _ => fun
  | [d1, d2, d3] => { results := [.lit (.bool true)], args := [d1, d2, d3] }
  | _ => none }
def fnExactScaleModelRow : OpenClaim := { program := "ytagnldmaglbpaaa", sum := "b1e538eb0bd7e6decdeacfae267a5c4a249a6cac90391a46ffd95f7b5eea0439", func := "loop.example/g00914/laws.FnExactScaleModel", spec := "fnExactScaleModel", apart := false }
def FnExactScaleModelSaid : Prop := fnExactScaleModelRow.holds Try.pinned (OpenSpec.ofChange fnExactScaleModelSpec)

/-- ITS FALSE NEIGHBOUR: 'it returns false'. Refute it at one input. -/
def fnExactScaleModelWrong : ChangeSpec := { name := "fnExactScaleModel", fn := fun _ => fun
  | [d1, d2, d3] => { results := [.lit (.bool false)], args := [d1, d2, d3] }
  | _ => none }
def FnExactScaleModelWrongFalsely : Prop := fnExactScaleModelRow.holds Try.pinned (OpenSpec.ofChange fnExactScaleModelWrong)

/-- 'laws.FnExactFactorOf': WHATEVER THE INPUT: true; the input reads as it did. -/
def fnExactFactorOfSpec : ChangeSpec := { name := "fnExactFactorOf", fn := fun _ => fun
  | [d1, d2, d3, d4] => { results := [.lit (.bool true)], args := [d1, d2, d3, d4] }
  | _ => none }
def fnExactFactorOfRow : OpenClaim := { program := "ytagnldmaglbpaaa", sum := "b1e538eb0bd7e6decdeacfae267a5c4a249a6cac90391a46ffd95f7b5eea0439", func := "loop.example/g00914/laws.FnExactFactorOf", spec := "fnExactFactorOf", apart := false }
def FnExactFactorOfSaid : Prop := fnExactFactorOfRow.holds Try.pinned (OpenSpec.ofChange fnExactFactorOfSpec)

/-- ITS FALSE NEIGHBOUR: 'it returns false'. Refute it at one input. -/
def fnExactFactorOfWrong : ChangeSpec := { name := "fnExactFactorOf", fn := fun _ => fun
  | [d1, d2, d3, d4] => { results := [.lit (.bool false)], args := [d1, d2, d3, d4] }
  | _ => none }
def FnExactFactorOfWrongFalsely : Prop := fnExactFactorOfRow.holds Try.pinned (OpenSpec.ofChange fnExactFactorOfWrong)

/-- 'laws.FnExactWorstLevel': WHATEVER THE INPUT: true; the input reads as it did. -/
def fnExactWorstLevelSpec : ChangeSpec := { name := "fnExactWorstLevel", fn := fun _ => fun
  | [d1, d2] => { results := [.lit (.bool true)], args := [d1, d2] }
  | _ => none }
def fnExactWorstLevelRow : OpenClaim := { program := "ytagnldmaglbpaaa", sum := "b1e538eb0bd7e6decdeacfae267a5c4a249a6cac90391a46ffd95f7b5eea0439", func := "loop.example/g00914/laws.FnExactWorstLevel", spec := "fnExactWorstLevel", apart := false }
def FnExactWorstLevelSaid : Prop := fnExactWorstLevelRow.holds Try.pinned (OpenSpec.ofChange fnExactWorstLevelSpec)

/-- ITS FALSE NEIGHBOUR: 'it returns false'. Refute it at one input. -/
def fnExactWorstLevelWrong : ChangeSpec := { name := "fnExactWorstLevel", fn := fun _ => fun
  | [d1, d2] => { results := [.lit (.bool false)], args := [d1, d2] }
  | _ => none }
def FnExactWorstLevelWrongFalsely : Prop := fnExactWorstLevelRow.holds Try.pinned (OpenSpec.ofChange fnExactWorstLevelWrong)

/-- 'laws.FnExactLevelGaps': WHATEVER THE INPUT: true; the input reads as it did. -/
def fnExactLevelGapsSpec : ChangeSpec := { name := "fnExactLevelGaps", fn := fun _ => fun
  | [d1, d2] => { results := [.lit (.bool true)], args := [d1, d2] }
  | _ => none }
def fnExactLevelGapsRow : OpenClaim := { program := "ytagnldmaglbpaaa", sum := "b1e538eb0bd7e6decdeacfae267a5c4a249a6cac90391a46ffd95f7b5eea0439", func := "loop.example/g00914/laws.FnExactLevelGaps", spec := "fnExactLevelGaps", apart := false }
def FnExactLevelGapsSaid : Prop := fnExactLevelGapsRow.holds Try.pinned (OpenSpec.ofChange fnExactLevelGapsSpec)

/-- ITS FALSE NEIGHBOUR: 'it returns false'. Refute it at one input. -/
def fnExactLevelGapsWrong : ChangeSpec := { name := "fnExactLevelGaps", fn := fun _ => fun
  | [d1, d2] => { results := [.lit (.bool false)], args := [d1, d2] }
  | _ => none }
def FnExactLevelGapsWrongFalsely : Prop := fnExactLevelGapsRow.holds Try.pinned (OpenSpec.ofChange fnExactLevelGapsWrong)

/-- 'laws.FnExactSpareMill': WHATEVER THE INPUT: true; the input reads as it did. -/
def fnExactSpareMillSpec : ChangeSpec := { name := "fnExactSpareMill", fn := fun _ => fun
  | [d1, d2] => { results := [.lit (.bool true)], args := [d1, d2] }
  | _ => none }
def fnExactSpareMillRow : OpenClaim := { program := "ytagnldmaglbpaaa", sum := "b1e538eb0bd7e6decdeacfae267a5c4a249a6cac90391a46ffd95f7b5eea0439", func := "loop.example/g00914/laws.FnExactSpareMill", spec := "fnExactSpareMill", apart := false }
def FnExactSpareMillSaid : Prop := fnExactSpareMillRow.holds Try.pinned (OpenSpec.ofChange fnExactSpareMillSpec)

/-- ITS FALSE NEIGHBOUR: 'it returns false'. Refute it at one input. -/
def fnExactSpareMillWrong : ChangeSpec := { name := "fnExactSpareMill", fn := fun _ => fun
  | [d1, d2] => { results := [.lit (.bool false)], args := [d1, d2] }
  | _ => none }
def FnExactSpareMillWrongFalsely : Prop := fnExactSpareMillRow.holds Try.pinned (OpenSpec.ofChange fnExactSpareMillWrong)

/-- 'laws.FnExactUpdateModel': WHATEVER THE INPUT: true; the input reads as it did. -/
def fnExactUpdateModelSpec : ChangeSpec := { name := "fnExactUpdateModel", fn := fun _ => fun
  | [d1, d2] => { results := [.lit (.bool true)], args := [d1, d2] }
  | _ => none }
def fnExactUpdateModelRow : OpenClaim := { program := "ytagnldmaglbpaaa", sum := "b1e538eb0bd7e6decdeacfae267a5c4a249a6cac90391a46ffd95f7b5eea0439", func := "loop.example/g00914/laws.FnExactUpdateModel", spec := "fnExactUpdateModel", apart := false }
def FnExactUpdateModelSaid : Prop := fnExactUpdateModelRow.holds Try.pinned (OpenSpec.ofChange fnExactUpdateModelSpec)

/-- ITS FALSE NEIGHBOUR: 'it returns false'. Refute it at one input. -/
def fnExactUpdateModelWrong : ChangeSpec := { name := "fnExactUpdateModel", fn := fun _ => fun
  | [d1, d2] => { results := [.lit (.bool false)], args := [d1, d2] }
  | _ => none }
def FnExactUpdateModelWrongFalsely : Prop := fnExactUpdateModelRow.holds Try.pinned (OpenSpec.ofChange fnExactUpdateModelWrong)

/-- 'laws.FnExactDestinationOf': WHATEVER THE INPUT: true; the input reads as it did. -/
def fnExactDestinationOfSpec : ChangeSpec := { name := "fnExactDestinationOf", fn := fun _ => fun
  | [d1, d2, d3, d4] => { results := [.lit (.bool true)], args := [d1, d2, d3, d4] }
  | _ => none }
def fnExactDestinationOfRow : OpenClaim := { program := "ytagnldmaglbpaaa", sum := "b1e538eb0bd7e6decdeacfae267a5c4a249a6cac90391a46ffd95f7b5eea0439", func := "loop.example/g00914/laws.FnExactDestinationOf", spec := "fnExactDestinationOf", apart := false }
def FnExactDestinationOfSaid : Prop := fnExactDestinationOfRow.holds Try.pinned (OpenSpec.ofChange fnExactDestinationOfSpec)

/-- ITS FALSE NEIGHBOUR: 'it returns false'. Refute it at one input. -/
def fnExactDestinationOfWrong : ChangeSpec := { name := "fnExactDestinationOf", fn := fun _ => fun
  | [d1, d2, d3, d4] => { results := [.lit (.bool false)], args := [d1, d2, d3, d4] }
  | _ => none }
def FnExactDestinationOfWrongFalsely : Prop := fnExactDestinationOfRow.holds Try.pinned (OpenSpec.ofChange fnExactDestinationOfWrong)

/-- 'laws.FnExactUpdateAll': WHATEVER THE INPUT: true; the input reads as it did. -/
def fnExactUpdateAllSpec : ChangeSpec := { name := "fnExactUpdateAll", fn := fun _ => fun
  | [d1, d2, d3] => { results := [.lit (.bool true)], args := [d1, d2, d3] }
  | _ => none }
def fnExactUpdateAllRow : OpenClaim := { program := "ytagnldmaglbpaaa", sum := "b1e538eb0bd7e6decdeacfae267a5c4a249a6cac90391a46ffd95f7b5eea0439", func := "loop.example/g00914/laws.FnExactUpdateAll", spec := "fnExactUpdateAll", apart := false }
def FnExactUpdateAllSaid : Prop := fnExactUpdateAllRow.holds Try.pinned (OpenSpec.ofChange fnExactUpdateAllSpec)

/-- ITS FALSE NEIGHBOUR: 'it returns false'. Refute it at one input. -/
def fnExactUpdateAllWrong : ChangeSpec := { name := "fnExactUpdateAll", fn := fun _ => fun
  | [d1, d2, d3] => { results := [.lit (.bool false)], args := [d1, d2, d3] }
  | _ => none }
def FnExactUpdateAllWrongFalsely : Prop := fnExactUpdateAllRow.holds Try.pinned (OpenSpec.ofChange fnExactUpdateAllWrong)

/- THE SECOND FORM. 'bulk': how many values and letters a reading holds, each counted each time it is reached (what is shared counts as often as it is met; a slice's spare places count too). A statement '..UptoSaid' is the law's where the arguments, and the package variables that the reading takes, are together of bulk at most 1048576: NARROWER than '..Said'. Prove '..Said' where nothing that the law and all that it calls make is longer than what came in: it says more and counts as full. Else prove '..UptoSaid'. A law counts once. -/
mutual
def uptoBulk {H : Type} : DataW H → Nat
  | .lit (.string bytes) => bytes.length + 1
  | .lit _ => 1
  | .nil => 1
  | .ptr d => uptoBulk d + 1
  | .slice elems spare => uptoBulkAll elems + uptoBulkAll spare + 1
  | .agg parts => uptoBulkAll parts + 1
  | .iface _ d => uptoBulk d + 1
  | .map entries => uptoBulkEntries entries + 1
  | .held _ => 1
def uptoBulkAll {H : Type} : List (DataW H) → Nat
  | [] => 0
  | d :: r => uptoBulk d + uptoBulkAll r
def uptoBulkEntries {H : Type} : List (Lit × DataW H) → Nat
  | [] => 0
  | x :: r => uptoBulkEntry x + uptoBulkEntries r
def uptoBulkEntry {H : Type} : Lit × DataW H → Nat
  | (.string bytes, d) => bytes.length + uptoBulk d + 1
  | (_, d) => uptoBulk d + 1
 end
def uptoSmall : (H : Type) → List (DataW H) → Bool := fun _ ds => decide (uptoBulkAll ds ≤ 1048576)
def OpenSpec.upto (s : _root_.Go.ChangeSpec) : _root_.Go.OpenSpec := { _root_.Go.OpenSpec.ofChange s with cond := some uptoSmall }

/-- 'laws.FnExactDestinationSums', WHERE WHAT IT READS IS OF BULK AT MOST 1048576: true; the input reads as it did. -/
def fnExactDestinationSumsUptoRow : OpenClaim := { program := "ytagnldmaglbpaaa", sum := "b1e538eb0bd7e6decdeacfae267a5c4a249a6cac90391a46ffd95f7b5eea0439", func := "loop.example/g00914/laws.FnExactDestinationSums", spec := "fnExactDestinationSums", apart := false, narrowed := true }
def FnExactDestinationSumsUptoSaid : Prop := fnExactDestinationSumsUptoRow.holds Try.pinned (OpenSpec.upto fnExactDestinationSumsSpec)

/-- 'laws.FnExactMilledIn', WHERE WHAT IT READS IS OF BULK AT MOST 1048576: true; the input reads as it did. -/
def fnExactMilledInUptoRow : OpenClaim := { program := "ytagnldmaglbpaaa", sum := "b1e538eb0bd7e6decdeacfae267a5c4a249a6cac90391a46ffd95f7b5eea0439", func := "loop.example/g00914/laws.FnExactMilledIn", spec := "fnExactMilledIn", apart := false, narrowed := true }
def FnExactMilledInUptoSaid : Prop := fnExactMilledInUptoRow.holds Try.pinned (OpenSpec.upto fnExactMilledInSpec)

/-- 'laws.FnExactSortTable', WHERE WHAT IT READS IS OF BULK AT MOST 1048576: true; the input reads as it did. -/
def fnExactSortTableUptoRow : OpenClaim := { program := "ytagnldmaglbpaaa", sum := "b1e538eb0bd7e6decdeacfae267a5c4a249a6cac90391a46ffd95f7b5eea0439", func := "loop.example/g00914/laws.FnExactSortTable", spec := "fnExactSortTable", apart := false, narrowed := true }
def FnExactSortTableUptoSaid : Prop := fnExactSortTableUptoRow.holds Try.pinned (OpenSpec.upto fnExactSortTableSpec)

/-- 'laws.FnExactMixModels', WHERE WHAT IT READS IS OF BULK AT MOST 1048576: true; the input reads as it did. -/
def fnExactMixModelsUptoRow : OpenClaim := { program := "ytagnldmaglbpaaa", sum := "b1e538eb0bd7e6decdeacfae267a5c4a249a6cac90391a46ffd95f7b5eea0439", func := "loop.example/g00914/laws.FnExactMixModels", spec := "fnExactMixModels", apart := false, narrowed := true }
def FnExactMixModelsUptoSaid : Prop := fnExactMixModelsUptoRow.holds Try.pinned (OpenSpec.upto fnExactMixModelsSpec)

/-- 'laws.FnExactScaleModel', WHERE WHAT IT READS IS OF BULK AT MOST 1048576: true; the input reads as it did. -/
def fnExactScaleModelUptoRow : OpenClaim := { program := "ytagnldmaglbpaaa", sum := "b1e538eb0bd7e6decdeacfae267a5c4a249a6cac90391a46ffd95f7b5eea0439", func := "loop.example/g00914/laws.FnExactScaleModel", spec := "fnExactScaleModel", apart := false, narrowed := true }
def FnExactScaleModelUptoSaid : Prop := fnExactScaleModelUptoRow.holds Try.pinned (OpenSpec.upto fnExactScaleModelSpec)

/-- 'laws.FnExactFactorOf', WHERE WHAT IT READS IS OF BULK AT MOST 1048576: true; the input reads as it did. -/
def fnExactFactorOfUptoRow : OpenClaim := { program := "ytagnldmaglbpaaa", sum := "b1e538eb0bd7e6decdeacfae267a5c4a249a6cac90391a46ffd95f7b5eea0439", func := "loop.example/g00914/laws.FnExactFactorOf", spec := "fnExactFactorOf", apart := false, narrowed := true }
def FnExactFactorOfUptoSaid : Prop := fnExactFactorOfUptoRow.holds Try.pinned (OpenSpec.upto fnExactFactorOfSpec)

/-- 'laws.FnExactWorstLevel', WHERE WHAT IT READS IS OF BULK AT MOST 1048576: true; the input reads as it did. -/
def fnExactWorstLevelUptoRow : OpenClaim := { program := "ytagnldmaglbpaaa", sum := "b1e538eb0bd7e6decdeacfae267a5c4a249a6cac90391a46ffd95f7b5eea0439", func := "loop.example/g00914/laws.FnExactWorstLevel", spec := "fnExactWorstLevel", apart := false, narrowed := true }
def FnExactWorstLevelUptoSaid : Prop := fnExactWorstLevelUptoRow.holds Try.pinned (OpenSpec.upto fnExactWorstLevelSpec)

/-- 'laws.FnExactLevelGaps', WHERE WHAT IT READS IS OF BULK AT MOST 1048576: true; the input reads as it did. -/
def fnExactLevelGapsUptoRow : OpenClaim := { program := "ytagnldmaglbpaaa", sum := "b1e538eb0bd7e6decdeacfae267a5c4a249a6cac90391a46ffd95f7b5eea0439", func := "loop.example/g00914/laws.FnExactLevelGaps", spec := "fnExactLevelGaps", apart := false, narrowed := true }
def FnExactLevelGapsUptoSaid : Prop := fnExactLevelGapsUptoRow.holds Try.pinned (OpenSpec.upto fnExactLevelGapsSpec)

/-- 'laws.FnExactSpareMill', WHERE WHAT IT READS IS OF BULK AT MOST 1048576: true; the input reads as it did. -/
def fnExactSpareMillUptoRow : OpenClaim := { program := "ytagnldmaglbpaaa", sum := "b1e538eb0bd7e6decdeacfae267a5c4a249a6cac90391a46ffd95f7b5eea0439", func := "loop.example/g00914/laws.FnExactSpareMill", spec := "fnExactSpareMill", apart := false, narrowed := true }
def FnExactSpareMillUptoSaid : Prop := fnExactSpareMillUptoRow.holds Try.pinned (OpenSpec.upto fnExactSpareMillSpec)

/-- 'laws.FnExactUpdateModel', WHERE WHAT IT READS IS OF BULK AT MOST 1048576: true; the input reads as it did. -/
def fnExactUpdateModelUptoRow : OpenClaim := { program := "ytagnldmaglbpaaa", sum := "b1e538eb0bd7e6decdeacfae267a5c4a249a6cac90391a46ffd95f7b5eea0439", func := "loop.example/g00914/laws.FnExactUpdateModel", spec := "fnExactUpdateModel", apart := false, narrowed := true }
def FnExactUpdateModelUptoSaid : Prop := fnExactUpdateModelUptoRow.holds Try.pinned (OpenSpec.upto fnExactUpdateModelSpec)

/-- 'laws.FnExactDestinationOf', WHERE WHAT IT READS IS OF BULK AT MOST 1048576: true; the input reads as it did. -/
def fnExactDestinationOfUptoRow : OpenClaim := { program := "ytagnldmaglbpaaa", sum := "b1e538eb0bd7e6decdeacfae267a5c4a249a6cac90391a46ffd95f7b5eea0439", func := "loop.example/g00914/laws.FnExactDestinationOf", spec := "fnExactDestinationOf", apart := false, narrowed := true }
def FnExactDestinationOfUptoSaid : Prop := fnExactDestinationOfUptoRow.holds Try.pinned (OpenSpec.upto fnExactDestinationOfSpec)

/-- 'laws.FnExactUpdateAll', WHERE WHAT IT READS IS OF BULK AT MOST 1048576: true; the input reads as it did. -/
def fnExactUpdateAllUptoRow : OpenClaim := { program := "ytagnldmaglbpaaa", sum := "b1e538eb0bd7e6decdeacfae267a5c4a249a6cac90391a46ffd95f7b5eea0439", func := "loop.example/g00914/laws.FnExactUpdateAll", spec := "fnExactUpdateAll", apart := false, narrowed := true }
def FnExactUpdateAllUptoSaid : Prop := fnExactUpdateAllUptoRow.holds Try.pinned (OpenSpec.upto fnExactUpdateAllSpec)

end Rows
end Go.Proofs.Ytagnldmaglbpaaa
