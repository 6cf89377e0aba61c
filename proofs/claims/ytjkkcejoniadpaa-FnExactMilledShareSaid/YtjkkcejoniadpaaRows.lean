/-
  No cell of these rows narrows 'for every input' (looked for: loops, veiled, ifaces, maps, wideKeys, modest, calm, conditions, laid).
  DERIVED. THE GIVEN ROWS OF THIS SEAT. 12 by the template 'for every input the law returns true; each argument reads behind the call as it read before'; 0 by the template 'total and deterministic' (their statements: YtjkkcejoniadpaaTotals.lean).
  GIVEN WITH THE SEED: the statements are not yours to turn. If you find one false, say at which input.
  Laid BY PROGRAM, IN A SANDBOX (cutbox-rows.mjs): the forced cells as the released guide's own fill.sh prints them over the translation 61af4b5c0e127f27… (all of the seat's roots in one cut). By AI agents, Wed Nov 11 2026. No macro, syntax, notation, axiom, sorry.
-/
import Derived.Test.YtjkkcejoniadpaaChecked
import GoSem.Claim
import GoSem.ClaimJoined
import GoSem.ClaimMapViews
import Derived.JoinedTies
import Derived.KernelRfl
namespace Go.Proofs.Ytjkkcejoniadpaa
/- THE CELL 'sum', in the pinned program and in every row, IS THE sha256 OF THE DUMP (.gsa) THAT YtjkkcejoniadpaaProg.lean LOADS. Nothing in Lean hashes anything: it is a label: what it is worth is what the hold of that sum in a sandbox is worth. -/
noncomputable def Try.pinned : Pinned := { name := "ytjkkcejoniadpaa", sum := "61af4b5c0e127f2722b0b6722763ec71c211d01ca26462716c947e60b6720be3", checked := Try.checked }
namespace Rows
def none {H : Type} : Left H := { results := [], args := [] }

/-- 'laws.FnExactSortTable': WHATEVER THE INPUT: true; the input reads as it did. -/
def fnExactSortTableSpec : ChangeSpec := { name := "fnExactSortTable", fn := fun _ => fun
  | [d1, d2, d3] => { results := [.lit (.bool true)], args := [d1, d2, d3] }
  | _ => none }
def fnExactSortTableRow : OpenClaim := { program := "ytjkkcejoniadpaa", sum := "61af4b5c0e127f2722b0b6722763ec71c211d01ca26462716c947e60b6720be3", func := "loop.example/g00914/laws.FnExactSortTable", spec := "fnExactSortTable", apart := false }
def FnExactSortTableSaid : Prop := fnExactSortTableRow.holds Try.pinned (OpenSpec.ofChange fnExactSortTableSpec)

/-- ITS FALSE NEIGHBOUR: 'it returns false'. Refute it at one input. -/
def fnExactSortTableWrong : ChangeSpec := { name := "fnExactSortTable", fn := fun _ => fun
  | [d1, d2, d3] => { results := [.lit (.bool false)], args := [d1, d2, d3] }
  | _ => none }
def FnExactSortTableWrongFalsely : Prop := fnExactSortTableRow.holds Try.pinned (OpenSpec.ofChange fnExactSortTableWrong)

/-- 'laws.FnExactMixModels': WHATEVER THE INPUT: true; the input reads as it did. -/
def fnExactMixModelsSpec : ChangeSpec := { name := "fnExactMixModels", fn := fun _ => fun
  | [d1, d2, d3] => { results := [.lit (.bool true)], args := [d1, d2, d3] }
  | _ => none }
def fnExactMixModelsRow : OpenClaim := { program := "ytjkkcejoniadpaa", sum := "61af4b5c0e127f2722b0b6722763ec71c211d01ca26462716c947e60b6720be3", func := "loop.example/g00914/laws.FnExactMixModels", spec := "fnExactMixModels", apart := false }
def FnExactMixModelsSaid : Prop := fnExactMixModelsRow.holds Try.pinned (OpenSpec.ofChange fnExactMixModelsSpec)

/-- ITS FALSE NEIGHBOUR: 'it returns false'. Refute it at one input. -/
def fnExactMixModelsWrong : ChangeSpec := { name := "fnExactMixModels", fn := fun _ => fun
  | [d1, d2, d3] => { results := [.lit (.bool false)], args := [d1, d2, d3] }
  | _ => none }
def FnExactMixModelsWrongFalsely : Prop := fnExactMixModelsRow.holds Try.pinned (OpenSpec.ofChange fnExactMixModelsWrong)

/-- 'laws.FnExactShrinkDug': WHATEVER THE INPUT: true; the input reads as it did. -/
def fnExactShrinkDugSpec : ChangeSpec := { name := "fnExactShrinkDug", fn := fun _ => fun
  | [d1, d2] => { results := [.lit (.bool true)], args := [d1, d2] }
  | _ => none }
def fnExactShrinkDugRow : OpenClaim := { program := "ytjkkcejoniadpaa", sum := "61af4b5c0e127f2722b0b6722763ec71c211d01ca26462716c947e60b6720be3", func := "loop.example/g00914/laws.FnExactShrinkDug", spec := "fnExactShrinkDug", apart := false }
def FnExactShrinkDugSaid : Prop := fnExactShrinkDugRow.holds Try.pinned (OpenSpec.ofChange fnExactShrinkDugSpec)

/-- ITS FALSE NEIGHBOUR: 'it returns false'. Refute it at one input. -/
def fnExactShrinkDugWrong : ChangeSpec := { name := "fnExactShrinkDug", fn := fun _ => fun
  | [d1, d2] => { results := [.lit (.bool false)], args := [d1, d2] }
  | _ => none }
def FnExactShrinkDugWrongFalsely : Prop := fnExactShrinkDugRow.holds Try.pinned (OpenSpec.ofChange fnExactShrinkDugWrong)

/-- 'laws.FnExactScaleModel': WHATEVER THE INPUT: true; the input reads as it did. -/
def fnExactScaleModelSpec : ChangeSpec := { name := "fnExactScaleModel", fn := fun _ => fun
  | [d1, d2, d3] => { results := [.lit (.bool true)], args := [d1, d2, d3] }
  | _ => none }
def fnExactScaleModelRow : OpenClaim := { program := "ytjkkcejoniadpaa", sum := "61af4b5c0e127f2722b0b6722763ec71c211d01ca26462716c947e60b6720be3", func := "loop.example/g00914/laws.FnExactScaleModel", spec := "fnExactScaleModel", apart := false }
def FnExactScaleModelSaid : Prop := fnExactScaleModelRow.holds Try.pinned (OpenSpec.ofChange fnExactScaleModelSpec)

/-- ITS FALSE NEIGHBOUR: 'it returns false'. Refute it at one input. -/
def fnExactScaleModelWrong : ChangeSpec := { name := "fnExactScaleModel", fn := fun _ => fun
  | [d1, d2, d3] => { results := [.lit (.bool false)], args := [d1, d2, d3] }
  | _ => none }
def FnExactScaleModelWrongFalsely : Prop := fnExactScaleModelRow.holds Try.pinned (OpenSpec.ofChange fnExactScaleModelWrong)

/-- 'laws.FnExactGrowDug': WHATEVER THE INPUT: true; the input reads as it did. -/
def fnExactGrowDugSpec : ChangeSpec := { name := "fnExactGrowDug", fn := fun _ => fun
  | [d1, d2] => { results := [.lit (.bool true)], args := [d1, d2] }
  | _ => none }
def fnExactGrowDugRow : OpenClaim := { program := "ytjkkcejoniadpaa", sum := "61af4b5c0e127f2722b0b6722763ec71c211d01ca26462716c947e60b6720be3", func := "loop.example/g00914/laws.FnExactGrowDug", spec := "fnExactGrowDug", apart := false }
def FnExactGrowDugSaid : Prop := fnExactGrowDugRow.holds Try.pinned (OpenSpec.ofChange fnExactGrowDugSpec)

/-- ITS FALSE NEIGHBOUR: 'it returns false'. Refute it at one input. -/
def fnExactGrowDugWrong : ChangeSpec := { name := "fnExactGrowDug", fn := fun _ => fun
  | [d1, d2] => { results := [.lit (.bool false)], args := [d1, d2] }
  | _ => none }
def FnExactGrowDugWrongFalsely : Prop := fnExactGrowDugRow.holds Try.pinned (OpenSpec.ofChange fnExactGrowDugWrong)

/-- 'laws.FnExactMilledShare': WHATEVER THE INPUT: true; the input reads as it did. -/
def fnExactMilledShareSpec : ChangeSpec := { name := "fnExactMilledShare", fn := fun _ => fun
  | [d1, d2, d3] => { results := [.lit (.bool true)], args := [d1, d2, d3] }
  | _ => none }
def fnExactMilledShareRow : OpenClaim := { program := "ytjkkcejoniadpaa", sum := "61af4b5c0e127f2722b0b6722763ec71c211d01ca26462716c947e60b6720be3", func := "loop.example/g00914/laws.FnExactMilledShare", spec := "fnExactMilledShare", apart := false }
def FnExactMilledShareSaid : Prop := fnExactMilledShareRow.holds Try.pinned (OpenSpec.ofChange fnExactMilledShareSpec)

/-- ITS FALSE NEIGHBOUR: 'it returns false'. Refute it at one input. -/
def fnExactMilledShareWrong : ChangeSpec := { name := "fnExactMilledShare", fn := fun _ => fun
  | [d1, d2, d3] => { results := [.lit (.bool false)], args := [d1, d2, d3] }
  | _ => none }
def FnExactMilledShareWrongFalsely : Prop := fnExactMilledShareRow.holds Try.pinned (OpenSpec.ofChange fnExactMilledShareWrong)

/-- 'laws.FnExactFactorOf': WHATEVER THE INPUT: true; the input reads as it did. -/
def fnExactFactorOfSpec : ChangeSpec := { name := "fnExactFactorOf", fn := fun _ => fun
  | [d1, d2, d3, d4] => { results := [.lit (.bool true)], args := [d1, d2, d3, d4] }
  | _ => none }
def fnExactFactorOfRow : OpenClaim := { program := "ytjkkcejoniadpaa", sum := "61af4b5c0e127f2722b0b6722763ec71c211d01ca26462716c947e60b6720be3", func := "loop.example/g00914/laws.FnExactFactorOf", spec := "fnExactFactorOf", apart := false }
def FnExactFactorOfSaid : Prop := fnExactFactorOfRow.holds Try.pinned (OpenSpec.ofChange fnExactFactorOfSpec)

/-- ITS FALSE NEIGHBOUR: 'it returns false'. Refute it at one input. -/
def fnExactFactorOfWrong : ChangeSpec := { name := "fnExactFactorOf", fn := fun _ => fun
  | [d1, d2, d3, d4] => { results := [.lit (.bool false)], args := [d1, d2, d3, d4] }
  | _ => none }
def FnExactFactorOfWrongFalsely : Prop := fnExactFactorOfRow.holds Try.pinned (OpenSpec.ofChange fnExactFactorOfWrong)

/-- 'laws.FnExactWorstLevel': WHATEVER THE INPUT: true; the input reads as it did. -/
def fnExactWorstLevelSpec : ChangeSpec := { name := "fnExactWorstLevel", fn := fun _ => fun
  | [d1, d2] => { results := [.lit (.bool true)], args := [d1, d2] }
  | _ => none }
def fnExactWorstLevelRow : OpenClaim := { program := "ytjkkcejoniadpaa", sum := "61af4b5c0e127f2722b0b6722763ec71c211d01ca26462716c947e60b6720be3", func := "loop.example/g00914/laws.FnExactWorstLevel", spec := "fnExactWorstLevel", apart := false }
def FnExactWorstLevelSaid : Prop := fnExactWorstLevelRow.holds Try.pinned (OpenSpec.ofChange fnExactWorstLevelSpec)

/-- ITS FALSE NEIGHBOUR: 'it returns false'. Refute it at one input. -/
def fnExactWorstLevelWrong : ChangeSpec := { name := "fnExactWorstLevel", fn := fun _ => fun
  | [d1, d2] => { results := [.lit (.bool false)], args := [d1, d2] }
  | _ => none }
def FnExactWorstLevelWrongFalsely : Prop := fnExactWorstLevelRow.holds Try.pinned (OpenSpec.ofChange fnExactWorstLevelWrong)

/-- 'laws.FnExactBestDig': WHATEVER THE INPUT: true; the input reads as it did. -/
def fnExactBestDigSpec : ChangeSpec := { name := "fnExactBestDig", fn := fun _ => fun
  | [d1, d2] => { results := [.lit (.bool true)], args := [d1, d2] }
  | _ => none }
def fnExactBestDigRow : OpenClaim := { program := "ytjkkcejoniadpaa", sum := "61af4b5c0e127f2722b0b6722763ec71c211d01ca26462716c947e60b6720be3", func := "loop.example/g00914/laws.FnExactBestDig", spec := "fnExactBestDig", apart := false }
def FnExactBestDigSaid : Prop := fnExactBestDigRow.holds Try.pinned (OpenSpec.ofChange fnExactBestDigSpec)

/-- ITS FALSE NEIGHBOUR: 'it returns false'. Refute it at one input. -/
def fnExactBestDigWrong : ChangeSpec := { name := "fnExactBestDig", fn := fun _ => fun
  | [d1, d2] => { results := [.lit (.bool false)], args := [d1, d2] }
  | _ => none }
def FnExactBestDigWrongFalsely : Prop := fnExactBestDigRow.holds Try.pinned (OpenSpec.ofChange fnExactBestDigWrong)

/-- 'laws.FnExactLevelGaps': WHATEVER THE INPUT: true; the input reads as it did. -/
def fnExactLevelGapsSpec : ChangeSpec := { name := "fnExactLevelGaps", fn := fun _ => fun
  | [d1, d2] => { results := [.lit (.bool true)], args := [d1, d2] }
  | _ => none }
def fnExactLevelGapsRow : OpenClaim := { program := "ytjkkcejoniadpaa", sum := "61af4b5c0e127f2722b0b6722763ec71c211d01ca26462716c947e60b6720be3", func := "loop.example/g00914/laws.FnExactLevelGaps", spec := "fnExactLevelGaps", apart := false }
def FnExactLevelGapsSaid : Prop := fnExactLevelGapsRow.holds Try.pinned (OpenSpec.ofChange fnExactLevelGapsSpec)

/-- ITS FALSE NEIGHBOUR: 'it returns false'. Refute it at one input. -/
def fnExactLevelGapsWrong : ChangeSpec := { name := "fnExactLevelGaps", fn := fun _ => fun
  | [d1, d2] => { results := [.lit (.bool false)], args := [d1, d2] }
  | _ => none }
def FnExactLevelGapsWrongFalsely : Prop := fnExactLevelGapsRow.holds Try.pinned (OpenSpec.ofChange fnExactLevelGapsWrong)

/-- 'laws.FnExactSpareMill': WHATEVER THE INPUT: true; the input reads as it did. -/
def fnExactSpareMillSpec : ChangeSpec := { name := "fnExactSpareMill", fn := fun _ => fun
  | [d1, d2] => { results := [.lit (.bool true)], args := [d1, d2] }
  | _ => none }
def fnExactSpareMillRow : OpenClaim := { program := "ytjkkcejoniadpaa", sum := "61af4b5c0e127f2722b0b6722763ec71c211d01ca26462716c947e60b6720be3", func := "loop.example/g00914/laws.FnExactSpareMill", spec := "fnExactSpareMill", apart := false }
def FnExactSpareMillSaid : Prop := fnExactSpareMillRow.holds Try.pinned (OpenSpec.ofChange fnExactSpareMillSpec)

/-- ITS FALSE NEIGHBOUR: 'it returns false'. Refute it at one input. -/
def fnExactSpareMillWrong : ChangeSpec := { name := "fnExactSpareMill", fn := fun _ => fun
  | [d1, d2] => { results := [.lit (.bool false)], args := [d1, d2] }
  | _ => none }
def FnExactSpareMillWrongFalsely : Prop := fnExactSpareMillRow.holds Try.pinned (OpenSpec.ofChange fnExactSpareMillWrong)

/-- 'laws.FnMachines': WHATEVER THE INPUT: true; the input reads as it did. -/
def fnMachinesSpec : ChangeSpec := { name := "fnMachines", fn := fun _ => fun
  | [d1, d2] => { results := [.lit (.bool true)], args := [d1, d2] }
  | _ => none }
def fnMachinesRow : OpenClaim := { program := "ytjkkcejoniadpaa", sum := "61af4b5c0e127f2722b0b6722763ec71c211d01ca26462716c947e60b6720be3", func := "loop.example/g00914/laws.FnMachines", spec := "fnMachines", apart := false }
def FnMachinesSaid : Prop := fnMachinesRow.holds Try.pinned (OpenSpec.ofChange fnMachinesSpec)

/-- ITS FALSE NEIGHBOUR: 'it returns false'. Refute it at one input. -/
def fnMachinesWrong : ChangeSpec := { name := "fnMachines", fn := fun _ => fun
  | [d1, d2] => { results := [.lit (.bool false)], args := [d1, d2] }
  | _ => none }
def FnMachinesWrongFalsely : Prop := fnMachinesRow.holds Try.pinned (OpenSpec.ofChange fnMachinesWrong)

/- THE SECOND FORM. 'bulk': how many values and letters a reading holds, each counted each time it is reached (what is shared counts as often as it is met; a slice's spare places count too). A statement '..UptoSaid' is the law's where the arguments, and the package variables that the reading takes, are together of bulk at most 1048576: NARROWER than '..Said'. Prove '..Said' where nothing that the law and all that it calls make is longer than what came in: it says more and counts as full. Else prove '..UptoSaid'. A law counts once. -/
mutual
def uptoBulk {H : Type} : DataW H → Nat
  | .lit (.string bytes) => bytes.length + 1
  | .lit _ => 1
  | .nil => 1
  | .ptr d => uptoBulk d + 1
  | .slice elems spare => uptoBulkAll elems + uptoBulkAll spare + 1
  | .agg parts => uptoBulkAll parts + 1
  | .iface _ d => uptoBulk d + 1
  | .map entries => uptoBulkEntries entries + 1
  | .held _ => 1
def uptoBulkAll {H : Type} : List (DataW H) → Nat
  | [] => 0
  | d :: r => uptoBulk d + uptoBulkAll r
def uptoBulkEntries {H : Type} : List (Lit × DataW H) → Nat
  | [] => 0
  | x :: r => uptoBulkEntry x + uptoBulkEntries r
def uptoBulkEntry {H : Type} : Lit × DataW H → Nat
  | (.string bytes, d) => bytes.length + uptoBulk d + 1
  | (_, d) => uptoBulk d + 1
 end
def uptoSmall : (H : Type) → List (DataW H) → Bool := fun _ ds => decide (uptoBulkAll ds ≤ 1048576)
def OpenSpec.upto (s : _root_.Go.ChangeSpec) : _root_.Go.OpenSpec := { _root_.Go.OpenSpec.ofChange s with cond := some uptoSmall }

/-- 'laws.FnExactSortTable', WHERE WHAT IT READS IS OF BULK AT MOST 1048576: true; the input reads as it did. -/
def fnExactSortTableUptoRow : OpenClaim := { program := "ytjkkcejoniadpaa", sum := "61af4b5c0e127f2722b0b6722763ec71c211d01ca26462716c947e60b6720be3", func := "loop.example/g00914/laws.FnExactSortTable", spec := "fnExactSortTable", apart := false, narrowed := true }
def FnExactSortTableUptoSaid : Prop := fnExactSortTableUptoRow.holds Try.pinned (OpenSpec.upto fnExactSortTableSpec)

/-- 'laws.FnExactMixModels', WHERE WHAT IT READS IS OF BULK AT MOST 1048576: true; the input reads as it did. -/
def fnExactMixModelsUptoRow : OpenClaim := { program := "ytjkkcejoniadpaa", sum := "61af4b5c0e127f2722b0b6722763ec71c211d01ca26462716c947e60b6720be3", func := "loop.example/g00914/laws.FnExactMixModels", spec := "fnExactMixModels", apart := false, narrowed := true }
def FnExactMixModelsUptoSaid : Prop := fnExactMixModelsUptoRow.holds Try.pinned (OpenSpec.upto fnExactMixModelsSpec)

/-- 'laws.FnExactShrinkDug', WHERE WHAT IT READS IS OF BULK AT MOST 1048576: true; the input reads as it did. -/
def fnExactShrinkDugUptoRow : OpenClaim := { program := "ytjkkcejoniadpaa", sum := "61af4b5c0e127f2722b0b6722763ec71c211d01ca26462716c947e60b6720be3", func := "loop.example/g00914/laws.FnExactShrinkDug", spec := "fnExactShrinkDug", apart := false, narrowed := true }
def FnExactShrinkDugUptoSaid : Prop := fnExactShrinkDugUptoRow.holds Try.pinned (OpenSpec.upto fnExactShrinkDugSpec)

/-- 'laws.FnExactScaleModel', WHERE WHAT IT READS IS OF BULK AT MOST 1048576: true; the input reads as it did. -/
def fnExactScaleModelUptoRow : OpenClaim := { program := "ytjkkcejoniadpaa", sum := "61af4b5c0e127f2722b0b6722763ec71c211d01ca26462716c947e60b6720be3", func := "loop.example/g00914/laws.FnExactScaleModel", spec := "fnExactScaleModel", apart := false, narrowed := true }
def FnExactScaleModelUptoSaid : Prop := fnExactScaleModelUptoRow.holds Try.pinned (OpenSpec.upto fnExactScaleModelSpec)

/-- 'laws.FnExactGrowDug', WHERE WHAT IT READS IS OF BULK AT MOST 1048576: true; the input reads as it did. -/
def fnExactGrowDugUptoRow : OpenClaim := { program := "ytjkkcejoniadpaa", sum := "61af4b5c0e127f2722b0b6722763ec71c211d01ca26462716c947e60b6720be3", func := "loop.example/g00914/laws.FnExactGrowDug", spec := "fnExactGrowDug", apart := false, narrowed := true }
def FnExactGrowDugUptoSaid : Prop := fnExactGrowDugUptoRow.holds Try.pinned (OpenSpec.upto fnExactGrowDugSpec)

/-- 'laws.FnExactMilledShare', WHERE WHAT IT READS IS OF BULK AT MOST 1048576: true; the input reads as it did. -/
def fnExactMilledShareUptoRow : OpenClaim := { program := "ytjkkcejoniadpaa", sum := "61af4b5c0e127f2722b0b6722763ec71c211d01ca26462716c947e60b6720be3", func := "loop.example/g00914/laws.FnExactMilledShare", spec := "fnExactMilledShare", apart := false, narrowed := true }
def FnExactMilledShareUptoSaid : Prop := fnExactMilledShareUptoRow.holds Try.pinned (OpenSpec.upto fnExactMilledShareSpec)

/-- 'laws.FnExactFactorOf', WHERE WHAT IT READS IS OF BULK AT MOST 1048576: true; the input reads as it did. -/
def fnExactFactorOfUptoRow : OpenClaim := { program := "ytjkkcejoniadpaa", sum := "61af4b5c0e127f2722b0b6722763ec71c211d01ca26462716c947e60b6720be3", func := "loop.example/g00914/laws.FnExactFactorOf", spec := "fnExactFactorOf", apart := false, narrowed := true }
def FnExactFactorOfUptoSaid : Prop := fnExactFactorOfUptoRow.holds Try.pinned (OpenSpec.upto fnExactFactorOfSpec)

/-- 'laws.FnExactWorstLevel', WHERE WHAT IT READS IS OF BULK AT MOST 1048576: true; the input reads as it did. -/
def fnExactWorstLevelUptoRow : OpenClaim := { program := "ytjkkcejoniadpaa", sum := "61af4b5c0e127f2722b0b6722763ec71c211d01ca26462716c947e60b6720be3", func := "loop.example/g00914/laws.FnExactWorstLevel", spec := "fnExactWorstLevel", apart := false, narrowed := true }
def FnExactWorstLevelUptoSaid : Prop := fnExactWorstLevelUptoRow.holds Try.pinned (OpenSpec.upto fnExactWorstLevelSpec)

/-- 'laws.FnExactBestDig', WHERE WHAT IT READS IS OF BULK AT MOST 1048576: true; the input reads as it did. -/
def fnExactBestDigUptoRow : OpenClaim := { program := "ytjkkcejoniadpaa", sum := "61af4b5c0e127f2722b0b6722763ec71c211d01ca26462716c947e60b6720be3", func := "loop.example/g00914/laws.FnExactBestDig", spec := "fnExactBestDig", apart := false, narrowed := true }
def FnExactBestDigUptoSaid : Prop := fnExactBestDigUptoRow.holds Try.pinned (OpenSpec.upto fnExactBestDigSpec)

/-- 'laws.FnExactLevelGaps', WHERE WHAT IT READS IS OF BULK AT MOST 1048576: true; the input reads as it did. -/
def fnExactLevelGapsUptoRow : OpenClaim := { program := "ytjkkcejoniadpaa", sum := "61af4b5c0e127f2722b0b6722763ec71c211d01ca26462716c947e60b6720be3", func := "loop.example/g00914/laws.FnExactLevelGaps", spec := "fnExactLevelGaps", apart := false, narrowed := true }
def FnExactLevelGapsUptoSaid : Prop := fnExactLevelGapsUptoRow.holds Try.pinned (OpenSpec.upto fnExactLevelGapsSpec)

/-- 'laws.FnExactSpareMill', WHERE WHAT IT READS IS OF BULK AT MOST 1048576: true; the input reads as it did. -/
def fnExactSpareMillUptoRow : OpenClaim := { program := "ytjkkcejoniadpaa", sum := "61af4b5c0e127f2722b0b6722763ec71c211d01ca26462716c947e60b6720be3", func := "loop.example/g00914/laws.FnExactSpareMill", spec := "fnExactSpareMill", apart := false, narrowed := true }
def FnExactSpareMillUptoSaid : Prop := fnExactSpareMillUptoRow.holds Try.pinned (OpenSpec.upto fnExactSpareMillSpec)

/-- 'laws.FnMachines', WHERE WHAT IT READS IS OF BULK AT MOST 1048576: true; the input reads as it did. -/
def fnMachinesUptoRow : OpenClaim := { program := "ytjkkcejoniadpaa", sum := "61af4b5c0e127f2722b0b6722763ec71c211d01ca26462716c947e60b6720be3", func := "loop.example/g00914/laws.FnMachines", spec := "fnMachines", apart := false, narrowed := true }
def FnMachinesUptoSaid : Prop := fnMachinesUptoRow.holds Try.pinned (OpenSpec.upto fnMachinesSpec)

end Rows
end Go.Proofs.Ytjkkcejoniadpaa
