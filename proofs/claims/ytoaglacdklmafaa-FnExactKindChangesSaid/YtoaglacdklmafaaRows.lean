/-
  No cell of these rows narrows 'for every input' (looked for: loops, veiled, ifaces, maps, wideKeys, modest, calm, conditions, laid).
  DERIVED. THE GIVEN ROWS OF THIS SEAT. 12 by the template 'for every input the law returns true; each argument reads behind the call as it read before'; 0 by the template 'total and deterministic' (their statements: YtoaglacdklmafaaTotals.lean).
  GIVEN WITH THE SEED: the statements are not yours to turn. If you find one false, say at which input.
  Laid BY PROGRAM, IN A SANDBOX (cutbox-rows.mjs): the forced cells as the released guide's own fill.sh prints them over the translation edafb87aa782633c… (all of the seat's roots in one cut). By AI agents, Wed Nov 11 2026. No macro, syntax, notation, axiom, sorry.
-/
import Derived.Test.YtoaglacdklmafaaChecked
import GoSem.Claim
import GoSem.ClaimJoined
import GoSem.ClaimMapViews
import Derived.JoinedTies
import Derived.KernelRfl
namespace Go.Proofs.Ytoaglacdklmafaa
/- THE CELL 'sum', in the pinned program and in every row, IS THE sha256 OF THE DUMP (.gsa) THAT YtoaglacdklmafaaProg.lean LOADS. Nothing in Lean hashes anything: it is a label: what it is worth is what the hold of that sum in a sandbox is worth. -/
noncomputable def Try.pinned : Pinned := { name := "ytoaglacdklmafaa", sum := "edafb87aa782633cff8d9bf4051066ae8f3c100039b8a64132dd87cff010e584", checked := Try.checked }
namespace Rows
def none {H : Type} : Left H := { results := [], args := [] }

/-- 'laws.FnExactRowWidth': WHATEVER THE INPUT: true; the input reads as it did. -/
def fnExactRowWidthSpec : ChangeSpec := { name := "fnExactRowWidth", fn := fun _ => fun
  | [d1, d2] => { results := [.lit (.bool true)], args := [d1, d2] }
  | _ => none }
def fnExactRowWidthRow : OpenClaim := { program := "ytoaglacdklmafaa", sum := "edafb87aa782633cff8d9bf4051066ae8f3c100039b8a64132dd87cff010e584", func := "loop.example/g00914/laws.FnExactRowWidth", spec := "fnExactRowWidth", apart := false }
def FnExactRowWidthSaid : Prop := fnExactRowWidthRow.holds Try.pinned (OpenSpec.ofChange fnExactRowWidthSpec)

/-- ITS FALSE NEIGHBOUR: 'it returns false'. Refute it at one input. -/
def fnExactRowWidthWrong : ChangeSpec := { name := "fnExactRowWidth", fn := fun _ => fun
  | [d1, d2] => { results := [.lit (.bool false)], args := [d1, d2] }
  | _ => none }
def FnExactRowWidthWrongFalsely : Prop := fnExactRowWidthRow.holds Try.pinned (OpenSpec.ofChange fnExactRowWidthWrong)

/-- 'laws.FnExactGradeErrors': WHATEVER THE INPUT: true; the input reads as it did. -/
def fnExactGradeErrorsSpec : ChangeSpec := { name := "fnExactGradeErrors", fn := fun _ => fun
  | [d1, d2] => { results := [.lit (.bool true)], args := [d1, d2] }
  | _ => none }
def fnExactGradeErrorsRow : OpenClaim := { program := "ytoaglacdklmafaa", sum := "edafb87aa782633cff8d9bf4051066ae8f3c100039b8a64132dd87cff010e584", func := "loop.example/g00914/laws.FnExactGradeErrors", spec := "fnExactGradeErrors", apart := false }
def FnExactGradeErrorsSaid : Prop := fnExactGradeErrorsRow.holds Try.pinned (OpenSpec.ofChange fnExactGradeErrorsSpec)

/-- ITS FALSE NEIGHBOUR: 'it returns false'. Refute it at one input. -/
def fnExactGradeErrorsWrong : ChangeSpec := { name := "fnExactGradeErrors", fn := fun _ => fun
  | [d1, d2] => { results := [.lit (.bool false)], args := [d1, d2] }
  | _ => none }
def FnExactGradeErrorsWrongFalsely : Prop := fnExactGradeErrorsRow.holds Try.pinned (OpenSpec.ofChange fnExactGradeErrorsWrong)

/-- 'laws.FnExactBlockMean': WHATEVER THE INPUT: true; the input reads as it did. -/
def fnExactBlockMeanSpec : ChangeSpec := { name := "fnExactBlockMean", fn := fun _ => fun
  | [d1, d2, d3] => { results := [.lit (.bool true)], args := [d1, d2, d3] }
  | _ => none }
def fnExactBlockMeanRow : OpenClaim := { program := "ytoaglacdklmafaa", sum := "edafb87aa782633cff8d9bf4051066ae8f3c100039b8a64132dd87cff010e584", func := "loop.example/g00914/laws.FnExactBlockMean", spec := "fnExactBlockMean", apart := false }
def FnExactBlockMeanSaid : Prop := fnExactBlockMeanRow.holds Try.pinned (OpenSpec.ofChange fnExactBlockMeanSpec)

/-- ITS FALSE NEIGHBOUR: 'it returns false'. Refute it at one input. -/
def fnExactBlockMeanWrong : ChangeSpec := { name := "fnExactBlockMean", fn := fun _ => fun
  | [d1, d2, d3] => { results := [.lit (.bool false)], args := [d1, d2, d3] }
  | _ => none }
def FnExactBlockMeanWrongFalsely : Prop := fnExactBlockMeanRow.holds Try.pinned (OpenSpec.ofChange fnExactBlockMeanWrong)

/-- 'laws.FnExactChangedBlocks': WHATEVER THE INPUT: true; the input reads as it did. -/
def fnExactChangedBlocksSpec : ChangeSpec := { name := "fnExactChangedBlocks", fn := fun _ => fun
  | [d1, d2] => { results := [.lit (.bool true)], args := [d1, d2] }
  | _ => none }
def fnExactChangedBlocksRow : OpenClaim := { program := "ytoaglacdklmafaa", sum := "edafb87aa782633cff8d9bf4051066ae8f3c100039b8a64132dd87cff010e584", func := "loop.example/g00914/laws.FnExactChangedBlocks", spec := "fnExactChangedBlocks", apart := false }
def FnExactChangedBlocksSaid : Prop := fnExactChangedBlocksRow.holds Try.pinned (OpenSpec.ofChange fnExactChangedBlocksSpec)

/-- ITS FALSE NEIGHBOUR: 'it returns false'. Refute it at one input. -/
def fnExactChangedBlocksWrong : ChangeSpec := { name := "fnExactChangedBlocks", fn := fun _ => fun
  | [d1, d2] => { results := [.lit (.bool false)], args := [d1, d2] }
  | _ => none }
def FnExactChangedBlocksWrongFalsely : Prop := fnExactChangedBlocksRow.holds Try.pinned (OpenSpec.ofChange fnExactChangedBlocksWrong)

/-- 'laws.FnExactWrongMetal': WHATEVER THE INPUT: true; the input reads as it did. -/
def fnExactWrongMetalSpec : ChangeSpec := { name := "fnExactWrongMetal", fn := fun _ => fun
  | [d1, d2, d3] => { results := [.lit (.bool true)], args := [d1, d2, d3] }
  | _ => none }
def fnExactWrongMetalRow : OpenClaim := { program := "ytoaglacdklmafaa", sum := "edafb87aa782633cff8d9bf4051066ae8f3c100039b8a64132dd87cff010e584", func := "loop.example/g00914/laws.FnExactWrongMetal", spec := "fnExactWrongMetal", apart := false }
def FnExactWrongMetalSaid : Prop := fnExactWrongMetalRow.holds Try.pinned (OpenSpec.ofChange fnExactWrongMetalSpec)

/-- ITS FALSE NEIGHBOUR: 'it returns false'. Refute it at one input. -/
def fnExactWrongMetalWrong : ChangeSpec := { name := "fnExactWrongMetal", fn := fun _ => fun
  | [d1, d2, d3] => { results := [.lit (.bool false)], args := [d1, d2, d3] }
  | _ => none }
def FnExactWrongMetalWrongFalsely : Prop := fnExactWrongMetalRow.holds Try.pinned (OpenSpec.ofChange fnExactWrongMetalWrong)

/-- 'laws.FnExactHolesIn': WHATEVER THE INPUT: true; the input reads as it did. -/
def fnExactHolesInSpec : ChangeSpec := { name := "fnExactHolesIn", fn := fun _ => fun
  | [d1, d2, d3] => { results := [.lit (.bool true)], args := [d1, d2, d3] }
  | _ => none }
def fnExactHolesInRow : OpenClaim := { program := "ytoaglacdklmafaa", sum := "edafb87aa782633cff8d9bf4051066ae8f3c100039b8a64132dd87cff010e584", func := "loop.example/g00914/laws.FnExactHolesIn", spec := "fnExactHolesIn", apart := false }
def FnExactHolesInSaid : Prop := fnExactHolesInRow.holds Try.pinned (OpenSpec.ofChange fnExactHolesInSpec)

/-- ITS FALSE NEIGHBOUR: 'it returns false'. Refute it at one input. -/
def fnExactHolesInWrong : ChangeSpec := { name := "fnExactHolesIn", fn := fun _ => fun
  | [d1, d2, d3] => { results := [.lit (.bool false)], args := [d1, d2, d3] }
  | _ => none }
def FnExactHolesInWrongFalsely : Prop := fnExactHolesInRow.holds Try.pinned (OpenSpec.ofChange fnExactHolesInWrong)

/-- 'laws.FnExactEdgesOf': WHATEVER THE INPUT: true; the input reads as it did. -/
def fnExactEdgesOfSpec : ChangeSpec := { name := "fnExactEdgesOf", fn := fun _ => fun
  | [d1, d2] => { results := [.lit (.bool true)], args := [d1, d2] }
  | _ => none }
def fnExactEdgesOfRow : OpenClaim := { program := "ytoaglacdklmafaa", sum := "edafb87aa782633cff8d9bf4051066ae8f3c100039b8a64132dd87cff010e584", func := "loop.example/g00914/laws.FnExactEdgesOf", spec := "fnExactEdgesOf", apart := false }
def FnExactEdgesOfSaid : Prop := fnExactEdgesOfRow.holds Try.pinned (OpenSpec.ofChange fnExactEdgesOfSpec)

/-- ITS FALSE NEIGHBOUR: 'it returns false'. Refute it at one input. -/
def fnExactEdgesOfWrong : ChangeSpec := { name := "fnExactEdgesOf", fn := fun _ => fun
  | [d1, d2] => { results := [.lit (.bool false)], args := [d1, d2] }
  | _ => none }
def FnExactEdgesOfWrongFalsely : Prop := fnExactEdgesOfRow.holds Try.pinned (OpenSpec.ofChange fnExactEdgesOfWrong)

/-- 'laws.FnExactFleetReady': WHATEVER THE INPUT: true; the input reads as it did. -/
def fnExactFleetReadySpec : ChangeSpec := { name := "fnExactFleetReady", fn := fun _ => fun
  | [d1, d2, d3] => { results := [.lit (.bool true)], args := [d1, d2, d3] }
  | _ => none }
def fnExactFleetReadyRow : OpenClaim := { program := "ytoaglacdklmafaa", sum := "edafb87aa782633cff8d9bf4051066ae8f3c100039b8a64132dd87cff010e584", func := "loop.example/g00914/laws.FnExactFleetReady", spec := "fnExactFleetReady", apart := false }
def FnExactFleetReadySaid : Prop := fnExactFleetReadyRow.holds Try.pinned (OpenSpec.ofChange fnExactFleetReadySpec)

/-- ITS FALSE NEIGHBOUR: 'it returns false'. Refute it at one input. -/
def fnExactFleetReadyWrong : ChangeSpec := { name := "fnExactFleetReady", fn := fun _ => fun
  | [d1, d2, d3] => { results := [.lit (.bool false)], args := [d1, d2, d3] }
  | _ => none }
def FnExactFleetReadyWrongFalsely : Prop := fnExactFleetReadyRow.holds Try.pinned (OpenSpec.ofChange fnExactFleetReadyWrong)

/-- 'laws.FnExactBestRow': WHATEVER THE INPUT: true; the input reads as it did. -/
def fnExactBestRowSpec : ChangeSpec := { name := "fnExactBestRow", fn := fun _ => fun
  | [d1, d2] => { results := [.lit (.bool true)], args := [d1, d2] }
  | _ => none }
def fnExactBestRowRow : OpenClaim := { program := "ytoaglacdklmafaa", sum := "edafb87aa782633cff8d9bf4051066ae8f3c100039b8a64132dd87cff010e584", func := "loop.example/g00914/laws.FnExactBestRow", spec := "fnExactBestRow", apart := false }
def FnExactBestRowSaid : Prop := fnExactBestRowRow.holds Try.pinned (OpenSpec.ofChange fnExactBestRowSpec)

/-- ITS FALSE NEIGHBOUR: 'it returns false'. Refute it at one input. -/
def fnExactBestRowWrong : ChangeSpec := { name := "fnExactBestRow", fn := fun _ => fun
  | [d1, d2] => { results := [.lit (.bool false)], args := [d1, d2] }
  | _ => none }
def FnExactBestRowWrongFalsely : Prop := fnExactBestRowRow.holds Try.pinned (OpenSpec.ofChange fnExactBestRowWrong)

/-- 'laws.FnExactKindChanges': WHATEVER THE INPUT: true; the input reads as it did. -/
def fnExactKindChangesSpec : ChangeSpec := { name := "fnExactKindChanges", fn := fun _ => fun
  | [d1, d2, d3] => { results := [.lit (.bool true)], args := [d1, d2, d3] }
  | _ => none }
def fnExactKindChangesRow : OpenClaim := { program := "ytoaglacdklmafaa", sum := "edafb87aa782633cff8d9bf4051066ae8f3c100039b8a64132dd87cff010e584", func := "loop.example/g00914/laws.FnExactKindChanges", spec := "fnExactKindChanges", apart := false }
def FnExactKindChangesSaid : Prop := fnExactKindChangesRow.holds Try.pinned (OpenSpec.ofChange fnExactKindChangesSpec)

/-- ITS FALSE NEIGHBOUR: 'it returns false'. Refute it at one input. -/
def fnExactKindChangesWrong : ChangeSpec := { name := "fnExactKindChanges", fn := fun _ => fun
  | [d1, d2, d3] => { results := [.lit (.bool false)], args := [d1, d2, d3] }
  | _ => none }
def FnExactKindChangesWrongFalsely : Prop := fnExactKindChangesRow.holds Try.pinned (OpenSpec.ofChange fnExactKindChangesWrong)

/-- 'laws.FnExactEstimateBlock': WHATEVER THE INPUT: true; the input reads as it did. -/
def fnExactEstimateBlockSpec : ChangeSpec := { name := "fnExactEstimateBlock", fn := fun _ => fun
  | [d1, d2, d3, d4] => { results := [.lit (.bool true)], args := [d1, d2, d3, d4] }
  | _ => none }
def fnExactEstimateBlockRow : OpenClaim := { program := "ytoaglacdklmafaa", sum := "edafb87aa782633cff8d9bf4051066ae8f3c100039b8a64132dd87cff010e584", func := "loop.example/g00914/laws.FnExactEstimateBlock", spec := "fnExactEstimateBlock", apart := false }
def FnExactEstimateBlockSaid : Prop := fnExactEstimateBlockRow.holds Try.pinned (OpenSpec.ofChange fnExactEstimateBlockSpec)

/-- ITS FALSE NEIGHBOUR: 'it returns false'. Refute it at one input. -/
def fnExactEstimateBlockWrong : ChangeSpec := { name := "fnExactEstimateBlock", fn := fun _ => fun
  | [d1, d2, d3, d4] => { results := [.lit (.bool false)], args := [d1, d2, d3, d4] }
  | _ => none }
def FnExactEstimateBlockWrongFalsely : Prop := fnExactEstimateBlockRow.holds Try.pinned (OpenSpec.ofChange fnExactEstimateBlockWrong)

/-- 'laws.FnExactIslandsOf': WHATEVER THE INPUT: true; the input reads as it did. -/
def fnExactIslandsOfSpec : ChangeSpec := { name := "fnExactIslandsOf", fn := fun _ => fun
  | [d1, d2] => { results := [.lit (.bool true)], args := [d1, d2] }
  | _ => none }
def fnExactIslandsOfRow : OpenClaim := { program := "ytoaglacdklmafaa", sum := "edafb87aa782633cff8d9bf4051066ae8f3c100039b8a64132dd87cff010e584", func := "loop.example/g00914/laws.FnExactIslandsOf", spec := "fnExactIslandsOf", apart := false }
def FnExactIslandsOfSaid : Prop := fnExactIslandsOfRow.holds Try.pinned (OpenSpec.ofChange fnExactIslandsOfSpec)

/-- ITS FALSE NEIGHBOUR: 'it returns false'. Refute it at one input. -/
def fnExactIslandsOfWrong : ChangeSpec := { name := "fnExactIslandsOf", fn := fun _ => fun
  | [d1, d2] => { results := [.lit (.bool false)], args := [d1, d2] }
  | _ => none }
def FnExactIslandsOfWrongFalsely : Prop := fnExactIslandsOfRow.holds Try.pinned (OpenSpec.ofChange fnExactIslandsOfWrong)

/- THE SECOND FORM. 'bulk': how many values and letters a reading holds, each counted each time it is reached (what is shared counts as often as it is met; a slice's spare places count too). A statement '..UptoSaid' is the law's where the arguments, and the package variables that the reading takes, are together of bulk at most 1048576: NARROWER than '..Said'. Prove '..Said' where nothing that the law and all that it calls make is longer than what came in: it says more and counts as full. Else prove '..UptoSaid'. A law counts once. -/
mutual
def uptoBulk {H : Type} : DataW H → Nat
  | .lit (.string bytes) => bytes.length + 1
  | .lit _ => 1
  | .nil => 1
  | .ptr d => uptoBulk d + 1
  | .slice elems spare => uptoBulkAll elems + uptoBulkAll spare + 1
  | .agg parts => uptoBulkAll parts + 1
  | .iface _ d => uptoBulk d + 1
  | .map entries => uptoBulkEntries entries + 1
  | .held _ => 1
def uptoBulkAll {H : Type} : List (DataW H) → Nat
  | [] => 0
  | d :: r => uptoBulk d + uptoBulkAll r
def uptoBulkEntries {H : Type} : List (Lit × DataW H) → Nat
  | [] => 0
  | x :: r => uptoBulkEntry x + uptoBulkEntries r
def uptoBulkEntry {H : Type} : Lit × DataW H → Nat
  | (.string bytes, d) => bytes.length + uptoBulk d + 1
  | (_, d) => uptoBulk d + 1
 end
def uptoSmall : (H : Type) → List (DataW H) → Bool := fun _ ds => decide (uptoBulkAll ds ≤ 1048576)
def OpenSpec.upto (s : _root_.Go.ChangeSpec) : _root_.Go.OpenSpec := { _root_.Go.OpenSpec.ofChange s with cond := some uptoSmall }

/-- 'laws.FnExactRowWidth', WHERE WHAT IT READS IS OF BULK AT MOST 1048576: true; the input reads as it did. -/
def fnExactRowWidthUptoRow : OpenClaim := { program := "ytoaglacdklmafaa", sum := "edafb87aa782633cff8d9bf4051066ae8f3c100039b8a64132dd87cff010e584", func := "loop.example/g00914/laws.FnExactRowWidth", spec := "fnExactRowWidth", apart := false, narrowed := true }
def FnExactRowWidthUptoSaid : Prop := fnExactRowWidthUptoRow.holds Try.pinned (OpenSpec.upto fnExactRowWidthSpec)

/-- 'laws.FnExactGradeErrors', WHERE WHAT IT READS IS OF BULK AT MOST 1048576: true; the input reads as it did. -/
def fnExactGradeErrorsUptoRow : OpenClaim := { program := "ytoaglacdklmafaa", sum := "edafb87aa782633cff8d9bf4051066ae8f3c100039b8a64132dd87cff010e584", func := "loop.example/g00914/laws.FnExactGradeErrors", spec := "fnExactGradeErrors", apart := false, narrowed := true }
def FnExactGradeErrorsUptoSaid : Prop := fnExactGradeErrorsUptoRow.holds Try.pinned (OpenSpec.upto fnExactGradeErrorsSpec)

/-- 'laws.FnExactBlockMean', WHERE WHAT IT READS IS OF BULK AT MOST 1048576: true; the input reads as it did. -/
def fnExactBlockMeanUptoRow : OpenClaim := { program := "ytoaglacdklmafaa", sum := "edafb87aa782633cff8d9bf4051066ae8f3c100039b8a64132dd87cff010e584", func := "loop.example/g00914/laws.FnExactBlockMean", spec := "fnExactBlockMean", apart := false, narrowed := true }
def FnExactBlockMeanUptoSaid : Prop := fnExactBlockMeanUptoRow.holds Try.pinned (OpenSpec.upto fnExactBlockMeanSpec)

/-- 'laws.FnExactChangedBlocks', WHERE WHAT IT READS IS OF BULK AT MOST 1048576: true; the input reads as it did. -/
def fnExactChangedBlocksUptoRow : OpenClaim := { program := "ytoaglacdklmafaa", sum := "edafb87aa782633cff8d9bf4051066ae8f3c100039b8a64132dd87cff010e584", func := "loop.example/g00914/laws.FnExactChangedBlocks", spec := "fnExactChangedBlocks", apart := false, narrowed := true }
def FnExactChangedBlocksUptoSaid : Prop := fnExactChangedBlocksUptoRow.holds Try.pinned (OpenSpec.upto fnExactChangedBlocksSpec)

/-- 'laws.FnExactWrongMetal', WHERE WHAT IT READS IS OF BULK AT MOST 1048576: true; the input reads as it did. -/
def fnExactWrongMetalUptoRow : OpenClaim := { program := "ytoaglacdklmafaa", sum := "edafb87aa782633cff8d9bf4051066ae8f3c100039b8a64132dd87cff010e584", func := "loop.example/g00914/laws.FnExactWrongMetal", spec := "fnExactWrongMetal", apart := false, narrowed := true }
def FnExactWrongMetalUptoSaid : Prop := fnExactWrongMetalUptoRow.holds Try.pinned (OpenSpec.upto fnExactWrongMetalSpec)

/-- 'laws.FnExactHolesIn', WHERE WHAT IT READS IS OF BULK AT MOST 1048576: true; the input reads as it did. -/
def fnExactHolesInUptoRow : OpenClaim := { program := "ytoaglacdklmafaa", sum := "edafb87aa782633cff8d9bf4051066ae8f3c100039b8a64132dd87cff010e584", func := "loop.example/g00914/laws.FnExactHolesIn", spec := "fnExactHolesIn", apart := false, narrowed := true }
def FnExactHolesInUptoSaid : Prop := fnExactHolesInUptoRow.holds Try.pinned (OpenSpec.upto fnExactHolesInSpec)

/-- 'laws.FnExactEdgesOf', WHERE WHAT IT READS IS OF BULK AT MOST 1048576: true; the input reads as it did. -/
def fnExactEdgesOfUptoRow : OpenClaim := { program := "ytoaglacdklmafaa", sum := "edafb87aa782633cff8d9bf4051066ae8f3c100039b8a64132dd87cff010e584", func := "loop.example/g00914/laws.FnExactEdgesOf", spec := "fnExactEdgesOf", apart := false, narrowed := true }
def FnExactEdgesOfUptoSaid : Prop := fnExactEdgesOfUptoRow.holds Try.pinned (OpenSpec.upto fnExactEdgesOfSpec)

/-- 'laws.FnExactFleetReady', WHERE WHAT IT READS IS OF BULK AT MOST 1048576: true; the input reads as it did. -/
def fnExactFleetReadyUptoRow : OpenClaim := { program := "ytoaglacdklmafaa", sum := "edafb87aa782633cff8d9bf4051066ae8f3c100039b8a64132dd87cff010e584", func := "loop.example/g00914/laws.FnExactFleetReady", spec := "fnExactFleetReady", apart := false, narrowed := true }
def FnExactFleetReadyUptoSaid : Prop := fnExactFleetReadyUptoRow.holds Try.pinned (OpenSpec.upto fnExactFleetReadySpec)

/-- 'laws.FnExactBestRow', WHERE WHAT IT READS IS OF BULK AT MOST 1048576: true; the input reads as it did. -/
def fnExactBestRowUptoRow : OpenClaim := { program := "ytoaglacdklmafaa", sum := "edafb87aa782633cff8d9bf4051066ae8f3c100039b8a64132dd87cff010e584", func := "loop.example/g00914/laws.FnExactBestRow", spec := "fnExactBestRow", apart := false, narrowed := true }
def FnExactBestRowUptoSaid : Prop := fnExactBestRowUptoRow.holds Try.pinned (OpenSpec.upto fnExactBestRowSpec)

/-- 'laws.FnExactKindChanges', WHERE WHAT IT READS IS OF BULK AT MOST 1048576: true; the input reads as it did. -/
def fnExactKindChangesUptoRow : OpenClaim := { program := "ytoaglacdklmafaa", sum := "edafb87aa782633cff8d9bf4051066ae8f3c100039b8a64132dd87cff010e584", func := "loop.example/g00914/laws.FnExactKindChanges", spec := "fnExactKindChanges", apart := false, narrowed := true }
def FnExactKindChangesUptoSaid : Prop := fnExactKindChangesUptoRow.holds Try.pinned (OpenSpec.upto fnExactKindChangesSpec)

/-- 'laws.FnExactEstimateBlock', WHERE WHAT IT READS IS OF BULK AT MOST 1048576: true; the input reads as it did. -/
def fnExactEstimateBlockUptoRow : OpenClaim := { program := "ytoaglacdklmafaa", sum := "edafb87aa782633cff8d9bf4051066ae8f3c100039b8a64132dd87cff010e584", func := "loop.example/g00914/laws.FnExactEstimateBlock", spec := "fnExactEstimateBlock", apart := false, narrowed := true }
def FnExactEstimateBlockUptoSaid : Prop := fnExactEstimateBlockUptoRow.holds Try.pinned (OpenSpec.upto fnExactEstimateBlockSpec)

/-- 'laws.FnExactIslandsOf', WHERE WHAT IT READS IS OF BULK AT MOST 1048576: true; the input reads as it did. -/
def fnExactIslandsOfUptoRow : OpenClaim := { program := "ytoaglacdklmafaa", sum := "edafb87aa782633cff8d9bf4051066ae8f3c100039b8a64132dd87cff010e584", func := "loop.example/g00914/laws.FnExactIslandsOf", spec := "fnExactIslandsOf", apart := false, narrowed := true }
def FnExactIslandsOfUptoSaid : Prop := fnExactIslandsOfUptoRow.holds Try.pinned (OpenSpec.upto fnExactIslandsOfSpec)

end Rows
end Go.Proofs.Ytoaglacdklmafaa
