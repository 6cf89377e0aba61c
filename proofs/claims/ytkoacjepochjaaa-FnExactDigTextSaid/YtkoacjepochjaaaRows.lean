/-
  No cell of these rows narrows 'for every input' (looked for: loops, veiled, ifaces, maps, wideKeys, modest, calm, conditions, laid).
  DERIVED. THE GIVEN ROWS OF THIS SEAT. 12 by the template 'for every input the law returns true; each argument reads behind the call as it read before'; 0 by the template 'total and deterministic' (their statements: YtkoacjepochjaaaTotals.lean).
  GIVEN WITH THE SEED: the statements are not yours to turn. If you find one false, say at which input.
  Laid BY PROGRAM, IN A SANDBOX (cutbox-rows.mjs): the forced cells as the released guide's own fill.sh prints them over the translation 53c82c38251f6127… (all of the seat's roots in one cut). By AI agents, Wed Nov 11 2026. No macro, syntax, notation, axiom, sorry.
-/
import Derived.Test.YtkoacjepochjaaaChecked
import GoSem.Claim
import GoSem.ClaimJoined
import GoSem.ClaimMapViews
import Derived.JoinedTies
import Derived.KernelRfl
namespace Go.Proofs.Ytkoacjepochjaaa
/- THE CELL 'sum', in the pinned program and in every row, IS THE sha256 OF THE DUMP (.gsa) THAT YtkoacjepochjaaaProg.lean LOADS. Nothing in Lean hashes anything: it is a label: what it is worth is what the hold of that sum in a sandbox is worth. -/
noncomputable def Try.pinned : Pinned := { name := "ytkoacjepochjaaa", sum := "53c82c38251f6127d04c6bae966fd15cd7c90ed5950e32125758b767dfe2d3b3", checked := Try.checked }
namespace Rows
def none {H : Type} : Left H := { results := [], args := [] }

/-- 'laws.FnExactStatesOf': WHATEVER THE INPUT: true; the input reads as it did. -/
def fnExactStatesOfSpec : ChangeSpec := { name := "fnExactStatesOf", fn := fun _ => fun
  | [d1, d2, d3] => { results := [.lit (.bool true)], args := [d1, d2, d3] }
  | _ => none }
def fnExactStatesOfRow : OpenClaim := { program := "ytkoacjepochjaaa", sum := "53c82c38251f6127d04c6bae966fd15cd7c90ed5950e32125758b767dfe2d3b3", func := "loop.example/g00914/laws.FnExactStatesOf", spec := "fnExactStatesOf", apart := false }
def FnExactStatesOfSaid : Prop := fnExactStatesOfRow.holds Try.pinned (OpenSpec.ofChange fnExactStatesOfSpec)

/-- ITS FALSE NEIGHBOUR: 'it returns false'. Refute it at one input. -/
def fnExactStatesOfWrong : ChangeSpec := { name := "fnExactStatesOf", fn := fun _ => fun
  | [d1, d2, d3] => { results := [.lit (.bool false)], args := [d1, d2, d3] }
  | _ => none }
def FnExactStatesOfWrongFalsely : Prop := fnExactStatesOfRow.holds Try.pinned (OpenSpec.ofChange fnExactStatesOfWrong)

/-- 'laws.FnExactDestinationSums': WHATEVER THE INPUT: true; the input reads as it did. -/
def fnExactDestinationSumsSpec : ChangeSpec := { name := "fnExactDestinationSums", fn := fun _ => fun
  | [d1, d2, d3, d4] => { results := [.lit (.bool true)], args := [d1, d2, d3, d4] }
  | _ => none }
def fnExactDestinationSumsRow : OpenClaim := { program := "ytkoacjepochjaaa", sum := "53c82c38251f6127d04c6bae966fd15cd7c90ed5950e32125758b767dfe2d3b3", func := "loop.example/g00914/laws.FnExactDestinationSums", spec := "fnExactDestinationSums", apart := false }
def FnExactDestinationSumsSaid : Prop := fnExactDestinationSumsRow.holds Try.pinned (OpenSpec.ofChange fnExactDestinationSumsSpec)

/-- ITS FALSE NEIGHBOUR: 'it returns false'. Refute it at one input. -/
def fnExactDestinationSumsWrong : ChangeSpec := { name := "fnExactDestinationSums", fn := fun _ => fun
  | [d1, d2, d3, d4] => { results := [.lit (.bool false)], args := [d1, d2, d3, d4] }
  | _ => none }
def FnExactDestinationSumsWrongFalsely : Prop := fnExactDestinationSumsRow.holds Try.pinned (OpenSpec.ofChange fnExactDestinationSumsWrong)

/-- 'laws.FnExactIsDug': WHATEVER THE INPUT: true; the input reads as it did. -/
def fnExactIsDugSpec : ChangeSpec := { name := "fnExactIsDug", fn := fun _ => fun
  | [d1, d2] => { results := [.lit (.bool true)], args := [d1, d2] }
  | _ => none }
def fnExactIsDugRow : OpenClaim := { program := "ytkoacjepochjaaa", sum := "53c82c38251f6127d04c6bae966fd15cd7c90ed5950e32125758b767dfe2d3b3", func := "loop.example/g00914/laws.FnExactIsDug", spec := "fnExactIsDug", apart := false }
def FnExactIsDugSaid : Prop := fnExactIsDugRow.holds Try.pinned (OpenSpec.ofChange fnExactIsDugSpec)

/-- ITS FALSE NEIGHBOUR: 'it returns false'. Refute it at one input. -/
def fnExactIsDugWrong : ChangeSpec := { name := "fnExactIsDug", fn := fun _ => fun
  | [d1, d2] => { results := [.lit (.bool false)], args := [d1, d2] }
  | _ => none }
def FnExactIsDugWrongFalsely : Prop := fnExactIsDugRow.holds Try.pinned (OpenSpec.ofChange fnExactIsDugWrong)

/-- 'laws.FnExactGreatestPile': WHATEVER THE INPUT: true; the input reads as it did. -/
def fnExactGreatestPileSpec : ChangeSpec := { name := "fnExactGreatestPile", fn := fun _ => fun
  | [d] => { results := [.lit (.bool true)], args := [d] }
  | _ => none }
def fnExactGreatestPileRow : OpenClaim := { program := "ytkoacjepochjaaa", sum := "53c82c38251f6127d04c6bae966fd15cd7c90ed5950e32125758b767dfe2d3b3", func := "loop.example/g00914/laws.FnExactGreatestPile", spec := "fnExactGreatestPile", apart := false }
def FnExactGreatestPileSaid : Prop := fnExactGreatestPileRow.holds Try.pinned (OpenSpec.ofChange fnExactGreatestPileSpec)

/-- ITS FALSE NEIGHBOUR: 'it returns false'. Refute it at one input. -/
def fnExactGreatestPileWrong : ChangeSpec := { name := "fnExactGreatestPile", fn := fun _ => fun
  | [d] => { results := [.lit (.bool false)], args := [d] }
  | _ => none }
def FnExactGreatestPileWrongFalsely : Prop := fnExactGreatestPileRow.holds Try.pinned (OpenSpec.ofChange fnExactGreatestPileWrong)

/-- 'laws.FnExactNearestHole': WHATEVER THE INPUT: true; the input reads as it did. -/
def fnExactNearestHoleSpec : ChangeSpec := { name := "fnExactNearestHole", fn := fun _ => fun
  | [d1, d2, d3] => { results := [.lit (.bool true)], args := [d1, d2, d3] }
  | _ => none }
def fnExactNearestHoleRow : OpenClaim := { program := "ytkoacjepochjaaa", sum := "53c82c38251f6127d04c6bae966fd15cd7c90ed5950e32125758b767dfe2d3b3", func := "loop.example/g00914/laws.FnExactNearestHole", spec := "fnExactNearestHole", apart := false }
def FnExactNearestHoleSaid : Prop := fnExactNearestHoleRow.holds Try.pinned (OpenSpec.ofChange fnExactNearestHoleSpec)

/-- ITS FALSE NEIGHBOUR: 'it returns false'. Refute it at one input. -/
def fnExactNearestHoleWrong : ChangeSpec := { name := "fnExactNearestHole", fn := fun _ => fun
  | [d1, d2, d3] => { results := [.lit (.bool false)], args := [d1, d2, d3] }
  | _ => none }
def FnExactNearestHoleWrongFalsely : Prop := fnExactNearestHoleRow.holds Try.pinned (OpenSpec.ofChange fnExactNearestHoleWrong)

/-- 'laws.FnExactFirstImbalance': WHATEVER THE INPUT: true; the input reads as it did. -/
def fnExactFirstImbalanceSpec : ChangeSpec := { name := "fnExactFirstImbalance", fn := fun _ => fun
  | [d1, d2, d3] => { results := [.lit (.bool true)], args := [d1, d2, d3] }
  | _ => none }
def fnExactFirstImbalanceRow : OpenClaim := { program := "ytkoacjepochjaaa", sum := "53c82c38251f6127d04c6bae966fd15cd7c90ed5950e32125758b767dfe2d3b3", func := "loop.example/g00914/laws.FnExactFirstImbalance", spec := "fnExactFirstImbalance", apart := false }
def FnExactFirstImbalanceSaid : Prop := fnExactFirstImbalanceRow.holds Try.pinned (OpenSpec.ofChange fnExactFirstImbalanceSpec)

/-- ITS FALSE NEIGHBOUR: 'it returns false'. Refute it at one input. -/
def fnExactFirstImbalanceWrong : ChangeSpec := { name := "fnExactFirstImbalance", fn := fun _ => fun
  | [d1, d2, d3] => { results := [.lit (.bool false)], args := [d1, d2, d3] }
  | _ => none }
def FnExactFirstImbalanceWrongFalsely : Prop := fnExactFirstImbalanceRow.holds Try.pinned (OpenSpec.ofChange fnExactFirstImbalanceWrong)

/-- 'laws.FnExactLossAndWaste': WHATEVER THE INPUT: true; the input reads as it did. -/
def fnExactLossAndWasteSpec : ChangeSpec := { name := "fnExactLossAndWaste", fn := fun _ => fun
  | [d1, d2] => { results := [.lit (.bool true)], args := [d1, d2] }
  | _ => none }
def fnExactLossAndWasteRow : OpenClaim := { program := "ytkoacjepochjaaa", sum := "53c82c38251f6127d04c6bae966fd15cd7c90ed5950e32125758b767dfe2d3b3", func := "loop.example/g00914/laws.FnExactLossAndWaste", spec := "fnExactLossAndWaste", apart := false }
def FnExactLossAndWasteSaid : Prop := fnExactLossAndWasteRow.holds Try.pinned (OpenSpec.ofChange fnExactLossAndWasteSpec)

/-- ITS FALSE NEIGHBOUR: 'it returns false'. Refute it at one input. -/
def fnExactLossAndWasteWrong : ChangeSpec := { name := "fnExactLossAndWaste", fn := fun _ => fun
  | [d1, d2] => { results := [.lit (.bool false)], args := [d1, d2] }
  | _ => none }
def FnExactLossAndWasteWrongFalsely : Prop := fnExactLossAndWasteRow.holds Try.pinned (OpenSpec.ofChange fnExactLossAndWasteWrong)

/-- 'laws.FnExactAreBeside': WHATEVER THE INPUT: true; the input reads as it did. -/
def fnExactAreBesideSpec : ChangeSpec := { name := "fnExactAreBeside", fn := fun _ => fun
  | [d1, d2] => { results := [.lit (.bool true)], args := [d1, d2] }
  | _ => none }
def fnExactAreBesideRow : OpenClaim := { program := "ytkoacjepochjaaa", sum := "53c82c38251f6127d04c6bae966fd15cd7c90ed5950e32125758b767dfe2d3b3", func := "loop.example/g00914/laws.FnExactAreBeside", spec := "fnExactAreBeside", apart := false }
def FnExactAreBesideSaid : Prop := fnExactAreBesideRow.holds Try.pinned (OpenSpec.ofChange fnExactAreBesideSpec)

/-- ITS FALSE NEIGHBOUR: 'it returns false'. Refute it at one input. -/
def fnExactAreBesideWrong : ChangeSpec := { name := "fnExactAreBeside", fn := fun _ => fun
  | [d1, d2] => { results := [.lit (.bool false)], args := [d1, d2] }
  | _ => none }
def FnExactAreBesideWrongFalsely : Prop := fnExactAreBesideRow.holds Try.pinned (OpenSpec.ofChange fnExactAreBesideWrong)

/-- 'laws.FnExactDigText': WHATEVER THE INPUT: true; the input reads as it did. -/
def fnExactDigTextSpec : ChangeSpec := { name := "fnExactDigText", fn := fun _ => fun
  | [d1, d2] => { results := [.lit (.bool true)], args := [d1, d2] }
  | _ => none }
def fnExactDigTextRow : OpenClaim := { program := "ytkoacjepochjaaa", sum := "53c82c38251f6127d04c6bae966fd15cd7c90ed5950e32125758b767dfe2d3b3", func := "loop.example/g00914/laws.FnExactDigText", spec := "fnExactDigText", apart := false }
def FnExactDigTextSaid : Prop := fnExactDigTextRow.holds Try.pinned (OpenSpec.ofChange fnExactDigTextSpec)

/-- ITS FALSE NEIGHBOUR: 'it returns false'. Refute it at one input. -/
def fnExactDigTextWrong : ChangeSpec := { name := "fnExactDigText", fn := fun _ => fun
  | [d1, d2] => { results := [.lit (.bool false)], args := [d1, d2] }
  | _ => none }
def FnExactDigTextWrongFalsely : Prop := fnExactDigTextRow.holds Try.pinned (OpenSpec.ofChange fnExactDigTextWrong)

/-- 'laws.FnExactAccountRows': WHATEVER THE INPUT: true; the input reads as it did. -/
def fnExactAccountRowsSpec : ChangeSpec := { name := "fnExactAccountRows", fn := fun _ => fun
  | [d1, d2, d3, d4, d5] => { results := [.lit (.bool true)], args := [d1, d2, d3, d4, d5] }
  | _ => none }
def fnExactAccountRowsRow : OpenClaim := { program := "ytkoacjepochjaaa", sum := "53c82c38251f6127d04c6bae966fd15cd7c90ed5950e32125758b767dfe2d3b3", func := "loop.example/g00914/laws.FnExactAccountRows", spec := "fnExactAccountRows", apart := false }
def FnExactAccountRowsSaid : Prop := fnExactAccountRowsRow.holds Try.pinned (OpenSpec.ofChange fnExactAccountRowsSpec)

/-- ITS FALSE NEIGHBOUR: 'it returns false'. Refute it at one input. -/
def fnExactAccountRowsWrong : ChangeSpec := { name := "fnExactAccountRows", fn := fun _ => fun
  | [d1, d2, d3, d4, d5] => { results := [.lit (.bool false)], args := [d1, d2, d3, d4, d5] }
  | _ => none }
def FnExactAccountRowsWrongFalsely : Prop := fnExactAccountRowsRow.holds Try.pinned (OpenSpec.ofChange fnExactAccountRowsWrong)

/-- 'laws.FnExactMilledIn': WHATEVER THE INPUT: true; the input reads as it did. -/
def fnExactMilledInSpec : ChangeSpec := { name := "fnExactMilledIn", fn := fun _ => fun
  | [d] => { results := [.lit (.bool true)], args := [d] }
  | _ => none }
def fnExactMilledInRow : OpenClaim := { program := "ytkoacjepochjaaa", sum := "53c82c38251f6127d04c6bae966fd15cd7c90ed5950e32125758b767dfe2d3b3", func := "loop.example/g00914/laws.FnExactMilledIn", spec := "fnExactMilledIn", apart := false }
def FnExactMilledInSaid : Prop := fnExactMilledInRow.holds Try.pinned (OpenSpec.ofChange fnExactMilledInSpec)

/-- ITS FALSE NEIGHBOUR: 'it returns false'. Refute it at one input. -/
def fnExactMilledInWrong : ChangeSpec := { name := "fnExactMilledIn", fn := fun _ => fun
  | [d] => { results := [.lit (.bool false)], args := [d] }
  | _ => none }
def FnExactMilledInWrongFalsely : Prop := fnExactMilledInRow.holds Try.pinned (OpenSpec.ofChange fnExactMilledInWrong)

/-- 'laws.FnExactDigValue': WHATEVER THE INPUT: true; the input reads as it did. -/
def fnExactDigValueSpec : ChangeSpec := { name := "fnExactDigValue", fn := fun _ => fun
  | [d1, d2] => { results := [.lit (.bool true)], args := [d1, d2] }
  | _ => none }
def fnExactDigValueRow : OpenClaim := { program := "ytkoacjepochjaaa", sum := "53c82c38251f6127d04c6bae966fd15cd7c90ed5950e32125758b767dfe2d3b3", func := "loop.example/g00914/laws.FnExactDigValue", spec := "fnExactDigValue", apart := false }
def FnExactDigValueSaid : Prop := fnExactDigValueRow.holds Try.pinned (OpenSpec.ofChange fnExactDigValueSpec)

/-- ITS FALSE NEIGHBOUR: 'it returns false'. Refute it at one input. -/
def fnExactDigValueWrong : ChangeSpec := { name := "fnExactDigValue", fn := fun _ => fun
  | [d1, d2] => { results := [.lit (.bool false)], args := [d1, d2] }
  | _ => none }
def FnExactDigValueWrongFalsely : Prop := fnExactDigValueRow.holds Try.pinned (OpenSpec.ofChange fnExactDigValueWrong)

/- THE SECOND FORM. 'bulk': how many values and letters a reading holds, each counted each time it is reached (what is shared counts as often as it is met; a slice's spare places count too). A statement '..UptoSaid' is the law's where the arguments, and the package variables that the reading takes, are together of bulk at most 1048576: NARROWER than '..Said'. Prove '..Said' where nothing that the law and all that it calls make is longer than what came in: it says more and counts as full. Else prove '..UptoSaid'. A law counts once. -/
mutual
def uptoBulk {H : Type} : DataW H → Nat
  | .lit (.string bytes) => bytes.length + 1
  | .lit _ => 1
  | .nil => 1
  | .ptr d => uptoBulk d + 1
  | .slice elems spare => uptoBulkAll elems + uptoBulkAll spare + 1
  | .agg parts => uptoBulkAll parts + 1
  | .iface _ d => uptoBulk d + 1
  | .map entries => uptoBulkEntries entries + 1
  | .held _ => 1
def uptoBulkAll {H : Type} : List (DataW H) → Nat
  | [] => 0
  | d :: r => uptoBulk d + uptoBulkAll r
def uptoBulkEntries {H : Type} : List (Lit × DataW H) → Nat
  | [] => 0
  | x :: r => uptoBulkEntry x + uptoBulkEntries r
def uptoBulkEntry {H : Type} : Lit × DataW H → Nat
  | (.string bytes, d) => bytes.length + uptoBulk d + 1
  | (_, d) => uptoBulk d + 1
 end
def uptoSmall : (H : Type) → List (DataW H) → Bool := fun _ ds => decide (uptoBulkAll ds ≤ 1048576)
def OpenSpec.upto (s : _root_.Go.ChangeSpec) : _root_.Go.OpenSpec := { _root_.Go.OpenSpec.ofChange s with cond := some uptoSmall }

/-- 'laws.FnExactStatesOf', WHERE WHAT IT READS IS OF BULK AT MOST 1048576: true; the input reads as it did. -/
def fnExactStatesOfUptoRow : OpenClaim := { program := "ytkoacjepochjaaa", sum := "53c82c38251f6127d04c6bae966fd15cd7c90ed5950e32125758b767dfe2d3b3", func := "loop.example/g00914/laws.FnExactStatesOf", spec := "fnExactStatesOf", apart := false, narrowed := true }
def FnExactStatesOfUptoSaid : Prop := fnExactStatesOfUptoRow.holds Try.pinned (OpenSpec.upto fnExactStatesOfSpec)

/-- 'laws.FnExactDestinationSums', WHERE WHAT IT READS IS OF BULK AT MOST 1048576: true; the input reads as it did. -/
def fnExactDestinationSumsUptoRow : OpenClaim := { program := "ytkoacjepochjaaa", sum := "53c82c38251f6127d04c6bae966fd15cd7c90ed5950e32125758b767dfe2d3b3", func := "loop.example/g00914/laws.FnExactDestinationSums", spec := "fnExactDestinationSums", apart := false, narrowed := true }
def FnExactDestinationSumsUptoSaid : Prop := fnExactDestinationSumsUptoRow.holds Try.pinned (OpenSpec.upto fnExactDestinationSumsSpec)

/-- 'laws.FnExactIsDug', WHERE WHAT IT READS IS OF BULK AT MOST 1048576: true; the input reads as it did. -/
def fnExactIsDugUptoRow : OpenClaim := { program := "ytkoacjepochjaaa", sum := "53c82c38251f6127d04c6bae966fd15cd7c90ed5950e32125758b767dfe2d3b3", func := "loop.example/g00914/laws.FnExactIsDug", spec := "fnExactIsDug", apart := false, narrowed := true }
def FnExactIsDugUptoSaid : Prop := fnExactIsDugUptoRow.holds Try.pinned (OpenSpec.upto fnExactIsDugSpec)

/-- 'laws.FnExactGreatestPile', WHERE WHAT IT READS IS OF BULK AT MOST 1048576: true; the input reads as it did. -/
def fnExactGreatestPileUptoRow : OpenClaim := { program := "ytkoacjepochjaaa", sum := "53c82c38251f6127d04c6bae966fd15cd7c90ed5950e32125758b767dfe2d3b3", func := "loop.example/g00914/laws.FnExactGreatestPile", spec := "fnExactGreatestPile", apart := false, narrowed := true }
def FnExactGreatestPileUptoSaid : Prop := fnExactGreatestPileUptoRow.holds Try.pinned (OpenSpec.upto fnExactGreatestPileSpec)

/-- 'laws.FnExactNearestHole', WHERE WHAT IT READS IS OF BULK AT MOST 1048576: true; the input reads as it did. -/
def fnExactNearestHoleUptoRow : OpenClaim := { program := "ytkoacjepochjaaa", sum := "53c82c38251f6127d04c6bae966fd15cd7c90ed5950e32125758b767dfe2d3b3", func := "loop.example/g00914/laws.FnExactNearestHole", spec := "fnExactNearestHole", apart := false, narrowed := true }
def FnExactNearestHoleUptoSaid : Prop := fnExactNearestHoleUptoRow.holds Try.pinned (OpenSpec.upto fnExactNearestHoleSpec)

/-- 'laws.FnExactFirstImbalance', WHERE WHAT IT READS IS OF BULK AT MOST 1048576: true; the input reads as it did. -/
def fnExactFirstImbalanceUptoRow : OpenClaim := { program := "ytkoacjepochjaaa", sum := "53c82c38251f6127d04c6bae966fd15cd7c90ed5950e32125758b767dfe2d3b3", func := "loop.example/g00914/laws.FnExactFirstImbalance", spec := "fnExactFirstImbalance", apart := false, narrowed := true }
def FnExactFirstImbalanceUptoSaid : Prop := fnExactFirstImbalanceUptoRow.holds Try.pinned (OpenSpec.upto fnExactFirstImbalanceSpec)

/-- 'laws.FnExactLossAndWaste', WHERE WHAT IT READS IS OF BULK AT MOST 1048576: true; the input reads as it did. -/
def fnExactLossAndWasteUptoRow : OpenClaim := { program := "ytkoacjepochjaaa", sum := "53c82c38251f6127d04c6bae966fd15cd7c90ed5950e32125758b767dfe2d3b3", func := "loop.example/g00914/laws.FnExactLossAndWaste", spec := "fnExactLossAndWaste", apart := false, narrowed := true }
def FnExactLossAndWasteUptoSaid : Prop := fnExactLossAndWasteUptoRow.holds Try.pinned (OpenSpec.upto fnExactLossAndWasteSpec)

/-- 'laws.FnExactAreBeside', WHERE WHAT IT READS IS OF BULK AT MOST 1048576: true; the input reads as it did. -/
def fnExactAreBesideUptoRow : OpenClaim := { program := "ytkoacjepochjaaa", sum := "53c82c38251f6127d04c6bae966fd15cd7c90ed5950e32125758b767dfe2d3b3", func := "loop.example/g00914/laws.FnExactAreBeside", spec := "fnExactAreBeside", apart := false, narrowed := true }
def FnExactAreBesideUptoSaid : Prop := fnExactAreBesideUptoRow.holds Try.pinned (OpenSpec.upto fnExactAreBesideSpec)

/-- 'laws.FnExactDigText', WHERE WHAT IT READS IS OF BULK AT MOST 1048576: true; the input reads as it did. -/
def fnExactDigTextUptoRow : OpenClaim := { program := "ytkoacjepochjaaa", sum := "53c82c38251f6127d04c6bae966fd15cd7c90ed5950e32125758b767dfe2d3b3", func := "loop.example/g00914/laws.FnExactDigText", spec := "fnExactDigText", apart := false, narrowed := true }
def FnExactDigTextUptoSaid : Prop := fnExactDigTextUptoRow.holds Try.pinned (OpenSpec.upto fnExactDigTextSpec)

/-- 'laws.FnExactAccountRows', WHERE WHAT IT READS IS OF BULK AT MOST 1048576: true; the input reads as it did. -/
def fnExactAccountRowsUptoRow : OpenClaim := { program := "ytkoacjepochjaaa", sum := "53c82c38251f6127d04c6bae966fd15cd7c90ed5950e32125758b767dfe2d3b3", func := "loop.example/g00914/laws.FnExactAccountRows", spec := "fnExactAccountRows", apart := false, narrowed := true }
def FnExactAccountRowsUptoSaid : Prop := fnExactAccountRowsUptoRow.holds Try.pinned (OpenSpec.upto fnExactAccountRowsSpec)

/-- 'laws.FnExactMilledIn', WHERE WHAT IT READS IS OF BULK AT MOST 1048576: true; the input reads as it did. -/
def fnExactMilledInUptoRow : OpenClaim := { program := "ytkoacjepochjaaa", sum := "53c82c38251f6127d04c6bae966fd15cd7c90ed5950e32125758b767dfe2d3b3", func := "loop.example/g00914/laws.FnExactMilledIn", spec := "fnExactMilledIn", apart := false, narrowed := true }
def FnExactMilledInUptoSaid : Prop := fnExactMilledInUptoRow.holds Try.pinned (OpenSpec.upto fnExactMilledInSpec)

/-- 'laws.FnExactDigValue', WHERE WHAT IT READS IS OF BULK AT MOST 1048576: true; the input reads as it did. -/
def fnExactDigValueUptoRow : OpenClaim := { program := "ytkoacjepochjaaa", sum := "53c82c38251f6127d04c6bae966fd15cd7c90ed5950e32125758b767dfe2d3b3", func := "loop.example/g00914/laws.FnExactDigValue", spec := "fnExactDigValue", apart := false, narrowed := true }
def FnExactDigValueUptoSaid : Prop := fnExactDigValueUptoRow.holds Try.pinned (OpenSpec.upto fnExactDigValueSpec)

end Rows
end Go.Proofs.Ytkoacjepochjaaa
