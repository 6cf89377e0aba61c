/-
  No cell of these rows narrows 'for every input' (looked for: loops, veiled, ifaces, maps, wideKeys, modest, calm, conditions, laid).
  DERIVED. THE GIVEN ROWS OF THIS SEAT. 2 by the template 'for every input the law returns true; each argument reads behind the call as it read before'; 0 by the template 'total and deterministic' (their statements: YtloddihakhgcdaaTotals.lean).
  GIVEN WITH THE SEED: the statements are not yours to turn. If you find one false, say at which input.
  Laid BY PROGRAM, IN A SANDBOX (cutbox-rows.mjs): the forced cells as the released guide's own fill.sh prints them over the translation cb150c1cc144ecb1… (all of the seat's roots in one cut). By AI agents, Wed Nov 11 2026. No macro, syntax, notation, axiom, sorry.
-/
import Derived.Test.YtloddihakhgcdaaChecked
import GoSem.Claim
import GoSem.ClaimJoined
import GoSem.ClaimMapViews
import Derived.JoinedTies
import Derived.KernelRfl
namespace Go.Proofs.Ytloddihakhgcdaa
/- THE CELL 'sum', in the pinned program and in every row, IS THE sha256 OF THE DUMP (.gsa) THAT YtloddihakhgcdaaProg.lean LOADS. Nothing in Lean hashes anything: it is a label: what it is worth is what the hold of that sum in a sandbox is worth. -/
noncomputable def Try.pinned : Pinned := { name := "ytloddihakhgcdaa", sum := "cb150c1cc144ecb19a75d3848d051de25b0fc0b873ecda0da4b5120cab082a49", checked := Try.checked }
namespace Rows
def none {H : Type} : Left H := { results := [], args := [] }

/-- 'laws.FnExactDestinationSums': WHATEVER THE INPUT: true; the input reads as it did. -/
def fnExactDestinationSumsSpec : ChangeSpec := { name := "fnExactDestinationSums", fn := fun _ => fun
  | [d1, d2, d3, d4] => { results := [.lit (.bool true)], args := [d1, d2, d3, d4] }
  | _ => none }
def fnExactDestinationSumsRow : OpenClaim := { program := "ytloddihakhgcdaa", sum := "cb150c1cc144ecb19a75d3848d051de25b0fc0b873ecda0da4b5120cab082a49", func := "loop.example/g00914/laws.FnExactDestinationSums", spec := "fnExactDestinationSums", apart := false }
def FnExactDestinationSumsSaid : Prop := fnExactDestinationSumsRow.holds Try.pinned (OpenSpec.ofChange fnExactDestinationSumsSpec)

/-- ITS FALSE NEIGHBOUR: 'it returns false'. Refute it at one input. -/
def fnExactDestinationSumsWrong : ChangeSpec := { name := "fnExactDestinationSums", fn := fun _ => fun
  | [d1, d2, d3, d4] => { results := [.lit (.bool false)], args := [d1, d2, d3, d4] }
  | _ => none }
def FnExactDestinationSumsWrongFalsely : Prop := fnExactDestinationSumsRow.holds Try.pinned (OpenSpec.ofChange fnExactDestinationSumsWrong)

/-- 'laws.FnExactAccountRows': WHATEVER THE INPUT: true; the input reads as it did. -/
def fnExactAccountRowsSpec : ChangeSpec := { name := "fnExactAccountRows", fn := fun _ => fun
  | [d1, d2, d3, d4, d5] => { results := [.lit (.bool true)], args := [d1, d2, d3, d4, d5] }
  | _ => none }
def fnExactAccountRowsRow : OpenClaim := { program := "ytloddihakhgcdaa", sum := "cb150c1cc144ecb19a75d3848d051de25b0fc0b873ecda0da4b5120cab082a49", func := "loop.example/g00914/laws.FnExactAccountRows", spec := "fnExactAccountRows", apart := false }
def FnExactAccountRowsSaid : Prop := fnExactAccountRowsRow.holds Try.pinned (OpenSpec.ofChange fnExactAccountRowsSpec)

/-- ITS FALSE NEIGHBOUR: 'it returns false'. Refute it at one input. -/
def fnExactAccountRowsWrong : ChangeSpec := { name := "fnExactAccountRows", fn := fun _ => fun
  | [d1, d2, d3, d4, d5] => { results := [.lit (.bool false)], args := [d1, d2, d3, d4, d5] }
  | _ => none }
def FnExactAccountRowsWrongFalsely : Prop := fnExactAccountRowsRow.holds Try.pinned (OpenSpec.ofChange fnExactAccountRowsWrong)

/- THE SECOND FORM. 'bulk': how many values and letters a reading holds, each counted each time it is reached (what is shared counts as often as it is met; a slice's spare places count too). A statement '..UptoSaid' is the law's where the arguments, and the package variables that the reading takes, are together of bulk at most 1048576: NARROWER than '..Said'. Prove '..Said' where nothing that the law and all that it calls make is longer than what came in: it says more and counts as full. Else prove '..UptoSaid'. A law counts once. -/
mutual
def uptoBulk {H : Type} : DataW H → Nat
  | .lit (.string bytes) => bytes.length + 1
  | .lit _ => 1
  | .nil => 1
  | .ptr d => uptoBulk d + 1
  | .slice elems spare => uptoBulkAll elems + uptoBulkAll spare + 1
  | .agg parts => uptoBulkAll parts + 1
  | .iface _ d => uptoBulk d + 1
  | .map entries => uptoBulkEntries entries + 1
  | .held _ => 1
def uptoBulkAll {H : Type} : List (DataW H) → Nat
  | [] => 0
  | d :: r => uptoBulk d + uptoBulkAll r
def uptoBulkEntries {H : Type} : List (Lit × DataW H) → Nat
  | [] => 0
  | x :: r => uptoBulkEntry x + uptoBulkEntries r
def uptoBulkEntry {H : Type} : Lit × DataW H → Nat
  | (.string bytes, d) => bytes.length + uptoBulk d + 1
  | (_, d) => uptoBulk d + 1
 end
def uptoSmall : (H : Type) → List (DataW H) → Bool := fun _ ds => decide (uptoBulkAll ds ≤ 1048576)
def OpenSpec.upto (s : _root_.Go.ChangeSpec) : _root_.Go.OpenSpec := { _root_.Go.OpenSpec.ofChange s with cond := some uptoSmall }

/-- 'laws.FnExactDestinationSums', WHERE WHAT IT READS IS OF BULK AT MOST 1048576: true; the input reads as it did. -/
def fnExactDestinationSumsUptoRow : OpenClaim := { program := "ytloddihakhgcdaa", sum := "cb150c1cc144ecb19a75d3848d051de25b0fc0b873ecda0da4b5120cab082a49", func := "loop.example/g00914/laws.FnExactDestinationSums", spec := "fnExactDestinationSums", apart := false, narrowed := true }
def FnExactDestinationSumsUptoSaid : Prop := fnExactDestinationSumsUptoRow.holds Try.pinned (OpenSpec.upto fnExactDestinationSumsSpec)

/-- 'laws.FnExactAccountRows', WHERE WHAT IT READS IS OF BULK AT MOST 1048576: true; the input reads as it did. -/
def fnExactAccountRowsUptoRow : OpenClaim := { program := "ytloddihakhgcdaa", sum := "cb150c1cc144ecb19a75d3848d051de25b0fc0b873ecda0da4b5120cab082a49", func := "loop.example/g00914/laws.FnExactAccountRows", spec := "fnExactAccountRows", apart := false, narrowed := true }
def FnExactAccountRowsUptoSaid : Prop := fnExactAccountRowsUptoRow.holds Try.pinned (OpenSpec.upto fnExactAccountRowsSpec)

end Rows
end Go.Proofs.Ytloddihakhgcdaa
