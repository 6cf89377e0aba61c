/-
  No cell of these rows narrows 'for every input' (looked for: loops, veiled, ifaces, maps, wideKeys, modest, calm, conditions, laid).
  DERIVED. THE GIVEN ROWS OF THIS SEAT. 12 by the template 'for every input the law returns true; each argument reads behind the call as it read before'; 0 by the template 'total and deterministic' (their statements: YtbkolnbdcifnlaaTotals.lean).
  GIVEN WITH THE SEED: the statements are not yours to turn. If you find one false, say at which input.
  Laid BY PROGRAM, IN A SANDBOX (cutbox-rows.mjs): the forced cells as the released guide's own fill.sh prints them over the translation 717ff6fb96d4a77d… (all of the seat's roots in one cut). By AI agents, Wed Nov 11 2026. No macro, syntax, notation, axiom, sorry.
-/
import Derived.Test.YtbkolnbdcifnlaaChecked
import GoSem.Claim
import GoSem.ClaimJoined
import GoSem.ClaimMapViews
import Derived.JoinedTies
import Derived.KernelRfl
namespace Go.Proofs.Ytbkolnbdcifnlaa
/- THE CELL 'sum', in the pinned program and in every row, IS THE sha256 OF THE DUMP (.gsa) THAT YtbkolnbdcifnlaaProg.lean LOADS. Nothing in Lean hashes anything: it is a label: what it is worth is what the hold of that sum in a sandbox is worth. -/
noncomputable def Try.pinned : Pinned := { name := "ytbkolnbdcifnlaa", sum := "717ff6fb96d4a77d05592df07102c1f79446273fa0ace9f3ea7495fff26ac091", checked := Try.checked }
namespace Rows
def none {H : Type} : Left H := { results := [], args := [] }

/-- 'laws.FnExactReadyIn': WHATEVER THE INPUT: true; the input reads as it did. -/
def fnExactReadyInSpec : ChangeSpec := { name := "fnExactReadyIn", fn := fun _ => fun
  | [d] => { results := [.lit (.bool true)], args := [d] }
  | _ => none }
def fnExactReadyInRow : OpenClaim := { program := "ytbkolnbdcifnlaa", sum := "717ff6fb96d4a77d05592df07102c1f79446273fa0ace9f3ea7495fff26ac091", func := "loop.example/g00914/laws.FnExactReadyIn", spec := "fnExactReadyIn", apart := false }
def FnExactReadyInSaid : Prop := fnExactReadyInRow.holds Try.pinned (OpenSpec.ofChange fnExactReadyInSpec)

/-- ITS FALSE NEIGHBOUR: 'it returns false'. Refute it at one input. -/
def fnExactReadyInWrong : ChangeSpec := { name := "fnExactReadyIn", fn := fun _ => fun
  | [d] => { results := [.lit (.bool false)], args := [d] }
  | _ => none }
def FnExactReadyInWrongFalsely : Prop := fnExactReadyInRow.holds Try.pinned (OpenSpec.ofChange fnExactReadyInWrong)

/-- 'laws.FnExactLongestDown': WHATEVER THE INPUT: true; the input reads as it did. -/
def fnExactLongestDownSpec : ChangeSpec := { name := "fnExactLongestDown", fn := fun _ => fun
  | [d] => { results := [.lit (.bool true)], args := [d] }
  | _ => none }
def fnExactLongestDownRow : OpenClaim := { program := "ytbkolnbdcifnlaa", sum := "717ff6fb96d4a77d05592df07102c1f79446273fa0ace9f3ea7495fff26ac091", func := "loop.example/g00914/laws.FnExactLongestDown", spec := "fnExactLongestDown", apart := false }
def FnExactLongestDownSaid : Prop := fnExactLongestDownRow.holds Try.pinned (OpenSpec.ofChange fnExactLongestDownSpec)

/-- ITS FALSE NEIGHBOUR: 'it returns false'. Refute it at one input. -/
def fnExactLongestDownWrong : ChangeSpec := { name := "fnExactLongestDown", fn := fun _ => fun
  | [d] => { results := [.lit (.bool false)], args := [d] }
  | _ => none }
def FnExactLongestDownWrongFalsely : Prop := fnExactLongestDownRow.holds Try.pinned (OpenSpec.ofChange fnExactLongestDownWrong)

/-- 'laws.FnExactRowBalances': WHATEVER THE INPUT: true; the input reads as it did. -/
def fnExactRowBalancesSpec : ChangeSpec := { name := "fnExactRowBalances", fn := fun _ => fun
  | [d] => { results := [.lit (.bool true)], args := [d] }
  | _ => none }
def fnExactRowBalancesRow : OpenClaim := { program := "ytbkolnbdcifnlaa", sum := "717ff6fb96d4a77d05592df07102c1f79446273fa0ace9f3ea7495fff26ac091", func := "loop.example/g00914/laws.FnExactRowBalances", spec := "fnExactRowBalances", apart := false }
def FnExactRowBalancesSaid : Prop := fnExactRowBalancesRow.holds Try.pinned (OpenSpec.ofChange fnExactRowBalancesSpec)

/-- ITS FALSE NEIGHBOUR: 'it returns false'. Refute it at one input. -/
def fnExactRowBalancesWrong : ChangeSpec := { name := "fnExactRowBalances", fn := fun _ => fun
  | [d] => { results := [.lit (.bool false)], args := [d] }
  | _ => none }
def FnExactRowBalancesWrongFalsely : Prop := fnExactRowBalancesRow.holds Try.pinned (OpenSpec.ofChange fnExactRowBalancesWrong)

/-- 'laws.FnExactBlockOfHole': WHATEVER THE INPUT: true; the input reads as it did. -/
def fnExactBlockOfHoleSpec : ChangeSpec := { name := "fnExactBlockOfHole", fn := fun _ => fun
  | [d1, d2] => { results := [.lit (.bool true)], args := [d1, d2] }
  | _ => none }
def fnExactBlockOfHoleRow : OpenClaim := { program := "ytbkolnbdcifnlaa", sum := "717ff6fb96d4a77d05592df07102c1f79446273fa0ace9f3ea7495fff26ac091", func := "loop.example/g00914/laws.FnExactBlockOfHole", spec := "fnExactBlockOfHole", apart := false }
def FnExactBlockOfHoleSaid : Prop := fnExactBlockOfHoleRow.holds Try.pinned (OpenSpec.ofChange fnExactBlockOfHoleSpec)

/-- ITS FALSE NEIGHBOUR: 'it returns false'. Refute it at one input. -/
def fnExactBlockOfHoleWrong : ChangeSpec := { name := "fnExactBlockOfHole", fn := fun _ => fun
  | [d1, d2] => { results := [.lit (.bool false)], args := [d1, d2] }
  | _ => none }
def FnExactBlockOfHoleWrongFalsely : Prop := fnExactBlockOfHoleRow.holds Try.pinned (OpenSpec.ofChange fnExactBlockOfHoleWrong)

/-- 'laws.FnExactMixOf': WHATEVER THE INPUT: true; the input reads as it did. -/
def fnExactMixOfSpec : ChangeSpec := { name := "fnExactMixOf", fn := fun _ => fun
  | [d] => { results := [.lit (.bool true)], args := [d] }
  | _ => none }
def fnExactMixOfRow : OpenClaim := { program := "ytbkolnbdcifnlaa", sum := "717ff6fb96d4a77d05592df07102c1f79446273fa0ace9f3ea7495fff26ac091", func := "loop.example/g00914/laws.FnExactMixOf", spec := "fnExactMixOf", apart := false }
def FnExactMixOfSaid : Prop := fnExactMixOfRow.holds Try.pinned (OpenSpec.ofChange fnExactMixOfSpec)

/-- ITS FALSE NEIGHBOUR: 'it returns false'. Refute it at one input. -/
def fnExactMixOfWrong : ChangeSpec := { name := "fnExactMixOf", fn := fun _ => fun
  | [d] => { results := [.lit (.bool false)], args := [d] }
  | _ => none }
def FnExactMixOfWrongFalsely : Prop := fnExactMixOfRow.holds Try.pinned (OpenSpec.ofChange fnExactMixOfWrong)

/-- 'laws.FnExactReadyChance': WHATEVER THE INPUT: true; the input reads as it did. -/
def fnExactReadyChanceSpec : ChangeSpec := { name := "fnExactReadyChance", fn := fun _ => fun
  | [d1, d2] => { results := [.lit (.bool true)], args := [d1, d2] }
  | _ => none }
def fnExactReadyChanceRow : OpenClaim := { program := "ytbkolnbdcifnlaa", sum := "717ff6fb96d4a77d05592df07102c1f79446273fa0ace9f3ea7495fff26ac091", func := "loop.example/g00914/laws.FnExactReadyChance", spec := "fnExactReadyChance", apart := false }
def FnExactReadyChanceSaid : Prop := fnExactReadyChanceRow.holds Try.pinned (OpenSpec.ofChange fnExactReadyChanceSpec)

/-- ITS FALSE NEIGHBOUR: 'it returns false'. Refute it at one input. -/
def fnExactReadyChanceWrong : ChangeSpec := { name := "fnExactReadyChance", fn := fun _ => fun
  | [d1, d2] => { results := [.lit (.bool false)], args := [d1, d2] }
  | _ => none }
def FnExactReadyChanceWrongFalsely : Prop := fnExactReadyChanceRow.holds Try.pinned (OpenSpec.ofChange fnExactReadyChanceWrong)

/-- 'laws.FnEstimates': WHATEVER THE INPUT: true; the input reads as it did. -/
def fnEstimatesSpec : ChangeSpec := { name := "fnEstimates", fn := fun _ => fun
  | [d1, d2] => { results := [.lit (.bool true)], args := [d1, d2] }
  | _ => none }
def fnEstimatesRow : OpenClaim := { program := "ytbkolnbdcifnlaa", sum := "717ff6fb96d4a77d05592df07102c1f79446273fa0ace9f3ea7495fff26ac091", func := "loop.example/g00914/laws.FnEstimates", spec := "fnEstimates", apart := false }
def FnEstimatesSaid : Prop := fnEstimatesRow.holds Try.pinned (OpenSpec.ofChange fnEstimatesSpec)

/-- ITS FALSE NEIGHBOUR: 'it returns false'. Refute it at one input. -/
def fnEstimatesWrong : ChangeSpec := { name := "fnEstimates", fn := fun _ => fun
  | [d1, d2] => { results := [.lit (.bool false)], args := [d1, d2] }
  | _ => none }
def FnEstimatesWrongFalsely : Prop := fnEstimatesRow.holds Try.pinned (OpenSpec.ofChange fnEstimatesWrong)

/-- 'laws.FnExactNumberFor': WHATEVER THE INPUT: true; the input reads as it did. -/
def fnExactNumberForSpec : ChangeSpec := { name := "fnExactNumberFor", fn := fun _ => fun
  | [d1, d2] => { results := [.lit (.bool true)], args := [d1, d2] }
  | _ => none }
def fnExactNumberForRow : OpenClaim := { program := "ytbkolnbdcifnlaa", sum := "717ff6fb96d4a77d05592df07102c1f79446273fa0ace9f3ea7495fff26ac091", func := "loop.example/g00914/laws.FnExactNumberFor", spec := "fnExactNumberFor", apart := false }
def FnExactNumberForSaid : Prop := fnExactNumberForRow.holds Try.pinned (OpenSpec.ofChange fnExactNumberForSpec)

/-- ITS FALSE NEIGHBOUR: 'it returns false'. Refute it at one input. -/
def fnExactNumberForWrong : ChangeSpec := { name := "fnExactNumberFor", fn := fun _ => fun
  | [d1, d2] => { results := [.lit (.bool false)], args := [d1, d2] }
  | _ => none }
def FnExactNumberForWrongFalsely : Prop := fnExactNumberForRow.holds Try.pinned (OpenSpec.ofChange fnExactNumberForWrong)

/-- 'laws.FnExactIsBench': WHATEVER THE INPUT: true; the input reads as it did. -/
def fnExactIsBenchSpec : ChangeSpec := { name := "fnExactIsBench", fn := fun _ => fun
  | [d] => { results := [.lit (.bool true)], args := [d] }
  | _ => none }
def fnExactIsBenchRow : OpenClaim := { program := "ytbkolnbdcifnlaa", sum := "717ff6fb96d4a77d05592df07102c1f79446273fa0ace9f3ea7495fff26ac091", func := "loop.example/g00914/laws.FnExactIsBench", spec := "fnExactIsBench", apart := false }
def FnExactIsBenchSaid : Prop := fnExactIsBenchRow.holds Try.pinned (OpenSpec.ofChange fnExactIsBenchSpec)

/-- ITS FALSE NEIGHBOUR: 'it returns false'. Refute it at one input. -/
def fnExactIsBenchWrong : ChangeSpec := { name := "fnExactIsBench", fn := fun _ => fun
  | [d] => { results := [.lit (.bool false)], args := [d] }
  | _ => none }
def FnExactIsBenchWrongFalsely : Prop := fnExactIsBenchRow.holds Try.pinned (OpenSpec.ofChange fnExactIsBenchWrong)

/-- 'laws.FnExactMeanReady': WHATEVER THE INPUT: true; the input reads as it did. -/
def fnExactMeanReadySpec : ChangeSpec := { name := "fnExactMeanReady", fn := fun _ => fun
  | [d1, d2] => { results := [.lit (.bool true)], args := [d1, d2] }
  | _ => none }
def fnExactMeanReadyRow : OpenClaim := { program := "ytbkolnbdcifnlaa", sum := "717ff6fb96d4a77d05592df07102c1f79446273fa0ace9f3ea7495fff26ac091", func := "loop.example/g00914/laws.FnExactMeanReady", spec := "fnExactMeanReady", apart := false }
def FnExactMeanReadySaid : Prop := fnExactMeanReadyRow.holds Try.pinned (OpenSpec.ofChange fnExactMeanReadySpec)

/-- ITS FALSE NEIGHBOUR: 'it returns false'. Refute it at one input. -/
def fnExactMeanReadyWrong : ChangeSpec := { name := "fnExactMeanReady", fn := fun _ => fun
  | [d1, d2] => { results := [.lit (.bool false)], args := [d1, d2] }
  | _ => none }
def FnExactMeanReadyWrongFalsely : Prop := fnExactMeanReadyRow.holds Try.pinned (OpenSpec.ofChange fnExactMeanReadyWrong)

/-- 'laws.FnExactWithCalendar': WHATEVER THE INPUT: true; the input reads as it did. -/
def fnExactWithCalendarSpec : ChangeSpec := { name := "fnExactWithCalendar", fn := fun _ => fun
  | [d1, d2] => { results := [.lit (.bool true)], args := [d1, d2] }
  | _ => none }
def fnExactWithCalendarRow : OpenClaim := { program := "ytbkolnbdcifnlaa", sum := "717ff6fb96d4a77d05592df07102c1f79446273fa0ace9f3ea7495fff26ac091", func := "loop.example/g00914/laws.FnExactWithCalendar", spec := "fnExactWithCalendar", apart := false }
def FnExactWithCalendarSaid : Prop := fnExactWithCalendarRow.holds Try.pinned (OpenSpec.ofChange fnExactWithCalendarSpec)

/-- ITS FALSE NEIGHBOUR: 'it returns false'. Refute it at one input. -/
def fnExactWithCalendarWrong : ChangeSpec := { name := "fnExactWithCalendar", fn := fun _ => fun
  | [d1, d2] => { results := [.lit (.bool false)], args := [d1, d2] }
  | _ => none }
def FnExactWithCalendarWrongFalsely : Prop := fnExactWithCalendarRow.holds Try.pinned (OpenSpec.ofChange fnExactWithCalendarWrong)

/-- 'laws.FnExactAreHoles': WHATEVER THE INPUT: true; the input reads as it did. -/
def fnExactAreHolesSpec : ChangeSpec := { name := "fnExactAreHoles", fn := fun _ => fun
  | [d1, d2] => { results := [.lit (.bool true)], args := [d1, d2] }
  | _ => none }
def fnExactAreHolesRow : OpenClaim := { program := "ytbkolnbdcifnlaa", sum := "717ff6fb96d4a77d05592df07102c1f79446273fa0ace9f3ea7495fff26ac091", func := "loop.example/g00914/laws.FnExactAreHoles", spec := "fnExactAreHoles", apart := false }
def FnExactAreHolesSaid : Prop := fnExactAreHolesRow.holds Try.pinned (OpenSpec.ofChange fnExactAreHolesSpec)

/-- ITS FALSE NEIGHBOUR: 'it returns false'. Refute it at one input. -/
def fnExactAreHolesWrong : ChangeSpec := { name := "fnExactAreHoles", fn := fun _ => fun
  | [d1, d2] => { results := [.lit (.bool false)], args := [d1, d2] }
  | _ => none }
def FnExactAreHolesWrongFalsely : Prop := fnExactAreHolesRow.holds Try.pinned (OpenSpec.ofChange fnExactAreHolesWrong)

/- THE SECOND FORM. 'bulk': how many values and letters a reading holds, each counted each time it is reached (what is shared counts as often as it is met; a slice's spare places count too). A statement '..UptoSaid' is the law's where the arguments, and the package variables that the reading takes, are together of bulk at most 1048576: NARROWER than '..Said'. Prove '..Said' where nothing that the law and all that it calls make is longer than what came in: it says more and counts as full. Else prove '..UptoSaid'. A law counts once. -/
mutual
def uptoBulk {H : Type} : DataW H → Nat
  | .lit (.string bytes) => bytes.length + 1
  | .lit _ => 1
  | .nil => 1
  | .ptr d => uptoBulk d + 1
  | .slice elems spare => uptoBulkAll elems + uptoBulkAll spare + 1
  | .agg parts => uptoBulkAll parts + 1
  | .iface _ d => uptoBulk d + 1
  | .map entries => uptoBulkEntries entries + 1
  | .held _ => 1
def uptoBulkAll {H : Type} : List (DataW H) → Nat
  | [] => 0
  | d :: r => uptoBulk d + uptoBulkAll r
def uptoBulkEntries {H : Type} : List (Lit × DataW H) → Nat
  | [] => 0
  | x :: r => uptoBulkEntry x + uptoBulkEntries r
def uptoBulkEntry {H : Type} : Lit × DataW H → Nat
  | (.string bytes, d) => bytes.length + uptoBulk d + 1
  | (_, d) => uptoBulk d + 1
 end
def uptoSmall : (H : Type) → List (DataW H) → Bool := fun _ ds => decide (uptoBulkAll ds ≤ 1048576)
def OpenSpec.upto (s : _root_.Go.ChangeSpec) : _root_.Go.OpenSpec := { _root_.Go.OpenSpec.ofChange s with cond := some uptoSmall }

/-- 'laws.FnExactReadyIn', WHERE WHAT IT READS IS OF BULK AT MOST 1048576: true; the input reads as it did. -/
def fnExactReadyInUptoRow : OpenClaim := { program := "ytbkolnbdcifnlaa", sum := "717ff6fb96d4a77d05592df07102c1f79446273fa0ace9f3ea7495fff26ac091", func := "loop.example/g00914/laws.FnExactReadyIn", spec := "fnExactReadyIn", apart := false, narrowed := true }
def FnExactReadyInUptoSaid : Prop := fnExactReadyInUptoRow.holds Try.pinned (OpenSpec.upto fnExactReadyInSpec)

/-- 'laws.FnExactLongestDown', WHERE WHAT IT READS IS OF BULK AT MOST 1048576: true; the input reads as it did. -/
def fnExactLongestDownUptoRow : OpenClaim := { program := "ytbkolnbdcifnlaa", sum := "717ff6fb96d4a77d05592df07102c1f79446273fa0ace9f3ea7495fff26ac091", func := "loop.example/g00914/laws.FnExactLongestDown", spec := "fnExactLongestDown", apart := false, narrowed := true }
def FnExactLongestDownUptoSaid : Prop := fnExactLongestDownUptoRow.holds Try.pinned (OpenSpec.upto fnExactLongestDownSpec)

/-- 'laws.FnExactRowBalances', WHERE WHAT IT READS IS OF BULK AT MOST 1048576: true; the input reads as it did. -/
def fnExactRowBalancesUptoRow : OpenClaim := { program := "ytbkolnbdcifnlaa", sum := "717ff6fb96d4a77d05592df07102c1f79446273fa0ace9f3ea7495fff26ac091", func := "loop.example/g00914/laws.FnExactRowBalances", spec := "fnExactRowBalances", apart := false, narrowed := true }
def FnExactRowBalancesUptoSaid : Prop := fnExactRowBalancesUptoRow.holds Try.pinned (OpenSpec.upto fnExactRowBalancesSpec)

/-- 'laws.FnExactBlockOfHole', WHERE WHAT IT READS IS OF BULK AT MOST 1048576: true; the input reads as it did. -/
def fnExactBlockOfHoleUptoRow : OpenClaim := { program := "ytbkolnbdcifnlaa", sum := "717ff6fb96d4a77d05592df07102c1f79446273fa0ace9f3ea7495fff26ac091", func := "loop.example/g00914/laws.FnExactBlockOfHole", spec := "fnExactBlockOfHole", apart := false, narrowed := true }
def FnExactBlockOfHoleUptoSaid : Prop := fnExactBlockOfHoleUptoRow.holds Try.pinned (OpenSpec.upto fnExactBlockOfHoleSpec)

/-- 'laws.FnExactMixOf', WHERE WHAT IT READS IS OF BULK AT MOST 1048576: true; the input reads as it did. -/
def fnExactMixOfUptoRow : OpenClaim := { program := "ytbkolnbdcifnlaa", sum := "717ff6fb96d4a77d05592df07102c1f79446273fa0ace9f3ea7495fff26ac091", func := "loop.example/g00914/laws.FnExactMixOf", spec := "fnExactMixOf", apart := false, narrowed := true }
def FnExactMixOfUptoSaid : Prop := fnExactMixOfUptoRow.holds Try.pinned (OpenSpec.upto fnExactMixOfSpec)

/-- 'laws.FnExactReadyChance', WHERE WHAT IT READS IS OF BULK AT MOST 1048576: true; the input reads as it did. -/
def fnExactReadyChanceUptoRow : OpenClaim := { program := "ytbkolnbdcifnlaa", sum := "717ff6fb96d4a77d05592df07102c1f79446273fa0ace9f3ea7495fff26ac091", func := "loop.example/g00914/laws.FnExactReadyChance", spec := "fnExactReadyChance", apart := false, narrowed := true }
def FnExactReadyChanceUptoSaid : Prop := fnExactReadyChanceUptoRow.holds Try.pinned (OpenSpec.upto fnExactReadyChanceSpec)

/-- 'laws.FnEstimates', WHERE WHAT IT READS IS OF BULK AT MOST 1048576: true; the input reads as it did. -/
def fnEstimatesUptoRow : OpenClaim := { program := "ytbkolnbdcifnlaa", sum := "717ff6fb96d4a77d05592df07102c1f79446273fa0ace9f3ea7495fff26ac091", func := "loop.example/g00914/laws.FnEstimates", spec := "fnEstimates", apart := false, narrowed := true }
def FnEstimatesUptoSaid : Prop := fnEstimatesUptoRow.holds Try.pinned (OpenSpec.upto fnEstimatesSpec)

/-- 'laws.FnExactNumberFor', WHERE WHAT IT READS IS OF BULK AT MOST 1048576: true; the input reads as it did. -/
def fnExactNumberForUptoRow : OpenClaim := { program := "ytbkolnbdcifnlaa", sum := "717ff6fb96d4a77d05592df07102c1f79446273fa0ace9f3ea7495fff26ac091", func := "loop.example/g00914/laws.FnExactNumberFor", spec := "fnExactNumberFor", apart := false, narrowed := true }
def FnExactNumberForUptoSaid : Prop := fnExactNumberForUptoRow.holds Try.pinned (OpenSpec.upto fnExactNumberForSpec)

/-- 'laws.FnExactIsBench', WHERE WHAT IT READS IS OF BULK AT MOST 1048576: true; the input reads as it did. -/
def fnExactIsBenchUptoRow : OpenClaim := { program := "ytbkolnbdcifnlaa", sum := "717ff6fb96d4a77d05592df07102c1f79446273fa0ace9f3ea7495fff26ac091", func := "loop.example/g00914/laws.FnExactIsBench", spec := "fnExactIsBench", apart := false, narrowed := true }
def FnExactIsBenchUptoSaid : Prop := fnExactIsBenchUptoRow.holds Try.pinned (OpenSpec.upto fnExactIsBenchSpec)

/-- 'laws.FnExactMeanReady', WHERE WHAT IT READS IS OF BULK AT MOST 1048576: true; the input reads as it did. -/
def fnExactMeanReadyUptoRow : OpenClaim := { program := "ytbkolnbdcifnlaa", sum := "717ff6fb96d4a77d05592df07102c1f79446273fa0ace9f3ea7495fff26ac091", func := "loop.example/g00914/laws.FnExactMeanReady", spec := "fnExactMeanReady", apart := false, narrowed := true }
def FnExactMeanReadyUptoSaid : Prop := fnExactMeanReadyUptoRow.holds Try.pinned (OpenSpec.upto fnExactMeanReadySpec)

/-- 'laws.FnExactWithCalendar', WHERE WHAT IT READS IS OF BULK AT MOST 1048576: true; the input reads as it did. -/
def fnExactWithCalendarUptoRow : OpenClaim := { program := "ytbkolnbdcifnlaa", sum := "717ff6fb96d4a77d05592df07102c1f79446273fa0ace9f3ea7495fff26ac091", func := "loop.example/g00914/laws.FnExactWithCalendar", spec := "fnExactWithCalendar", apart := false, narrowed := true }
def FnExactWithCalendarUptoSaid : Prop := fnExactWithCalendarUptoRow.holds Try.pinned (OpenSpec.upto fnExactWithCalendarSpec)

/-- 'laws.FnExactAreHoles', WHERE WHAT IT READS IS OF BULK AT MOST 1048576: true; the input reads as it did. -/
def fnExactAreHolesUptoRow : OpenClaim := { program := "ytbkolnbdcifnlaa", sum := "717ff6fb96d4a77d05592df07102c1f79446273fa0ace9f3ea7495fff26ac091", func := "loop.example/g00914/laws.FnExactAreHoles", spec := "fnExactAreHoles", apart := false, narrowed := true }
def FnExactAreHolesUptoSaid : Prop := fnExactAreHolesUptoRow.holds Try.pinned (OpenSpec.upto fnExactAreHolesSpec)

end Rows
end Go.Proofs.Ytbkolnbdcifnlaa
