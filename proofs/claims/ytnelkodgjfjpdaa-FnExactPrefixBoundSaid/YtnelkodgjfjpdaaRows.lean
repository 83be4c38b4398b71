/-
  No cell of these rows narrows 'for every input' (looked for: loops, veiled, ifaces, maps, wideKeys, modest, calm, conditions, laid).
  DERIVED. THE GIVEN ROWS OF THIS SEAT. 12 by the template 'for every input the law returns true; each argument reads behind the call as it read before'; 0 by the template 'total and deterministic' (their statements: YtnelkodgjfjpdaaTotals.lean).
  GIVEN WITH THE SEED: the statements are not yours to turn. If you find one false, say at which input.
  Laid BY PROGRAM, IN A SANDBOX (cutbox-rows.mjs): the forced cells as the released guide's own fill.sh prints them over the translation b7a71ff677fad632… (all of the seat's roots in one cut). By AI agents, Wed Nov 11 2026. No macro, syntax, notation, axiom, sorry.
-/
import Derived.Test.YtnelkodgjfjpdaaChecked
import GoSem.Claim
import GoSem.ClaimJoined
import GoSem.ClaimMapViews
import Derived.JoinedTies
import Derived.KernelRfl
namespace Go.Proofs.Ytnelkodgjfjpdaa
/- THE CELL 'sum', in the pinned program and in every row, IS THE sha256 OF THE DUMP (.gsa) THAT YtnelkodgjfjpdaaProg.lean LOADS. Nothing in Lean hashes anything: it is a label: what it is worth is what the hold of that sum in a sandbox is worth. -/
noncomputable def Try.pinned : Pinned := { name := "ytnelkodgjfjpdaa", sum := "b7a71ff677fad632991fc1ee7184eb85ccb8d887ec47f1e34c986a0444ad2ba2", checked := Try.checked }
namespace Rows
def none {H : Type} : Left H := { results := [], args := [] }

/-- 'laws.FnExactLongestStair': WHATEVER THE INPUT: true; the input reads as it did. -/
def fnExactLongestStairSpec : ChangeSpec := { name := "fnExactLongestStair", fn := fun _ => fun
  | [d1, d2] => { results := [.lit (.bool true)], args := [d1, d2] }
  | _ => none }
def fnExactLongestStairRow : OpenClaim := { program := "ytnelkodgjfjpdaa", sum := "b7a71ff677fad632991fc1ee7184eb85ccb8d887ec47f1e34c986a0444ad2ba2", func := "loop.example/g01103/laws.FnExactLongestStair", spec := "fnExactLongestStair", recurses := true, apart := false }
def FnExactLongestStairSaid : Prop := fnExactLongestStairRow.holds Try.pinned (OpenSpec.ofChange fnExactLongestStairSpec)

/-- ITS FALSE NEIGHBOUR: 'it returns false'. Refute it at one input. -/
def fnExactLongestStairWrong : ChangeSpec := { name := "fnExactLongestStair", fn := fun _ => fun
  | [d1, d2] => { results := [.lit (.bool false)], args := [d1, d2] }
  | _ => none }
def FnExactLongestStairWrongFalsely : Prop := fnExactLongestStairRow.holds Try.pinned (OpenSpec.ofChange fnExactLongestStairWrong)

/-- 'laws.FnExactPrefixBound': WHATEVER THE INPUT: true; the input reads as it did. -/
def fnExactPrefixBoundSpec : ChangeSpec := { name := "fnExactPrefixBound", fn := fun _ => fun
  | [d1, d2, d3] => { results := [.lit (.bool true)], args := [d1, d2, d3] }
  | _ => none }
def fnExactPrefixBoundRow : OpenClaim := { program := "ytnelkodgjfjpdaa", sum := "b7a71ff677fad632991fc1ee7184eb85ccb8d887ec47f1e34c986a0444ad2ba2", func := "loop.example/g01103/laws.FnExactPrefixBound", spec := "fnExactPrefixBound", apart := false }
def FnExactPrefixBoundSaid : Prop := fnExactPrefixBoundRow.holds Try.pinned (OpenSpec.ofChange fnExactPrefixBoundSpec)

/-- ITS FALSE NEIGHBOUR: 'it returns false'. Refute it at one input. -/
def fnExactPrefixBoundWrong : ChangeSpec := { name := "fnExactPrefixBound", fn := fun _ => fun
  | [d1, d2, d3] => { results := [.lit (.bool false)], args := [d1, d2, d3] }
  | _ => none }
def FnExactPrefixBoundWrongFalsely : Prop := fnExactPrefixBoundRow.holds Try.pinned (OpenSpec.ofChange fnExactPrefixBoundWrong)

/-- 'laws.FnExactIsSelection': WHATEVER THE INPUT: true; the input reads as it did. -/
def fnExactIsSelectionSpec : ChangeSpec := { name := "fnExactIsSelection", fn := fun _ => fun
  | [d1, d2] => { results := [.lit (.bool true)], args := [d1, d2] }
  | _ => none }
def fnExactIsSelectionRow : OpenClaim := { program := "ytnelkodgjfjpdaa", sum := "b7a71ff677fad632991fc1ee7184eb85ccb8d887ec47f1e34c986a0444ad2ba2", func := "loop.example/g01103/laws.FnExactIsSelection", spec := "fnExactIsSelection", unfollowed := true, recurses := true, apart := false }
def FnExactIsSelectionSaid : Prop := fnExactIsSelectionRow.holds Try.pinned (OpenSpec.ofChange fnExactIsSelectionSpec)

/-- ITS FALSE NEIGHBOUR: 'it returns false'. Refute it at one input. -/
def fnExactIsSelectionWrong : ChangeSpec := { name := "fnExactIsSelection", fn := fun _ => fun
  | [d1, d2] => { results := [.lit (.bool false)], args := [d1, d2] }
  | _ => none }
def FnExactIsSelectionWrongFalsely : Prop := fnExactIsSelectionRow.holds Try.pinned (OpenSpec.ofChange fnExactIsSelectionWrong)

/-- 'laws.FnExactUnitCircuit': WHATEVER THE INPUT: true; the input reads as it did. -/
def fnExactUnitCircuitSpec : ChangeSpec := { name := "fnExactUnitCircuit", fn := fun _ => fun
  | [d1, d2, d3] => { results := [.lit (.bool true)], args := [d1, d2, d3] }
  | _ => none }
def fnExactUnitCircuitRow : OpenClaim := { program := "ytnelkodgjfjpdaa", sum := "b7a71ff677fad632991fc1ee7184eb85ccb8d887ec47f1e34c986a0444ad2ba2", func := "loop.example/g01103/laws.FnExactUnitCircuit", spec := "fnExactUnitCircuit", unfollowed := true, recurses := true, apart := false }
def FnExactUnitCircuitSaid : Prop := fnExactUnitCircuitRow.holds Try.pinned (OpenSpec.ofChange fnExactUnitCircuitSpec)

/-- ITS FALSE NEIGHBOUR: 'it returns false'. Refute it at one input. -/
def fnExactUnitCircuitWrong : ChangeSpec := { name := "fnExactUnitCircuit", fn := fun _ => fun
  | [d1, d2, d3] => { results := [.lit (.bool false)], args := [d1, d2, d3] }
  | _ => none }
def FnExactUnitCircuitWrongFalsely : Prop := fnExactUnitCircuitRow.holds Try.pinned (OpenSpec.ofChange fnExactUnitCircuitWrong)

/-- 'laws.FnExactNewConsole': WHATEVER THE INPUT: true; the input reads as it did. -/
def fnExactNewConsoleSpec : ChangeSpec := { name := "fnExactNewConsole", fn := fun _ => fun
  | [d] => { results := [.lit (.bool true)], args := [d] }
  | _ => none }
def fnExactNewConsoleRow : OpenClaim := { program := "ytnelkodgjfjpdaa", sum := "b7a71ff677fad632991fc1ee7184eb85ccb8d887ec47f1e34c986a0444ad2ba2", func := "loop.example/g01103/laws.FnExactNewConsole", spec := "fnExactNewConsole", apart := false }
def FnExactNewConsoleSaid : Prop := fnExactNewConsoleRow.holds Try.pinned (OpenSpec.ofChange fnExactNewConsoleSpec)

/-- ITS FALSE NEIGHBOUR: 'it returns false'. Refute it at one input. -/
def fnExactNewConsoleWrong : ChangeSpec := { name := "fnExactNewConsole", fn := fun _ => fun
  | [d] => { results := [.lit (.bool false)], args := [d] }
  | _ => none }
def FnExactNewConsoleWrongFalsely : Prop := fnExactNewConsoleRow.holds Try.pinned (OpenSpec.ofChange fnExactNewConsoleWrong)

/-- 'laws.FnExactExchangeDown': WHATEVER THE INPUT: true; the input reads as it did. -/
def fnExactExchangeDownSpec : ChangeSpec := { name := "fnExactExchangeDown", fn := fun _ => fun
  | [d1, d2, d3] => { results := [.lit (.bool true)], args := [d1, d2, d3] }
  | _ => none }
def fnExactExchangeDownRow : OpenClaim := { program := "ytnelkodgjfjpdaa", sum := "b7a71ff677fad632991fc1ee7184eb85ccb8d887ec47f1e34c986a0444ad2ba2", func := "loop.example/g01103/laws.FnExactExchangeDown", spec := "fnExactExchangeDown", apart := false }
def FnExactExchangeDownSaid : Prop := fnExactExchangeDownRow.holds Try.pinned (OpenSpec.ofChange fnExactExchangeDownSpec)

/-- ITS FALSE NEIGHBOUR: 'it returns false'. Refute it at one input. -/
def fnExactExchangeDownWrong : ChangeSpec := { name := "fnExactExchangeDown", fn := fun _ => fun
  | [d1, d2, d3] => { results := [.lit (.bool false)], args := [d1, d2, d3] }
  | _ => none }
def FnExactExchangeDownWrongFalsely : Prop := fnExactExchangeDownRow.holds Try.pinned (OpenSpec.ofChange fnExactExchangeDownWrong)

/-- 'laws.FnExactIsBestOrder': WHATEVER THE INPUT: true; the input reads as it did. -/
def fnExactIsBestOrderSpec : ChangeSpec := { name := "fnExactIsBestOrder", fn := fun _ => fun
  | [d1, d2, d3] => { results := [.lit (.bool true)], args := [d1, d2, d3] }
  | _ => none }
def fnExactIsBestOrderRow : OpenClaim := { program := "ytnelkodgjfjpdaa", sum := "b7a71ff677fad632991fc1ee7184eb85ccb8d887ec47f1e34c986a0444ad2ba2", func := "loop.example/g01103/laws.FnExactIsBestOrder", spec := "fnExactIsBestOrder", unfollowed := true, recurses := true, apart := false }
def FnExactIsBestOrderSaid : Prop := fnExactIsBestOrderRow.holds Try.pinned (OpenSpec.ofChange fnExactIsBestOrderSpec)

/-- ITS FALSE NEIGHBOUR: 'it returns false'. Refute it at one input. -/
def fnExactIsBestOrderWrong : ChangeSpec := { name := "fnExactIsBestOrder", fn := fun _ => fun
  | [d1, d2, d3] => { results := [.lit (.bool false)], args := [d1, d2, d3] }
  | _ => none }
def FnExactIsBestOrderWrongFalsely : Prop := fnExactIsBestOrderRow.holds Try.pinned (OpenSpec.ofChange fnExactIsBestOrderWrong)

/-- 'laws.FnExactOneMachineBound': WHATEVER THE INPUT: true; the input reads as it did. -/
def fnExactOneMachineBoundSpec : ChangeSpec := { name := "fnExactOneMachineBound", fn := fun _ => fun
  | [d1, d2] => { results := [.lit (.bool true)], args := [d1, d2] }
  | _ => none }
def fnExactOneMachineBoundRow : OpenClaim := { program := "ytnelkodgjfjpdaa", sum := "b7a71ff677fad632991fc1ee7184eb85ccb8d887ec47f1e34c986a0444ad2ba2", func := "loop.example/g01103/laws.FnExactOneMachineBound", spec := "fnExactOneMachineBound", apart := false }
def FnExactOneMachineBoundSaid : Prop := fnExactOneMachineBoundRow.holds Try.pinned (OpenSpec.ofChange fnExactOneMachineBoundSpec)

/-- ITS FALSE NEIGHBOUR: 'it returns false'. Refute it at one input. -/
def fnExactOneMachineBoundWrong : ChangeSpec := { name := "fnExactOneMachineBound", fn := fun _ => fun
  | [d1, d2] => { results := [.lit (.bool false)], args := [d1, d2] }
  | _ => none }
def FnExactOneMachineBoundWrongFalsely : Prop := fnExactOneMachineBoundRow.holds Try.pinned (OpenSpec.ofChange fnExactOneMachineBoundWrong)

/-- 'laws.FnExactScenarioValues': WHATEVER THE INPUT: true; the input reads as it did. -/
def fnExactScenarioValuesSpec : ChangeSpec := { name := "fnExactScenarioValues", fn := fun _ => fun
  | [d1, d2, d3] => { results := [.lit (.bool true)], args := [d1, d2, d3] }
  | _ => none }
def fnExactScenarioValuesRow : OpenClaim := { program := "ytnelkodgjfjpdaa", sum := "b7a71ff677fad632991fc1ee7184eb85ccb8d887ec47f1e34c986a0444ad2ba2", func := "loop.example/g01103/laws.FnExactScenarioValues", spec := "fnExactScenarioValues", apart := false }
def FnExactScenarioValuesSaid : Prop := fnExactScenarioValuesRow.holds Try.pinned (OpenSpec.ofChange fnExactScenarioValuesSpec)

/-- ITS FALSE NEIGHBOUR: 'it returns false'. Refute it at one input. -/
def fnExactScenarioValuesWrong : ChangeSpec := { name := "fnExactScenarioValues", fn := fun _ => fun
  | [d1, d2, d3] => { results := [.lit (.bool false)], args := [d1, d2, d3] }
  | _ => none }
def FnExactScenarioValuesWrongFalsely : Prop := fnExactScenarioValuesRow.holds Try.pinned (OpenSpec.ofChange fnExactScenarioValuesWrong)

/-- 'laws.FnLogs': WHATEVER THE INPUT: true; the input reads as it did. -/
def fnLogsSpec : ChangeSpec := { name := "fnLogs", fn := fun _ => fun
  | [d] => { results := [.lit (.bool true)], args := [d] }
  | _ => none }
def fnLogsRow : OpenClaim := { program := "ytnelkodgjfjpdaa", sum := "b7a71ff677fad632991fc1ee7184eb85ccb8d887ec47f1e34c986a0444ad2ba2", func := "loop.example/g01103/laws.FnLogs", spec := "fnLogs", recurses := true, apart := false }
def FnLogsSaid : Prop := fnLogsRow.holds Try.pinned (OpenSpec.ofChange fnLogsSpec)

/-- ITS FALSE NEIGHBOUR: 'it returns false'. Refute it at one input. -/
def fnLogsWrong : ChangeSpec := { name := "fnLogs", fn := fun _ => fun
  | [d] => { results := [.lit (.bool false)], args := [d] }
  | _ => none }
def FnLogsWrongFalsely : Prop := fnLogsRow.holds Try.pinned (OpenSpec.ofChange fnLogsWrong)

/-- 'laws.FnExactArcsBound': WHATEVER THE INPUT: true; the input reads as it did. -/
def fnExactArcsBoundSpec : ChangeSpec := { name := "fnExactArcsBound", fn := fun _ => fun
  | [d1, d2] => { results := [.lit (.bool true)], args := [d1, d2] }
  | _ => none }
def fnExactArcsBoundRow : OpenClaim := { program := "ytnelkodgjfjpdaa", sum := "b7a71ff677fad632991fc1ee7184eb85ccb8d887ec47f1e34c986a0444ad2ba2", func := "loop.example/g01103/laws.FnExactArcsBound", spec := "fnExactArcsBound", apart := false }
def FnExactArcsBoundSaid : Prop := fnExactArcsBoundRow.holds Try.pinned (OpenSpec.ofChange fnExactArcsBoundSpec)

/-- ITS FALSE NEIGHBOUR: 'it returns false'. Refute it at one input. -/
def fnExactArcsBoundWrong : ChangeSpec := { name := "fnExactArcsBound", fn := fun _ => fun
  | [d1, d2] => { results := [.lit (.bool false)], args := [d1, d2] }
  | _ => none }
def FnExactArcsBoundWrongFalsely : Prop := fnExactArcsBoundRow.holds Try.pinned (OpenSpec.ofChange fnExactArcsBoundWrong)

/-- 'laws.FnCrashes': WHATEVER THE INPUT: true; the input reads as it did. -/
def fnCrashesSpec : ChangeSpec := { name := "fnCrashes", fn := fun _ => fun
  | [d] => { results := [.lit (.bool true)], args := [d] }
  | _ => none }
def fnCrashesRow : OpenClaim := { program := "ytnelkodgjfjpdaa", sum := "b7a71ff677fad632991fc1ee7184eb85ccb8d887ec47f1e34c986a0444ad2ba2", func := "loop.example/g01103/laws.FnCrashes", spec := "fnCrashes", recurses := true, apart := false }
def FnCrashesSaid : Prop := fnCrashesRow.holds Try.pinned (OpenSpec.ofChange fnCrashesSpec)

/-- ITS FALSE NEIGHBOUR: 'it returns false'. Refute it at one input. -/
def fnCrashesWrong : ChangeSpec := { name := "fnCrashes", fn := fun _ => fun
  | [d] => { results := [.lit (.bool false)], args := [d] }
  | _ => none }
def FnCrashesWrongFalsely : Prop := fnCrashesRow.holds Try.pinned (OpenSpec.ofChange fnCrashesWrong)

/- THE SECOND FORM. 'bulk': how many values and letters a reading holds, each counted each time it is reached (what is shared counts as often as it is met; a slice's spare places count too). A statement '..UptoSaid' is the law's where the arguments, and the package variables that the reading takes, are together of bulk at most 1048576: NARROWER than '..Said'. Prove '..Said' where nothing that the law and all that it calls make is longer than what came in: it says more and counts as full. Else prove '..UptoSaid'. A law counts once. -/
mutual
def uptoBulk {H : Type} : DataW H → Nat
  | .lit (.string bytes) => bytes.length + 1
  | .lit _ => 1
  | .nil => 1
  | .ptr d => uptoBulk d + 1
  | .slice elems spare => uptoBulkAll elems + uptoBulkAll spare + 1
  | .agg parts => uptoBulkAll parts + 1
  | .iface _ d => uptoBulk d + 1
  | .map entries => uptoBulkEntries entries + 1
  | .held _ => 1
def uptoBulkAll {H : Type} : List (DataW H) → Nat
  | [] => 0
  | d :: r => uptoBulk d + uptoBulkAll r
def uptoBulkEntries {H : Type} : List (Lit × DataW H) → Nat
  | [] => 0
  | x :: r => uptoBulkEntry x + uptoBulkEntries r
def uptoBulkEntry {H : Type} : Lit × DataW H → Nat
  | (.string bytes, d) => bytes.length + uptoBulk d + 1
  | (_, d) => uptoBulk d + 1
 end
def uptoSmall : (H : Type) → List (DataW H) → Bool := fun _ ds => decide (uptoBulkAll ds ≤ 1048576)
def OpenSpec.upto (s : _root_.Go.ChangeSpec) : _root_.Go.OpenSpec := { _root_.Go.OpenSpec.ofChange s with cond := some uptoSmall }

/-- 'laws.FnExactLongestStair', WHERE WHAT IT READS IS OF BULK AT MOST 1048576: true; the input reads as it did. -/
def fnExactLongestStairUptoRow : OpenClaim := { program := "ytnelkodgjfjpdaa", sum := "b7a71ff677fad632991fc1ee7184eb85ccb8d887ec47f1e34c986a0444ad2ba2", func := "loop.example/g01103/laws.FnExactLongestStair", spec := "fnExactLongestStair", recurses := true, apart := false, narrowed := true }
def FnExactLongestStairUptoSaid : Prop := fnExactLongestStairUptoRow.holds Try.pinned (OpenSpec.upto fnExactLongestStairSpec)

/-- 'laws.FnExactPrefixBound', WHERE WHAT IT READS IS OF BULK AT MOST 1048576: true; the input reads as it did. -/
def fnExactPrefixBoundUptoRow : OpenClaim := { program := "ytnelkodgjfjpdaa", sum := "b7a71ff677fad632991fc1ee7184eb85ccb8d887ec47f1e34c986a0444ad2ba2", func := "loop.example/g01103/laws.FnExactPrefixBound", spec := "fnExactPrefixBound", apart := false, narrowed := true }
def FnExactPrefixBoundUptoSaid : Prop := fnExactPrefixBoundUptoRow.holds Try.pinned (OpenSpec.upto fnExactPrefixBoundSpec)

/-- 'laws.FnExactIsSelection', WHERE WHAT IT READS IS OF BULK AT MOST 1048576: true; the input reads as it did. -/
def fnExactIsSelectionUptoRow : OpenClaim := { program := "ytnelkodgjfjpdaa", sum := "b7a71ff677fad632991fc1ee7184eb85ccb8d887ec47f1e34c986a0444ad2ba2", func := "loop.example/g01103/laws.FnExactIsSelection", spec := "fnExactIsSelection", unfollowed := true, recurses := true, apart := false, narrowed := true }
def FnExactIsSelectionUptoSaid : Prop := fnExactIsSelectionUptoRow.holds Try.pinned (OpenSpec.upto fnExactIsSelectionSpec)

/-- 'laws.FnExactUnitCircuit', WHERE WHAT IT READS IS OF BULK AT MOST 1048576: true; the input reads as it did. -/
def fnExactUnitCircuitUptoRow : OpenClaim := { program := "ytnelkodgjfjpdaa", sum := "b7a71ff677fad632991fc1ee7184eb85ccb8d887ec47f1e34c986a0444ad2ba2", func := "loop.example/g01103/laws.FnExactUnitCircuit", spec := "fnExactUnitCircuit", unfollowed := true, recurses := true, apart := false, narrowed := true }
def FnExactUnitCircuitUptoSaid : Prop := fnExactUnitCircuitUptoRow.holds Try.pinned (OpenSpec.upto fnExactUnitCircuitSpec)

/-- 'laws.FnExactNewConsole', WHERE WHAT IT READS IS OF BULK AT MOST 1048576: true; the input reads as it did. -/
def fnExactNewConsoleUptoRow : OpenClaim := { program := "ytnelkodgjfjpdaa", sum := "b7a71ff677fad632991fc1ee7184eb85ccb8d887ec47f1e34c986a0444ad2ba2", func := "loop.example/g01103/laws.FnExactNewConsole", spec := "fnExactNewConsole", apart := false, narrowed := true }
def FnExactNewConsoleUptoSaid : Prop := fnExactNewConsoleUptoRow.holds Try.pinned (OpenSpec.upto fnExactNewConsoleSpec)

/-- 'laws.FnExactExchangeDown', WHERE WHAT IT READS IS OF BULK AT MOST 1048576: true; the input reads as it did. -/
def fnExactExchangeDownUptoRow : OpenClaim := { program := "ytnelkodgjfjpdaa", sum := "b7a71ff677fad632991fc1ee7184eb85ccb8d887ec47f1e34c986a0444ad2ba2", func := "loop.example/g01103/laws.FnExactExchangeDown", spec := "fnExactExchangeDown", apart := false, narrowed := true }
def FnExactExchangeDownUptoSaid : Prop := fnExactExchangeDownUptoRow.holds Try.pinned (OpenSpec.upto fnExactExchangeDownSpec)

/-- 'laws.FnExactIsBestOrder', WHERE WHAT IT READS IS OF BULK AT MOST 1048576: true; the input reads as it did. -/
def fnExactIsBestOrderUptoRow : OpenClaim := { program := "ytnelkodgjfjpdaa", sum := "b7a71ff677fad632991fc1ee7184eb85ccb8d887ec47f1e34c986a0444ad2ba2", func := "loop.example/g01103/laws.FnExactIsBestOrder", spec := "fnExactIsBestOrder", unfollowed := true, recurses := true, apart := false, narrowed := true }
def FnExactIsBestOrderUptoSaid : Prop := fnExactIsBestOrderUptoRow.holds Try.pinned (OpenSpec.upto fnExactIsBestOrderSpec)

/-- 'laws.FnExactOneMachineBound', WHERE WHAT IT READS IS OF BULK AT MOST 1048576: true; the input reads as it did. -/
def fnExactOneMachineBoundUptoRow : OpenClaim := { program := "ytnelkodgjfjpdaa", sum := "b7a71ff677fad632991fc1ee7184eb85ccb8d887ec47f1e34c986a0444ad2ba2", func := "loop.example/g01103/laws.FnExactOneMachineBound", spec := "fnExactOneMachineBound", apart := false, narrowed := true }
def FnExactOneMachineBoundUptoSaid : Prop := fnExactOneMachineBoundUptoRow.holds Try.pinned (OpenSpec.upto fnExactOneMachineBoundSpec)

/-- 'laws.FnExactScenarioValues', WHERE WHAT IT READS IS OF BULK AT MOST 1048576: true; the input reads as it did. -/
def fnExactScenarioValuesUptoRow : OpenClaim := { program := "ytnelkodgjfjpdaa", sum := "b7a71ff677fad632991fc1ee7184eb85ccb8d887ec47f1e34c986a0444ad2ba2", func := "loop.example/g01103/laws.FnExactScenarioValues", spec := "fnExactScenarioValues", apart := false, narrowed := true }
def FnExactScenarioValuesUptoSaid : Prop := fnExactScenarioValuesUptoRow.holds Try.pinned (OpenSpec.upto fnExactScenarioValuesSpec)

/-- 'laws.FnLogs', WHERE WHAT IT READS IS OF BULK AT MOST 1048576: true; the input reads as it did. -/
def fnLogsUptoRow : OpenClaim := { program := "ytnelkodgjfjpdaa", sum := "b7a71ff677fad632991fc1ee7184eb85ccb8d887ec47f1e34c986a0444ad2ba2", func := "loop.example/g01103/laws.FnLogs", spec := "fnLogs", recurses := true, apart := false, narrowed := true }
def FnLogsUptoSaid : Prop := fnLogsUptoRow.holds Try.pinned (OpenSpec.upto fnLogsSpec)

/-- 'laws.FnExactArcsBound', WHERE WHAT IT READS IS OF BULK AT MOST 1048576: true; the input reads as it did. -/
def fnExactArcsBoundUptoRow : OpenClaim := { program := "ytnelkodgjfjpdaa", sum := "b7a71ff677fad632991fc1ee7184eb85ccb8d887ec47f1e34c986a0444ad2ba2", func := "loop.example/g01103/laws.FnExactArcsBound", spec := "fnExactArcsBound", apart := false, narrowed := true }
def FnExactArcsBoundUptoSaid : Prop := fnExactArcsBoundUptoRow.holds Try.pinned (OpenSpec.upto fnExactArcsBoundSpec)

/-- 'laws.FnCrashes', WHERE WHAT IT READS IS OF BULK AT MOST 1048576: true; the input reads as it did. -/
def fnCrashesUptoRow : OpenClaim := { program := "ytnelkodgjfjpdaa", sum := "b7a71ff677fad632991fc1ee7184eb85ccb8d887ec47f1e34c986a0444ad2ba2", func := "loop.example/g01103/laws.FnCrashes", spec := "fnCrashes", recurses := true, apart := false, narrowed := true }
def FnCrashesUptoSaid : Prop := fnCrashesUptoRow.holds Try.pinned (OpenSpec.upto fnCrashesSpec)

end Rows
end Go.Proofs.Ytnelkodgjfjpdaa
