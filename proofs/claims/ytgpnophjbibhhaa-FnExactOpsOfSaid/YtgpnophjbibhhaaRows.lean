/-
  No cell of these rows narrows 'for every input' (looked for: loops, veiled, ifaces, maps, wideKeys, modest, calm, conditions, laid).
  DERIVED. THE GIVEN ROWS OF THIS SEAT. 12 by the template 'for every input the law returns true; each argument reads behind the call as it read before'; 0 by the template 'total and deterministic' (their statements: YtgpnophjbibhhaaTotals.lean).
  GIVEN WITH THE SEED: the statements are not yours to turn. If you find one false, say at which input.
  Laid BY PROGRAM, IN A SANDBOX (cutbox-rows.mjs): the forced cells as the released guide's own fill.sh prints them over the translation 8ac3fd12930828cb… (all of the seat's roots in one cut). By AI agents, Wed Nov 11 2026. No macro, syntax, notation, axiom, sorry.
-/
import Derived.Test.YtgpnophjbibhhaaChecked
import GoSem.Claim
import GoSem.ClaimJoined
import GoSem.ClaimMapViews
import Derived.JoinedTies
import Derived.KernelRfl
namespace Go.Proofs.Ytgpnophjbibhhaa
/- THE CELL 'sum', in the pinned program and in every row, IS THE sha256 OF THE DUMP (.gsa) THAT YtgpnophjbibhhaaProg.lean LOADS. Nothing in Lean hashes anything: it is a label: what it is worth is what the hold of that sum in a sandbox is worth. -/
noncomputable def Try.pinned : Pinned := { name := "ytgpnophjbibhhaa", sum := "8ac3fd12930828cb072158247a9dfb74c20fe4b2e679d5075ea90a76bfba23ff", checked := Try.checked }
namespace Rows
def none {H : Type} : Left H := { results := [], args := [] }

/-- 'laws.FnExactPairLoss': WHATEVER THE INPUT: true; the input reads as it did. -/
def fnExactPairLossSpec : ChangeSpec := { name := "fnExactPairLoss", fn := fun _ => fun
  | [d1, d2] => { results := [.lit (.bool true)], args := [d1, d2] }
  | _ => none }
def fnExactPairLossRow : OpenClaim := { program := "ytgpnophjbibhhaa", sum := "8ac3fd12930828cb072158247a9dfb74c20fe4b2e679d5075ea90a76bfba23ff", func := "loop.example/g01103/laws.FnExactPairLoss", spec := "fnExactPairLoss", apart := false }
def FnExactPairLossSaid : Prop := fnExactPairLossRow.holds Try.pinned (OpenSpec.ofChange fnExactPairLossSpec)

/-- ITS FALSE NEIGHBOUR: 'it returns false'. Refute it at one input. -/
def fnExactPairLossWrong : ChangeSpec := { name := "fnExactPairLoss", fn := fun _ => fun
  | [d1, d2] => { results := [.lit (.bool false)], args := [d1, d2] }
  | _ => none }
def FnExactPairLossWrongFalsely : Prop := fnExactPairLossRow.holds Try.pinned (OpenSpec.ofChange fnExactPairLossWrong)

/-- 'laws.FnExactBlockingJob': WHATEVER THE INPUT: true; the input reads as it did. -/
def fnExactBlockingJobSpec : ChangeSpec := { name := "fnExactBlockingJob", fn := fun _ => fun
  | [d] => { results := [.lit (.bool true)], args := [d] }
  | _ => none }
def fnExactBlockingJobRow : OpenClaim := { program := "ytgpnophjbibhhaa", sum := "8ac3fd12930828cb072158247a9dfb74c20fe4b2e679d5075ea90a76bfba23ff", func := "loop.example/g01103/laws.FnExactBlockingJob", spec := "fnExactBlockingJob", apart := false }
def FnExactBlockingJobSaid : Prop := fnExactBlockingJobRow.holds Try.pinned (OpenSpec.ofChange fnExactBlockingJobSpec)

/-- ITS FALSE NEIGHBOUR: 'it returns false'. Refute it at one input. -/
def fnExactBlockingJobWrong : ChangeSpec := { name := "fnExactBlockingJob", fn := fun _ => fun
  | [d] => { results := [.lit (.bool false)], args := [d] }
  | _ => none }
def FnExactBlockingJobWrongFalsely : Prop := fnExactBlockingJobRow.holds Try.pinned (OpenSpec.ofChange fnExactBlockingJobWrong)

/-- 'laws.FnExactBlocksOf': WHATEVER THE INPUT: true; the input reads as it did. -/
def fnExactBlocksOfSpec : ChangeSpec := { name := "fnExactBlocksOf", fn := fun _ => fun
  | [d1, d2] => { results := [.lit (.bool true)], args := [d1, d2] }
  | _ => none }
def fnExactBlocksOfRow : OpenClaim := { program := "ytgpnophjbibhhaa", sum := "8ac3fd12930828cb072158247a9dfb74c20fe4b2e679d5075ea90a76bfba23ff", func := "loop.example/g01103/laws.FnExactBlocksOf", spec := "fnExactBlocksOf", apart := false }
def FnExactBlocksOfSaid : Prop := fnExactBlocksOfRow.holds Try.pinned (OpenSpec.ofChange fnExactBlocksOfSpec)

/-- ITS FALSE NEIGHBOUR: 'it returns false'. Refute it at one input. -/
def fnExactBlocksOfWrong : ChangeSpec := { name := "fnExactBlocksOf", fn := fun _ => fun
  | [d1, d2] => { results := [.lit (.bool false)], args := [d1, d2] }
  | _ => none }
def FnExactBlocksOfWrongFalsely : Prop := fnExactBlocksOfRow.holds Try.pinned (OpenSpec.ofChange fnExactBlocksOfWrong)

/-- 'laws.FnExactOpsOf': WHATEVER THE INPUT: true; the input reads as it did. -/
def fnExactOpsOfSpec : ChangeSpec := { name := "fnExactOpsOf", fn := fun _ => fun
  | [d] => { results := [.lit (.bool true)], args := [d] }
  | _ => none }
def fnExactOpsOfRow : OpenClaim := { program := "ytgpnophjbibhhaa", sum := "8ac3fd12930828cb072158247a9dfb74c20fe4b2e679d5075ea90a76bfba23ff", func := "loop.example/g01103/laws.FnExactOpsOf", spec := "fnExactOpsOf", apart := false }
def FnExactOpsOfSaid : Prop := fnExactOpsOfRow.holds Try.pinned (OpenSpec.ofChange fnExactOpsOfSpec)

/-- ITS FALSE NEIGHBOUR: 'it returns false'. Refute it at one input. -/
def fnExactOpsOfWrong : ChangeSpec := { name := "fnExactOpsOf", fn := fun _ => fun
  | [d] => { results := [.lit (.bool false)], args := [d] }
  | _ => none }
def FnExactOpsOfWrongFalsely : Prop := fnExactOpsOfRow.holds Try.pinned (OpenSpec.ofChange fnExactOpsOfWrong)

/-- 'laws.FnExactOpsOn': WHATEVER THE INPUT: true; the input reads as it did. -/
def fnExactOpsOnSpec : ChangeSpec := { name := "fnExactOpsOn", fn := fun _ => fun
  | [d1, d2] => { results := [.lit (.bool true)], args := [d1, d2] }
  | _ => none }
def fnExactOpsOnRow : OpenClaim := { program := "ytgpnophjbibhhaa", sum := "8ac3fd12930828cb072158247a9dfb74c20fe4b2e679d5075ea90a76bfba23ff", func := "loop.example/g01103/laws.FnExactOpsOn", spec := "fnExactOpsOn", apart := false }
def FnExactOpsOnSaid : Prop := fnExactOpsOnRow.holds Try.pinned (OpenSpec.ofChange fnExactOpsOnSpec)

/-- ITS FALSE NEIGHBOUR: 'it returns false'. Refute it at one input. -/
def fnExactOpsOnWrong : ChangeSpec := { name := "fnExactOpsOn", fn := fun _ => fun
  | [d1, d2] => { results := [.lit (.bool false)], args := [d1, d2] }
  | _ => none }
def FnExactOpsOnWrongFalsely : Prop := fnExactOpsOnRow.holds Try.pinned (OpenSpec.ofChange fnExactOpsOnWrong)

/-- 'laws.FnExactIsPiecePlan': WHATEVER THE INPUT: true; the input reads as it did. -/
def fnExactIsPiecePlanSpec : ChangeSpec := { name := "fnExactIsPiecePlan", fn := fun _ => fun
  | [d1, d2] => { results := [.lit (.bool true)], args := [d1, d2] }
  | _ => none }
def fnExactIsPiecePlanRow : OpenClaim := { program := "ytgpnophjbibhhaa", sum := "8ac3fd12930828cb072158247a9dfb74c20fe4b2e679d5075ea90a76bfba23ff", func := "loop.example/g01103/laws.FnExactIsPiecePlan", spec := "fnExactIsPiecePlan", apart := false }
def FnExactIsPiecePlanSaid : Prop := fnExactIsPiecePlanRow.holds Try.pinned (OpenSpec.ofChange fnExactIsPiecePlanSpec)

/-- ITS FALSE NEIGHBOUR: 'it returns false'. Refute it at one input. -/
def fnExactIsPiecePlanWrong : ChangeSpec := { name := "fnExactIsPiecePlan", fn := fun _ => fun
  | [d1, d2] => { results := [.lit (.bool false)], args := [d1, d2] }
  | _ => none }
def FnExactIsPiecePlanWrongFalsely : Prop := fnExactIsPiecePlanRow.holds Try.pinned (OpenSpec.ofChange fnExactIsPiecePlanWrong)

/-- 'laws.FnExactCriticalPart': WHATEVER THE INPUT: true; the input reads as it did. -/
def fnExactCriticalPartSpec : ChangeSpec := { name := "fnExactCriticalPart", fn := fun _ => fun
  | [d] => { results := [.lit (.bool true)], args := [d] }
  | _ => none }
def fnExactCriticalPartRow : OpenClaim := { program := "ytgpnophjbibhhaa", sum := "8ac3fd12930828cb072158247a9dfb74c20fe4b2e679d5075ea90a76bfba23ff", func := "loop.example/g01103/laws.FnExactCriticalPart", spec := "fnExactCriticalPart", apart := false }
def FnExactCriticalPartSaid : Prop := fnExactCriticalPartRow.holds Try.pinned (OpenSpec.ofChange fnExactCriticalPartSpec)

/-- ITS FALSE NEIGHBOUR: 'it returns false'. Refute it at one input. -/
def fnExactCriticalPartWrong : ChangeSpec := { name := "fnExactCriticalPart", fn := fun _ => fun
  | [d] => { results := [.lit (.bool false)], args := [d] }
  | _ => none }
def FnExactCriticalPartWrongFalsely : Prop := fnExactCriticalPartRow.holds Try.pinned (OpenSpec.ofChange fnExactCriticalPartWrong)

/-- 'laws.FnExactPointOf': WHATEVER THE INPUT: true; the input reads as it did. -/
def fnExactPointOfSpec : ChangeSpec := { name := "fnExactPointOf", fn := fun _ => fun
  | [d1, d2, d3, d4] => { results := [.lit (.bool true)], args := [d1, d2, d3, d4] }
  | _ => none }
def fnExactPointOfRow : OpenClaim := { program := "ytgpnophjbibhhaa", sum := "8ac3fd12930828cb072158247a9dfb74c20fe4b2e679d5075ea90a76bfba23ff", func := "loop.example/g01103/laws.FnExactPointOf", spec := "fnExactPointOf", apart := false }
def FnExactPointOfSaid : Prop := fnExactPointOfRow.holds Try.pinned (OpenSpec.ofChange fnExactPointOfSpec)

/-- ITS FALSE NEIGHBOUR: 'it returns false'. Refute it at one input. -/
def fnExactPointOfWrong : ChangeSpec := { name := "fnExactPointOf", fn := fun _ => fun
  | [d1, d2, d3, d4] => { results := [.lit (.bool false)], args := [d1, d2, d3, d4] }
  | _ => none }
def FnExactPointOfWrongFalsely : Prop := fnExactPointOfRow.holds Try.pinned (OpenSpec.ofChange fnExactPointOfWrong)

/-- 'laws.FnExactInversionsOf': WHATEVER THE INPUT: true; the input reads as it did. -/
def fnExactInversionsOfSpec : ChangeSpec := { name := "fnExactInversionsOf", fn := fun _ => fun
  | [d1, d2, d3] => { results := [.lit (.bool true)], args := [d1, d2, d3] }
  | _ => none }
def fnExactInversionsOfRow : OpenClaim := { program := "ytgpnophjbibhhaa", sum := "8ac3fd12930828cb072158247a9dfb74c20fe4b2e679d5075ea90a76bfba23ff", func := "loop.example/g01103/laws.FnExactInversionsOf", spec := "fnExactInversionsOf", apart := false }
def FnExactInversionsOfSaid : Prop := fnExactInversionsOfRow.holds Try.pinned (OpenSpec.ofChange fnExactInversionsOfSpec)

/-- ITS FALSE NEIGHBOUR: 'it returns false'. Refute it at one input. -/
def fnExactInversionsOfWrong : ChangeSpec := { name := "fnExactInversionsOf", fn := fun _ => fun
  | [d1, d2, d3] => { results := [.lit (.bool false)], args := [d1, d2, d3] }
  | _ => none }
def FnExactInversionsOfWrongFalsely : Prop := fnExactInversionsOfRow.holds Try.pinned (OpenSpec.ofChange fnExactInversionsOfWrong)

/-- 'laws.FnExactLongestStair': WHATEVER THE INPUT: true; the input reads as it did. -/
def fnExactLongestStairSpec : ChangeSpec := { name := "fnExactLongestStair", fn := fun _ => fun
  | [d1, d2] => { results := [.lit (.bool true)], args := [d1, d2] }
  | _ => none }
def fnExactLongestStairRow : OpenClaim := { program := "ytgpnophjbibhhaa", sum := "8ac3fd12930828cb072158247a9dfb74c20fe4b2e679d5075ea90a76bfba23ff", func := "loop.example/g01103/laws.FnExactLongestStair", spec := "fnExactLongestStair", recurses := true, apart := false }
def FnExactLongestStairSaid : Prop := fnExactLongestStairRow.holds Try.pinned (OpenSpec.ofChange fnExactLongestStairSpec)

/-- ITS FALSE NEIGHBOUR: 'it returns false'. Refute it at one input. -/
def fnExactLongestStairWrong : ChangeSpec := { name := "fnExactLongestStair", fn := fun _ => fun
  | [d1, d2] => { results := [.lit (.bool false)], args := [d1, d2] }
  | _ => none }
def FnExactLongestStairWrongFalsely : Prop := fnExactLongestStairRow.holds Try.pinned (OpenSpec.ofChange fnExactLongestStairWrong)

/-- 'laws.FnExactOneMachineBound': WHATEVER THE INPUT: true; the input reads as it did. -/
def fnExactOneMachineBoundSpec : ChangeSpec := { name := "fnExactOneMachineBound", fn := fun _ => fun
  | [d1, d2] => { results := [.lit (.bool true)], args := [d1, d2] }
  | _ => none }
def fnExactOneMachineBoundRow : OpenClaim := { program := "ytgpnophjbibhhaa", sum := "8ac3fd12930828cb072158247a9dfb74c20fe4b2e679d5075ea90a76bfba23ff", func := "loop.example/g01103/laws.FnExactOneMachineBound", spec := "fnExactOneMachineBound", apart := false }
def FnExactOneMachineBoundSaid : Prop := fnExactOneMachineBoundRow.holds Try.pinned (OpenSpec.ofChange fnExactOneMachineBoundSpec)

/-- ITS FALSE NEIGHBOUR: 'it returns false'. Refute it at one input. -/
def fnExactOneMachineBoundWrong : ChangeSpec := { name := "fnExactOneMachineBound", fn := fun _ => fun
  | [d1, d2] => { results := [.lit (.bool false)], args := [d1, d2] }
  | _ => none }
def FnExactOneMachineBoundWrongFalsely : Prop := fnExactOneMachineBoundRow.holds Try.pinned (OpenSpec.ofChange fnExactOneMachineBoundWrong)

/-- 'laws.FnSchedules': WHATEVER THE INPUT: true; the input reads as it did. -/
def fnSchedulesSpec : ChangeSpec := { name := "fnSchedules", fn := fun _ => fun
  | [d] => { results := [.lit (.bool true)], args := [d] }
  | _ => none }
def fnSchedulesRow : OpenClaim := { program := "ytgpnophjbibhhaa", sum := "8ac3fd12930828cb072158247a9dfb74c20fe4b2e679d5075ea90a76bfba23ff", func := "loop.example/g01103/laws.FnSchedules", spec := "fnSchedules", apart := false }
def FnSchedulesSaid : Prop := fnSchedulesRow.holds Try.pinned (OpenSpec.ofChange fnSchedulesSpec)

/-- ITS FALSE NEIGHBOUR: 'it returns false'. Refute it at one input. -/
def fnSchedulesWrong : ChangeSpec := { name := "fnSchedules", fn := fun _ => fun
  | [d] => { results := [.lit (.bool false)], args := [d] }
  | _ => none }
def FnSchedulesWrongFalsely : Prop := fnSchedulesRow.holds Try.pinned (OpenSpec.ofChange fnSchedulesWrong)

/- THE SECOND FORM. 'bulk': how many values and letters a reading holds, each counted each time it is reached (what is shared counts as often as it is met; a slice's spare places count too). A statement '..UptoSaid' is the law's where the arguments, and the package variables that the reading takes, are together of bulk at most 1048576: NARROWER than '..Said'. Prove '..Said' where nothing that the law and all that it calls make is longer than what came in: it says more and counts as full. Else prove '..UptoSaid'. A law counts once. -/
mutual
def uptoBulk {H : Type} : DataW H → Nat
  | .lit (.string bytes) => bytes.length + 1
  | .lit _ => 1
  | .nil => 1
  | .ptr d => uptoBulk d + 1
  | .slice elems spare => uptoBulkAll elems + uptoBulkAll spare + 1
  | .agg parts => uptoBulkAll parts + 1
  | .iface _ d => uptoBulk d + 1
  | .map entries => uptoBulkEntries entries + 1
  | .held _ => 1
def uptoBulkAll {H : Type} : List (DataW H) → Nat
  | [] => 0
  | d :: r => uptoBulk d + uptoBulkAll r
def uptoBulkEntries {H : Type} : List (Lit × DataW H) → Nat
  | [] => 0
  | x :: r => uptoBulkEntry x + uptoBulkEntries r
def uptoBulkEntry {H : Type} : Lit × DataW H → Nat
  | (.string bytes, d) => bytes.length + uptoBulk d + 1
  | (_, d) => uptoBulk d + 1
 end
def uptoSmall : (H : Type) → List (DataW H) → Bool := fun _ ds => decide (uptoBulkAll ds ≤ 1048576)
def OpenSpec.upto (s : _root_.Go.ChangeSpec) : _root_.Go.OpenSpec := { _root_.Go.OpenSpec.ofChange s with cond := some uptoSmall }

/-- 'laws.FnExactPairLoss', WHERE WHAT IT READS IS OF BULK AT MOST 1048576: true; the input reads as it did. -/
def fnExactPairLossUptoRow : OpenClaim := { program := "ytgpnophjbibhhaa", sum := "8ac3fd12930828cb072158247a9dfb74c20fe4b2e679d5075ea90a76bfba23ff", func := "loop.example/g01103/laws.FnExactPairLoss", spec := "fnExactPairLoss", apart := false, narrowed := true }
def FnExactPairLossUptoSaid : Prop := fnExactPairLossUptoRow.holds Try.pinned (OpenSpec.upto fnExactPairLossSpec)

/-- 'laws.FnExactBlockingJob', WHERE WHAT IT READS IS OF BULK AT MOST 1048576: true; the input reads as it did. -/
def fnExactBlockingJobUptoRow : OpenClaim := { program := "ytgpnophjbibhhaa", sum := "8ac3fd12930828cb072158247a9dfb74c20fe4b2e679d5075ea90a76bfba23ff", func := "loop.example/g01103/laws.FnExactBlockingJob", spec := "fnExactBlockingJob", apart := false, narrowed := true }
def FnExactBlockingJobUptoSaid : Prop := fnExactBlockingJobUptoRow.holds Try.pinned (OpenSpec.upto fnExactBlockingJobSpec)

/-- 'laws.FnExactBlocksOf', WHERE WHAT IT READS IS OF BULK AT MOST 1048576: true; the input reads as it did. -/
def fnExactBlocksOfUptoRow : OpenClaim := { program := "ytgpnophjbibhhaa", sum := "8ac3fd12930828cb072158247a9dfb74c20fe4b2e679d5075ea90a76bfba23ff", func := "loop.example/g01103/laws.FnExactBlocksOf", spec := "fnExactBlocksOf", apart := false, narrowed := true }
def FnExactBlocksOfUptoSaid : Prop := fnExactBlocksOfUptoRow.holds Try.pinned (OpenSpec.upto fnExactBlocksOfSpec)

/-- 'laws.FnExactOpsOf', WHERE WHAT IT READS IS OF BULK AT MOST 1048576: true; the input reads as it did. -/
def fnExactOpsOfUptoRow : OpenClaim := { program := "ytgpnophjbibhhaa", sum := "8ac3fd12930828cb072158247a9dfb74c20fe4b2e679d5075ea90a76bfba23ff", func := "loop.example/g01103/laws.FnExactOpsOf", spec := "fnExactOpsOf", apart := false, narrowed := true }
def FnExactOpsOfUptoSaid : Prop := fnExactOpsOfUptoRow.holds Try.pinned (OpenSpec.upto fnExactOpsOfSpec)

/-- 'laws.FnExactOpsOn', WHERE WHAT IT READS IS OF BULK AT MOST 1048576: true; the input reads as it did. -/
def fnExactOpsOnUptoRow : OpenClaim := { program := "ytgpnophjbibhhaa", sum := "8ac3fd12930828cb072158247a9dfb74c20fe4b2e679d5075ea90a76bfba23ff", func := "loop.example/g01103/laws.FnExactOpsOn", spec := "fnExactOpsOn", apart := false, narrowed := true }
def FnExactOpsOnUptoSaid : Prop := fnExactOpsOnUptoRow.holds Try.pinned (OpenSpec.upto fnExactOpsOnSpec)

/-- 'laws.FnExactIsPiecePlan', WHERE WHAT IT READS IS OF BULK AT MOST 1048576: true; the input reads as it did. -/
def fnExactIsPiecePlanUptoRow : OpenClaim := { program := "ytgpnophjbibhhaa", sum := "8ac3fd12930828cb072158247a9dfb74c20fe4b2e679d5075ea90a76bfba23ff", func := "loop.example/g01103/laws.FnExactIsPiecePlan", spec := "fnExactIsPiecePlan", apart := false, narrowed := true }
def FnExactIsPiecePlanUptoSaid : Prop := fnExactIsPiecePlanUptoRow.holds Try.pinned (OpenSpec.upto fnExactIsPiecePlanSpec)

/-- 'laws.FnExactCriticalPart', WHERE WHAT IT READS IS OF BULK AT MOST 1048576: true; the input reads as it did. -/
def fnExactCriticalPartUptoRow : OpenClaim := { program := "ytgpnophjbibhhaa", sum := "8ac3fd12930828cb072158247a9dfb74c20fe4b2e679d5075ea90a76bfba23ff", func := "loop.example/g01103/laws.FnExactCriticalPart", spec := "fnExactCriticalPart", apart := false, narrowed := true }
def FnExactCriticalPartUptoSaid : Prop := fnExactCriticalPartUptoRow.holds Try.pinned (OpenSpec.upto fnExactCriticalPartSpec)

/-- 'laws.FnExactPointOf', WHERE WHAT IT READS IS OF BULK AT MOST 1048576: true; the input reads as it did. -/
def fnExactPointOfUptoRow : OpenClaim := { program := "ytgpnophjbibhhaa", sum := "8ac3fd12930828cb072158247a9dfb74c20fe4b2e679d5075ea90a76bfba23ff", func := "loop.example/g01103/laws.FnExactPointOf", spec := "fnExactPointOf", apart := false, narrowed := true }
def FnExactPointOfUptoSaid : Prop := fnExactPointOfUptoRow.holds Try.pinned (OpenSpec.upto fnExactPointOfSpec)

/-- 'laws.FnExactInversionsOf', WHERE WHAT IT READS IS OF BULK AT MOST 1048576: true; the input reads as it did. -/
def fnExactInversionsOfUptoRow : OpenClaim := { program := "ytgpnophjbibhhaa", sum := "8ac3fd12930828cb072158247a9dfb74c20fe4b2e679d5075ea90a76bfba23ff", func := "loop.example/g01103/laws.FnExactInversionsOf", spec := "fnExactInversionsOf", apart := false, narrowed := true }
def FnExactInversionsOfUptoSaid : Prop := fnExactInversionsOfUptoRow.holds Try.pinned (OpenSpec.upto fnExactInversionsOfSpec)

/-- 'laws.FnExactLongestStair', WHERE WHAT IT READS IS OF BULK AT MOST 1048576: true; the input reads as it did. -/
def fnExactLongestStairUptoRow : OpenClaim := { program := "ytgpnophjbibhhaa", sum := "8ac3fd12930828cb072158247a9dfb74c20fe4b2e679d5075ea90a76bfba23ff", func := "loop.example/g01103/laws.FnExactLongestStair", spec := "fnExactLongestStair", recurses := true, apart := false, narrowed := true }
def FnExactLongestStairUptoSaid : Prop := fnExactLongestStairUptoRow.holds Try.pinned (OpenSpec.upto fnExactLongestStairSpec)

/-- 'laws.FnExactOneMachineBound', WHERE WHAT IT READS IS OF BULK AT MOST 1048576: true; the input reads as it did. -/
def fnExactOneMachineBoundUptoRow : OpenClaim := { program := "ytgpnophjbibhhaa", sum := "8ac3fd12930828cb072158247a9dfb74c20fe4b2e679d5075ea90a76bfba23ff", func := "loop.example/g01103/laws.FnExactOneMachineBound", spec := "fnExactOneMachineBound", apart := false, narrowed := true }
def FnExactOneMachineBoundUptoSaid : Prop := fnExactOneMachineBoundUptoRow.holds Try.pinned (OpenSpec.upto fnExactOneMachineBoundSpec)

/-- 'laws.FnSchedules', WHERE WHAT IT READS IS OF BULK AT MOST 1048576: true; the input reads as it did. -/
def fnSchedulesUptoRow : OpenClaim := { program := "ytgpnophjbibhhaa", sum := "8ac3fd12930828cb072158247a9dfb74c20fe4b2e679d5075ea90a76bfba23ff", func := "loop.example/g01103/laws.FnSchedules", spec := "fnSchedules", apart := false, narrowed := true }
def FnSchedulesUptoSaid : Prop := fnSchedulesUptoRow.holds Try.pinned (OpenSpec.upto fnSchedulesSpec)

end Rows
end Go.Proofs.Ytgpnophjbibhhaa
