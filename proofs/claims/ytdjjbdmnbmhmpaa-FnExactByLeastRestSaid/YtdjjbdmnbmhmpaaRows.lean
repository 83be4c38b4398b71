/-
  No cell of these rows narrows 'for every input' (looked for: loops, veiled, ifaces, maps, wideKeys, modest, calm, conditions, laid).
  DERIVED. THE GIVEN ROWS OF THIS SEAT. 12 by the template 'for every input the law returns true; each argument reads behind the call as it read before'; 0 by the template 'total and deterministic' (their statements: YtdjjbdmnbmhmpaaTotals.lean).
  GIVEN WITH THE SEED: the statements are not yours to turn. If you find one false, say at which input.
  Laid BY PROGRAM, IN A SANDBOX (cutbox-rows.mjs): the forced cells as the released guide's own fill.sh prints them over the translation 635bed6f44918ada… (all of the seat's roots in one cut). By AI agents, Wed Nov 11 2026. No macro, syntax, notation, axiom, sorry.
-/
import Derived.Test.YtdjjbdmnbmhmpaaChecked
import GoSem.Claim
import GoSem.ClaimJoined
import GoSem.ClaimMapViews
import Derived.JoinedTies
import Derived.KernelRfl
namespace Go.Proofs.Ytdjjbdmnbmhmpaa
/- THE CELL 'sum', in the pinned program and in every row, IS THE sha256 OF THE DUMP (.gsa) THAT YtdjjbdmnbmhmpaaProg.lean LOADS. Nothing in Lean hashes anything: it is a label: what it is worth is what the hold of that sum in a sandbox is worth. -/
noncomputable def Try.pinned : Pinned := { name := "ytdjjbdmnbmhmpaa", sum := "635bed6f44918ada1db3cbb683a606c1f6d0e05b285b263dbf2e9afea2121a74", checked := Try.checked }
namespace Rows
def none {H : Type} : Left H := { results := [], args := [] }

/-- 'laws.FnExactPairLoss': WHATEVER THE INPUT: true; the input reads as it did. -/
def fnExactPairLossSpec : ChangeSpec := { name := "fnExactPairLoss", fn := fun _ => fun
  | [d1, d2] => { results := [.lit (.bool true)], args := [d1, d2] }
  | _ => none }
def fnExactPairLossRow : OpenClaim := { program := "ytdjjbdmnbmhmpaa", sum := "635bed6f44918ada1db3cbb683a606c1f6d0e05b285b263dbf2e9afea2121a74", func := "loop.example/g01103/laws.FnExactPairLoss", spec := "fnExactPairLoss", apart := false }
def FnExactPairLossSaid : Prop := fnExactPairLossRow.holds Try.pinned (OpenSpec.ofChange fnExactPairLossSpec)

/-- ITS FALSE NEIGHBOUR: 'it returns false'. Refute it at one input. -/
def fnExactPairLossWrong : ChangeSpec := { name := "fnExactPairLoss", fn := fun _ => fun
  | [d1, d2] => { results := [.lit (.bool false)], args := [d1, d2] }
  | _ => none }
def FnExactPairLossWrongFalsely : Prop := fnExactPairLossRow.holds Try.pinned (OpenSpec.ofChange fnExactPairLossWrong)

/-- 'laws.FnExactNewDispatcher': WHATEVER THE INPUT: true; the input reads as it did. -/
def fnExactNewDispatcherSpec : ChangeSpec := { name := "fnExactNewDispatcher", fn := fun _ => fun
  | [d1, d2] => { results := [.lit (.bool true)], args := [d1, d2] }
  | _ => none }
def fnExactNewDispatcherRow : OpenClaim := { program := "ytdjjbdmnbmhmpaa", sum := "635bed6f44918ada1db3cbb683a606c1f6d0e05b285b263dbf2e9afea2121a74", func := "loop.example/g01103/laws.FnExactNewDispatcher", spec := "fnExactNewDispatcher", apart := false }
def FnExactNewDispatcherSaid : Prop := fnExactNewDispatcherRow.holds Try.pinned (OpenSpec.ofChange fnExactNewDispatcherSpec)

/-- ITS FALSE NEIGHBOUR: 'it returns false'. Refute it at one input. -/
def fnExactNewDispatcherWrong : ChangeSpec := { name := "fnExactNewDispatcher", fn := fun _ => fun
  | [d1, d2] => { results := [.lit (.bool false)], args := [d1, d2] }
  | _ => none }
def FnExactNewDispatcherWrongFalsely : Prop := fnExactNewDispatcherRow.holds Try.pinned (OpenSpec.ofChange fnExactNewDispatcherWrong)

/-- 'laws.FnExactCrashLog': WHATEVER THE INPUT: true; the input reads as it did. -/
def fnExactCrashLogSpec : ChangeSpec := { name := "fnExactCrashLog", fn := fun _ => fun
  | [d1, d2, d3] => { results := [.lit (.bool true)], args := [d1, d2, d3] }
  | _ => none }
def fnExactCrashLogRow : OpenClaim := { program := "ytdjjbdmnbmhmpaa", sum := "635bed6f44918ada1db3cbb683a606c1f6d0e05b285b263dbf2e9afea2121a74", func := "loop.example/g01103/laws.FnExactCrashLog", spec := "fnExactCrashLog", recurses := true, apart := false }
def FnExactCrashLogSaid : Prop := fnExactCrashLogRow.holds Try.pinned (OpenSpec.ofChange fnExactCrashLogSpec)

/-- ITS FALSE NEIGHBOUR: 'it returns false'. Refute it at one input. -/
def fnExactCrashLogWrong : ChangeSpec := { name := "fnExactCrashLog", fn := fun _ => fun
  | [d1, d2, d3] => { results := [.lit (.bool false)], args := [d1, d2, d3] }
  | _ => none }
def FnExactCrashLogWrongFalsely : Prop := fnExactCrashLogRow.holds Try.pinned (OpenSpec.ofChange fnExactCrashLogWrong)

/-- 'laws.FnExactBlockingJob': WHATEVER THE INPUT: true; the input reads as it did. -/
def fnExactBlockingJobSpec : ChangeSpec := { name := "fnExactBlockingJob", fn := fun _ => fun
  | [d] => { results := [.lit (.bool true)], args := [d] }
  | _ => none }
def fnExactBlockingJobRow : OpenClaim := { program := "ytdjjbdmnbmhmpaa", sum := "635bed6f44918ada1db3cbb683a606c1f6d0e05b285b263dbf2e9afea2121a74", func := "loop.example/g01103/laws.FnExactBlockingJob", spec := "fnExactBlockingJob", apart := false }
def FnExactBlockingJobSaid : Prop := fnExactBlockingJobRow.holds Try.pinned (OpenSpec.ofChange fnExactBlockingJobSpec)

/-- ITS FALSE NEIGHBOUR: 'it returns false'. Refute it at one input. -/
def fnExactBlockingJobWrong : ChangeSpec := { name := "fnExactBlockingJob", fn := fun _ => fun
  | [d] => { results := [.lit (.bool false)], args := [d] }
  | _ => none }
def FnExactBlockingJobWrongFalsely : Prop := fnExactBlockingJobRow.holds Try.pinned (OpenSpec.ofChange fnExactBlockingJobWrong)

/-- 'laws.FnExactIdleTime': WHATEVER THE INPUT: true; the input reads as it did. -/
def fnExactIdleTimeSpec : ChangeSpec := { name := "fnExactIdleTime", fn := fun _ => fun
  | [d1, d2] => { results := [.lit (.bool true)], args := [d1, d2] }
  | _ => none }
def fnExactIdleTimeRow : OpenClaim := { program := "ytdjjbdmnbmhmpaa", sum := "635bed6f44918ada1db3cbb683a606c1f6d0e05b285b263dbf2e9afea2121a74", func := "loop.example/g01103/laws.FnExactIdleTime", spec := "fnExactIdleTime", apart := false }
def FnExactIdleTimeSaid : Prop := fnExactIdleTimeRow.holds Try.pinned (OpenSpec.ofChange fnExactIdleTimeSpec)

/-- ITS FALSE NEIGHBOUR: 'it returns false'. Refute it at one input. -/
def fnExactIdleTimeWrong : ChangeSpec := { name := "fnExactIdleTime", fn := fun _ => fun
  | [d1, d2] => { results := [.lit (.bool false)], args := [d1, d2] }
  | _ => none }
def FnExactIdleTimeWrongFalsely : Prop := fnExactIdleTimeRow.holds Try.pinned (OpenSpec.ofChange fnExactIdleTimeWrong)

/-- 'laws.FnExactSyncLog': WHATEVER THE INPUT: true; the input reads as it did. -/
def fnExactSyncLogSpec : ChangeSpec := { name := "fnExactSyncLog", fn := fun _ => fun
  | [d] => { results := [.lit (.bool true)], args := [d] }
  | _ => none }
def fnExactSyncLogRow : OpenClaim := { program := "ytdjjbdmnbmhmpaa", sum := "635bed6f44918ada1db3cbb683a606c1f6d0e05b285b263dbf2e9afea2121a74", func := "loop.example/g01103/laws.FnExactSyncLog", spec := "fnExactSyncLog", recurses := true, apart := false }
def FnExactSyncLogSaid : Prop := fnExactSyncLogRow.holds Try.pinned (OpenSpec.ofChange fnExactSyncLogSpec)

/-- ITS FALSE NEIGHBOUR: 'it returns false'. Refute it at one input. -/
def fnExactSyncLogWrong : ChangeSpec := { name := "fnExactSyncLog", fn := fun _ => fun
  | [d] => { results := [.lit (.bool false)], args := [d] }
  | _ => none }
def FnExactSyncLogWrongFalsely : Prop := fnExactSyncLogRow.holds Try.pinned (OpenSpec.ofChange fnExactSyncLogWrong)

/-- 'laws.FnExactSlacksOf': WHATEVER THE INPUT: true; the input reads as it did. -/
def fnExactSlacksOfSpec : ChangeSpec := { name := "fnExactSlacksOf", fn := fun _ => fun
  | [d1, d2, d3] => { results := [.lit (.bool true)], args := [d1, d2, d3] }
  | _ => none }
def fnExactSlacksOfRow : OpenClaim := { program := "ytdjjbdmnbmhmpaa", sum := "635bed6f44918ada1db3cbb683a606c1f6d0e05b285b263dbf2e9afea2121a74", func := "loop.example/g01103/laws.FnExactSlacksOf", spec := "fnExactSlacksOf", apart := false }
def FnExactSlacksOfSaid : Prop := fnExactSlacksOfRow.holds Try.pinned (OpenSpec.ofChange fnExactSlacksOfSpec)

/-- ITS FALSE NEIGHBOUR: 'it returns false'. Refute it at one input. -/
def fnExactSlacksOfWrong : ChangeSpec := { name := "fnExactSlacksOf", fn := fun _ => fun
  | [d1, d2, d3] => { results := [.lit (.bool false)], args := [d1, d2, d3] }
  | _ => none }
def FnExactSlacksOfWrongFalsely : Prop := fnExactSlacksOfRow.holds Try.pinned (OpenSpec.ofChange fnExactSlacksOfWrong)

/-- 'laws.FnSorting': WHATEVER THE INPUT: true; the input reads as it did. -/
def fnSortingSpec : ChangeSpec := { name := "fnSorting", fn := fun _ => fun
  | [d] => { results := [.lit (.bool true)], args := [d] }
  | _ => none }
def fnSortingRow : OpenClaim := { program := "ytdjjbdmnbmhmpaa", sum := "635bed6f44918ada1db3cbb683a606c1f6d0e05b285b263dbf2e9afea2121a74", func := "loop.example/g01103/laws.FnSorting", spec := "fnSorting", unfollowed := true, recurses := true, apart := false }
def FnSortingSaid : Prop := fnSortingRow.holds Try.pinned (OpenSpec.ofChange fnSortingSpec)

/-- ITS FALSE NEIGHBOUR: 'it returns false'. Refute it at one input. -/
def fnSortingWrong : ChangeSpec := { name := "fnSorting", fn := fun _ => fun
  | [d] => { results := [.lit (.bool false)], args := [d] }
  | _ => none }
def FnSortingWrongFalsely : Prop := fnSortingRow.holds Try.pinned (OpenSpec.ofChange fnSortingWrong)

/-- 'laws.FnExactByEarliestDate': WHATEVER THE INPUT: true; the input reads as it did. -/
def fnExactByEarliestDateSpec : ChangeSpec := { name := "fnExactByEarliestDate", fn := fun _ => fun
  | [d] => { results := [.lit (.bool true)], args := [d] }
  | _ => none }
def fnExactByEarliestDateRow : OpenClaim := { program := "ytdjjbdmnbmhmpaa", sum := "635bed6f44918ada1db3cbb683a606c1f6d0e05b285b263dbf2e9afea2121a74", func := "loop.example/g01103/laws.FnExactByEarliestDate", spec := "fnExactByEarliestDate", apart := false }
def FnExactByEarliestDateSaid : Prop := fnExactByEarliestDateRow.holds Try.pinned (OpenSpec.ofChange fnExactByEarliestDateSpec)

/-- ITS FALSE NEIGHBOUR: 'it returns false'. Refute it at one input. -/
def fnExactByEarliestDateWrong : ChangeSpec := { name := "fnExactByEarliestDate", fn := fun _ => fun
  | [d] => { results := [.lit (.bool false)], args := [d] }
  | _ => none }
def FnExactByEarliestDateWrongFalsely : Prop := fnExactByEarliestDateRow.holds Try.pinned (OpenSpec.ofChange fnExactByEarliestDateWrong)

/-- 'laws.FnExactByLeastRest': WHATEVER THE INPUT: true; the input reads as it did. -/
def fnExactByLeastRestSpec : ChangeSpec := { name := "fnExactByLeastRest", fn := fun _ => fun
  | [d] => { results := [.lit (.bool true)], args := [d] }
  | _ => none }
def fnExactByLeastRestRow : OpenClaim := { program := "ytdjjbdmnbmhmpaa", sum := "635bed6f44918ada1db3cbb683a606c1f6d0e05b285b263dbf2e9afea2121a74", func := "loop.example/g01103/laws.FnExactByLeastRest", spec := "fnExactByLeastRest", apart := false }
def FnExactByLeastRestSaid : Prop := fnExactByLeastRestRow.holds Try.pinned (OpenSpec.ofChange fnExactByLeastRestSpec)

/-- ITS FALSE NEIGHBOUR: 'it returns false'. Refute it at one input. -/
def fnExactByLeastRestWrong : ChangeSpec := { name := "fnExactByLeastRest", fn := fun _ => fun
  | [d] => { results := [.lit (.bool false)], args := [d] }
  | _ => none }
def FnExactByLeastRestWrongFalsely : Prop := fnExactByLeastRestRow.holds Try.pinned (OpenSpec.ofChange fnExactByLeastRestWrong)

/-- 'laws.FnExactBlocksOf': WHATEVER THE INPUT: true; the input reads as it did. -/
def fnExactBlocksOfSpec : ChangeSpec := { name := "fnExactBlocksOf", fn := fun _ => fun
  | [d1, d2] => { results := [.lit (.bool true)], args := [d1, d2] }
  | _ => none }
def fnExactBlocksOfRow : OpenClaim := { program := "ytdjjbdmnbmhmpaa", sum := "635bed6f44918ada1db3cbb683a606c1f6d0e05b285b263dbf2e9afea2121a74", func := "loop.example/g01103/laws.FnExactBlocksOf", spec := "fnExactBlocksOf", apart := false }
def FnExactBlocksOfSaid : Prop := fnExactBlocksOfRow.holds Try.pinned (OpenSpec.ofChange fnExactBlocksOfSpec)

/-- ITS FALSE NEIGHBOUR: 'it returns false'. Refute it at one input. -/
def fnExactBlocksOfWrong : ChangeSpec := { name := "fnExactBlocksOf", fn := fun _ => fun
  | [d1, d2] => { results := [.lit (.bool false)], args := [d1, d2] }
  | _ => none }
def FnExactBlocksOfWrongFalsely : Prop := fnExactBlocksOfRow.holds Try.pinned (OpenSpec.ofChange fnExactBlocksOfWrong)

/-- 'laws.FnExactOpsOf': WHATEVER THE INPUT: true; the input reads as it did. -/
def fnExactOpsOfSpec : ChangeSpec := { name := "fnExactOpsOf", fn := fun _ => fun
  | [d] => { results := [.lit (.bool true)], args := [d] }
  | _ => none }
def fnExactOpsOfRow : OpenClaim := { program := "ytdjjbdmnbmhmpaa", sum := "635bed6f44918ada1db3cbb683a606c1f6d0e05b285b263dbf2e9afea2121a74", func := "loop.example/g01103/laws.FnExactOpsOf", spec := "fnExactOpsOf", apart := false }
def FnExactOpsOfSaid : Prop := fnExactOpsOfRow.holds Try.pinned (OpenSpec.ofChange fnExactOpsOfSpec)

/-- ITS FALSE NEIGHBOUR: 'it returns false'. Refute it at one input. -/
def fnExactOpsOfWrong : ChangeSpec := { name := "fnExactOpsOf", fn := fun _ => fun
  | [d] => { results := [.lit (.bool false)], args := [d] }
  | _ => none }
def FnExactOpsOfWrongFalsely : Prop := fnExactOpsOfRow.holds Try.pinned (OpenSpec.ofChange fnExactOpsOfWrong)

/- THE SECOND FORM. 'bulk': how many values and letters a reading holds, each counted each time it is reached (what is shared counts as often as it is met; a slice's spare places count too). A statement '..UptoSaid' is the law's where the arguments, and the package variables that the reading takes, are together of bulk at most 1048576: NARROWER than '..Said'. Prove '..Said' where nothing that the law and all that it calls make is longer than what came in: it says more and counts as full. Else prove '..UptoSaid'. A law counts once. -/
mutual
def uptoBulk {H : Type} : DataW H → Nat
  | .lit (.string bytes) => bytes.length + 1
  | .lit _ => 1
  | .nil => 1
  | .ptr d => uptoBulk d + 1
  | .slice elems spare => uptoBulkAll elems + uptoBulkAll spare + 1
  | .agg parts => uptoBulkAll parts + 1
  | .iface _ d => uptoBulk d + 1
  | .map entries => uptoBulkEntries entries + 1
  | .held _ => 1
def uptoBulkAll {H : Type} : List (DataW H) → Nat
  | [] => 0
  | d :: r => uptoBulk d + uptoBulkAll r
def uptoBulkEntries {H : Type} : List (Lit × DataW H) → Nat
  | [] => 0
  | x :: r => uptoBulkEntry x + uptoBulkEntries r
def uptoBulkEntry {H : Type} : Lit × DataW H → Nat
  | (.string bytes, d) => bytes.length + uptoBulk d + 1
  | (_, d) => uptoBulk d + 1
 end
def uptoSmall : (H : Type) → List (DataW H) → Bool := fun _ ds => decide (uptoBulkAll ds ≤ 1048576)
def OpenSpec.upto (s : _root_.Go.ChangeSpec) : _root_.Go.OpenSpec := { _root_.Go.OpenSpec.ofChange s with cond := some uptoSmall }

/-- 'laws.FnExactPairLoss', WHERE WHAT IT READS IS OF BULK AT MOST 1048576: true; the input reads as it did. -/
def fnExactPairLossUptoRow : OpenClaim := { program := "ytdjjbdmnbmhmpaa", sum := "635bed6f44918ada1db3cbb683a606c1f6d0e05b285b263dbf2e9afea2121a74", func := "loop.example/g01103/laws.FnExactPairLoss", spec := "fnExactPairLoss", apart := false, narrowed := true }
def FnExactPairLossUptoSaid : Prop := fnExactPairLossUptoRow.holds Try.pinned (OpenSpec.upto fnExactPairLossSpec)

/-- 'laws.FnExactNewDispatcher', WHERE WHAT IT READS IS OF BULK AT MOST 1048576: true; the input reads as it did. -/
def fnExactNewDispatcherUptoRow : OpenClaim := { program := "ytdjjbdmnbmhmpaa", sum := "635bed6f44918ada1db3cbb683a606c1f6d0e05b285b263dbf2e9afea2121a74", func := "loop.example/g01103/laws.FnExactNewDispatcher", spec := "fnExactNewDispatcher", apart := false, narrowed := true }
def FnExactNewDispatcherUptoSaid : Prop := fnExactNewDispatcherUptoRow.holds Try.pinned (OpenSpec.upto fnExactNewDispatcherSpec)

/-- 'laws.FnExactCrashLog', WHERE WHAT IT READS IS OF BULK AT MOST 1048576: true; the input reads as it did. -/
def fnExactCrashLogUptoRow : OpenClaim := { program := "ytdjjbdmnbmhmpaa", sum := "635bed6f44918ada1db3cbb683a606c1f6d0e05b285b263dbf2e9afea2121a74", func := "loop.example/g01103/laws.FnExactCrashLog", spec := "fnExactCrashLog", recurses := true, apart := false, narrowed := true }
def FnExactCrashLogUptoSaid : Prop := fnExactCrashLogUptoRow.holds Try.pinned (OpenSpec.upto fnExactCrashLogSpec)

/-- 'laws.FnExactBlockingJob', WHERE WHAT IT READS IS OF BULK AT MOST 1048576: true; the input reads as it did. -/
def fnExactBlockingJobUptoRow : OpenClaim := { program := "ytdjjbdmnbmhmpaa", sum := "635bed6f44918ada1db3cbb683a606c1f6d0e05b285b263dbf2e9afea2121a74", func := "loop.example/g01103/laws.FnExactBlockingJob", spec := "fnExactBlockingJob", apart := false, narrowed := true }
def FnExactBlockingJobUptoSaid : Prop := fnExactBlockingJobUptoRow.holds Try.pinned (OpenSpec.upto fnExactBlockingJobSpec)

/-- 'laws.FnExactIdleTime', WHERE WHAT IT READS IS OF BULK AT MOST 1048576: true; the input reads as it did. -/
def fnExactIdleTimeUptoRow : OpenClaim := { program := "ytdjjbdmnbmhmpaa", sum := "635bed6f44918ada1db3cbb683a606c1f6d0e05b285b263dbf2e9afea2121a74", func := "loop.example/g01103/laws.FnExactIdleTime", spec := "fnExactIdleTime", apart := false, narrowed := true }
def FnExactIdleTimeUptoSaid : Prop := fnExactIdleTimeUptoRow.holds Try.pinned (OpenSpec.upto fnExactIdleTimeSpec)

/-- 'laws.FnExactSyncLog', WHERE WHAT IT READS IS OF BULK AT MOST 1048576: true; the input reads as it did. -/
def fnExactSyncLogUptoRow : OpenClaim := { program := "ytdjjbdmnbmhmpaa", sum := "635bed6f44918ada1db3cbb683a606c1f6d0e05b285b263dbf2e9afea2121a74", func := "loop.example/g01103/laws.FnExactSyncLog", spec := "fnExactSyncLog", recurses := true, apart := false, narrowed := true }
def FnExactSyncLogUptoSaid : Prop := fnExactSyncLogUptoRow.holds Try.pinned (OpenSpec.upto fnExactSyncLogSpec)

/-- 'laws.FnExactSlacksOf', WHERE WHAT IT READS IS OF BULK AT MOST 1048576: true; the input reads as it did. -/
def fnExactSlacksOfUptoRow : OpenClaim := { program := "ytdjjbdmnbmhmpaa", sum := "635bed6f44918ada1db3cbb683a606c1f6d0e05b285b263dbf2e9afea2121a74", func := "loop.example/g01103/laws.FnExactSlacksOf", spec := "fnExactSlacksOf", apart := false, narrowed := true }
def FnExactSlacksOfUptoSaid : Prop := fnExactSlacksOfUptoRow.holds Try.pinned (OpenSpec.upto fnExactSlacksOfSpec)

/-- 'laws.FnSorting', WHERE WHAT IT READS IS OF BULK AT MOST 1048576: true; the input reads as it did. -/
def fnSortingUptoRow : OpenClaim := { program := "ytdjjbdmnbmhmpaa", sum := "635bed6f44918ada1db3cbb683a606c1f6d0e05b285b263dbf2e9afea2121a74", func := "loop.example/g01103/laws.FnSorting", spec := "fnSorting", unfollowed := true, recurses := true, apart := false, narrowed := true }
def FnSortingUptoSaid : Prop := fnSortingUptoRow.holds Try.pinned (OpenSpec.upto fnSortingSpec)

/-- 'laws.FnExactByEarliestDate', WHERE WHAT IT READS IS OF BULK AT MOST 1048576: true; the input reads as it did. -/
def fnExactByEarliestDateUptoRow : OpenClaim := { program := "ytdjjbdmnbmhmpaa", sum := "635bed6f44918ada1db3cbb683a606c1f6d0e05b285b263dbf2e9afea2121a74", func := "loop.example/g01103/laws.FnExactByEarliestDate", spec := "fnExactByEarliestDate", apart := false, narrowed := true }
def FnExactByEarliestDateUptoSaid : Prop := fnExactByEarliestDateUptoRow.holds Try.pinned (OpenSpec.upto fnExactByEarliestDateSpec)

/-- 'laws.FnExactByLeastRest', WHERE WHAT IT READS IS OF BULK AT MOST 1048576: true; the input reads as it did. -/
def fnExactByLeastRestUptoRow : OpenClaim := { program := "ytdjjbdmnbmhmpaa", sum := "635bed6f44918ada1db3cbb683a606c1f6d0e05b285b263dbf2e9afea2121a74", func := "loop.example/g01103/laws.FnExactByLeastRest", spec := "fnExactByLeastRest", apart := false, narrowed := true }
def FnExactByLeastRestUptoSaid : Prop := fnExactByLeastRestUptoRow.holds Try.pinned (OpenSpec.upto fnExactByLeastRestSpec)

/-- 'laws.FnExactBlocksOf', WHERE WHAT IT READS IS OF BULK AT MOST 1048576: true; the input reads as it did. -/
def fnExactBlocksOfUptoRow : OpenClaim := { program := "ytdjjbdmnbmhmpaa", sum := "635bed6f44918ada1db3cbb683a606c1f6d0e05b285b263dbf2e9afea2121a74", func := "loop.example/g01103/laws.FnExactBlocksOf", spec := "fnExactBlocksOf", apart := false, narrowed := true }
def FnExactBlocksOfUptoSaid : Prop := fnExactBlocksOfUptoRow.holds Try.pinned (OpenSpec.upto fnExactBlocksOfSpec)

/-- 'laws.FnExactOpsOf', WHERE WHAT IT READS IS OF BULK AT MOST 1048576: true; the input reads as it did. -/
def fnExactOpsOfUptoRow : OpenClaim := { program := "ytdjjbdmnbmhmpaa", sum := "635bed6f44918ada1db3cbb683a606c1f6d0e05b285b263dbf2e9afea2121a74", func := "loop.example/g01103/laws.FnExactOpsOf", spec := "fnExactOpsOf", apart := false, narrowed := true }
def FnExactOpsOfUptoSaid : Prop := fnExactOpsOfUptoRow.holds Try.pinned (OpenSpec.upto fnExactOpsOfSpec)

end Rows
end Go.Proofs.Ytdjjbdmnbmhmpaa
