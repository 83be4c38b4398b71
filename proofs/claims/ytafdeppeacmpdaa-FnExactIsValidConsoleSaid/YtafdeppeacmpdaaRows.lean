/-
  No cell of these rows narrows 'for every input' (looked for: loops, veiled, ifaces, maps, wideKeys, modest, calm, conditions, laid).
  DERIVED. THE GIVEN ROWS OF THIS SEAT. 13 by the template 'for every input the law returns true; each argument reads behind the call as it read before'; 0 by the template 'total and deterministic' (their statements: YtafdeppeacmpdaaTotals.lean).
  GIVEN WITH THE SEED: the statements are not yours to turn. If you find one false, say at which input.
  Laid BY PROGRAM, IN A SANDBOX (cutbox-rows.mjs): the forced cells as the released guide's own fill.sh prints them over the translation 31b3f1fb5eb7b2fc… (all of the seat's roots in one cut). By AI agents, Wed Nov 11 2026. No macro, syntax, notation, axiom, sorry.
-/
import Derived.Test.YtafdeppeacmpdaaChecked
import GoSem.Claim
import GoSem.ClaimJoined
import GoSem.ClaimMapViews
import Derived.JoinedTies
import Derived.KernelRfl
namespace Go.Proofs.Ytafdeppeacmpdaa
/- THE CELL 'sum', in the pinned program and in every row, IS THE sha256 OF THE DUMP (.gsa) THAT YtafdeppeacmpdaaProg.lean LOADS. Nothing in Lean hashes anything: it is a label: what it is worth is what the hold of that sum in a sandbox is worth. -/
noncomputable def Try.pinned : Pinned := { name := "ytafdeppeacmpdaa", sum := "31b3f1fb5eb7b2fc872097f06d71c3470b4f0ae8185e132b933d00c64ff718ba", checked := Try.checked }
namespace Rows
def none {H : Type} : Left H := { results := [], args := [] }

/-- 'laws.FnExactNewDispatcher': WHATEVER THE INPUT: true; the input reads as it did. -/
def fnExactNewDispatcherSpec : ChangeSpec := { name := "fnExactNewDispatcher", fn := fun _ => fun
  | [d1, d2] => { results := [.lit (.bool true)], args := [d1, d2] }
  | _ => none }
def fnExactNewDispatcherRow : OpenClaim := { program := "ytafdeppeacmpdaa", sum := "31b3f1fb5eb7b2fc872097f06d71c3470b4f0ae8185e132b933d00c64ff718ba", func := "loop.example/g01103/laws.FnExactNewDispatcher", spec := "fnExactNewDispatcher", apart := false }
def FnExactNewDispatcherSaid : Prop := fnExactNewDispatcherRow.holds Try.pinned (OpenSpec.ofChange fnExactNewDispatcherSpec)

/-- ITS FALSE NEIGHBOUR: 'it returns false'. Refute it at one input. -/
def fnExactNewDispatcherWrong : ChangeSpec := { name := "fnExactNewDispatcher", fn := fun _ => fun
  | [d1, d2] => { results := [.lit (.bool false)], args := [d1, d2] }
  | _ => none }
def FnExactNewDispatcherWrongFalsely : Prop := fnExactNewDispatcherRow.holds Try.pinned (OpenSpec.ofChange fnExactNewDispatcherWrong)

/-- 'laws.FnExactSyncLog': WHATEVER THE INPUT: true; the input reads as it did. -/
def fnExactSyncLogSpec : ChangeSpec := { name := "fnExactSyncLog", fn := fun _ => fun
  | [d] => { results := [.lit (.bool true)], args := [d] }
  | _ => none }
def fnExactSyncLogRow : OpenClaim := { program := "ytafdeppeacmpdaa", sum := "31b3f1fb5eb7b2fc872097f06d71c3470b4f0ae8185e132b933d00c64ff718ba", func := "loop.example/g01103/laws.FnExactSyncLog", spec := "fnExactSyncLog", recurses := true, apart := false }
def FnExactSyncLogSaid : Prop := fnExactSyncLogRow.holds Try.pinned (OpenSpec.ofChange fnExactSyncLogSpec)

/-- ITS FALSE NEIGHBOUR: 'it returns false'. Refute it at one input. -/
def fnExactSyncLogWrong : ChangeSpec := { name := "fnExactSyncLog", fn := fun _ => fun
  | [d] => { results := [.lit (.bool false)], args := [d] }
  | _ => none }
def FnExactSyncLogWrongFalsely : Prop := fnExactSyncLogRow.holds Try.pinned (OpenSpec.ofChange fnExactSyncLogWrong)

/-- 'laws.FnExactCrashLog': WHATEVER THE INPUT: true; the input reads as it did. -/
def fnExactCrashLogSpec : ChangeSpec := { name := "fnExactCrashLog", fn := fun _ => fun
  | [d1, d2, d3] => { results := [.lit (.bool true)], args := [d1, d2, d3] }
  | _ => none }
def fnExactCrashLogRow : OpenClaim := { program := "ytafdeppeacmpdaa", sum := "31b3f1fb5eb7b2fc872097f06d71c3470b4f0ae8185e132b933d00c64ff718ba", func := "loop.example/g01103/laws.FnExactCrashLog", spec := "fnExactCrashLog", recurses := true, apart := false }
def FnExactCrashLogSaid : Prop := fnExactCrashLogRow.holds Try.pinned (OpenSpec.ofChange fnExactCrashLogSpec)

/-- ITS FALSE NEIGHBOUR: 'it returns false'. Refute it at one input. -/
def fnExactCrashLogWrong : ChangeSpec := { name := "fnExactCrashLog", fn := fun _ => fun
  | [d1, d2, d3] => { results := [.lit (.bool false)], args := [d1, d2, d3] }
  | _ => none }
def FnExactCrashLogWrongFalsely : Prop := fnExactCrashLogRow.holds Try.pinned (OpenSpec.ofChange fnExactCrashLogWrong)

/-- 'laws.FnExactAppendRecord': WHATEVER THE INPUT: true; the input reads as it did. -/
def fnExactAppendRecordSpec : ChangeSpec := { name := "fnExactAppendRecord", fn := fun _ => fun
  | [d1, d2] => { results := [.lit (.bool true)], args := [d1, d2] }
  | _ => none }
def fnExactAppendRecordRow : OpenClaim := { program := "ytafdeppeacmpdaa", sum := "31b3f1fb5eb7b2fc872097f06d71c3470b4f0ae8185e132b933d00c64ff718ba", func := "loop.example/g01103/laws.FnExactAppendRecord", spec := "fnExactAppendRecord", recurses := true, apart := false }
def FnExactAppendRecordSaid : Prop := fnExactAppendRecordRow.holds Try.pinned (OpenSpec.ofChange fnExactAppendRecordSpec)

/-- ITS FALSE NEIGHBOUR: 'it returns false'. Refute it at one input. -/
def fnExactAppendRecordWrong : ChangeSpec := { name := "fnExactAppendRecord", fn := fun _ => fun
  | [d1, d2] => { results := [.lit (.bool false)], args := [d1, d2] }
  | _ => none }
def FnExactAppendRecordWrongFalsely : Prop := fnExactAppendRecordRow.holds Try.pinned (OpenSpec.ofChange fnExactAppendRecordWrong)

/-- 'laws.FnExactLogRecords': WHATEVER THE INPUT: true; the input reads as it did. -/
def fnExactLogRecordsSpec : ChangeSpec := { name := "fnExactLogRecords", fn := fun _ => fun
  | [d] => { results := [.lit (.bool true)], args := [d] }
  | _ => none }
def fnExactLogRecordsRow : OpenClaim := { program := "ytafdeppeacmpdaa", sum := "31b3f1fb5eb7b2fc872097f06d71c3470b4f0ae8185e132b933d00c64ff718ba", func := "loop.example/g01103/laws.FnExactLogRecords", spec := "fnExactLogRecords", recurses := true, apart := false }
def FnExactLogRecordsSaid : Prop := fnExactLogRecordsRow.holds Try.pinned (OpenSpec.ofChange fnExactLogRecordsSpec)

/-- ITS FALSE NEIGHBOUR: 'it returns false'. Refute it at one input. -/
def fnExactLogRecordsWrong : ChangeSpec := { name := "fnExactLogRecords", fn := fun _ => fun
  | [d] => { results := [.lit (.bool false)], args := [d] }
  | _ => none }
def FnExactLogRecordsWrongFalsely : Prop := fnExactLogRecordsRow.holds Try.pinned (OpenSpec.ofChange fnExactLogRecordsWrong)

/-- 'laws.FnExactEndsSoFar': WHATEVER THE INPUT: true; the input reads as it did. -/
def fnExactEndsSoFarSpec : ChangeSpec := { name := "fnExactEndsSoFar", fn := fun _ => fun
  | [d] => { results := [.lit (.bool true)], args := [d] }
  | _ => none }
def fnExactEndsSoFarRow : OpenClaim := { program := "ytafdeppeacmpdaa", sum := "31b3f1fb5eb7b2fc872097f06d71c3470b4f0ae8185e132b933d00c64ff718ba", func := "loop.example/g01103/laws.FnExactEndsSoFar", spec := "fnExactEndsSoFar", apart := false }
def FnExactEndsSoFarSaid : Prop := fnExactEndsSoFarRow.holds Try.pinned (OpenSpec.ofChange fnExactEndsSoFarSpec)

/-- ITS FALSE NEIGHBOUR: 'it returns false'. Refute it at one input. -/
def fnExactEndsSoFarWrong : ChangeSpec := { name := "fnExactEndsSoFar", fn := fun _ => fun
  | [d] => { results := [.lit (.bool false)], args := [d] }
  | _ => none }
def FnExactEndsSoFarWrongFalsely : Prop := fnExactEndsSoFarRow.holds Try.pinned (OpenSpec.ofChange fnExactEndsSoFarWrong)

/-- 'laws.FnExactRunningJobs': WHATEVER THE INPUT: true; the input reads as it did. -/
def fnExactRunningJobsSpec : ChangeSpec := { name := "fnExactRunningJobs", fn := fun _ => fun
  | [d] => { results := [.lit (.bool true)], args := [d] }
  | _ => none }
def fnExactRunningJobsRow : OpenClaim := { program := "ytafdeppeacmpdaa", sum := "31b3f1fb5eb7b2fc872097f06d71c3470b4f0ae8185e132b933d00c64ff718ba", func := "loop.example/g01103/laws.FnExactRunningJobs", spec := "fnExactRunningJobs", apart := false }
def FnExactRunningJobsSaid : Prop := fnExactRunningJobsRow.holds Try.pinned (OpenSpec.ofChange fnExactRunningJobsSpec)

/-- ITS FALSE NEIGHBOUR: 'it returns false'. Refute it at one input. -/
def fnExactRunningJobsWrong : ChangeSpec := { name := "fnExactRunningJobs", fn := fun _ => fun
  | [d] => { results := [.lit (.bool false)], args := [d] }
  | _ => none }
def FnExactRunningJobsWrongFalsely : Prop := fnExactRunningJobsRow.holds Try.pinned (OpenSpec.ofChange fnExactRunningJobsWrong)

/-- 'laws.FnExactWaitingJobs': WHATEVER THE INPUT: true; the input reads as it did. -/
def fnExactWaitingJobsSpec : ChangeSpec := { name := "fnExactWaitingJobs", fn := fun _ => fun
  | [d] => { results := [.lit (.bool true)], args := [d] }
  | _ => none }
def fnExactWaitingJobsRow : OpenClaim := { program := "ytafdeppeacmpdaa", sum := "31b3f1fb5eb7b2fc872097f06d71c3470b4f0ae8185e132b933d00c64ff718ba", func := "loop.example/g01103/laws.FnExactWaitingJobs", spec := "fnExactWaitingJobs", apart := false }
def FnExactWaitingJobsSaid : Prop := fnExactWaitingJobsRow.holds Try.pinned (OpenSpec.ofChange fnExactWaitingJobsSpec)

/-- ITS FALSE NEIGHBOUR: 'it returns false'. Refute it at one input. -/
def fnExactWaitingJobsWrong : ChangeSpec := { name := "fnExactWaitingJobs", fn := fun _ => fun
  | [d] => { results := [.lit (.bool false)], args := [d] }
  | _ => none }
def FnExactWaitingJobsWrongFalsely : Prop := fnExactWaitingJobsRow.holds Try.pinned (OpenSpec.ofChange fnExactWaitingJobsWrong)

/-- 'laws.FnExactDispatchValue': WHATEVER THE INPUT: true; the input reads as it did. -/
def fnExactDispatchValueSpec : ChangeSpec := { name := "fnExactDispatchValue", fn := fun _ => fun
  | [d1, d2] => { results := [.lit (.bool true)], args := [d1, d2] }
  | _ => none }
def fnExactDispatchValueRow : OpenClaim := { program := "ytafdeppeacmpdaa", sum := "31b3f1fb5eb7b2fc872097f06d71c3470b4f0ae8185e132b933d00c64ff718ba", func := "loop.example/g01103/laws.FnExactDispatchValue", spec := "fnExactDispatchValue", apart := false }
def FnExactDispatchValueSaid : Prop := fnExactDispatchValueRow.holds Try.pinned (OpenSpec.ofChange fnExactDispatchValueSpec)

/-- ITS FALSE NEIGHBOUR: 'it returns false'. Refute it at one input. -/
def fnExactDispatchValueWrong : ChangeSpec := { name := "fnExactDispatchValue", fn := fun _ => fun
  | [d1, d2] => { results := [.lit (.bool false)], args := [d1, d2] }
  | _ => none }
def FnExactDispatchValueWrongFalsely : Prop := fnExactDispatchValueRow.holds Try.pinned (OpenSpec.ofChange fnExactDispatchValueWrong)

/-- 'laws.FnExactNewConsole': WHATEVER THE INPUT: true; the input reads as it did. -/
def fnExactNewConsoleSpec : ChangeSpec := { name := "fnExactNewConsole", fn := fun _ => fun
  | [d] => { results := [.lit (.bool true)], args := [d] }
  | _ => none }
def fnExactNewConsoleRow : OpenClaim := { program := "ytafdeppeacmpdaa", sum := "31b3f1fb5eb7b2fc872097f06d71c3470b4f0ae8185e132b933d00c64ff718ba", func := "loop.example/g01103/laws.FnExactNewConsole", spec := "fnExactNewConsole", apart := false }
def FnExactNewConsoleSaid : Prop := fnExactNewConsoleRow.holds Try.pinned (OpenSpec.ofChange fnExactNewConsoleSpec)

/-- ITS FALSE NEIGHBOUR: 'it returns false'. Refute it at one input. -/
def fnExactNewConsoleWrong : ChangeSpec := { name := "fnExactNewConsole", fn := fun _ => fun
  | [d] => { results := [.lit (.bool false)], args := [d] }
  | _ => none }
def FnExactNewConsoleWrongFalsely : Prop := fnExactNewConsoleRow.holds Try.pinned (OpenSpec.ofChange fnExactNewConsoleWrong)

/-- 'laws.FnExactIsValidConsole': WHATEVER THE INPUT: true; the input reads as it did. -/
def fnExactIsValidConsoleSpec : ChangeSpec := { name := "fnExactIsValidConsole", fn := fun _ => fun
  | [d] => { results := [.lit (.bool true)], args := [d] }
  | _ => none }
def fnExactIsValidConsoleRow : OpenClaim := { program := "ytafdeppeacmpdaa", sum := "31b3f1fb5eb7b2fc872097f06d71c3470b4f0ae8185e132b933d00c64ff718ba", func := "loop.example/g01103/laws.FnExactIsValidConsole", spec := "fnExactIsValidConsole", recurses := true, apart := false }
def FnExactIsValidConsoleSaid : Prop := fnExactIsValidConsoleRow.holds Try.pinned (OpenSpec.ofChange fnExactIsValidConsoleSpec)

/-- ITS FALSE NEIGHBOUR: 'it returns false'. Refute it at one input. -/
def fnExactIsValidConsoleWrong : ChangeSpec := { name := "fnExactIsValidConsole", fn := fun _ => fun
  | [d] => { results := [.lit (.bool false)], args := [d] }
  | _ => none }
def FnExactIsValidConsoleWrongFalsely : Prop := fnExactIsValidConsoleRow.holds Try.pinned (OpenSpec.ofChange fnExactIsValidConsoleWrong)

/-- 'laws.FnLogs': WHATEVER THE INPUT: true; the input reads as it did. -/
def fnLogsSpec : ChangeSpec := { name := "fnLogs", fn := fun _ => fun
  | [d] => { results := [.lit (.bool true)], args := [d] }
  | _ => none }
def fnLogsRow : OpenClaim := { program := "ytafdeppeacmpdaa", sum := "31b3f1fb5eb7b2fc872097f06d71c3470b4f0ae8185e132b933d00c64ff718ba", func := "loop.example/g01103/laws.FnLogs", spec := "fnLogs", recurses := true, apart := false }
def FnLogsSaid : Prop := fnLogsRow.holds Try.pinned (OpenSpec.ofChange fnLogsSpec)

/-- ITS FALSE NEIGHBOUR: 'it returns false'. Refute it at one input. -/
def fnLogsWrong : ChangeSpec := { name := "fnLogs", fn := fun _ => fun
  | [d] => { results := [.lit (.bool false)], args := [d] }
  | _ => none }
def FnLogsWrongFalsely : Prop := fnLogsRow.holds Try.pinned (OpenSpec.ofChange fnLogsWrong)

/-- 'laws.FnCrashes': WHATEVER THE INPUT: true; the input reads as it did. -/
def fnCrashesSpec : ChangeSpec := { name := "fnCrashes", fn := fun _ => fun
  | [d] => { results := [.lit (.bool true)], args := [d] }
  | _ => none }
def fnCrashesRow : OpenClaim := { program := "ytafdeppeacmpdaa", sum := "31b3f1fb5eb7b2fc872097f06d71c3470b4f0ae8185e132b933d00c64ff718ba", func := "loop.example/g01103/laws.FnCrashes", spec := "fnCrashes", recurses := true, apart := false }
def FnCrashesSaid : Prop := fnCrashesRow.holds Try.pinned (OpenSpec.ofChange fnCrashesSpec)

/-- ITS FALSE NEIGHBOUR: 'it returns false'. Refute it at one input. -/
def fnCrashesWrong : ChangeSpec := { name := "fnCrashes", fn := fun _ => fun
  | [d] => { results := [.lit (.bool false)], args := [d] }
  | _ => none }
def FnCrashesWrongFalsely : Prop := fnCrashesRow.holds Try.pinned (OpenSpec.ofChange fnCrashesWrong)

/- THE SECOND FORM. 'bulk': how many values and letters a reading holds, each counted each time it is reached (what is shared counts as often as it is met; a slice's spare places count too). A statement '..UptoSaid' is the law's where the arguments, and the package variables that the reading takes, are together of bulk at most 1048576: NARROWER than '..Said'. Prove '..Said' where nothing that the law and all that it calls make is longer than what came in: it says more and counts as full. Else prove '..UptoSaid'. A law counts once. -/
mutual
def uptoBulk {H : Type} : DataW H → Nat
  | .lit (.string bytes) => bytes.length + 1
  | .lit _ => 1
  | .nil => 1
  | .ptr d => uptoBulk d + 1
  | .slice elems spare => uptoBulkAll elems + uptoBulkAll spare + 1
  | .agg parts => uptoBulkAll parts + 1
  | .iface _ d => uptoBulk d + 1
  | .map entries => uptoBulkEntries entries + 1
  | .held _ => 1
def uptoBulkAll {H : Type} : List (DataW H) → Nat
  | [] => 0
  | d :: r => uptoBulk d + uptoBulkAll r
def uptoBulkEntries {H : Type} : List (Lit × DataW H) → Nat
  | [] => 0
  | x :: r => uptoBulkEntry x + uptoBulkEntries r
def uptoBulkEntry {H : Type} : Lit × DataW H → Nat
  | (.string bytes, d) => bytes.length + uptoBulk d + 1
  | (_, d) => uptoBulk d + 1
 end
def uptoSmall : (H : Type) → List (DataW H) → Bool := fun _ ds => decide (uptoBulkAll ds ≤ 1048576)
def OpenSpec.upto (s : _root_.Go.ChangeSpec) : _root_.Go.OpenSpec := { _root_.Go.OpenSpec.ofChange s with cond := some uptoSmall }

/-- 'laws.FnExactNewDispatcher', WHERE WHAT IT READS IS OF BULK AT MOST 1048576: true; the input reads as it did. -/
def fnExactNewDispatcherUptoRow : OpenClaim := { program := "ytafdeppeacmpdaa", sum := "31b3f1fb5eb7b2fc872097f06d71c3470b4f0ae8185e132b933d00c64ff718ba", func := "loop.example/g01103/laws.FnExactNewDispatcher", spec := "fnExactNewDispatcher", apart := false, narrowed := true }
def FnExactNewDispatcherUptoSaid : Prop := fnExactNewDispatcherUptoRow.holds Try.pinned (OpenSpec.upto fnExactNewDispatcherSpec)

/-- 'laws.FnExactSyncLog', WHERE WHAT IT READS IS OF BULK AT MOST 1048576: true; the input reads as it did. -/
def fnExactSyncLogUptoRow : OpenClaim := { program := "ytafdeppeacmpdaa", sum := "31b3f1fb5eb7b2fc872097f06d71c3470b4f0ae8185e132b933d00c64ff718ba", func := "loop.example/g01103/laws.FnExactSyncLog", spec := "fnExactSyncLog", recurses := true, apart := false, narrowed := true }
def FnExactSyncLogUptoSaid : Prop := fnExactSyncLogUptoRow.holds Try.pinned (OpenSpec.upto fnExactSyncLogSpec)

/-- 'laws.FnExactCrashLog', WHERE WHAT IT READS IS OF BULK AT MOST 1048576: true; the input reads as it did. -/
def fnExactCrashLogUptoRow : OpenClaim := { program := "ytafdeppeacmpdaa", sum := "31b3f1fb5eb7b2fc872097f06d71c3470b4f0ae8185e132b933d00c64ff718ba", func := "loop.example/g01103/laws.FnExactCrashLog", spec := "fnExactCrashLog", recurses := true, apart := false, narrowed := true }
def FnExactCrashLogUptoSaid : Prop := fnExactCrashLogUptoRow.holds Try.pinned (OpenSpec.upto fnExactCrashLogSpec)

/-- 'laws.FnExactAppendRecord', WHERE WHAT IT READS IS OF BULK AT MOST 1048576: true; the input reads as it did. -/
def fnExactAppendRecordUptoRow : OpenClaim := { program := "ytafdeppeacmpdaa", sum := "31b3f1fb5eb7b2fc872097f06d71c3470b4f0ae8185e132b933d00c64ff718ba", func := "loop.example/g01103/laws.FnExactAppendRecord", spec := "fnExactAppendRecord", recurses := true, apart := false, narrowed := true }
def FnExactAppendRecordUptoSaid : Prop := fnExactAppendRecordUptoRow.holds Try.pinned (OpenSpec.upto fnExactAppendRecordSpec)

/-- 'laws.FnExactLogRecords', WHERE WHAT IT READS IS OF BULK AT MOST 1048576: true; the input reads as it did. -/
def fnExactLogRecordsUptoRow : OpenClaim := { program := "ytafdeppeacmpdaa", sum := "31b3f1fb5eb7b2fc872097f06d71c3470b4f0ae8185e132b933d00c64ff718ba", func := "loop.example/g01103/laws.FnExactLogRecords", spec := "fnExactLogRecords", recurses := true, apart := false, narrowed := true }
def FnExactLogRecordsUptoSaid : Prop := fnExactLogRecordsUptoRow.holds Try.pinned (OpenSpec.upto fnExactLogRecordsSpec)

/-- 'laws.FnExactEndsSoFar', WHERE WHAT IT READS IS OF BULK AT MOST 1048576: true; the input reads as it did. -/
def fnExactEndsSoFarUptoRow : OpenClaim := { program := "ytafdeppeacmpdaa", sum := "31b3f1fb5eb7b2fc872097f06d71c3470b4f0ae8185e132b933d00c64ff718ba", func := "loop.example/g01103/laws.FnExactEndsSoFar", spec := "fnExactEndsSoFar", apart := false, narrowed := true }
def FnExactEndsSoFarUptoSaid : Prop := fnExactEndsSoFarUptoRow.holds Try.pinned (OpenSpec.upto fnExactEndsSoFarSpec)

/-- 'laws.FnExactRunningJobs', WHERE WHAT IT READS IS OF BULK AT MOST 1048576: true; the input reads as it did. -/
def fnExactRunningJobsUptoRow : OpenClaim := { program := "ytafdeppeacmpdaa", sum := "31b3f1fb5eb7b2fc872097f06d71c3470b4f0ae8185e132b933d00c64ff718ba", func := "loop.example/g01103/laws.FnExactRunningJobs", spec := "fnExactRunningJobs", apart := false, narrowed := true }
def FnExactRunningJobsUptoSaid : Prop := fnExactRunningJobsUptoRow.holds Try.pinned (OpenSpec.upto fnExactRunningJobsSpec)

/-- 'laws.FnExactWaitingJobs', WHERE WHAT IT READS IS OF BULK AT MOST 1048576: true; the input reads as it did. -/
def fnExactWaitingJobsUptoRow : OpenClaim := { program := "ytafdeppeacmpdaa", sum := "31b3f1fb5eb7b2fc872097f06d71c3470b4f0ae8185e132b933d00c64ff718ba", func := "loop.example/g01103/laws.FnExactWaitingJobs", spec := "fnExactWaitingJobs", apart := false, narrowed := true }
def FnExactWaitingJobsUptoSaid : Prop := fnExactWaitingJobsUptoRow.holds Try.pinned (OpenSpec.upto fnExactWaitingJobsSpec)

/-- 'laws.FnExactDispatchValue', WHERE WHAT IT READS IS OF BULK AT MOST 1048576: true; the input reads as it did. -/
def fnExactDispatchValueUptoRow : OpenClaim := { program := "ytafdeppeacmpdaa", sum := "31b3f1fb5eb7b2fc872097f06d71c3470b4f0ae8185e132b933d00c64ff718ba", func := "loop.example/g01103/laws.FnExactDispatchValue", spec := "fnExactDispatchValue", apart := false, narrowed := true }
def FnExactDispatchValueUptoSaid : Prop := fnExactDispatchValueUptoRow.holds Try.pinned (OpenSpec.upto fnExactDispatchValueSpec)

/-- 'laws.FnExactNewConsole', WHERE WHAT IT READS IS OF BULK AT MOST 1048576: true; the input reads as it did. -/
def fnExactNewConsoleUptoRow : OpenClaim := { program := "ytafdeppeacmpdaa", sum := "31b3f1fb5eb7b2fc872097f06d71c3470b4f0ae8185e132b933d00c64ff718ba", func := "loop.example/g01103/laws.FnExactNewConsole", spec := "fnExactNewConsole", apart := false, narrowed := true }
def FnExactNewConsoleUptoSaid : Prop := fnExactNewConsoleUptoRow.holds Try.pinned (OpenSpec.upto fnExactNewConsoleSpec)

/-- 'laws.FnExactIsValidConsole', WHERE WHAT IT READS IS OF BULK AT MOST 1048576: true; the input reads as it did. -/
def fnExactIsValidConsoleUptoRow : OpenClaim := { program := "ytafdeppeacmpdaa", sum := "31b3f1fb5eb7b2fc872097f06d71c3470b4f0ae8185e132b933d00c64ff718ba", func := "loop.example/g01103/laws.FnExactIsValidConsole", spec := "fnExactIsValidConsole", recurses := true, apart := false, narrowed := true }
def FnExactIsValidConsoleUptoSaid : Prop := fnExactIsValidConsoleUptoRow.holds Try.pinned (OpenSpec.upto fnExactIsValidConsoleSpec)

/-- 'laws.FnLogs', WHERE WHAT IT READS IS OF BULK AT MOST 1048576: true; the input reads as it did. -/
def fnLogsUptoRow : OpenClaim := { program := "ytafdeppeacmpdaa", sum := "31b3f1fb5eb7b2fc872097f06d71c3470b4f0ae8185e132b933d00c64ff718ba", func := "loop.example/g01103/laws.FnLogs", spec := "fnLogs", recurses := true, apart := false, narrowed := true }
def FnLogsUptoSaid : Prop := fnLogsUptoRow.holds Try.pinned (OpenSpec.upto fnLogsSpec)

/-- 'laws.FnCrashes', WHERE WHAT IT READS IS OF BULK AT MOST 1048576: true; the input reads as it did. -/
def fnCrashesUptoRow : OpenClaim := { program := "ytafdeppeacmpdaa", sum := "31b3f1fb5eb7b2fc872097f06d71c3470b4f0ae8185e132b933d00c64ff718ba", func := "loop.example/g01103/laws.FnCrashes", spec := "fnCrashes", recurses := true, apart := false, narrowed := true }
def FnCrashesUptoSaid : Prop := fnCrashesUptoRow.holds Try.pinned (OpenSpec.upto fnCrashesSpec)

end Rows
end Go.Proofs.Ytafdeppeacmpdaa
