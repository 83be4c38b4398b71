-- Written by a program of this session (wip/gen/xp.py, over the kit's printer). Not trusted: Lean checks it.
import Derived.Test.YteakcfnhigaffaaRows
import Derived.WalkKit
import Derived.ProofKit
/-! Facts of the whole program, reckoned once for all rows of the seat. -/
namespace Go.Proofs.Yteakcfnhigaffaa.XP
theorem may : Try.prog.mayEnter = true := by kernel_rfl
theorem lifts : Try.prog.liftsFinal = Rows.fnLogsRow.lifted := by kernel_rfl
theorem makes : Try.prog.make = some Rows.fnLogsRow.make := by kernel_rfl
end Go.Proofs.Yteakcfnhigaffaa.XP
