-- Written by a program of this session (wip/gen/xp.py, over the kit's printer). Not trusted: Lean checks it.
import Derived.Test.YteakcfnhigaffaaXO
import Derived.Test.YteakcfnhigaffaaXf3
namespace Go.Proofs.Yteakcfnhigaffaa.X
open Go.RowKit Go.Proofs.YteakcfnhigaffaaW.PrintWords Go.Proofs.YteakcfnhigaffaaW.PrintLast Go.Proofs.Yteakcfnhigaffaa.XRow
/-- What is left of the law FnLogs: numbers and lists alone. -/
def laws_FnLogs.Pure : Prop := ∀ (l0 : List (Int)), l0.length ≤ maxLen → (∀ y ∈ l0, (Lit.int .u8 y).wf = true) → ∃ k, laws_FnLogs.f k l0 = some true
end Go.Proofs.Yteakcfnhigaffaa.X
