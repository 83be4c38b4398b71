-- Written by a program of this session (wip/gen/xp.py, over the kit's printer). Not trusted: Lean checks it.
import Derived.Test.YtphhfdofmicejaaXO
import Derived.Test.YtphhfdofmicejaaXf3
namespace Go.Proofs.Ytphhfdofmicejaa.X
open Go.RowKit Go.Proofs.YtphhfdofmicejaaW.PrintWords Go.Proofs.YtphhfdofmicejaaW.PrintLast Go.Proofs.Ytphhfdofmicejaa.XRow
/-- What is left of the law FnExactLateRule: numbers and lists alone. -/
def laws_FnExactLateRule.Pure : Prop := ∀ (l0 : List (S44)), l0.length ≤ maxLen → (∀ y ∈ l0, ok44 y) → ∃ k, laws_FnExactLateRule.f k l0 = some true
end Go.Proofs.Ytphhfdofmicejaa.X
