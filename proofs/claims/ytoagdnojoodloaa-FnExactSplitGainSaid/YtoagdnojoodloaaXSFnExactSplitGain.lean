-- Written by a program of this session (wip/gen/xp.py, over the kit's printer). Not trusted: Lean checks it.
import Derived.Test.YtoagdnojoodloaaXO
import Derived.Test.YtoagdnojoodloaaXf4
namespace Go.Proofs.Ytoagdnojoodloaa.X
open Go.RowKit Go.Proofs.YtoagdnojoodloaaW.PrintWords Go.Proofs.YtoagdnojoodloaaW.PrintLast Go.Proofs.Ytoagdnojoodloaa.XRow
/-- What is left of the law FnExactSplitGain: numbers and lists alone. -/
def laws_FnExactSplitGain.Pure : Prop := ∀ (l0 : List (S63)) (a1 : Int), l0.length ≤ maxLen → (∀ y ∈ l0, ok63 y) → I64 a1 → ∃ k, laws_FnExactSplitGain.f k l0 a1 = some true
end Go.Proofs.Ytoagdnojoodloaa.X
