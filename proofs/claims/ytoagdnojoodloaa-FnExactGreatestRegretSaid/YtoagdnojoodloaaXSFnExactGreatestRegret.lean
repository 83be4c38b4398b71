-- Written by a program of this session (wip/gen/xp.py, over the kit's printer). Not trusted: Lean checks it.
import Derived.Test.YtoagdnojoodloaaXO
import Derived.Test.YtoagdnojoodloaaXf6
namespace Go.Proofs.Ytoagdnojoodloaa.X
open Go.RowKit Go.Proofs.YtoagdnojoodloaaW.PrintWords Go.Proofs.YtoagdnojoodloaaW.PrintLast Go.Proofs.Ytoagdnojoodloaa.XRow
/-- What is left of the law FnExactGreatestRegret: numbers and lists alone. -/
def laws_FnExactGreatestRegret.Pure : Prop := ∀ (l0 : List (List (S63))) (l1 : List (Int)) (a2 : Int), l0.length ≤ maxLen → (∀ y ∈ l0, (y.length ≤ maxLen ∧ ∀ yy ∈ y, ok63 yy)) → l1.length ≤ maxLen → (∀ y ∈ l1, I64 y) → I64 a2 → ∃ k, laws_FnExactGreatestRegret.f k l0 l1 a2 = some true
end Go.Proofs.Ytoagdnojoodloaa.X
