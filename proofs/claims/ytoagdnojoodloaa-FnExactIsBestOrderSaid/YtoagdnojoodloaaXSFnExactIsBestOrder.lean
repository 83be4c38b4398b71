-- Written by a program of this session (wip/gen/xp.py, over the kit's printer). Not trusted: Lean checks it.
import Derived.Test.YtoagdnojoodloaaXO
import Derived.Test.YtoagdnojoodloaaXf3
namespace Go.Proofs.Ytoagdnojoodloaa.X
open Go.RowKit Go.Proofs.YtoagdnojoodloaaW.PrintWords Go.Proofs.YtoagdnojoodloaaW.PrintLast Go.Proofs.Ytoagdnojoodloaa.XRow
/-- What is left of the law FnExactIsBestOrder: numbers and lists alone. -/
def laws_FnExactIsBestOrder.Pure : Prop := ∀ (l0 : List (S63)) (l1 : List (Int)) (a2 : Int), l0.length ≤ maxLen → (∀ y ∈ l0, ok63 y) → l1.length ≤ maxLen → (∀ y ∈ l1, I64 y) → I64 a2 → ∃ k, laws_FnExactIsBestOrder.f k l0 l1 a2 = some true
end Go.Proofs.Ytoagdnojoodloaa.X
