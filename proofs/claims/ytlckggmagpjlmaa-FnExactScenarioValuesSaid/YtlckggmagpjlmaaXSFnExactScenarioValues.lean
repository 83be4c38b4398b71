-- Written by a program of this session (wip/gen/xp.py, over the kit's printer). Not trusted: Lean checks it.
import Derived.Test.YtlckggmagpjlmaaXO
import Derived.Test.YtlckggmagpjlmaaXf3
namespace Go.Proofs.Ytlckggmagpjlmaa.X
open Go.RowKit Go.Proofs.YtlckggmagpjlmaaW.PrintWords Go.Proofs.YtlckggmagpjlmaaW.PrintLast Go.Proofs.Ytlckggmagpjlmaa.XRow
/-- What is left of the law FnExactScenarioValues: numbers and lists alone. -/
def laws_FnExactScenarioValues.Pure : Prop := ∀ (l0 : List (List (S51))) (l1 : List (Int)) (a2 : Int), l0.length ≤ maxLen → (∀ y ∈ l0, (y.length ≤ maxLen ∧ ∀ yy ∈ y, ok51 yy)) → l1.length ≤ maxLen → (∀ y ∈ l1, I64 y) → I64 a2 → ∃ k, laws_FnExactScenarioValues.f k l0 l1 a2 = some true
end Go.Proofs.Ytlckggmagpjlmaa.X
