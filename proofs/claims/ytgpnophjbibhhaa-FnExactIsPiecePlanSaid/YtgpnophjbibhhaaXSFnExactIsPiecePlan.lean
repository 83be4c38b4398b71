-- Written by a program of this session (wip/gen/xp.py, over the kit's printer). Not trusted: Lean checks it.
import Derived.Test.YtgpnophjbibhhaaXO
import Derived.Test.YtgpnophjbibhhaaXf8
namespace Go.Proofs.Ytgpnophjbibhhaa.X
open Go.RowKit Go.Proofs.YtgpnophjbibhhaaW.PrintWords Go.Proofs.YtgpnophjbibhhaaW.PrintLast Go.Proofs.Ytgpnophjbibhhaa.XRow
/-- What is left of the law FnExactIsPiecePlan: numbers and lists alone. -/
def laws_FnExactIsPiecePlan.Pure : Prop := ∀ (l0 : List (List Int)) (l1 : List (S119)), l0.length ≤ maxLen → (∀ y ∈ l0, (y.length ≤ maxLen ∧ ∀ yy ∈ y, I64 yy)) → l1.length ≤ maxLen → (∀ y ∈ l1, ok119 y) → ∃ k, laws_FnExactIsPiecePlan.f k l0 l1 = some true
end Go.Proofs.Ytgpnophjbibhhaa.X
