-- Written by a program of this session (wip/gen/xp.py, over the kit's printer). Not trusted: Lean checks it.
import Derived.Test.YtgpnophjbibhhaaXO
import Derived.Test.YtgpnophjbibhhaaXf9
namespace Go.Proofs.Ytgpnophjbibhhaa.X
open Go.RowKit Go.Proofs.YtgpnophjbibhhaaW.PrintWords Go.Proofs.YtgpnophjbibhhaaW.PrintLast Go.Proofs.Ytgpnophjbibhhaa.XRow
/-- What is left of the law FnExactCriticalPart: numbers and lists alone. -/
def laws_FnExactCriticalPart.Pure : Prop := ∀ (l0 : List (S96)), l0.length ≤ maxLen → (∀ y ∈ l0, ok96 y) → ∃ k, laws_FnExactCriticalPart.f k l0 = some true
end Go.Proofs.Ytgpnophjbibhhaa.X
