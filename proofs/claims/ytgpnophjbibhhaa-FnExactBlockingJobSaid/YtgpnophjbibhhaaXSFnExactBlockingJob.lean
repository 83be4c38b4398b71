-- Written by a program of this session (wip/gen/xp.py, over the kit's printer). Not trusted: Lean checks it.
import Derived.Test.YtgpnophjbibhhaaXO
import Derived.Test.YtgpnophjbibhhaaXf4
namespace Go.Proofs.Ytgpnophjbibhhaa.X
open Go.RowKit Go.Proofs.YtgpnophjbibhhaaW.PrintWords Go.Proofs.YtgpnophjbibhhaaW.PrintLast Go.Proofs.Ytgpnophjbibhhaa.XRow
/-- What is left of the law FnExactBlockingJob: numbers and lists alone. -/
def laws_FnExactBlockingJob.Pure : Prop := ∀ (l0 : List (S96)), l0.length ≤ maxLen → (∀ y ∈ l0, ok96 y) → ∃ k, laws_FnExactBlockingJob.f k l0 = some true
end Go.Proofs.Ytgpnophjbibhhaa.X
