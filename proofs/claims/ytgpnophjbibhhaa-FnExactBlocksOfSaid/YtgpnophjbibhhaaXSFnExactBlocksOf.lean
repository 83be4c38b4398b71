-- Written by a program of this session (wip/gen/xp.py, over the kit's printer). Not trusted: Lean checks it.
import Derived.Test.YtgpnophjbibhhaaXO
import Derived.Test.YtgpnophjbibhhaaXf5
namespace Go.Proofs.Ytgpnophjbibhhaa.X
open Go.RowKit Go.Proofs.YtgpnophjbibhhaaW.PrintWords Go.Proofs.YtgpnophjbibhhaaW.PrintLast Go.Proofs.Ytgpnophjbibhhaa.XRow
/-- What is left of the law FnExactBlocksOf: numbers and lists alone. -/
def laws_FnExactBlocksOf.Pure : Prop := ∀ (l0 : List (S96)) (l1 : List (Int)), l0.length ≤ maxLen → (∀ y ∈ l0, ok96 y) → l1.length ≤ maxLen → (∀ y ∈ l1, I64 y) → ∃ k, laws_FnExactBlocksOf.f k l0 l1 = some true
end Go.Proofs.Ytgpnophjbibhhaa.X
