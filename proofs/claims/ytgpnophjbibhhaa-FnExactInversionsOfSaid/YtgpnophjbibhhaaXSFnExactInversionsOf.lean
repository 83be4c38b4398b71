-- Written by a program of this session (wip/gen/xp.py, over the kit's printer). Not trusted: Lean checks it.
import Derived.Test.YtgpnophjbibhhaaXO
import Derived.Test.YtgpnophjbibhhaaXf11
namespace Go.Proofs.Ytgpnophjbibhhaa.X
open Go.RowKit Go.Proofs.YtgpnophjbibhhaaW.PrintWords Go.Proofs.YtgpnophjbibhhaaW.PrintLast Go.Proofs.Ytgpnophjbibhhaa.XRow
/-- What is left of the law FnExactInversionsOf: numbers and lists alone. -/
def laws_FnExactInversionsOf.Pure : Prop := ∀ (l0 : List (S96)) (l1 : List (Int)) (a2 : Int), l0.length ≤ maxLen → (∀ y ∈ l0, ok96 y) → l1.length ≤ maxLen → (∀ y ∈ l1, I64 y) → I64 a2 → ∃ k, laws_FnExactInversionsOf.f k l0 l1 a2 = some true
end Go.Proofs.Ytgpnophjbibhhaa.X
