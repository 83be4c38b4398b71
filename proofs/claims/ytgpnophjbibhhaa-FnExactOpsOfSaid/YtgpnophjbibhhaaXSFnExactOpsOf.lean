-- Written by a program of this session (wip/gen/xp.py, over the kit's printer). Not trusted: Lean checks it.
import Derived.Test.YtgpnophjbibhhaaXO
import Derived.Test.YtgpnophjbibhhaaXf6
namespace Go.Proofs.Ytgpnophjbibhhaa.X
open Go.RowKit Go.Proofs.YtgpnophjbibhhaaW.PrintWords Go.Proofs.YtgpnophjbibhhaaW.PrintLast Go.Proofs.Ytgpnophjbibhhaa.XRow
/-- What is left of the law FnExactOpsOf: numbers and lists alone. -/
def laws_FnExactOpsOf.Pure : Prop := ∀ (a0_0 : Int) (l0_1 : List (List (S165))), I64 a0_0 → (l0_1.length ≤ maxLen ∧ ∀ y ∈ l0_1, (y.length ≤ maxLen ∧ ∀ yy ∈ y, ok165 yy)) → ∃ k, laws_FnExactOpsOf.f k a0_0 l0_1 = some true
end Go.Proofs.Ytgpnophjbibhhaa.X
