-- Written by a program of this session (wip/gen/xp.py, over the kit's printer). Not trusted: Lean checks it.
import Derived.Test.YtgpnophjbibhhaaXO
import Derived.Test.YtgpnophjbibhhaaXf7
namespace Go.Proofs.Ytgpnophjbibhhaa.X
open Go.RowKit Go.Proofs.YtgpnophjbibhhaaW.PrintWords Go.Proofs.YtgpnophjbibhhaaW.PrintLast Go.Proofs.Ytgpnophjbibhhaa.XRow
/-- What is left of the law FnExactOpsOn: numbers and lists alone. -/
def laws_FnExactOpsOn.Pure : Prop := ∀ (a0_0 : Int) (l0_1 : List (List (S165))) (a1 : Int), I64 a0_0 → (l0_1.length ≤ maxLen ∧ ∀ y ∈ l0_1, (y.length ≤ maxLen ∧ ∀ yy ∈ y, ok165 yy)) → I64 a1 → ∃ k, laws_FnExactOpsOn.f k a0_0 l0_1 a1 = some true
end Go.Proofs.Ytgpnophjbibhhaa.X
