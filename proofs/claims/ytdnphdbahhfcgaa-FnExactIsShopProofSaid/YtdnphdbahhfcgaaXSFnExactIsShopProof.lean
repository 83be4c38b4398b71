-- Written by a program of this session (wip/gen/xp.py, over the kit's printer). Not trusted: Lean checks it.
import Derived.Test.YtdnphdbahhfcgaaXO
import Derived.Test.YtdnphdbahhfcgaaXf3
namespace Go.Proofs.Ytdnphdbahhfcgaa.X
open Go.RowKit Go.Proofs.YtdnphdbahhfcgaaW.PrintWords Go.Proofs.YtdnphdbahhfcgaaW.PrintLast Go.Proofs.Ytdnphdbahhfcgaa.XRow
/-- What is left of the law FnExactIsShopProof: numbers and lists alone. -/
def laws_FnExactIsShopProof.Pure : Prop := ∀ (a0_0 : Int) (l0_1 : List (List (S75))) (a1 : Int) (l2 : List (S43)), I64 a0_0 → (l0_1.length ≤ maxLen ∧ ∀ y ∈ l0_1, (y.length ≤ maxLen ∧ ∀ yy ∈ y, ok75 yy)) → I64 a1 → l2.length ≤ maxLen → (∀ y ∈ l2, ok43 y) → ∃ k, laws_FnExactIsShopProof.f k a0_0 l0_1 a1 l2 = some true
end Go.Proofs.Ytdnphdbahhfcgaa.X
