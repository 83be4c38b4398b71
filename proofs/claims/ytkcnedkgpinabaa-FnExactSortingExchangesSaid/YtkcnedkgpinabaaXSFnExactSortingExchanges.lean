-- Written by a program of this session (wip/gen/xp.py, over the kit's printer). Not trusted: Lean checks it.
import Derived.Test.YtkcnedkgpinabaaXO
import Derived.Test.YtkcnedkgpinabaaXf10
namespace Go.Proofs.Ytkcnedkgpinabaa.X
open Go.RowKit Go.Proofs.YtkcnedkgpinabaaW.PrintWords Go.Proofs.YtkcnedkgpinabaaW.PrintLast Go.Proofs.Ytkcnedkgpinabaa.XRow
/-- What is left of the law FnExactSortingExchanges: numbers and lists alone. -/
def laws_FnExactSortingExchanges.Pure : Prop := ∀ (l0 : List (S129)) (l1 : List (Int)) (a2 : Int), l0.length ≤ maxLen → (∀ y ∈ l0, ok129 y) → l1.length ≤ maxLen → (∀ y ∈ l1, I64 y) → I64 a2 → ∃ k, laws_FnExactSortingExchanges.f k l0 l1 a2 = some true
end Go.Proofs.Ytkcnedkgpinabaa.X
