-- Written by a program of this session (wip/gen/xp.py, over the kit's printer). Not trusted: Lean checks it.
import Derived.Test.YtkcnedkgpinabaaXO
import Derived.Test.YtkcnedkgpinabaaXf4
namespace Go.Proofs.Ytkcnedkgpinabaa.X
open Go.RowKit Go.Proofs.YtkcnedkgpinabaaW.PrintWords Go.Proofs.YtkcnedkgpinabaaW.PrintLast Go.Proofs.Ytkcnedkgpinabaa.XRow
/-- What is left of the law FnExactSplitOf: numbers and lists alone. -/
def laws_FnExactSplitOf.Pure : Prop := ∀ (l0 : List (S129)) (l1 : List (Int)), l0.length ≤ maxLen → (∀ y ∈ l0, ok129 y) → l1.length ≤ maxLen → (∀ y ∈ l1, I64 y) → ∃ k, laws_FnExactSplitOf.f k l0 l1 = some true
end Go.Proofs.Ytkcnedkgpinabaa.X
