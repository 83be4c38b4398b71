-- Written by a program of this session (wip/gen/xp.py, over the kit's printer). Not trusted: Lean checks it.
import Derived.Test.YtbkijojojjdgcaaXO
import Derived.Test.YtbkijojojjdgcaaXf3
namespace Go.Proofs.Ytbkijojojjdgcaa.X
open Go.RowKit Go.Proofs.YtbkijojojjdgcaaW.PrintWords Go.Proofs.YtbkijojojjdgcaaW.PrintLast Go.Proofs.Ytbkijojojjdgcaa.XRow
/-- What is left of the law FnExactArcsBound: numbers and lists alone. -/
def laws_FnExactArcsBound.Pure : Prop := ∀ (a0_0 : Int) (l0_1 : List (List (S74))) (l1 : List (S47)), I64 a0_0 → (l0_1.length ≤ maxLen ∧ ∀ y ∈ l0_1, (y.length ≤ maxLen ∧ ∀ yy ∈ y, ok74 yy)) → l1.length ≤ maxLen → (∀ y ∈ l1, ok47 y) → ∃ k, laws_FnExactArcsBound.f k a0_0 l0_1 l1 = some true
end Go.Proofs.Ytbkijojojjdgcaa.X
