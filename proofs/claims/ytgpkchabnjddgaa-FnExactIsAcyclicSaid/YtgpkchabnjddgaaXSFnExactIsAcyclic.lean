-- Written by a program of this session (wip/gen/xp.py, over the kit's printer). Not trusted: Lean checks it.
import Derived.Test.YtgpkchabnjddgaaXO
import Derived.Test.YtgpkchabnjddgaaXf3
namespace Go.Proofs.Ytgpkchabnjddgaa.X
open Go.RowKit Go.Proofs.YtgpkchabnjddgaaW.PrintWords Go.Proofs.YtgpkchabnjddgaaW.PrintLast Go.Proofs.Ytgpkchabnjddgaa.XRow
/-- What is left of the law FnExactIsAcyclic: numbers and lists alone. -/
def laws_FnExactIsAcyclic.Pure : Prop := ∀ (a0_0 : Int) (l0_1 : List (List (S82))) (l1 : List (List Int)), I64 a0_0 → (l0_1.length ≤ maxLen ∧ ∀ y ∈ l0_1, (y.length ≤ maxLen ∧ ∀ yy ∈ y, ok82 yy)) → l1.length ≤ maxLen → (∀ y ∈ l1, (y.length ≤ maxLen ∧ ∀ yy ∈ y, I64 yy)) → ∃ k, laws_FnExactIsAcyclic.f k a0_0 l0_1 l1 = some true
end Go.Proofs.Ytgpkchabnjddgaa.X
