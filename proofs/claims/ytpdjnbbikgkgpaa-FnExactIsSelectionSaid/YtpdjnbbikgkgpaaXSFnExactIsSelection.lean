-- Written by a program of this session (wip/gen/xp.py, over the kit's printer). Not trusted: Lean checks it.
import Derived.Test.YtpdjnbbikgkgpaaXO
import Derived.Test.YtpdjnbbikgkgpaaXf6
namespace Go.Proofs.Ytpdjnbbikgkgpaa.X
open Go.RowKit Go.Proofs.YtpdjnbbikgkgpaaW.PrintWords Go.Proofs.YtpdjnbbikgkgpaaW.PrintLast Go.Proofs.Ytpdjnbbikgkgpaa.XRow
/-- What is left of the law FnExactIsSelection: numbers and lists alone. -/
def laws_FnExactIsSelection.Pure : Prop := ∀ (a0_0 : Int) (l0_1 : List (List (S130))) (l1 : List (List Int)), I64 a0_0 → (l0_1.length ≤ maxLen ∧ ∀ y ∈ l0_1, (y.length ≤ maxLen ∧ ∀ yy ∈ y, ok130 yy)) → l1.length ≤ maxLen → (∀ y ∈ l1, (y.length ≤ maxLen ∧ ∀ yy ∈ y, I64 yy)) → ∃ k, laws_FnExactIsSelection.f k a0_0 l0_1 l1 = some true
end Go.Proofs.Ytpdjnbbikgkgpaa.X
