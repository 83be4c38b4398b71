-- Written by a program of this session (wip/gen/xp.py, over the kit's printer). Not trusted: Lean checks it.
import Derived.Test.YtdjjbdmnbmhmpaaXO
import Derived.Test.YtdjjbdmnbmhmpaaXf7
namespace Go.Proofs.Ytdjjbdmnbmhmpaa.X
open Go.RowKit Go.Proofs.YtdjjbdmnbmhmpaaW.PrintWords Go.Proofs.YtdjjbdmnbmhmpaaW.PrintLast Go.Proofs.Ytdjjbdmnbmhmpaa.XRow
/-- What is left of the law FnExactIdleTime: numbers and lists alone. -/
def laws_FnExactIdleTime.Pure : Prop := ∀ (l0 : List (S103)) (l1 : List (Int)), l0.length ≤ maxLen → (∀ y ∈ l0, ok103 y) → l1.length ≤ maxLen → (∀ y ∈ l1, I64 y) → ∃ k, laws_FnExactIdleTime.f k l0 l1 = some true
end Go.Proofs.Ytdjjbdmnbmhmpaa.X
