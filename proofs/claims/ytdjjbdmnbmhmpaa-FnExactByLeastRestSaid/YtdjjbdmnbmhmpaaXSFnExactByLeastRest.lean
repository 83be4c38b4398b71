-- Written by a program of this session (wip/gen/xp.py, over the kit's printer). Not trusted: Lean checks it.
import Derived.Test.YtdjjbdmnbmhmpaaXO
import Derived.Test.YtdjjbdmnbmhmpaaXf12
namespace Go.Proofs.Ytdjjbdmnbmhmpaa.X
open Go.RowKit Go.Proofs.YtdjjbdmnbmhmpaaW.PrintWords Go.Proofs.YtdjjbdmnbmhmpaaW.PrintLast Go.Proofs.Ytdjjbdmnbmhmpaa.XRow
/-- What is left of the law FnExactByLeastRest: numbers and lists alone. -/
def laws_FnExactByLeastRest.Pure : Prop := ∀ (l0 : List (S103)), l0.length ≤ maxLen → (∀ y ∈ l0, ok103 y) → ∃ k, laws_FnExactByLeastRest.f k l0 = some true
end Go.Proofs.Ytdjjbdmnbmhmpaa.X
