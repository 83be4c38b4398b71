-- Written by a program of this session (wip/gen/xp.py, over the kit's printer). Not trusted: Lean checks it.
import Derived.Test.YtdjjbdmnbmhmpaaXO
import Derived.Test.YtdjjbdmnbmhmpaaXf9
namespace Go.Proofs.Ytdjjbdmnbmhmpaa.X
open Go.RowKit Go.Proofs.YtdjjbdmnbmhmpaaW.PrintWords Go.Proofs.YtdjjbdmnbmhmpaaW.PrintLast Go.Proofs.Ytdjjbdmnbmhmpaa.XRow
/-- What is left of the law FnExactSlacksOf: numbers and lists alone. -/
def laws_FnExactSlacksOf.Pure : Prop := ∀ (l0 : List (S103)) (l1 : List (Int)) (a2 : Int), l0.length ≤ maxLen → (∀ y ∈ l0, ok103 y) → l1.length ≤ maxLen → (∀ y ∈ l1, I64 y) → I64 a2 → ∃ k, laws_FnExactSlacksOf.f k l0 l1 a2 = some true
end Go.Proofs.Ytdjjbdmnbmhmpaa.X
