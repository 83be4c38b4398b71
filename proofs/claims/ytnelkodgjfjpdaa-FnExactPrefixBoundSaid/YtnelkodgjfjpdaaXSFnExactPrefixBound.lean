-- Written by a program of this session (wip/gen/xp.py, over the kit's printer). Not trusted: Lean checks it.
import Derived.Test.YtnelkodgjfjpdaaXO
import Derived.Test.YtnelkodgjfjpdaaXf4
namespace Go.Proofs.Ytnelkodgjfjpdaa.X
open Go.RowKit Go.Proofs.YtnelkodgjfjpdaaW.PrintWords Go.Proofs.YtnelkodgjfjpdaaW.PrintLast Go.Proofs.Ytnelkodgjfjpdaa.XRow
/-- What is left of the law FnExactPrefixBound: numbers and lists alone. -/
def laws_FnExactPrefixBound.Pure : Prop := ∀ (l0 : List (S131)) (l1 : List (Int)) (a2 : Int), l0.length ≤ maxLen → (∀ y ∈ l0, ok131 y) → l1.length ≤ maxLen → (∀ y ∈ l1, I64 y) → I64 a2 → ∃ k, laws_FnExactPrefixBound.f k l0 l1 a2 = some true
end Go.Proofs.Ytnelkodgjfjpdaa.X
