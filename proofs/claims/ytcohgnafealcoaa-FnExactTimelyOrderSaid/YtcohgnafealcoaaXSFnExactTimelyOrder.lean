-- Written by a program of this session (wip/gen/xp.py, over the kit's printer). Not trusted: Lean checks it.
import Derived.Test.YtcohgnafealcoaaXO
import Derived.Test.YtcohgnafealcoaaXf3
namespace Go.Proofs.Ytcohgnafealcoaa.X
open Go.RowKit Go.Proofs.YtcohgnafealcoaaW.PrintWords Go.Proofs.YtcohgnafealcoaaW.PrintLast Go.Proofs.Ytcohgnafealcoaa.XRow
/-- What is left of the law FnExactTimelyOrder: numbers and lists alone. -/
def laws_FnExactTimelyOrder.Pure : Prop := ∀ (l0 : List (S45)) (l1 : List (Int)), l0.length ≤ maxLen → (∀ y ∈ l0, ok45 y) → l1.length ≤ maxLen → (∀ y ∈ l1, I64 y) → ∃ k, laws_FnExactTimelyOrder.f k l0 l1 = some true
end Go.Proofs.Ytcohgnafealcoaa.X
