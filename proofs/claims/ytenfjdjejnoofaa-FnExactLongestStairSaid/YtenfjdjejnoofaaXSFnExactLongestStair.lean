-- Written by a program of this session (wip/gen/xp.py, over the kit's printer). Not trusted: Lean checks it.
import Derived.Test.YtenfjdjejnoofaaXO
import Derived.Test.YtenfjdjejnoofaaXf3
namespace Go.Proofs.Ytenfjdjejnoofaa.X
open Go.RowKit Go.Proofs.YtenfjdjejnoofaaW.PrintWords Go.Proofs.YtenfjdjejnoofaaW.PrintLast Go.Proofs.Ytenfjdjejnoofaa.XRow
/-- What is left of the law FnExactLongestStair: numbers and lists alone. -/
def laws_FnExactLongestStair.Pure : Prop := ∀ (l0 : List (List Int)) (l1 : List (Int)), l0.length ≤ maxLen → (∀ y ∈ l0, (y.length ≤ maxLen ∧ ∀ yy ∈ y, I64 yy)) → l1.length ≤ maxLen → (∀ y ∈ l1, I64 y) → ∃ k, laws_FnExactLongestStair.f k l0 l1 = some true
end Go.Proofs.Ytenfjdjejnoofaa.X
