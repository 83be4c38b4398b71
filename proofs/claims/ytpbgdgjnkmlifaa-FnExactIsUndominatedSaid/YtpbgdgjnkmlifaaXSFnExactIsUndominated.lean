-- Written by a program of this session (wip/gen/xp.py, over the kit's printer). Not trusted: Lean checks it.
import Derived.Test.YtpbgdgjnkmlifaaXO
import Derived.Test.YtpbgdgjnkmlifaaXf3
namespace Go.Proofs.Ytpbgdgjnkmlifaa.X
open Go.RowKit Go.Proofs.YtpbgdgjnkmlifaaW.PrintWords Go.Proofs.YtpbgdgjnkmlifaaW.PrintLast Go.Proofs.Ytpbgdgjnkmlifaa.XRow
/-- What is left of the law FnExactIsUndominated: numbers and lists alone. -/
def laws_FnExactIsUndominated.Pure : Prop := ∀ (l0 : List (S43)) (l1 : List (Int)) (a2 : Int) (a3 : Int), l0.length ≤ maxLen → (∀ y ∈ l0, ok43 y) → l1.length ≤ maxLen → (∀ y ∈ l1, I64 y) → I64 a2 → I64 a3 → ∃ k, laws_FnExactIsUndominated.f k l0 l1 a2 a3 = some true
end Go.Proofs.Ytpbgdgjnkmlifaa.X
