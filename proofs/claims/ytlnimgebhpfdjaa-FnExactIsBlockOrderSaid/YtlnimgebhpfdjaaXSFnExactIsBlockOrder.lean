-- Written by a program of this session (wip/gen/xp.py, over the kit's printer). Not trusted: Lean checks it.
import Derived.Test.YtlnimgebhpfdjaaXO
import Derived.Test.YtlnimgebhpfdjaaXf3
namespace Go.Proofs.Ytlnimgebhpfdjaa.X
open Go.RowKit Go.Proofs.YtlnimgebhpfdjaaW.PrintWords Go.Proofs.YtlnimgebhpfdjaaW.PrintLast Go.Proofs.Ytlnimgebhpfdjaa.XRow
/-- What is left of the law FnExactIsBlockOrder: numbers and lists alone. -/
def laws_FnExactIsBlockOrder.Pure : Prop := ∀ (l0 : List (S46)) (l1 : List (S47)) (l2 : List (Int)), l0.length ≤ maxLen → (∀ y ∈ l0, ok46 y) → l1.length ≤ maxLen → (∀ y ∈ l1, ok47 y) → l2.length ≤ maxLen → (∀ y ∈ l2, I64 y) → ∃ k, laws_FnExactIsBlockOrder.f k l0 l1 l2 = some true
end Go.Proofs.Ytlnimgebhpfdjaa.X
