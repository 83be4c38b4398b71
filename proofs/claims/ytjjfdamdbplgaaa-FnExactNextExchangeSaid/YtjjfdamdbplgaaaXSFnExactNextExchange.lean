-- Written by a program of this session (wip/gen/xp.py, over the kit's printer). Not trusted: Lean checks it.
import Derived.Test.YtjjfdamdbplgaaaXO
import Derived.Test.YtjjfdamdbplgaaaXf11
namespace Go.Proofs.Ytjjfdamdbplgaaa.X
open Go.RowKit Go.Proofs.YtjjfdamdbplgaaaW.PrintWords Go.Proofs.YtjjfdamdbplgaaaW.PrintLast Go.Proofs.Ytjjfdamdbplgaaa.XRow
/-- What is left of the law FnExactNextExchange: numbers and lists alone. -/
def laws_FnExactNextExchange.Pure : Prop := ∀ (l0 : List (S78)) (l1 : List (Int)) (a2 : Int), l0.length ≤ maxLen → (∀ y ∈ l0, ok78 y) → l1.length ≤ maxLen → (∀ y ∈ l1, I64 y) → I64 a2 → ∃ k, laws_FnExactNextExchange.f k l0 l1 a2 = some true
end Go.Proofs.Ytjjfdamdbplgaaa.X
