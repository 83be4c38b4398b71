-- Written by a program of this session (wip/gen/xp.py, over the kit's printer). Not trusted: Lean checks it.
import Derived.Test.YtjjfdamdbplgaaaXO
import Derived.Test.YtjjfdamdbplgaaaXf8
namespace Go.Proofs.Ytjjfdamdbplgaaa.X
open Go.RowKit Go.Proofs.YtjjfdamdbplgaaaW.PrintWords Go.Proofs.YtjjfdamdbplgaaaW.PrintLast Go.Proofs.Ytjjfdamdbplgaaa.XRow
/-- What is left of the law FnExactYieldOf: numbers and lists alone. -/
def laws_FnExactYieldOf.Pure : Prop := ∀ (l0 : List (S78)) (l1 : List (S105)), l0.length ≤ maxLen → (∀ y ∈ l0, ok78 y) → l1.length ≤ maxLen → (∀ y ∈ l1, ok105 y) → ∃ k, laws_FnExactYieldOf.f k l0 l1 = some true
end Go.Proofs.Ytjjfdamdbplgaaa.X
