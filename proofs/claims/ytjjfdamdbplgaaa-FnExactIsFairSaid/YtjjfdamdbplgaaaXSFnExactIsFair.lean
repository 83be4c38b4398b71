-- Written by a program of this session (wip/gen/xp.py, over the kit's printer). Not trusted: Lean checks it.
import Derived.Test.YtjjfdamdbplgaaaXO
import Derived.Test.YtjjfdamdbplgaaaXf13
namespace Go.Proofs.Ytjjfdamdbplgaaa.X
open Go.RowKit Go.Proofs.YtjjfdamdbplgaaaW.PrintWords Go.Proofs.YtjjfdamdbplgaaaW.PrintLast Go.Proofs.Ytjjfdamdbplgaaa.XRow
/-- What is left of the law FnExactIsFair: numbers and lists alone. -/
def laws_FnExactIsFair.Pure : Prop := ∀ (l0 : List (S78)) (l1 : List (S105)) (a2 : Int), l0.length ≤ maxLen → (∀ y ∈ l0, ok78 y) → l1.length ≤ maxLen → (∀ y ∈ l1, ok105 y) → I64 a2 → ∃ k, laws_FnExactIsFair.f k l0 l1 a2 = some true
end Go.Proofs.Ytjjfdamdbplgaaa.X
