-- Written by a program of this session (wip/gen/xp.py, over the kit's printer). Not trusted: Lean checks it.
import Derived.Test.YtcgbmfcnjgmnjaaXO
import Derived.Test.YtcgbmfcnjgmnjaaXf14
namespace Go.Proofs.Ytcgbmfcnjgmnjaa.X
open Go.RowKit Go.Proofs.YtcgbmfcnjgmnjaaW.PrintWords Go.Proofs.YtcgbmfcnjgmnjaaW.PrintLast Go.Proofs.Ytcgbmfcnjgmnjaa.XRow
/-- What is left of the law FnExactIsCases: numbers and lists alone. -/
def laws_FnExactIsCases.Pure : Prop := ∀ (l0 : List (S148)) (a1 : Int) (a2 : Int) (l3 : List (List Int)), l0.length ≤ maxLen → (∀ y ∈ l0, ok148 y) → I64 a1 → I64 a2 → l3.length ≤ maxLen → (∀ y ∈ l3, (y.length ≤ maxLen ∧ ∀ yy ∈ y, I64 yy)) → ∃ k, laws_FnExactIsCases.f k l0 a1 a2 l3 = some true
end Go.Proofs.Ytcgbmfcnjgmnjaa.X
