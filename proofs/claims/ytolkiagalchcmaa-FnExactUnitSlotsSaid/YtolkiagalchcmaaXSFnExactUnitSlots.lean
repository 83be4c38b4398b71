-- Written by a program of this session (wip/gen/xp.py, over the kit's printer). Not trusted: Lean checks it.
import Derived.Test.YtolkiagalchcmaaXO
import Derived.Test.YtolkiagalchcmaaXf3
namespace Go.Proofs.Ytolkiagalchcmaa.X
open Go.RowKit Go.Proofs.YtolkiagalchcmaaW.PrintWords Go.Proofs.YtolkiagalchcmaaW.PrintLast Go.Proofs.Ytolkiagalchcmaa.XRow
/-- What is left of the law FnExactUnitSlots: numbers and lists alone. -/
def laws_FnExactUnitSlots.Pure : Prop := ∀ (l0 : List (S40)) (l1 : List (Int)), l0.length ≤ maxLen → (∀ y ∈ l0, ok40 y) → l1.length ≤ maxLen → (∀ y ∈ l1, I64 y) → ∃ k, laws_FnExactUnitSlots.f k l0 l1 = some true
end Go.Proofs.Ytolkiagalchcmaa.X
