-- Written by a program of this session (wip/gen/xp.py, over the kit's printer). Not trusted: Lean checks it.
import Derived.Test.YtmfdbdpgfbpbpaaXO
import Derived.Test.YtmfdbdpgfbpbpaaXf3
namespace Go.Proofs.Ytmfdbdpgfbpbpaa.X
open Go.RowKit Go.Proofs.YtmfdbdpgfbpbpaaW.PrintWords Go.Proofs.YtmfdbdpgfbpbpaaW.PrintLast Go.Proofs.Ytmfdbdpgfbpbpaa.XRow
/-- What is left of the law FnExactUnitRank: numbers and lists alone. -/
def laws_FnExactUnitRank.Pure : Prop := ∀ (l0 : List (S43)) (l1 : List (Int)), l0.length ≤ maxLen → (∀ y ∈ l0, ok43 y) → l1.length ≤ maxLen → (∀ y ∈ l1, I64 y) → ∃ k, laws_FnExactUnitRank.f k l0 l1 = some true
end Go.Proofs.Ytmfdbdpgfbpbpaa.X
