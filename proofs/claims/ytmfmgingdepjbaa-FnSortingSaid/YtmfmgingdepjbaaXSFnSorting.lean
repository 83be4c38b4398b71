-- Written by a program of this session (wip/gen/xp.py, over the kit's printer). Not trusted: Lean checks it.
import Derived.Test.YtmfmgingdepjbaaXO
import Derived.Test.YtmfmgingdepjbaaXf3
namespace Go.Proofs.Ytmfmgingdepjbaa.X
open Go.RowKit Go.Proofs.YtmfmgingdepjbaaW.PrintWords Go.Proofs.YtmfmgingdepjbaaW.PrintLast Go.Proofs.Ytmfmgingdepjbaa.XRow
/-- What is left of the law FnSorting: numbers and lists alone. -/
def laws_FnSorting.Pure : Prop := ∀ (l0 : List (Int)), l0.length ≤ maxLen → (∀ y ∈ l0, (Lit.int .u8 y).wf = true) → ∃ k, laws_FnSorting.f k l0 = some true
end Go.Proofs.Ytmfmgingdepjbaa.X
