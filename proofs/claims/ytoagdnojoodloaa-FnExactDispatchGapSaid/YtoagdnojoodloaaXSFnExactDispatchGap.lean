-- Written by a program of this session (wip/gen/xp.py, over the kit's printer). Not trusted: Lean checks it.
import Derived.Test.YtoagdnojoodloaaXO
import Derived.Test.YtoagdnojoodloaaXf5
namespace Go.Proofs.Ytoagdnojoodloaa.X
open Go.RowKit Go.Proofs.YtoagdnojoodloaaW.PrintWords Go.Proofs.YtoagdnojoodloaaW.PrintLast Go.Proofs.Ytoagdnojoodloaa.XRow
/-- What is left of the law FnExactDispatchGap: numbers and lists alone. -/
def laws_FnExactDispatchGap.Pure : Prop := ∀ (a0_0 : Int) (a0_1 : Int) (a0_2 : Int) (l0_3 : List (S63)) (l0_4 : List (S100)) (a1 : Int), I64 a0_0 → I64 a0_1 → I64 a0_2 → (l0_3.length ≤ maxLen ∧ ∀ y ∈ l0_3, ok63 y) → (l0_4.length ≤ maxLen ∧ ∀ y ∈ l0_4, ok100 y) → I64 a1 → ∃ k, laws_FnExactDispatchGap.f k a0_0 a0_1 a0_2 l0_3 l0_4 a1 = some true
end Go.Proofs.Ytoagdnojoodloaa.X
