-- Written by a program of this session (wip/gen/xp.py, over the kit's printer). Not trusted: Lean checks it.
import Derived.Test.YtafdeppeacmpdaaXO
import Derived.Test.YtafdeppeacmpdaaXf11
namespace Go.Proofs.Ytafdeppeacmpdaa.X
open Go.RowKit Go.Proofs.YtafdeppeacmpdaaW.PrintWords Go.Proofs.YtafdeppeacmpdaaW.PrintLast Go.Proofs.Ytafdeppeacmpdaa.XRow
/-- What is left of the law FnExactDispatchValue: numbers and lists alone. -/
def laws_FnExactDispatchValue.Pure : Prop := ∀ (a0_0 : Int) (a0_1 : Int) (a0_2 : Int) (l0_3 : List (S148)) (l0_4 : List (S150)) (a1 : Int), I64 a0_0 → I64 a0_1 → I64 a0_2 → (l0_3.length ≤ maxLen ∧ ∀ y ∈ l0_3, ok148 y) → (l0_4.length ≤ maxLen ∧ ∀ y ∈ l0_4, ok150 y) → I64 a1 → ∃ k, laws_FnExactDispatchValue.f k a0_0 a0_1 a0_2 l0_3 l0_4 a1 = some true
end Go.Proofs.Ytafdeppeacmpdaa.X
