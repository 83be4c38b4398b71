-- Written by a program of this session (wip/gen/xp.py, over the kit's printer). Not trusted: Lean checks it.
import Derived.Test.YtcohgnafealcoaaXO
import Derived.Test.YtcohgnafealcoaaXf4
namespace Go.Proofs.Ytcohgnafealcoaa.X
open Go.RowKit Go.Proofs.YtcohgnafealcoaaW.PrintWords Go.Proofs.YtcohgnafealcoaaW.PrintLast Go.Proofs.Ytcohgnafealcoaa.XRow
/-- What is left of the law FnExactUnitCircuit: numbers and lists alone. -/
def laws_FnExactUnitCircuit.Pure : Prop := ∀ (l0 : List (S45)) (l1 : List (Int)) (a2 : Int), l0.length ≤ maxLen → (∀ y ∈ l0, ok45 y) → l1.length ≤ maxLen → (∀ y ∈ l1, I64 y) → I64 a2 → ∃ k, laws_FnExactUnitCircuit.f k l0 l1 a2 = some true
end Go.Proofs.Ytcohgnafealcoaa.X
