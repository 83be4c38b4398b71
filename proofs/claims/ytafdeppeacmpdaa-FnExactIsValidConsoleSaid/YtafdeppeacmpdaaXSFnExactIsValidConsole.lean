-- Written by a program of this session (wip/gen/xp.py, over the kit's printer). Not trusted: Lean checks it.
import Derived.Test.YtafdeppeacmpdaaXO
import Derived.Test.YtafdeppeacmpdaaXf13
namespace Go.Proofs.Ytafdeppeacmpdaa.X
open Go.RowKit Go.Proofs.YtafdeppeacmpdaaW.PrintWords Go.Proofs.YtafdeppeacmpdaaW.PrintLast Go.Proofs.Ytafdeppeacmpdaa.XRow
/-- What is left of the law FnExactIsValidConsole: numbers and lists alone. -/
def laws_FnExactIsValidConsole.Pure : Prop := ∀ (a0_0 : Int) (a0_1 : Int) (a0_2 : Int) (l0_3 : List (S148)) (l0_4 : List (S150)) (a0_5 : ByteArray) (a0_6 : ByteArray) (a0_7 : Int), I64 a0_0 → I64 a0_1 → I64 a0_2 → (l0_3.length ≤ maxLen ∧ ∀ y ∈ l0_3, ok148 y) → (l0_4.length ≤ maxLen ∧ ∀ y ∈ l0_4, ok150 y) → a0_5.size ≤ maxLen → a0_6.size ≤ maxLen → I64 a0_7 → ∃ k, laws_FnExactIsValidConsole.f k a0_0 a0_1 a0_2 l0_3 l0_4 a0_5 a0_6 a0_7 = some true
end Go.Proofs.Ytafdeppeacmpdaa.X
