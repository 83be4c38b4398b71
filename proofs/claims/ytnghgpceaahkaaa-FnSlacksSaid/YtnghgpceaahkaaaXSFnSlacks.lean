-- Written by a program of this session (wip/gen/xp.py, over the kit's printer). Not trusted: Lean checks it.
import Derived.Test.YtnghgpceaahkaaaXO
import Derived.Test.YtnghgpceaahkaaaXf3
namespace Go.Proofs.Ytnghgpceaahkaaa.X
open Go.RowKit Go.Proofs.YtnghgpceaahkaaaW.PrintWords Go.Proofs.YtnghgpceaahkaaaW.PrintLast Go.Proofs.Ytnghgpceaahkaaa.XRow
/-- What is left of the law FnSlacks: numbers and lists alone. -/
def laws_FnSlacks.Pure : Prop := ∀ (l0 : List (Int)), l0.length ≤ maxLen → (∀ y ∈ l0, (Lit.int .u8 y).wf = true) → ∃ k, laws_FnSlacks.f k l0 = some true
end Go.Proofs.Ytnghgpceaahkaaa.X
