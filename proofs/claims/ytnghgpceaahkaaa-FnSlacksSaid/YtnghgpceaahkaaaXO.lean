-- Written by a program of this session (wip/gen/xp.py, over the kit's printer). Not trusted: Lean checks it.
import Derived.Test.YtnghgpceaahkaaaX0
import Derived.Test.YtnghgpceaahkaaaXRow
namespace Go.Proofs.Ytnghgpceaahkaaa.X
open Go.RowKit Go.Proofs.YtnghgpceaahkaaaW.PrintWords Go.Proofs.YtnghgpceaahkaaaW.PrintLast Go.Proofs.Ytnghgpceaahkaaa.XRow
set_option linter.unusedVariables false
end Go.Proofs.Ytnghgpceaahkaaa.X
