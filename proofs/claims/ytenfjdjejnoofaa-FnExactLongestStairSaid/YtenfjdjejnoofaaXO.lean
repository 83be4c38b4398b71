-- Written by a program of this session (wip/gen/xp.py, over the kit's printer). Not trusted: Lean checks it.
import Derived.Test.YtenfjdjejnoofaaX0
import Derived.Test.YtenfjdjejnoofaaXRow
namespace Go.Proofs.Ytenfjdjejnoofaa.X
open Go.RowKit Go.Proofs.YtenfjdjejnoofaaW.PrintWords Go.Proofs.YtenfjdjejnoofaaW.PrintLast Go.Proofs.Ytenfjdjejnoofaa.XRow
set_option linter.unusedVariables false
end Go.Proofs.Ytenfjdjejnoofaa.X
