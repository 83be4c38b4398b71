-- Written by a program of this session (wip/gen/xp.py, over the kit's printer). Not trusted: Lean checks it.
import Derived.Test.YtmfmgingdepjbaaX0
import Derived.Test.YtmfmgingdepjbaaXRow
namespace Go.Proofs.Ytmfmgingdepjbaa.X
open Go.RowKit Go.Proofs.YtmfmgingdepjbaaW.PrintWords Go.Proofs.YtmfmgingdepjbaaW.PrintLast Go.Proofs.Ytmfmgingdepjbaa.XRow
set_option linter.unusedVariables false
end Go.Proofs.Ytmfmgingdepjbaa.X
