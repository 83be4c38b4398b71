-- Written by a program of this session (wip/gen/xp.py, over the kit's printer). Not trusted: Lean checks it.
import Derived.Test.YtafdeppeacmpdaaXO
import Derived.Test.YtafdeppeacmpdaaXf3
namespace Go.Proofs.Ytafdeppeacmpdaa.X
open Go.RowKit Go.Proofs.YtafdeppeacmpdaaW.PrintWords Go.Proofs.YtafdeppeacmpdaaW.PrintLast Go.Proofs.Ytafdeppeacmpdaa.XRow
end Go.Proofs.Ytafdeppeacmpdaa.X
