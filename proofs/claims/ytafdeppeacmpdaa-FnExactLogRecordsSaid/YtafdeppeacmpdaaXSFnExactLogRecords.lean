-- Written by a program of this session (wip/gen/xp.py, over the kit's printer). Not trusted: Lean checks it.
import Derived.Test.YtafdeppeacmpdaaXO
import Derived.Test.YtafdeppeacmpdaaXf7
namespace Go.Proofs.Ytafdeppeacmpdaa.X
open Go.RowKit Go.Proofs.YtafdeppeacmpdaaW.PrintWords Go.Proofs.YtafdeppeacmpdaaW.PrintLast Go.Proofs.Ytafdeppeacmpdaa.XRow
/-- What is left of the law FnExactLogRecords: numbers and lists alone. -/
def laws_FnExactLogRecords.Pure : Prop := ∀ (a0_0 : ByteArray) (a0_1 : ByteArray) (a0_2 : Int), a0_0.size ≤ maxLen → a0_1.size ≤ maxLen → I64 a0_2 → ∃ k, laws_FnExactLogRecords.f k a0_0 a0_1 a0_2 = some true
end Go.Proofs.Ytafdeppeacmpdaa.X
