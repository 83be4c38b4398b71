-- Written by a program of this session (wip/gen/xp.py, over the kit's printer). Not trusted: Lean checks it.
import Derived.Test.YtafdeppeacmpdaaXO
import Derived.Test.YtafdeppeacmpdaaXf6
namespace Go.Proofs.Ytafdeppeacmpdaa.X
open Go.RowKit Go.Proofs.YtafdeppeacmpdaaW.PrintWords Go.Proofs.YtafdeppeacmpdaaW.PrintLast Go.Proofs.Ytafdeppeacmpdaa.XRow
/-- What is left of the law FnExactAppendRecord: numbers and lists alone. -/
def laws_FnExactAppendRecord.Pure : Prop := ∀ (a0_0 : ByteArray) (a0_1 : ByteArray) (a0_2 : Int) (a1_0 : ByteArray) (a1_1 : ByteArray), a0_0.size ≤ maxLen → a0_1.size ≤ maxLen → I64 a0_2 → a1_0.size ≤ maxLen → a1_1.size ≤ maxLen → ∃ k, laws_FnExactAppendRecord.f k a0_0 a0_1 a0_2 a1_0 a1_1 = some true
end Go.Proofs.Ytafdeppeacmpdaa.X
