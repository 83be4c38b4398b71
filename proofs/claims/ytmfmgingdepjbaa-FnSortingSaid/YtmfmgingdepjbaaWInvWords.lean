-- Words of the kit's print, those alone that this seat's texts use: picked out by a program of this session (wip/gen/trim.py). Not trusted: Lean checks it.
import Derived.Test.YtmfmgingdepjbaaWInv
import Derived.Test.YtmfmgingdepjbaaWFootNe
namespace Go.Proofs.YtmfmgingdepjbaaW.PrintWords
open Go.RowKit
end Go.Proofs.YtmfmgingdepjbaaW.PrintWords
namespace Go.Proofs.YtmfmgingdepjbaaW.PrintLast
section
variable {ops : Array Oper} {a : Act} {o og : Oper} {g : Nat} {t : Tmp} {u : Bool}
end
end Go.Proofs.YtmfmgingdepjbaaW.PrintLast
