-- Words of the kit's print, those alone that this seat's texts use: picked out by a program of this session (wip/gen/trim.py). Not trusted: Lean checks it.
import Derived.Test.YtafdeppeacmpdaaWInv
import Derived.Test.YtafdeppeacmpdaaWFootNe
namespace Go.Proofs.YtafdeppeacmpdaaW.PrintWords
open Go.RowKit
end Go.Proofs.YtafdeppeacmpdaaW.PrintWords
namespace Go.Proofs.YtafdeppeacmpdaaW.PrintLast
section
variable {ops : Array Oper} {a : Act} {o og : Oper} {g : Nat} {t : Tmp} {u : Bool}
end
end Go.Proofs.YtafdeppeacmpdaaW.PrintLast
