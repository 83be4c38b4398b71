-- Words of the kit's print, those alone that this seat's texts use: picked out by a program of this session (wip/gen/trim.py). Not trusted: Lean checks it.
import Derived.Test.YtgpkchabnjddgaaWInv
import Derived.Test.YtgpkchabnjddgaaWFootNe
namespace Go.Proofs.YtgpkchabnjddgaaW.PrintWords
open Go.RowKit
end Go.Proofs.YtgpkchabnjddgaaW.PrintWords
namespace Go.Proofs.YtgpkchabnjddgaaW.PrintLast
section
variable {ops : Array Oper} {a : Act} {o og : Oper} {g : Nat} {t : Tmp} {u : Bool}
end
end Go.Proofs.YtgpkchabnjddgaaW.PrintLast
