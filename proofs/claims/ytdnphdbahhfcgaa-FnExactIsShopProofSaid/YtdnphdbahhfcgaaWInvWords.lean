-- Words of the kit's print, those alone that this seat's texts use: picked out by a program of this session (wip/gen/trim.py). Not trusted: Lean checks it.
import Derived.Test.YtdnphdbahhfcgaaWInv
import Derived.Test.YtdnphdbahhfcgaaWFootNe
namespace Go.Proofs.YtdnphdbahhfcgaaW.PrintWords
open Go.RowKit
end Go.Proofs.YtdnphdbahhfcgaaW.PrintWords
namespace Go.Proofs.YtdnphdbahhfcgaaW.PrintLast
section
variable {ops : Array Oper} {a : Act} {o og : Oper} {g : Nat} {t : Tmp} {u : Bool}
end
end Go.Proofs.YtdnphdbahhfcgaaW.PrintLast
