-- Words of the kit's print, those alone that this seat's texts use: picked out by a program of this session (wip/gen/trim.py). Not trusted: Lean checks it.
import Derived.Test.YtcgbmfcnjgmnjaaWInv
import Derived.Test.YtcgbmfcnjgmnjaaWFootNe
namespace Go.Proofs.YtcgbmfcnjgmnjaaW.PrintWords
open Go.RowKit
end Go.Proofs.YtcgbmfcnjgmnjaaW.PrintWords
namespace Go.Proofs.YtcgbmfcnjgmnjaaW.PrintLast
section
variable {ops : Array Oper} {a : Act} {o og : Oper} {g : Nat} {t : Tmp} {u : Bool}
end
end Go.Proofs.YtcgbmfcnjgmnjaaW.PrintLast
