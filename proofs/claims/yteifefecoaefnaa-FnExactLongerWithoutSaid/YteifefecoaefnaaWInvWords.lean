-- Words of the kit's print, those alone that this seat's texts use: picked out by a program of this session (wip/gen/trim.py). Not trusted: Lean checks it.
import Derived.Test.YteifefecoaefnaaWInv
import Derived.Test.YteifefecoaefnaaWFootNe
namespace Go.Proofs.YteifefecoaefnaaW.PrintWords
open Go.RowKit
end Go.Proofs.YteifefecoaefnaaW.PrintWords
namespace Go.Proofs.YteifefecoaefnaaW.PrintLast
section
variable {ops : Array Oper} {a : Act} {o og : Oper} {g : Nat} {t : Tmp} {u : Bool}
end
end Go.Proofs.YteifefecoaefnaaW.PrintLast
