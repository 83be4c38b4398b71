-- Words of the kit's print, those alone that this seat's texts use: picked out by a program of this session (wip/gen/trim.py). Not trusted: Lean checks it.
import Derived.Test.YtlnimgebhpfdjaaWInv
import Derived.Test.YtlnimgebhpfdjaaWFootNe
namespace Go.Proofs.YtlnimgebhpfdjaaW.PrintWords
open Go.RowKit
end Go.Proofs.YtlnimgebhpfdjaaW.PrintWords
namespace Go.Proofs.YtlnimgebhpfdjaaW.PrintLast
section
variable {ops : Array Oper} {a : Act} {o og : Oper} {g : Nat} {t : Tmp} {u : Bool}
end
end Go.Proofs.YtlnimgebhpfdjaaW.PrintLast
