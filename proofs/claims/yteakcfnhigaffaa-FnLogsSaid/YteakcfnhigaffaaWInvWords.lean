-- Words of the kit's print, those alone that this seat's texts use: picked out by a program of this session (wip/gen/trim.py). Not trusted: Lean checks it.
import Derived.Test.YteakcfnhigaffaaWInv
import Derived.Test.YteakcfnhigaffaaWFootNe
namespace Go.Proofs.YteakcfnhigaffaaW.PrintWords
open Go.RowKit
end Go.Proofs.YteakcfnhigaffaaW.PrintWords
namespace Go.Proofs.YteakcfnhigaffaaW.PrintLast
section
variable {ops : Array Oper} {a : Act} {o og : Oper} {g : Nat} {t : Tmp} {u : Bool}
end
end Go.Proofs.YteakcfnhigaffaaW.PrintLast
