-- Words of the kit's print, those alone that this seat's texts use: picked out by a program of this session (wip/gen/trim.py). Not trusted: Lean checks it.
import Derived.Test.YtnghgpceaahkaaaWInv
import Derived.Test.YtnghgpceaahkaaaWFootNe
namespace Go.Proofs.YtnghgpceaahkaaaW.PrintWords
open Go.RowKit
end Go.Proofs.YtnghgpceaahkaaaW.PrintWords
namespace Go.Proofs.YtnghgpceaahkaaaW.PrintLast
section
variable {ops : Array Oper} {a : Act} {o og : Oper} {g : Nat} {t : Tmp} {u : Bool}
end
end Go.Proofs.YtnghgpceaahkaaaW.PrintLast
