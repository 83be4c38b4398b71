-- Words of the kit's print, those alone that this seat's texts use: picked out by a program of this session (wip/gen/trim.py). Not trusted: Lean checks it.
import Derived.Test.YtbkijojojjdgcaaWInv
import Derived.Test.YtbkijojojjdgcaaWFootNe
namespace Go.Proofs.YtbkijojojjdgcaaW.PrintWords
open Go.RowKit
end Go.Proofs.YtbkijojojjdgcaaW.PrintWords
namespace Go.Proofs.YtbkijojojjdgcaaW.PrintLast
section
variable {ops : Array Oper} {a : Act} {o og : Oper} {g : Nat} {t : Tmp} {u : Bool}
end
end Go.Proofs.YtbkijojojjdgcaaW.PrintLast
