-- Words of the kit's print, those alone that this seat's texts use: picked out by a program of this session (wip/gen/trim.py). Not trusted: Lean checks it.
import Derived.Test.YtoagdnojoodloaaWInv
import Derived.Test.YtoagdnojoodloaaWFootNe
namespace Go.Proofs.YtoagdnojoodloaaW.PrintWords
open Go.RowKit
end Go.Proofs.YtoagdnojoodloaaW.PrintWords
namespace Go.Proofs.YtoagdnojoodloaaW.PrintLast
section
variable {ops : Array Oper} {a : Act} {o og : Oper} {g : Nat} {t : Tmp} {u : Bool}
end
end Go.Proofs.YtoagdnojoodloaaW.PrintLast
