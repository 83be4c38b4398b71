-- Words of the kit's print, those alone that this seat's texts use: picked out by a program of this session (wip/gen/trim.py). Not trusted: Lean checks it.
import Derived.Test.YtmfmgingdepjbaaWWords
import Derived.Laws.StructEq
namespace Go.Proofs.YtmfmgingdepjbaaW.PrintWords
open Go.RowKit
section
variable {P : Program} {d : Nat} {xs ys : Array Value} {f : Field} {fs : List Field} {a b : Value} {r s : Bool} {w : World}
end
end Go.Proofs.YtmfmgingdepjbaaW.PrintWords
