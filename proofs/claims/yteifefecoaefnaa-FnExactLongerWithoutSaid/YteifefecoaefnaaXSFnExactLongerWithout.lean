-- Written by a program of this session (wip/gen/xp.py, over the kit's printer). Not trusted: Lean checks it.
import Derived.Test.YteifefecoaefnaaXO
import Derived.Test.YteifefecoaefnaaXf4
namespace Go.Proofs.Yteifefecoaefnaa.X
open Go.RowKit Go.Proofs.YteifefecoaefnaaW.PrintWords Go.Proofs.YteifefecoaefnaaW.PrintLast Go.Proofs.Yteifefecoaefnaa.XRow
/-- What is left of the law FnExactLongerWithout: numbers and lists alone. -/
def laws_FnExactLongerWithout.Pure : Prop := ∀ (l0 : List (S48)) (a1 : Int) (l2 : List (S37)) (l3 : List (Int)), l0.length ≤ maxLen → (∀ y ∈ l0, ok48 y) → I64 a1 → l2.length ≤ maxLen → (∀ y ∈ l2, ok37 y) → l3.length ≤ maxLen → (∀ y ∈ l3, I64 y) → ∃ k, laws_FnExactLongerWithout.f k l0 a1 l2 l3 = some true
end Go.Proofs.Yteifefecoaefnaa.X
