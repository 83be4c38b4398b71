-- Written by a program of this session (wip/gen/xp.py, over the kit's printer). Not trusted: Lean checks it.
import Derived.Test.YtkihaemgkagajaaXO
import Derived.Test.YtkihaemgkagajaaXf3
namespace Go.Proofs.Ytkihaemgkagajaa.X
open Go.RowKit Go.Proofs.YtkihaemgkagajaaW.PrintWords Go.Proofs.YtkihaemgkagajaaW.PrintLast Go.Proofs.Ytkihaemgkagajaa.XRow
/-- What is left of the law FnExactCrashLog: numbers and lists alone. -/
def laws_FnExactCrashLog.Pure : Prop := ∀ (a0_0 : ByteArray) (a0_1 : ByteArray) (a0_2 : Int) (a1 : Int) (a2 : Bool), a0_0.size ≤ maxLen → a0_1.size ≤ maxLen → I64 a0_2 → I64 a1 → ∃ k, laws_FnExactCrashLog.f k a0_0 a0_1 a0_2 a1 a2 = some true
end Go.Proofs.Ytkihaemgkagajaa.X
