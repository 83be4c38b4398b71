-- Written by a program of this session (wip/gen/xp.py, over the kit's printer). Not trusted: Lean checks it.
import Derived.Test.YtkihaemgkagajaaX0
import Derived.Test.YtkihaemgkagajaaXRow
namespace Go.Proofs.Ytkihaemgkagajaa.X
open Go.RowKit Go.Proofs.YtkihaemgkagajaaW.PrintWords Go.Proofs.YtkihaemgkagajaaW.PrintLast Go.Proofs.Ytkihaemgkagajaa.XRow
set_option linter.unusedVariables false
set_option maxRecDepth 100000 in
theorem ch23 : Opn Try.prog 23 (Kd.pair Kd.string (Kd.pair Kd.string (Kd.int .i64))) (fun p : (ByteArray) × (ByteArray) × (Int) => p.1.size ≤ maxLen ∧ p.2.1.size ≤ maxLen ∧ I64 p.2.2) := Opn.struct Try.underlying23 (by kernel_rfl) (OpnF.cons rfl (Opn.string Try.underlying9 (by kernel_rfl)) (OpnF.cons rfl (Opn.string Try.underlying9 (by kernel_rfl)) (OpnF.last rfl (Opn.i64 Try.underlying3 (by kernel_rfl)))))
end Go.Proofs.Ytkihaemgkagajaa.X
