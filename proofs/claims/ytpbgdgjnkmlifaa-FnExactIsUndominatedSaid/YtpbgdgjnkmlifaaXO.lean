-- Written by a program of this session (wip/gen/xp.py, over the kit's printer). Not trusted: Lean checks it.
import Derived.Test.YtpbgdgjnkmlifaaX0
import Derived.Test.YtpbgdgjnkmlifaaXRow
namespace Go.Proofs.Ytpbgdgjnkmlifaa.X
open Go.RowKit Go.Proofs.YtpbgdgjnkmlifaaW.PrintWords Go.Proofs.YtpbgdgjnkmlifaaW.PrintLast Go.Proofs.Ytpbgdgjnkmlifaa.XRow
set_option linter.unusedVariables false
set_option maxRecDepth 100000 in
theorem ch43 : Opn Try.prog 43 (Kd.pair (Kd.int .i64) (Kd.pair (Kd.int .i64) (Kd.pair (Kd.int .i64) (Kd.int .i64)))) (fun p : (Int) × (Int) × (Int) × (Int) => I64 p.1 ∧ I64 p.2.1 ∧ I64 p.2.2.1 ∧ I64 p.2.2.2) := Opn.struct Try.underlying43 (by kernel_rfl) (OpnF.cons rfl (Opn.i64 Try.underlying3 (by kernel_rfl)) (OpnF.cons rfl (Opn.i64 Try.underlying3 (by kernel_rfl)) (OpnF.cons rfl (Opn.i64 Try.underlying3 (by kernel_rfl)) (OpnF.last rfl (Opn.i64 Try.underlying3 (by kernel_rfl))))))
def ok43 (x : S43) : Prop := I64 x.f0 ∧ I64 x.f1 ∧ I64 x.f2 ∧ I64 x.f3
set_option maxRecDepth 100000 in
theorem opn43 : Opn Try.prog 43 k43 ok43 := Opn.iso (fun p => (⟨p.1, p.2.1, p.2.2.1, p.2.2.2⟩ : S43)) (fun _ => rfl) ch43
end Go.Proofs.Ytpbgdgjnkmlifaa.X
