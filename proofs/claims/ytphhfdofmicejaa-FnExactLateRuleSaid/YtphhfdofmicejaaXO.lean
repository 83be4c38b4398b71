-- Written by a program of this session (wip/gen/xp.py, over the kit's printer). Not trusted: Lean checks it.
import Derived.Test.YtphhfdofmicejaaX0
import Derived.Test.YtphhfdofmicejaaXRow
namespace Go.Proofs.Ytphhfdofmicejaa.X
open Go.RowKit Go.Proofs.YtphhfdofmicejaaW.PrintWords Go.Proofs.YtphhfdofmicejaaW.PrintLast Go.Proofs.Ytphhfdofmicejaa.XRow
set_option linter.unusedVariables false
set_option maxRecDepth 100000 in
theorem ch44 : Opn Try.prog 44 (Kd.pair (Kd.int .i64) (Kd.pair (Kd.int .i64) (Kd.pair (Kd.int .i64) (Kd.int .i64)))) (fun p : (Int) × (Int) × (Int) × (Int) => I64 p.1 ∧ I64 p.2.1 ∧ I64 p.2.2.1 ∧ I64 p.2.2.2) := Opn.struct Try.underlying44 (by kernel_rfl) (OpnF.cons rfl (Opn.i64 Try.underlying3 (by kernel_rfl)) (OpnF.cons rfl (Opn.i64 Try.underlying3 (by kernel_rfl)) (OpnF.cons rfl (Opn.i64 Try.underlying3 (by kernel_rfl)) (OpnF.last rfl (Opn.i64 Try.underlying3 (by kernel_rfl))))))
def ok44 (x : S44) : Prop := I64 x.f0 ∧ I64 x.f1 ∧ I64 x.f2 ∧ I64 x.f3
set_option maxRecDepth 100000 in
theorem opn44 : Opn Try.prog 44 k44 ok44 := Opn.iso (fun p => (⟨p.1, p.2.1, p.2.2.1, p.2.2.2⟩ : S44)) (fun _ => rfl) ch44
end Go.Proofs.Ytphhfdofmicejaa.X
