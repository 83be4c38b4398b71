-- Written by a program of this session (wip/gen/xp.py, over the kit's printer). Not trusted: Lean checks it.
import Derived.Test.YtolkiagalchcmaaX0
import Derived.Test.YtolkiagalchcmaaXRow
namespace Go.Proofs.Ytolkiagalchcmaa.X
open Go.RowKit Go.Proofs.YtolkiagalchcmaaW.PrintWords Go.Proofs.YtolkiagalchcmaaW.PrintLast Go.Proofs.Ytolkiagalchcmaa.XRow
set_option linter.unusedVariables false
set_option maxRecDepth 100000 in
theorem ch40 : Opn Try.prog 40 (Kd.pair (Kd.int .i64) (Kd.pair (Kd.int .i64) (Kd.pair (Kd.int .i64) (Kd.int .i64)))) (fun p : (Int) × (Int) × (Int) × (Int) => I64 p.1 ∧ I64 p.2.1 ∧ I64 p.2.2.1 ∧ I64 p.2.2.2) := Opn.struct Try.underlying40 (by kernel_rfl) (OpnF.cons rfl (Opn.i64 Try.underlying3 (by kernel_rfl)) (OpnF.cons rfl (Opn.i64 Try.underlying3 (by kernel_rfl)) (OpnF.cons rfl (Opn.i64 Try.underlying3 (by kernel_rfl)) (OpnF.last rfl (Opn.i64 Try.underlying3 (by kernel_rfl))))))
def ok40 (x : S40) : Prop := I64 x.f0 ∧ I64 x.f1 ∧ I64 x.f2 ∧ I64 x.f3
set_option maxRecDepth 100000 in
theorem opn40 : Opn Try.prog 40 k40 ok40 := Opn.iso (fun p => (⟨p.1, p.2.1, p.2.2.1, p.2.2.2⟩ : S40)) (fun _ => rfl) ch40
end Go.Proofs.Ytolkiagalchcmaa.X
