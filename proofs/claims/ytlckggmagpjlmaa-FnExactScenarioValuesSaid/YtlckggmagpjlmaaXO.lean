-- Written by a program of this session (wip/gen/xp.py, over the kit's printer). Not trusted: Lean checks it.
import Derived.Test.YtlckggmagpjlmaaX0
import Derived.Test.YtlckggmagpjlmaaXRow
namespace Go.Proofs.Ytlckggmagpjlmaa.X
open Go.RowKit Go.Proofs.YtlckggmagpjlmaaW.PrintWords Go.Proofs.YtlckggmagpjlmaaW.PrintLast Go.Proofs.Ytlckggmagpjlmaa.XRow
set_option linter.unusedVariables false
set_option maxRecDepth 100000 in
theorem ch51 : Opn Try.prog 51 (Kd.pair (Kd.int .i64) (Kd.pair (Kd.int .i64) (Kd.pair (Kd.int .i64) (Kd.int .i64)))) (fun p : (Int) × (Int) × (Int) × (Int) => I64 p.1 ∧ I64 p.2.1 ∧ I64 p.2.2.1 ∧ I64 p.2.2.2) := Opn.struct Try.underlying51 (by kernel_rfl) (OpnF.cons rfl (Opn.i64 Try.underlying3 (by kernel_rfl)) (OpnF.cons rfl (Opn.i64 Try.underlying3 (by kernel_rfl)) (OpnF.cons rfl (Opn.i64 Try.underlying3 (by kernel_rfl)) (OpnF.last rfl (Opn.i64 Try.underlying3 (by kernel_rfl))))))
def ok51 (x : S51) : Prop := I64 x.f0 ∧ I64 x.f1 ∧ I64 x.f2 ∧ I64 x.f3
set_option maxRecDepth 100000 in
theorem opn51 : Opn Try.prog 51 k51 ok51 := Opn.iso (fun p => (⟨p.1, p.2.1, p.2.2.1, p.2.2.2⟩ : S51)) (fun _ => rfl) ch51
end Go.Proofs.Ytlckggmagpjlmaa.X
