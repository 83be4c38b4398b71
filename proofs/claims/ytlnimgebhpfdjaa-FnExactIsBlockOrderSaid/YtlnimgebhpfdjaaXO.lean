-- Written by a program of this session (wip/gen/xp.py, over the kit's printer). Not trusted: Lean checks it.
import Derived.Test.YtlnimgebhpfdjaaX0
import Derived.Test.YtlnimgebhpfdjaaXRow
namespace Go.Proofs.Ytlnimgebhpfdjaa.X
open Go.RowKit Go.Proofs.YtlnimgebhpfdjaaW.PrintWords Go.Proofs.YtlnimgebhpfdjaaW.PrintLast Go.Proofs.Ytlnimgebhpfdjaa.XRow
set_option linter.unusedVariables false
set_option maxRecDepth 100000 in
theorem ch46 : Opn Try.prog 46 (Kd.pair (Kd.int .i64) (Kd.pair (Kd.int .i64) (Kd.pair (Kd.int .i64) (Kd.int .i64)))) (fun p : (Int) × (Int) × (Int) × (Int) => I64 p.1 ∧ I64 p.2.1 ∧ I64 p.2.2.1 ∧ I64 p.2.2.2) := Opn.struct Try.underlying46 (by kernel_rfl) (OpnF.cons rfl (Opn.i64 Try.underlying3 (by kernel_rfl)) (OpnF.cons rfl (Opn.i64 Try.underlying3 (by kernel_rfl)) (OpnF.cons rfl (Opn.i64 Try.underlying3 (by kernel_rfl)) (OpnF.last rfl (Opn.i64 Try.underlying3 (by kernel_rfl))))))
def ok46 (x : S46) : Prop := I64 x.f0 ∧ I64 x.f1 ∧ I64 x.f2 ∧ I64 x.f3
set_option maxRecDepth 100000 in
theorem opn46 : Opn Try.prog 46 k46 ok46 := Opn.iso (fun p => (⟨p.1, p.2.1, p.2.2.1, p.2.2.2⟩ : S46)) (fun _ => rfl) ch46
set_option maxRecDepth 100000 in
theorem ch47 : Opn Try.prog 47 (Kd.pair (Kd.int .i64) (Kd.int .i64)) (fun p : (Int) × (Int) => I64 p.1 ∧ I64 p.2) := Opn.two Try.underlying47 (by kernel_rfl) (Opn.i64 Try.underlying3 (by kernel_rfl))
def ok47 (x : S47) : Prop := I64 x.f0 ∧ I64 x.f1
set_option maxRecDepth 100000 in
theorem opn47 : Opn Try.prog 47 k47 ok47 := Opn.iso (fun p => (⟨p.1, p.2⟩ : S47)) (fun _ => rfl) ch47
end Go.Proofs.Ytlnimgebhpfdjaa.X
