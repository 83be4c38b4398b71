-- Written by a program of this session (wip/gen/xp.py, over the kit's printer). Not trusted: Lean checks it.
import Derived.Test.YteifefecoaefnaaX0
import Derived.Test.YteifefecoaefnaaXRow
namespace Go.Proofs.Yteifefecoaefnaa.X
open Go.RowKit Go.Proofs.YteifefecoaefnaaW.PrintWords Go.Proofs.YteifefecoaefnaaW.PrintLast Go.Proofs.Yteifefecoaefnaa.XRow
set_option linter.unusedVariables false
set_option maxRecDepth 100000 in
theorem ch48 : Opn Try.prog 48 (Kd.pair (Kd.int .i64) (Kd.pair (Kd.int .i64) (Kd.pair (Kd.int .i64) (Kd.int .i64)))) (fun p : (Int) × (Int) × (Int) × (Int) => I64 p.1 ∧ I64 p.2.1 ∧ I64 p.2.2.1 ∧ I64 p.2.2.2) := Opn.struct Try.underlying48 (by kernel_rfl) (OpnF.cons rfl (Opn.i64 Try.underlying3 (by kernel_rfl)) (OpnF.cons rfl (Opn.i64 Try.underlying3 (by kernel_rfl)) (OpnF.cons rfl (Opn.i64 Try.underlying3 (by kernel_rfl)) (OpnF.last rfl (Opn.i64 Try.underlying3 (by kernel_rfl))))))
def ok48 (x : S48) : Prop := I64 x.f0 ∧ I64 x.f1 ∧ I64 x.f2 ∧ I64 x.f3
set_option maxRecDepth 100000 in
theorem opn48 : Opn Try.prog 48 k48 ok48 := Opn.iso (fun p => (⟨p.1, p.2.1, p.2.2.1, p.2.2.2⟩ : S48)) (fun _ => rfl) ch48
set_option maxRecDepth 100000 in
theorem ch37 : Opn Try.prog 37 (Kd.pair (Kd.int .i64) (Kd.int .i64)) (fun p : (Int) × (Int) => I64 p.1 ∧ I64 p.2) := Opn.two Try.underlying37 (by kernel_rfl) (Opn.i64 Try.underlying3 (by kernel_rfl))
def ok37 (x : S37) : Prop := I64 x.f0 ∧ I64 x.f1
set_option maxRecDepth 100000 in
theorem opn37 : Opn Try.prog 37 k37 ok37 := Opn.iso (fun p => (⟨p.1, p.2⟩ : S37)) (fun _ => rfl) ch37
end Go.Proofs.Yteifefecoaefnaa.X
