-- Written by a program of this session (wip/gen/xp.py, over the kit's printer). Not trusted: Lean checks it.
import Derived.Test.YtnelkodgjfjpdaaX0
import Derived.Test.YtnelkodgjfjpdaaXRow
namespace Go.Proofs.Ytnelkodgjfjpdaa.X
open Go.RowKit Go.Proofs.YtnelkodgjfjpdaaW.PrintWords Go.Proofs.YtnelkodgjfjpdaaW.PrintLast Go.Proofs.Ytnelkodgjfjpdaa.XRow
set_option linter.unusedVariables false
set_option maxRecDepth 100000 in
theorem ch131 : Opn Try.prog 131 (Kd.pair (Kd.int .i64) (Kd.pair (Kd.int .i64) (Kd.pair (Kd.int .i64) (Kd.int .i64)))) (fun p : (Int) × (Int) × (Int) × (Int) => I64 p.1 ∧ I64 p.2.1 ∧ I64 p.2.2.1 ∧ I64 p.2.2.2) := Opn.struct Try.underlying131 (by kernel_rfl) (OpnF.cons rfl (Opn.i64 Try.underlying3 (by kernel_rfl)) (OpnF.cons rfl (Opn.i64 Try.underlying3 (by kernel_rfl)) (OpnF.cons rfl (Opn.i64 Try.underlying3 (by kernel_rfl)) (OpnF.last rfl (Opn.i64 Try.underlying3 (by kernel_rfl))))))
def ok131 (x : S131) : Prop := I64 x.f0 ∧ I64 x.f1 ∧ I64 x.f2 ∧ I64 x.f3
set_option maxRecDepth 100000 in
theorem opn131 : Opn Try.prog 131 k131 ok131 := Opn.iso (fun p => (⟨p.1, p.2.1, p.2.2.1, p.2.2.2⟩ : S131)) (fun _ => rfl) ch131
set_option maxRecDepth 100000 in
theorem ch220 : Opn Try.prog 220 (Kd.pair (Kd.int .i64) (Kd.pair (Kd.int .i64) (Kd.int .i64))) (fun p : (Int) × (Int) × (Int) => I64 p.1 ∧ I64 p.2.1 ∧ I64 p.2.2) := Opn.struct Try.underlying220 (by kernel_rfl) (OpnF.cons rfl (Opn.i64 Try.underlying3 (by kernel_rfl)) (OpnF.cons rfl (Opn.i64 Try.underlying3 (by kernel_rfl)) (OpnF.last rfl (Opn.i64 Try.underlying3 (by kernel_rfl)))))
def ok220 (x : S220) : Prop := I64 x.f0 ∧ I64 x.f1 ∧ I64 x.f2
set_option maxRecDepth 100000 in
theorem opn220 : Opn Try.prog 220 k220 ok220 := Opn.iso (fun p => (⟨p.1, p.2.1, p.2.2⟩ : S220)) (fun _ => rfl) ch220
set_option maxRecDepth 100000 in
theorem ch57 : Opn Try.prog 57 (Kd.pair (Kd.int .i64) (Kd.pair (Kd.int .i64) (Kd.pair (Kd.int .i64) (Kd.pair (Kd.slice 131 k131) (Kd.slice 220 k220))))) (fun p : (Int) × (Int) × (Int) × (List (S131)) × (List (S220)) => I64 p.1 ∧ I64 p.2.1 ∧ I64 p.2.2.1 ∧ (p.2.2.2.1.length ≤ maxLen ∧ ∀ y ∈ p.2.2.2.1, ok131 y) ∧ (p.2.2.2.2.length ≤ maxLen ∧ ∀ y ∈ p.2.2.2.2, ok220 y)) := Opn.struct Try.underlying57 (by kernel_rfl) (OpnF.cons rfl (Opn.i64 Try.underlying3 (by kernel_rfl)) (OpnF.cons rfl (Opn.i64 Try.underlying3 (by kernel_rfl)) (OpnF.cons rfl (Opn.i64 Try.underlying3 (by kernel_rfl)) (OpnF.cons rfl (Opn.slice Try.underlying33 (by kernel_rfl) opn131) (OpnF.last rfl (Opn.slice Try.underlying55 (by kernel_rfl) opn220))))))
end Go.Proofs.Ytnelkodgjfjpdaa.X
