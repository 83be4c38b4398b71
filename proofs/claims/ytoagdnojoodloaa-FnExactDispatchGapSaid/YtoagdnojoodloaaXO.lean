-- Written by a program of this session (wip/gen/xp.py, over the kit's printer). Not trusted: Lean checks it.
import Derived.Test.YtoagdnojoodloaaX0
import Derived.Test.YtoagdnojoodloaaXRow
namespace Go.Proofs.Ytoagdnojoodloaa.X
open Go.RowKit Go.Proofs.YtoagdnojoodloaaW.PrintWords Go.Proofs.YtoagdnojoodloaaW.PrintLast Go.Proofs.Ytoagdnojoodloaa.XRow
set_option linter.unusedVariables false
set_option maxRecDepth 100000 in
theorem ch63 : Opn Try.prog 63 (Kd.pair (Kd.int .i64) (Kd.pair (Kd.int .i64) (Kd.pair (Kd.int .i64) (Kd.int .i64)))) (fun p : (Int) × (Int) × (Int) × (Int) => I64 p.1 ∧ I64 p.2.1 ∧ I64 p.2.2.1 ∧ I64 p.2.2.2) := Opn.struct Try.underlying63 (by kernel_rfl) (OpnF.cons rfl (Opn.i64 Try.underlying3 (by kernel_rfl)) (OpnF.cons rfl (Opn.i64 Try.underlying3 (by kernel_rfl)) (OpnF.cons rfl (Opn.i64 Try.underlying3 (by kernel_rfl)) (OpnF.last rfl (Opn.i64 Try.underlying3 (by kernel_rfl))))))
def ok63 (x : S63) : Prop := I64 x.f0 ∧ I64 x.f1 ∧ I64 x.f2 ∧ I64 x.f3
set_option maxRecDepth 100000 in
theorem opn63 : Opn Try.prog 63 k63 ok63 := Opn.iso (fun p => (⟨p.1, p.2.1, p.2.2.1, p.2.2.2⟩ : S63)) (fun _ => rfl) ch63
set_option maxRecDepth 100000 in
theorem ch100 : Opn Try.prog 100 (Kd.pair (Kd.int .i64) (Kd.pair (Kd.int .i64) (Kd.int .i64))) (fun p : (Int) × (Int) × (Int) => I64 p.1 ∧ I64 p.2.1 ∧ I64 p.2.2) := Opn.struct Try.underlying100 (by kernel_rfl) (OpnF.cons rfl (Opn.i64 Try.underlying3 (by kernel_rfl)) (OpnF.cons rfl (Opn.i64 Try.underlying3 (by kernel_rfl)) (OpnF.last rfl (Opn.i64 Try.underlying3 (by kernel_rfl)))))
def ok100 (x : S100) : Prop := I64 x.f0 ∧ I64 x.f1 ∧ I64 x.f2
set_option maxRecDepth 100000 in
theorem opn100 : Opn Try.prog 100 k100 ok100 := Opn.iso (fun p => (⟨p.1, p.2.1, p.2.2⟩ : S100)) (fun _ => rfl) ch100
set_option maxRecDepth 100000 in
theorem ch38 : Opn Try.prog 38 (Kd.pair (Kd.int .i64) (Kd.pair (Kd.int .i64) (Kd.pair (Kd.int .i64) (Kd.pair (Kd.slice 63 k63) (Kd.slice 100 k100))))) (fun p : (Int) × (Int) × (Int) × (List (S63)) × (List (S100)) => I64 p.1 ∧ I64 p.2.1 ∧ I64 p.2.2.1 ∧ (p.2.2.2.1.length ≤ maxLen ∧ ∀ y ∈ p.2.2.2.1, ok63 y) ∧ (p.2.2.2.2.length ≤ maxLen ∧ ∀ y ∈ p.2.2.2.2, ok100 y)) := Opn.struct Try.underlying38 (by kernel_rfl) (OpnF.cons rfl (Opn.i64 Try.underlying3 (by kernel_rfl)) (OpnF.cons rfl (Opn.i64 Try.underlying3 (by kernel_rfl)) (OpnF.cons rfl (Opn.i64 Try.underlying3 (by kernel_rfl)) (OpnF.cons rfl (Opn.slice Try.underlying22 (by kernel_rfl) opn63) (OpnF.last rfl (Opn.slice Try.underlying36 (by kernel_rfl) opn100))))))
end Go.Proofs.Ytoagdnojoodloaa.X
