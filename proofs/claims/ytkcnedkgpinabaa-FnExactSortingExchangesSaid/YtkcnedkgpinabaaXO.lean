-- Written by a program of this session (wip/gen/xp.py, over the kit's printer). Not trusted: Lean checks it.
import Derived.Test.YtkcnedkgpinabaaX0
import Derived.Test.YtkcnedkgpinabaaXRow
namespace Go.Proofs.Ytkcnedkgpinabaa.X
open Go.RowKit Go.Proofs.YtkcnedkgpinabaaW.PrintWords Go.Proofs.YtkcnedkgpinabaaW.PrintLast Go.Proofs.Ytkcnedkgpinabaa.XRow
set_option linter.unusedVariables false
set_option maxRecDepth 100000 in
theorem ch129 : Opn Try.prog 129 (Kd.pair (Kd.int .i64) (Kd.pair (Kd.int .i64) (Kd.pair (Kd.int .i64) (Kd.int .i64)))) (fun p : (Int) × (Int) × (Int) × (Int) => I64 p.1 ∧ I64 p.2.1 ∧ I64 p.2.2.1 ∧ I64 p.2.2.2) := Opn.struct Try.underlying129 (by kernel_rfl) (OpnF.cons rfl (Opn.i64 Try.underlying3 (by kernel_rfl)) (OpnF.cons rfl (Opn.i64 Try.underlying3 (by kernel_rfl)) (OpnF.cons rfl (Opn.i64 Try.underlying3 (by kernel_rfl)) (OpnF.last rfl (Opn.i64 Try.underlying3 (by kernel_rfl))))))
def ok129 (x : S129) : Prop := I64 x.f0 ∧ I64 x.f1 ∧ I64 x.f2 ∧ I64 x.f3
set_option maxRecDepth 100000 in
theorem opn129 : Opn Try.prog 129 k129 ok129 := Opn.iso (fun p => (⟨p.1, p.2.1, p.2.2.1, p.2.2.2⟩ : S129)) (fun _ => rfl) ch129
set_option maxRecDepth 100000 in
theorem ch134 : Opn Try.prog 134 (Kd.pair (Kd.int .i64) (Kd.slice 3 (Kd.int .i64))) (fun p : (Int) × (List Int) => I64 p.1 ∧ (p.2.length ≤ maxLen ∧ ∀ y ∈ p.2, I64 y)) := Opn.struct Try.underlying134 (by kernel_rfl) (OpnF.cons rfl (Opn.i64 Try.underlying3 (by kernel_rfl)) (OpnF.last rfl (Opn.slice Try.underlying26 (by kernel_rfl) (Opn.i64 Try.underlying3 (by kernel_rfl)))))
def ok134 (x : S134) : Prop := I64 x.f0 ∧ (x.f1.length ≤ maxLen ∧ ∀ y ∈ x.f1, I64 y)
set_option maxRecDepth 100000 in
theorem opn134 : Opn Try.prog 134 k134 ok134 := Opn.iso (fun p => (⟨p.1, p.2⟩ : S134)) (fun _ => rfl) ch134
set_option maxRecDepth 100000 in
theorem ch71 : Opn Try.prog 71 (Kd.pair Kd.string (Kd.pair Kd.string (Kd.int .i64))) (fun p : (ByteArray) × (ByteArray) × (Int) => p.1.size ≤ maxLen ∧ p.2.1.size ≤ maxLen ∧ I64 p.2.2) := Opn.struct Try.underlying71 (by kernel_rfl) (OpnF.cons rfl (Opn.string Try.underlying9 (by kernel_rfl)) (OpnF.cons rfl (Opn.string Try.underlying9 (by kernel_rfl)) (OpnF.last rfl (Opn.i64 Try.underlying3 (by kernel_rfl)))))
set_option maxRecDepth 100000 in
theorem ch73 : Opn Try.prog 73 (Kd.pair Kd.string Kd.string) (fun p : (ByteArray) × (ByteArray) => p.1.size ≤ maxLen ∧ p.2.size ≤ maxLen) := Opn.struct Try.underlying73 (by kernel_rfl) (OpnF.cons rfl (Opn.string Try.underlying9 (by kernel_rfl)) (OpnF.last rfl (Opn.string Try.underlying9 (by kernel_rfl))))
end Go.Proofs.Ytkcnedkgpinabaa.X
