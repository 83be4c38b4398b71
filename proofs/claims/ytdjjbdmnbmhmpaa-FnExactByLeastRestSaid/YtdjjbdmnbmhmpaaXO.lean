-- Written by a program of this session (wip/gen/xp.py, over the kit's printer). Not trusted: Lean checks it.
import Derived.Test.YtdjjbdmnbmhmpaaX0
import Derived.Test.YtdjjbdmnbmhmpaaXRow
namespace Go.Proofs.Ytdjjbdmnbmhmpaa.X
open Go.RowKit Go.Proofs.YtdjjbdmnbmhmpaaW.PrintWords Go.Proofs.YtdjjbdmnbmhmpaaW.PrintLast Go.Proofs.Ytdjjbdmnbmhmpaa.XRow
set_option linter.unusedVariables false
set_option maxRecDepth 100000 in
theorem ch103 : Opn Try.prog 103 (Kd.pair (Kd.int .i64) (Kd.pair (Kd.int .i64) (Kd.pair (Kd.int .i64) (Kd.int .i64)))) (fun p : (Int) × (Int) × (Int) × (Int) => I64 p.1 ∧ I64 p.2.1 ∧ I64 p.2.2.1 ∧ I64 p.2.2.2) := Opn.struct Try.underlying103 (by kernel_rfl) (OpnF.cons rfl (Opn.i64 Try.underlying3 (by kernel_rfl)) (OpnF.cons rfl (Opn.i64 Try.underlying3 (by kernel_rfl)) (OpnF.cons rfl (Opn.i64 Try.underlying3 (by kernel_rfl)) (OpnF.last rfl (Opn.i64 Try.underlying3 (by kernel_rfl))))))
def ok103 (x : S103) : Prop := I64 x.f0 ∧ I64 x.f1 ∧ I64 x.f2 ∧ I64 x.f3
set_option maxRecDepth 100000 in
theorem opn103 : Opn Try.prog 103 k103 ok103 := Opn.iso (fun p => (⟨p.1, p.2.1, p.2.2.1, p.2.2.2⟩ : S103)) (fun _ => rfl) ch103
set_option maxRecDepth 100000 in
theorem ch42 : Opn Try.prog 42 (Kd.pair Kd.string (Kd.pair Kd.string (Kd.int .i64))) (fun p : (ByteArray) × (ByteArray) × (Int) => p.1.size ≤ maxLen ∧ p.2.1.size ≤ maxLen ∧ I64 p.2.2) := Opn.struct Try.underlying42 (by kernel_rfl) (OpnF.cons rfl (Opn.string Try.underlying9 (by kernel_rfl)) (OpnF.cons rfl (Opn.string Try.underlying9 (by kernel_rfl)) (OpnF.last rfl (Opn.i64 Try.underlying3 (by kernel_rfl)))))
end Go.Proofs.Ytdjjbdmnbmhmpaa.X
