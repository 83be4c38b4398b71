-- Written by a program of this session (wip/gen/xp.py, over the kit's printer). Not trusted: Lean checks it.
import Derived.Test.YtpdjnbbikgkgpaaX0
import Derived.Test.YtpdjnbbikgkgpaaXRow
namespace Go.Proofs.Ytpdjnbbikgkgpaa.X
open Go.RowKit Go.Proofs.YtpdjnbbikgkgpaaW.PrintWords Go.Proofs.YtpdjnbbikgkgpaaW.PrintLast Go.Proofs.Ytpdjnbbikgkgpaa.XRow
set_option linter.unusedVariables false
set_option maxRecDepth 100000 in
theorem ch130 : Opn Try.prog 130 (Kd.pair (Kd.int .i64) (Kd.int .i64)) (fun p : (Int) × (Int) => I64 p.1 ∧ I64 p.2) := Opn.struct Try.underlying130 (by kernel_rfl) (OpnF.cons rfl (Opn.i64 Try.underlying3 (by kernel_rfl)) (OpnF.last rfl (Opn.i64 Try.underlying3 (by kernel_rfl))))
def ok130 (x : S130) : Prop := I64 x.f0 ∧ I64 x.f1
set_option maxRecDepth 100000 in
theorem opn130 : Opn Try.prog 130 k130 ok130 := Opn.iso (fun p => (⟨p.1, p.2⟩ : S130)) (fun _ => rfl) ch130
set_option maxRecDepth 100000 in
theorem ch45 : Opn Try.prog 45 (Kd.pair (Kd.int .i64) (Kd.slice 102 (Kd.slice 130 k130))) (fun p : (Int) × (List (List (S130))) => I64 p.1 ∧ (p.2.length ≤ maxLen ∧ ∀ y ∈ p.2, (y.length ≤ maxLen ∧ ∀ yy ∈ y, ok130 yy))) := Opn.struct Try.underlying45 (by kernel_rfl) (OpnF.cons rfl (Opn.i64 Try.underlying3 (by kernel_rfl)) (OpnF.last rfl (Opn.slice Try.underlying43 (by kernel_rfl) (Opn.slice Try.underlying102 (by kernel_rfl) opn130))))
set_option maxRecDepth 100000 in
theorem ch74 : Opn Try.prog 74 (Kd.pair (Kd.int .i64) (Kd.pair (Kd.int .i64) (Kd.pair (Kd.int .i64) (Kd.int .i64)))) (fun p : (Int) × (Int) × (Int) × (Int) => I64 p.1 ∧ I64 p.2.1 ∧ I64 p.2.2.1 ∧ I64 p.2.2.2) := Opn.struct Try.underlying74 (by kernel_rfl) (OpnF.cons rfl (Opn.i64 Try.underlying3 (by kernel_rfl)) (OpnF.cons rfl (Opn.i64 Try.underlying3 (by kernel_rfl)) (OpnF.cons rfl (Opn.i64 Try.underlying3 (by kernel_rfl)) (OpnF.last rfl (Opn.i64 Try.underlying3 (by kernel_rfl))))))
def ok74 (x : S74) : Prop := I64 x.f0 ∧ I64 x.f1 ∧ I64 x.f2 ∧ I64 x.f3
set_option maxRecDepth 100000 in
theorem opn74 : Opn Try.prog 74 k74 ok74 := Opn.iso (fun p => (⟨p.1, p.2.1, p.2.2.1, p.2.2.2⟩ : S74)) (fun _ => rfl) ch74
end Go.Proofs.Ytpdjnbbikgkgpaa.X
