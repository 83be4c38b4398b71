-- Written by a program of this session (wip/gen/xp.py, over the kit's printer). Not trusted: Lean checks it.
import Derived.Test.YtgpkchabnjddgaaX0
import Derived.Test.YtgpkchabnjddgaaXRow
namespace Go.Proofs.Ytgpkchabnjddgaa.X
open Go.RowKit Go.Proofs.YtgpkchabnjddgaaW.PrintWords Go.Proofs.YtgpkchabnjddgaaW.PrintLast Go.Proofs.Ytgpkchabnjddgaa.XRow
set_option linter.unusedVariables false
set_option maxRecDepth 100000 in
theorem ch82 : Opn Try.prog 82 (Kd.pair (Kd.int .i64) (Kd.int .i64)) (fun p : (Int) × (Int) => I64 p.1 ∧ I64 p.2) := Opn.struct Try.underlying82 (by kernel_rfl) (OpnF.cons rfl (Opn.i64 Try.underlying3 (by kernel_rfl)) (OpnF.last rfl (Opn.i64 Try.underlying3 (by kernel_rfl))))
def ok82 (x : S82) : Prop := I64 x.f0 ∧ I64 x.f1
set_option maxRecDepth 100000 in
theorem opn82 : Opn Try.prog 82 k82 ok82 := Opn.iso (fun p => (⟨p.1, p.2⟩ : S82)) (fun _ => rfl) ch82
set_option maxRecDepth 100000 in
theorem ch24 : Opn Try.prog 24 (Kd.pair (Kd.int .i64) (Kd.slice 59 (Kd.slice 82 k82))) (fun p : (Int) × (List (List (S82))) => I64 p.1 ∧ (p.2.length ≤ maxLen ∧ ∀ y ∈ p.2, (y.length ≤ maxLen ∧ ∀ yy ∈ y, ok82 yy))) := Opn.struct Try.underlying24 (by kernel_rfl) (OpnF.cons rfl (Opn.i64 Try.underlying3 (by kernel_rfl)) (OpnF.last rfl (Opn.slice Try.underlying22 (by kernel_rfl) (Opn.slice Try.underlying59 (by kernel_rfl) opn82))))
end Go.Proofs.Ytgpkchabnjddgaa.X
