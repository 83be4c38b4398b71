-- Written by a program of this session (wip/gen/xp.py, over the kit's printer). Not trusted: Lean checks it.
import Derived.Test.YtbkijojojjdgcaaX0
import Derived.Test.YtbkijojojjdgcaaXRow
namespace Go.Proofs.Ytbkijojojjdgcaa.X
open Go.RowKit Go.Proofs.YtbkijojojjdgcaaW.PrintWords Go.Proofs.YtbkijojojjdgcaaW.PrintLast Go.Proofs.Ytbkijojojjdgcaa.XRow
set_option linter.unusedVariables false
set_option maxRecDepth 100000 in
theorem ch74 : Opn Try.prog 74 (Kd.pair (Kd.int .i64) (Kd.int .i64)) (fun p : (Int) × (Int) => I64 p.1 ∧ I64 p.2) := Opn.struct Try.underlying74 (by kernel_rfl) (OpnF.cons rfl (Opn.i64 Try.underlying3 (by kernel_rfl)) (OpnF.last rfl (Opn.i64 Try.underlying3 (by kernel_rfl))))
def ok74 (x : S74) : Prop := I64 x.f0 ∧ I64 x.f1
set_option maxRecDepth 100000 in
theorem opn74 : Opn Try.prog 74 k74 ok74 := Opn.iso (fun p => (⟨p.1, p.2⟩ : S74)) (fun _ => rfl) ch74
set_option maxRecDepth 100000 in
theorem ch24 : Opn Try.prog 24 (Kd.pair (Kd.int .i64) (Kd.slice 59 (Kd.slice 74 k74))) (fun p : (Int) × (List (List (S74))) => I64 p.1 ∧ (p.2.length ≤ maxLen ∧ ∀ y ∈ p.2, (y.length ≤ maxLen ∧ ∀ yy ∈ y, ok74 yy))) := Opn.struct Try.underlying24 (by kernel_rfl) (OpnF.cons rfl (Opn.i64 Try.underlying3 (by kernel_rfl)) (OpnF.last rfl (Opn.slice Try.underlying22 (by kernel_rfl) (Opn.slice Try.underlying59 (by kernel_rfl) opn74))))
set_option maxRecDepth 100000 in
theorem ch47 : Opn Try.prog 47 (Kd.pair (Kd.int .i64) (Kd.int .i64)) (fun p : (Int) × (Int) => I64 p.1 ∧ I64 p.2) := Opn.two Try.underlying47 (by kernel_rfl) (Opn.i64 Try.underlying3 (by kernel_rfl))
def ok47 (x : S47) : Prop := I64 x.f0 ∧ I64 x.f1
set_option maxRecDepth 100000 in
theorem opn47 : Opn Try.prog 47 k47 ok47 := Opn.iso (fun p => (⟨p.1, p.2⟩ : S47)) (fun _ => rfl) ch47
end Go.Proofs.Ytbkijojojjdgcaa.X
