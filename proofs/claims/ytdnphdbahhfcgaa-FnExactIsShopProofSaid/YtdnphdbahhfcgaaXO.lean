-- Written by a program of this session (wip/gen/xp.py, over the kit's printer). Not trusted: Lean checks it.
import Derived.Test.YtdnphdbahhfcgaaX0
import Derived.Test.YtdnphdbahhfcgaaXRow
namespace Go.Proofs.Ytdnphdbahhfcgaa.X
open Go.RowKit Go.Proofs.YtdnphdbahhfcgaaW.PrintWords Go.Proofs.YtdnphdbahhfcgaaW.PrintLast Go.Proofs.Ytdnphdbahhfcgaa.XRow
set_option linter.unusedVariables false
set_option maxRecDepth 100000 in
theorem ch75 : Opn Try.prog 75 (Kd.pair (Kd.int .i64) (Kd.int .i64)) (fun p : (Int) × (Int) => I64 p.1 ∧ I64 p.2) := Opn.struct Try.underlying75 (by kernel_rfl) (OpnF.cons rfl (Opn.i64 Try.underlying3 (by kernel_rfl)) (OpnF.last rfl (Opn.i64 Try.underlying3 (by kernel_rfl))))
def ok75 (x : S75) : Prop := I64 x.f0 ∧ I64 x.f1
set_option maxRecDepth 100000 in
theorem opn75 : Opn Try.prog 75 k75 ok75 := Opn.iso (fun p => (⟨p.1, p.2⟩ : S75)) (fun _ => rfl) ch75
set_option maxRecDepth 100000 in
theorem ch24 : Opn Try.prog 24 (Kd.pair (Kd.int .i64) (Kd.slice 54 (Kd.slice 75 k75))) (fun p : (Int) × (List (List (S75))) => I64 p.1 ∧ (p.2.length ≤ maxLen ∧ ∀ y ∈ p.2, (y.length ≤ maxLen ∧ ∀ yy ∈ y, ok75 yy))) := Opn.struct Try.underlying24 (by kernel_rfl) (OpnF.cons rfl (Opn.i64 Try.underlying3 (by kernel_rfl)) (OpnF.last rfl (Opn.slice Try.underlying22 (by kernel_rfl) (Opn.slice Try.underlying54 (by kernel_rfl) opn75))))
set_option maxRecDepth 100000 in
theorem ch43 : Opn Try.prog 43 (Kd.pair (Kd.int .i64) (Kd.int .i64)) (fun p : (Int) × (Int) => I64 p.1 ∧ I64 p.2) := Opn.two Try.underlying43 (by kernel_rfl) (Opn.i64 Try.underlying3 (by kernel_rfl))
def ok43 (x : S43) : Prop := I64 x.f0 ∧ I64 x.f1
set_option maxRecDepth 100000 in
theorem opn43 : Opn Try.prog 43 k43 ok43 := Opn.iso (fun p => (⟨p.1, p.2⟩ : S43)) (fun _ => rfl) ch43
end Go.Proofs.Ytdnphdbahhfcgaa.X
