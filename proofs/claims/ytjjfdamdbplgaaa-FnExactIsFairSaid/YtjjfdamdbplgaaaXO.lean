-- Written by a program of this session (wip/gen/xp.py, over the kit's printer). Not trusted: Lean checks it.
import Derived.Test.YtjjfdamdbplgaaaX0
import Derived.Test.YtjjfdamdbplgaaaXRow
namespace Go.Proofs.Ytjjfdamdbplgaaa.X
open Go.RowKit Go.Proofs.YtjjfdamdbplgaaaW.PrintWords Go.Proofs.YtjjfdamdbplgaaaW.PrintLast Go.Proofs.Ytjjfdamdbplgaaa.XRow
set_option linter.unusedVariables false
set_option maxRecDepth 100000 in
theorem ch78 : Opn Try.prog 78 (Kd.pair (Kd.int .i64) (Kd.pair (Kd.int .i64) (Kd.pair (Kd.int .i64) (Kd.int .i64)))) (fun p : (Int) × (Int) × (Int) × (Int) => I64 p.1 ∧ I64 p.2.1 ∧ I64 p.2.2.1 ∧ I64 p.2.2.2) := Opn.struct Try.underlying78 (by kernel_rfl) (OpnF.cons rfl (Opn.i64 Try.underlying3 (by kernel_rfl)) (OpnF.cons rfl (Opn.i64 Try.underlying3 (by kernel_rfl)) (OpnF.cons rfl (Opn.i64 Try.underlying3 (by kernel_rfl)) (OpnF.last rfl (Opn.i64 Try.underlying3 (by kernel_rfl))))))
def ok78 (x : S78) : Prop := I64 x.f0 ∧ I64 x.f1 ∧ I64 x.f2 ∧ I64 x.f3
set_option maxRecDepth 100000 in
theorem opn78 : Opn Try.prog 78 k78 ok78 := Opn.iso (fun p => (⟨p.1, p.2.1, p.2.2.1, p.2.2.2⟩ : S78)) (fun _ => rfl) ch78
set_option maxRecDepth 100000 in
theorem ch127 : Opn Try.prog 127 (Kd.pair (Kd.int .i64) (Kd.pair (Kd.int .i64) (Kd.int .i64))) (fun p : (Int) × (Int) × (Int) => I64 p.1 ∧ I64 p.2.1 ∧ I64 p.2.2) := Opn.struct Try.underlying127 (by kernel_rfl) (OpnF.cons rfl (Opn.i64 Try.underlying3 (by kernel_rfl)) (OpnF.cons rfl (Opn.i64 Try.underlying3 (by kernel_rfl)) (OpnF.last rfl (Opn.i64 Try.underlying3 (by kernel_rfl)))))
def ok127 (x : S127) : Prop := I64 x.f0 ∧ I64 x.f1 ∧ I64 x.f2
set_option maxRecDepth 100000 in
theorem opn127 : Opn Try.prog 127 k127 ok127 := Opn.iso (fun p => (⟨p.1, p.2.1, p.2.2⟩ : S127)) (fun _ => rfl) ch127
set_option maxRecDepth 100000 in
theorem ch46 : Opn Try.prog 46 (Kd.pair (Kd.int .i64) (Kd.pair (Kd.int .i64) (Kd.pair (Kd.int .i64) (Kd.pair (Kd.slice 78 k78) (Kd.slice 127 k127))))) (fun p : (Int) × (Int) × (Int) × (List (S78)) × (List (S127)) => I64 p.1 ∧ I64 p.2.1 ∧ I64 p.2.2.1 ∧ (p.2.2.2.1.length ≤ maxLen ∧ ∀ y ∈ p.2.2.2.1, ok78 y) ∧ (p.2.2.2.2.length ≤ maxLen ∧ ∀ y ∈ p.2.2.2.2, ok127 y)) := Opn.struct Try.underlying46 (by kernel_rfl) (OpnF.cons rfl (Opn.i64 Try.underlying3 (by kernel_rfl)) (OpnF.cons rfl (Opn.i64 Try.underlying3 (by kernel_rfl)) (OpnF.cons rfl (Opn.i64 Try.underlying3 (by kernel_rfl)) (OpnF.cons rfl (Opn.slice Try.underlying22 (by kernel_rfl) opn78) (OpnF.last rfl (Opn.slice Try.underlying44 (by kernel_rfl) opn127))))))
set_option maxRecDepth 100000 in
theorem ch105 : Opn Try.prog 105 (Kd.pair (Kd.slice 3 (Kd.int .i64)) (Kd.int .i64)) (fun p : (List Int) × (Int) => (p.1.length ≤ maxLen ∧ ∀ y ∈ p.1, I64 y) ∧ I64 p.2) := Opn.struct Try.underlying105 (by kernel_rfl) (OpnF.cons rfl (Opn.slice Try.underlying23 (by kernel_rfl) (Opn.i64 Try.underlying3 (by kernel_rfl))) (OpnF.last rfl (Opn.i64 Try.underlying3 (by kernel_rfl))))
def ok105 (x : S105) : Prop := (x.f0.length ≤ maxLen ∧ ∀ y ∈ x.f0, I64 y) ∧ I64 x.f1
set_option maxRecDepth 100000 in
theorem opn105 : Opn Try.prog 105 k105 ok105 := Opn.iso (fun p => (⟨p.1, p.2⟩ : S105)) (fun _ => rfl) ch105
end Go.Proofs.Ytjjfdamdbplgaaa.X
