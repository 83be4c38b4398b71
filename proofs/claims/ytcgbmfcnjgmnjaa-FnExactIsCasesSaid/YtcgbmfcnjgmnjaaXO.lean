-- Written by a program of this session (wip/gen/xp.py, over the kit's printer). Not trusted: Lean checks it.
import Derived.Test.YtcgbmfcnjgmnjaaX0
import Derived.Test.YtcgbmfcnjgmnjaaXRow
namespace Go.Proofs.Ytcgbmfcnjgmnjaa.X
open Go.RowKit Go.Proofs.YtcgbmfcnjgmnjaaW.PrintWords Go.Proofs.YtcgbmfcnjgmnjaaW.PrintLast Go.Proofs.Ytcgbmfcnjgmnjaa.XRow
set_option linter.unusedVariables false
set_option maxRecDepth 100000 in
theorem ch148 : Opn Try.prog 148 (Kd.pair (Kd.int .i64) (Kd.pair (Kd.int .i64) (Kd.pair (Kd.int .i64) (Kd.int .i64)))) (fun p : (Int) × (Int) × (Int) × (Int) => I64 p.1 ∧ I64 p.2.1 ∧ I64 p.2.2.1 ∧ I64 p.2.2.2) := Opn.struct Try.underlying148 (by kernel_rfl) (OpnF.cons rfl (Opn.i64 Try.underlying3 (by kernel_rfl)) (OpnF.cons rfl (Opn.i64 Try.underlying3 (by kernel_rfl)) (OpnF.cons rfl (Opn.i64 Try.underlying3 (by kernel_rfl)) (OpnF.last rfl (Opn.i64 Try.underlying3 (by kernel_rfl))))))
def ok148 (x : S148) : Prop := I64 x.f0 ∧ I64 x.f1 ∧ I64 x.f2 ∧ I64 x.f3
set_option maxRecDepth 100000 in
theorem opn148 : Opn Try.prog 148 k148 ok148 := Opn.iso (fun p => (⟨p.1, p.2.1, p.2.2.1, p.2.2.2⟩ : S148)) (fun _ => rfl) ch148
set_option maxRecDepth 100000 in
theorem ch260 : Opn Try.prog 260 (Kd.pair (Kd.int .i64) (Kd.pair (Kd.int .i64) (Kd.int .i64))) (fun p : (Int) × (Int) × (Int) => I64 p.1 ∧ I64 p.2.1 ∧ I64 p.2.2) := Opn.struct Try.underlying260 (by kernel_rfl) (OpnF.cons rfl (Opn.i64 Try.underlying3 (by kernel_rfl)) (OpnF.cons rfl (Opn.i64 Try.underlying3 (by kernel_rfl)) (OpnF.last rfl (Opn.i64 Try.underlying3 (by kernel_rfl)))))
def ok260 (x : S260) : Prop := I64 x.f0 ∧ I64 x.f1 ∧ I64 x.f2
set_option maxRecDepth 100000 in
theorem opn260 : Opn Try.prog 260 k260 ok260 := Opn.iso (fun p => (⟨p.1, p.2.1, p.2.2⟩ : S260)) (fun _ => rfl) ch260
set_option maxRecDepth 100000 in
theorem ch108 : Opn Try.prog 108 (Kd.pair (Kd.int .i64) (Kd.pair (Kd.int .i64) (Kd.pair (Kd.int .i64) (Kd.pair (Kd.slice 148 k148) (Kd.slice 260 k260))))) (fun p : (Int) × (Int) × (Int) × (List (S148)) × (List (S260)) => I64 p.1 ∧ I64 p.2.1 ∧ I64 p.2.2.1 ∧ (p.2.2.2.1.length ≤ maxLen ∧ ∀ y ∈ p.2.2.2.1, ok148 y) ∧ (p.2.2.2.2.length ≤ maxLen ∧ ∀ y ∈ p.2.2.2.2, ok260 y)) := Opn.struct Try.underlying108 (by kernel_rfl) (OpnF.cons rfl (Opn.i64 Try.underlying3 (by kernel_rfl)) (OpnF.cons rfl (Opn.i64 Try.underlying3 (by kernel_rfl)) (OpnF.cons rfl (Opn.i64 Try.underlying3 (by kernel_rfl)) (OpnF.cons rfl (Opn.slice Try.underlying41 (by kernel_rfl) opn148) (OpnF.last rfl (Opn.slice Try.underlying106 (by kernel_rfl) opn260))))))
set_option maxRecDepth 100000 in
theorem ch118 : Opn Try.prog 118 (Kd.pair Kd.string (Kd.pair Kd.string (Kd.int .i64))) (fun p : (ByteArray) × (ByteArray) × (Int) => p.1.size ≤ maxLen ∧ p.2.1.size ≤ maxLen ∧ I64 p.2.2) := Opn.struct Try.underlying118 (by kernel_rfl) (OpnF.cons rfl (Opn.string Try.underlying9 (by kernel_rfl)) (OpnF.cons rfl (Opn.string Try.underlying9 (by kernel_rfl)) (OpnF.last rfl (Opn.i64 Try.underlying3 (by kernel_rfl)))))
-- type 120: not laid open yet
end Go.Proofs.Ytcgbmfcnjgmnjaa.X
