-- Written by a program of this session (wip/gen/xp.py, over the kit's printer). Not trusted: Lean checks it.
import Derived.Test.YtafdeppeacmpdaaX0
import Derived.Test.YtafdeppeacmpdaaXRow
namespace Go.Proofs.Ytafdeppeacmpdaa.X
open Go.RowKit Go.Proofs.YtafdeppeacmpdaaW.PrintWords Go.Proofs.YtafdeppeacmpdaaW.PrintLast Go.Proofs.Ytafdeppeacmpdaa.XRow
set_option linter.unusedVariables false
set_option maxRecDepth 100000 in
theorem ch148 : Opn Try.prog 148 (Kd.pair (Kd.int .i64) (Kd.pair (Kd.int .i64) (Kd.pair (Kd.int .i64) (Kd.int .i64)))) (fun p : (Int) × (Int) × (Int) × (Int) => I64 p.1 ∧ I64 p.2.1 ∧ I64 p.2.2.1 ∧ I64 p.2.2.2) := Opn.struct Try.underlying148 (by kernel_rfl) (OpnF.cons rfl (Opn.i64 Try.underlying3 (by kernel_rfl)) (OpnF.cons rfl (Opn.i64 Try.underlying3 (by kernel_rfl)) (OpnF.cons rfl (Opn.i64 Try.underlying3 (by kernel_rfl)) (OpnF.last rfl (Opn.i64 Try.underlying3 (by kernel_rfl))))))
def ok148 (x : S148) : Prop := I64 x.f0 ∧ I64 x.f1 ∧ I64 x.f2 ∧ I64 x.f3
set_option maxRecDepth 100000 in
theorem opn148 : Opn Try.prog 148 k148 ok148 := Opn.iso (fun p => (⟨p.1, p.2.1, p.2.2.1, p.2.2.2⟩ : S148)) (fun _ => rfl) ch148
set_option maxRecDepth 100000 in
theorem ch150 : Opn Try.prog 150 (Kd.pair (Kd.int .i64) (Kd.pair (Kd.int .i64) (Kd.int .i64))) (fun p : (Int) × (Int) × (Int) => I64 p.1 ∧ I64 p.2.1 ∧ I64 p.2.2) := Opn.struct Try.underlying150 (by kernel_rfl) (OpnF.cons rfl (Opn.i64 Try.underlying3 (by kernel_rfl)) (OpnF.cons rfl (Opn.i64 Try.underlying3 (by kernel_rfl)) (OpnF.last rfl (Opn.i64 Try.underlying3 (by kernel_rfl)))))
def ok150 (x : S150) : Prop := I64 x.f0 ∧ I64 x.f1 ∧ I64 x.f2
set_option maxRecDepth 100000 in
theorem opn150 : Opn Try.prog 150 k150 ok150 := Opn.iso (fun p => (⟨p.1, p.2.1, p.2.2⟩ : S150)) (fun _ => rfl) ch150
set_option maxRecDepth 100000 in
theorem ch59 : Opn Try.prog 59 (Kd.pair (Kd.int .i64) (Kd.pair (Kd.int .i64) (Kd.pair (Kd.int .i64) (Kd.pair (Kd.slice 148 k148) (Kd.slice 150 k150))))) (fun p : (Int) × (Int) × (Int) × (List (S148)) × (List (S150)) => I64 p.1 ∧ I64 p.2.1 ∧ I64 p.2.2.1 ∧ (p.2.2.2.1.length ≤ maxLen ∧ ∀ y ∈ p.2.2.2.1, ok148 y) ∧ (p.2.2.2.2.length ≤ maxLen ∧ ∀ y ∈ p.2.2.2.2, ok150 y)) := Opn.struct Try.underlying59 (by kernel_rfl) (OpnF.cons rfl (Opn.i64 Try.underlying3 (by kernel_rfl)) (OpnF.cons rfl (Opn.i64 Try.underlying3 (by kernel_rfl)) (OpnF.cons rfl (Opn.i64 Try.underlying3 (by kernel_rfl)) (OpnF.cons rfl (Opn.slice Try.underlying56 (by kernel_rfl) opn148) (OpnF.last rfl (Opn.slice Try.underlying57 (by kernel_rfl) opn150))))))
set_option maxRecDepth 100000 in
theorem ch32 : Opn Try.prog 32 (Kd.pair Kd.string (Kd.pair Kd.string (Kd.int .i64))) (fun p : (ByteArray) × (ByteArray) × (Int) => p.1.size ≤ maxLen ∧ p.2.1.size ≤ maxLen ∧ I64 p.2.2) := Opn.struct Try.underlying32 (by kernel_rfl) (OpnF.cons rfl (Opn.string Try.underlying9 (by kernel_rfl)) (OpnF.cons rfl (Opn.string Try.underlying9 (by kernel_rfl)) (OpnF.last rfl (Opn.i64 Try.underlying3 (by kernel_rfl)))))
set_option maxRecDepth 100000 in
theorem ch78 : Opn Try.prog 78 (Kd.pair (Kd.pair (Kd.int .i64) (Kd.pair (Kd.int .i64) (Kd.pair (Kd.int .i64) (Kd.pair (Kd.slice 148 k148) (Kd.slice 150 k150))))) (Kd.pair Kd.string (Kd.pair Kd.string (Kd.int .i64)))) (fun p : ((Int) × (Int) × (Int) × (List (S148)) × (List (S150))) × ((ByteArray) × (ByteArray) × (Int)) => (I64 p.1.1 ∧ I64 p.1.2.1 ∧ I64 p.1.2.2.1 ∧ (p.1.2.2.2.1.length ≤ maxLen ∧ ∀ y ∈ p.1.2.2.2.1, ok148 y) ∧ (p.1.2.2.2.2.length ≤ maxLen ∧ ∀ y ∈ p.1.2.2.2.2, ok150 y)) ∧ (p.2.1.size ≤ maxLen ∧ p.2.2.1.size ≤ maxLen ∧ I64 p.2.2.2)) := by
  have h := Opn.struct (P := Try.prog) Try.underlying78 (by kernel_rfl) (OpnF.cons rfl ch59 (OpnF.last rfl ch32))
  exact h
end Go.Proofs.Ytafdeppeacmpdaa.X
