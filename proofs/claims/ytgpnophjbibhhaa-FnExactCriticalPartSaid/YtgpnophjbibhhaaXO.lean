-- Written by a program of this session (wip/gen/xp.py, over the kit's printer). Not trusted: Lean checks it.
import Derived.Test.YtgpnophjbibhhaaX0
import Derived.Test.YtgpnophjbibhhaaXRow
namespace Go.Proofs.Ytgpnophjbibhhaa.X
open Go.RowKit Go.Proofs.YtgpnophjbibhhaaW.PrintWords Go.Proofs.YtgpnophjbibhhaaW.PrintLast Go.Proofs.Ytgpnophjbibhhaa.XRow
set_option linter.unusedVariables false
set_option maxRecDepth 100000 in
theorem ch96 : Opn Try.prog 96 (Kd.pair (Kd.int .i64) (Kd.pair (Kd.int .i64) (Kd.pair (Kd.int .i64) (Kd.int .i64)))) (fun p : (Int) × (Int) × (Int) × (Int) => I64 p.1 ∧ I64 p.2.1 ∧ I64 p.2.2.1 ∧ I64 p.2.2.2) := Opn.struct Try.underlying96 (by kernel_rfl) (OpnF.cons rfl (Opn.i64 Try.underlying3 (by kernel_rfl)) (OpnF.cons rfl (Opn.i64 Try.underlying3 (by kernel_rfl)) (OpnF.cons rfl (Opn.i64 Try.underlying3 (by kernel_rfl)) (OpnF.last rfl (Opn.i64 Try.underlying3 (by kernel_rfl))))))
def ok96 (x : S96) : Prop := I64 x.f0 ∧ I64 x.f1 ∧ I64 x.f2 ∧ I64 x.f3
set_option maxRecDepth 100000 in
theorem opn96 : Opn Try.prog 96 k96 ok96 := Opn.iso (fun p => (⟨p.1, p.2.1, p.2.2.1, p.2.2.2⟩ : S96)) (fun _ => rfl) ch96
set_option maxRecDepth 100000 in
theorem ch165 : Opn Try.prog 165 (Kd.pair (Kd.int .i64) (Kd.int .i64)) (fun p : (Int) × (Int) => I64 p.1 ∧ I64 p.2) := Opn.struct Try.underlying165 (by kernel_rfl) (OpnF.cons rfl (Opn.i64 Try.underlying3 (by kernel_rfl)) (OpnF.last rfl (Opn.i64 Try.underlying3 (by kernel_rfl))))
def ok165 (x : S165) : Prop := I64 x.f0 ∧ I64 x.f1
set_option maxRecDepth 100000 in
theorem opn165 : Opn Try.prog 165 k165 ok165 := Opn.iso (fun p => (⟨p.1, p.2⟩ : S165)) (fun _ => rfl) ch165
set_option maxRecDepth 100000 in
theorem ch44 : Opn Try.prog 44 (Kd.pair (Kd.int .i64) (Kd.slice 148 (Kd.slice 165 k165))) (fun p : (Int) × (List (List (S165))) => I64 p.1 ∧ (p.2.length ≤ maxLen ∧ ∀ y ∈ p.2, (y.length ≤ maxLen ∧ ∀ yy ∈ y, ok165 yy))) := Opn.struct Try.underlying44 (by kernel_rfl) (OpnF.cons rfl (Opn.i64 Try.underlying3 (by kernel_rfl)) (OpnF.last rfl (Opn.slice Try.underlying42 (by kernel_rfl) (Opn.slice Try.underlying148 (by kernel_rfl) opn165))))
def ok44 (x : S44) : Prop := I64 x.f0 ∧ (x.f1.length ≤ maxLen ∧ ∀ y ∈ x.f1, (y.length ≤ maxLen ∧ ∀ yy ∈ y, ok165 yy))
set_option maxRecDepth 100000 in
theorem opn44 : Opn Try.prog 44 k44 ok44 := Opn.iso (fun p => (⟨p.1, p.2⟩ : S44)) (fun _ => rfl) ch44
set_option maxRecDepth 100000 in
theorem ch119 : Opn Try.prog 119 (Kd.pair (Kd.int .i64) (Kd.slice 3 (Kd.int .i64))) (fun p : (Int) × (List Int) => I64 p.1 ∧ (p.2.length ≤ maxLen ∧ ∀ y ∈ p.2, I64 y)) := Opn.struct Try.underlying119 (by kernel_rfl) (OpnF.cons rfl (Opn.i64 Try.underlying3 (by kernel_rfl)) (OpnF.last rfl (Opn.slice Try.underlying23 (by kernel_rfl) (Opn.i64 Try.underlying3 (by kernel_rfl)))))
def ok119 (x : S119) : Prop := I64 x.f0 ∧ (x.f1.length ≤ maxLen ∧ ∀ y ∈ x.f1, I64 y)
set_option maxRecDepth 100000 in
theorem opn119 : Opn Try.prog 119 k119 ok119 := Opn.iso (fun p => (⟨p.1, p.2⟩ : S119)) (fun _ => rfl) ch119
end Go.Proofs.Ytgpnophjbibhhaa.X
