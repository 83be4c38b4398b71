-- Written by a program of this session (wip/gen/xp.py, over the kit's printer). Not trusted: Lean checks it.
import Derived.Test.YteakcfnhigaffaaXf3d
import Derived.Test.YteakcfnhigaffaaX0
import Derived.Test.YteakcfnhigaffaaXe0
import Derived.Test.YteakcfnhigaffaaXe1
import Derived.Test.YteakcfnhigaffaaXf14
import Derived.Test.YteakcfnhigaffaaXf17
import Derived.Test.YteakcfnhigaffaaXf21
import Derived.Test.YteakcfnhigaffaaXf5
import Derived.Test.YteakcfnhigaffaaXf6
namespace Go.Proofs.Yteakcfnhigaffaa.X
open Go.RowKit Go.Proofs.YteakcfnhigaffaaW.PrintWords Go.Proofs.YteakcfnhigaffaaW.PrintLast Go.Proofs.YteakcfnhigaffaaW.PrintMore
attribute [local go_sem] max2_int min2_int max_two min_two max_three min_three max_four min_four   -- for this text's walks alone
set_option linter.unusedVariables false
set_option linter.unusedSimpArgs false

attribute [local go_sem high] eqA25 eqA33
/-! ### laws_FnLogs: function, its walk -/
set_option maxHeartbeats 8000000 in
set_option maxRecDepth 100000 in
theorem laws_FnLogs.calls (k : Nat) (A0 : Option Addr) (c0 : Nat) (l0 : List Int) (r : Bool) (w : World) (hr0 : Kd.C (Kd.int .u8) w A0 l0.length l0) (hc0 : l0.length ≤ c0) (h : laws_FnLogs.f k l0 = some r) :
  Calls Try.prog 3 #[.slice A0 l0.length c0] w fun e w' => e = .returned (.bool r) ∧ Below w.heap.size w w' := by
 have hu25 := Try.underlying25
 have hu33 := Try.underlying33
 have HR0 := Aside0.mk hr0
 have HC0 := Aside0.mk hc0
 clear hr0 hc0
 have HB := Aside0.mk (Below.refl w.heap.size w)
 have H : ((laws_vBig.f l0).bind fun t425 => (if t425 = true then (some true) else ((spec_DrawIsValidRecord.f l0).bind fun bt426 => ((laws_vCut.f l0 1).bind fun t429 => ((spec_DrawEncodeRecord.f t429).bind fun bt432 => ((impl_EncodeRecord.f k bt432.1 bt432.2.1 bt432.2.2).bind fun bt436 => ((spec_EncodeRecord.f k bt432.1 bt432.2.1 bt432.2.2).bind fun bt438 => ((laws_vCut.f l0 2).bind fun t440 => ((spec_DrawIsValidLog.f k t440).bind fun bt443 => ((laws_vCut.f l0 3).bind fun t447 => ((spec_DrawAppendRecord.f k t447).bind fun bt450 => ((impl_AppendRecord.f k bt450.1 bt450.2.1 bt450.2.2.1 bt450.2.2.2.1 bt450.2.2.2.2).bind fun bt457 => ((spec_AppendRecord.f k bt450.1 bt450.2.1 bt450.2.2.1 bt450.2.2.2.1 bt450.2.2.2.2).bind fun bt462 => ((impl_IsValidRecord.f k bt426.1 bt426.2).bind fun t467 => ((spec_IsValidRecord.f k bt426.1 bt426.2).bind fun t468 => (if (t467 != t468) = true then (laws_FnLogs.j0 k bt457.2.2.2 true bt450.1 bt450.2.1 bt450.2.2.1 bt450.2.2.2.1 bt450.2.2.2.2 bt457.1 bt457.2.1 bt457.2.2.1) else (if bt436.1.toList = bt438.1.toList then (if (bt436.2 != bt438.2) = true then (laws_FnLogs.j0 k bt457.2.2.2 true bt450.1 bt450.2.1 bt450.2.2.1 bt450.2.2.2.1 bt450.2.2.2.2 bt457.1 bt457.2.1 bt457.2.2.1) else ((impl_IsValidLog.f k bt443.1 bt443.2.1 bt443.2.2).bind fun t469 => ((spec_IsValidLog.f k bt443.1 bt443.2.1 bt443.2.2).bind fun t470 => (if (t469 != t470) = true then (laws_FnLogs.j0 k bt457.2.2.2 true bt450.1 bt450.2.1 bt450.2.2.1 bt450.2.2.2.1 bt450.2.2.2.2 bt457.1 bt457.2.1 bt457.2.2.1) else (if (!(bt457.1.toList == bt462.1.toList) || (!(bt457.2.1.toList == bt462.2.1.toList) || (!(bt457.2.2.1 == bt462.2.2.1)))) = true then (laws_FnLogs.j0 k bt457.2.2.2 true bt450.1 bt450.2.1 bt450.2.2.1 bt450.2.2.2.1 bt450.2.2.2.2 bt457.1 bt457.2.1 bt457.2.2.1) else (laws_FnLogs.j0 k bt457.2.2.2 (bt457.2.2.2 != bt462.2.2.2) bt450.1 bt450.2.1 bt450.2.2.1 bt450.2.2.2.1 bt450.2.2.2.2 bt457.1 bt457.2.1 bt457.2.2.1)))))) else (laws_FnLogs.j0 k bt457.2.2.2 true bt450.1 bt450.2.1 bt450.2.2.1 bt450.2.2.2.1 bt450.2.2.2.2 bt457.1 bt457.2.1 bt457.2.2.1)))))))))))))))))) = some r := h
 clear h
 replace H := Option.bind_eq_some_iff.mp H
 obtain ⟨t425, A20, H⟩ := H
 replace H : (if t425 = true then (some true) else ((spec_DrawIsValidRecord.f l0).bind fun bt426 => ((laws_vCut.f l0 1).bind fun t429 => ((spec_DrawEncodeRecord.f t429).bind fun bt432 => ((impl_EncodeRecord.f k bt432.1 bt432.2.1 bt432.2.2).bind fun bt436 => ((spec_EncodeRecord.f k bt432.1 bt432.2.1 bt432.2.2).bind fun bt438 => ((laws_vCut.f l0 2).bind fun t440 => ((spec_DrawIsValidLog.f k t440).bind fun bt443 => ((laws_vCut.f l0 3).bind fun t447 => ((spec_DrawAppendRecord.f k t447).bind fun bt450 => ((impl_AppendRecord.f k bt450.1 bt450.2.1 bt450.2.2.1 bt450.2.2.2.1 bt450.2.2.2.2).bind fun bt457 => ((spec_AppendRecord.f k bt450.1 bt450.2.1 bt450.2.2.1 bt450.2.2.2.1 bt450.2.2.2.2).bind fun bt462 => ((impl_IsValidRecord.f k bt426.1 bt426.2).bind fun t467 => ((spec_IsValidRecord.f k bt426.1 bt426.2).bind fun t468 => (if (t467 != t468) = true then (laws_FnLogs.j0 k bt457.2.2.2 true bt450.1 bt450.2.1 bt450.2.2.1 bt450.2.2.2.1 bt450.2.2.2.2 bt457.1 bt457.2.1 bt457.2.2.1) else (if bt436.1.toList = bt438.1.toList then (if (bt436.2 != bt438.2) = true then (laws_FnLogs.j0 k bt457.2.2.2 true bt450.1 bt450.2.1 bt450.2.2.1 bt450.2.2.2.1 bt450.2.2.2.2 bt457.1 bt457.2.1 bt457.2.2.1) else ((impl_IsValidLog.f k bt443.1 bt443.2.1 bt443.2.2).bind fun t469 => ((spec_IsValidLog.f k bt443.1 bt443.2.1 bt443.2.2).bind fun t470 => (if (t469 != t470) = true then (laws_FnLogs.j0 k bt457.2.2.2 true bt450.1 bt450.2.1 bt450.2.2.1 bt450.2.2.2.1 bt450.2.2.2.2 bt457.1 bt457.2.1 bt457.2.2.1) else (if (!(bt457.1.toList == bt462.1.toList) || (!(bt457.2.1.toList == bt462.2.1.toList) || (!(bt457.2.2.1 == bt462.2.2.1)))) = true then (laws_FnLogs.j0 k bt457.2.2.2 true bt450.1 bt450.2.1 bt450.2.2.1 bt450.2.2.2.1 bt450.2.2.2.2 bt457.1 bt457.2.1 bt457.2.2.1) else (laws_FnLogs.j0 k bt457.2.2.2 (bt457.2.2.2 != bt462.2.2.2) bt450.1 bt450.2.1 bt450.2.2.1 bt450.2.2.2.1 bt450.2.2.2.2 bt457.1 bt457.2.1 bt457.2.2.1)))))) else (laws_FnLogs.j0 k bt457.2.2.2 true bt450.1 bt450.2.1 bt450.2.2.1 bt450.2.2.2.1 bt450.2.2.2.2 bt457.1 bt457.2.1 bt457.2.2.1))))))))))))))))) = some r := H
 have A2 := Aside0.mk A20
 clear A20
 by_cases c3 : t425 = true
 ·subst c3
  have H1 : (some true) = some r := by rw [if_pos rfl] at H; exact H
  clear H
  have H := H1
  clear H1
  obtain rfl := Option.some.inj H
  go_enter Try.func3, Try.ntmps3
  go_wp2_with (first | ((with_reducible refine gate_callee (f := 5) rfl ?_); refine goesL_ (some 30) rfl rfl Try.func5 (by kernel_rfl) rfl #[.slice A0 l0.length c0] rfl (by (try simp only [mA_]); first | done | rfl | (simp only [List.length_drop, List.length_take]; rfl)) ?_; (with_reducible refine (laws_vBig.calls _ _ l0 true _ ?side1 ?side2 A2.out).mono ?_); (case side1 => repeat (first | exact HR0.out | (with_reducible refine Kd.C_alloc ?_ _) | (with_reducible refine Kd.C_drewN ?_ _) | (with_reducible refine Kd.C_drew ?_))); (case side2 => exact HC0.out); rintro e w' ⟨rfl, ⟨nd, rfl⟩⟩; refine ⟨_, rfl, ?_⟩))
  go_ret
  exact ⟨by first | rfl | (simp [errW_none, errW_some] <;> rfl) | (simp [*, errW_none, errW_some] <;> rfl), bw HB.out⟩
 replace c3 := Bool.eq_false_iff.mpr c3
 subst c3
 have H1 : ((spec_DrawIsValidRecord.f l0).bind fun bt426 => ((laws_vCut.f l0 1).bind fun t429 => ((spec_DrawEncodeRecord.f t429).bind fun bt432 => ((impl_EncodeRecord.f k bt432.1 bt432.2.1 bt432.2.2).bind fun bt436 => ((spec_EncodeRecord.f k bt432.1 bt432.2.1 bt432.2.2).bind fun bt438 => ((laws_vCut.f l0 2).bind fun t440 => ((spec_DrawIsValidLog.f k t440).bind fun bt443 => ((laws_vCut.f l0 3).bind fun t447 => ((spec_DrawAppendRecord.f k t447).bind fun bt450 => ((impl_AppendRecord.f k bt450.1 bt450.2.1 bt450.2.2.1 bt450.2.2.2.1 bt450.2.2.2.2).bind fun bt457 => ((spec_AppendRecord.f k bt450.1 bt450.2.1 bt450.2.2.1 bt450.2.2.2.1 bt450.2.2.2.2).bind fun bt462 => ((impl_IsValidRecord.f k bt426.1 bt426.2).bind fun t467 => ((spec_IsValidRecord.f k bt426.1 bt426.2).bind fun t468 => (if (t467 != t468) = true then (laws_FnLogs.j0 k bt457.2.2.2 true bt450.1 bt450.2.1 bt450.2.2.1 bt450.2.2.2.1 bt450.2.2.2.2 bt457.1 bt457.2.1 bt457.2.2.1) else (if bt436.1.toList = bt438.1.toList then (if (bt436.2 != bt438.2) = true then (laws_FnLogs.j0 k bt457.2.2.2 true bt450.1 bt450.2.1 bt450.2.2.1 bt450.2.2.2.1 bt450.2.2.2.2 bt457.1 bt457.2.1 bt457.2.2.1) else ((impl_IsValidLog.f k bt443.1 bt443.2.1 bt443.2.2).bind fun t469 => ((spec_IsValidLog.f k bt443.1 bt443.2.1 bt443.2.2).bind fun t470 => (if (t469 != t470) = true then (laws_FnLogs.j0 k bt457.2.2.2 true bt450.1 bt450.2.1 bt450.2.2.1 bt450.2.2.2.1 bt450.2.2.2.2 bt457.1 bt457.2.1 bt457.2.2.1) else (if (!(bt457.1.toList == bt462.1.toList) || (!(bt457.2.1.toList == bt462.2.1.toList) || (!(bt457.2.2.1 == bt462.2.2.1)))) = true then (laws_FnLogs.j0 k bt457.2.2.2 true bt450.1 bt450.2.1 bt450.2.2.1 bt450.2.2.2.1 bt450.2.2.2.2 bt457.1 bt457.2.1 bt457.2.2.1) else (laws_FnLogs.j0 k bt457.2.2.2 (bt457.2.2.2 != bt462.2.2.2) bt450.1 bt450.2.1 bt450.2.2.1 bt450.2.2.2.1 bt450.2.2.2.2 bt457.1 bt457.2.1 bt457.2.2.1)))))) else (laws_FnLogs.j0 k bt457.2.2.2 true bt450.1 bt450.2.1 bt450.2.2.1 bt450.2.2.2.1 bt450.2.2.2.2 bt457.1 bt457.2.1 bt457.2.2.1)))))))))))))))) = some r := by rw [if_neg (show ¬ (false = true) by decide)] at H; exact H
 clear H
 have H := H1
 clear H1
 replace H := Option.bind_eq_some_iff.mp H
 obtain ⟨⟨t426, t427⟩, A40, H⟩ := H
 replace H : ((laws_vCut.f l0 1).bind fun t429 => ((spec_DrawEncodeRecord.f t429).bind fun bt432 => ((impl_EncodeRecord.f k bt432.1 bt432.2.1 bt432.2.2).bind fun bt436 => ((spec_EncodeRecord.f k bt432.1 bt432.2.1 bt432.2.2).bind fun bt438 => ((laws_vCut.f l0 2).bind fun t440 => ((spec_DrawIsValidLog.f k t440).bind fun bt443 => ((laws_vCut.f l0 3).bind fun t447 => ((spec_DrawAppendRecord.f k t447).bind fun bt450 => ((impl_AppendRecord.f k bt450.1 bt450.2.1 bt450.2.2.1 bt450.2.2.2.1 bt450.2.2.2.2).bind fun bt457 => ((spec_AppendRecord.f k bt450.1 bt450.2.1 bt450.2.2.1 bt450.2.2.2.1 bt450.2.2.2.2).bind fun bt462 => ((impl_IsValidRecord.f k t426 t427).bind fun t467 => ((spec_IsValidRecord.f k t426 t427).bind fun t468 => (if (t467 != t468) = true then (laws_FnLogs.j0 k bt457.2.2.2 true bt450.1 bt450.2.1 bt450.2.2.1 bt450.2.2.2.1 bt450.2.2.2.2 bt457.1 bt457.2.1 bt457.2.2.1) else (if bt436.1.toList = bt438.1.toList then (if (bt436.2 != bt438.2) = true then (laws_FnLogs.j0 k bt457.2.2.2 true bt450.1 bt450.2.1 bt450.2.2.1 bt450.2.2.2.1 bt450.2.2.2.2 bt457.1 bt457.2.1 bt457.2.2.1) else ((impl_IsValidLog.f k bt443.1 bt443.2.1 bt443.2.2).bind fun t469 => ((spec_IsValidLog.f k bt443.1 bt443.2.1 bt443.2.2).bind fun t470 => (if (t469 != t470) = true then (laws_FnLogs.j0 k bt457.2.2.2 true bt450.1 bt450.2.1 bt450.2.2.1 bt450.2.2.2.1 bt450.2.2.2.2 bt457.1 bt457.2.1 bt457.2.2.1) else (if (!(bt457.1.toList == bt462.1.toList) || (!(bt457.2.1.toList == bt462.2.1.toList) || (!(bt457.2.2.1 == bt462.2.2.1)))) = true then (laws_FnLogs.j0 k bt457.2.2.2 true bt450.1 bt450.2.1 bt450.2.2.1 bt450.2.2.2.1 bt450.2.2.2.2 bt457.1 bt457.2.1 bt457.2.2.1) else (laws_FnLogs.j0 k bt457.2.2.2 (bt457.2.2.2 != bt462.2.2.2) bt450.1 bt450.2.1 bt450.2.2.1 bt450.2.2.2.1 bt450.2.2.2.2 bt457.1 bt457.2.1 bt457.2.2.1)))))) else (laws_FnLogs.j0 k bt457.2.2.2 true bt450.1 bt450.2.1 bt450.2.2.1 bt450.2.2.2.1 bt450.2.2.2.2 bt457.1 bt457.2.1 bt457.2.2.1))))))))))))))) = some r := H
 have A4 := Aside0.mk A40
 clear A40
 replace H := Option.bind_eq_some_iff.mp H
 obtain ⟨t429, A50, H⟩ := H
 replace H : ((spec_DrawEncodeRecord.f t429).bind fun bt432 => ((impl_EncodeRecord.f k bt432.1 bt432.2.1 bt432.2.2).bind fun bt436 => ((spec_EncodeRecord.f k bt432.1 bt432.2.1 bt432.2.2).bind fun bt438 => ((laws_vCut.f l0 2).bind fun t440 => ((spec_DrawIsValidLog.f k t440).bind fun bt443 => ((laws_vCut.f l0 3).bind fun t447 => ((spec_DrawAppendRecord.f k t447).bind fun bt450 => ((impl_AppendRecord.f k bt450.1 bt450.2.1 bt450.2.2.1 bt450.2.2.2.1 bt450.2.2.2.2).bind fun bt457 => ((spec_AppendRecord.f k bt450.1 bt450.2.1 bt450.2.2.1 bt450.2.2.2.1 bt450.2.2.2.2).bind fun bt462 => ((impl_IsValidRecord.f k t426 t427).bind fun t467 => ((spec_IsValidRecord.f k t426 t427).bind fun t468 => (if (t467 != t468) = true then (laws_FnLogs.j0 k bt457.2.2.2 true bt450.1 bt450.2.1 bt450.2.2.1 bt450.2.2.2.1 bt450.2.2.2.2 bt457.1 bt457.2.1 bt457.2.2.1) else (if bt436.1.toList = bt438.1.toList then (if (bt436.2 != bt438.2) = true then (laws_FnLogs.j0 k bt457.2.2.2 true bt450.1 bt450.2.1 bt450.2.2.1 bt450.2.2.2.1 bt450.2.2.2.2 bt457.1 bt457.2.1 bt457.2.2.1) else ((impl_IsValidLog.f k bt443.1 bt443.2.1 bt443.2.2).bind fun t469 => ((spec_IsValidLog.f k bt443.1 bt443.2.1 bt443.2.2).bind fun t470 => (if (t469 != t470) = true then (laws_FnLogs.j0 k bt457.2.2.2 true bt450.1 bt450.2.1 bt450.2.2.1 bt450.2.2.2.1 bt450.2.2.2.2 bt457.1 bt457.2.1 bt457.2.2.1) else (if (!(bt457.1.toList == bt462.1.toList) || (!(bt457.2.1.toList == bt462.2.1.toList) || (!(bt457.2.2.1 == bt462.2.2.1)))) = true then (laws_FnLogs.j0 k bt457.2.2.2 true bt450.1 bt450.2.1 bt450.2.2.1 bt450.2.2.2.1 bt450.2.2.2.2 bt457.1 bt457.2.1 bt457.2.2.1) else (laws_FnLogs.j0 k bt457.2.2.2 (bt457.2.2.2 != bt462.2.2.2) bt450.1 bt450.2.1 bt450.2.2.1 bt450.2.2.2.1 bt450.2.2.2.2 bt457.1 bt457.2.1 bt457.2.2.1)))))) else (laws_FnLogs.j0 k bt457.2.2.2 true bt450.1 bt450.2.1 bt450.2.2.1 bt450.2.2.2.1 bt450.2.2.2.2 bt457.1 bt457.2.1 bt457.2.2.1)))))))))))))) = some r := H
 have A5 := Aside0.mk A50
 clear A50
 replace H := Option.bind_eq_some_iff.mp H
 obtain ⟨⟨t432, t433, t434⟩, A60, H⟩ := H
 replace H : ((impl_EncodeRecord.f k t432 t433 t434).bind fun bt436 => ((spec_EncodeRecord.f k t432 t433 t434).bind fun bt438 => ((laws_vCut.f l0 2).bind fun t440 => ((spec_DrawIsValidLog.f k t440).bind fun bt443 => ((laws_vCut.f l0 3).bind fun t447 => ((spec_DrawAppendRecord.f k t447).bind fun bt450 => ((impl_AppendRecord.f k bt450.1 bt450.2.1 bt450.2.2.1 bt450.2.2.2.1 bt450.2.2.2.2).bind fun bt457 => ((spec_AppendRecord.f k bt450.1 bt450.2.1 bt450.2.2.1 bt450.2.2.2.1 bt450.2.2.2.2).bind fun bt462 => ((impl_IsValidRecord.f k t426 t427).bind fun t467 => ((spec_IsValidRecord.f k t426 t427).bind fun t468 => (if (t467 != t468) = true then (laws_FnLogs.j0 k bt457.2.2.2 true bt450.1 bt450.2.1 bt450.2.2.1 bt450.2.2.2.1 bt450.2.2.2.2 bt457.1 bt457.2.1 bt457.2.2.1) else (if bt436.1.toList = bt438.1.toList then (if (bt436.2 != bt438.2) = true then (laws_FnLogs.j0 k bt457.2.2.2 true bt450.1 bt450.2.1 bt450.2.2.1 bt450.2.2.2.1 bt450.2.2.2.2 bt457.1 bt457.2.1 bt457.2.2.1) else ((impl_IsValidLog.f k bt443.1 bt443.2.1 bt443.2.2).bind fun t469 => ((spec_IsValidLog.f k bt443.1 bt443.2.1 bt443.2.2).bind fun t470 => (if (t469 != t470) = true then (laws_FnLogs.j0 k bt457.2.2.2 true bt450.1 bt450.2.1 bt450.2.2.1 bt450.2.2.2.1 bt450.2.2.2.2 bt457.1 bt457.2.1 bt457.2.2.1) else (if (!(bt457.1.toList == bt462.1.toList) || (!(bt457.2.1.toList == bt462.2.1.toList) || (!(bt457.2.2.1 == bt462.2.2.1)))) = true then (laws_FnLogs.j0 k bt457.2.2.2 true bt450.1 bt450.2.1 bt450.2.2.1 bt450.2.2.2.1 bt450.2.2.2.2 bt457.1 bt457.2.1 bt457.2.2.1) else (laws_FnLogs.j0 k bt457.2.2.2 (bt457.2.2.2 != bt462.2.2.2) bt450.1 bt450.2.1 bt450.2.2.1 bt450.2.2.2.1 bt450.2.2.2.2 bt457.1 bt457.2.1 bt457.2.2.1)))))) else (laws_FnLogs.j0 k bt457.2.2.2 true bt450.1 bt450.2.1 bt450.2.2.1 bt450.2.2.2.1 bt450.2.2.2.2 bt457.1 bt457.2.1 bt457.2.2.1))))))))))))) = some r := H
 have A6 := Aside0.mk A60
 clear A60
 replace H := Option.bind_eq_some_iff.mp H
 obtain ⟨⟨t436, t437⟩, A70, H⟩ := H
 replace H : ((spec_EncodeRecord.f k t432 t433 t434).bind fun bt438 => ((laws_vCut.f l0 2).bind fun t440 => ((spec_DrawIsValidLog.f k t440).bind fun bt443 => ((laws_vCut.f l0 3).bind fun t447 => ((spec_DrawAppendRecord.f k t447).bind fun bt450 => ((impl_AppendRecord.f k bt450.1 bt450.2.1 bt450.2.2.1 bt450.2.2.2.1 bt450.2.2.2.2).bind fun bt457 => ((spec_AppendRecord.f k bt450.1 bt450.2.1 bt450.2.2.1 bt450.2.2.2.1 bt450.2.2.2.2).bind fun bt462 => ((impl_IsValidRecord.f k t426 t427).bind fun t467 => ((spec_IsValidRecord.f k t426 t427).bind fun t468 => (if (t467 != t468) = true then (laws_FnLogs.j0 k bt457.2.2.2 true bt450.1 bt450.2.1 bt450.2.2.1 bt450.2.2.2.1 bt450.2.2.2.2 bt457.1 bt457.2.1 bt457.2.2.1) else (if t436.toList = bt438.1.toList then (if (t437 != bt438.2) = true then (laws_FnLogs.j0 k bt457.2.2.2 true bt450.1 bt450.2.1 bt450.2.2.1 bt450.2.2.2.1 bt450.2.2.2.2 bt457.1 bt457.2.1 bt457.2.2.1) else ((impl_IsValidLog.f k bt443.1 bt443.2.1 bt443.2.2).bind fun t469 => ((spec_IsValidLog.f k bt443.1 bt443.2.1 bt443.2.2).bind fun t470 => (if (t469 != t470) = true then (laws_FnLogs.j0 k bt457.2.2.2 true bt450.1 bt450.2.1 bt450.2.2.1 bt450.2.2.2.1 bt450.2.2.2.2 bt457.1 bt457.2.1 bt457.2.2.1) else (if (!(bt457.1.toList == bt462.1.toList) || (!(bt457.2.1.toList == bt462.2.1.toList) || (!(bt457.2.2.1 == bt462.2.2.1)))) = true then (laws_FnLogs.j0 k bt457.2.2.2 true bt450.1 bt450.2.1 bt450.2.2.1 bt450.2.2.2.1 bt450.2.2.2.2 bt457.1 bt457.2.1 bt457.2.2.1) else (laws_FnLogs.j0 k bt457.2.2.2 (bt457.2.2.2 != bt462.2.2.2) bt450.1 bt450.2.1 bt450.2.2.1 bt450.2.2.2.1 bt450.2.2.2.2 bt457.1 bt457.2.1 bt457.2.2.1)))))) else (laws_FnLogs.j0 k bt457.2.2.2 true bt450.1 bt450.2.1 bt450.2.2.1 bt450.2.2.2.1 bt450.2.2.2.2 bt457.1 bt457.2.1 bt457.2.2.1)))))))))))) = some r := H
 have A7 := Aside0.mk A70
 clear A70
 replace H := Option.bind_eq_some_iff.mp H
 obtain ⟨⟨t438, t439⟩, A80, H⟩ := H
 replace H : ((laws_vCut.f l0 2).bind fun t440 => ((spec_DrawIsValidLog.f k t440).bind fun bt443 => ((laws_vCut.f l0 3).bind fun t447 => ((spec_DrawAppendRecord.f k t447).bind fun bt450 => ((impl_AppendRecord.f k bt450.1 bt450.2.1 bt450.2.2.1 bt450.2.2.2.1 bt450.2.2.2.2).bind fun bt457 => ((spec_AppendRecord.f k bt450.1 bt450.2.1 bt450.2.2.1 bt450.2.2.2.1 bt450.2.2.2.2).bind fun bt462 => ((impl_IsValidRecord.f k t426 t427).bind fun t467 => ((spec_IsValidRecord.f k t426 t427).bind fun t468 => (if (t467 != t468) = true then (laws_FnLogs.j0 k bt457.2.2.2 true bt450.1 bt450.2.1 bt450.2.2.1 bt450.2.2.2.1 bt450.2.2.2.2 bt457.1 bt457.2.1 bt457.2.2.1) else (if t436.toList = t438.toList then (if (t437 != t439) = true then (laws_FnLogs.j0 k bt457.2.2.2 true bt450.1 bt450.2.1 bt450.2.2.1 bt450.2.2.2.1 bt450.2.2.2.2 bt457.1 bt457.2.1 bt457.2.2.1) else ((impl_IsValidLog.f k bt443.1 bt443.2.1 bt443.2.2).bind fun t469 => ((spec_IsValidLog.f k bt443.1 bt443.2.1 bt443.2.2).bind fun t470 => (if (t469 != t470) = true then (laws_FnLogs.j0 k bt457.2.2.2 true bt450.1 bt450.2.1 bt450.2.2.1 bt450.2.2.2.1 bt450.2.2.2.2 bt457.1 bt457.2.1 bt457.2.2.1) else (if (!(bt457.1.toList == bt462.1.toList) || (!(bt457.2.1.toList == bt462.2.1.toList) || (!(bt457.2.2.1 == bt462.2.2.1)))) = true then (laws_FnLogs.j0 k bt457.2.2.2 true bt450.1 bt450.2.1 bt450.2.2.1 bt450.2.2.2.1 bt450.2.2.2.2 bt457.1 bt457.2.1 bt457.2.2.1) else (laws_FnLogs.j0 k bt457.2.2.2 (bt457.2.2.2 != bt462.2.2.2) bt450.1 bt450.2.1 bt450.2.2.1 bt450.2.2.2.1 bt450.2.2.2.2 bt457.1 bt457.2.1 bt457.2.2.1)))))) else (laws_FnLogs.j0 k bt457.2.2.2 true bt450.1 bt450.2.1 bt450.2.2.1 bt450.2.2.2.1 bt450.2.2.2.2 bt457.1 bt457.2.1 bt457.2.2.1))))))))))) = some r := H
 have A8 := Aside0.mk A80
 clear A80
 replace H := Option.bind_eq_some_iff.mp H
 obtain ⟨t440, A90, H⟩ := H
 replace H : ((spec_DrawIsValidLog.f k t440).bind fun bt443 => ((laws_vCut.f l0 3).bind fun t447 => ((spec_DrawAppendRecord.f k t447).bind fun bt450 => ((impl_AppendRecord.f k bt450.1 bt450.2.1 bt450.2.2.1 bt450.2.2.2.1 bt450.2.2.2.2).bind fun bt457 => ((spec_AppendRecord.f k bt450.1 bt450.2.1 bt450.2.2.1 bt450.2.2.2.1 bt450.2.2.2.2).bind fun bt462 => ((impl_IsValidRecord.f k t426 t427).bind fun t467 => ((spec_IsValidRecord.f k t426 t427).bind fun t468 => (if (t467 != t468) = true then (laws_FnLogs.j0 k bt457.2.2.2 true bt450.1 bt450.2.1 bt450.2.2.1 bt450.2.2.2.1 bt450.2.2.2.2 bt457.1 bt457.2.1 bt457.2.2.1) else (if t436.toList = t438.toList then (if (t437 != t439) = true then (laws_FnLogs.j0 k bt457.2.2.2 true bt450.1 bt450.2.1 bt450.2.2.1 bt450.2.2.2.1 bt450.2.2.2.2 bt457.1 bt457.2.1 bt457.2.2.1) else ((impl_IsValidLog.f k bt443.1 bt443.2.1 bt443.2.2).bind fun t469 => ((spec_IsValidLog.f k bt443.1 bt443.2.1 bt443.2.2).bind fun t470 => (if (t469 != t470) = true then (laws_FnLogs.j0 k bt457.2.2.2 true bt450.1 bt450.2.1 bt450.2.2.1 bt450.2.2.2.1 bt450.2.2.2.2 bt457.1 bt457.2.1 bt457.2.2.1) else (if (!(bt457.1.toList == bt462.1.toList) || (!(bt457.2.1.toList == bt462.2.1.toList) || (!(bt457.2.2.1 == bt462.2.2.1)))) = true then (laws_FnLogs.j0 k bt457.2.2.2 true bt450.1 bt450.2.1 bt450.2.2.1 bt450.2.2.2.1 bt450.2.2.2.2 bt457.1 bt457.2.1 bt457.2.2.1) else (laws_FnLogs.j0 k bt457.2.2.2 (bt457.2.2.2 != bt462.2.2.2) bt450.1 bt450.2.1 bt450.2.2.1 bt450.2.2.2.1 bt450.2.2.2.2 bt457.1 bt457.2.1 bt457.2.2.1)))))) else (laws_FnLogs.j0 k bt457.2.2.2 true bt450.1 bt450.2.1 bt450.2.2.1 bt450.2.2.2.1 bt450.2.2.2.2 bt457.1 bt457.2.1 bt457.2.2.1)))))))))) = some r := H
 have A9 := Aside0.mk A90
 clear A90
 replace H := Option.bind_eq_some_iff.mp H
 obtain ⟨⟨t443, t444, t445⟩, A100, H⟩ := H
 replace H : ((laws_vCut.f l0 3).bind fun t447 => ((spec_DrawAppendRecord.f k t447).bind fun bt450 => ((impl_AppendRecord.f k bt450.1 bt450.2.1 bt450.2.2.1 bt450.2.2.2.1 bt450.2.2.2.2).bind fun bt457 => ((spec_AppendRecord.f k bt450.1 bt450.2.1 bt450.2.2.1 bt450.2.2.2.1 bt450.2.2.2.2).bind fun bt462 => ((impl_IsValidRecord.f k t426 t427).bind fun t467 => ((spec_IsValidRecord.f k t426 t427).bind fun t468 => (if (t467 != t468) = true then (laws_FnLogs.j0 k bt457.2.2.2 true bt450.1 bt450.2.1 bt450.2.2.1 bt450.2.2.2.1 bt450.2.2.2.2 bt457.1 bt457.2.1 bt457.2.2.1) else (if t436.toList = t438.toList then (if (t437 != t439) = true then (laws_FnLogs.j0 k bt457.2.2.2 true bt450.1 bt450.2.1 bt450.2.2.1 bt450.2.2.2.1 bt450.2.2.2.2 bt457.1 bt457.2.1 bt457.2.2.1) else ((impl_IsValidLog.f k t443 t444 t445).bind fun t469 => ((spec_IsValidLog.f k t443 t444 t445).bind fun t470 => (if (t469 != t470) = true then (laws_FnLogs.j0 k bt457.2.2.2 true bt450.1 bt450.2.1 bt450.2.2.1 bt450.2.2.2.1 bt450.2.2.2.2 bt457.1 bt457.2.1 bt457.2.2.1) else (if (!(bt457.1.toList == bt462.1.toList) || (!(bt457.2.1.toList == bt462.2.1.toList) || (!(bt457.2.2.1 == bt462.2.2.1)))) = true then (laws_FnLogs.j0 k bt457.2.2.2 true bt450.1 bt450.2.1 bt450.2.2.1 bt450.2.2.2.1 bt450.2.2.2.2 bt457.1 bt457.2.1 bt457.2.2.1) else (laws_FnLogs.j0 k bt457.2.2.2 (bt457.2.2.2 != bt462.2.2.2) bt450.1 bt450.2.1 bt450.2.2.1 bt450.2.2.2.1 bt450.2.2.2.2 bt457.1 bt457.2.1 bt457.2.2.1)))))) else (laws_FnLogs.j0 k bt457.2.2.2 true bt450.1 bt450.2.1 bt450.2.2.1 bt450.2.2.2.1 bt450.2.2.2.2 bt457.1 bt457.2.1 bt457.2.2.1))))))))) = some r := H
 have A10 := Aside0.mk A100
 clear A100
 replace H := Option.bind_eq_some_iff.mp H
 obtain ⟨t447, A110, H⟩ := H
 replace H : ((spec_DrawAppendRecord.f k t447).bind fun bt450 => ((impl_AppendRecord.f k bt450.1 bt450.2.1 bt450.2.2.1 bt450.2.2.2.1 bt450.2.2.2.2).bind fun bt457 => ((spec_AppendRecord.f k bt450.1 bt450.2.1 bt450.2.2.1 bt450.2.2.2.1 bt450.2.2.2.2).bind fun bt462 => ((impl_IsValidRecord.f k t426 t427).bind fun t467 => ((spec_IsValidRecord.f k t426 t427).bind fun t468 => (if (t467 != t468) = true then (laws_FnLogs.j0 k bt457.2.2.2 true bt450.1 bt450.2.1 bt450.2.2.1 bt450.2.2.2.1 bt450.2.2.2.2 bt457.1 bt457.2.1 bt457.2.2.1) else (if t436.toList = t438.toList then (if (t437 != t439) = true then (laws_FnLogs.j0 k bt457.2.2.2 true bt450.1 bt450.2.1 bt450.2.2.1 bt450.2.2.2.1 bt450.2.2.2.2 bt457.1 bt457.2.1 bt457.2.2.1) else ((impl_IsValidLog.f k t443 t444 t445).bind fun t469 => ((spec_IsValidLog.f k t443 t444 t445).bind fun t470 => (if (t469 != t470) = true then (laws_FnLogs.j0 k bt457.2.2.2 true bt450.1 bt450.2.1 bt450.2.2.1 bt450.2.2.2.1 bt450.2.2.2.2 bt457.1 bt457.2.1 bt457.2.2.1) else (if (!(bt457.1.toList == bt462.1.toList) || (!(bt457.2.1.toList == bt462.2.1.toList) || (!(bt457.2.2.1 == bt462.2.2.1)))) = true then (laws_FnLogs.j0 k bt457.2.2.2 true bt450.1 bt450.2.1 bt450.2.2.1 bt450.2.2.2.1 bt450.2.2.2.2 bt457.1 bt457.2.1 bt457.2.2.1) else (laws_FnLogs.j0 k bt457.2.2.2 (bt457.2.2.2 != bt462.2.2.2) bt450.1 bt450.2.1 bt450.2.2.1 bt450.2.2.2.1 bt450.2.2.2.2 bt457.1 bt457.2.1 bt457.2.2.1)))))) else (laws_FnLogs.j0 k bt457.2.2.2 true bt450.1 bt450.2.1 bt450.2.2.1 bt450.2.2.2.1 bt450.2.2.2.2 bt457.1 bt457.2.1 bt457.2.2.1)))))))) = some r := H
 have A11 := Aside0.mk A110
 clear A110
 replace H := Option.bind_eq_some_iff.mp H
 obtain ⟨⟨t450, t451, t452, t453, t454⟩, A120, H⟩ := H
 replace H : ((impl_AppendRecord.f k t450 t451 t452 t453 t454).bind fun bt457 => ((spec_AppendRecord.f k t450 t451 t452 t453 t454).bind fun bt462 => ((impl_IsValidRecord.f k t426 t427).bind fun t467 => ((spec_IsValidRecord.f k t426 t427).bind fun t468 => (if (t467 != t468) = true then (laws_FnLogs.j0 k bt457.2.2.2 true t450 t451 t452 t453 t454 bt457.1 bt457.2.1 bt457.2.2.1) else (if t436.toList = t438.toList then (if (t437 != t439) = true then (laws_FnLogs.j0 k bt457.2.2.2 true t450 t451 t452 t453 t454 bt457.1 bt457.2.1 bt457.2.2.1) else ((impl_IsValidLog.f k t443 t444 t445).bind fun t469 => ((spec_IsValidLog.f k t443 t444 t445).bind fun t470 => (if (t469 != t470) = true then (laws_FnLogs.j0 k bt457.2.2.2 true t450 t451 t452 t453 t454 bt457.1 bt457.2.1 bt457.2.2.1) else (if (!(bt457.1.toList == bt462.1.toList) || (!(bt457.2.1.toList == bt462.2.1.toList) || (!(bt457.2.2.1 == bt462.2.2.1)))) = true then (laws_FnLogs.j0 k bt457.2.2.2 true t450 t451 t452 t453 t454 bt457.1 bt457.2.1 bt457.2.2.1) else (laws_FnLogs.j0 k bt457.2.2.2 (bt457.2.2.2 != bt462.2.2.2) t450 t451 t452 t453 t454 bt457.1 bt457.2.1 bt457.2.2.1)))))) else (laws_FnLogs.j0 k bt457.2.2.2 true t450 t451 t452 t453 t454 bt457.1 bt457.2.1 bt457.2.2.1))))))) = some r := H
 have A12 := Aside0.mk A120
 clear A120
 replace H := Option.bind_eq_some_iff.mp H
 obtain ⟨⟨t457, t458, t459, t460⟩, A130, H⟩ := H
 replace H : ((spec_AppendRecord.f k t450 t451 t452 t453 t454).bind fun bt462 => ((impl_IsValidRecord.f k t426 t427).bind fun t467 => ((spec_IsValidRecord.f k t426 t427).bind fun t468 => (if (t467 != t468) = true then (laws_FnLogs.j0 k t460 true t450 t451 t452 t453 t454 t457 t458 t459) else (if t436.toList = t438.toList then (if (t437 != t439) = true then (laws_FnLogs.j0 k t460 true t450 t451 t452 t453 t454 t457 t458 t459) else ((impl_IsValidLog.f k t443 t444 t445).bind fun t469 => ((spec_IsValidLog.f k t443 t444 t445).bind fun t470 => (if (t469 != t470) = true then (laws_FnLogs.j0 k t460 true t450 t451 t452 t453 t454 t457 t458 t459) else (if (!(t457.toList == bt462.1.toList) || (!(t458.toList == bt462.2.1.toList) || (!(t459 == bt462.2.2.1)))) = true then (laws_FnLogs.j0 k t460 true t450 t451 t452 t453 t454 t457 t458 t459) else (laws_FnLogs.j0 k t460 (t460 != bt462.2.2.2) t450 t451 t452 t453 t454 t457 t458 t459)))))) else (laws_FnLogs.j0 k t460 true t450 t451 t452 t453 t454 t457 t458 t459)))))) = some r := H
 have A13 := Aside0.mk A130
 clear A130
 replace H := Option.bind_eq_some_iff.mp H
 obtain ⟨⟨t462, t463, t464, t465⟩, A140, H⟩ := H
 replace H : ((impl_IsValidRecord.f k t426 t427).bind fun t467 => ((spec_IsValidRecord.f k t426 t427).bind fun t468 => (if (t467 != t468) = true then (laws_FnLogs.j0 k t460 true t450 t451 t452 t453 t454 t457 t458 t459) else (if t436.toList = t438.toList then (if (t437 != t439) = true then (laws_FnLogs.j0 k t460 true t450 t451 t452 t453 t454 t457 t458 t459) else ((impl_IsValidLog.f k t443 t444 t445).bind fun t469 => ((spec_IsValidLog.f k t443 t444 t445).bind fun t470 => (if (t469 != t470) = true then (laws_FnLogs.j0 k t460 true t450 t451 t452 t453 t454 t457 t458 t459) else (if (!(t457.toList == t462.toList) || (!(t458.toList == t463.toList) || (!(t459 == t464)))) = true then (laws_FnLogs.j0 k t460 true t450 t451 t452 t453 t454 t457 t458 t459) else (laws_FnLogs.j0 k t460 (t460 != t465) t450 t451 t452 t453 t454 t457 t458 t459)))))) else (laws_FnLogs.j0 k t460 true t450 t451 t452 t453 t454 t457 t458 t459))))) = some r := H
 have A14 := Aside0.mk A140
 clear A140
 have HC15 := Aside0.mk H
 clear H
 go_enter Try.func3, Try.ntmps3
 go_upto_region 11 with (first | ((with_reducible refine gate_callee (f := 5) rfl ?_); refine goesL_ (some 30) rfl rfl Try.func5 (by kernel_rfl) rfl #[.slice A0 l0.length c0] rfl (by (try simp only [mA_]); first | done | rfl | (simp only [List.length_drop, List.length_take]; rfl)) ?_; (with_reducible refine (laws_vBig.calls _ _ l0 false _ ?side1 ?side2 A2.out).mono ?_); (case side1 => repeat (first | exact HR0.out | (with_reducible refine Kd.C_alloc ?_ _) | (with_reducible refine Kd.C_drewN ?_ _) | (with_reducible refine Kd.C_drew ?_))); (case side2 => exact HC0.out); rintro e w' ⟨rfl, ⟨nd, rfl⟩⟩; refine ⟨_, rfl, ?_⟩) | ((with_reducible refine gate_callee (f := 6) rfl ?_); refine goesL_ (some 32) rfl rfl Try.func6 (by kernel_rfl) rfl #[.slice A0 l0.length c0] rfl (by (try simp only [mA_]); first | done | rfl | (simp only [List.length_drop, List.length_take]; rfl)) ?_; (with_reducible refine (spec_DrawIsValidRecord.calls _ _ l0 t426 t427 _ ?side1 ?side2 A4.out).mono ?_); (case side1 => repeat (first | exact HR0.out | (with_reducible refine Kd.C_alloc ?_ _) | (with_reducible refine Kd.C_drewN ?_ _) | (with_reducible refine Kd.C_drew ?_))); (case side2 => exact HC0.out); rintro e w16 ⟨rfl, hb⟩; refine ⟨_, rfl, ?_⟩; have n0_ := Aside0.mk (below_step (bw HB.out) hb); replace HB := n0_; clear n0_; (try clear hb); (try clear hb2); (try clear hk); (try clear hi)) | ((with_reducible refine gate_dst (N := 3) rfl ?_); (try (refine gate_guard (by rfl) ?_; dsimp only)); refine box_event ?hg (N := 3) ?hd (cs := #[.string (⟨#[]⟩ : ByteArray), .string (⟨#[]⟩ : ByteArray)]) (t := 25) ?hr ?_; (case hd => rfl); (case hg => rfl); (case hr => first | (go_simp; done) | (go_simp; rfl)); intro gb428 hg w17 hbox hb; have n0_ := Aside0.mk (below_step (bw HB.out) hb); have n1_ := Aside0.mk (hbox); have n2_ := ge_ hg HB.out; have n3_ := ge_ hg HB.out; replace HB := n0_; have BK428 := n1_; have GW428 := n2_; have GE428 := n3_; clear n0_ n1_ n2_ n3_; clear hb hbox hg; obtain ⟨hcz18_0, hcz18_1, hfz18_0, hfz18_1⟩ := bz2 BK428.out) | ((with_reducible refine gate_callee (f := 8) rfl ?_); refine goesL_ (some 35) rfl rfl Try.func8 (by kernel_rfl) rfl #[.slice A0 l0.length c0, .int .i64 1] rfl (by (try simp only [mA_]); first | done | rfl | (simp only [List.length_drop, List.length_take]; rfl)) ?_; (with_reducible refine (laws_vCut.calls _ _ l0 1 t429 _ ?side1 ?side2 A5.out).mono ?_); (case side1 => exact Kd.C_below HR0.out (by repeat (first | (with_reducible first | exact bw HB.out | refine bset ?_ | apply bA | apply bN | apply bD) | exact HB.out))); (case side2 => exact HC0.out); rintro e w19 ⟨v430, rfl, ho0, hb⟩; refine ⟨_, rfl, ?_⟩; have n0_ := Aside0.mk (Kd.R_lower ho0 (below_size (by repeat (first | (with_reducible first | exact bw HB.out | refine bset ?_ | apply bA | apply bN | apply bD) | exact HB.out)))); have n1_ := Aside0.mk (blk_below (g := gb428) (o := .cells #[.string t426, .string t427] 25 (0, 0)) (by (with_reducible repeat (first | refine blk_drewN ?_ _ | refine blk_drew ?_ | refine blk_alloc ?_ _)); refine blk_put (cs := #[.string t426, .string (⟨#[]⟩ : ByteArray)]) ?_ 1 _ rfl; (with_reducible repeat (first | refine blk_drewN ?_ _ | refine blk_drew ?_ | refine blk_alloc ?_ _)); refine blk_put (cs := #[.string (⟨#[]⟩ : ByteArray), .string (⟨#[]⟩ : ByteArray)]) ?_ 0 _ rfl; exact bs BK428.out) hb); have n2_ := Aside0.mk (below_step (by repeat (first | (with_reducible first | exact bw HB.out | refine bset ?_ | apply bA | apply bN | apply bD) | exact HB.out)) hb); have HO431 := n0_; replace BK428 := n1_; replace HB := n2_; clear n0_ n1_ n2_; (try clear hb); (try clear hb2); (try clear hk); (try clear hi); (try clear ho0); obtain ⟨Ao20, co20, eo20⟩ := Kd.R_slice HO431.out; subst eo20) | ((with_reducible refine gate_callee (f := 7) rfl ?_); refine goesL_ (some 36) rfl rfl Try.func7 (by kernel_rfl) rfl #[.slice Ao20 t429.length co20] rfl (by (try simp only [mA_]); first | done | rfl | (simp only [List.length_drop, List.length_take]; rfl)) ?_; (with_reducible refine (spec_DrawEncodeRecord.calls _ _ t429 t432 t433 t434 _ ?side1 ?side2 A6.out).mono ?_); (case side1 => repeat (first | exact (Kd.R_reads' HO431.out).2.2 | (with_reducible refine Kd.C_alloc ?_ _) | (with_reducible refine Kd.C_drewN ?_ _) | (with_reducible refine Kd.C_drew ?_))); (case side2 => exact (Kd.R_reads' HO431.out).2.1); rintro e w21 ⟨rfl, hb⟩; refine ⟨_, rfl, ?_⟩; have n0_ := Aside0.mk (Kd.R_below (bR HO431.out) hb); have n1_ := Aside0.mk (blk_below (bs BK428.out) hb); have n2_ := Aside0.mk (below_step (by repeat (first | (with_reducible first | exact bw HB.out | refine bset ?_ | apply bA | apply bN | apply bD) | exact HB.out)) hb); replace HO431 := n0_; replace BK428 := n1_; replace HB := n2_; clear n0_ n1_ n2_; (try clear hb); (try clear hb2); (try clear hk); (try clear hi)) | ((with_reducible refine gate_dst (N := 5) rfl ?_); (try (refine gate_guard (by rfl) ?_; dsimp only)); refine box_event ?hg (N := 5) ?hd (cs := #[.string (⟨#[]⟩ : ByteArray), .string (⟨#[]⟩ : ByteArray)]) (t := 25) ?hr ?_; (case hd => rfl); (case hg => rfl); (case hr => first | (go_simp; done) | (go_simp; rfl)); intro gb435 hg w22 hbox hb; have n0_ := Aside0.mk (Kd.R_below (bR HO431.out) hb); have n1_ := Aside0.mk (blk_below (bs BK428.out) hb); have n2_ := Aside0.mk (below_step (by repeat (first | (with_reducible first | exact bw HB.out | refine bset ?_ | apply bA | apply bN | apply bD) | exact HB.out)) hb); have n3_ := Aside0.mk (hbox); have n4_ := Aside0.mk ((by rw [hg]; exact (below_size (by repeat (first | (with_reducible first | exact bw HB.out | refine bset ?_ | apply bA | apply bN | apply bD) | exact HB.out))) : w.heap.size ≤ gb435)); have n5_ := Aside0.mk ((by rw [hg]; exact (below_size (by repeat (first | (with_reducible first | exact bw HB.out | refine bset ?_ | apply bA | apply bN | apply bD) | exact HB.out))) : w.heap.size ≤ gb435)); have n6_ := ne_ hg BK428.out; have n7_ := en_ hg BK428.out; replace HO431 := n0_; replace BK428 := n1_; replace HB := n2_; have BK435 := n3_; have GW435 := n4_; have GE435 := n5_; have NB428_435 := n6_; have NB435_428 := n7_; clear n0_ n1_ n2_ n3_ n4_ n5_ n6_ n7_; clear hb hbox hg; have hnb23 := NB435_428.out; have hnc23 := NB428_435.out; obtain ⟨hcz24_0, hcz24_1, hfz24_0, hfz24_1⟩ := bz2 BK435.out) | ((with_reducible refine gate_callee (f := 9) rfl ?_); refine goesL_ (some 42) rfl rfl Try.func9 (by kernel_rfl) rfl #[.int .i64 t432, .agg #[.string t433, .string t434]] rfl (by (try simp only [mA_]); first | done | rfl | (simp only [List.length_drop, List.length_take]; rfl)) ?_; (with_reducible refine (impl_EncodeRecord.calls k t432 t433 t434 t436 t437 _ A7.out).mono ?_); rintro e w25 ⟨rfl, hb⟩; refine ⟨_, rfl, ?_⟩; have n0_ := Aside0.mk (Kd.R_below (by (with_reducible repeat (first | apply Kd.R_alloc | apply Kd.R_drewN | apply Kd.R_drew)); exact (Kd.R_mono (Kd.R_far (p := ⟨gb435, 1, none⟩) (Kd.R_far (p := ⟨gb435, 0, none⟩) (Kd.R_types HO431.out BK435.out (by decide)) (fun _ hk => hk.2) (.string t433)) (fun _ hk => hk.2) (.string t434)) (fun _ h_ => h_.1))) hb); have n1_ := Aside0.mk (blk_below (g := gb428) (o := .cells #[.string t426, .string t427] 25 (0, 0)) (by (with_reducible repeat (first | refine blk_drewN ?_ _ | refine blk_drew ?_ | refine blk_alloc ?_ _)); refine blk_far ?_ NB428_435.out _; (with_reducible repeat (first | refine blk_drewN ?_ _ | refine blk_drew ?_ | refine blk_alloc ?_ _)); refine blk_far ?_ NB428_435.out _; exact bs BK428.out) hb); have n2_ := Aside0.mk (blk_below (g := gb435) (o := .cells #[.string t433, .string t434] 25 (0, 0)) (by (with_reducible repeat (first | refine blk_drewN ?_ _ | refine blk_drew ?_ | refine blk_alloc ?_ _)); refine blk_put (cs := #[.string t433, .string (⟨#[]⟩ : ByteArray)]) ?_ 1 _ rfl; (with_reducible repeat (first | refine blk_drewN ?_ _ | refine blk_drew ?_ | refine blk_alloc ?_ _)); refine blk_put (cs := #[.string (⟨#[]⟩ : ByteArray), .string (⟨#[]⟩ : ByteArray)]) ?_ 0 _ rfl; exact bs BK435.out) hb); have n3_ := Aside0.mk (below_step (by repeat (first | (with_reducible first | exact bw HB.out | refine bset ?_ | apply bA | apply bN | apply bD) | exact HB.out)) hb); replace HO431 := n0_; replace BK428 := n1_; replace BK435 := n2_; replace HB := n3_; clear n0_ n1_ n2_ n3_; (try clear hb); (try clear hb2); (try clear hk); (try clear hi); obtain ⟨hcz26_0, hcz26_1, hfz26_0, hfz26_1⟩ := bz2 BK435.out) | ((with_reducible refine gate_callee (f := 10) rfl ?_); refine goesL_ (some 48) rfl rfl Try.func10 (by kernel_rfl) rfl #[.int .i64 t432, .agg #[.string t433, .string t434]] rfl (by (try simp only [mA_]); first | done | rfl | (simp only [List.length_drop, List.length_take]; rfl)) ?_; (with_reducible refine (spec_EncodeRecord.calls k t432 t433 t434 t438 t439 _ A8.out).mono ?_); rintro e w27 ⟨rfl, hb⟩; refine ⟨_, rfl, ?_⟩; have n0_ := Aside0.mk (Kd.R_below (bR HO431.out) hb); have n1_ := Aside0.mk (blk_below (bs BK428.out) hb); have n2_ := Aside0.mk (blk_below (bs BK435.out) hb); have n3_ := Aside0.mk (below_step (by repeat (first | (with_reducible first | exact bw HB.out | refine bset ?_ | apply bA | apply bN | apply bD) | exact HB.out)) hb); replace HO431 := n0_; replace BK428 := n1_; replace BK435 := n2_; replace HB := n3_; clear n0_ n1_ n2_ n3_; (try clear hb); (try clear hb2); (try clear hk); (try clear hi)) | ((with_reducible refine gate_callee (f := 8) rfl ?_); refine goesL_ (some 52) rfl rfl Try.func8 (by kernel_rfl) rfl #[.slice A0 l0.length c0, .int .i64 2] rfl (by (try simp only [mA_]); first | done | rfl | (simp only [List.length_drop, List.length_take]; rfl)) ?_; (with_reducible refine (laws_vCut.calls _ _ l0 2 t440 _ ?side1 ?side2 A9.out).mono ?_); (case side1 => first | exact bC HR0.out HB.out | exact Kd.C_below HR0.out HB.out); (case side2 => exact HC0.out); rintro e w28 ⟨v441, rfl, ho0, hb⟩; refine ⟨_, rfl, ?_⟩; have n0_ := Aside0.mk (Kd.R_elder' (bR HO431.out) (Kd.R_base ho0) hb); have n1_ := Aside0.mk (Kd.R_lower (Kd.R_new' ho0 (Kd.R_lt (bR HO431.out))) (below_size (by repeat (first | (with_reducible first | exact bw HB.out | refine bset ?_ | apply bA | apply bN | apply bD) | exact HB.out)))); have n2_ := Aside0.mk (blk_below (bs BK428.out) hb); have n3_ := Aside0.mk (blk_below (bs BK435.out) hb); have n4_ := Aside0.mk (below_step (by repeat (first | (with_reducible first | exact bw HB.out | refine bset ?_ | apply bA | apply bN | apply bD) | exact HB.out)) hb); replace HO431 := n0_; have HO442 := n1_; replace BK428 := n2_; replace BK435 := n3_; replace HB := n4_; clear n0_ n1_ n2_ n3_ n4_; (try clear hb); (try clear hb2); (try clear hk); (try clear hi); (try clear ho0); obtain ⟨Ao29, co29, eo29⟩ := Kd.R_slice HO442.out; subst eo29) | ((with_reducible refine gate_callee (f := 11) rfl ?_); refine goesL_ (some 53) rfl rfl Try.func11 (by kernel_rfl) rfl #[.slice Ao29 t440.length co29] rfl (by (try simp only [mA_]); first | done | rfl | (simp only [List.length_drop, List.length_take]; rfl)) ?_; (with_reducible refine (spec_DrawIsValidLog.calls k _ _ t440 t443 t444 t445 _ ?side1 ?side2 A10.out).mono ?_); (case side1 => repeat (first | exact (Kd.R_reads' HO442.out).2.2 | (with_reducible refine Kd.C_alloc ?_ _) | (with_reducible refine Kd.C_drewN ?_ _) | (with_reducible refine Kd.C_drew ?_))); (case side2 => exact (Kd.R_reads' HO442.out).2.1); rintro e w30 ⟨rfl, hb⟩; refine ⟨_, rfl, ?_⟩; have n0_ := Aside0.mk (Kd.R_below (bR HO431.out) hb); have n1_ := Aside0.mk (Kd.R_below (bR HO442.out) hb); have n2_ := Aside0.mk (blk_below (bs BK428.out) hb); have n3_ := Aside0.mk (blk_below (bs BK435.out) hb); have n4_ := Aside0.mk (below_step (by repeat (first | (with_reducible first | exact bw HB.out | refine bset ?_ | apply bA | apply bN | apply bD) | exact HB.out)) hb); replace HO431 := n0_; replace HO442 := n1_; replace BK428 := n2_; replace BK435 := n3_; replace HB := n4_; clear n0_ n1_ n2_ n3_ n4_; (try clear hb); (try clear hb2); (try clear hk); (try clear hi)) | ((with_reducible refine gate_dst (N := 10) rfl ?_); (try (refine gate_guard (by rfl) ?_; dsimp only)); refine box_event ?hg (N := 10) ?hd (cs := #[.string (⟨#[]⟩ : ByteArray), .string (⟨#[]⟩ : ByteArray), .int .i64 0]) (t := 33) ?hr ?_; (case hd => rfl); (case hg => rfl); (case hr => first | (go_simp; done) | (go_simp; rfl)); intro gb446 hg w31 hbox hb; have n0_ := Aside0.mk (Kd.R_below (bR HO431.out) hb); have n1_ := Aside0.mk (Kd.R_below (bR HO442.out) hb); have n2_ := Aside0.mk (blk_below (bs BK428.out) hb); have n3_ := Aside0.mk (blk_below (bs BK435.out) hb); have n4_ := Aside0.mk (below_step (by repeat (first | (with_reducible first | exact bw HB.out | refine bset ?_ | apply bA | apply bN | apply bD) | exact HB.out)) hb); have n5_ := Aside0.mk (hbox); have n6_ := Aside0.mk ((by rw [hg]; exact (below_size (by repeat (first | (with_reducible first | exact bw HB.out | refine bset ?_ | apply bA | apply bN | apply bD) | exact HB.out))) : w.heap.size ≤ gb446)); have n7_ := Aside0.mk ((by rw [hg]; exact (below_size (by repeat (first | (with_reducible first | exact bw HB.out | refine bset ?_ | apply bA | apply bN | apply bD) | exact HB.out))) : w.heap.size ≤ gb446)); have n8_ := ne_ hg BK428.out; have n9_ := en_ hg BK428.out; have n10_ := ne_ hg BK435.out; have n11_ := en_ hg BK435.out; replace HO431 := n0_; replace HO442 := n1_; replace BK428 := n2_; replace BK435 := n3_; replace HB := n4_; have BK446 := n5_; have GW446 := n6_; have GE446 := n7_; have NB428_446 := n8_; have NB446_428 := n9_; have NB435_446 := n10_; have NB446_435 := n11_; clear n0_ n1_ n2_ n3_ n4_ n5_ n6_ n7_ n8_ n9_ n10_ n11_; clear hb hbox hg; have hnb32 := NB446_428.out; have hnc32 := NB428_446.out; have hnb33 := NB446_435.out; have hnc33 := NB435_446.out; obtain ⟨hcz34_0, hcz34_1, hcz34_2, hfz34_0, hfz34_1, hfz34_2⟩ := bz3 BK446.out) | ((with_reducible refine gate_callee (f := 8) rfl ?_); refine goesL_ (some 56) rfl rfl Try.func8 (by kernel_rfl) rfl #[.slice A0 l0.length c0, .int .i64 3] rfl (by (try simp only [mA_]); first | done | rfl | (simp only [List.length_drop, List.length_take]; rfl)) ?_; (with_reducible refine (laws_vCut.calls _ _ l0 3 t447 _ ?side1 ?side2 A11.out).mono ?_); (case side1 => exact Kd.C_below HR0.out (by repeat (first | (with_reducible first | exact bw HB.out | refine bset ?_ | apply bA | apply bN | apply bD) | exact HB.out))); (case side2 => exact HC0.out); rintro e w35 ⟨v448, rfl, ho0, hb⟩; refine ⟨_, rfl, ?_⟩; have n0_ := Aside0.mk (Kd.R_elder' (by (with_reducible repeat (first | apply Kd.R_alloc | apply Kd.R_drewN | apply Kd.R_drew)); exact (Kd.R_mono (Kd.R_far (p := ⟨gb446, 2, none⟩) (Kd.R_far (p := ⟨gb446, 1, none⟩) (Kd.R_far (p := ⟨gb446, 0, none⟩) (Kd.R_types HO431.out BK446.out (by decide)) (fun _ hk => hk.2) (.string t443)) (fun _ hk => hk.2) (.string t444)) (fun _ hk => hk.2) (.int .i64 t445)) (fun _ h_ => h_.1))) (Kd.R_base ho0) hb); have n1_ := Aside0.mk (Kd.R_elder' (by (with_reducible repeat (first | apply Kd.R_alloc | apply Kd.R_drewN | apply Kd.R_drew)); exact (Kd.R_mono (Kd.R_far (p := ⟨gb446, 2, none⟩) (Kd.R_far (p := ⟨gb446, 1, none⟩) (Kd.R_far (p := ⟨gb446, 0, none⟩) (Kd.R_types HO442.out BK446.out (by decide)) (fun _ hk => hk.2) (.string t443)) (fun _ hk => hk.2) (.string t444)) (fun _ hk => hk.2) (.int .i64 t445)) (fun _ h_ => h_.1))) (Kd.R_base ho0) hb); have n2_ := Aside0.mk (Kd.R_lower (Kd.R_new' (Kd.R_new' ho0 (Kd.R_lt (by (with_reducible repeat (first | apply Kd.R_alloc | apply Kd.R_drewN | apply Kd.R_drew)); exact (Kd.R_mono (Kd.R_far (p := ⟨gb446, 2, none⟩) (Kd.R_far (p := ⟨gb446, 1, none⟩) (Kd.R_far (p := ⟨gb446, 0, none⟩) (Kd.R_types HO431.out BK446.out (by decide)) (fun _ hk => hk.2) (.string t443)) (fun _ hk => hk.2) (.string t444)) (fun _ hk => hk.2) (.int .i64 t445)) (fun _ h_ => h_.1))))) (Kd.R_lt (by (with_reducible repeat (first | apply Kd.R_alloc | apply Kd.R_drewN | apply Kd.R_drew)); exact (Kd.R_mono (Kd.R_far (p := ⟨gb446, 2, none⟩) (Kd.R_far (p := ⟨gb446, 1, none⟩) (Kd.R_far (p := ⟨gb446, 0, none⟩) (Kd.R_types HO442.out BK446.out (by decide)) (fun _ hk => hk.2) (.string t443)) (fun _ hk => hk.2) (.string t444)) (fun _ hk => hk.2) (.int .i64 t445)) (fun _ h_ => h_.1))))) (below_size (by repeat (first | (with_reducible first | exact bw HB.out | refine bset ?_ | apply bA | apply bN | apply bD) | exact HB.out)))); have n3_ := Aside0.mk (blk_below (g := gb428) (o := .cells #[.string t426, .string t427] 25 (0, 0)) (by (with_reducible repeat (first | refine blk_drewN ?_ _ | refine blk_drew ?_ | refine blk_alloc ?_ _)); refine blk_far ?_ NB428_446.out _; (with_reducible repeat (first | refine blk_drewN ?_ _ | refine blk_drew ?_ | refine blk_alloc ?_ _)); refine blk_far ?_ NB428_446.out _; (with_reducible repeat (first | refine blk_drewN ?_ _ | refine blk_drew ?_ | refine blk_alloc ?_ _)); refine blk_far ?_ NB428_446.out _; exact bs BK428.out) hb); have n4_ := Aside0.mk (blk_below (g := gb435) (o := .cells #[.string t433, .string t434] 25 (0, 0)) (by (with_reducible repeat (first | refine blk_drewN ?_ _ | refine blk_drew ?_ | refine blk_alloc ?_ _)); refine blk_far ?_ NB435_446.out _; (with_reducible repeat (first | refine blk_drewN ?_ _ | refine blk_drew ?_ | refine blk_alloc ?_ _)); refine blk_far ?_ NB435_446.out _; (with_reducible repeat (first | refine blk_drewN ?_ _ | refine blk_drew ?_ | refine blk_alloc ?_ _)); refine blk_far ?_ NB435_446.out _; exact bs BK435.out) hb); have n5_ := Aside0.mk (blk_below (g := gb446) (o := .cells #[.string t443, .string t444, .int .i64 t445] 33 (0, 0)) (by (with_reducible repeat (first | refine blk_drewN ?_ _ | refine blk_drew ?_ | refine blk_alloc ?_ _)); refine blk_put (cs := #[.string t443, .string t444, .int .i64 0]) ?_ 2 _ rfl; (with_reducible repeat (first | refine blk_drewN ?_ _ | refine blk_drew ?_ | refine blk_alloc ?_ _)); refine blk_put (cs := #[.string t443, .string (⟨#[]⟩ : ByteArray), .int .i64 0]) ?_ 1 _ rfl; (with_reducible repeat (first | refine blk_drewN ?_ _ | refine blk_drew ?_ | refine blk_alloc ?_ _)); refine blk_put (cs := #[.string (⟨#[]⟩ : ByteArray), .string (⟨#[]⟩ : ByteArray), .int .i64 0]) ?_ 0 _ rfl; exact bs BK446.out) hb); have n6_ := Aside0.mk (below_step (by repeat (first | (with_reducible first | exact bw HB.out | refine bset ?_ | apply bA | apply bN | apply bD) | exact HB.out)) hb); replace HO431 := n0_; replace HO442 := n1_; have HO449 := n2_; replace BK428 := n3_; replace BK435 := n4_; replace BK446 := n5_; replace HB := n6_; clear n0_ n1_ n2_ n3_ n4_ n5_ n6_; (try clear hb); (try clear hb2); (try clear hk); (try clear hi); (try clear ho0); obtain ⟨Ao36, co36, eo36⟩ := Kd.R_slice HO449.out; subst eo36) | ((with_reducible refine gate_callee (f := 12) rfl ?_); refine goesL_ (some 57) rfl rfl Try.func12 (by kernel_rfl) rfl #[.slice Ao36 t447.length co36] rfl (by (try simp only [mA_]); first | done | rfl | (simp only [List.length_drop, List.length_take]; rfl)) ?_; (with_reducible refine (spec_DrawAppendRecord.calls k _ _ t447 t450 t451 t452 t453 t454 _ ?side1 ?side2 A12.out).mono ?_); (case side1 => repeat (first | exact (Kd.R_reads' HO449.out).2.2 | (with_reducible refine Kd.C_alloc ?_ _) | (with_reducible refine Kd.C_drewN ?_ _) | (with_reducible refine Kd.C_drew ?_))); (case side2 => exact (Kd.R_reads' HO449.out).2.1); rintro e w37 ⟨rfl, hb⟩; refine ⟨_, rfl, ?_⟩; have n0_ := Aside0.mk (Kd.R_below (bR HO431.out) hb); have n1_ := Aside0.mk (Kd.R_below (bR HO442.out) hb); have n2_ := Aside0.mk (Kd.R_below (bR HO449.out) hb); have n3_ := Aside0.mk (blk_below (bs BK428.out) hb); have n4_ := Aside0.mk (blk_below (bs BK435.out) hb); have n5_ := Aside0.mk (blk_below (bs BK446.out) hb); have n6_ := Aside0.mk (below_step (by repeat (first | (with_reducible first | exact bw HB.out | refine bset ?_ | apply bA | apply bN | apply bD) | exact HB.out)) hb); replace HO431 := n0_; replace HO442 := n1_; replace HO449 := n2_; replace BK428 := n3_; replace BK435 := n4_; replace BK446 := n5_; replace HB := n6_; clear n0_ n1_ n2_ n3_ n4_ n5_ n6_; (try clear hb); (try clear hb2); (try clear hk); (try clear hi)) | ((with_reducible refine gate_dst (N := 11) rfl ?_); (try (refine gate_guard (by rfl) ?_; dsimp only)); refine box_event ?hg (N := 11) ?hd (cs := #[.string (⟨#[]⟩ : ByteArray), .string (⟨#[]⟩ : ByteArray), .int .i64 0]) (t := 33) ?hr ?_; (case hd => rfl); (case hg => rfl); (case hr => first | (go_simp; done) | (go_simp; rfl)); intro gb455 hg w38 hbox hb; have n0_ := Aside0.mk (Kd.R_below (bR HO431.out) hb); have n1_ := Aside0.mk (Kd.R_below (bR HO442.out) hb); have n2_ := Aside0.mk (Kd.R_below (bR HO449.out) hb); have n3_ := Aside0.mk (blk_below (bs BK428.out) hb); have n4_ := Aside0.mk (blk_below (bs BK435.out) hb); have n5_ := Aside0.mk (blk_below (bs BK446.out) hb); have n6_ := Aside0.mk (below_step (by repeat (first | (with_reducible first | exact bw HB.out | refine bset ?_ | apply bA | apply bN | apply bD) | exact HB.out)) hb); have n7_ := Aside0.mk (hbox); have n8_ := Aside0.mk ((by rw [hg]; exact (below_size (by repeat (first | (with_reducible first | exact bw HB.out | refine bset ?_ | apply bA | apply bN | apply bD) | exact HB.out))) : w.heap.size ≤ gb455)); have n9_ := Aside0.mk ((by rw [hg]; exact (below_size (by repeat (first | (with_reducible first | exact bw HB.out | refine bset ?_ | apply bA | apply bN | apply bD) | exact HB.out))) : w.heap.size ≤ gb455)); have n10_ := ne_ hg BK428.out; have n11_ := en_ hg BK428.out; have n12_ := ne_ hg BK435.out; have n13_ := en_ hg BK435.out; have n14_ := ne_ hg BK446.out; have n15_ := en_ hg BK446.out; replace HO431 := n0_; replace HO442 := n1_; replace HO449 := n2_; replace BK428 := n3_; replace BK435 := n4_; replace BK446 := n5_; replace HB := n6_; have BK455 := n7_; have GW455 := n8_; have GE455 := n9_; have NB428_455 := n10_; have NB455_428 := n11_; have NB435_455 := n12_; have NB455_435 := n13_; have NB446_455 := n14_; have NB455_446 := n15_; clear n0_ n1_ n2_ n3_ n4_ n5_ n6_ n7_ n8_ n9_ n10_ n11_ n12_ n13_ n14_ n15_; clear hb hbox hg) | ((with_reducible refine gate_dst (N := 12) rfl ?_); (try (refine gate_guard (by rfl) ?_; dsimp only)); refine box_event ?hg (N := 12) ?hd (cs := #[.string (⟨#[]⟩ : ByteArray), .string (⟨#[]⟩ : ByteArray)]) (t := 25) ?hr ?_; (case hd => rfl); (case hg => rfl); (case hr => first | (go_simp; done) | (go_simp; rfl)); intro gb456 hg w39 hbox hb; have n0_ := Aside0.mk (Kd.R_below (bR HO431.out) hb); have n1_ := Aside0.mk (Kd.R_below (bR HO442.out) hb); have n2_ := Aside0.mk (Kd.R_below (bR HO449.out) hb); have n3_ := Aside0.mk (blk_below (bs BK428.out) hb); have n4_ := Aside0.mk (blk_below (bs BK435.out) hb); have n5_ := Aside0.mk (blk_below (bs BK446.out) hb); have n6_ := Aside0.mk (blk_below (bs BK455.out) hb); have n7_ := Aside0.mk (below_step (by repeat (first | (with_reducible first | exact bw HB.out | refine bset ?_ | apply bA | apply bN | apply bD) | exact HB.out)) hb); have n8_ := Aside0.mk (hbox); have n9_ := Aside0.mk ((by rw [hg]; exact (below_size (by repeat (first | (with_reducible first | exact bw HB.out | refine bset ?_ | apply bA | apply bN | apply bD) | exact HB.out))) : w.heap.size ≤ gb456)); have n10_ := Aside0.mk ((by rw [hg]; exact (below_size (by repeat (first | (with_reducible first | exact bw HB.out | refine bset ?_ | apply bA | apply bN | apply bD) | exact HB.out))) : w.heap.size ≤ gb456)); have n11_ := ne_ hg BK428.out; have n12_ := en_ hg BK428.out; have n13_ := ne_ hg BK435.out; have n14_ := en_ hg BK435.out; have n15_ := ne_ hg BK446.out; have n16_ := en_ hg BK446.out; have n17_ := ne_ hg BK455.out; have n18_ := en_ hg BK455.out; replace HO431 := n0_; replace HO442 := n1_; replace HO449 := n2_; replace BK428 := n3_; replace BK435 := n4_; replace BK446 := n5_; replace BK455 := n6_; replace HB := n7_; have BK456 := n8_; have GW456 := n9_; have GE456 := n10_; have NB428_456 := n11_; have NB456_428 := n12_; have NB435_456 := n13_; have NB456_435 := n14_; have NB446_456 := n15_; have NB456_446 := n16_; have NB455_456 := n17_; have NB456_455 := n18_; clear n0_ n1_ n2_ n3_ n4_ n5_ n6_ n7_ n8_ n9_ n10_ n11_ n12_ n13_ n14_ n15_ n16_ n17_ n18_; clear hb hbox hg; have hnb40 := NB455_428.out; have hnc40 := NB428_455.out; have hnb41 := NB455_435.out; have hnc41 := NB435_455.out; have hnb42 := NB455_446.out; have hnc42 := NB446_455.out; have hnb43 := NB455_456.out; have hnc43 := NB456_455.out; obtain ⟨hcz44_0, hcz44_1, hcz44_2, hfz44_0, hfz44_1, hfz44_2⟩ := bz3 BK455.out; have hnb45 := NB456_428.out; have hnc45 := NB428_456.out; have hnb46 := NB456_435.out; have hnc46 := NB435_456.out; have hnb47 := NB456_446.out; have hnc47 := NB446_456.out; obtain ⟨hcz48_0, hcz48_1, hfz48_0, hfz48_1⟩ := bz2 BK456.out) | ((with_reducible refine gate_callee (f := 13) rfl ?_); refine goesL_ (some 63) rfl rfl Try.func13 (by kernel_rfl) rfl #[.agg #[.string t450, .string t451, .int .i64 t452], .agg #[.string t453, .string t454]] rfl (by (try simp only [mA_]); first | done | rfl | (simp only [List.length_drop, List.length_take]; rfl)) ?_; (with_reducible refine (impl_AppendRecord.calls k t450 t451 t452 t453 t454 t457 t458 t459 t460 _ A13.out).mono ?_); rintro e w49 ⟨rfl, hb⟩; refine ⟨_, rfl, ?_⟩; have n0_ := Aside0.mk (Kd.R_below (by (with_reducible repeat (first | apply Kd.R_alloc | apply Kd.R_drewN | apply Kd.R_drew)); exact (Kd.R_mono (Kd.R_mono (Kd.R_far (p := ⟨gb456, 1, none⟩) (Kd.R_far (p := ⟨gb456, 0, none⟩) (Kd.R_far (p := ⟨gb455, 2, none⟩) (Kd.R_far (p := ⟨gb455, 1, none⟩) (Kd.R_far (p := ⟨gb455, 0, none⟩) (Kd.R_types (Kd.R_types HO431.out BK455.out (by decide)) BK456.out (by decide)) (fun _ hk => hk.1.2) (.string t450)) (fun _ hk => hk.1.2) (.string t451)) (fun _ hk => hk.1.2) (.int .i64 t452)) (fun _ hk => hk.2) (.string t453)) (fun _ hk => hk.2) (.string t454)) (fun _ h_ => h_.1)) (fun _ h_ => h_.1))) hb); have n1_ := Aside0.mk (Kd.R_below (by (with_reducible repeat (first | apply Kd.R_alloc | apply Kd.R_drewN | apply Kd.R_drew)); exact (Kd.R_mono (Kd.R_mono (Kd.R_far (p := ⟨gb456, 1, none⟩) (Kd.R_far (p := ⟨gb456, 0, none⟩) (Kd.R_far (p := ⟨gb455, 2, none⟩) (Kd.R_far (p := ⟨gb455, 1, none⟩) (Kd.R_far (p := ⟨gb455, 0, none⟩) (Kd.R_types (Kd.R_types HO442.out BK455.out (by decide)) BK456.out (by decide)) (fun _ hk => hk.1.2) (.string t450)) (fun _ hk => hk.1.2) (.string t451)) (fun _ hk => hk.1.2) (.int .i64 t452)) (fun _ hk => hk.2) (.string t453)) (fun _ hk => hk.2) (.string t454)) (fun _ h_ => h_.1)) (fun _ h_ => h_.1))) hb); have n2_ := Aside0.mk (Kd.R_below (by (with_reducible repeat (first | apply Kd.R_alloc | apply Kd.R_drewN | apply Kd.R_drew)); exact (Kd.R_mono (Kd.R_mono (Kd.R_far (p := ⟨gb456, 1, none⟩) (Kd.R_far (p := ⟨gb456, 0, none⟩) (Kd.R_far (p := ⟨gb455, 2, none⟩) (Kd.R_far (p := ⟨gb455, 1, none⟩) (Kd.R_far (p := ⟨gb455, 0, none⟩) (Kd.R_types (Kd.R_types HO449.out BK455.out (by decide)) BK456.out (by decide)) (fun _ hk => hk.1.2) (.string t450)) (fun _ hk => hk.1.2) (.string t451)) (fun _ hk => hk.1.2) (.int .i64 t452)) (fun _ hk => hk.2) (.string t453)) (fun _ hk => hk.2) (.string t454)) (fun _ h_ => h_.1)) (fun _ h_ => h_.1))) hb); have n3_ := Aside0.mk (blk_below (g := gb428) (o := .cells #[.string t426, .string t427] 25 (0, 0)) (by (with_reducible repeat (first | refine blk_drewN ?_ _ | refine blk_drew ?_ | refine blk_alloc ?_ _)); refine blk_far ?_ NB428_456.out _; (with_reducible repeat (first | refine blk_drewN ?_ _ | refine blk_drew ?_ | refine blk_alloc ?_ _)); refine blk_far ?_ NB428_456.out _; (with_reducible repeat (first | refine blk_drewN ?_ _ | refine blk_drew ?_ | refine blk_alloc ?_ _)); refine blk_far ?_ NB428_455.out _; (with_reducible repeat (first | refine blk_drewN ?_ _ | refine blk_drew ?_ | refine blk_alloc ?_ _)); refine blk_far ?_ NB428_455.out _; (with_reducible repeat (first | refine blk_drewN ?_ _ | refine blk_drew ?_ | refine blk_alloc ?_ _)); refine blk_far ?_ NB428_455.out _; exact bs BK428.out) hb); have n4_ := Aside0.mk (blk_below (g := gb435) (o := .cells #[.string t433, .string t434] 25 (0, 0)) (by (with_reducible repeat (first | refine blk_drewN ?_ _ | refine blk_drew ?_ | refine blk_alloc ?_ _)); refine blk_far ?_ NB435_456.out _; (with_reducible repeat (first | refine blk_drewN ?_ _ | refine blk_drew ?_ | refine blk_alloc ?_ _)); refine blk_far ?_ NB435_456.out _; (with_reducible repeat (first | refine blk_drewN ?_ _ | refine blk_drew ?_ | refine blk_alloc ?_ _)); refine blk_far ?_ NB435_455.out _; (with_reducible repeat (first | refine blk_drewN ?_ _ | refine blk_drew ?_ | refine blk_alloc ?_ _)); refine blk_far ?_ NB435_455.out _; (with_reducible repeat (first | refine blk_drewN ?_ _ | refine blk_drew ?_ | refine blk_alloc ?_ _)); refine blk_far ?_ NB435_455.out _; exact bs BK435.out) hb); have n5_ := Aside0.mk (blk_below (g := gb446) (o := .cells #[.string t443, .string t444, .int .i64 t445] 33 (0, 0)) (by (with_reducible repeat (first | refine blk_drewN ?_ _ | refine blk_drew ?_ | refine blk_alloc ?_ _)); refine blk_far ?_ NB446_456.out _; (with_reducible repeat (first | refine blk_drewN ?_ _ | refine blk_drew ?_ | refine blk_alloc ?_ _)); refine blk_far ?_ NB446_456.out _; (with_reducible repeat (first | refine blk_drewN ?_ _ | refine blk_drew ?_ | refine blk_alloc ?_ _)); refine blk_far ?_ NB446_455.out _; (with_reducible repeat (first | refine blk_drewN ?_ _ | refine blk_drew ?_ | refine blk_alloc ?_ _)); refine blk_far ?_ NB446_455.out _; (with_reducible repeat (first | refine blk_drewN ?_ _ | refine blk_drew ?_ | refine blk_alloc ?_ _)); refine blk_far ?_ NB446_455.out _; exact bs BK446.out) hb); have n6_ := Aside0.mk (blk_below (g := gb455) (o := .cells #[.string t450, .string t451, .int .i64 t452] 33 (0, 0)) (by (with_reducible repeat (first | refine blk_drewN ?_ _ | refine blk_drew ?_ | refine blk_alloc ?_ _)); refine blk_far ?_ NB455_456.out _; (with_reducible repeat (first | refine blk_drewN ?_ _ | refine blk_drew ?_ | refine blk_alloc ?_ _)); refine blk_far ?_ NB455_456.out _; (with_reducible repeat (first | refine blk_drewN ?_ _ | refine blk_drew ?_ | refine blk_alloc ?_ _)); refine blk_put (cs := #[.string t450, .string t451, .int .i64 0]) ?_ 2 _ rfl; (with_reducible repeat (first | refine blk_drewN ?_ _ | refine blk_drew ?_ | refine blk_alloc ?_ _)); refine blk_put (cs := #[.string t450, .string (⟨#[]⟩ : ByteArray), .int .i64 0]) ?_ 1 _ rfl; (with_reducible repeat (first | refine blk_drewN ?_ _ | refine blk_drew ?_ | refine blk_alloc ?_ _)); refine blk_put (cs := #[.string (⟨#[]⟩ : ByteArray), .string (⟨#[]⟩ : ByteArray), .int .i64 0]) ?_ 0 _ rfl; exact bs BK455.out) hb); have n7_ := Aside0.mk (blk_below (g := gb456) (o := .cells #[.string t453, .string t454] 25 (0, 0)) (by (with_reducible repeat (first | refine blk_drewN ?_ _ | refine blk_drew ?_ | refine blk_alloc ?_ _)); refine blk_put (cs := #[.string t453, .string (⟨#[]⟩ : ByteArray)]) ?_ 1 _ rfl; (with_reducible repeat (first | refine blk_drewN ?_ _ | refine blk_drew ?_ | refine blk_alloc ?_ _)); refine blk_put (cs := #[.string (⟨#[]⟩ : ByteArray), .string (⟨#[]⟩ : ByteArray)]) ?_ 0 _ rfl; (with_reducible repeat (first | refine blk_drewN ?_ _ | refine blk_drew ?_ | refine blk_alloc ?_ _)); refine blk_far ?_ NB456_455.out _; (with_reducible repeat (first | refine blk_drewN ?_ _ | refine blk_drew ?_ | refine blk_alloc ?_ _)); refine blk_far ?_ NB456_455.out _; (with_reducible repeat (first | refine blk_drewN ?_ _ | refine blk_drew ?_ | refine blk_alloc ?_ _)); refine blk_far ?_ NB456_455.out _; exact bs BK456.out) hb); have n8_ := Aside0.mk (below_step (by repeat (first | (with_reducible first | exact bw HB.out | refine bset ?_ | apply bA | apply bN | apply bD) | exact HB.out)) hb); replace HO431 := n0_; replace HO442 := n1_; replace HO449 := n2_; replace BK428 := n3_; replace BK435 := n4_; replace BK446 := n5_; replace BK455 := n6_; replace BK456 := n7_; replace HB := n8_; clear n0_ n1_ n2_ n3_ n4_ n5_ n6_ n7_ n8_; (try clear hb); (try clear hb2); (try clear hk); (try clear hi)) | ((with_reducible refine gate_dst (N := 13) rfl ?_); (try (refine gate_guard (by rfl) ?_; dsimp only)); refine box_event ?hg (N := 13) ?hd (cs := #[.string (⟨#[]⟩ : ByteArray), .string (⟨#[]⟩ : ByteArray), .int .i64 0]) (t := 33) ?hr ?_; (case hd => rfl); (case hg => rfl); (case hr => first | (go_simp; done) | (go_simp; rfl)); intro gb461 hg w50 hbox hb; have n0_ := Aside0.mk (Kd.R_below (bR HO431.out) hb); have n1_ := Aside0.mk (Kd.R_below (bR HO442.out) hb); have n2_ := Aside0.mk (Kd.R_below (bR HO449.out) hb); have n3_ := Aside0.mk (blk_below (bs BK428.out) hb); have n4_ := Aside0.mk (blk_below (bs BK435.out) hb); have n5_ := Aside0.mk (blk_below (bs BK446.out) hb); have n6_ := Aside0.mk (blk_below (bs BK455.out) hb); have n7_ := Aside0.mk (blk_below (bs BK456.out) hb); have n8_ := Aside0.mk (below_step (by repeat (first | (with_reducible first | exact bw HB.out | refine bset ?_ | apply bA | apply bN | apply bD) | exact HB.out)) hb); have n9_ := Aside0.mk (hbox); have n10_ := Aside0.mk ((by rw [hg]; exact (below_size (by repeat (first | (with_reducible first | exact bw HB.out | refine bset ?_ | apply bA | apply bN | apply bD) | exact HB.out))) : w.heap.size ≤ gb461)); have n11_ := Aside0.mk ((by rw [hg]; exact (below_size (by repeat (first | (with_reducible first | exact bw HB.out | refine bset ?_ | apply bA | apply bN | apply bD) | exact HB.out))) : w.heap.size ≤ gb461)); have n12_ := ne_ hg BK428.out; have n13_ := en_ hg BK428.out; have n14_ := ne_ hg BK435.out; have n15_ := en_ hg BK435.out; have n16_ := ne_ hg BK446.out; have n17_ := en_ hg BK446.out; have n18_ := ne_ hg BK455.out; have n19_ := en_ hg BK455.out; have n20_ := ne_ hg BK456.out; have n21_ := en_ hg BK456.out; replace HO431 := n0_; replace HO442 := n1_; replace HO449 := n2_; replace BK428 := n3_; replace BK435 := n4_; replace BK446 := n5_; replace BK455 := n6_; replace BK456 := n7_; replace HB := n8_; have BK461 := n9_; have GW461 := n10_; have GE461 := n11_; have NB428_461 := n12_; have NB461_428 := n13_; have NB435_461 := n14_; have NB461_435 := n15_; have NB446_461 := n16_; have NB461_446 := n17_; have NB455_461 := n18_; have NB461_455 := n19_; have NB456_461 := n20_; have NB461_456 := n21_; clear n0_ n1_ n2_ n3_ n4_ n5_ n6_ n7_ n8_ n9_ n10_ n11_ n12_ n13_ n14_ n15_ n16_ n17_ n18_ n19_ n20_ n21_; clear hb hbox hg; have hnb51 := NB461_428.out; have hnc51 := NB428_461.out; have hnb52 := NB461_435.out; have hnc52 := NB435_461.out; have hnb53 := NB461_446.out; have hnc53 := NB446_461.out; have hnb54 := NB461_455.out; have hnc54 := NB455_461.out; have hnb55 := NB461_456.out; have hnc55 := NB456_461.out; obtain ⟨hcz56_0, hcz56_1, hcz56_2, hfz56_0, hfz56_1, hfz56_2⟩ := bz3 BK461.out; obtain ⟨hcz57_0, hcz57_1, hcz57_2, hfz57_0, hfz57_1, hfz57_2⟩ := bz3 BK455.out; obtain ⟨hcz58_0, hcz58_1, hfz58_0, hfz58_1⟩ := bz2 BK456.out) | ((with_reducible refine gate_callee (f := 14) rfl ?_); refine goesL_ (some 69) rfl rfl Try.func14 (by kernel_rfl) rfl #[.agg #[.string t450, .string t451, .int .i64 t452], .agg #[.string t453, .string t454]] rfl (by (try simp only [mA_]); first | done | rfl | (simp only [List.length_drop, List.length_take]; rfl)) ?_; (with_reducible refine (spec_AppendRecord.calls k t450 t451 t452 t453 t454 t462 t463 t464 t465 _ A14.out).mono ?_); rintro e w59 ⟨rfl, hb⟩; refine ⟨_, rfl, ?_⟩; have n0_ := Aside0.mk (Kd.R_below (by (with_reducible repeat (first | apply Kd.R_alloc | apply Kd.R_drewN | apply Kd.R_drew)); exact (Kd.R_mono (Kd.R_far (p := ⟨gb461, 2, none⟩) (Kd.R_far (p := ⟨gb461, 1, none⟩) (Kd.R_far (p := ⟨gb461, 0, none⟩) (Kd.R_types HO431.out BK461.out (by decide)) (fun _ hk => hk.2) (.string t457)) (fun _ hk => hk.2) (.string t458)) (fun _ hk => hk.2) (.int .i64 t459)) (fun _ h_ => h_.1))) hb); have n1_ := Aside0.mk (Kd.R_below (by (with_reducible repeat (first | apply Kd.R_alloc | apply Kd.R_drewN | apply Kd.R_drew)); exact (Kd.R_mono (Kd.R_far (p := ⟨gb461, 2, none⟩) (Kd.R_far (p := ⟨gb461, 1, none⟩) (Kd.R_far (p := ⟨gb461, 0, none⟩) (Kd.R_types HO442.out BK461.out (by decide)) (fun _ hk => hk.2) (.string t457)) (fun _ hk => hk.2) (.string t458)) (fun _ hk => hk.2) (.int .i64 t459)) (fun _ h_ => h_.1))) hb); have n2_ := Aside0.mk (Kd.R_below (by (with_reducible repeat (first | apply Kd.R_alloc | apply Kd.R_drewN | apply Kd.R_drew)); exact (Kd.R_mono (Kd.R_far (p := ⟨gb461, 2, none⟩) (Kd.R_far (p := ⟨gb461, 1, none⟩) (Kd.R_far (p := ⟨gb461, 0, none⟩) (Kd.R_types HO449.out BK461.out (by decide)) (fun _ hk => hk.2) (.string t457)) (fun _ hk => hk.2) (.string t458)) (fun _ hk => hk.2) (.int .i64 t459)) (fun _ h_ => h_.1))) hb); have n3_ := Aside0.mk (blk_below (g := gb428) (o := .cells #[.string t426, .string t427] 25 (0, 0)) (by (with_reducible repeat (first | refine blk_drewN ?_ _ | refine blk_drew ?_ | refine blk_alloc ?_ _)); refine blk_far ?_ NB428_461.out _; (with_reducible repeat (first | refine blk_drewN ?_ _ | refine blk_drew ?_ | refine blk_alloc ?_ _)); refine blk_far ?_ NB428_461.out _; (with_reducible repeat (first | refine blk_drewN ?_ _ | refine blk_drew ?_ | refine blk_alloc ?_ _)); refine blk_far ?_ NB428_461.out _; exact bs BK428.out) hb); have n4_ := Aside0.mk (blk_below (g := gb435) (o := .cells #[.string t433, .string t434] 25 (0, 0)) (by (with_reducible repeat (first | refine blk_drewN ?_ _ | refine blk_drew ?_ | refine blk_alloc ?_ _)); refine blk_far ?_ NB435_461.out _; (with_reducible repeat (first | refine blk_drewN ?_ _ | refine blk_drew ?_ | refine blk_alloc ?_ _)); refine blk_far ?_ NB435_461.out _; (with_reducible repeat (first | refine blk_drewN ?_ _ | refine blk_drew ?_ | refine blk_alloc ?_ _)); refine blk_far ?_ NB435_461.out _; exact bs BK435.out) hb); have n5_ := Aside0.mk (blk_below (g := gb446) (o := .cells #[.string t443, .string t444, .int .i64 t445] 33 (0, 0)) (by (with_reducible repeat (first | refine blk_drewN ?_ _ | refine blk_drew ?_ | refine blk_alloc ?_ _)); refine blk_far ?_ NB446_461.out _; (with_reducible repeat (first | refine blk_drewN ?_ _ | refine blk_drew ?_ | refine blk_alloc ?_ _)); refine blk_far ?_ NB446_461.out _; (with_reducible repeat (first | refine blk_drewN ?_ _ | refine blk_drew ?_ | refine blk_alloc ?_ _)); refine blk_far ?_ NB446_461.out _; exact bs BK446.out) hb); have n6_ := Aside0.mk (blk_below (g := gb455) (o := .cells #[.string t450, .string t451, .int .i64 t452] 33 (0, 0)) (by (with_reducible repeat (first | refine blk_drewN ?_ _ | refine blk_drew ?_ | refine blk_alloc ?_ _)); refine blk_far ?_ NB455_461.out _; (with_reducible repeat (first | refine blk_drewN ?_ _ | refine blk_drew ?_ | refine blk_alloc ?_ _)); refine blk_far ?_ NB455_461.out _; (with_reducible repeat (first | refine blk_drewN ?_ _ | refine blk_drew ?_ | refine blk_alloc ?_ _)); refine blk_far ?_ NB455_461.out _; exact bs BK455.out) hb); have n7_ := Aside0.mk (blk_below (g := gb456) (o := .cells #[.string t453, .string t454] 25 (0, 0)) (by (with_reducible repeat (first | refine blk_drewN ?_ _ | refine blk_drew ?_ | refine blk_alloc ?_ _)); refine blk_far ?_ NB456_461.out _; (with_reducible repeat (first | refine blk_drewN ?_ _ | refine blk_drew ?_ | refine blk_alloc ?_ _)); refine blk_far ?_ NB456_461.out _; (with_reducible repeat (first | refine blk_drewN ?_ _ | refine blk_drew ?_ | refine blk_alloc ?_ _)); refine blk_far ?_ NB456_461.out _; exact bs BK456.out) hb); have n8_ := Aside0.mk (blk_below (g := gb461) (o := .cells #[.string t457, .string t458, .int .i64 t459] 33 (0, 0)) (by (with_reducible repeat (first | refine blk_drewN ?_ _ | refine blk_drew ?_ | refine blk_alloc ?_ _)); refine blk_put (cs := #[.string t457, .string t458, .int .i64 0]) ?_ 2 _ rfl; (with_reducible repeat (first | refine blk_drewN ?_ _ | refine blk_drew ?_ | refine blk_alloc ?_ _)); refine blk_put (cs := #[.string t457, .string (⟨#[]⟩ : ByteArray), .int .i64 0]) ?_ 1 _ rfl; (with_reducible repeat (first | refine blk_drewN ?_ _ | refine blk_drew ?_ | refine blk_alloc ?_ _)); refine blk_put (cs := #[.string (⟨#[]⟩ : ByteArray), .string (⟨#[]⟩ : ByteArray), .int .i64 0]) ?_ 0 _ rfl; exact bs BK461.out) hb); have n9_ := Aside0.mk (below_step (by repeat (first | (with_reducible first | exact bw HB.out | refine bset ?_ | apply bA | apply bN | apply bD) | exact HB.out)) hb); replace HO431 := n0_; replace HO442 := n1_; replace HO449 := n2_; replace BK428 := n3_; replace BK435 := n4_; replace BK446 := n5_; replace BK455 := n6_; replace BK456 := n7_; replace BK461 := n8_; replace HB := n9_; clear n0_ n1_ n2_ n3_ n4_ n5_ n6_ n7_ n8_ n9_; (try clear hb); (try clear hb2); (try clear hk); (try clear hi)) | ((with_reducible refine gate_dst (N := 15) rfl ?_); (try (refine gate_guard (by rfl) ?_; dsimp only)); refine box_event ?hg (N := 15) ?hd (cs := #[.string (⟨#[]⟩ : ByteArray), .string (⟨#[]⟩ : ByteArray), .int .i64 0]) (t := 33) ?hr ?_; (case hd => rfl); (case hg => rfl); (case hr => first | (go_simp; done) | (go_simp; rfl)); intro gb466 hg w60 hbox hb; have n0_ := Aside0.mk (Kd.R_below (bR HO431.out) hb); have n1_ := Aside0.mk (Kd.R_below (bR HO442.out) hb); have n2_ := Aside0.mk (Kd.R_below (bR HO449.out) hb); have n3_ := Aside0.mk (blk_below (bs BK428.out) hb); have n4_ := Aside0.mk (blk_below (bs BK435.out) hb); have n5_ := Aside0.mk (blk_below (bs BK446.out) hb); have n6_ := Aside0.mk (blk_below (bs BK455.out) hb); have n7_ := Aside0.mk (blk_below (bs BK456.out) hb); have n8_ := Aside0.mk (blk_below (bs BK461.out) hb); have n9_ := Aside0.mk (below_step (by repeat (first | (with_reducible first | exact bw HB.out | refine bset ?_ | apply bA | apply bN | apply bD) | exact HB.out)) hb); have n10_ := Aside0.mk (hbox); have n11_ := Aside0.mk ((by rw [hg]; exact (below_size (by repeat (first | (with_reducible first | exact bw HB.out | refine bset ?_ | apply bA | apply bN | apply bD) | exact HB.out))) : w.heap.size ≤ gb466)); have n12_ := Aside0.mk ((by rw [hg]; exact (below_size (by repeat (first | (with_reducible first | exact bw HB.out | refine bset ?_ | apply bA | apply bN | apply bD) | exact HB.out))) : w.heap.size ≤ gb466)); have n13_ := ne_ hg BK428.out; have n14_ := en_ hg BK428.out; have n15_ := ne_ hg BK435.out; have n16_ := en_ hg BK435.out; have n17_ := ne_ hg BK446.out; have n18_ := en_ hg BK446.out; have n19_ := ne_ hg BK455.out; have n20_ := en_ hg BK455.out; have n21_ := ne_ hg BK456.out; have n22_ := en_ hg BK456.out; have n23_ := ne_ hg BK461.out; have n24_ := en_ hg BK461.out; replace HO431 := n0_; replace HO442 := n1_; replace HO449 := n2_; replace BK428 := n3_; replace BK435 := n4_; replace BK446 := n5_; replace BK455 := n6_; replace BK456 := n7_; replace BK461 := n8_; replace HB := n9_; have BK466 := n10_; have GW466 := n11_; have GE466 := n12_; have NB428_466 := n13_; have NB466_428 := n14_; have NB435_466 := n15_; have NB466_435 := n16_; have NB446_466 := n17_; have NB466_446 := n18_; have NB455_466 := n19_; have NB466_455 := n20_; have NB456_466 := n21_; have NB466_456 := n22_; have NB461_466 := n23_; have NB466_461 := n24_; clear n0_ n1_ n2_ n3_ n4_ n5_ n6_ n7_ n8_ n9_ n10_ n11_ n12_ n13_ n14_ n15_ n16_ n17_ n18_ n19_ n20_ n21_ n22_ n23_ n24_; clear hb hbox hg; have hnb61 := NB466_428.out; have hnc61 := NB428_466.out; have hnb62 := NB466_435.out; have hnc62 := NB435_466.out; have hnb63 := NB466_446.out; have hnc63 := NB446_466.out; have hnb64 := NB466_455.out; have hnc64 := NB455_466.out; have hnb65 := NB466_456.out; have hnc65 := NB456_466.out; have hnb66 := NB466_461.out; have hnc66 := NB461_466.out; obtain ⟨hcz67_0, hcz67_1, hcz67_2, hfz67_0, hfz67_1, hfz67_2⟩ := bz3 BK466.out))
 (try simp only [Act.put, List.setIfInBounds_toArray, List.set_cons_zero, List.set_cons_succ])
 go_cut [103] (fun v103 wc => ∃ (kq : Nat) (x103_14 : Bool), v103 = .bool x103_14 ∧ Aside0 (laws_FnLogs.j0 kq t460 x103_14 t450 t451 t452 t453 t454 t457 t458 t459 = some r) ∧ Aside0 (kq ≤ k) ∧ Aside0 (wc.heap[gb428]? = some (.cells #[.string t426, .string t427] 25 (0, 0))) ∧ Aside0 (wc.heap[gb435]? = some (.cells #[.string t433, .string t434] 25 (0, 0))) ∧ Aside0 (wc.heap[gb446]? = some (.cells #[.string t443, .string t444, .int .i64 t445] 33 (0, 0))) ∧ Aside0 (wc.heap[gb455]? = some (.cells #[.string t450, .string t451, .int .i64 t452] 33 (0, 0))) ∧ Aside0 (wc.heap[gb456]? = some (.cells #[.string t453, .string t454] 25 (0, 0))) ∧ Aside0 (wc.heap[gb461]? = some (.cells #[.string t457, .string t458, .int .i64 t459] 33 (0, 0))) ∧ Aside0 (wc.heap[gb466]? = some (.cells #[.string t462, .string t463, .int .i64 t464] 33 (0, 0))) ∧ Aside0 (Below w.heap.size w wc))
 case first =>
  have H := HC15.out
  clear HC15
  replace H := Option.bind_eq_some_iff.mp H
  obtain ⟨t467, A680, H⟩ := H
  replace H : ((spec_IsValidRecord.f k t426 t427).bind fun t468 => (if (t467 != t468) = true then (laws_FnLogs.j0 k t460 true t450 t451 t452 t453 t454 t457 t458 t459) else (if t436.toList = t438.toList then (if (t437 != t439) = true then (laws_FnLogs.j0 k t460 true t450 t451 t452 t453 t454 t457 t458 t459) else ((impl_IsValidLog.f k t443 t444 t445).bind fun t469 => ((spec_IsValidLog.f k t443 t444 t445).bind fun t470 => (if (t469 != t470) = true then (laws_FnLogs.j0 k t460 true t450 t451 t452 t453 t454 t457 t458 t459) else (if (!(t457.toList == t462.toList) || (!(t458.toList == t463.toList) || (!(t459 == t464)))) = true then (laws_FnLogs.j0 k t460 true t450 t451 t452 t453 t454 t457 t458 t459) else (laws_FnLogs.j0 k t460 (t460 != t465) t450 t451 t452 t453 t454 t457 t458 t459)))))) else (laws_FnLogs.j0 k t460 true t450 t451 t452 t453 t454 t457 t458 t459)))) = some r := H
  have A68 := Aside0.mk A680
  clear A680
  replace H := Option.bind_eq_some_iff.mp H
  obtain ⟨t468, A690, H⟩ := H
  replace H : (if (t467 != t468) = true then (laws_FnLogs.j0 k t460 true t450 t451 t452 t453 t454 t457 t458 t459) else (if t436.toList = t438.toList then (if (t437 != t439) = true then (laws_FnLogs.j0 k t460 true t450 t451 t452 t453 t454 t457 t458 t459) else ((impl_IsValidLog.f k t443 t444 t445).bind fun t469 => ((spec_IsValidLog.f k t443 t444 t445).bind fun t470 => (if (t469 != t470) = true then (laws_FnLogs.j0 k t460 true t450 t451 t452 t453 t454 t457 t458 t459) else (if (!(t457.toList == t462.toList) || (!(t458.toList == t463.toList) || (!(t459 == t464)))) = true then (laws_FnLogs.j0 k t460 true t450 t451 t452 t453 t454 t457 t458 t459) else (laws_FnLogs.j0 k t460 (t460 != t465) t450 t451 t452 t453 t454 t457 t458 t459)))))) else (laws_FnLogs.j0 k t460 true t450 t451 t452 t453 t454 t457 t458 t459))) = some r := H
  have A69 := Aside0.mk A690
  clear A690
  by_cases c70 : (t467 != t468) = true
  ·rw [if_pos c70] at H
   have c70b0 : (t467 != t468) = true := c70
   (try (have c70b1 : decide (t467 = t468) = false := by simpa using c70))
   (try (have c70b2 : (t467 == t468) = false := by simpa using c70))
   (try (have c70b3 : ¬ (t467 = t468) := by simpa using c70))
   clear c70
   (first | rw [c70b0] | (simp only [i64_w, i32_w]; rw [c70b0]) | skip)
   have H' := Aside0.mk H
   clear H
   try go_wp2
   have n0_ : Aside0 (Kd.R (Kd.int .u8) 5 (((w60.setCell ⟨gb466, 0, none⟩ (.string t462)).setCell ⟨gb466, 1, none⟩ (.string t463)).setCell ⟨gb466, 2, none⟩ (.int .i64 t464)) w.heap.size (fun k_ => some k_ ≠ (.slice Ao29 t440.length co29 : Value).ownBlock ∧ some k_ ≠ (.slice Ao36 t447.length co36 : Value).ownBlock) (.slice Ao20 t429.length co20) t429) := ⟨by (with_reducible repeat (first | apply Kd.R_alloc | apply Kd.R_drewN | apply Kd.R_drew)); exact Kd.R_mono (Kd.R_far (p := ⟨gb466, 2, none⟩) (Kd.R_far (p := ⟨gb466, 1, none⟩) (Kd.R_far (p := ⟨gb466, 0, none⟩) (Kd.R_types HO431.out BK466.out (by decide)) (fun _ hk => hk.2) (.string t462)) (fun _ hk => hk.2) (.string t463)) (fun _ hk => hk.2) (.int .i64 t464)) (fun _ hk => ⟨hk.1.1.2, hk.1.2⟩)⟩
   have n1_ : Aside0 (Kd.R (Kd.int .u8) 5 (((w60.setCell ⟨gb466, 0, none⟩ (.string t462)).setCell ⟨gb466, 1, none⟩ (.string t463)).setCell ⟨gb466, 2, none⟩ (.int .i64 t464)) w.heap.size (fun k_ => some k_ ≠ (.slice Ao20 t429.length co20 : Value).ownBlock ∧ some k_ ≠ (.slice Ao36 t447.length co36 : Value).ownBlock) (.slice Ao29 t440.length co29) t440) := ⟨by (with_reducible repeat (first | apply Kd.R_alloc | apply Kd.R_drewN | apply Kd.R_drew)); exact Kd.R_mono (Kd.R_far (p := ⟨gb466, 2, none⟩) (Kd.R_far (p := ⟨gb466, 1, none⟩) (Kd.R_far (p := ⟨gb466, 0, none⟩) (Kd.R_types HO442.out BK466.out (by decide)) (fun _ hk => hk.2) (.string t462)) (fun _ hk => hk.2) (.string t463)) (fun _ hk => hk.2) (.int .i64 t464)) (fun _ hk => ⟨hk.1.1.2, hk.1.2⟩)⟩
   have n2_ : Aside0 (Kd.R (Kd.int .u8) 5 (((w60.setCell ⟨gb466, 0, none⟩ (.string t462)).setCell ⟨gb466, 1, none⟩ (.string t463)).setCell ⟨gb466, 2, none⟩ (.int .i64 t464)) w.heap.size (fun k_ => some k_ ≠ (.slice Ao20 t429.length co20 : Value).ownBlock ∧ some k_ ≠ (.slice Ao29 t440.length co29 : Value).ownBlock) (.slice Ao36 t447.length co36) t447) := ⟨by (with_reducible repeat (first | apply Kd.R_alloc | apply Kd.R_drewN | apply Kd.R_drew)); exact Kd.R_mono (Kd.R_far (p := ⟨gb466, 2, none⟩) (Kd.R_far (p := ⟨gb466, 1, none⟩) (Kd.R_far (p := ⟨gb466, 0, none⟩) (Kd.R_types HO449.out BK466.out (by decide)) (fun _ hk => hk.2) (.string t462)) (fun _ hk => hk.2) (.string t463)) (fun _ hk => hk.2) (.int .i64 t464)) (fun _ hk => ⟨hk.1.1.2, hk.1.2⟩)⟩
   have n3_ : Aside0 ((((w60.setCell ⟨gb466, 0, none⟩ (.string t462)).setCell ⟨gb466, 1, none⟩ (.string t463)).setCell ⟨gb466, 2, none⟩ (.int .i64 t464)).heap[gb428]? = some (.cells #[.string t426, .string t427] 25 (0, 0))) := ⟨by (with_reducible repeat (first | refine blk_drewN ?_ _ | refine blk_drew ?_ | refine blk_alloc ?_ _)); refine blk_far ?_ NB428_466.out _; (with_reducible repeat (first | refine blk_drewN ?_ _ | refine blk_drew ?_ | refine blk_alloc ?_ _)); refine blk_far ?_ NB428_466.out _; (with_reducible repeat (first | refine blk_drewN ?_ _ | refine blk_drew ?_ | refine blk_alloc ?_ _)); refine blk_far ?_ NB428_466.out _; exact bs BK428.out⟩
   have n4_ : Aside0 ((((w60.setCell ⟨gb466, 0, none⟩ (.string t462)).setCell ⟨gb466, 1, none⟩ (.string t463)).setCell ⟨gb466, 2, none⟩ (.int .i64 t464)).heap[gb435]? = some (.cells #[.string t433, .string t434] 25 (0, 0))) := ⟨by (with_reducible repeat (first | refine blk_drewN ?_ _ | refine blk_drew ?_ | refine blk_alloc ?_ _)); refine blk_far ?_ NB435_466.out _; (with_reducible repeat (first | refine blk_drewN ?_ _ | refine blk_drew ?_ | refine blk_alloc ?_ _)); refine blk_far ?_ NB435_466.out _; (with_reducible repeat (first | refine blk_drewN ?_ _ | refine blk_drew ?_ | refine blk_alloc ?_ _)); refine blk_far ?_ NB435_466.out _; exact bs BK435.out⟩
   have n5_ : Aside0 ((((w60.setCell ⟨gb466, 0, none⟩ (.string t462)).setCell ⟨gb466, 1, none⟩ (.string t463)).setCell ⟨gb466, 2, none⟩ (.int .i64 t464)).heap[gb446]? = some (.cells #[.string t443, .string t444, .int .i64 t445] 33 (0, 0))) := ⟨by (with_reducible repeat (first | refine blk_drewN ?_ _ | refine blk_drew ?_ | refine blk_alloc ?_ _)); refine blk_far ?_ NB446_466.out _; (with_reducible repeat (first | refine blk_drewN ?_ _ | refine blk_drew ?_ | refine blk_alloc ?_ _)); refine blk_far ?_ NB446_466.out _; (with_reducible repeat (first | refine blk_drewN ?_ _ | refine blk_drew ?_ | refine blk_alloc ?_ _)); refine blk_far ?_ NB446_466.out _; exact bs BK446.out⟩
   have n6_ : Aside0 ((((w60.setCell ⟨gb466, 0, none⟩ (.string t462)).setCell ⟨gb466, 1, none⟩ (.string t463)).setCell ⟨gb466, 2, none⟩ (.int .i64 t464)).heap[gb455]? = some (.cells #[.string t450, .string t451, .int .i64 t452] 33 (0, 0))) := ⟨by (with_reducible repeat (first | refine blk_drewN ?_ _ | refine blk_drew ?_ | refine blk_alloc ?_ _)); refine blk_far ?_ NB455_466.out _; (with_reducible repeat (first | refine blk_drewN ?_ _ | refine blk_drew ?_ | refine blk_alloc ?_ _)); refine blk_far ?_ NB455_466.out _; (with_reducible repeat (first | refine blk_drewN ?_ _ | refine blk_drew ?_ | refine blk_alloc ?_ _)); refine blk_far ?_ NB455_466.out _; exact bs BK455.out⟩
   have n7_ : Aside0 ((((w60.setCell ⟨gb466, 0, none⟩ (.string t462)).setCell ⟨gb466, 1, none⟩ (.string t463)).setCell ⟨gb466, 2, none⟩ (.int .i64 t464)).heap[gb456]? = some (.cells #[.string t453, .string t454] 25 (0, 0))) := ⟨by (with_reducible repeat (first | refine blk_drewN ?_ _ | refine blk_drew ?_ | refine blk_alloc ?_ _)); refine blk_far ?_ NB456_466.out _; (with_reducible repeat (first | refine blk_drewN ?_ _ | refine blk_drew ?_ | refine blk_alloc ?_ _)); refine blk_far ?_ NB456_466.out _; (with_reducible repeat (first | refine blk_drewN ?_ _ | refine blk_drew ?_ | refine blk_alloc ?_ _)); refine blk_far ?_ NB456_466.out _; exact bs BK456.out⟩
   have n8_ : Aside0 ((((w60.setCell ⟨gb466, 0, none⟩ (.string t462)).setCell ⟨gb466, 1, none⟩ (.string t463)).setCell ⟨gb466, 2, none⟩ (.int .i64 t464)).heap[gb461]? = some (.cells #[.string t457, .string t458, .int .i64 t459] 33 (0, 0))) := ⟨by (with_reducible repeat (first | refine blk_drewN ?_ _ | refine blk_drew ?_ | refine blk_alloc ?_ _)); refine blk_far ?_ NB461_466.out _; (with_reducible repeat (first | refine blk_drewN ?_ _ | refine blk_drew ?_ | refine blk_alloc ?_ _)); refine blk_far ?_ NB461_466.out _; (with_reducible repeat (first | refine blk_drewN ?_ _ | refine blk_drew ?_ | refine blk_alloc ?_ _)); refine blk_far ?_ NB461_466.out _; exact bs BK461.out⟩
   have n9_ : Aside0 ((((w60.setCell ⟨gb466, 0, none⟩ (.string t462)).setCell ⟨gb466, 1, none⟩ (.string t463)).setCell ⟨gb466, 2, none⟩ (.int .i64 t464)).heap[gb466]? = some (.cells #[.string t462, .string t463, .int .i64 t464] 33 (0, 0))) := ⟨by (with_reducible repeat (first | refine blk_drewN ?_ _ | refine blk_drew ?_ | refine blk_alloc ?_ _)); refine blk_put (cs := #[.string t462, .string t463, .int .i64 0]) ?_ 2 _ rfl; (with_reducible repeat (first | refine blk_drewN ?_ _ | refine blk_drew ?_ | refine blk_alloc ?_ _)); refine blk_put (cs := #[.string t462, .string (⟨#[]⟩ : ByteArray), .int .i64 0]) ?_ 1 _ rfl; (with_reducible repeat (first | refine blk_drewN ?_ _ | refine blk_drew ?_ | refine blk_alloc ?_ _)); refine blk_put (cs := #[.string (⟨#[]⟩ : ByteArray), .string (⟨#[]⟩ : ByteArray), .int .i64 0]) ?_ 0 _ rfl; exact bs BK466.out⟩
   have n10_ : Aside0 (Below w.heap.size w (((w60.setCell ⟨gb466, 0, none⟩ (.string t462)).setCell ⟨gb466, 1, none⟩ (.string t463)).setCell ⟨gb466, 2, none⟩ (.int .i64 t464))) := ⟨by repeat (first | (with_reducible first | exact bw HB.out | refine bset ?_ | apply bA | apply bN | apply bD) | exact HB.out)⟩
   (try clear HO431)
   (try clear HO442)
   (try clear HO449)
   (try clear BK428)
   (try clear BK435)
   (try clear BK446)
   (try clear BK455)
   (try clear BK456)
   (try clear BK461)
   (try clear BK466)
   (try clear HB)
   (try simp only [setCell_drewN])
   generalize (((w60.setCell ⟨gb466, 0, none⟩ (.string t462)).setCell ⟨gb466, 1, none⟩ (.string t463)).setCell ⟨gb466, 2, none⟩ (.int .i64 t464)) = w71 at n0_ n1_ n2_ n3_ n4_ n5_ n6_ n7_ n8_ n9_ n10_ ⊢
   have HO431 := n0_
   have HO442 := n1_
   have HO449 := n2_
   have BK428 := n3_
   have BK435 := n4_
   have BK446 := n5_
   have BK455 := n6_
   have BK456 := n7_
   have BK461 := n8_
   have BK466 := n9_
   have HB := n10_
   clear n0_ n1_ n2_ n3_ n4_ n5_ n6_ n7_ n8_ n9_ n10_
   have n0_ := Aside0.mk (Kd.R_drew HO431.out)
   have n1_ := Aside0.mk (Kd.R_drew HO442.out)
   have n2_ := Aside0.mk (Kd.R_drew HO449.out)
   have n3_ := Aside0.mk (blk_drew BK428.out)
   have n4_ := Aside0.mk (blk_drew BK435.out)
   have n5_ := Aside0.mk (blk_drew BK446.out)
   have n6_ := Aside0.mk (blk_drew BK455.out)
   have n7_ := Aside0.mk (blk_drew BK456.out)
   have n8_ := Aside0.mk (blk_drew BK461.out)
   have n9_ := Aside0.mk (blk_drew BK466.out)
   have n10_ := Aside0.mk (below_drew1 HB.out)
   replace HO431 := n0_
   replace HO442 := n1_
   replace HO449 := n2_
   replace BK428 := n3_
   replace BK435 := n4_
   replace BK446 := n5_
   replace BK455 := n6_
   replace BK456 := n7_
   replace BK461 := n8_
   replace BK466 := n9_
   replace HB := n10_
   clear n0_ n1_ n2_ n3_ n4_ n5_ n6_ n7_ n8_ n9_ n10_
   refine start_ (n := 32) (S := fun w' => w'.cell? ⟨gb428, 0, none⟩ = some (.string t426) ∧ w'.cell? ⟨gb428, 1, none⟩ = some (.string t427)) (ds := []) q3_0 (by kernel_rfl) rfl rfl ⟨(blk_cell BK428.out 0).trans rfl, (blk_cell BK428.out 1).trans rfl⟩ (fun hHeld => ?_); refine with_tabW laws_FnLogs.tab11 laws_FnLogs.bits11 (fun HT_ HW_ => ?_)
   generalize w71.drew = w72 at HO431 HO442 HO449 BK428 BK435 BK446 BK455 BK456 BK461 BK466 HB hHeld ⊢
   refine take_ (i := 0) (N := some 72) (v := ?_) (a' := ?_) q3_1 rfl rfl (take_ofW HT_.out HW_.out (by kernel_rfl)) (fun _ _ _ h => h) (Or.inl ⟨by rfl, ?_⟩) hHeld ?_ ?_
   rotate_left
   ·rintro w' ⟨s0, s1⟩
    go_simp
    with_reducible rfl
   rotate_left
   ·simp only [aq_]
    rfl
   refine take_ (i := 2) (N := some 74) (v := ?_) (a' := ?_) q3_2 rfl rfl (take_ofW HT_.out HW_.out (by kernel_rfl)) (fun _ _ _ h => h) (Or.inl ⟨by rfl, ?_⟩) hHeld ?_ ?_
   rotate_left
   ·rintro w' ⟨s0, s1⟩
    go_simp
    with_reducible rfl
   rotate_left
   ·simp only [aq_]
    rfl
   refine one_ (i := 1) (N := some 73) q3_3 rfl rfl (one_of HT_.out (by kernel_rfl)) (by decide) (fun K hK => ?_)
   refine goes_ Try.func15 (by kernel_rfl) rfl #[.agg #[.string t426, .string t427]] (by rfl) rfl rfl (by (try simp only [mA_]); first | done | rfl | (simp only [List.length_drop, List.length_take]; rfl)) ?_
   with_reducible refine (impl_IsValidRecord.calls k t426 t427 t467 _ A68.out).mono ?_
   rintro e w73 ⟨rfl, hb⟩
   refine ⟨_, rfl, ?_⟩
   have n0_ := Aside0.mk (Kd.R_below (bR HO431.out) hb)
   have n1_ := Aside0.mk (Kd.R_below (bR HO442.out) hb)
   have n2_ := Aside0.mk (Kd.R_below (bR HO449.out) hb)
   have n3_ := Aside0.mk (blk_below (bs BK428.out) hb)
   have n4_ := Aside0.mk (blk_below (bs BK435.out) hb)
   have n5_ := Aside0.mk (blk_below (bs BK446.out) hb)
   have n6_ := Aside0.mk (blk_below (bs BK455.out) hb)
   have n7_ := Aside0.mk (blk_below (bs BK456.out) hb)
   have n8_ := Aside0.mk (blk_below (bs BK461.out) hb)
   have n9_ := Aside0.mk (blk_below (bs BK466.out) hb)
   have n10_ := Aside0.mk (below_step (by repeat (first | (with_reducible first | exact bw HB.out | refine bset ?_ | apply bA | apply bN | apply bD) | exact HB.out)) hb)
   replace HO431 := n0_
   replace HO442 := n1_
   replace HO449 := n2_
   replace BK428 := n3_
   replace BK435 := n4_
   replace BK446 := n5_
   replace BK455 := n6_
   replace BK456 := n7_
   replace BK461 := n8_
   replace BK466 := n9_
   replace HB := n10_
   clear n0_ n1_ n2_ n3_ n4_ n5_ n6_ n7_ n8_ n9_ n10_
   (try clear hb)
   (try clear hb2)
   (try clear hk)
   (try clear hi)
   refine hK.out _ _ ⟨(blk_cell BK428.out 0).trans rfl, (blk_cell BK428.out 1).trans rfl⟩ (fun hHeld => ?_)
   clear hK K
   refine norm_ (a' := ?_) ?_ ?_
   rotate_left
   ·show Act.put _ (some 73) _ = _
    simp only [aq_]
    rfl
   refine one_ (i := 3) (N := some 75) q3_4 rfl rfl (one_of HT_.out (by kernel_rfl)) (by decide) (fun K hK => ?_)
   refine goes_ Try.func16 (by kernel_rfl) rfl #[.agg #[.string t426, .string t427]] (by rfl) rfl rfl (by (try simp only [mA_]); first | done | rfl | (simp only [List.length_drop, List.length_take]; rfl)) ?_
   with_reducible refine (spec_IsValidRecord.calls k t426 t427 t468 _ A69.out).mono ?_
   rintro e w74 ⟨rfl, hb⟩
   refine ⟨_, rfl, ?_⟩
   have n0_ := Aside0.mk (Kd.R_below (bR HO431.out) hb)
   have n1_ := Aside0.mk (Kd.R_below (bR HO442.out) hb)
   have n2_ := Aside0.mk (Kd.R_below (bR HO449.out) hb)
   have n3_ := Aside0.mk (blk_below (bs BK428.out) hb)
   have n4_ := Aside0.mk (blk_below (bs BK435.out) hb)
   have n5_ := Aside0.mk (blk_below (bs BK446.out) hb)
   have n6_ := Aside0.mk (blk_below (bs BK455.out) hb)
   have n7_ := Aside0.mk (blk_below (bs BK456.out) hb)
   have n8_ := Aside0.mk (blk_below (bs BK461.out) hb)
   have n9_ := Aside0.mk (blk_below (bs BK466.out) hb)
   have n10_ := Aside0.mk (below_step (by repeat (first | (with_reducible first | exact bw HB.out | refine bset ?_ | apply bA | apply bN | apply bD) | exact HB.out)) hb)
   replace HO431 := n0_
   replace HO442 := n1_
   replace HO449 := n2_
   replace BK428 := n3_
   replace BK435 := n4_
   replace BK446 := n5_
   replace BK455 := n6_
   replace BK456 := n7_
   replace BK461 := n8_
   replace BK466 := n9_
   replace HB := n10_
   clear n0_ n1_ n2_ n3_ n4_ n5_ n6_ n7_ n8_ n9_ n10_
   (try clear hb)
   (try clear hb2)
   (try clear hk)
   (try clear hi)
   refine hK.out _ _ ⟨(blk_cell BK428.out 0).trans rfl, (blk_cell BK428.out 1).trans rfl⟩ (fun hHeld => ?_)
   clear hK K
   refine norm_ (a' := ?_) ?_ ?_
   rotate_left
   ·show Act.put _ (some 75) _ = _
    simp only [aq_]
    rfl
   refine pw_ HT_ 4 (some 76) ?_
   refine pw_ HT_ 5 (some 77) ?_
   refine sw_ HT_ 6 (some 78) ?_
   refine sw_ HT_ 7 (some 79) ?_
   refine sw_ HT_ 8 (some 80) ?_
   refine pw_ HT_ 9 (some 81) ?_
   refine pw_ HT_ 10 (some 82) ?_
   refine sw_ HT_ 11 (some 83) ?_
   refine sw_ HT_ 12 (some 84) ?_
   refine sw_ HT_ 13 (some 85) ?_
   refine pw_ HT_ 14 (some 86) ?_
   refine pw_ HT_ 15 (some 87) ?_
   refine sw_ HT_ 16 (some 88) ?_
   refine sw_ HT_ 17 (some 89) ?_
   refine sw_ HT_ 18 (some 90) ?_
   refine sw_ HT_ 19 (some 91) ?_
   refine sw_ HT_ 20 (some 92) ?_
   refine pw_ HT_ 21 (some 93) ?_
   refine pw_ HT_ 22 (some 94) ?_
   refine sw_ HT_ 23 (some 95) ?_
   refine sw_ HT_ 24 (some 96) ?_
   refine sw_ HT_ 25 (some 97) ?_
   refine pw_ HT_ 26 (some 98) ?_
   refine pw_ HT_ 27 (some 99) ?_
   refine sw_ HT_ 28 (some 100) ?_
   refine sw_ HT_ 29 (some 101) ?_
   refine sw_ HT_ 30 (some 102) ?_
   refine pw_ HT_ 31 (some 103) ?_
   refine done_ (done_of HT_.out (by kernel_rfl)) ?_
   try go_wp2
   go_meet
   case rel => exact ⟨_, (true), (by first | rfl | (simp; done) | (simp [*]; done)), H', ⟨by first | omega | exact Nat.le_refl _⟩, ⟨bs BK428.out⟩, ⟨bs BK435.out⟩, ⟨bs BK446.out⟩, ⟨bs BK455.out⟩, ⟨bs BK456.out⟩, ⟨bs BK461.out⟩, ⟨bs BK466.out⟩, ⟨by repeat (first | (with_reducible first | exact bw HB.out | refine bset ?_ | apply bA | apply bN | apply bD) | exact HB.out)⟩⟩
  rw [if_neg c70] at H
  have c70b0 : (t467 != t468) = false := by simpa using c70
  (try (have c70b1 : decide (t467 = t468) = true := by simpa using c70))
  (try (have c70b2 : (t467 == t468) = true := by simpa using c70))
  clear c70
  (first | rw [c70b0] | (simp only [i64_w, i32_w]; rw [c70b0]) | skip)
  by_cases c75 : t436.toList = t438.toList
  rotate_left
  ·rw [if_neg c75] at H
   have c75b0 : (t436.toList == t438.toList) = false := beq_eq_false_iff_ne.mpr c75
   have c75b1 : (t436.toList != t438.toList) = true := bne_iff_ne.mpr c75
   have H' := Aside0.mk H
   clear H
   try go_wp2
   have n0_ : Aside0 (Kd.R (Kd.int .u8) 5 (((w60.setCell ⟨gb466, 0, none⟩ (.string t462)).setCell ⟨gb466, 1, none⟩ (.string t463)).setCell ⟨gb466, 2, none⟩ (.int .i64 t464)) w.heap.size (fun k_ => some k_ ≠ (.slice Ao29 t440.length co29 : Value).ownBlock ∧ some k_ ≠ (.slice Ao36 t447.length co36 : Value).ownBlock) (.slice Ao20 t429.length co20) t429) := ⟨by (with_reducible repeat (first | apply Kd.R_alloc | apply Kd.R_drewN | apply Kd.R_drew)); exact Kd.R_mono (Kd.R_far (p := ⟨gb466, 2, none⟩) (Kd.R_far (p := ⟨gb466, 1, none⟩) (Kd.R_far (p := ⟨gb466, 0, none⟩) (Kd.R_types HO431.out BK466.out (by decide)) (fun _ hk => hk.2) (.string t462)) (fun _ hk => hk.2) (.string t463)) (fun _ hk => hk.2) (.int .i64 t464)) (fun _ hk => ⟨hk.1.1.2, hk.1.2⟩)⟩
   have n1_ : Aside0 (Kd.R (Kd.int .u8) 5 (((w60.setCell ⟨gb466, 0, none⟩ (.string t462)).setCell ⟨gb466, 1, none⟩ (.string t463)).setCell ⟨gb466, 2, none⟩ (.int .i64 t464)) w.heap.size (fun k_ => some k_ ≠ (.slice Ao20 t429.length co20 : Value).ownBlock ∧ some k_ ≠ (.slice Ao36 t447.length co36 : Value).ownBlock) (.slice Ao29 t440.length co29) t440) := ⟨by (with_reducible repeat (first | apply Kd.R_alloc | apply Kd.R_drewN | apply Kd.R_drew)); exact Kd.R_mono (Kd.R_far (p := ⟨gb466, 2, none⟩) (Kd.R_far (p := ⟨gb466, 1, none⟩) (Kd.R_far (p := ⟨gb466, 0, none⟩) (Kd.R_types HO442.out BK466.out (by decide)) (fun _ hk => hk.2) (.string t462)) (fun _ hk => hk.2) (.string t463)) (fun _ hk => hk.2) (.int .i64 t464)) (fun _ hk => ⟨hk.1.1.2, hk.1.2⟩)⟩
   have n2_ : Aside0 (Kd.R (Kd.int .u8) 5 (((w60.setCell ⟨gb466, 0, none⟩ (.string t462)).setCell ⟨gb466, 1, none⟩ (.string t463)).setCell ⟨gb466, 2, none⟩ (.int .i64 t464)) w.heap.size (fun k_ => some k_ ≠ (.slice Ao20 t429.length co20 : Value).ownBlock ∧ some k_ ≠ (.slice Ao29 t440.length co29 : Value).ownBlock) (.slice Ao36 t447.length co36) t447) := ⟨by (with_reducible repeat (first | apply Kd.R_alloc | apply Kd.R_drewN | apply Kd.R_drew)); exact Kd.R_mono (Kd.R_far (p := ⟨gb466, 2, none⟩) (Kd.R_far (p := ⟨gb466, 1, none⟩) (Kd.R_far (p := ⟨gb466, 0, none⟩) (Kd.R_types HO449.out BK466.out (by decide)) (fun _ hk => hk.2) (.string t462)) (fun _ hk => hk.2) (.string t463)) (fun _ hk => hk.2) (.int .i64 t464)) (fun _ hk => ⟨hk.1.1.2, hk.1.2⟩)⟩
   have n3_ : Aside0 ((((w60.setCell ⟨gb466, 0, none⟩ (.string t462)).setCell ⟨gb466, 1, none⟩ (.string t463)).setCell ⟨gb466, 2, none⟩ (.int .i64 t464)).heap[gb428]? = some (.cells #[.string t426, .string t427] 25 (0, 0))) := ⟨by (with_reducible repeat (first | refine blk_drewN ?_ _ | refine blk_drew ?_ | refine blk_alloc ?_ _)); refine blk_far ?_ NB428_466.out _; (with_reducible repeat (first | refine blk_drewN ?_ _ | refine blk_drew ?_ | refine blk_alloc ?_ _)); refine blk_far ?_ NB428_466.out _; (with_reducible repeat (first | refine blk_drewN ?_ _ | refine blk_drew ?_ | refine blk_alloc ?_ _)); refine blk_far ?_ NB428_466.out _; exact bs BK428.out⟩
   have n4_ : Aside0 ((((w60.setCell ⟨gb466, 0, none⟩ (.string t462)).setCell ⟨gb466, 1, none⟩ (.string t463)).setCell ⟨gb466, 2, none⟩ (.int .i64 t464)).heap[gb435]? = some (.cells #[.string t433, .string t434] 25 (0, 0))) := ⟨by (with_reducible repeat (first | refine blk_drewN ?_ _ | refine blk_drew ?_ | refine blk_alloc ?_ _)); refine blk_far ?_ NB435_466.out _; (with_reducible repeat (first | refine blk_drewN ?_ _ | refine blk_drew ?_ | refine blk_alloc ?_ _)); refine blk_far ?_ NB435_466.out _; (with_reducible repeat (first | refine blk_drewN ?_ _ | refine blk_drew ?_ | refine blk_alloc ?_ _)); refine blk_far ?_ NB435_466.out _; exact bs BK435.out⟩
   have n5_ : Aside0 ((((w60.setCell ⟨gb466, 0, none⟩ (.string t462)).setCell ⟨gb466, 1, none⟩ (.string t463)).setCell ⟨gb466, 2, none⟩ (.int .i64 t464)).heap[gb446]? = some (.cells #[.string t443, .string t444, .int .i64 t445] 33 (0, 0))) := ⟨by (with_reducible repeat (first | refine blk_drewN ?_ _ | refine blk_drew ?_ | refine blk_alloc ?_ _)); refine blk_far ?_ NB446_466.out _; (with_reducible repeat (first | refine blk_drewN ?_ _ | refine blk_drew ?_ | refine blk_alloc ?_ _)); refine blk_far ?_ NB446_466.out _; (with_reducible repeat (first | refine blk_drewN ?_ _ | refine blk_drew ?_ | refine blk_alloc ?_ _)); refine blk_far ?_ NB446_466.out _; exact bs BK446.out⟩
   have n6_ : Aside0 ((((w60.setCell ⟨gb466, 0, none⟩ (.string t462)).setCell ⟨gb466, 1, none⟩ (.string t463)).setCell ⟨gb466, 2, none⟩ (.int .i64 t464)).heap[gb455]? = some (.cells #[.string t450, .string t451, .int .i64 t452] 33 (0, 0))) := ⟨by (with_reducible repeat (first | refine blk_drewN ?_ _ | refine blk_drew ?_ | refine blk_alloc ?_ _)); refine blk_far ?_ NB455_466.out _; (with_reducible repeat (first | refine blk_drewN ?_ _ | refine blk_drew ?_ | refine blk_alloc ?_ _)); refine blk_far ?_ NB455_466.out _; (with_reducible repeat (first | refine blk_drewN ?_ _ | refine blk_drew ?_ | refine blk_alloc ?_ _)); refine blk_far ?_ NB455_466.out _; exact bs BK455.out⟩
   have n7_ : Aside0 ((((w60.setCell ⟨gb466, 0, none⟩ (.string t462)).setCell ⟨gb466, 1, none⟩ (.string t463)).setCell ⟨gb466, 2, none⟩ (.int .i64 t464)).heap[gb456]? = some (.cells #[.string t453, .string t454] 25 (0, 0))) := ⟨by (with_reducible repeat (first | refine blk_drewN ?_ _ | refine blk_drew ?_ | refine blk_alloc ?_ _)); refine blk_far ?_ NB456_466.out _; (with_reducible repeat (first | refine blk_drewN ?_ _ | refine blk_drew ?_ | refine blk_alloc ?_ _)); refine blk_far ?_ NB456_466.out _; (with_reducible repeat (first | refine blk_drewN ?_ _ | refine blk_drew ?_ | refine blk_alloc ?_ _)); refine blk_far ?_ NB456_466.out _; exact bs BK456.out⟩
   have n8_ : Aside0 ((((w60.setCell ⟨gb466, 0, none⟩ (.string t462)).setCell ⟨gb466, 1, none⟩ (.string t463)).setCell ⟨gb466, 2, none⟩ (.int .i64 t464)).heap[gb461]? = some (.cells #[.string t457, .string t458, .int .i64 t459] 33 (0, 0))) := ⟨by (with_reducible repeat (first | refine blk_drewN ?_ _ | refine blk_drew ?_ | refine blk_alloc ?_ _)); refine blk_far ?_ NB461_466.out _; (with_reducible repeat (first | refine blk_drewN ?_ _ | refine blk_drew ?_ | refine blk_alloc ?_ _)); refine blk_far ?_ NB461_466.out _; (with_reducible repeat (first | refine blk_drewN ?_ _ | refine blk_drew ?_ | refine blk_alloc ?_ _)); refine blk_far ?_ NB461_466.out _; exact bs BK461.out⟩
   have n9_ : Aside0 ((((w60.setCell ⟨gb466, 0, none⟩ (.string t462)).setCell ⟨gb466, 1, none⟩ (.string t463)).setCell ⟨gb466, 2, none⟩ (.int .i64 t464)).heap[gb466]? = some (.cells #[.string t462, .string t463, .int .i64 t464] 33 (0, 0))) := ⟨by (with_reducible repeat (first | refine blk_drewN ?_ _ | refine blk_drew ?_ | refine blk_alloc ?_ _)); refine blk_put (cs := #[.string t462, .string t463, .int .i64 0]) ?_ 2 _ rfl; (with_reducible repeat (first | refine blk_drewN ?_ _ | refine blk_drew ?_ | refine blk_alloc ?_ _)); refine blk_put (cs := #[.string t462, .string (⟨#[]⟩ : ByteArray), .int .i64 0]) ?_ 1 _ rfl; (with_reducible repeat (first | refine blk_drewN ?_ _ | refine blk_drew ?_ | refine blk_alloc ?_ _)); refine blk_put (cs := #[.string (⟨#[]⟩ : ByteArray), .string (⟨#[]⟩ : ByteArray), .int .i64 0]) ?_ 0 _ rfl; exact bs BK466.out⟩
   have n10_ : Aside0 (Below w.heap.size w (((w60.setCell ⟨gb466, 0, none⟩ (.string t462)).setCell ⟨gb466, 1, none⟩ (.string t463)).setCell ⟨gb466, 2, none⟩ (.int .i64 t464))) := ⟨by repeat (first | (with_reducible first | exact bw HB.out | refine bset ?_ | apply bA | apply bN | apply bD) | exact HB.out)⟩
   (try clear HO431)
   (try clear HO442)
   (try clear HO449)
   (try clear BK428)
   (try clear BK435)
   (try clear BK446)
   (try clear BK455)
   (try clear BK456)
   (try clear BK461)
   (try clear BK466)
   (try clear HB)
   (try simp only [setCell_drewN])
   generalize (((w60.setCell ⟨gb466, 0, none⟩ (.string t462)).setCell ⟨gb466, 1, none⟩ (.string t463)).setCell ⟨gb466, 2, none⟩ (.int .i64 t464)) = w103 at n0_ n1_ n2_ n3_ n4_ n5_ n6_ n7_ n8_ n9_ n10_ ⊢
   have HO431 := n0_
   have HO442 := n1_
   have HO449 := n2_
   have BK428 := n3_
   have BK435 := n4_
   have BK446 := n5_
   have BK455 := n6_
   have BK456 := n7_
   have BK461 := n8_
   have BK466 := n9_
   have HB := n10_
   clear n0_ n1_ n2_ n3_ n4_ n5_ n6_ n7_ n8_ n9_ n10_
   have n0_ := Aside0.mk (Kd.R_drew HO431.out)
   have n1_ := Aside0.mk (Kd.R_drew HO442.out)
   have n2_ := Aside0.mk (Kd.R_drew HO449.out)
   have n3_ := Aside0.mk (blk_drew BK428.out)
   have n4_ := Aside0.mk (blk_drew BK435.out)
   have n5_ := Aside0.mk (blk_drew BK446.out)
   have n6_ := Aside0.mk (blk_drew BK455.out)
   have n7_ := Aside0.mk (blk_drew BK456.out)
   have n8_ := Aside0.mk (blk_drew BK461.out)
   have n9_ := Aside0.mk (blk_drew BK466.out)
   have n10_ := Aside0.mk (below_drew1 HB.out)
   replace HO431 := n0_
   replace HO442 := n1_
   replace HO449 := n2_
   replace BK428 := n3_
   replace BK435 := n4_
   replace BK446 := n5_
   replace BK455 := n6_
   replace BK456 := n7_
   replace BK461 := n8_
   replace BK466 := n9_
   replace HB := n10_
   clear n0_ n1_ n2_ n3_ n4_ n5_ n6_ n7_ n8_ n9_ n10_
   refine start_ (n := 32) (S := fun w' => w'.cell? ⟨gb428, 0, none⟩ = some (.string t426) ∧ w'.cell? ⟨gb428, 1, none⟩ = some (.string t427)) (ds := []) q3_0 (by kernel_rfl) rfl rfl ⟨(blk_cell BK428.out 0).trans rfl, (blk_cell BK428.out 1).trans rfl⟩ (fun hHeld => ?_); refine with_tabW laws_FnLogs.tab11 laws_FnLogs.bits11 (fun HT_ HW_ => ?_)
   generalize w103.drew = w104 at HO431 HO442 HO449 BK428 BK435 BK446 BK455 BK456 BK461 BK466 HB hHeld ⊢
   refine take_ (i := 0) (N := some 72) (v := ?_) (a' := ?_) q3_1 rfl rfl (take_ofW HT_.out HW_.out (by kernel_rfl)) (fun _ _ _ h => h) (Or.inl ⟨by rfl, ?_⟩) hHeld ?_ ?_
   rotate_left
   ·rintro w' ⟨s0, s1⟩
    go_simp
    with_reducible rfl
   rotate_left
   ·simp only [aq_]
    rfl
   refine take_ (i := 2) (N := some 74) (v := ?_) (a' := ?_) q3_2 rfl rfl (take_ofW HT_.out HW_.out (by kernel_rfl)) (fun _ _ _ h => h) (Or.inl ⟨by rfl, ?_⟩) hHeld ?_ ?_
   rotate_left
   ·rintro w' ⟨s0, s1⟩
    go_simp
    with_reducible rfl
   rotate_left
   ·simp only [aq_]
    rfl
   refine one_ (i := 1) (N := some 73) q3_3 rfl rfl (one_of HT_.out (by kernel_rfl)) (by decide) (fun K hK => ?_)
   refine goes_ Try.func15 (by kernel_rfl) rfl #[.agg #[.string t426, .string t427]] (by rfl) rfl rfl (by (try simp only [mA_]); first | done | rfl | (simp only [List.length_drop, List.length_take]; rfl)) ?_
   with_reducible refine (impl_IsValidRecord.calls k t426 t427 t467 _ A68.out).mono ?_
   rintro e w105 ⟨rfl, hb⟩
   refine ⟨_, rfl, ?_⟩
   have n0_ := Aside0.mk (Kd.R_below (bR HO431.out) hb)
   have n1_ := Aside0.mk (Kd.R_below (bR HO442.out) hb)
   have n2_ := Aside0.mk (Kd.R_below (bR HO449.out) hb)
   have n3_ := Aside0.mk (blk_below (bs BK428.out) hb)
   have n4_ := Aside0.mk (blk_below (bs BK435.out) hb)
   have n5_ := Aside0.mk (blk_below (bs BK446.out) hb)
   have n6_ := Aside0.mk (blk_below (bs BK455.out) hb)
   have n7_ := Aside0.mk (blk_below (bs BK456.out) hb)
   have n8_ := Aside0.mk (blk_below (bs BK461.out) hb)
   have n9_ := Aside0.mk (blk_below (bs BK466.out) hb)
   have n10_ := Aside0.mk (below_step (by repeat (first | (with_reducible first | exact bw HB.out | refine bset ?_ | apply bA | apply bN | apply bD) | exact HB.out)) hb)
   replace HO431 := n0_
   replace HO442 := n1_
   replace HO449 := n2_
   replace BK428 := n3_
   replace BK435 := n4_
   replace BK446 := n5_
   replace BK455 := n6_
   replace BK456 := n7_
   replace BK461 := n8_
   replace BK466 := n9_
   replace HB := n10_
   clear n0_ n1_ n2_ n3_ n4_ n5_ n6_ n7_ n8_ n9_ n10_
   (try clear hb)
   (try clear hb2)
   (try clear hk)
   (try clear hi)
   refine hK.out _ _ ⟨(blk_cell BK428.out 0).trans rfl, (blk_cell BK428.out 1).trans rfl⟩ (fun hHeld => ?_)
   clear hK K
   refine norm_ (a' := ?_) ?_ ?_
   rotate_left
   ·show Act.put _ (some 73) _ = _
    simp only [aq_]
    rfl
   refine one_ (i := 3) (N := some 75) q3_4 rfl rfl (one_of HT_.out (by kernel_rfl)) (by decide) (fun K hK => ?_)
   refine goes_ Try.func16 (by kernel_rfl) rfl #[.agg #[.string t426, .string t427]] (by rfl) rfl rfl (by (try simp only [mA_]); first | done | rfl | (simp only [List.length_drop, List.length_take]; rfl)) ?_
   with_reducible refine (spec_IsValidRecord.calls k t426 t427 t468 _ A69.out).mono ?_
   rintro e w106 ⟨rfl, hb⟩
   refine ⟨_, rfl, ?_⟩
   have n0_ := Aside0.mk (Kd.R_below (bR HO431.out) hb)
   have n1_ := Aside0.mk (Kd.R_below (bR HO442.out) hb)
   have n2_ := Aside0.mk (Kd.R_below (bR HO449.out) hb)
   have n3_ := Aside0.mk (blk_below (bs BK428.out) hb)
   have n4_ := Aside0.mk (blk_below (bs BK435.out) hb)
   have n5_ := Aside0.mk (blk_below (bs BK446.out) hb)
   have n6_ := Aside0.mk (blk_below (bs BK455.out) hb)
   have n7_ := Aside0.mk (blk_below (bs BK456.out) hb)
   have n8_ := Aside0.mk (blk_below (bs BK461.out) hb)
   have n9_ := Aside0.mk (blk_below (bs BK466.out) hb)
   have n10_ := Aside0.mk (below_step (by repeat (first | (with_reducible first | exact bw HB.out | refine bset ?_ | apply bA | apply bN | apply bD) | exact HB.out)) hb)
   replace HO431 := n0_
   replace HO442 := n1_
   replace HO449 := n2_
   replace BK428 := n3_
   replace BK435 := n4_
   replace BK446 := n5_
   replace BK455 := n6_
   replace BK456 := n7_
   replace BK461 := n8_
   replace BK466 := n9_
   replace HB := n10_
   clear n0_ n1_ n2_ n3_ n4_ n5_ n6_ n7_ n8_ n9_ n10_
   (try clear hb)
   (try clear hb2)
   (try clear hk)
   (try clear hi)
   refine hK.out _ _ ⟨(blk_cell BK428.out 0).trans rfl, (blk_cell BK428.out 1).trans rfl⟩ (fun hHeld => ?_)
   clear hK K
   refine norm_ (a' := ?_) ?_ ?_
   rotate_left
   ·show Act.put _ (some 75) _ = _
    simp only [aq_]
    rfl
   refine pw_ HT_ 4 (some 76) ?_
   refine pw_ HT_ 5 (some 77) ?_
   refine pw_ HT_ 6 (some 78) ?_
   refine pw_ HT_ 7 (some 79) ?_
   refine pw_ HT_ 8 (some 80) ?_
   refine pw_ HT_ 9 (some 81) ?_
   refine pw_ HT_ 10 (some 82) ?_
   refine sw_ HT_ 11 (some 83) ?_
   refine sw_ HT_ 12 (some 84) ?_
   refine sw_ HT_ 13 (some 85) ?_
   refine pw_ HT_ 14 (some 86) ?_
   refine pw_ HT_ 15 (some 87) ?_
   refine sw_ HT_ 16 (some 88) ?_
   refine sw_ HT_ 17 (some 89) ?_
   refine sw_ HT_ 18 (some 90) ?_
   refine sw_ HT_ 19 (some 91) ?_
   refine sw_ HT_ 20 (some 92) ?_
   refine pw_ HT_ 21 (some 93) ?_
   refine pw_ HT_ 22 (some 94) ?_
   refine sw_ HT_ 23 (some 95) ?_
   refine sw_ HT_ 24 (some 96) ?_
   refine sw_ HT_ 25 (some 97) ?_
   refine pw_ HT_ 26 (some 98) ?_
   refine pw_ HT_ 27 (some 99) ?_
   refine sw_ HT_ 28 (some 100) ?_
   refine sw_ HT_ 29 (some 101) ?_
   refine sw_ HT_ 30 (some 102) ?_
   refine pw_ HT_ 31 (some 103) ?_
   refine done_ (done_of HT_.out (by kernel_rfl)) ?_
   try go_wp2
   go_meet
   case rel => exact ⟨_, (true), (by first | rfl | (simp; done) | (simp [*]; done)), H', ⟨by first | omega | exact Nat.le_refl _⟩, ⟨bs BK428.out⟩, ⟨bs BK435.out⟩, ⟨bs BK446.out⟩, ⟨bs BK455.out⟩, ⟨bs BK456.out⟩, ⟨bs BK461.out⟩, ⟨bs BK466.out⟩, ⟨by repeat (first | (with_reducible first | exact bw HB.out | refine bset ?_ | apply bA | apply bN | apply bD) | exact HB.out)⟩⟩
  rw [if_pos c75] at H
  have c75b0 : (t436.toList == t438.toList) = true := beq_iff_eq.mpr c75
  have c75b1 : (t436.toList != t438.toList) = false := bne_eq_false_iff_eq.mpr c75
  clear c75
  by_cases c76 : (t437 != t439) = true
  ·rw [if_pos c76] at H
   have c76b0 : (t437 != t439) = true := c76
   (try (have c76b1 : decide (t437 = t439) = false := by simpa using c76))
   (try (have c76b2 : (t437 == t439) = false := by simpa using c76))
   (try (have c76b3 : ¬ (t437 = t439) := by simpa using c76))
   clear c76
   have H' := Aside0.mk H
   clear H
   try go_wp2
   have n0_ : Aside0 (Kd.R (Kd.int .u8) 5 (((w60.setCell ⟨gb466, 0, none⟩ (.string t462)).setCell ⟨gb466, 1, none⟩ (.string t463)).setCell ⟨gb466, 2, none⟩ (.int .i64 t464)) w.heap.size (fun k_ => some k_ ≠ (.slice Ao29 t440.length co29 : Value).ownBlock ∧ some k_ ≠ (.slice Ao36 t447.length co36 : Value).ownBlock) (.slice Ao20 t429.length co20) t429) := ⟨by (with_reducible repeat (first | apply Kd.R_alloc | apply Kd.R_drewN | apply Kd.R_drew)); exact Kd.R_mono (Kd.R_far (p := ⟨gb466, 2, none⟩) (Kd.R_far (p := ⟨gb466, 1, none⟩) (Kd.R_far (p := ⟨gb466, 0, none⟩) (Kd.R_types HO431.out BK466.out (by decide)) (fun _ hk => hk.2) (.string t462)) (fun _ hk => hk.2) (.string t463)) (fun _ hk => hk.2) (.int .i64 t464)) (fun _ hk => ⟨hk.1.1.2, hk.1.2⟩)⟩
   have n1_ : Aside0 (Kd.R (Kd.int .u8) 5 (((w60.setCell ⟨gb466, 0, none⟩ (.string t462)).setCell ⟨gb466, 1, none⟩ (.string t463)).setCell ⟨gb466, 2, none⟩ (.int .i64 t464)) w.heap.size (fun k_ => some k_ ≠ (.slice Ao20 t429.length co20 : Value).ownBlock ∧ some k_ ≠ (.slice Ao36 t447.length co36 : Value).ownBlock) (.slice Ao29 t440.length co29) t440) := ⟨by (with_reducible repeat (first | apply Kd.R_alloc | apply Kd.R_drewN | apply Kd.R_drew)); exact Kd.R_mono (Kd.R_far (p := ⟨gb466, 2, none⟩) (Kd.R_far (p := ⟨gb466, 1, none⟩) (Kd.R_far (p := ⟨gb466, 0, none⟩) (Kd.R_types HO442.out BK466.out (by decide)) (fun _ hk => hk.2) (.string t462)) (fun _ hk => hk.2) (.string t463)) (fun _ hk => hk.2) (.int .i64 t464)) (fun _ hk => ⟨hk.1.1.2, hk.1.2⟩)⟩
   have n2_ : Aside0 (Kd.R (Kd.int .u8) 5 (((w60.setCell ⟨gb466, 0, none⟩ (.string t462)).setCell ⟨gb466, 1, none⟩ (.string t463)).setCell ⟨gb466, 2, none⟩ (.int .i64 t464)) w.heap.size (fun k_ => some k_ ≠ (.slice Ao20 t429.length co20 : Value).ownBlock ∧ some k_ ≠ (.slice Ao29 t440.length co29 : Value).ownBlock) (.slice Ao36 t447.length co36) t447) := ⟨by (with_reducible repeat (first | apply Kd.R_alloc | apply Kd.R_drewN | apply Kd.R_drew)); exact Kd.R_mono (Kd.R_far (p := ⟨gb466, 2, none⟩) (Kd.R_far (p := ⟨gb466, 1, none⟩) (Kd.R_far (p := ⟨gb466, 0, none⟩) (Kd.R_types HO449.out BK466.out (by decide)) (fun _ hk => hk.2) (.string t462)) (fun _ hk => hk.2) (.string t463)) (fun _ hk => hk.2) (.int .i64 t464)) (fun _ hk => ⟨hk.1.1.2, hk.1.2⟩)⟩
   have n3_ : Aside0 ((((w60.setCell ⟨gb466, 0, none⟩ (.string t462)).setCell ⟨gb466, 1, none⟩ (.string t463)).setCell ⟨gb466, 2, none⟩ (.int .i64 t464)).heap[gb428]? = some (.cells #[.string t426, .string t427] 25 (0, 0))) := ⟨by (with_reducible repeat (first | refine blk_drewN ?_ _ | refine blk_drew ?_ | refine blk_alloc ?_ _)); refine blk_far ?_ NB428_466.out _; (with_reducible repeat (first | refine blk_drewN ?_ _ | refine blk_drew ?_ | refine blk_alloc ?_ _)); refine blk_far ?_ NB428_466.out _; (with_reducible repeat (first | refine blk_drewN ?_ _ | refine blk_drew ?_ | refine blk_alloc ?_ _)); refine blk_far ?_ NB428_466.out _; exact bs BK428.out⟩
   have n4_ : Aside0 ((((w60.setCell ⟨gb466, 0, none⟩ (.string t462)).setCell ⟨gb466, 1, none⟩ (.string t463)).setCell ⟨gb466, 2, none⟩ (.int .i64 t464)).heap[gb435]? = some (.cells #[.string t433, .string t434] 25 (0, 0))) := ⟨by (with_reducible repeat (first | refine blk_drewN ?_ _ | refine blk_drew ?_ | refine blk_alloc ?_ _)); refine blk_far ?_ NB435_466.out _; (with_reducible repeat (first | refine blk_drewN ?_ _ | refine blk_drew ?_ | refine blk_alloc ?_ _)); refine blk_far ?_ NB435_466.out _; (with_reducible repeat (first | refine blk_drewN ?_ _ | refine blk_drew ?_ | refine blk_alloc ?_ _)); refine blk_far ?_ NB435_466.out _; exact bs BK435.out⟩
   have n5_ : Aside0 ((((w60.setCell ⟨gb466, 0, none⟩ (.string t462)).setCell ⟨gb466, 1, none⟩ (.string t463)).setCell ⟨gb466, 2, none⟩ (.int .i64 t464)).heap[gb446]? = some (.cells #[.string t443, .string t444, .int .i64 t445] 33 (0, 0))) := ⟨by (with_reducible repeat (first | refine blk_drewN ?_ _ | refine blk_drew ?_ | refine blk_alloc ?_ _)); refine blk_far ?_ NB446_466.out _; (with_reducible repeat (first | refine blk_drewN ?_ _ | refine blk_drew ?_ | refine blk_alloc ?_ _)); refine blk_far ?_ NB446_466.out _; (with_reducible repeat (first | refine blk_drewN ?_ _ | refine blk_drew ?_ | refine blk_alloc ?_ _)); refine blk_far ?_ NB446_466.out _; exact bs BK446.out⟩
   have n6_ : Aside0 ((((w60.setCell ⟨gb466, 0, none⟩ (.string t462)).setCell ⟨gb466, 1, none⟩ (.string t463)).setCell ⟨gb466, 2, none⟩ (.int .i64 t464)).heap[gb455]? = some (.cells #[.string t450, .string t451, .int .i64 t452] 33 (0, 0))) := ⟨by (with_reducible repeat (first | refine blk_drewN ?_ _ | refine blk_drew ?_ | refine blk_alloc ?_ _)); refine blk_far ?_ NB455_466.out _; (with_reducible repeat (first | refine blk_drewN ?_ _ | refine blk_drew ?_ | refine blk_alloc ?_ _)); refine blk_far ?_ NB455_466.out _; (with_reducible repeat (first | refine blk_drewN ?_ _ | refine blk_drew ?_ | refine blk_alloc ?_ _)); refine blk_far ?_ NB455_466.out _; exact bs BK455.out⟩
   have n7_ : Aside0 ((((w60.setCell ⟨gb466, 0, none⟩ (.string t462)).setCell ⟨gb466, 1, none⟩ (.string t463)).setCell ⟨gb466, 2, none⟩ (.int .i64 t464)).heap[gb456]? = some (.cells #[.string t453, .string t454] 25 (0, 0))) := ⟨by (with_reducible repeat (first | refine blk_drewN ?_ _ | refine blk_drew ?_ | refine blk_alloc ?_ _)); refine blk_far ?_ NB456_466.out _; (with_reducible repeat (first | refine blk_drewN ?_ _ | refine blk_drew ?_ | refine blk_alloc ?_ _)); refine blk_far ?_ NB456_466.out _; (with_reducible repeat (first | refine blk_drewN ?_ _ | refine blk_drew ?_ | refine blk_alloc ?_ _)); refine blk_far ?_ NB456_466.out _; exact bs BK456.out⟩
   have n8_ : Aside0 ((((w60.setCell ⟨gb466, 0, none⟩ (.string t462)).setCell ⟨gb466, 1, none⟩ (.string t463)).setCell ⟨gb466, 2, none⟩ (.int .i64 t464)).heap[gb461]? = some (.cells #[.string t457, .string t458, .int .i64 t459] 33 (0, 0))) := ⟨by (with_reducible repeat (first | refine blk_drewN ?_ _ | refine blk_drew ?_ | refine blk_alloc ?_ _)); refine blk_far ?_ NB461_466.out _; (with_reducible repeat (first | refine blk_drewN ?_ _ | refine blk_drew ?_ | refine blk_alloc ?_ _)); refine blk_far ?_ NB461_466.out _; (with_reducible repeat (first | refine blk_drewN ?_ _ | refine blk_drew ?_ | refine blk_alloc ?_ _)); refine blk_far ?_ NB461_466.out _; exact bs BK461.out⟩
   have n9_ : Aside0 ((((w60.setCell ⟨gb466, 0, none⟩ (.string t462)).setCell ⟨gb466, 1, none⟩ (.string t463)).setCell ⟨gb466, 2, none⟩ (.int .i64 t464)).heap[gb466]? = some (.cells #[.string t462, .string t463, .int .i64 t464] 33 (0, 0))) := ⟨by (with_reducible repeat (first | refine blk_drewN ?_ _ | refine blk_drew ?_ | refine blk_alloc ?_ _)); refine blk_put (cs := #[.string t462, .string t463, .int .i64 0]) ?_ 2 _ rfl; (with_reducible repeat (first | refine blk_drewN ?_ _ | refine blk_drew ?_ | refine blk_alloc ?_ _)); refine blk_put (cs := #[.string t462, .string (⟨#[]⟩ : ByteArray), .int .i64 0]) ?_ 1 _ rfl; (with_reducible repeat (first | refine blk_drewN ?_ _ | refine blk_drew ?_ | refine blk_alloc ?_ _)); refine blk_put (cs := #[.string (⟨#[]⟩ : ByteArray), .string (⟨#[]⟩ : ByteArray), .int .i64 0]) ?_ 0 _ rfl; exact bs BK466.out⟩
   have n10_ : Aside0 (Below w.heap.size w (((w60.setCell ⟨gb466, 0, none⟩ (.string t462)).setCell ⟨gb466, 1, none⟩ (.string t463)).setCell ⟨gb466, 2, none⟩ (.int .i64 t464))) := ⟨by repeat (first | (with_reducible first | exact bw HB.out | refine bset ?_ | apply bA | apply bN | apply bD) | exact HB.out)⟩
   (try clear HO431)
   (try clear HO442)
   (try clear HO449)
   (try clear BK428)
   (try clear BK435)
   (try clear BK446)
   (try clear BK455)
   (try clear BK456)
   (try clear BK461)
   (try clear BK466)
   (try clear HB)
   (try simp only [setCell_drewN])
   generalize (((w60.setCell ⟨gb466, 0, none⟩ (.string t462)).setCell ⟨gb466, 1, none⟩ (.string t463)).setCell ⟨gb466, 2, none⟩ (.int .i64 t464)) = w77 at n0_ n1_ n2_ n3_ n4_ n5_ n6_ n7_ n8_ n9_ n10_ ⊢
   have HO431 := n0_
   have HO442 := n1_
   have HO449 := n2_
   have BK428 := n3_
   have BK435 := n4_
   have BK446 := n5_
   have BK455 := n6_
   have BK456 := n7_
   have BK461 := n8_
   have BK466 := n9_
   have HB := n10_
   clear n0_ n1_ n2_ n3_ n4_ n5_ n6_ n7_ n8_ n9_ n10_
   have n0_ := Aside0.mk (Kd.R_drew HO431.out)
   have n1_ := Aside0.mk (Kd.R_drew HO442.out)
   have n2_ := Aside0.mk (Kd.R_drew HO449.out)
   have n3_ := Aside0.mk (blk_drew BK428.out)
   have n4_ := Aside0.mk (blk_drew BK435.out)
   have n5_ := Aside0.mk (blk_drew BK446.out)
   have n6_ := Aside0.mk (blk_drew BK455.out)
   have n7_ := Aside0.mk (blk_drew BK456.out)
   have n8_ := Aside0.mk (blk_drew BK461.out)
   have n9_ := Aside0.mk (blk_drew BK466.out)
   have n10_ := Aside0.mk (below_drew1 HB.out)
   replace HO431 := n0_
   replace HO442 := n1_
   replace HO449 := n2_
   replace BK428 := n3_
   replace BK435 := n4_
   replace BK446 := n5_
   replace BK455 := n6_
   replace BK456 := n7_
   replace BK461 := n8_
   replace BK466 := n9_
   replace HB := n10_
   clear n0_ n1_ n2_ n3_ n4_ n5_ n6_ n7_ n8_ n9_ n10_
   refine start_ (n := 32) (S := fun w' => w'.cell? ⟨gb428, 0, none⟩ = some (.string t426) ∧ w'.cell? ⟨gb428, 1, none⟩ = some (.string t427)) (ds := []) q3_0 (by kernel_rfl) rfl rfl ⟨(blk_cell BK428.out 0).trans rfl, (blk_cell BK428.out 1).trans rfl⟩ (fun hHeld => ?_); refine with_tabW laws_FnLogs.tab11 laws_FnLogs.bits11 (fun HT_ HW_ => ?_)
   generalize w77.drew = w78 at HO431 HO442 HO449 BK428 BK435 BK446 BK455 BK456 BK461 BK466 HB hHeld ⊢
   refine take_ (i := 0) (N := some 72) (v := ?_) (a' := ?_) q3_1 rfl rfl (take_ofW HT_.out HW_.out (by kernel_rfl)) (fun _ _ _ h => h) (Or.inl ⟨by rfl, ?_⟩) hHeld ?_ ?_
   rotate_left
   ·rintro w' ⟨s0, s1⟩
    go_simp
    with_reducible rfl
   rotate_left
   ·simp only [aq_]
    rfl
   refine take_ (i := 2) (N := some 74) (v := ?_) (a' := ?_) q3_2 rfl rfl (take_ofW HT_.out HW_.out (by kernel_rfl)) (fun _ _ _ h => h) (Or.inl ⟨by rfl, ?_⟩) hHeld ?_ ?_
   rotate_left
   ·rintro w' ⟨s0, s1⟩
    go_simp
    with_reducible rfl
   rotate_left
   ·simp only [aq_]
    rfl
   refine one_ (i := 1) (N := some 73) q3_3 rfl rfl (one_of HT_.out (by kernel_rfl)) (by decide) (fun K hK => ?_)
   refine goes_ Try.func15 (by kernel_rfl) rfl #[.agg #[.string t426, .string t427]] (by rfl) rfl rfl (by (try simp only [mA_]); first | done | rfl | (simp only [List.length_drop, List.length_take]; rfl)) ?_
   with_reducible refine (impl_IsValidRecord.calls k t426 t427 t467 _ A68.out).mono ?_
   rintro e w79 ⟨rfl, hb⟩
   refine ⟨_, rfl, ?_⟩
   have n0_ := Aside0.mk (Kd.R_below (bR HO431.out) hb)
   have n1_ := Aside0.mk (Kd.R_below (bR HO442.out) hb)
   have n2_ := Aside0.mk (Kd.R_below (bR HO449.out) hb)
   have n3_ := Aside0.mk (blk_below (bs BK428.out) hb)
   have n4_ := Aside0.mk (blk_below (bs BK435.out) hb)
   have n5_ := Aside0.mk (blk_below (bs BK446.out) hb)
   have n6_ := Aside0.mk (blk_below (bs BK455.out) hb)
   have n7_ := Aside0.mk (blk_below (bs BK456.out) hb)
   have n8_ := Aside0.mk (blk_below (bs BK461.out) hb)
   have n9_ := Aside0.mk (blk_below (bs BK466.out) hb)
   have n10_ := Aside0.mk (below_step (by repeat (first | (with_reducible first | exact bw HB.out | refine bset ?_ | apply bA | apply bN | apply bD) | exact HB.out)) hb)
   replace HO431 := n0_
   replace HO442 := n1_
   replace HO449 := n2_
   replace BK428 := n3_
   replace BK435 := n4_
   replace BK446 := n5_
   replace BK455 := n6_
   replace BK456 := n7_
   replace BK461 := n8_
   replace BK466 := n9_
   replace HB := n10_
   clear n0_ n1_ n2_ n3_ n4_ n5_ n6_ n7_ n8_ n9_ n10_
   (try clear hb)
   (try clear hb2)
   (try clear hk)
   (try clear hi)
   refine hK.out _ _ ⟨(blk_cell BK428.out 0).trans rfl, (blk_cell BK428.out 1).trans rfl⟩ (fun hHeld => ?_)
   clear hK K
   refine norm_ (a' := ?_) ?_ ?_
   rotate_left
   ·show Act.put _ (some 73) _ = _
    simp only [aq_]
    rfl
   refine one_ (i := 3) (N := some 75) q3_4 rfl rfl (one_of HT_.out (by kernel_rfl)) (by decide) (fun K hK => ?_)
   refine goes_ Try.func16 (by kernel_rfl) rfl #[.agg #[.string t426, .string t427]] (by rfl) rfl rfl (by (try simp only [mA_]); first | done | rfl | (simp only [List.length_drop, List.length_take]; rfl)) ?_
   with_reducible refine (spec_IsValidRecord.calls k t426 t427 t468 _ A69.out).mono ?_
   rintro e w80 ⟨rfl, hb⟩
   refine ⟨_, rfl, ?_⟩
   have n0_ := Aside0.mk (Kd.R_below (bR HO431.out) hb)
   have n1_ := Aside0.mk (Kd.R_below (bR HO442.out) hb)
   have n2_ := Aside0.mk (Kd.R_below (bR HO449.out) hb)
   have n3_ := Aside0.mk (blk_below (bs BK428.out) hb)
   have n4_ := Aside0.mk (blk_below (bs BK435.out) hb)
   have n5_ := Aside0.mk (blk_below (bs BK446.out) hb)
   have n6_ := Aside0.mk (blk_below (bs BK455.out) hb)
   have n7_ := Aside0.mk (blk_below (bs BK456.out) hb)
   have n8_ := Aside0.mk (blk_below (bs BK461.out) hb)
   have n9_ := Aside0.mk (blk_below (bs BK466.out) hb)
   have n10_ := Aside0.mk (below_step (by repeat (first | (with_reducible first | exact bw HB.out | refine bset ?_ | apply bA | apply bN | apply bD) | exact HB.out)) hb)
   replace HO431 := n0_
   replace HO442 := n1_
   replace HO449 := n2_
   replace BK428 := n3_
   replace BK435 := n4_
   replace BK446 := n5_
   replace BK455 := n6_
   replace BK456 := n7_
   replace BK461 := n8_
   replace BK466 := n9_
   replace HB := n10_
   clear n0_ n1_ n2_ n3_ n4_ n5_ n6_ n7_ n8_ n9_ n10_
   (try clear hb)
   (try clear hb2)
   (try clear hk)
   (try clear hi)
   refine hK.out _ _ ⟨(blk_cell BK428.out 0).trans rfl, (blk_cell BK428.out 1).trans rfl⟩ (fun hHeld => ?_)
   clear hK K
   refine norm_ (a' := ?_) ?_ ?_
   rotate_left
   ·show Act.put _ (some 75) _ = _
    simp only [aq_]
    rfl
   refine pw_ HT_ 4 (some 76) ?_
   refine pw_ HT_ 5 (some 77) ?_
   refine pw_ HT_ 6 (some 78) ?_
   refine pw_ HT_ 7 (some 79) ?_
   refine pw_ HT_ 8 (some 80) ?_
   refine pw_ HT_ 9 (some 81) ?_
   refine pw_ HT_ 10 (some 82) ?_
   refine pw_ HT_ 11 (some 83) ?_
   refine pw_ HT_ 12 (some 84) ?_
   refine pw_ HT_ 13 (some 85) ?_
   refine pw_ HT_ 14 (some 86) ?_
   refine pw_ HT_ 15 (some 87) ?_
   refine sw_ HT_ 16 (some 88) ?_
   refine sw_ HT_ 17 (some 89) ?_
   refine sw_ HT_ 18 (some 90) ?_
   refine sw_ HT_ 19 (some 91) ?_
   refine sw_ HT_ 20 (some 92) ?_
   refine pw_ HT_ 21 (some 93) ?_
   refine pw_ HT_ 22 (some 94) ?_
   refine sw_ HT_ 23 (some 95) ?_
   refine sw_ HT_ 24 (some 96) ?_
   refine sw_ HT_ 25 (some 97) ?_
   refine pw_ HT_ 26 (some 98) ?_
   refine pw_ HT_ 27 (some 99) ?_
   refine sw_ HT_ 28 (some 100) ?_
   refine sw_ HT_ 29 (some 101) ?_
   refine sw_ HT_ 30 (some 102) ?_
   refine pw_ HT_ 31 (some 103) ?_
   refine done_ (done_of HT_.out (by kernel_rfl)) ?_
   try go_wp2
   go_meet
   case rel => exact ⟨_, (true), (by first | rfl | (simp; done) | (simp [*]; done)), H', ⟨by first | omega | exact Nat.le_refl _⟩, ⟨bs BK428.out⟩, ⟨bs BK435.out⟩, ⟨bs BK446.out⟩, ⟨bs BK455.out⟩, ⟨bs BK456.out⟩, ⟨bs BK461.out⟩, ⟨bs BK466.out⟩, ⟨by repeat (first | (with_reducible first | exact bw HB.out | refine bset ?_ | apply bA | apply bN | apply bD) | exact HB.out)⟩⟩
  rw [if_neg c76] at H
  have c76b0 : (t437 != t439) = false := by simpa using c76
  (try (have c76b1 : decide (t437 = t439) = true := by simpa using c76))
  (try (have c76b2 : (t437 == t439) = true := by simpa using c76))
  clear c76
  replace H := Option.bind_eq_some_iff.mp H
  obtain ⟨t469, A810, H⟩ := H
  replace H : ((spec_IsValidLog.f k t443 t444 t445).bind fun t470 => (if (t469 != t470) = true then (laws_FnLogs.j0 k t460 true t450 t451 t452 t453 t454 t457 t458 t459) else (if (!(t457.toList == t462.toList) || (!(t458.toList == t463.toList) || (!(t459 == t464)))) = true then (laws_FnLogs.j0 k t460 true t450 t451 t452 t453 t454 t457 t458 t459) else (laws_FnLogs.j0 k t460 (t460 != t465) t450 t451 t452 t453 t454 t457 t458 t459)))) = some r := H
  have A81 := Aside0.mk A810
  clear A810
  replace H := Option.bind_eq_some_iff.mp H
  obtain ⟨t470, A820, H⟩ := H
  replace H : (if (t469 != t470) = true then (laws_FnLogs.j0 k t460 true t450 t451 t452 t453 t454 t457 t458 t459) else (if (!(t457.toList == t462.toList) || (!(t458.toList == t463.toList) || (!(t459 == t464)))) = true then (laws_FnLogs.j0 k t460 true t450 t451 t452 t453 t454 t457 t458 t459) else (laws_FnLogs.j0 k t460 (t460 != t465) t450 t451 t452 t453 t454 t457 t458 t459))) = some r := H
  have A82 := Aside0.mk A820
  clear A820
  by_cases c83 : (t469 != t470) = true
  ·rw [if_pos c83] at H
   have c83b0 : (t469 != t470) = true := c83
   (try (have c83b1 : decide (t469 = t470) = false := by simpa using c83))
   (try (have c83b2 : (t469 == t470) = false := by simpa using c83))
   (try (have c83b3 : ¬ (t469 = t470) := by simpa using c83))
   clear c83
   have H' := Aside0.mk H
   clear H
   try go_wp2
   have n0_ : Aside0 (Kd.R (Kd.int .u8) 5 (((w60.setCell ⟨gb466, 0, none⟩ (.string t462)).setCell ⟨gb466, 1, none⟩ (.string t463)).setCell ⟨gb466, 2, none⟩ (.int .i64 t464)) w.heap.size (fun k_ => some k_ ≠ (.slice Ao29 t440.length co29 : Value).ownBlock ∧ some k_ ≠ (.slice Ao36 t447.length co36 : Value).ownBlock) (.slice Ao20 t429.length co20) t429) := ⟨by (with_reducible repeat (first | apply Kd.R_alloc | apply Kd.R_drewN | apply Kd.R_drew)); exact Kd.R_mono (Kd.R_far (p := ⟨gb466, 2, none⟩) (Kd.R_far (p := ⟨gb466, 1, none⟩) (Kd.R_far (p := ⟨gb466, 0, none⟩) (Kd.R_types HO431.out BK466.out (by decide)) (fun _ hk => hk.2) (.string t462)) (fun _ hk => hk.2) (.string t463)) (fun _ hk => hk.2) (.int .i64 t464)) (fun _ hk => ⟨hk.1.1.2, hk.1.2⟩)⟩
   have n1_ : Aside0 (Kd.R (Kd.int .u8) 5 (((w60.setCell ⟨gb466, 0, none⟩ (.string t462)).setCell ⟨gb466, 1, none⟩ (.string t463)).setCell ⟨gb466, 2, none⟩ (.int .i64 t464)) w.heap.size (fun k_ => some k_ ≠ (.slice Ao20 t429.length co20 : Value).ownBlock ∧ some k_ ≠ (.slice Ao36 t447.length co36 : Value).ownBlock) (.slice Ao29 t440.length co29) t440) := ⟨by (with_reducible repeat (first | apply Kd.R_alloc | apply Kd.R_drewN | apply Kd.R_drew)); exact Kd.R_mono (Kd.R_far (p := ⟨gb466, 2, none⟩) (Kd.R_far (p := ⟨gb466, 1, none⟩) (Kd.R_far (p := ⟨gb466, 0, none⟩) (Kd.R_types HO442.out BK466.out (by decide)) (fun _ hk => hk.2) (.string t462)) (fun _ hk => hk.2) (.string t463)) (fun _ hk => hk.2) (.int .i64 t464)) (fun _ hk => ⟨hk.1.1.2, hk.1.2⟩)⟩
   have n2_ : Aside0 (Kd.R (Kd.int .u8) 5 (((w60.setCell ⟨gb466, 0, none⟩ (.string t462)).setCell ⟨gb466, 1, none⟩ (.string t463)).setCell ⟨gb466, 2, none⟩ (.int .i64 t464)) w.heap.size (fun k_ => some k_ ≠ (.slice Ao20 t429.length co20 : Value).ownBlock ∧ some k_ ≠ (.slice Ao29 t440.length co29 : Value).ownBlock) (.slice Ao36 t447.length co36) t447) := ⟨by (with_reducible repeat (first | apply Kd.R_alloc | apply Kd.R_drewN | apply Kd.R_drew)); exact Kd.R_mono (Kd.R_far (p := ⟨gb466, 2, none⟩) (Kd.R_far (p := ⟨gb466, 1, none⟩) (Kd.R_far (p := ⟨gb466, 0, none⟩) (Kd.R_types HO449.out BK466.out (by decide)) (fun _ hk => hk.2) (.string t462)) (fun _ hk => hk.2) (.string t463)) (fun _ hk => hk.2) (.int .i64 t464)) (fun _ hk => ⟨hk.1.1.2, hk.1.2⟩)⟩
   have n3_ : Aside0 ((((w60.setCell ⟨gb466, 0, none⟩ (.string t462)).setCell ⟨gb466, 1, none⟩ (.string t463)).setCell ⟨gb466, 2, none⟩ (.int .i64 t464)).heap[gb428]? = some (.cells #[.string t426, .string t427] 25 (0, 0))) := ⟨by (with_reducible repeat (first | refine blk_drewN ?_ _ | refine blk_drew ?_ | refine blk_alloc ?_ _)); refine blk_far ?_ NB428_466.out _; (with_reducible repeat (first | refine blk_drewN ?_ _ | refine blk_drew ?_ | refine blk_alloc ?_ _)); refine blk_far ?_ NB428_466.out _; (with_reducible repeat (first | refine blk_drewN ?_ _ | refine blk_drew ?_ | refine blk_alloc ?_ _)); refine blk_far ?_ NB428_466.out _; exact bs BK428.out⟩
   have n4_ : Aside0 ((((w60.setCell ⟨gb466, 0, none⟩ (.string t462)).setCell ⟨gb466, 1, none⟩ (.string t463)).setCell ⟨gb466, 2, none⟩ (.int .i64 t464)).heap[gb435]? = some (.cells #[.string t433, .string t434] 25 (0, 0))) := ⟨by (with_reducible repeat (first | refine blk_drewN ?_ _ | refine blk_drew ?_ | refine blk_alloc ?_ _)); refine blk_far ?_ NB435_466.out _; (with_reducible repeat (first | refine blk_drewN ?_ _ | refine blk_drew ?_ | refine blk_alloc ?_ _)); refine blk_far ?_ NB435_466.out _; (with_reducible repeat (first | refine blk_drewN ?_ _ | refine blk_drew ?_ | refine blk_alloc ?_ _)); refine blk_far ?_ NB435_466.out _; exact bs BK435.out⟩
   have n5_ : Aside0 ((((w60.setCell ⟨gb466, 0, none⟩ (.string t462)).setCell ⟨gb466, 1, none⟩ (.string t463)).setCell ⟨gb466, 2, none⟩ (.int .i64 t464)).heap[gb446]? = some (.cells #[.string t443, .string t444, .int .i64 t445] 33 (0, 0))) := ⟨by (with_reducible repeat (first | refine blk_drewN ?_ _ | refine blk_drew ?_ | refine blk_alloc ?_ _)); refine blk_far ?_ NB446_466.out _; (with_reducible repeat (first | refine blk_drewN ?_ _ | refine blk_drew ?_ | refine blk_alloc ?_ _)); refine blk_far ?_ NB446_466.out _; (with_reducible repeat (first | refine blk_drewN ?_ _ | refine blk_drew ?_ | refine blk_alloc ?_ _)); refine blk_far ?_ NB446_466.out _; exact bs BK446.out⟩
   have n6_ : Aside0 ((((w60.setCell ⟨gb466, 0, none⟩ (.string t462)).setCell ⟨gb466, 1, none⟩ (.string t463)).setCell ⟨gb466, 2, none⟩ (.int .i64 t464)).heap[gb455]? = some (.cells #[.string t450, .string t451, .int .i64 t452] 33 (0, 0))) := ⟨by (with_reducible repeat (first | refine blk_drewN ?_ _ | refine blk_drew ?_ | refine blk_alloc ?_ _)); refine blk_far ?_ NB455_466.out _; (with_reducible repeat (first | refine blk_drewN ?_ _ | refine blk_drew ?_ | refine blk_alloc ?_ _)); refine blk_far ?_ NB455_466.out _; (with_reducible repeat (first | refine blk_drewN ?_ _ | refine blk_drew ?_ | refine blk_alloc ?_ _)); refine blk_far ?_ NB455_466.out _; exact bs BK455.out⟩
   have n7_ : Aside0 ((((w60.setCell ⟨gb466, 0, none⟩ (.string t462)).setCell ⟨gb466, 1, none⟩ (.string t463)).setCell ⟨gb466, 2, none⟩ (.int .i64 t464)).heap[gb456]? = some (.cells #[.string t453, .string t454] 25 (0, 0))) := ⟨by (with_reducible repeat (first | refine blk_drewN ?_ _ | refine blk_drew ?_ | refine blk_alloc ?_ _)); refine blk_far ?_ NB456_466.out _; (with_reducible repeat (first | refine blk_drewN ?_ _ | refine blk_drew ?_ | refine blk_alloc ?_ _)); refine blk_far ?_ NB456_466.out _; (with_reducible repeat (first | refine blk_drewN ?_ _ | refine blk_drew ?_ | refine blk_alloc ?_ _)); refine blk_far ?_ NB456_466.out _; exact bs BK456.out⟩
   have n8_ : Aside0 ((((w60.setCell ⟨gb466, 0, none⟩ (.string t462)).setCell ⟨gb466, 1, none⟩ (.string t463)).setCell ⟨gb466, 2, none⟩ (.int .i64 t464)).heap[gb461]? = some (.cells #[.string t457, .string t458, .int .i64 t459] 33 (0, 0))) := ⟨by (with_reducible repeat (first | refine blk_drewN ?_ _ | refine blk_drew ?_ | refine blk_alloc ?_ _)); refine blk_far ?_ NB461_466.out _; (with_reducible repeat (first | refine blk_drewN ?_ _ | refine blk_drew ?_ | refine blk_alloc ?_ _)); refine blk_far ?_ NB461_466.out _; (with_reducible repeat (first | refine blk_drewN ?_ _ | refine blk_drew ?_ | refine blk_alloc ?_ _)); refine blk_far ?_ NB461_466.out _; exact bs BK461.out⟩
   have n9_ : Aside0 ((((w60.setCell ⟨gb466, 0, none⟩ (.string t462)).setCell ⟨gb466, 1, none⟩ (.string t463)).setCell ⟨gb466, 2, none⟩ (.int .i64 t464)).heap[gb466]? = some (.cells #[.string t462, .string t463, .int .i64 t464] 33 (0, 0))) := ⟨by (with_reducible repeat (first | refine blk_drewN ?_ _ | refine blk_drew ?_ | refine blk_alloc ?_ _)); refine blk_put (cs := #[.string t462, .string t463, .int .i64 0]) ?_ 2 _ rfl; (with_reducible repeat (first | refine blk_drewN ?_ _ | refine blk_drew ?_ | refine blk_alloc ?_ _)); refine blk_put (cs := #[.string t462, .string (⟨#[]⟩ : ByteArray), .int .i64 0]) ?_ 1 _ rfl; (with_reducible repeat (first | refine blk_drewN ?_ _ | refine blk_drew ?_ | refine blk_alloc ?_ _)); refine blk_put (cs := #[.string (⟨#[]⟩ : ByteArray), .string (⟨#[]⟩ : ByteArray), .int .i64 0]) ?_ 0 _ rfl; exact bs BK466.out⟩
   have n10_ : Aside0 (Below w.heap.size w (((w60.setCell ⟨gb466, 0, none⟩ (.string t462)).setCell ⟨gb466, 1, none⟩ (.string t463)).setCell ⟨gb466, 2, none⟩ (.int .i64 t464))) := ⟨by repeat (first | (with_reducible first | exact bw HB.out | refine bset ?_ | apply bA | apply bN | apply bD) | exact HB.out)⟩
   (try clear HO431)
   (try clear HO442)
   (try clear HO449)
   (try clear BK428)
   (try clear BK435)
   (try clear BK446)
   (try clear BK455)
   (try clear BK456)
   (try clear BK461)
   (try clear BK466)
   (try clear HB)
   (try simp only [setCell_drewN])
   generalize (((w60.setCell ⟨gb466, 0, none⟩ (.string t462)).setCell ⟨gb466, 1, none⟩ (.string t463)).setCell ⟨gb466, 2, none⟩ (.int .i64 t464)) = w84 at n0_ n1_ n2_ n3_ n4_ n5_ n6_ n7_ n8_ n9_ n10_ ⊢
   have HO431 := n0_
   have HO442 := n1_
   have HO449 := n2_
   have BK428 := n3_
   have BK435 := n4_
   have BK446 := n5_
   have BK455 := n6_
   have BK456 := n7_
   have BK461 := n8_
   have BK466 := n9_
   have HB := n10_
   clear n0_ n1_ n2_ n3_ n4_ n5_ n6_ n7_ n8_ n9_ n10_
   have n0_ := Aside0.mk (Kd.R_drew HO431.out)
   have n1_ := Aside0.mk (Kd.R_drew HO442.out)
   have n2_ := Aside0.mk (Kd.R_drew HO449.out)
   have n3_ := Aside0.mk (blk_drew BK428.out)
   have n4_ := Aside0.mk (blk_drew BK435.out)
   have n5_ := Aside0.mk (blk_drew BK446.out)
   have n6_ := Aside0.mk (blk_drew BK455.out)
   have n7_ := Aside0.mk (blk_drew BK456.out)
   have n8_ := Aside0.mk (blk_drew BK461.out)
   have n9_ := Aside0.mk (blk_drew BK466.out)
   have n10_ := Aside0.mk (below_drew1 HB.out)
   replace HO431 := n0_
   replace HO442 := n1_
   replace HO449 := n2_
   replace BK428 := n3_
   replace BK435 := n4_
   replace BK446 := n5_
   replace BK455 := n6_
   replace BK456 := n7_
   replace BK461 := n8_
   replace BK466 := n9_
   replace HB := n10_
   clear n0_ n1_ n2_ n3_ n4_ n5_ n6_ n7_ n8_ n9_ n10_
   refine start_ (n := 32) (S := fun w' => w'.cell? ⟨gb428, 0, none⟩ = some (.string t426) ∧ w'.cell? ⟨gb428, 1, none⟩ = some (.string t427) ∧ w'.cell? ⟨gb446, 0, none⟩ = some (.string t443) ∧ w'.cell? ⟨gb446, 1, none⟩ = some (.string t444) ∧ w'.cell? ⟨gb446, 2, none⟩ = some (.int .i64 t445)) (ds := []) q3_0 (by kernel_rfl) rfl rfl ⟨(blk_cell BK428.out 0).trans rfl, (blk_cell BK428.out 1).trans rfl, (blk_cell BK446.out 0).trans rfl, (blk_cell BK446.out 1).trans rfl, (blk_cell BK446.out 2).trans rfl⟩ (fun hHeld => ?_); refine with_tabW laws_FnLogs.tab11 laws_FnLogs.bits11 (fun HT_ HW_ => ?_)
   generalize w84.drew = w85 at HO431 HO442 HO449 BK428 BK435 BK446 BK455 BK456 BK461 BK466 HB hHeld ⊢
   refine take_ (i := 0) (N := some 72) (v := ?_) (a' := ?_) q3_1 rfl rfl (take_ofW HT_.out HW_.out (by kernel_rfl)) (fun _ _ _ h => h) (Or.inl ⟨by rfl, ?_⟩) hHeld ?_ ?_
   rotate_left
   ·rintro w' ⟨s0, s1, s2, s3, s4⟩
    go_simp
    with_reducible rfl
   rotate_left
   ·simp only [aq_]
    rfl
   refine take_ (i := 2) (N := some 74) (v := ?_) (a' := ?_) q3_2 rfl rfl (take_ofW HT_.out HW_.out (by kernel_rfl)) (fun _ _ _ h => h) (Or.inl ⟨by rfl, ?_⟩) hHeld ?_ ?_
   rotate_left
   ·rintro w' ⟨s0, s1, s2, s3, s4⟩
    go_simp
    with_reducible rfl
   rotate_left
   ·simp only [aq_]
    rfl
   refine one_ (i := 1) (N := some 73) q3_3 rfl rfl (one_of HT_.out (by kernel_rfl)) (by decide) (fun K hK => ?_)
   refine goes_ Try.func15 (by kernel_rfl) rfl #[.agg #[.string t426, .string t427]] (by rfl) rfl rfl (by (try simp only [mA_]); first | done | rfl | (simp only [List.length_drop, List.length_take]; rfl)) ?_
   with_reducible refine (impl_IsValidRecord.calls k t426 t427 t467 _ A68.out).mono ?_
   rintro e w86 ⟨rfl, hb⟩
   refine ⟨_, rfl, ?_⟩
   have n0_ := Aside0.mk (Kd.R_below (bR HO431.out) hb)
   have n1_ := Aside0.mk (Kd.R_below (bR HO442.out) hb)
   have n2_ := Aside0.mk (Kd.R_below (bR HO449.out) hb)
   have n3_ := Aside0.mk (blk_below (bs BK428.out) hb)
   have n4_ := Aside0.mk (blk_below (bs BK435.out) hb)
   have n5_ := Aside0.mk (blk_below (bs BK446.out) hb)
   have n6_ := Aside0.mk (blk_below (bs BK455.out) hb)
   have n7_ := Aside0.mk (blk_below (bs BK456.out) hb)
   have n8_ := Aside0.mk (blk_below (bs BK461.out) hb)
   have n9_ := Aside0.mk (blk_below (bs BK466.out) hb)
   have n10_ := Aside0.mk (below_step (by repeat (first | (with_reducible first | exact bw HB.out | refine bset ?_ | apply bA | apply bN | apply bD) | exact HB.out)) hb)
   replace HO431 := n0_
   replace HO442 := n1_
   replace HO449 := n2_
   replace BK428 := n3_
   replace BK435 := n4_
   replace BK446 := n5_
   replace BK455 := n6_
   replace BK456 := n7_
   replace BK461 := n8_
   replace BK466 := n9_
   replace HB := n10_
   clear n0_ n1_ n2_ n3_ n4_ n5_ n6_ n7_ n8_ n9_ n10_
   (try clear hb)
   (try clear hb2)
   (try clear hk)
   (try clear hi)
   refine hK.out _ _ ⟨(blk_cell BK428.out 0).trans rfl, (blk_cell BK428.out 1).trans rfl, (blk_cell BK446.out 0).trans rfl, (blk_cell BK446.out 1).trans rfl, (blk_cell BK446.out 2).trans rfl⟩ (fun hHeld => ?_)
   clear hK K
   refine norm_ (a' := ?_) ?_ ?_
   rotate_left
   ·show Act.put _ (some 73) _ = _
    simp only [aq_]
    rfl
   refine one_ (i := 3) (N := some 75) q3_4 rfl rfl (one_of HT_.out (by kernel_rfl)) (by decide) (fun K hK => ?_)
   refine goes_ Try.func16 (by kernel_rfl) rfl #[.agg #[.string t426, .string t427]] (by rfl) rfl rfl (by (try simp only [mA_]); first | done | rfl | (simp only [List.length_drop, List.length_take]; rfl)) ?_
   with_reducible refine (spec_IsValidRecord.calls k t426 t427 t468 _ A69.out).mono ?_
   rintro e w87 ⟨rfl, hb⟩
   refine ⟨_, rfl, ?_⟩
   have n0_ := Aside0.mk (Kd.R_below (bR HO431.out) hb)
   have n1_ := Aside0.mk (Kd.R_below (bR HO442.out) hb)
   have n2_ := Aside0.mk (Kd.R_below (bR HO449.out) hb)
   have n3_ := Aside0.mk (blk_below (bs BK428.out) hb)
   have n4_ := Aside0.mk (blk_below (bs BK435.out) hb)
   have n5_ := Aside0.mk (blk_below (bs BK446.out) hb)
   have n6_ := Aside0.mk (blk_below (bs BK455.out) hb)
   have n7_ := Aside0.mk (blk_below (bs BK456.out) hb)
   have n8_ := Aside0.mk (blk_below (bs BK461.out) hb)
   have n9_ := Aside0.mk (blk_below (bs BK466.out) hb)
   have n10_ := Aside0.mk (below_step (by repeat (first | (with_reducible first | exact bw HB.out | refine bset ?_ | apply bA | apply bN | apply bD) | exact HB.out)) hb)
   replace HO431 := n0_
   replace HO442 := n1_
   replace HO449 := n2_
   replace BK428 := n3_
   replace BK435 := n4_
   replace BK446 := n5_
   replace BK455 := n6_
   replace BK456 := n7_
   replace BK461 := n8_
   replace BK466 := n9_
   replace HB := n10_
   clear n0_ n1_ n2_ n3_ n4_ n5_ n6_ n7_ n8_ n9_ n10_
   (try clear hb)
   (try clear hb2)
   (try clear hk)
   (try clear hi)
   refine hK.out _ _ ⟨(blk_cell BK428.out 0).trans rfl, (blk_cell BK428.out 1).trans rfl, (blk_cell BK446.out 0).trans rfl, (blk_cell BK446.out 1).trans rfl, (blk_cell BK446.out 2).trans rfl⟩ (fun hHeld => ?_)
   clear hK K
   refine norm_ (a' := ?_) ?_ ?_
   rotate_left
   ·show Act.put _ (some 75) _ = _
    simp only [aq_]
    rfl
   refine pw_ HT_ 4 (some 76) ?_
   refine pw_ HT_ 5 (some 77) ?_
   refine pw_ HT_ 6 (some 78) ?_
   refine pw_ HT_ 7 (some 79) ?_
   refine pw_ HT_ 8 (some 80) ?_
   refine pw_ HT_ 9 (some 81) ?_
   refine pw_ HT_ 10 (some 82) ?_
   refine pw_ HT_ 11 (some 83) ?_
   refine pw_ HT_ 12 (some 84) ?_
   refine pw_ HT_ 13 (some 85) ?_
   refine pw_ HT_ 14 (some 86) ?_
   refine pw_ HT_ 15 (some 87) ?_
   refine take_ (i := 16) (N := some 88) (v := ?_) (a' := ?_) q3_17 rfl rfl (take_ofW HT_.out HW_.out (by kernel_rfl)) (fun _ _ _ h => h) (Or.inl ⟨by rfl, ?_⟩) hHeld ?_ ?_
   rotate_left
   ·rintro w' ⟨s0, s1, s2, s3, s4⟩
    go_simp
    with_reducible rfl
   rotate_left
   ·simp only [aq_]
    rfl
   refine take_ (i := 18) (N := some 90) (v := ?_) (a' := ?_) q3_33 rfl rfl (take_ofW HT_.out HW_.out (by kernel_rfl)) (fun _ _ _ h => h) (Or.inl ⟨by rfl, ?_⟩) hHeld ?_ ?_
   rotate_left
   ·rintro w' ⟨s0, s1, s2, s3, s4⟩
    go_simp
    with_reducible rfl
   rotate_left
   ·simp only [aq_]
    rfl
   refine one_ (i := 17) (N := some 89) q3_19 rfl rfl (one_of HT_.out (by kernel_rfl)) (by decide) (fun K hK => ?_)
   refine goes_ Try.func17 (by kernel_rfl) rfl #[.agg #[.string t443, .string t444, .int .i64 t445]] (by rfl) rfl rfl (by (try simp only [mA_]); first | done | rfl | (simp only [List.length_drop, List.length_take]; rfl)) ?_
   with_reducible refine (impl_IsValidLog.calls k t443 t444 t445 t469 _ A81.out).mono ?_
   rintro e w88 ⟨rfl, hb⟩
   refine ⟨_, rfl, ?_⟩
   have n0_ := Aside0.mk (Kd.R_below (bR HO431.out) hb)
   have n1_ := Aside0.mk (Kd.R_below (bR HO442.out) hb)
   have n2_ := Aside0.mk (Kd.R_below (bR HO449.out) hb)
   have n3_ := Aside0.mk (blk_below (bs BK428.out) hb)
   have n4_ := Aside0.mk (blk_below (bs BK435.out) hb)
   have n5_ := Aside0.mk (blk_below (bs BK446.out) hb)
   have n6_ := Aside0.mk (blk_below (bs BK455.out) hb)
   have n7_ := Aside0.mk (blk_below (bs BK456.out) hb)
   have n8_ := Aside0.mk (blk_below (bs BK461.out) hb)
   have n9_ := Aside0.mk (blk_below (bs BK466.out) hb)
   have n10_ := Aside0.mk (below_step (by repeat (first | (with_reducible first | exact bw HB.out | refine bset ?_ | apply bA | apply bN | apply bD) | exact HB.out)) hb)
   replace HO431 := n0_
   replace HO442 := n1_
   replace HO449 := n2_
   replace BK428 := n3_
   replace BK435 := n4_
   replace BK446 := n5_
   replace BK455 := n6_
   replace BK456 := n7_
   replace BK461 := n8_
   replace BK466 := n9_
   replace HB := n10_
   clear n0_ n1_ n2_ n3_ n4_ n5_ n6_ n7_ n8_ n9_ n10_
   (try clear hb)
   (try clear hb2)
   (try clear hk)
   (try clear hi)
   refine hK.out _ _ ⟨(blk_cell BK428.out 0).trans rfl, (blk_cell BK428.out 1).trans rfl, (blk_cell BK446.out 0).trans rfl, (blk_cell BK446.out 1).trans rfl, (blk_cell BK446.out 2).trans rfl⟩ (fun hHeld => ?_)
   clear hK K
   refine norm_ (a' := ?_) ?_ ?_
   rotate_left
   ·show Act.put _ (some 89) _ = _
    simp only [aq_]
    rfl
   refine one_ (i := 19) (N := some 91) q3_20 rfl rfl (one_of HT_.out (by kernel_rfl)) (by decide) (fun K hK => ?_)
   refine goes_ Try.func18 (by kernel_rfl) rfl #[.agg #[.string t443, .string t444, .int .i64 t445]] (by rfl) rfl rfl (by (try simp only [mA_]); first | done | rfl | (simp only [List.length_drop, List.length_take]; rfl)) ?_
   with_reducible refine (spec_IsValidLog.calls k t443 t444 t445 t470 _ A82.out).mono ?_
   rintro e w89 ⟨rfl, hb⟩
   refine ⟨_, rfl, ?_⟩
   have n0_ := Aside0.mk (Kd.R_below (bR HO431.out) hb)
   have n1_ := Aside0.mk (Kd.R_below (bR HO442.out) hb)
   have n2_ := Aside0.mk (Kd.R_below (bR HO449.out) hb)
   have n3_ := Aside0.mk (blk_below (bs BK428.out) hb)
   have n4_ := Aside0.mk (blk_below (bs BK435.out) hb)
   have n5_ := Aside0.mk (blk_below (bs BK446.out) hb)
   have n6_ := Aside0.mk (blk_below (bs BK455.out) hb)
   have n7_ := Aside0.mk (blk_below (bs BK456.out) hb)
   have n8_ := Aside0.mk (blk_below (bs BK461.out) hb)
   have n9_ := Aside0.mk (blk_below (bs BK466.out) hb)
   have n10_ := Aside0.mk (below_step (by repeat (first | (with_reducible first | exact bw HB.out | refine bset ?_ | apply bA | apply bN | apply bD) | exact HB.out)) hb)
   replace HO431 := n0_
   replace HO442 := n1_
   replace HO449 := n2_
   replace BK428 := n3_
   replace BK435 := n4_
   replace BK446 := n5_
   replace BK455 := n6_
   replace BK456 := n7_
   replace BK461 := n8_
   replace BK466 := n9_
   replace HB := n10_
   clear n0_ n1_ n2_ n3_ n4_ n5_ n6_ n7_ n8_ n9_ n10_
   (try clear hb)
   (try clear hb2)
   (try clear hk)
   (try clear hi)
   refine hK.out _ _ ⟨(blk_cell BK428.out 0).trans rfl, (blk_cell BK428.out 1).trans rfl, (blk_cell BK446.out 0).trans rfl, (blk_cell BK446.out 1).trans rfl, (blk_cell BK446.out 2).trans rfl⟩ (fun hHeld => ?_)
   clear hK K
   refine norm_ (a' := ?_) ?_ ?_
   rotate_left
   ·show Act.put _ (some 91) _ = _
    simp only [aq_]
    rfl
   refine pw_ HT_ 20 (some 92) ?_
   refine pw_ HT_ 21 (some 93) ?_
   refine pw_ HT_ 22 (some 94) ?_
   refine sw_ HT_ 23 (some 95) ?_
   refine sw_ HT_ 24 (some 96) ?_
   refine sw_ HT_ 25 (some 97) ?_
   refine pw_ HT_ 26 (some 98) ?_
   refine pw_ HT_ 27 (some 99) ?_
   refine sw_ HT_ 28 (some 100) ?_
   refine sw_ HT_ 29 (some 101) ?_
   refine sw_ HT_ 30 (some 102) ?_
   refine pw_ HT_ 31 (some 103) ?_
   refine done_ (done_of HT_.out (by kernel_rfl)) ?_
   try go_wp2
   go_meet
   case rel => exact ⟨_, (true), (by first | rfl | (simp; done) | (simp [*]; done)), H', ⟨by first | omega | exact Nat.le_refl _⟩, ⟨bs BK428.out⟩, ⟨bs BK435.out⟩, ⟨bs BK446.out⟩, ⟨bs BK455.out⟩, ⟨bs BK456.out⟩, ⟨bs BK461.out⟩, ⟨bs BK466.out⟩, ⟨by repeat (first | (with_reducible first | exact bw HB.out | refine bset ?_ | apply bA | apply bN | apply bD) | exact HB.out)⟩⟩
  rw [if_neg c83] at H
  have c83b0 : (t469 != t470) = false := by simpa using c83
  (try (have c83b1 : decide (t469 = t470) = true := by simpa using c83))
  (try (have c83b2 : (t469 == t470) = true := by simpa using c83))
  clear c83
  by_cases c90 : (!(t457.toList == t462.toList) || (!(t458.toList == t463.toList) || (!(t459 == t464)))) = true
  ·rw [if_pos c90] at H
   have c90b0 : (!(t457.toList == t462.toList) || (!(t458.toList == t463.toList) || (!(t459 == t464)))) = true := c90
   clear c90
   have H' := Aside0.mk H
   clear H
   try go_wp2
   have n0_ : Aside0 (Kd.R (Kd.int .u8) 5 (((w60.setCell ⟨gb466, 0, none⟩ (.string t462)).setCell ⟨gb466, 1, none⟩ (.string t463)).setCell ⟨gb466, 2, none⟩ (.int .i64 t464)) w.heap.size (fun k_ => some k_ ≠ (.slice Ao29 t440.length co29 : Value).ownBlock ∧ some k_ ≠ (.slice Ao36 t447.length co36 : Value).ownBlock) (.slice Ao20 t429.length co20) t429) := ⟨by (with_reducible repeat (first | apply Kd.R_alloc | apply Kd.R_drewN | apply Kd.R_drew)); exact Kd.R_mono (Kd.R_far (p := ⟨gb466, 2, none⟩) (Kd.R_far (p := ⟨gb466, 1, none⟩) (Kd.R_far (p := ⟨gb466, 0, none⟩) (Kd.R_types HO431.out BK466.out (by decide)) (fun _ hk => hk.2) (.string t462)) (fun _ hk => hk.2) (.string t463)) (fun _ hk => hk.2) (.int .i64 t464)) (fun _ hk => ⟨hk.1.1.2, hk.1.2⟩)⟩
   have n1_ : Aside0 (Kd.R (Kd.int .u8) 5 (((w60.setCell ⟨gb466, 0, none⟩ (.string t462)).setCell ⟨gb466, 1, none⟩ (.string t463)).setCell ⟨gb466, 2, none⟩ (.int .i64 t464)) w.heap.size (fun k_ => some k_ ≠ (.slice Ao20 t429.length co20 : Value).ownBlock ∧ some k_ ≠ (.slice Ao36 t447.length co36 : Value).ownBlock) (.slice Ao29 t440.length co29) t440) := ⟨by (with_reducible repeat (first | apply Kd.R_alloc | apply Kd.R_drewN | apply Kd.R_drew)); exact Kd.R_mono (Kd.R_far (p := ⟨gb466, 2, none⟩) (Kd.R_far (p := ⟨gb466, 1, none⟩) (Kd.R_far (p := ⟨gb466, 0, none⟩) (Kd.R_types HO442.out BK466.out (by decide)) (fun _ hk => hk.2) (.string t462)) (fun _ hk => hk.2) (.string t463)) (fun _ hk => hk.2) (.int .i64 t464)) (fun _ hk => ⟨hk.1.1.2, hk.1.2⟩)⟩
   have n2_ : Aside0 (Kd.R (Kd.int .u8) 5 (((w60.setCell ⟨gb466, 0, none⟩ (.string t462)).setCell ⟨gb466, 1, none⟩ (.string t463)).setCell ⟨gb466, 2, none⟩ (.int .i64 t464)) w.heap.size (fun k_ => some k_ ≠ (.slice Ao20 t429.length co20 : Value).ownBlock ∧ some k_ ≠ (.slice Ao29 t440.length co29 : Value).ownBlock) (.slice Ao36 t447.length co36) t447) := ⟨by (with_reducible repeat (first | apply Kd.R_alloc | apply Kd.R_drewN | apply Kd.R_drew)); exact Kd.R_mono (Kd.R_far (p := ⟨gb466, 2, none⟩) (Kd.R_far (p := ⟨gb466, 1, none⟩) (Kd.R_far (p := ⟨gb466, 0, none⟩) (Kd.R_types HO449.out BK466.out (by decide)) (fun _ hk => hk.2) (.string t462)) (fun _ hk => hk.2) (.string t463)) (fun _ hk => hk.2) (.int .i64 t464)) (fun _ hk => ⟨hk.1.1.2, hk.1.2⟩)⟩
   have n3_ : Aside0 ((((w60.setCell ⟨gb466, 0, none⟩ (.string t462)).setCell ⟨gb466, 1, none⟩ (.string t463)).setCell ⟨gb466, 2, none⟩ (.int .i64 t464)).heap[gb428]? = some (.cells #[.string t426, .string t427] 25 (0, 0))) := ⟨by (with_reducible repeat (first | refine blk_drewN ?_ _ | refine blk_drew ?_ | refine blk_alloc ?_ _)); refine blk_far ?_ NB428_466.out _; (with_reducible repeat (first | refine blk_drewN ?_ _ | refine blk_drew ?_ | refine blk_alloc ?_ _)); refine blk_far ?_ NB428_466.out _; (with_reducible repeat (first | refine blk_drewN ?_ _ | refine blk_drew ?_ | refine blk_alloc ?_ _)); refine blk_far ?_ NB428_466.out _; exact bs BK428.out⟩
   have n4_ : Aside0 ((((w60.setCell ⟨gb466, 0, none⟩ (.string t462)).setCell ⟨gb466, 1, none⟩ (.string t463)).setCell ⟨gb466, 2, none⟩ (.int .i64 t464)).heap[gb435]? = some (.cells #[.string t433, .string t434] 25 (0, 0))) := ⟨by (with_reducible repeat (first | refine blk_drewN ?_ _ | refine blk_drew ?_ | refine blk_alloc ?_ _)); refine blk_far ?_ NB435_466.out _; (with_reducible repeat (first | refine blk_drewN ?_ _ | refine blk_drew ?_ | refine blk_alloc ?_ _)); refine blk_far ?_ NB435_466.out _; (with_reducible repeat (first | refine blk_drewN ?_ _ | refine blk_drew ?_ | refine blk_alloc ?_ _)); refine blk_far ?_ NB435_466.out _; exact bs BK435.out⟩
   have n5_ : Aside0 ((((w60.setCell ⟨gb466, 0, none⟩ (.string t462)).setCell ⟨gb466, 1, none⟩ (.string t463)).setCell ⟨gb466, 2, none⟩ (.int .i64 t464)).heap[gb446]? = some (.cells #[.string t443, .string t444, .int .i64 t445] 33 (0, 0))) := ⟨by (with_reducible repeat (first | refine blk_drewN ?_ _ | refine blk_drew ?_ | refine blk_alloc ?_ _)); refine blk_far ?_ NB446_466.out _; (with_reducible repeat (first | refine blk_drewN ?_ _ | refine blk_drew ?_ | refine blk_alloc ?_ _)); refine blk_far ?_ NB446_466.out _; (with_reducible repeat (first | refine blk_drewN ?_ _ | refine blk_drew ?_ | refine blk_alloc ?_ _)); refine blk_far ?_ NB446_466.out _; exact bs BK446.out⟩
   have n6_ : Aside0 ((((w60.setCell ⟨gb466, 0, none⟩ (.string t462)).setCell ⟨gb466, 1, none⟩ (.string t463)).setCell ⟨gb466, 2, none⟩ (.int .i64 t464)).heap[gb455]? = some (.cells #[.string t450, .string t451, .int .i64 t452] 33 (0, 0))) := ⟨by (with_reducible repeat (first | refine blk_drewN ?_ _ | refine blk_drew ?_ | refine blk_alloc ?_ _)); refine blk_far ?_ NB455_466.out _; (with_reducible repeat (first | refine blk_drewN ?_ _ | refine blk_drew ?_ | refine blk_alloc ?_ _)); refine blk_far ?_ NB455_466.out _; (with_reducible repeat (first | refine blk_drewN ?_ _ | refine blk_drew ?_ | refine blk_alloc ?_ _)); refine blk_far ?_ NB455_466.out _; exact bs BK455.out⟩
   have n7_ : Aside0 ((((w60.setCell ⟨gb466, 0, none⟩ (.string t462)).setCell ⟨gb466, 1, none⟩ (.string t463)).setCell ⟨gb466, 2, none⟩ (.int .i64 t464)).heap[gb456]? = some (.cells #[.string t453, .string t454] 25 (0, 0))) := ⟨by (with_reducible repeat (first | refine blk_drewN ?_ _ | refine blk_drew ?_ | refine blk_alloc ?_ _)); refine blk_far ?_ NB456_466.out _; (with_reducible repeat (first | refine blk_drewN ?_ _ | refine blk_drew ?_ | refine blk_alloc ?_ _)); refine blk_far ?_ NB456_466.out _; (with_reducible repeat (first | refine blk_drewN ?_ _ | refine blk_drew ?_ | refine blk_alloc ?_ _)); refine blk_far ?_ NB456_466.out _; exact bs BK456.out⟩
   have n8_ : Aside0 ((((w60.setCell ⟨gb466, 0, none⟩ (.string t462)).setCell ⟨gb466, 1, none⟩ (.string t463)).setCell ⟨gb466, 2, none⟩ (.int .i64 t464)).heap[gb461]? = some (.cells #[.string t457, .string t458, .int .i64 t459] 33 (0, 0))) := ⟨by (with_reducible repeat (first | refine blk_drewN ?_ _ | refine blk_drew ?_ | refine blk_alloc ?_ _)); refine blk_far ?_ NB461_466.out _; (with_reducible repeat (first | refine blk_drewN ?_ _ | refine blk_drew ?_ | refine blk_alloc ?_ _)); refine blk_far ?_ NB461_466.out _; (with_reducible repeat (first | refine blk_drewN ?_ _ | refine blk_drew ?_ | refine blk_alloc ?_ _)); refine blk_far ?_ NB461_466.out _; exact bs BK461.out⟩
   have n9_ : Aside0 ((((w60.setCell ⟨gb466, 0, none⟩ (.string t462)).setCell ⟨gb466, 1, none⟩ (.string t463)).setCell ⟨gb466, 2, none⟩ (.int .i64 t464)).heap[gb466]? = some (.cells #[.string t462, .string t463, .int .i64 t464] 33 (0, 0))) := ⟨by (with_reducible repeat (first | refine blk_drewN ?_ _ | refine blk_drew ?_ | refine blk_alloc ?_ _)); refine blk_put (cs := #[.string t462, .string t463, .int .i64 0]) ?_ 2 _ rfl; (with_reducible repeat (first | refine blk_drewN ?_ _ | refine blk_drew ?_ | refine blk_alloc ?_ _)); refine blk_put (cs := #[.string t462, .string (⟨#[]⟩ : ByteArray), .int .i64 0]) ?_ 1 _ rfl; (with_reducible repeat (first | refine blk_drewN ?_ _ | refine blk_drew ?_ | refine blk_alloc ?_ _)); refine blk_put (cs := #[.string (⟨#[]⟩ : ByteArray), .string (⟨#[]⟩ : ByteArray), .int .i64 0]) ?_ 0 _ rfl; exact bs BK466.out⟩
   have n10_ : Aside0 (Below w.heap.size w (((w60.setCell ⟨gb466, 0, none⟩ (.string t462)).setCell ⟨gb466, 1, none⟩ (.string t463)).setCell ⟨gb466, 2, none⟩ (.int .i64 t464))) := ⟨by repeat (first | (with_reducible first | exact bw HB.out | refine bset ?_ | apply bA | apply bN | apply bD) | exact HB.out)⟩
   (try clear HO431)
   (try clear HO442)
   (try clear HO449)
   (try clear BK428)
   (try clear BK435)
   (try clear BK446)
   (try clear BK455)
   (try clear BK456)
   (try clear BK461)
   (try clear BK466)
   (try clear HB)
   (try simp only [setCell_drewN])
   generalize (((w60.setCell ⟨gb466, 0, none⟩ (.string t462)).setCell ⟨gb466, 1, none⟩ (.string t463)).setCell ⟨gb466, 2, none⟩ (.int .i64 t464)) = w91 at n0_ n1_ n2_ n3_ n4_ n5_ n6_ n7_ n8_ n9_ n10_ ⊢
   have HO431 := n0_
   have HO442 := n1_
   have HO449 := n2_
   have BK428 := n3_
   have BK435 := n4_
   have BK446 := n5_
   have BK455 := n6_
   have BK456 := n7_
   have BK461 := n8_
   have BK466 := n9_
   have HB := n10_
   clear n0_ n1_ n2_ n3_ n4_ n5_ n6_ n7_ n8_ n9_ n10_
   have n0_ := Aside0.mk (Kd.R_drew HO431.out)
   have n1_ := Aside0.mk (Kd.R_drew HO442.out)
   have n2_ := Aside0.mk (Kd.R_drew HO449.out)
   have n3_ := Aside0.mk (blk_drew BK428.out)
   have n4_ := Aside0.mk (blk_drew BK435.out)
   have n5_ := Aside0.mk (blk_drew BK446.out)
   have n6_ := Aside0.mk (blk_drew BK455.out)
   have n7_ := Aside0.mk (blk_drew BK456.out)
   have n8_ := Aside0.mk (blk_drew BK461.out)
   have n9_ := Aside0.mk (blk_drew BK466.out)
   have n10_ := Aside0.mk (below_drew1 HB.out)
   replace HO431 := n0_
   replace HO442 := n1_
   replace HO449 := n2_
   replace BK428 := n3_
   replace BK435 := n4_
   replace BK446 := n5_
   replace BK455 := n6_
   replace BK456 := n7_
   replace BK461 := n8_
   replace BK466 := n9_
   replace HB := n10_
   clear n0_ n1_ n2_ n3_ n4_ n5_ n6_ n7_ n8_ n9_ n10_
   refine start_ (n := 32) (S := fun w' => w'.cell? ⟨gb428, 0, none⟩ = some (.string t426) ∧ w'.cell? ⟨gb428, 1, none⟩ = some (.string t427) ∧ w'.cell? ⟨gb446, 0, none⟩ = some (.string t443) ∧ w'.cell? ⟨gb446, 1, none⟩ = some (.string t444) ∧ w'.cell? ⟨gb446, 2, none⟩ = some (.int .i64 t445) ∧ w'.cell? ⟨gb461, 0, none⟩ = some (.string t457) ∧ w'.cell? ⟨gb461, 1, none⟩ = some (.string t458) ∧ w'.cell? ⟨gb461, 2, none⟩ = some (.int .i64 t459) ∧ w'.cell? ⟨gb466, 0, none⟩ = some (.string t462) ∧ w'.cell? ⟨gb466, 1, none⟩ = some (.string t463) ∧ w'.cell? ⟨gb466, 2, none⟩ = some (.int .i64 t464)) (ds := []) q3_0 (by kernel_rfl) rfl rfl ⟨(blk_cell BK428.out 0).trans rfl, (blk_cell BK428.out 1).trans rfl, (blk_cell BK446.out 0).trans rfl, (blk_cell BK446.out 1).trans rfl, (blk_cell BK446.out 2).trans rfl, (blk_cell BK461.out 0).trans rfl, (blk_cell BK461.out 1).trans rfl, (blk_cell BK461.out 2).trans rfl, (blk_cell BK466.out 0).trans rfl, (blk_cell BK466.out 1).trans rfl, (blk_cell BK466.out 2).trans rfl⟩ (fun hHeld => ?_); refine with_tabW laws_FnLogs.tab11 laws_FnLogs.bits11 (fun HT_ HW_ => ?_)
   generalize w91.drew = w92 at HO431 HO442 HO449 BK428 BK435 BK446 BK455 BK456 BK461 BK466 HB hHeld ⊢
   refine take_ (i := 0) (N := some 72) (v := ?_) (a' := ?_) q3_1 rfl rfl (take_ofW HT_.out HW_.out (by kernel_rfl)) (fun _ _ _ h => h) (Or.inl ⟨by rfl, ?_⟩) hHeld ?_ ?_
   rotate_left
   ·rintro w' ⟨s0, s1, s2, s3, s4, s5, s6, s7, s8, s9, s10⟩
    go_simp
    with_reducible rfl
   rotate_left
   ·simp only [aq_]
    rfl
   refine take_ (i := 2) (N := some 74) (v := ?_) (a' := ?_) q3_2 rfl rfl (take_ofW HT_.out HW_.out (by kernel_rfl)) (fun _ _ _ h => h) (Or.inl ⟨by rfl, ?_⟩) hHeld ?_ ?_
   rotate_left
   ·rintro w' ⟨s0, s1, s2, s3, s4, s5, s6, s7, s8, s9, s10⟩
    go_simp
    with_reducible rfl
   rotate_left
   ·simp only [aq_]
    rfl
   refine one_ (i := 1) (N := some 73) q3_3 rfl rfl (one_of HT_.out (by kernel_rfl)) (by decide) (fun K hK => ?_)
   refine goes_ Try.func15 (by kernel_rfl) rfl #[.agg #[.string t426, .string t427]] (by rfl) rfl rfl (by (try simp only [mA_]); first | done | rfl | (simp only [List.length_drop, List.length_take]; rfl)) ?_
   with_reducible refine (impl_IsValidRecord.calls k t426 t427 t467 _ A68.out).mono ?_
   rintro e w93 ⟨rfl, hb⟩
   refine ⟨_, rfl, ?_⟩
   have n0_ := Aside0.mk (Kd.R_below (bR HO431.out) hb)
   have n1_ := Aside0.mk (Kd.R_below (bR HO442.out) hb)
   have n2_ := Aside0.mk (Kd.R_below (bR HO449.out) hb)
   have n3_ := Aside0.mk (blk_below (bs BK428.out) hb)
   have n4_ := Aside0.mk (blk_below (bs BK435.out) hb)
   have n5_ := Aside0.mk (blk_below (bs BK446.out) hb)
   have n6_ := Aside0.mk (blk_below (bs BK455.out) hb)
   have n7_ := Aside0.mk (blk_below (bs BK456.out) hb)
   have n8_ := Aside0.mk (blk_below (bs BK461.out) hb)
   have n9_ := Aside0.mk (blk_below (bs BK466.out) hb)
   have n10_ := Aside0.mk (below_step (by repeat (first | (with_reducible first | exact bw HB.out | refine bset ?_ | apply bA | apply bN | apply bD) | exact HB.out)) hb)
   replace HO431 := n0_
   replace HO442 := n1_
   replace HO449 := n2_
   replace BK428 := n3_
   replace BK435 := n4_
   replace BK446 := n5_
   replace BK455 := n6_
   replace BK456 := n7_
   replace BK461 := n8_
   replace BK466 := n9_
   replace HB := n10_
   clear n0_ n1_ n2_ n3_ n4_ n5_ n6_ n7_ n8_ n9_ n10_
   (try clear hb)
   (try clear hb2)
   (try clear hk)
   (try clear hi)
   refine hK.out _ _ ⟨(blk_cell BK428.out 0).trans rfl, (blk_cell BK428.out 1).trans rfl, (blk_cell BK446.out 0).trans rfl, (blk_cell BK446.out 1).trans rfl, (blk_cell BK446.out 2).trans rfl, (blk_cell BK461.out 0).trans rfl, (blk_cell BK461.out 1).trans rfl, (blk_cell BK461.out 2).trans rfl, (blk_cell BK466.out 0).trans rfl, (blk_cell BK466.out 1).trans rfl, (blk_cell BK466.out 2).trans rfl⟩ (fun hHeld => ?_)
   clear hK K
   refine norm_ (a' := ?_) ?_ ?_
   rotate_left
   ·show Act.put _ (some 73) _ = _
    simp only [aq_]
    rfl
   refine one_ (i := 3) (N := some 75) q3_4 rfl rfl (one_of HT_.out (by kernel_rfl)) (by decide) (fun K hK => ?_)
   refine goes_ Try.func16 (by kernel_rfl) rfl #[.agg #[.string t426, .string t427]] (by rfl) rfl rfl (by (try simp only [mA_]); first | done | rfl | (simp only [List.length_drop, List.length_take]; rfl)) ?_
   with_reducible refine (spec_IsValidRecord.calls k t426 t427 t468 _ A69.out).mono ?_
   rintro e w94 ⟨rfl, hb⟩
   refine ⟨_, rfl, ?_⟩
   have n0_ := Aside0.mk (Kd.R_below (bR HO431.out) hb)
   have n1_ := Aside0.mk (Kd.R_below (bR HO442.out) hb)
   have n2_ := Aside0.mk (Kd.R_below (bR HO449.out) hb)
   have n3_ := Aside0.mk (blk_below (bs BK428.out) hb)
   have n4_ := Aside0.mk (blk_below (bs BK435.out) hb)
   have n5_ := Aside0.mk (blk_below (bs BK446.out) hb)
   have n6_ := Aside0.mk (blk_below (bs BK455.out) hb)
   have n7_ := Aside0.mk (blk_below (bs BK456.out) hb)
   have n8_ := Aside0.mk (blk_below (bs BK461.out) hb)
   have n9_ := Aside0.mk (blk_below (bs BK466.out) hb)
   have n10_ := Aside0.mk (below_step (by repeat (first | (with_reducible first | exact bw HB.out | refine bset ?_ | apply bA | apply bN | apply bD) | exact HB.out)) hb)
   replace HO431 := n0_
   replace HO442 := n1_
   replace HO449 := n2_
   replace BK428 := n3_
   replace BK435 := n4_
   replace BK446 := n5_
   replace BK455 := n6_
   replace BK456 := n7_
   replace BK461 := n8_
   replace BK466 := n9_
   replace HB := n10_
   clear n0_ n1_ n2_ n3_ n4_ n5_ n6_ n7_ n8_ n9_ n10_
   (try clear hb)
   (try clear hb2)
   (try clear hk)
   (try clear hi)
   refine hK.out _ _ ⟨(blk_cell BK428.out 0).trans rfl, (blk_cell BK428.out 1).trans rfl, (blk_cell BK446.out 0).trans rfl, (blk_cell BK446.out 1).trans rfl, (blk_cell BK446.out 2).trans rfl, (blk_cell BK461.out 0).trans rfl, (blk_cell BK461.out 1).trans rfl, (blk_cell BK461.out 2).trans rfl, (blk_cell BK466.out 0).trans rfl, (blk_cell BK466.out 1).trans rfl, (blk_cell BK466.out 2).trans rfl⟩ (fun hHeld => ?_)
   clear hK K
   refine norm_ (a' := ?_) ?_ ?_
   rotate_left
   ·show Act.put _ (some 75) _ = _
    simp only [aq_]
    rfl
   refine pw_ HT_ 4 (some 76) ?_
   refine pw_ HT_ 5 (some 77) ?_
   refine pw_ HT_ 6 (some 78) ?_
   refine pw_ HT_ 7 (some 79) ?_
   refine pw_ HT_ 8 (some 80) ?_
   refine pw_ HT_ 9 (some 81) ?_
   refine pw_ HT_ 10 (some 82) ?_
   refine pw_ HT_ 11 (some 83) ?_
   refine pw_ HT_ 12 (some 84) ?_
   refine pw_ HT_ 13 (some 85) ?_
   refine pw_ HT_ 14 (some 86) ?_
   refine pw_ HT_ 15 (some 87) ?_
   refine take_ (i := 16) (N := some 88) (v := ?_) (a' := ?_) q3_17 rfl rfl (take_ofW HT_.out HW_.out (by kernel_rfl)) (fun _ _ _ h => h) (Or.inl ⟨by rfl, ?_⟩) hHeld ?_ ?_
   rotate_left
   ·rintro w' ⟨s0, s1, s2, s3, s4, s5, s6, s7, s8, s9, s10⟩
    go_simp
    with_reducible rfl
   rotate_left
   ·simp only [aq_]
    rfl
   refine take_ (i := 18) (N := some 90) (v := ?_) (a' := ?_) q3_33 rfl rfl (take_ofW HT_.out HW_.out (by kernel_rfl)) (fun _ _ _ h => h) (Or.inl ⟨by rfl, ?_⟩) hHeld ?_ ?_
   rotate_left
   ·rintro w' ⟨s0, s1, s2, s3, s4, s5, s6, s7, s8, s9, s10⟩
    go_simp
    with_reducible rfl
   rotate_left
   ·simp only [aq_]
    rfl
   refine one_ (i := 17) (N := some 89) q3_19 rfl rfl (one_of HT_.out (by kernel_rfl)) (by decide) (fun K hK => ?_)
   refine goes_ Try.func17 (by kernel_rfl) rfl #[.agg #[.string t443, .string t444, .int .i64 t445]] (by rfl) rfl rfl (by (try simp only [mA_]); first | done | rfl | (simp only [List.length_drop, List.length_take]; rfl)) ?_
   with_reducible refine (impl_IsValidLog.calls k t443 t444 t445 t469 _ A81.out).mono ?_
   rintro e w95 ⟨rfl, hb⟩
   refine ⟨_, rfl, ?_⟩
   have n0_ := Aside0.mk (Kd.R_below (bR HO431.out) hb)
   have n1_ := Aside0.mk (Kd.R_below (bR HO442.out) hb)
   have n2_ := Aside0.mk (Kd.R_below (bR HO449.out) hb)
   have n3_ := Aside0.mk (blk_below (bs BK428.out) hb)
   have n4_ := Aside0.mk (blk_below (bs BK435.out) hb)
   have n5_ := Aside0.mk (blk_below (bs BK446.out) hb)
   have n6_ := Aside0.mk (blk_below (bs BK455.out) hb)
   have n7_ := Aside0.mk (blk_below (bs BK456.out) hb)
   have n8_ := Aside0.mk (blk_below (bs BK461.out) hb)
   have n9_ := Aside0.mk (blk_below (bs BK466.out) hb)
   have n10_ := Aside0.mk (below_step (by repeat (first | (with_reducible first | exact bw HB.out | refine bset ?_ | apply bA | apply bN | apply bD) | exact HB.out)) hb)
   replace HO431 := n0_
   replace HO442 := n1_
   replace HO449 := n2_
   replace BK428 := n3_
   replace BK435 := n4_
   replace BK446 := n5_
   replace BK455 := n6_
   replace BK456 := n7_
   replace BK461 := n8_
   replace BK466 := n9_
   replace HB := n10_
   clear n0_ n1_ n2_ n3_ n4_ n5_ n6_ n7_ n8_ n9_ n10_
   (try clear hb)
   (try clear hb2)
   (try clear hk)
   (try clear hi)
   refine hK.out _ _ ⟨(blk_cell BK428.out 0).trans rfl, (blk_cell BK428.out 1).trans rfl, (blk_cell BK446.out 0).trans rfl, (blk_cell BK446.out 1).trans rfl, (blk_cell BK446.out 2).trans rfl, (blk_cell BK461.out 0).trans rfl, (blk_cell BK461.out 1).trans rfl, (blk_cell BK461.out 2).trans rfl, (blk_cell BK466.out 0).trans rfl, (blk_cell BK466.out 1).trans rfl, (blk_cell BK466.out 2).trans rfl⟩ (fun hHeld => ?_)
   clear hK K
   refine norm_ (a' := ?_) ?_ ?_
   rotate_left
   ·show Act.put _ (some 89) _ = _
    simp only [aq_]
    rfl
   refine one_ (i := 19) (N := some 91) q3_20 rfl rfl (one_of HT_.out (by kernel_rfl)) (by decide) (fun K hK => ?_)
   refine goes_ Try.func18 (by kernel_rfl) rfl #[.agg #[.string t443, .string t444, .int .i64 t445]] (by rfl) rfl rfl (by (try simp only [mA_]); first | done | rfl | (simp only [List.length_drop, List.length_take]; rfl)) ?_
   with_reducible refine (spec_IsValidLog.calls k t443 t444 t445 t470 _ A82.out).mono ?_
   rintro e w96 ⟨rfl, hb⟩
   refine ⟨_, rfl, ?_⟩
   have n0_ := Aside0.mk (Kd.R_below (bR HO431.out) hb)
   have n1_ := Aside0.mk (Kd.R_below (bR HO442.out) hb)
   have n2_ := Aside0.mk (Kd.R_below (bR HO449.out) hb)
   have n3_ := Aside0.mk (blk_below (bs BK428.out) hb)
   have n4_ := Aside0.mk (blk_below (bs BK435.out) hb)
   have n5_ := Aside0.mk (blk_below (bs BK446.out) hb)
   have n6_ := Aside0.mk (blk_below (bs BK455.out) hb)
   have n7_ := Aside0.mk (blk_below (bs BK456.out) hb)
   have n8_ := Aside0.mk (blk_below (bs BK461.out) hb)
   have n9_ := Aside0.mk (blk_below (bs BK466.out) hb)
   have n10_ := Aside0.mk (below_step (by repeat (first | (with_reducible first | exact bw HB.out | refine bset ?_ | apply bA | apply bN | apply bD) | exact HB.out)) hb)
   replace HO431 := n0_
   replace HO442 := n1_
   replace HO449 := n2_
   replace BK428 := n3_
   replace BK435 := n4_
   replace BK446 := n5_
   replace BK455 := n6_
   replace BK456 := n7_
   replace BK461 := n8_
   replace BK466 := n9_
   replace HB := n10_
   clear n0_ n1_ n2_ n3_ n4_ n5_ n6_ n7_ n8_ n9_ n10_
   (try clear hb)
   (try clear hb2)
   (try clear hk)
   (try clear hi)
   refine hK.out _ _ ⟨(blk_cell BK428.out 0).trans rfl, (blk_cell BK428.out 1).trans rfl, (blk_cell BK446.out 0).trans rfl, (blk_cell BK446.out 1).trans rfl, (blk_cell BK446.out 2).trans rfl, (blk_cell BK461.out 0).trans rfl, (blk_cell BK461.out 1).trans rfl, (blk_cell BK461.out 2).trans rfl, (blk_cell BK466.out 0).trans rfl, (blk_cell BK466.out 1).trans rfl, (blk_cell BK466.out 2).trans rfl⟩ (fun hHeld => ?_)
   clear hK K
   refine norm_ (a' := ?_) ?_ ?_
   rotate_left
   ·show Act.put _ (some 91) _ = _
    simp only [aq_]
    rfl
   refine pw_ HT_ 20 (some 92) ?_
   refine pw_ HT_ 21 (some 93) ?_
   refine pw_ HT_ 22 (some 94) ?_
   refine take_ (i := 23) (N := some 95) (v := ?_) (a' := ?_) q3_24 rfl rfl (take_ofW HT_.out HW_.out (by kernel_rfl)) (fun _ _ _ h => h) (Or.inl ⟨by rfl, ?_⟩) hHeld ?_ ?_
   rotate_left
   ·rintro w' ⟨s0, s1, s2, s3, s4, s5, s6, s7, s8, s9, s10⟩
    go_simp
    with_reducible rfl
   rotate_left
   ·simp only [aq_]
    rfl
   refine take_ (i := 24) (N := some 96) (v := ?_) (a' := ?_) q3_25 rfl rfl (take_ofW HT_.out HW_.out (by kernel_rfl)) (fun _ _ _ h => h) (Or.inl ⟨by rfl, ?_⟩) hHeld ?_ ?_
   rotate_left
   ·rintro w' ⟨s0, s1, s2, s3, s4, s5, s6, s7, s8, s9, s10⟩
    go_simp
    with_reducible rfl
   rotate_left
   ·simp only [aq_]
    rfl
   refine pw_ HT_ 25 (some 97) ?_
   refine pw_ HT_ 26 (some 98) ?_
   refine pw_ HT_ 27 (some 99) ?_
   refine sw_ HT_ 28 (some 100) ?_
   refine sw_ HT_ 29 (some 101) ?_
   refine sw_ HT_ 30 (some 102) ?_
   refine pw_ HT_ 31 (some 103) ?_
   refine done_ (done_of HT_.out (by kernel_rfl)) ?_
   try go_wp2
   go_meet
   case rel => exact ⟨_, (true), (by first | rfl | (simp; done) | (simp [*]; done)), H', ⟨by first | omega | exact Nat.le_refl _⟩, ⟨bs BK428.out⟩, ⟨bs BK435.out⟩, ⟨bs BK446.out⟩, ⟨bs BK455.out⟩, ⟨bs BK456.out⟩, ⟨bs BK461.out⟩, ⟨bs BK466.out⟩, ⟨by repeat (first | (with_reducible first | exact bw HB.out | refine bset ?_ | apply bA | apply bN | apply bD) | exact HB.out)⟩⟩
  rw [if_neg c90] at H
  have c90b0 : (!(t457.toList == t462.toList) || (!(t458.toList == t463.toList) || (!(t459 == t464)))) = false := by simpa using c90
  clear c90
  have H' := Aside0.mk H
  clear H
  try go_wp2
  have n0_ : Aside0 (Kd.R (Kd.int .u8) 5 (((w60.setCell ⟨gb466, 0, none⟩ (.string t462)).setCell ⟨gb466, 1, none⟩ (.string t463)).setCell ⟨gb466, 2, none⟩ (.int .i64 t464)) w.heap.size (fun k_ => some k_ ≠ (.slice Ao29 t440.length co29 : Value).ownBlock ∧ some k_ ≠ (.slice Ao36 t447.length co36 : Value).ownBlock) (.slice Ao20 t429.length co20) t429) := ⟨by (with_reducible repeat (first | apply Kd.R_alloc | apply Kd.R_drewN | apply Kd.R_drew)); exact Kd.R_mono (Kd.R_far (p := ⟨gb466, 2, none⟩) (Kd.R_far (p := ⟨gb466, 1, none⟩) (Kd.R_far (p := ⟨gb466, 0, none⟩) (Kd.R_types HO431.out BK466.out (by decide)) (fun _ hk => hk.2) (.string t462)) (fun _ hk => hk.2) (.string t463)) (fun _ hk => hk.2) (.int .i64 t464)) (fun _ hk => ⟨hk.1.1.2, hk.1.2⟩)⟩
  have n1_ : Aside0 (Kd.R (Kd.int .u8) 5 (((w60.setCell ⟨gb466, 0, none⟩ (.string t462)).setCell ⟨gb466, 1, none⟩ (.string t463)).setCell ⟨gb466, 2, none⟩ (.int .i64 t464)) w.heap.size (fun k_ => some k_ ≠ (.slice Ao20 t429.length co20 : Value).ownBlock ∧ some k_ ≠ (.slice Ao36 t447.length co36 : Value).ownBlock) (.slice Ao29 t440.length co29) t440) := ⟨by (with_reducible repeat (first | apply Kd.R_alloc | apply Kd.R_drewN | apply Kd.R_drew)); exact Kd.R_mono (Kd.R_far (p := ⟨gb466, 2, none⟩) (Kd.R_far (p := ⟨gb466, 1, none⟩) (Kd.R_far (p := ⟨gb466, 0, none⟩) (Kd.R_types HO442.out BK466.out (by decide)) (fun _ hk => hk.2) (.string t462)) (fun _ hk => hk.2) (.string t463)) (fun _ hk => hk.2) (.int .i64 t464)) (fun _ hk => ⟨hk.1.1.2, hk.1.2⟩)⟩
  have n2_ : Aside0 (Kd.R (Kd.int .u8) 5 (((w60.setCell ⟨gb466, 0, none⟩ (.string t462)).setCell ⟨gb466, 1, none⟩ (.string t463)).setCell ⟨gb466, 2, none⟩ (.int .i64 t464)) w.heap.size (fun k_ => some k_ ≠ (.slice Ao20 t429.length co20 : Value).ownBlock ∧ some k_ ≠ (.slice Ao29 t440.length co29 : Value).ownBlock) (.slice Ao36 t447.length co36) t447) := ⟨by (with_reducible repeat (first | apply Kd.R_alloc | apply Kd.R_drewN | apply Kd.R_drew)); exact Kd.R_mono (Kd.R_far (p := ⟨gb466, 2, none⟩) (Kd.R_far (p := ⟨gb466, 1, none⟩) (Kd.R_far (p := ⟨gb466, 0, none⟩) (Kd.R_types HO449.out BK466.out (by decide)) (fun _ hk => hk.2) (.string t462)) (fun _ hk => hk.2) (.string t463)) (fun _ hk => hk.2) (.int .i64 t464)) (fun _ hk => ⟨hk.1.1.2, hk.1.2⟩)⟩
  have n3_ : Aside0 ((((w60.setCell ⟨gb466, 0, none⟩ (.string t462)).setCell ⟨gb466, 1, none⟩ (.string t463)).setCell ⟨gb466, 2, none⟩ (.int .i64 t464)).heap[gb428]? = some (.cells #[.string t426, .string t427] 25 (0, 0))) := ⟨by (with_reducible repeat (first | refine blk_drewN ?_ _ | refine blk_drew ?_ | refine blk_alloc ?_ _)); refine blk_far ?_ NB428_466.out _; (with_reducible repeat (first | refine blk_drewN ?_ _ | refine blk_drew ?_ | refine blk_alloc ?_ _)); refine blk_far ?_ NB428_466.out _; (with_reducible repeat (first | refine blk_drewN ?_ _ | refine blk_drew ?_ | refine blk_alloc ?_ _)); refine blk_far ?_ NB428_466.out _; exact bs BK428.out⟩
  have n4_ : Aside0 ((((w60.setCell ⟨gb466, 0, none⟩ (.string t462)).setCell ⟨gb466, 1, none⟩ (.string t463)).setCell ⟨gb466, 2, none⟩ (.int .i64 t464)).heap[gb435]? = some (.cells #[.string t433, .string t434] 25 (0, 0))) := ⟨by (with_reducible repeat (first | refine blk_drewN ?_ _ | refine blk_drew ?_ | refine blk_alloc ?_ _)); refine blk_far ?_ NB435_466.out _; (with_reducible repeat (first | refine blk_drewN ?_ _ | refine blk_drew ?_ | refine blk_alloc ?_ _)); refine blk_far ?_ NB435_466.out _; (with_reducible repeat (first | refine blk_drewN ?_ _ | refine blk_drew ?_ | refine blk_alloc ?_ _)); refine blk_far ?_ NB435_466.out _; exact bs BK435.out⟩
  have n5_ : Aside0 ((((w60.setCell ⟨gb466, 0, none⟩ (.string t462)).setCell ⟨gb466, 1, none⟩ (.string t463)).setCell ⟨gb466, 2, none⟩ (.int .i64 t464)).heap[gb446]? = some (.cells #[.string t443, .string t444, .int .i64 t445] 33 (0, 0))) := ⟨by (with_reducible repeat (first | refine blk_drewN ?_ _ | refine blk_drew ?_ | refine blk_alloc ?_ _)); refine blk_far ?_ NB446_466.out _; (with_reducible repeat (first | refine blk_drewN ?_ _ | refine blk_drew ?_ | refine blk_alloc ?_ _)); refine blk_far ?_ NB446_466.out _; (with_reducible repeat (first | refine blk_drewN ?_ _ | refine blk_drew ?_ | refine blk_alloc ?_ _)); refine blk_far ?_ NB446_466.out _; exact bs BK446.out⟩
  have n6_ : Aside0 ((((w60.setCell ⟨gb466, 0, none⟩ (.string t462)).setCell ⟨gb466, 1, none⟩ (.string t463)).setCell ⟨gb466, 2, none⟩ (.int .i64 t464)).heap[gb455]? = some (.cells #[.string t450, .string t451, .int .i64 t452] 33 (0, 0))) := ⟨by (with_reducible repeat (first | refine blk_drewN ?_ _ | refine blk_drew ?_ | refine blk_alloc ?_ _)); refine blk_far ?_ NB455_466.out _; (with_reducible repeat (first | refine blk_drewN ?_ _ | refine blk_drew ?_ | refine blk_alloc ?_ _)); refine blk_far ?_ NB455_466.out _; (with_reducible repeat (first | refine blk_drewN ?_ _ | refine blk_drew ?_ | refine blk_alloc ?_ _)); refine blk_far ?_ NB455_466.out _; exact bs BK455.out⟩
  have n7_ : Aside0 ((((w60.setCell ⟨gb466, 0, none⟩ (.string t462)).setCell ⟨gb466, 1, none⟩ (.string t463)).setCell ⟨gb466, 2, none⟩ (.int .i64 t464)).heap[gb456]? = some (.cells #[.string t453, .string t454] 25 (0, 0))) := ⟨by (with_reducible repeat (first | refine blk_drewN ?_ _ | refine blk_drew ?_ | refine blk_alloc ?_ _)); refine blk_far ?_ NB456_466.out _; (with_reducible repeat (first | refine blk_drewN ?_ _ | refine blk_drew ?_ | refine blk_alloc ?_ _)); refine blk_far ?_ NB456_466.out _; (with_reducible repeat (first | refine blk_drewN ?_ _ | refine blk_drew ?_ | refine blk_alloc ?_ _)); refine blk_far ?_ NB456_466.out _; exact bs BK456.out⟩
  have n8_ : Aside0 ((((w60.setCell ⟨gb466, 0, none⟩ (.string t462)).setCell ⟨gb466, 1, none⟩ (.string t463)).setCell ⟨gb466, 2, none⟩ (.int .i64 t464)).heap[gb461]? = some (.cells #[.string t457, .string t458, .int .i64 t459] 33 (0, 0))) := ⟨by (with_reducible repeat (first | refine blk_drewN ?_ _ | refine blk_drew ?_ | refine blk_alloc ?_ _)); refine blk_far ?_ NB461_466.out _; (with_reducible repeat (first | refine blk_drewN ?_ _ | refine blk_drew ?_ | refine blk_alloc ?_ _)); refine blk_far ?_ NB461_466.out _; (with_reducible repeat (first | refine blk_drewN ?_ _ | refine blk_drew ?_ | refine blk_alloc ?_ _)); refine blk_far ?_ NB461_466.out _; exact bs BK461.out⟩
  have n9_ : Aside0 ((((w60.setCell ⟨gb466, 0, none⟩ (.string t462)).setCell ⟨gb466, 1, none⟩ (.string t463)).setCell ⟨gb466, 2, none⟩ (.int .i64 t464)).heap[gb466]? = some (.cells #[.string t462, .string t463, .int .i64 t464] 33 (0, 0))) := ⟨by (with_reducible repeat (first | refine blk_drewN ?_ _ | refine blk_drew ?_ | refine blk_alloc ?_ _)); refine blk_put (cs := #[.string t462, .string t463, .int .i64 0]) ?_ 2 _ rfl; (with_reducible repeat (first | refine blk_drewN ?_ _ | refine blk_drew ?_ | refine blk_alloc ?_ _)); refine blk_put (cs := #[.string t462, .string (⟨#[]⟩ : ByteArray), .int .i64 0]) ?_ 1 _ rfl; (with_reducible repeat (first | refine blk_drewN ?_ _ | refine blk_drew ?_ | refine blk_alloc ?_ _)); refine blk_put (cs := #[.string (⟨#[]⟩ : ByteArray), .string (⟨#[]⟩ : ByteArray), .int .i64 0]) ?_ 0 _ rfl; exact bs BK466.out⟩
  have n10_ : Aside0 (Below w.heap.size w (((w60.setCell ⟨gb466, 0, none⟩ (.string t462)).setCell ⟨gb466, 1, none⟩ (.string t463)).setCell ⟨gb466, 2, none⟩ (.int .i64 t464))) := ⟨by repeat (first | (with_reducible first | exact bw HB.out | refine bset ?_ | apply bA | apply bN | apply bD) | exact HB.out)⟩
  (try clear HO431)
  (try clear HO442)
  (try clear HO449)
  (try clear BK428)
  (try clear BK435)
  (try clear BK446)
  (try clear BK455)
  (try clear BK456)
  (try clear BK461)
  (try clear BK466)
  (try clear HB)
  (try simp only [setCell_drewN])
  generalize (((w60.setCell ⟨gb466, 0, none⟩ (.string t462)).setCell ⟨gb466, 1, none⟩ (.string t463)).setCell ⟨gb466, 2, none⟩ (.int .i64 t464)) = w97 at n0_ n1_ n2_ n3_ n4_ n5_ n6_ n7_ n8_ n9_ n10_ ⊢
  have HO431 := n0_
  have HO442 := n1_
  have HO449 := n2_
  have BK428 := n3_
  have BK435 := n4_
  have BK446 := n5_
  have BK455 := n6_
  have BK456 := n7_
  have BK461 := n8_
  have BK466 := n9_
  have HB := n10_
  clear n0_ n1_ n2_ n3_ n4_ n5_ n6_ n7_ n8_ n9_ n10_
  have n0_ := Aside0.mk (Kd.R_drew HO431.out)
  have n1_ := Aside0.mk (Kd.R_drew HO442.out)
  have n2_ := Aside0.mk (Kd.R_drew HO449.out)
  have n3_ := Aside0.mk (blk_drew BK428.out)
  have n4_ := Aside0.mk (blk_drew BK435.out)
  have n5_ := Aside0.mk (blk_drew BK446.out)
  have n6_ := Aside0.mk (blk_drew BK455.out)
  have n7_ := Aside0.mk (blk_drew BK456.out)
  have n8_ := Aside0.mk (blk_drew BK461.out)
  have n9_ := Aside0.mk (blk_drew BK466.out)
  have n10_ := Aside0.mk (below_drew1 HB.out)
  replace HO431 := n0_
  replace HO442 := n1_
  replace HO449 := n2_
  replace BK428 := n3_
  replace BK435 := n4_
  replace BK446 := n5_
  replace BK455 := n6_
  replace BK456 := n7_
  replace BK461 := n8_
  replace BK466 := n9_
  replace HB := n10_
  clear n0_ n1_ n2_ n3_ n4_ n5_ n6_ n7_ n8_ n9_ n10_
  refine start_ (n := 32) (S := fun w' => w'.cell? ⟨gb428, 0, none⟩ = some (.string t426) ∧ w'.cell? ⟨gb428, 1, none⟩ = some (.string t427) ∧ w'.cell? ⟨gb446, 0, none⟩ = some (.string t443) ∧ w'.cell? ⟨gb446, 1, none⟩ = some (.string t444) ∧ w'.cell? ⟨gb446, 2, none⟩ = some (.int .i64 t445) ∧ w'.cell? ⟨gb461, 0, none⟩ = some (.string t457) ∧ w'.cell? ⟨gb461, 1, none⟩ = some (.string t458) ∧ w'.cell? ⟨gb461, 2, none⟩ = some (.int .i64 t459) ∧ w'.cell? ⟨gb466, 0, none⟩ = some (.string t462) ∧ w'.cell? ⟨gb466, 1, none⟩ = some (.string t463) ∧ w'.cell? ⟨gb466, 2, none⟩ = some (.int .i64 t464)) (ds := []) q3_0 (by kernel_rfl) rfl rfl ⟨(blk_cell BK428.out 0).trans rfl, (blk_cell BK428.out 1).trans rfl, (blk_cell BK446.out 0).trans rfl, (blk_cell BK446.out 1).trans rfl, (blk_cell BK446.out 2).trans rfl, (blk_cell BK461.out 0).trans rfl, (blk_cell BK461.out 1).trans rfl, (blk_cell BK461.out 2).trans rfl, (blk_cell BK466.out 0).trans rfl, (blk_cell BK466.out 1).trans rfl, (blk_cell BK466.out 2).trans rfl⟩ (fun hHeld => ?_); refine with_tabW laws_FnLogs.tab11 laws_FnLogs.bits11 (fun HT_ HW_ => ?_)
  generalize w97.drew = w98 at HO431 HO442 HO449 BK428 BK435 BK446 BK455 BK456 BK461 BK466 HB hHeld ⊢
  refine take_ (i := 0) (N := some 72) (v := ?_) (a' := ?_) q3_1 rfl rfl (take_ofW HT_.out HW_.out (by kernel_rfl)) (fun _ _ _ h => h) (Or.inl ⟨by rfl, ?_⟩) hHeld ?_ ?_
  rotate_left
  ·rintro w' ⟨s0, s1, s2, s3, s4, s5, s6, s7, s8, s9, s10⟩
   go_simp
   with_reducible rfl
  rotate_left
  ·simp only [aq_]
   rfl
  refine take_ (i := 2) (N := some 74) (v := ?_) (a' := ?_) q3_2 rfl rfl (take_ofW HT_.out HW_.out (by kernel_rfl)) (fun _ _ _ h => h) (Or.inl ⟨by rfl, ?_⟩) hHeld ?_ ?_
  rotate_left
  ·rintro w' ⟨s0, s1, s2, s3, s4, s5, s6, s7, s8, s9, s10⟩
   go_simp
   with_reducible rfl
  rotate_left
  ·simp only [aq_]
   rfl
  refine one_ (i := 1) (N := some 73) q3_3 rfl rfl (one_of HT_.out (by kernel_rfl)) (by decide) (fun K hK => ?_)
  refine goes_ Try.func15 (by kernel_rfl) rfl #[.agg #[.string t426, .string t427]] (by rfl) rfl rfl (by (try simp only [mA_]); first | done | rfl | (simp only [List.length_drop, List.length_take]; rfl)) ?_
  with_reducible refine (impl_IsValidRecord.calls k t426 t427 t467 _ A68.out).mono ?_
  rintro e w99 ⟨rfl, hb⟩
  refine ⟨_, rfl, ?_⟩
  have n0_ := Aside0.mk (Kd.R_below (bR HO431.out) hb)
  have n1_ := Aside0.mk (Kd.R_below (bR HO442.out) hb)
  have n2_ := Aside0.mk (Kd.R_below (bR HO449.out) hb)
  have n3_ := Aside0.mk (blk_below (bs BK428.out) hb)
  have n4_ := Aside0.mk (blk_below (bs BK435.out) hb)
  have n5_ := Aside0.mk (blk_below (bs BK446.out) hb)
  have n6_ := Aside0.mk (blk_below (bs BK455.out) hb)
  have n7_ := Aside0.mk (blk_below (bs BK456.out) hb)
  have n8_ := Aside0.mk (blk_below (bs BK461.out) hb)
  have n9_ := Aside0.mk (blk_below (bs BK466.out) hb)
  have n10_ := Aside0.mk (below_step (by repeat (first | (with_reducible first | exact bw HB.out | refine bset ?_ | apply bA | apply bN | apply bD) | exact HB.out)) hb)
  replace HO431 := n0_
  replace HO442 := n1_
  replace HO449 := n2_
  replace BK428 := n3_
  replace BK435 := n4_
  replace BK446 := n5_
  replace BK455 := n6_
  replace BK456 := n7_
  replace BK461 := n8_
  replace BK466 := n9_
  replace HB := n10_
  clear n0_ n1_ n2_ n3_ n4_ n5_ n6_ n7_ n8_ n9_ n10_
  (try clear hb)
  (try clear hb2)
  (try clear hk)
  (try clear hi)
  refine hK.out _ _ ⟨(blk_cell BK428.out 0).trans rfl, (blk_cell BK428.out 1).trans rfl, (blk_cell BK446.out 0).trans rfl, (blk_cell BK446.out 1).trans rfl, (blk_cell BK446.out 2).trans rfl, (blk_cell BK461.out 0).trans rfl, (blk_cell BK461.out 1).trans rfl, (blk_cell BK461.out 2).trans rfl, (blk_cell BK466.out 0).trans rfl, (blk_cell BK466.out 1).trans rfl, (blk_cell BK466.out 2).trans rfl⟩ (fun hHeld => ?_)
  clear hK K
  refine norm_ (a' := ?_) ?_ ?_
  rotate_left
  ·show Act.put _ (some 73) _ = _
   simp only [aq_]
   rfl
  refine one_ (i := 3) (N := some 75) q3_4 rfl rfl (one_of HT_.out (by kernel_rfl)) (by decide) (fun K hK => ?_)
  refine goes_ Try.func16 (by kernel_rfl) rfl #[.agg #[.string t426, .string t427]] (by rfl) rfl rfl (by (try simp only [mA_]); first | done | rfl | (simp only [List.length_drop, List.length_take]; rfl)) ?_
  with_reducible refine (spec_IsValidRecord.calls k t426 t427 t468 _ A69.out).mono ?_
  rintro e w100 ⟨rfl, hb⟩
  refine ⟨_, rfl, ?_⟩
  have n0_ := Aside0.mk (Kd.R_below (bR HO431.out) hb)
  have n1_ := Aside0.mk (Kd.R_below (bR HO442.out) hb)
  have n2_ := Aside0.mk (Kd.R_below (bR HO449.out) hb)
  have n3_ := Aside0.mk (blk_below (bs BK428.out) hb)
  have n4_ := Aside0.mk (blk_below (bs BK435.out) hb)
  have n5_ := Aside0.mk (blk_below (bs BK446.out) hb)
  have n6_ := Aside0.mk (blk_below (bs BK455.out) hb)
  have n7_ := Aside0.mk (blk_below (bs BK456.out) hb)
  have n8_ := Aside0.mk (blk_below (bs BK461.out) hb)
  have n9_ := Aside0.mk (blk_below (bs BK466.out) hb)
  have n10_ := Aside0.mk (below_step (by repeat (first | (with_reducible first | exact bw HB.out | refine bset ?_ | apply bA | apply bN | apply bD) | exact HB.out)) hb)
  replace HO431 := n0_
  replace HO442 := n1_
  replace HO449 := n2_
  replace BK428 := n3_
  replace BK435 := n4_
  replace BK446 := n5_
  replace BK455 := n6_
  replace BK456 := n7_
  replace BK461 := n8_
  replace BK466 := n9_
  replace HB := n10_
  clear n0_ n1_ n2_ n3_ n4_ n5_ n6_ n7_ n8_ n9_ n10_
  (try clear hb)
  (try clear hb2)
  (try clear hk)
  (try clear hi)
  refine hK.out _ _ ⟨(blk_cell BK428.out 0).trans rfl, (blk_cell BK428.out 1).trans rfl, (blk_cell BK446.out 0).trans rfl, (blk_cell BK446.out 1).trans rfl, (blk_cell BK446.out 2).trans rfl, (blk_cell BK461.out 0).trans rfl, (blk_cell BK461.out 1).trans rfl, (blk_cell BK461.out 2).trans rfl, (blk_cell BK466.out 0).trans rfl, (blk_cell BK466.out 1).trans rfl, (blk_cell BK466.out 2).trans rfl⟩ (fun hHeld => ?_)
  clear hK K
  refine norm_ (a' := ?_) ?_ ?_
  rotate_left
  ·show Act.put _ (some 75) _ = _
   simp only [aq_]
   rfl
  refine pw_ HT_ 4 (some 76) ?_
  refine pw_ HT_ 5 (some 77) ?_
  refine pw_ HT_ 6 (some 78) ?_
  refine pw_ HT_ 7 (some 79) ?_
  refine pw_ HT_ 8 (some 80) ?_
  refine pw_ HT_ 9 (some 81) ?_
  refine pw_ HT_ 10 (some 82) ?_
  refine pw_ HT_ 11 (some 83) ?_
  refine pw_ HT_ 12 (some 84) ?_
  refine pw_ HT_ 13 (some 85) ?_
  refine pw_ HT_ 14 (some 86) ?_
  refine pw_ HT_ 15 (some 87) ?_
  refine take_ (i := 16) (N := some 88) (v := ?_) (a' := ?_) q3_17 rfl rfl (take_ofW HT_.out HW_.out (by kernel_rfl)) (fun _ _ _ h => h) (Or.inl ⟨by rfl, ?_⟩) hHeld ?_ ?_
  rotate_left
  ·rintro w' ⟨s0, s1, s2, s3, s4, s5, s6, s7, s8, s9, s10⟩
   go_simp
   with_reducible rfl
  rotate_left
  ·simp only [aq_]
   rfl
  refine take_ (i := 18) (N := some 90) (v := ?_) (a' := ?_) q3_33 rfl rfl (take_ofW HT_.out HW_.out (by kernel_rfl)) (fun _ _ _ h => h) (Or.inl ⟨by rfl, ?_⟩) hHeld ?_ ?_
  rotate_left
  ·rintro w' ⟨s0, s1, s2, s3, s4, s5, s6, s7, s8, s9, s10⟩
   go_simp
   with_reducible rfl
  rotate_left
  ·simp only [aq_]
   rfl
  refine one_ (i := 17) (N := some 89) q3_19 rfl rfl (one_of HT_.out (by kernel_rfl)) (by decide) (fun K hK => ?_)
  refine goes_ Try.func17 (by kernel_rfl) rfl #[.agg #[.string t443, .string t444, .int .i64 t445]] (by rfl) rfl rfl (by (try simp only [mA_]); first | done | rfl | (simp only [List.length_drop, List.length_take]; rfl)) ?_
  with_reducible refine (impl_IsValidLog.calls k t443 t444 t445 t469 _ A81.out).mono ?_
  rintro e w101 ⟨rfl, hb⟩
  refine ⟨_, rfl, ?_⟩
  have n0_ := Aside0.mk (Kd.R_below (bR HO431.out) hb)
  have n1_ := Aside0.mk (Kd.R_below (bR HO442.out) hb)
  have n2_ := Aside0.mk (Kd.R_below (bR HO449.out) hb)
  have n3_ := Aside0.mk (blk_below (bs BK428.out) hb)
  have n4_ := Aside0.mk (blk_below (bs BK435.out) hb)
  have n5_ := Aside0.mk (blk_below (bs BK446.out) hb)
  have n6_ := Aside0.mk (blk_below (bs BK455.out) hb)
  have n7_ := Aside0.mk (blk_below (bs BK456.out) hb)
  have n8_ := Aside0.mk (blk_below (bs BK461.out) hb)
  have n9_ := Aside0.mk (blk_below (bs BK466.out) hb)
  have n10_ := Aside0.mk (below_step (by repeat (first | (with_reducible first | exact bw HB.out | refine bset ?_ | apply bA | apply bN | apply bD) | exact HB.out)) hb)
  replace HO431 := n0_
  replace HO442 := n1_
  replace HO449 := n2_
  replace BK428 := n3_
  replace BK435 := n4_
  replace BK446 := n5_
  replace BK455 := n6_
  replace BK456 := n7_
  replace BK461 := n8_
  replace BK466 := n9_
  replace HB := n10_
  clear n0_ n1_ n2_ n3_ n4_ n5_ n6_ n7_ n8_ n9_ n10_
  (try clear hb)
  (try clear hb2)
  (try clear hk)
  (try clear hi)
  refine hK.out _ _ ⟨(blk_cell BK428.out 0).trans rfl, (blk_cell BK428.out 1).trans rfl, (blk_cell BK446.out 0).trans rfl, (blk_cell BK446.out 1).trans rfl, (blk_cell BK446.out 2).trans rfl, (blk_cell BK461.out 0).trans rfl, (blk_cell BK461.out 1).trans rfl, (blk_cell BK461.out 2).trans rfl, (blk_cell BK466.out 0).trans rfl, (blk_cell BK466.out 1).trans rfl, (blk_cell BK466.out 2).trans rfl⟩ (fun hHeld => ?_)
  clear hK K
  refine norm_ (a' := ?_) ?_ ?_
  rotate_left
  ·show Act.put _ (some 89) _ = _
   simp only [aq_]
   rfl
  refine one_ (i := 19) (N := some 91) q3_20 rfl rfl (one_of HT_.out (by kernel_rfl)) (by decide) (fun K hK => ?_)
  refine goes_ Try.func18 (by kernel_rfl) rfl #[.agg #[.string t443, .string t444, .int .i64 t445]] (by rfl) rfl rfl (by (try simp only [mA_]); first | done | rfl | (simp only [List.length_drop, List.length_take]; rfl)) ?_
  with_reducible refine (spec_IsValidLog.calls k t443 t444 t445 t470 _ A82.out).mono ?_
  rintro e w102 ⟨rfl, hb⟩
  refine ⟨_, rfl, ?_⟩
  have n0_ := Aside0.mk (Kd.R_below (bR HO431.out) hb)
  have n1_ := Aside0.mk (Kd.R_below (bR HO442.out) hb)
  have n2_ := Aside0.mk (Kd.R_below (bR HO449.out) hb)
  have n3_ := Aside0.mk (blk_below (bs BK428.out) hb)
  have n4_ := Aside0.mk (blk_below (bs BK435.out) hb)
  have n5_ := Aside0.mk (blk_below (bs BK446.out) hb)
  have n6_ := Aside0.mk (blk_below (bs BK455.out) hb)
  have n7_ := Aside0.mk (blk_below (bs BK456.out) hb)
  have n8_ := Aside0.mk (blk_below (bs BK461.out) hb)
  have n9_ := Aside0.mk (blk_below (bs BK466.out) hb)
  have n10_ := Aside0.mk (below_step (by repeat (first | (with_reducible first | exact bw HB.out | refine bset ?_ | apply bA | apply bN | apply bD) | exact HB.out)) hb)
  replace HO431 := n0_
  replace HO442 := n1_
  replace HO449 := n2_
  replace BK428 := n3_
  replace BK435 := n4_
  replace BK446 := n5_
  replace BK455 := n6_
  replace BK456 := n7_
  replace BK461 := n8_
  replace BK466 := n9_
  replace HB := n10_
  clear n0_ n1_ n2_ n3_ n4_ n5_ n6_ n7_ n8_ n9_ n10_
  (try clear hb)
  (try clear hb2)
  (try clear hk)
  (try clear hi)
  refine hK.out _ _ ⟨(blk_cell BK428.out 0).trans rfl, (blk_cell BK428.out 1).trans rfl, (blk_cell BK446.out 0).trans rfl, (blk_cell BK446.out 1).trans rfl, (blk_cell BK446.out 2).trans rfl, (blk_cell BK461.out 0).trans rfl, (blk_cell BK461.out 1).trans rfl, (blk_cell BK461.out 2).trans rfl, (blk_cell BK466.out 0).trans rfl, (blk_cell BK466.out 1).trans rfl, (blk_cell BK466.out 2).trans rfl⟩ (fun hHeld => ?_)
  clear hK K
  refine norm_ (a' := ?_) ?_ ?_
  rotate_left
  ·show Act.put _ (some 91) _ = _
   simp only [aq_]
   rfl
  refine pw_ HT_ 20 (some 92) ?_
  refine pw_ HT_ 21 (some 93) ?_
  refine pw_ HT_ 22 (some 94) ?_
  refine take_ (i := 23) (N := some 95) (v := ?_) (a' := ?_) q3_24 rfl rfl (take_ofW HT_.out HW_.out (by kernel_rfl)) (fun _ _ _ h => h) (Or.inl ⟨by rfl, ?_⟩) hHeld ?_ ?_
  rotate_left
  ·rintro w' ⟨s0, s1, s2, s3, s4, s5, s6, s7, s8, s9, s10⟩
   go_simp
   with_reducible rfl
  rotate_left
  ·simp only [aq_]
   rfl
  refine take_ (i := 24) (N := some 96) (v := ?_) (a' := ?_) q3_25 rfl rfl (take_ofW HT_.out HW_.out (by kernel_rfl)) (fun _ _ _ h => h) (Or.inl ⟨by rfl, ?_⟩) hHeld ?_ ?_
  rotate_left
  ·rintro w' ⟨s0, s1, s2, s3, s4, s5, s6, s7, s8, s9, s10⟩
   go_simp
   with_reducible rfl
  rotate_left
  ·simp only [aq_]
   rfl
  refine pw_ HT_ 25 (some 97) ?_
  refine pw_ HT_ 26 (some 98) ?_
  refine pw_ HT_ 27 (some 99) ?_
  refine pw_ HT_ 28 (some 100) ?_
  refine pw_ HT_ 29 (some 101) ?_
  refine pw_ HT_ 30 (some 102) ?_
  refine pw_ HT_ 31 (some 103) ?_
  refine done_ (done_of HT_.out (by kernel_rfl)) ?_
  try go_wp2
  go_meet
  case rel => exact ⟨_, ((t460 != t465)), (by first | rfl | (simp; done) | (simp [*]; done)), H', ⟨by first | omega | exact Nat.le_refl _⟩, ⟨bs BK428.out⟩, ⟨bs BK435.out⟩, ⟨bs BK446.out⟩, ⟨bs BK455.out⟩, ⟨bs BK456.out⟩, ⟨bs BK461.out⟩, ⟨bs BK466.out⟩, ⟨by repeat (first | (with_reducible first | exact bw HB.out | refine bset ?_ | apply bA | apply bN | apply bD) | exact HB.out)⟩⟩
 case rest => as_aux_lemma =>
  clear HC15
  try clear c1
  try clear p2
  try clear c7
  try clear c15
  try clear c16
  try clear c17
  try clear c18
  try clear c75
  try clear c75b0
  try clear c75b1
  obtain ⟨kq, x103_14, rfl, HA, HJ14, BK428, BK435, BK446, BK455, BK456, BK461, BK466, HB⟩ := hcut
  cases kq with
  | zero => exact absurd HA.out (by simp [laws_FnLogs.j0])
  | succ kj14 =>
   have H := HA.out
   clear HA
   simp only [laws_FnLogs.j0] at H
   by_cases c107 : x103_14 = true
   ·subst c107
    have H1 : (some false) = some r := by rw [if_pos rfl] at H; exact H
    clear H
    have H := H1
    clear H1
    obtain rfl := Option.some.inj H
    go_wp2
    go_ret
    exact ⟨by first | rfl | (simp [errW_none, errW_some] <;> rfl) | (simp [*, errW_none, errW_some] <;> rfl), by repeat (first | (with_reducible first | exact bw HB.out | refine bset ?_ | apply bA | apply bN | apply bD) | exact HB.out)⟩
   replace c107 := Bool.eq_false_iff.mpr c107
   subst c107
   have H1 : ((impl_SyncLog.f kj14 t450 t451 t452).bind fun bt471 => ((spec_SyncLog.f kj14 t450 t451 t452).bind fun bt476 => ((impl_LogRecords.f kj14 t450 t451 t452).bind fun bt481 => ((spec_LogRecords.f kj14 t450 t451 t452).bind fun bt485 => (if (!(bt471.1.toList == bt476.1.toList) || (!(bt471.2.1.toList == bt476.2.1.toList) || (!(bt471.2.2.1 == bt476.2.2.1)))) = true then (laws_FnLogs.j1 kj14 t460 bt471.2.2.2 bt481.1 true t450 t451 t452 t453 t454 t457 t458 t459 bt471.1 bt471.2.1 bt471.2.2.1) else (if (bt471.2.2.2 != bt476.2.2.2) = true then (laws_FnLogs.j1 kj14 t460 bt471.2.2.2 bt481.1 true t450 t451 t452 t453 t454 t457 t458 t459 bt471.1 bt471.2.1 bt471.2.2.1) else (if (bt481.2 != bt485.2) = true then (laws_FnLogs.j1 kj14 t460 bt471.2.2.2 bt481.1 true t450 t451 t452 t453 t454 t457 t458 t459 bt471.1 bt471.2.1 bt471.2.2.1) else ((laws_vRecords.f kj14 bt481.1 bt485.1).bind fun t489 => (laws_FnLogs.j1 kj14 t460 bt471.2.2.2 bt481.1 (!t489) t450 t451 t452 t453 t454 t457 t458 t459 bt471.1 bt471.2.1 bt471.2.2.1))))))))) = some r := by rw [if_neg (show ¬ (false = true) by decide)] at H; exact H
   clear H
   have H := H1
   clear H1
   replace H := Option.bind_eq_some_iff.mp H
   obtain ⟨⟨t471, t472, t473, t474⟩, A1080, H⟩ := H
   replace H : ((spec_SyncLog.f kj14 t450 t451 t452).bind fun bt476 => ((impl_LogRecords.f kj14 t450 t451 t452).bind fun bt481 => ((spec_LogRecords.f kj14 t450 t451 t452).bind fun bt485 => (if (!(t471.toList == bt476.1.toList) || (!(t472.toList == bt476.2.1.toList) || (!(t473 == bt476.2.2.1)))) = true then (laws_FnLogs.j1 kj14 t460 t474 bt481.1 true t450 t451 t452 t453 t454 t457 t458 t459 t471 t472 t473) else (if (t474 != bt476.2.2.2) = true then (laws_FnLogs.j1 kj14 t460 t474 bt481.1 true t450 t451 t452 t453 t454 t457 t458 t459 t471 t472 t473) else (if (bt481.2 != bt485.2) = true then (laws_FnLogs.j1 kj14 t460 t474 bt481.1 true t450 t451 t452 t453 t454 t457 t458 t459 t471 t472 t473) else ((laws_vRecords.f kj14 bt481.1 bt485.1).bind fun t489 => (laws_FnLogs.j1 kj14 t460 t474 bt481.1 (!t489) t450 t451 t452 t453 t454 t457 t458 t459 t471 t472 t473)))))))) = some r := H
   have A108 := Aside0.mk A1080
   clear A1080
   replace H := Option.bind_eq_some_iff.mp H
   obtain ⟨⟨t476, t477, t478, t479⟩, A1090, H⟩ := H
   replace H : ((impl_LogRecords.f kj14 t450 t451 t452).bind fun bt481 => ((spec_LogRecords.f kj14 t450 t451 t452).bind fun bt485 => (if (!(t471.toList == t476.toList) || (!(t472.toList == t477.toList) || (!(t473 == t478)))) = true then (laws_FnLogs.j1 kj14 t460 t474 bt481.1 true t450 t451 t452 t453 t454 t457 t458 t459 t471 t472 t473) else (if (t474 != t479) = true then (laws_FnLogs.j1 kj14 t460 t474 bt481.1 true t450 t451 t452 t453 t454 t457 t458 t459 t471 t472 t473) else (if (bt481.2 != bt485.2) = true then (laws_FnLogs.j1 kj14 t460 t474 bt481.1 true t450 t451 t452 t453 t454 t457 t458 t459 t471 t472 t473) else ((laws_vRecords.f kj14 bt481.1 bt485.1).bind fun t489 => (laws_FnLogs.j1 kj14 t460 t474 bt481.1 (!t489) t450 t451 t452 t453 t454 t457 t458 t459 t471 t472 t473))))))) = some r := H
   have A109 := Aside0.mk A1090
   clear A1090
   replace H := Option.bind_eq_some_iff.mp H
   obtain ⟨⟨t481, t484⟩, A1100, H⟩ := H
   replace H : ((spec_LogRecords.f kj14 t450 t451 t452).bind fun bt485 => (if (!(t471.toList == t476.toList) || (!(t472.toList == t477.toList) || (!(t473 == t478)))) = true then (laws_FnLogs.j1 kj14 t460 t474 t481 true t450 t451 t452 t453 t454 t457 t458 t459 t471 t472 t473) else (if (t474 != t479) = true then (laws_FnLogs.j1 kj14 t460 t474 t481 true t450 t451 t452 t453 t454 t457 t458 t459 t471 t472 t473) else (if (t484 != bt485.2) = true then (laws_FnLogs.j1 kj14 t460 t474 t481 true t450 t451 t452 t453 t454 t457 t458 t459 t471 t472 t473) else ((laws_vRecords.f kj14 t481 bt485.1).bind fun t489 => (laws_FnLogs.j1 kj14 t460 t474 t481 (!t489) t450 t451 t452 t453 t454 t457 t458 t459 t471 t472 t473)))))) = some r := H
   have A110 := Aside0.mk A1100
   clear A1100
   replace H := Option.bind_eq_some_iff.mp H
   obtain ⟨⟨t485, t488⟩, A1110, H⟩ := H
   replace H : (if (!(t471.toList == t476.toList) || (!(t472.toList == t477.toList) || (!(t473 == t478)))) = true then (laws_FnLogs.j1 kj14 t460 t474 t481 true t450 t451 t452 t453 t454 t457 t458 t459 t471 t472 t473) else (if (t474 != t479) = true then (laws_FnLogs.j1 kj14 t460 t474 t481 true t450 t451 t452 t453 t454 t457 t458 t459 t471 t472 t473) else (if (t484 != t488) = true then (laws_FnLogs.j1 kj14 t460 t474 t481 true t450 t451 t452 t453 t454 t457 t458 t459 t471 t472 t473) else ((laws_vRecords.f kj14 t481 t485).bind fun t489 => (laws_FnLogs.j1 kj14 t460 t474 t481 (!t489) t450 t451 t452 t453 t454 t457 t458 t459 t471 t472 t473))))) = some r := H
   have A111 := Aside0.mk A1110
   clear A1110
   have HC112 := Aside0.mk H
   clear H
   have hnb113 := NB455_428.out
   have hnc113 := NB428_455.out
   have hnb114 := NB455_435.out
   have hnc114 := NB435_455.out
   have hnb115 := NB455_446.out
   have hnc115 := NB446_455.out
   have hnb116 := NB455_456.out
   have hnc116 := NB456_455.out
   have hnb117 := NB455_461.out
   have hnc117 := NB461_455.out
   have hnb118 := NB455_466.out
   have hnc118 := NB466_455.out
   obtain ⟨hcz119_0, hcz119_1, hcz119_2, hfz119_0, hfz119_1, hfz119_2⟩ := bz3 BK455.out
   go_upto_region 17 with (first | ((with_reducible refine gate_callee (f := 19) rfl ?_); refine goesL_ (some 106) rfl rfl Try.func19 (by kernel_rfl) rfl #[.agg #[.string t450, .string t451, .int .i64 t452]] rfl (by (try simp only [mA_]); first | done | rfl | (simp only [List.length_drop, List.length_take]; rfl)) ?_; (with_reducible refine (impl_SyncLog.calls kj14 t450 t451 t452 t471 t472 t473 t474 _ A108.out).mono ?_); rintro e w120 ⟨rfl, hb⟩; refine ⟨_, rfl, ?_⟩; have n0_ := Aside0.mk (blk_below (bs BK428.out) hb); have n1_ := Aside0.mk (blk_below (bs BK435.out) hb); have n2_ := Aside0.mk (blk_below (bs BK446.out) hb); have n3_ := Aside0.mk (blk_below (bs BK455.out) hb); have n4_ := Aside0.mk (blk_below (bs BK456.out) hb); have n5_ := Aside0.mk (blk_below (bs BK461.out) hb); have n6_ := Aside0.mk (blk_below (bs BK466.out) hb); have n7_ := Aside0.mk (below_step (by repeat (first | (with_reducible first | exact bw HB.out | refine bset ?_ | apply bA | apply bN | apply bD) | exact HB.out)) hb); replace BK428 := n0_; replace BK435 := n1_; replace BK446 := n2_; replace BK455 := n3_; replace BK456 := n4_; replace BK461 := n5_; replace BK466 := n6_; replace HB := n7_; clear n0_ n1_ n2_ n3_ n4_ n5_ n6_ n7_; (try clear hb); (try clear hb2); (try clear hk); (try clear hi)) | ((with_reducible refine gate_dst (N := 17) rfl ?_); (try (refine gate_guard (by rfl) ?_; dsimp only)); refine box_event ?hg (N := 17) ?hd (cs := #[.string (⟨#[]⟩ : ByteArray), .string (⟨#[]⟩ : ByteArray), .int .i64 0]) (t := 33) ?hr ?_; (case hd => rfl); (case hg => rfl); (case hr => first | (go_simp; done) | (go_simp; rfl)); intro gb475 hg w121 hbox hb; have n0_ := Aside0.mk (blk_below (bs BK428.out) hb); have n1_ := Aside0.mk (blk_below (bs BK435.out) hb); have n2_ := Aside0.mk (blk_below (bs BK446.out) hb); have n3_ := Aside0.mk (blk_below (bs BK455.out) hb); have n4_ := Aside0.mk (blk_below (bs BK456.out) hb); have n5_ := Aside0.mk (blk_below (bs BK461.out) hb); have n6_ := Aside0.mk (blk_below (bs BK466.out) hb); have n7_ := Aside0.mk (below_step (by repeat (first | (with_reducible first | exact bw HB.out | refine bset ?_ | apply bA | apply bN | apply bD) | exact HB.out)) hb); have n8_ := Aside0.mk (hbox); have n9_ := Aside0.mk ((by rw [hg]; exact (below_size (by repeat (first | (with_reducible first | exact bw HB.out | refine bset ?_ | apply bA | apply bN | apply bD) | exact HB.out))) : w.heap.size ≤ gb475)); have n10_ := Aside0.mk ((by rw [hg]; exact (below_size (by repeat (first | (with_reducible first | exact bw HB.out | refine bset ?_ | apply bA | apply bN | apply bD) | exact HB.out))) : w.heap.size ≤ gb475)); have n11_ := ne_ hg BK428.out; have n12_ := en_ hg BK428.out; have n13_ := ne_ hg BK435.out; have n14_ := en_ hg BK435.out; have n15_ := ne_ hg BK446.out; have n16_ := en_ hg BK446.out; have n17_ := ne_ hg BK455.out; have n18_ := en_ hg BK455.out; have n19_ := ne_ hg BK456.out; have n20_ := en_ hg BK456.out; have n21_ := ne_ hg BK461.out; have n22_ := en_ hg BK461.out; have n23_ := ne_ hg BK466.out; have n24_ := en_ hg BK466.out; replace BK428 := n0_; replace BK435 := n1_; replace BK446 := n2_; replace BK455 := n3_; replace BK456 := n4_; replace BK461 := n5_; replace BK466 := n6_; replace HB := n7_; have BK475 := n8_; have GW475 := n9_; have GE475 := n10_; have NB428_475 := n11_; have NB475_428 := n12_; have NB435_475 := n13_; have NB475_435 := n14_; have NB446_475 := n15_; have NB475_446 := n16_; have NB455_475 := n17_; have NB475_455 := n18_; have NB456_475 := n19_; have NB475_456 := n20_; have NB461_475 := n21_; have NB475_461 := n22_; have NB466_475 := n23_; have NB475_466 := n24_; clear n0_ n1_ n2_ n3_ n4_ n5_ n6_ n7_ n8_ n9_ n10_ n11_ n12_ n13_ n14_ n15_ n16_ n17_ n18_ n19_ n20_ n21_ n22_ n23_ n24_; clear hb hbox hg; have hnb122 := NB475_428.out; have hnc122 := NB428_475.out; have hnb123 := NB475_435.out; have hnc123 := NB435_475.out; have hnb124 := NB475_446.out; have hnc124 := NB446_475.out; have hnb125 := NB475_455.out; have hnc125 := NB455_475.out; have hnb126 := NB475_456.out; have hnc126 := NB456_475.out; have hnb127 := NB475_461.out; have hnc127 := NB461_475.out; have hnb128 := NB475_466.out; have hnc128 := NB466_475.out; obtain ⟨hcz129_0, hcz129_1, hcz129_2, hfz129_0, hfz129_1, hfz129_2⟩ := bz3 BK475.out; obtain ⟨hcz130_0, hcz130_1, hcz130_2, hfz130_0, hfz130_1, hfz130_2⟩ := bz3 BK455.out) | ((with_reducible refine gate_callee (f := 20) rfl ?_); refine goesL_ (some 111) rfl rfl Try.func20 (by kernel_rfl) rfl #[.agg #[.string t450, .string t451, .int .i64 t452]] rfl (by (try simp only [mA_]); first | done | rfl | (simp only [List.length_drop, List.length_take]; rfl)) ?_; (with_reducible refine (spec_SyncLog.calls kj14 t450 t451 t452 t476 t477 t478 t479 _ A109.out).mono ?_); rintro e w131 ⟨rfl, hb⟩; refine ⟨_, rfl, ?_⟩; have n0_ := Aside0.mk (blk_below (g := gb428) (o := .cells #[.string t426, .string t427] 25 (0, 0)) (by (with_reducible repeat (first | refine blk_drewN ?_ _ | refine blk_drew ?_ | refine blk_alloc ?_ _)); refine blk_far ?_ NB428_475.out _; (with_reducible repeat (first | refine blk_drewN ?_ _ | refine blk_drew ?_ | refine blk_alloc ?_ _)); refine blk_far ?_ NB428_475.out _; (with_reducible repeat (first | refine blk_drewN ?_ _ | refine blk_drew ?_ | refine blk_alloc ?_ _)); refine blk_far ?_ NB428_475.out _; exact bs BK428.out) hb); have n1_ := Aside0.mk (blk_below (g := gb435) (o := .cells #[.string t433, .string t434] 25 (0, 0)) (by (with_reducible repeat (first | refine blk_drewN ?_ _ | refine blk_drew ?_ | refine blk_alloc ?_ _)); refine blk_far ?_ NB435_475.out _; (with_reducible repeat (first | refine blk_drewN ?_ _ | refine blk_drew ?_ | refine blk_alloc ?_ _)); refine blk_far ?_ NB435_475.out _; (with_reducible repeat (first | refine blk_drewN ?_ _ | refine blk_drew ?_ | refine blk_alloc ?_ _)); refine blk_far ?_ NB435_475.out _; exact bs BK435.out) hb); have n2_ := Aside0.mk (blk_below (g := gb446) (o := .cells #[.string t443, .string t444, .int .i64 t445] 33 (0, 0)) (by (with_reducible repeat (first | refine blk_drewN ?_ _ | refine blk_drew ?_ | refine blk_alloc ?_ _)); refine blk_far ?_ NB446_475.out _; (with_reducible repeat (first | refine blk_drewN ?_ _ | refine blk_drew ?_ | refine blk_alloc ?_ _)); refine blk_far ?_ NB446_475.out _; (with_reducible repeat (first | refine blk_drewN ?_ _ | refine blk_drew ?_ | refine blk_alloc ?_ _)); refine blk_far ?_ NB446_475.out _; exact bs BK446.out) hb); have n3_ := Aside0.mk (blk_below (g := gb455) (o := .cells #[.string t450, .string t451, .int .i64 t452] 33 (0, 0)) (by (with_reducible repeat (first | refine blk_drewN ?_ _ | refine blk_drew ?_ | refine blk_alloc ?_ _)); refine blk_far ?_ NB455_475.out _; (with_reducible repeat (first | refine blk_drewN ?_ _ | refine blk_drew ?_ | refine blk_alloc ?_ _)); refine blk_far ?_ NB455_475.out _; (with_reducible repeat (first | refine blk_drewN ?_ _ | refine blk_drew ?_ | refine blk_alloc ?_ _)); refine blk_far ?_ NB455_475.out _; exact bs BK455.out) hb); have n4_ := Aside0.mk (blk_below (g := gb456) (o := .cells #[.string t453, .string t454] 25 (0, 0)) (by (with_reducible repeat (first | refine blk_drewN ?_ _ | refine blk_drew ?_ | refine blk_alloc ?_ _)); refine blk_far ?_ NB456_475.out _; (with_reducible repeat (first | refine blk_drewN ?_ _ | refine blk_drew ?_ | refine blk_alloc ?_ _)); refine blk_far ?_ NB456_475.out _; (with_reducible repeat (first | refine blk_drewN ?_ _ | refine blk_drew ?_ | refine blk_alloc ?_ _)); refine blk_far ?_ NB456_475.out _; exact bs BK456.out) hb); have n5_ := Aside0.mk (blk_below (g := gb461) (o := .cells #[.string t457, .string t458, .int .i64 t459] 33 (0, 0)) (by (with_reducible repeat (first | refine blk_drewN ?_ _ | refine blk_drew ?_ | refine blk_alloc ?_ _)); refine blk_far ?_ NB461_475.out _; (with_reducible repeat (first | refine blk_drewN ?_ _ | refine blk_drew ?_ | refine blk_alloc ?_ _)); refine blk_far ?_ NB461_475.out _; (with_reducible repeat (first | refine blk_drewN ?_ _ | refine blk_drew ?_ | refine blk_alloc ?_ _)); refine blk_far ?_ NB461_475.out _; exact bs BK461.out) hb); have n6_ := Aside0.mk (blk_below (g := gb466) (o := .cells #[.string t462, .string t463, .int .i64 t464] 33 (0, 0)) (by (with_reducible repeat (first | refine blk_drewN ?_ _ | refine blk_drew ?_ | refine blk_alloc ?_ _)); refine blk_far ?_ NB466_475.out _; (with_reducible repeat (first | refine blk_drewN ?_ _ | refine blk_drew ?_ | refine blk_alloc ?_ _)); refine blk_far ?_ NB466_475.out _; (with_reducible repeat (first | refine blk_drewN ?_ _ | refine blk_drew ?_ | refine blk_alloc ?_ _)); refine blk_far ?_ NB466_475.out _; exact bs BK466.out) hb); have n7_ := Aside0.mk (blk_below (g := gb475) (o := .cells #[.string t471, .string t472, .int .i64 t473] 33 (0, 0)) (by (with_reducible repeat (first | refine blk_drewN ?_ _ | refine blk_drew ?_ | refine blk_alloc ?_ _)); refine blk_put (cs := #[.string t471, .string t472, .int .i64 0]) ?_ 2 _ rfl; (with_reducible repeat (first | refine blk_drewN ?_ _ | refine blk_drew ?_ | refine blk_alloc ?_ _)); refine blk_put (cs := #[.string t471, .string (⟨#[]⟩ : ByteArray), .int .i64 0]) ?_ 1 _ rfl; (with_reducible repeat (first | refine blk_drewN ?_ _ | refine blk_drew ?_ | refine blk_alloc ?_ _)); refine blk_put (cs := #[.string (⟨#[]⟩ : ByteArray), .string (⟨#[]⟩ : ByteArray), .int .i64 0]) ?_ 0 _ rfl; exact bs BK475.out) hb); have n8_ := Aside0.mk (below_step (by repeat (first | (with_reducible first | exact bw HB.out | refine bset ?_ | apply bA | apply bN | apply bD) | exact HB.out)) hb); replace BK428 := n0_; replace BK435 := n1_; replace BK446 := n2_; replace BK455 := n3_; replace BK456 := n4_; replace BK461 := n5_; replace BK466 := n6_; replace BK475 := n7_; replace HB := n8_; clear n0_ n1_ n2_ n3_ n4_ n5_ n6_ n7_ n8_; (try clear hb); (try clear hb2); (try clear hk); (try clear hi)) | ((with_reducible refine gate_dst (N := 19) rfl ?_); (try (refine gate_guard (by rfl) ?_; dsimp only)); refine box_event ?hg (N := 19) ?hd (cs := #[.string (⟨#[]⟩ : ByteArray), .string (⟨#[]⟩ : ByteArray), .int .i64 0]) (t := 33) ?hr ?_; (case hd => rfl); (case hg => rfl); (case hr => first | (go_simp; done) | (go_simp; rfl)); intro gb480 hg w132 hbox hb; have n0_ := Aside0.mk (blk_below (bs BK428.out) hb); have n1_ := Aside0.mk (blk_below (bs BK435.out) hb); have n2_ := Aside0.mk (blk_below (bs BK446.out) hb); have n3_ := Aside0.mk (blk_below (bs BK455.out) hb); have n4_ := Aside0.mk (blk_below (bs BK456.out) hb); have n5_ := Aside0.mk (blk_below (bs BK461.out) hb); have n6_ := Aside0.mk (blk_below (bs BK466.out) hb); have n7_ := Aside0.mk (blk_below (bs BK475.out) hb); have n8_ := Aside0.mk (below_step (by repeat (first | (with_reducible first | exact bw HB.out | refine bset ?_ | apply bA | apply bN | apply bD) | exact HB.out)) hb); have n9_ := Aside0.mk (hbox); have n10_ := Aside0.mk ((by rw [hg]; exact (below_size (by repeat (first | (with_reducible first | exact bw HB.out | refine bset ?_ | apply bA | apply bN | apply bD) | exact HB.out))) : w.heap.size ≤ gb480)); have n11_ := Aside0.mk ((by rw [hg]; exact (below_size (by repeat (first | (with_reducible first | exact bw HB.out | refine bset ?_ | apply bA | apply bN | apply bD) | exact HB.out))) : w.heap.size ≤ gb480)); have n12_ := ne_ hg BK428.out; have n13_ := en_ hg BK428.out; have n14_ := ne_ hg BK435.out; have n15_ := en_ hg BK435.out; have n16_ := ne_ hg BK446.out; have n17_ := en_ hg BK446.out; have n18_ := ne_ hg BK455.out; have n19_ := en_ hg BK455.out; have n20_ := ne_ hg BK456.out; have n21_ := en_ hg BK456.out; have n22_ := ne_ hg BK461.out; have n23_ := en_ hg BK461.out; have n24_ := ne_ hg BK466.out; have n25_ := en_ hg BK466.out; have n26_ := ne_ hg BK475.out; have n27_ := en_ hg BK475.out; replace BK428 := n0_; replace BK435 := n1_; replace BK446 := n2_; replace BK455 := n3_; replace BK456 := n4_; replace BK461 := n5_; replace BK466 := n6_; replace BK475 := n7_; replace HB := n8_; have BK480 := n9_; have GW480 := n10_; have GE480 := n11_; have NB428_480 := n12_; have NB480_428 := n13_; have NB435_480 := n14_; have NB480_435 := n15_; have NB446_480 := n16_; have NB480_446 := n17_; have NB455_480 := n18_; have NB480_455 := n19_; have NB456_480 := n20_; have NB480_456 := n21_; have NB461_480 := n22_; have NB480_461 := n23_; have NB466_480 := n24_; have NB480_466 := n25_; have NB475_480 := n26_; have NB480_475 := n27_; clear n0_ n1_ n2_ n3_ n4_ n5_ n6_ n7_ n8_ n9_ n10_ n11_ n12_ n13_ n14_ n15_ n16_ n17_ n18_ n19_ n20_ n21_ n22_ n23_ n24_ n25_ n26_ n27_; clear hb hbox hg; have hnb133 := NB480_428.out; have hnc133 := NB428_480.out; have hnb134 := NB480_435.out; have hnc134 := NB435_480.out; have hnb135 := NB480_446.out; have hnc135 := NB446_480.out; have hnb136 := NB480_455.out; have hnc136 := NB455_480.out; have hnb137 := NB480_456.out; have hnc137 := NB456_480.out; have hnb138 := NB480_461.out; have hnc138 := NB461_480.out; have hnb139 := NB480_466.out; have hnc139 := NB466_480.out; have hnb140 := NB480_475.out; have hnc140 := NB475_480.out; obtain ⟨hcz141_0, hcz141_1, hcz141_2, hfz141_0, hfz141_1, hfz141_2⟩ := bz3 BK480.out; obtain ⟨hcz142_0, hcz142_1, hcz142_2, hfz142_0, hfz142_1, hfz142_2⟩ := bz3 BK455.out) | ((with_reducible refine gate_callee (f := 21) rfl ?_); refine goesL_ (some 116) rfl rfl Try.func21 (by kernel_rfl) rfl #[.agg #[.string t450, .string t451, .int .i64 t452]] rfl (by (try simp only [mA_]); first | done | rfl | (simp only [List.length_drop, List.length_take]; rfl)) ?_; (with_reducible refine (impl_LogRecords.calls kj14 t450 t451 t452 t481 t484 _ A110.out).mono ?_); rintro e w143 ⟨v482, rfl, ho0, hb⟩; refine ⟨_, rfl, ?_⟩; have n0_ := Aside0.mk (Kd.R_lower (Kd.R_newB (Kd.R_newB (Kd.R_newB ho0 (g := gb428) (o := .cells #[.string t426, .string t427] 25 (0, 0)) (by (with_reducible repeat (first | refine blk_drewN ?_ _ | refine blk_drew ?_ | refine blk_alloc ?_ _)); refine blk_far ?_ NB428_480.out _; (with_reducible repeat (first | refine blk_drewN ?_ _ | refine blk_drew ?_ | refine blk_alloc ?_ _)); refine blk_far ?_ NB428_480.out _; (with_reducible repeat (first | refine blk_drewN ?_ _ | refine blk_drew ?_ | refine blk_alloc ?_ _)); refine blk_far ?_ NB428_480.out _; exact bs BK428.out)) (g := gb435) (o := .cells #[.string t433, .string t434] 25 (0, 0)) (by (with_reducible repeat (first | refine blk_drewN ?_ _ | refine blk_drew ?_ | refine blk_alloc ?_ _)); refine blk_far ?_ NB435_480.out _; (with_reducible repeat (first | refine blk_drewN ?_ _ | refine blk_drew ?_ | refine blk_alloc ?_ _)); refine blk_far ?_ NB435_480.out _; (with_reducible repeat (first | refine blk_drewN ?_ _ | refine blk_drew ?_ | refine blk_alloc ?_ _)); refine blk_far ?_ NB435_480.out _; exact bs BK435.out)) (g := gb456) (o := .cells #[.string t453, .string t454] 25 (0, 0)) (by (with_reducible repeat (first | refine blk_drewN ?_ _ | refine blk_drew ?_ | refine blk_alloc ?_ _)); refine blk_far ?_ NB456_480.out _; (with_reducible repeat (first | refine blk_drewN ?_ _ | refine blk_drew ?_ | refine blk_alloc ?_ _)); refine blk_far ?_ NB456_480.out _; (with_reducible repeat (first | refine blk_drewN ?_ _ | refine blk_drew ?_ | refine blk_alloc ?_ _)); refine blk_far ?_ NB456_480.out _; exact bs BK456.out)) (below_size (by repeat (first | (with_reducible first | exact bw HB.out | refine bset ?_ | apply bA | apply bN | apply bD) | exact HB.out)))); have n1_ := Aside0.mk (blk_below (g := gb428) (o := .cells #[.string t426, .string t427] 25 (0, 0)) (by (with_reducible repeat (first | refine blk_drewN ?_ _ | refine blk_drew ?_ | refine blk_alloc ?_ _)); refine blk_far ?_ NB428_480.out _; (with_reducible repeat (first | refine blk_drewN ?_ _ | refine blk_drew ?_ | refine blk_alloc ?_ _)); refine blk_far ?_ NB428_480.out _; (with_reducible repeat (first | refine blk_drewN ?_ _ | refine blk_drew ?_ | refine blk_alloc ?_ _)); refine blk_far ?_ NB428_480.out _; exact bs BK428.out) hb); have n2_ := Aside0.mk (blk_below (g := gb435) (o := .cells #[.string t433, .string t434] 25 (0, 0)) (by (with_reducible repeat (first | refine blk_drewN ?_ _ | refine blk_drew ?_ | refine blk_alloc ?_ _)); refine blk_far ?_ NB435_480.out _; (with_reducible repeat (first | refine blk_drewN ?_ _ | refine blk_drew ?_ | refine blk_alloc ?_ _)); refine blk_far ?_ NB435_480.out _; (with_reducible repeat (first | refine blk_drewN ?_ _ | refine blk_drew ?_ | refine blk_alloc ?_ _)); refine blk_far ?_ NB435_480.out _; exact bs BK435.out) hb); have n3_ := Aside0.mk (blk_below (g := gb446) (o := .cells #[.string t443, .string t444, .int .i64 t445] 33 (0, 0)) (by (with_reducible repeat (first | refine blk_drewN ?_ _ | refine blk_drew ?_ | refine blk_alloc ?_ _)); refine blk_far ?_ NB446_480.out _; (with_reducible repeat (first | refine blk_drewN ?_ _ | refine blk_drew ?_ | refine blk_alloc ?_ _)); refine blk_far ?_ NB446_480.out _; (with_reducible repeat (first | refine blk_drewN ?_ _ | refine blk_drew ?_ | refine blk_alloc ?_ _)); refine blk_far ?_ NB446_480.out _; exact bs BK446.out) hb); have n4_ := Aside0.mk (blk_below (g := gb455) (o := .cells #[.string t450, .string t451, .int .i64 t452] 33 (0, 0)) (by (with_reducible repeat (first | refine blk_drewN ?_ _ | refine blk_drew ?_ | refine blk_alloc ?_ _)); refine blk_far ?_ NB455_480.out _; (with_reducible repeat (first | refine blk_drewN ?_ _ | refine blk_drew ?_ | refine blk_alloc ?_ _)); refine blk_far ?_ NB455_480.out _; (with_reducible repeat (first | refine blk_drewN ?_ _ | refine blk_drew ?_ | refine blk_alloc ?_ _)); refine blk_far ?_ NB455_480.out _; exact bs BK455.out) hb); have n5_ := Aside0.mk (blk_below (g := gb456) (o := .cells #[.string t453, .string t454] 25 (0, 0)) (by (with_reducible repeat (first | refine blk_drewN ?_ _ | refine blk_drew ?_ | refine blk_alloc ?_ _)); refine blk_far ?_ NB456_480.out _; (with_reducible repeat (first | refine blk_drewN ?_ _ | refine blk_drew ?_ | refine blk_alloc ?_ _)); refine blk_far ?_ NB456_480.out _; (with_reducible repeat (first | refine blk_drewN ?_ _ | refine blk_drew ?_ | refine blk_alloc ?_ _)); refine blk_far ?_ NB456_480.out _; exact bs BK456.out) hb); have n6_ := Aside0.mk (blk_below (g := gb461) (o := .cells #[.string t457, .string t458, .int .i64 t459] 33 (0, 0)) (by (with_reducible repeat (first | refine blk_drewN ?_ _ | refine blk_drew ?_ | refine blk_alloc ?_ _)); refine blk_far ?_ NB461_480.out _; (with_reducible repeat (first | refine blk_drewN ?_ _ | refine blk_drew ?_ | refine blk_alloc ?_ _)); refine blk_far ?_ NB461_480.out _; (with_reducible repeat (first | refine blk_drewN ?_ _ | refine blk_drew ?_ | refine blk_alloc ?_ _)); refine blk_far ?_ NB461_480.out _; exact bs BK461.out) hb); have n7_ := Aside0.mk (blk_below (g := gb466) (o := .cells #[.string t462, .string t463, .int .i64 t464] 33 (0, 0)) (by (with_reducible repeat (first | refine blk_drewN ?_ _ | refine blk_drew ?_ | refine blk_alloc ?_ _)); refine blk_far ?_ NB466_480.out _; (with_reducible repeat (first | refine blk_drewN ?_ _ | refine blk_drew ?_ | refine blk_alloc ?_ _)); refine blk_far ?_ NB466_480.out _; (with_reducible repeat (first | refine blk_drewN ?_ _ | refine blk_drew ?_ | refine blk_alloc ?_ _)); refine blk_far ?_ NB466_480.out _; exact bs BK466.out) hb); have n8_ := Aside0.mk (blk_below (g := gb475) (o := .cells #[.string t471, .string t472, .int .i64 t473] 33 (0, 0)) (by (with_reducible repeat (first | refine blk_drewN ?_ _ | refine blk_drew ?_ | refine blk_alloc ?_ _)); refine blk_far ?_ NB475_480.out _; (with_reducible repeat (first | refine blk_drewN ?_ _ | refine blk_drew ?_ | refine blk_alloc ?_ _)); refine blk_far ?_ NB475_480.out _; (with_reducible repeat (first | refine blk_drewN ?_ _ | refine blk_drew ?_ | refine blk_alloc ?_ _)); refine blk_far ?_ NB475_480.out _; exact bs BK475.out) hb); have n9_ := Aside0.mk (blk_below (g := gb480) (o := .cells #[.string t476, .string t477, .int .i64 t478] 33 (0, 0)) (by (with_reducible repeat (first | refine blk_drewN ?_ _ | refine blk_drew ?_ | refine blk_alloc ?_ _)); refine blk_put (cs := #[.string t476, .string t477, .int .i64 0]) ?_ 2 _ rfl; (with_reducible repeat (first | refine blk_drewN ?_ _ | refine blk_drew ?_ | refine blk_alloc ?_ _)); refine blk_put (cs := #[.string t476, .string (⟨#[]⟩ : ByteArray), .int .i64 0]) ?_ 1 _ rfl; (with_reducible repeat (first | refine blk_drewN ?_ _ | refine blk_drew ?_ | refine blk_alloc ?_ _)); refine blk_put (cs := #[.string (⟨#[]⟩ : ByteArray), .string (⟨#[]⟩ : ByteArray), .int .i64 0]) ?_ 0 _ rfl; exact bs BK480.out) hb); have n10_ := Aside0.mk (below_step (by repeat (first | (with_reducible first | exact bw HB.out | refine bset ?_ | apply bA | apply bN | apply bD) | exact HB.out)) hb); have HO483 := n0_; replace BK428 := n1_; replace BK435 := n2_; replace BK446 := n3_; replace BK455 := n4_; replace BK456 := n5_; replace BK461 := n6_; replace BK466 := n7_; replace BK475 := n8_; replace BK480 := n9_; replace HB := n10_; clear n0_ n1_ n2_ n3_ n4_ n5_ n6_ n7_ n8_ n9_ n10_; (try clear hb); (try clear hb2); (try clear hk); (try clear hi); (try clear ho0); obtain ⟨hcz144_0, hcz144_1, hcz144_2, hfz144_0, hfz144_1, hfz144_2⟩ := bz3 BK455.out) | ((with_reducible refine gate_callee (f := 22) rfl ?_); refine goesL_ (some 121) rfl rfl Try.func22 (by kernel_rfl) rfl #[.agg #[.string t450, .string t451, .int .i64 t452]] rfl (by (try simp only [mA_]); first | done | rfl | (simp only [List.length_drop, List.length_take]; rfl)) ?_; (with_reducible refine (spec_LogRecords.calls kj14 t450 t451 t452 t485 t488 _ A111.out).mono ?_); rintro e w145 ⟨v486, rfl, ho0, hb⟩; refine ⟨_, rfl, ?_⟩; have n0_ := Aside0.mk (Kd.R_elder' (bR HO483.out) (Kd.R_base ho0) hb); have n1_ := Aside0.mk (Kd.R_lower (Kd.R_newB (Kd.R_newB (Kd.R_newB (Kd.R_new' ho0 (Kd.R_lt (bR HO483.out))) (bs BK428.out)) (bs BK435.out)) (bs BK456.out)) (below_size (by repeat (first | (with_reducible first | exact bw HB.out | refine bset ?_ | apply bA | apply bN | apply bD) | exact HB.out)))); have n2_ := Aside0.mk (blk_below (bs BK428.out) hb); have n3_ := Aside0.mk (blk_below (bs BK435.out) hb); have n4_ := Aside0.mk (blk_below (bs BK446.out) hb); have n5_ := Aside0.mk (blk_below (bs BK455.out) hb); have n6_ := Aside0.mk (blk_below (bs BK456.out) hb); have n7_ := Aside0.mk (blk_below (bs BK461.out) hb); have n8_ := Aside0.mk (blk_below (bs BK466.out) hb); have n9_ := Aside0.mk (blk_below (bs BK475.out) hb); have n10_ := Aside0.mk (blk_below (bs BK480.out) hb); have n11_ := Aside0.mk (below_step (by repeat (first | (with_reducible first | exact bw HB.out | refine bset ?_ | apply bA | apply bN | apply bD) | exact HB.out)) hb); replace HO483 := n0_; have HO487 := n1_; replace BK428 := n2_; replace BK435 := n3_; replace BK446 := n4_; replace BK455 := n5_; replace BK456 := n6_; replace BK461 := n7_; replace BK466 := n8_; replace BK475 := n9_; replace BK480 := n10_; replace HB := n11_; clear n0_ n1_ n2_ n3_ n4_ n5_ n6_ n7_ n8_ n9_ n10_ n11_; (try clear hb); (try clear hb2); (try clear hk); (try clear hi); (try clear ho0)))
   (try simp only [Act.put, List.setIfInBounds_toArray, List.set_cons_zero, List.set_cons_succ])
   go_cut [142] (fun v142 wc => ∃ (kq : Nat) (x142_111 : Bool), v142 = .bool x142_111 ∧ Aside0 (laws_FnLogs.j1 kq t460 t474 t481 x142_111 t450 t451 t452 t453 t454 t457 t458 t459 t471 t472 t473 = some r) ∧ Aside0 (kq ≤ kj14) ∧ Aside0 (Kd.R k25 25 wc w.heap.size (fun k_ => k_ ≠ gb428 ∧ k_ ≠ gb435 ∧ k_ ≠ gb456) v482 t481) ∧ Aside0 (wc.heap[gb428]? = some (.cells #[.string t426, .string t427] 25 (0, 0))) ∧ Aside0 (wc.heap[gb435]? = some (.cells #[.string t433, .string t434] 25 (0, 0))) ∧ Aside0 (wc.heap[gb446]? = some (.cells #[.string t443, .string t444, .int .i64 t445] 33 (0, 0))) ∧ Aside0 (wc.heap[gb455]? = some (.cells #[.string t450, .string t451, .int .i64 t452] 33 (0, 0))) ∧ Aside0 (wc.heap[gb456]? = some (.cells #[.string t453, .string t454] 25 (0, 0))) ∧ Aside0 (wc.heap[gb461]? = some (.cells #[.string t457, .string t458, .int .i64 t459] 33 (0, 0))) ∧ Aside0 (wc.heap[gb466]? = some (.cells #[.string t462, .string t463, .int .i64 t464] 33 (0, 0))) ∧ Aside0 (wc.heap[gb475]? = some (.cells #[.string t471, .string t472, .int .i64 t473] 33 (0, 0))) ∧ Aside0 (wc.heap[gb480]? = some (.cells #[.string t476, .string t477, .int .i64 t478] 33 (0, 0))) ∧ Aside0 (Below w.heap.size w wc))
   case first =>
    have H := HC112.out
    clear HC112
    by_cases c146 : (!(t471.toList == t476.toList) || (!(t472.toList == t477.toList) || (!(t473 == t478)))) = true
    ·rw [if_pos c146] at H
     have c146b0 : (!(t471.toList == t476.toList) || (!(t472.toList == t477.toList) || (!(t473 == t478)))) = true := c146
     clear c146
     (first | rw [c146b0] | (simp only [i64_w, i32_w]; rw [c146b0]) | skip)
     have H' := Aside0.mk H
     clear H
     have hnb147 := NB475_428.out
     have hnc147 := NB428_475.out
     have hnb148 := NB475_435.out
     have hnc148 := NB435_475.out
     have hnb149 := NB475_446.out
     have hnc149 := NB446_475.out
     have hnb150 := NB475_455.out
     have hnc150 := NB455_475.out
     have hnb151 := NB475_456.out
     have hnc151 := NB456_475.out
     have hnb152 := NB475_461.out
     have hnc152 := NB461_475.out
     have hnb153 := NB475_466.out
     have hnc153 := NB466_475.out
     have hnb154 := NB475_480.out
     have hnc154 := NB480_475.out
     obtain ⟨hcz155_0, hcz155_1, hcz155_2, hfz155_0, hfz155_1, hfz155_2⟩ := bz3 BK475.out
     have hnb156 := NB480_428.out
     have hnc156 := NB428_480.out
     have hnb157 := NB480_435.out
     have hnc157 := NB435_480.out
     have hnb158 := NB480_446.out
     have hnc158 := NB446_480.out
     have hnb159 := NB480_455.out
     have hnc159 := NB455_480.out
     have hnb160 := NB480_456.out
     have hnc160 := NB456_480.out
     have hnb161 := NB480_461.out
     have hnc161 := NB461_480.out
     have hnb162 := NB480_466.out
     have hnc162 := NB466_480.out
     obtain ⟨hcz163_0, hcz163_1, hcz163_2, hfz163_0, hfz163_1, hfz163_2⟩ := bz3 BK480.out
     go_wp2
     go_meet
     case rel => exact ⟨_, (true), (by first | rfl | (simp; done) | (simp [*]; done)), H', ⟨by have := HJ14.out; first | omega | exact Nat.le_refl _⟩, ⟨by (with_reducible repeat (first | apply Kd.R_alloc | apply Kd.R_drewN | apply Kd.R_drew)); exact Kd.R_mono HO483.out (fun _ hk => ⟨hk.1.1.1.2, ⟨hk.1.1.2, hk.1.2⟩⟩)⟩, ⟨bs BK428.out⟩, ⟨bs BK435.out⟩, ⟨bs BK446.out⟩, ⟨bs BK455.out⟩, ⟨bs BK456.out⟩, ⟨bs BK461.out⟩, ⟨bs BK466.out⟩, ⟨bs BK475.out⟩, ⟨bs BK480.out⟩, ⟨by repeat (first | (with_reducible first | exact bw HB.out | refine bset ?_ | apply bA | apply bN | apply bD) | exact HB.out)⟩⟩
    rw [if_neg c146] at H
    have c146b0 : (!(t471.toList == t476.toList) || (!(t472.toList == t477.toList) || (!(t473 == t478)))) = false := by simpa using c146
    clear c146
    (first | rw [c146b0] | (simp only [i64_w, i32_w]; rw [c146b0]) | skip)
    by_cases c164 : (t474 != t479) = true
    ·rw [if_pos c164] at H
     have c164b0 : (t474 != t479) = true := c164
     (try (have c164b1 : decide (t474 = t479) = false := by simpa using c164))
     (try (have c164b2 : (t474 == t479) = false := by simpa using c164))
     (try (have c164b3 : ¬ (t474 = t479) := by simpa using c164))
     clear c164
     have H' := Aside0.mk H
     clear H
     have hnb165 := NB475_428.out
     have hnc165 := NB428_475.out
     have hnb166 := NB475_435.out
     have hnc166 := NB435_475.out
     have hnb167 := NB475_446.out
     have hnc167 := NB446_475.out
     have hnb168 := NB475_455.out
     have hnc168 := NB455_475.out
     have hnb169 := NB475_456.out
     have hnc169 := NB456_475.out
     have hnb170 := NB475_461.out
     have hnc170 := NB461_475.out
     have hnb171 := NB475_466.out
     have hnc171 := NB466_475.out
     have hnb172 := NB475_480.out
     have hnc172 := NB480_475.out
     obtain ⟨hcz173_0, hcz173_1, hcz173_2, hfz173_0, hfz173_1, hfz173_2⟩ := bz3 BK475.out
     have hnb174 := NB480_428.out
     have hnc174 := NB428_480.out
     have hnb175 := NB480_435.out
     have hnc175 := NB435_480.out
     have hnb176 := NB480_446.out
     have hnc176 := NB446_480.out
     have hnb177 := NB480_455.out
     have hnc177 := NB455_480.out
     have hnb178 := NB480_456.out
     have hnc178 := NB456_480.out
     have hnb179 := NB480_461.out
     have hnc179 := NB461_480.out
     have hnb180 := NB480_466.out
     have hnc180 := NB466_480.out
     obtain ⟨hcz181_0, hcz181_1, hcz181_2, hfz181_0, hfz181_1, hfz181_2⟩ := bz3 BK480.out
     go_wp2
     go_meet
     case rel => exact ⟨_, (true), (by first | rfl | (simp; done) | (simp [*]; done)), H', ⟨by have := HJ14.out; first | omega | exact Nat.le_refl _⟩, ⟨by (with_reducible repeat (first | apply Kd.R_alloc | apply Kd.R_drewN | apply Kd.R_drew)); exact Kd.R_mono HO483.out (fun _ hk => ⟨hk.1.1.1.2, ⟨hk.1.1.2, hk.1.2⟩⟩)⟩, ⟨bs BK428.out⟩, ⟨bs BK435.out⟩, ⟨bs BK446.out⟩, ⟨bs BK455.out⟩, ⟨bs BK456.out⟩, ⟨bs BK461.out⟩, ⟨bs BK466.out⟩, ⟨bs BK475.out⟩, ⟨bs BK480.out⟩, ⟨by repeat (first | (with_reducible first | exact bw HB.out | refine bset ?_ | apply bA | apply bN | apply bD) | exact HB.out)⟩⟩
    rw [if_neg c164] at H
    have c164b0 : (t474 != t479) = false := by simpa using c164
    (try (have c164b1 : decide (t474 = t479) = true := by simpa using c164))
    (try (have c164b2 : (t474 == t479) = true := by simpa using c164))
    clear c164
    by_cases c182 : (t484 != t488) = true
    ·rw [if_pos c182] at H
     have c182b0 : (t484 != t488) = true := c182
     (try (have c182b1 : decide (t484 = t488) = false := by simpa using c182))
     (try (have c182b2 : (t484 == t488) = false := by simpa using c182))
     (try (have c182b3 : ¬ (t484 = t488) := by simpa using c182))
     clear c182
     have H' := Aside0.mk H
     clear H
     have hnb183 := NB475_428.out
     have hnc183 := NB428_475.out
     have hnb184 := NB475_435.out
     have hnc184 := NB435_475.out
     have hnb185 := NB475_446.out
     have hnc185 := NB446_475.out
     have hnb186 := NB475_455.out
     have hnc186 := NB455_475.out
     have hnb187 := NB475_456.out
     have hnc187 := NB456_475.out
     have hnb188 := NB475_461.out
     have hnc188 := NB461_475.out
     have hnb189 := NB475_466.out
     have hnc189 := NB466_475.out
     have hnb190 := NB475_480.out
     have hnc190 := NB480_475.out
     obtain ⟨hcz191_0, hcz191_1, hcz191_2, hfz191_0, hfz191_1, hfz191_2⟩ := bz3 BK475.out
     have hnb192 := NB480_428.out
     have hnc192 := NB428_480.out
     have hnb193 := NB480_435.out
     have hnc193 := NB435_480.out
     have hnb194 := NB480_446.out
     have hnc194 := NB446_480.out
     have hnb195 := NB480_455.out
     have hnc195 := NB455_480.out
     have hnb196 := NB480_456.out
     have hnc196 := NB456_480.out
     have hnb197 := NB480_461.out
     have hnc197 := NB461_480.out
     have hnb198 := NB480_466.out
     have hnc198 := NB466_480.out
     obtain ⟨hcz199_0, hcz199_1, hcz199_2, hfz199_0, hfz199_1, hfz199_2⟩ := bz3 BK480.out
     go_wp2
     go_meet
     case rel => exact ⟨_, (true), (by first | rfl | (simp; done) | (simp [*]; done)), H', ⟨by have := HJ14.out; first | omega | exact Nat.le_refl _⟩, ⟨by (with_reducible repeat (first | apply Kd.R_alloc | apply Kd.R_drewN | apply Kd.R_drew)); exact Kd.R_mono HO483.out (fun _ hk => ⟨hk.1.1.1.2, ⟨hk.1.1.2, hk.1.2⟩⟩)⟩, ⟨bs BK428.out⟩, ⟨bs BK435.out⟩, ⟨bs BK446.out⟩, ⟨bs BK455.out⟩, ⟨bs BK456.out⟩, ⟨bs BK461.out⟩, ⟨bs BK466.out⟩, ⟨bs BK475.out⟩, ⟨bs BK480.out⟩, ⟨by repeat (first | (with_reducible first | exact bw HB.out | refine bset ?_ | apply bA | apply bN | apply bD) | exact HB.out)⟩⟩
    rw [if_neg c182] at H
    have c182b0 : (t484 != t488) = false := by simpa using c182
    (try (have c182b1 : decide (t484 = t488) = true := by simpa using c182))
    (try (have c182b2 : (t484 == t488) = true := by simpa using c182))
    clear c182
    replace H := Option.bind_eq_some_iff.mp H
    obtain ⟨t489, A2000, H⟩ := H
    replace H : (laws_FnLogs.j1 kj14 t460 t474 t481 (!t489) t450 t451 t452 t453 t454 t457 t458 t459 t471 t472 t473) = some r := H
    have A200 := Aside0.mk A2000
    clear A2000
    have H' := Aside0.mk H
    clear H
    have hnb201 := NB475_428.out
    have hnc201 := NB428_475.out
    have hnb202 := NB475_435.out
    have hnc202 := NB435_475.out
    have hnb203 := NB475_446.out
    have hnc203 := NB446_475.out
    have hnb204 := NB475_455.out
    have hnc204 := NB455_475.out
    have hnb205 := NB475_456.out
    have hnc205 := NB456_475.out
    have hnb206 := NB475_461.out
    have hnc206 := NB461_475.out
    have hnb207 := NB475_466.out
    have hnc207 := NB466_475.out
    have hnb208 := NB475_480.out
    have hnc208 := NB480_475.out
    obtain ⟨hcz209_0, hcz209_1, hcz209_2, hfz209_0, hfz209_1, hfz209_2⟩ := bz3 BK475.out
    have hnb210 := NB480_428.out
    have hnc210 := NB428_480.out
    have hnb211 := NB480_435.out
    have hnc211 := NB435_480.out
    have hnb212 := NB480_446.out
    have hnc212 := NB446_480.out
    have hnb213 := NB480_455.out
    have hnc213 := NB455_480.out
    have hnb214 := NB480_456.out
    have hnc214 := NB456_480.out
    have hnb215 := NB480_461.out
    have hnc215 := NB461_480.out
    have hnb216 := NB480_466.out
    have hnc216 := NB466_480.out
    obtain ⟨hcz217_0, hcz217_1, hcz217_2, hfz217_0, hfz217_1, hfz217_2⟩ := bz3 BK480.out
    obtain ⟨Ao218, co218, eo218⟩ := Kd.R_slice HO483.out
    subst eo218
    obtain ⟨Ao219, co219, eo219⟩ := Kd.R_slice HO487.out
    subst eo219
    go_wp2_with (first | (go_at_call 23; (with_reducible refine (laws_vRecords.calls kj14 _ _ t481 _ _ t485 t489 _ ?side1 ?side2 ?side3 ?side4 A200.out).mono ?_); (case side1 => repeat (first | exact (Kd.R_reads' HO483.out).2.2 | (with_reducible refine Kd.C_alloc ?_ _) | (with_reducible refine Kd.C_drewN ?_ _) | (with_reducible refine Kd.C_drew ?_))); (case side2 => exact (Kd.R_reads' HO483.out).2.1); (case side3 => repeat (first | exact (Kd.R_reads' HO487.out).2.2 | (with_reducible refine Kd.C_alloc ?_ _) | (with_reducible refine Kd.C_drewN ?_ _) | (with_reducible refine Kd.C_drew ?_))); (case side4 => exact (Kd.R_reads' HO487.out).2.1); rintro e w' ⟨rfl, ⟨nd, rfl⟩⟩))
    go_meet
    case rel => exact ⟨_, (!t489), (by first | rfl | (simp; done) | (simp [*]; done)), H', ⟨by have := HJ14.out; first | omega | exact Nat.le_refl _⟩, ⟨by (with_reducible repeat (first | apply Kd.R_alloc | apply Kd.R_drewN | apply Kd.R_drew)); exact Kd.R_mono HO483.out (fun _ hk => ⟨hk.1.1.1.2, ⟨hk.1.1.2, hk.1.2⟩⟩)⟩, ⟨bs BK428.out⟩, ⟨bs BK435.out⟩, ⟨bs BK446.out⟩, ⟨bs BK455.out⟩, ⟨bs BK456.out⟩, ⟨bs BK461.out⟩, ⟨bs BK466.out⟩, ⟨bs BK475.out⟩, ⟨bs BK480.out⟩, ⟨by repeat (first | (with_reducible first | exact bw HB.out | refine bset ?_ | apply bA | apply bN | apply bD) | exact HB.out)⟩⟩
   case rest => as_aux_lemma =>
    clear HC112
    try clear c1
    try clear c2
    try clear p2
    try clear c7
    try clear c10
    try clear c11
    try clear c12
    try clear c13
    try clear c14
    try clear c15
    try clear c16
    try clear c17
    try clear c18
    try clear c19
    try clear c20
    try clear c21
    try clear c22
    try clear c75
    try clear c75b0
    try clear c75b1
    try clear c107
    try clear c113
    try clear c114
    try clear c115
    try clear c116
    try clear c117
    try clear c118
    try clear c122
    try clear c123
    try clear c124
    try clear c125
    try clear c126
    try clear c127
    try clear c128
    try clear c133
    try clear c134
    try clear c135
    try clear c136
    try clear c137
    try clear c138
    try clear c139
    try clear c140
    try clear c146
    try clear c146b0
    try clear c147
    try clear c148
    try clear c149
    try clear c150
    try clear c151
    try clear c152
    try clear c153
    try clear c154
    try clear c156
    try clear c157
    try clear c158
    try clear c159
    try clear c160
    try clear c161
    try clear c162
    try clear c164
    try clear c164b0
    try clear c164b1
    try clear c164b2
    try clear c165
    try clear c166
    try clear c167
    try clear c168
    try clear c169
    try clear c170
    try clear c171
    try clear c172
    try clear c174
    try clear c175
    try clear c176
    try clear c177
    try clear c178
    try clear c179
    try clear c180
    try clear c182
    try clear c182b0
    try clear c182b1
    try clear c182b2
    try clear c183
    try clear c184
    try clear c185
    try clear c186
    try clear c187
    try clear c188
    try clear c189
    try clear c190
    try clear c192
    try clear c193
    try clear c194
    try clear c195
    try clear c196
    try clear c197
    try clear c198
    try clear c201
    try clear c202
    try clear c203
    try clear c204
    try clear c205
    try clear c206
    try clear c207
    try clear c208
    try clear c210
    try clear c211
    try clear c212
    try clear c213
    try clear c214
    try clear c215
    try clear c216
    try clear hcz119_0
    try clear hcz119_1
    try clear hcz119_2
    try clear hcz129_0
    try clear hcz129_1
    try clear hcz129_2
    try clear hcz130_0
    try clear hcz130_1
    try clear hcz130_2
    try clear hcz141_0
    try clear hcz141_1
    try clear hcz141_2
    try clear hcz142_0
    try clear hcz142_1
    try clear hcz142_2
    try clear hcz144_0
    try clear hcz144_1
    try clear hcz144_2
    try clear hcz155_0
    try clear hcz155_1
    try clear hcz155_2
    try clear hcz163_0
    try clear hcz163_1
    try clear hcz163_2
    try clear hcz173_0
    try clear hcz173_1
    try clear hcz173_2
    try clear hcz181_0
    try clear hcz181_1
    try clear hcz181_2
    try clear hcz191_0
    try clear hcz191_1
    try clear hcz191_2
    try clear hcz199_0
    try clear hcz199_1
    try clear hcz199_2
    try clear hcz209_0
    try clear hcz209_1
    try clear hcz209_2
    try clear hcz217_0
    try clear hcz217_1
    try clear hcz217_2
    try clear hfz119_0
    try clear hfz119_1
    try clear hfz119_2
    try clear hfz129_0
    try clear hfz129_1
    try clear hfz129_2
    try clear hfz130_0
    try clear hfz130_1
    try clear hfz130_2
    try clear hfz141_0
    try clear hfz141_1
    try clear hfz141_2
    try clear hfz142_0
    try clear hfz142_1
    try clear hfz142_2
    try clear hfz144_0
    try clear hfz144_1
    try clear hfz144_2
    try clear hfz155_0
    try clear hfz155_1
    try clear hfz155_2
    try clear hfz163_0
    try clear hfz163_1
    try clear hfz163_2
    try clear hfz173_0
    try clear hfz173_1
    try clear hfz173_2
    try clear hfz181_0
    try clear hfz181_1
    try clear hfz181_2
    try clear hfz191_0
    try clear hfz191_1
    try clear hfz191_2
    try clear hfz199_0
    try clear hfz199_1
    try clear hfz199_2
    try clear hfz209_0
    try clear hfz209_1
    try clear hfz209_2
    try clear hfz217_0
    try clear hfz217_1
    try clear hfz217_2
    try clear p2
    obtain ⟨kq, x142_111, rfl, HA, HJ111, HO_21, BK428, BK435, BK446, BK455, BK456, BK461, BK466, BK475, BK480, HB⟩ := hcut
    cases kq with
    | zero => exact absurd HA.out (by simp [laws_FnLogs.j1])
    | succ kj111 =>
     have H := HA.out
     clear HA
     simp only [laws_FnLogs.j1] at H
     by_cases c220 : x142_111 = true
     ·subst c220
      have H1 : (some false) = some r := by rw [if_pos rfl] at H; exact H
      clear H
      have H := H1
      clear H1
      obtain rfl := Option.some.inj H
      go_wp2
      go_ret
      exact ⟨by first | rfl | (simp [errW_none, errW_some] <;> rfl) | (simp [*, errW_none, errW_some] <;> rfl), by repeat (first | (with_reducible first | exact bw HB.out | refine bset ?_ | apply bA | apply bN | apply bD) | exact HB.out)⟩
     replace c220 := Bool.eq_false_iff.mpr c220
     subst c220
     have H1 : ((impl_LogRecords.f kj111 t471 t472 t473).bind fun bt490 => (if t474 = true then ((laws_vRecords.f kj111 bt490.1 t481).bind fun t494 => (laws_FnLogs.j2 kj111 t460 t481 (!t494) t450 t451 t452 t453 t454 t457 t458 t459)) else (laws_FnLogs.j2 kj111 t460 t481 false t450 t451 t452 t453 t454 t457 t458 t459))) = some r := by rw [if_neg (show ¬ (false = true) by decide)] at H; exact H
     clear H
     have H := H1
     clear H1
     replace H := Option.bind_eq_some_iff.mp H
     obtain ⟨⟨t490, t493⟩, A2210, H⟩ := H
     replace H : (if t474 = true then ((laws_vRecords.f kj111 t490 t481).bind fun t494 => (laws_FnLogs.j2 kj111 t460 t481 (!t494) t450 t451 t452 t453 t454 t457 t458 t459)) else (laws_FnLogs.j2 kj111 t460 t481 false t450 t451 t452 t453 t454 t457 t458 t459)) = some r := H
     have A221 := Aside0.mk A2210
     clear A2210
     have HC222 := Aside0.mk H
     clear H
     have hnb223 := NB475_428.out
     have hnc223 := NB428_475.out
     have hnb224 := NB475_435.out
     have hnc224 := NB435_475.out
     have hnb225 := NB475_446.out
     have hnc225 := NB446_475.out
     have hnb226 := NB475_455.out
     have hnc226 := NB455_475.out
     have hnb227 := NB475_456.out
     have hnc227 := NB456_475.out
     have hnb228 := NB475_461.out
     have hnc228 := NB461_475.out
     have hnb229 := NB475_466.out
     have hnc229 := NB466_475.out
     have hnb230 := NB475_480.out
     have hnc230 := NB480_475.out
     obtain ⟨hcz231_0, hcz231_1, hcz231_2, hfz231_0, hfz231_1, hfz231_2⟩ := bz3 BK475.out
     go_upto_region 20 with (first | ((with_reducible refine gate_callee (f := 21) rfl ?_); refine goesL_ (some 145) rfl rfl Try.func21 (by kernel_rfl) rfl #[.agg #[.string t471, .string t472, .int .i64 t473]] rfl (by (try simp only [mA_]); first | done | rfl | (simp only [List.length_drop, List.length_take]; rfl)) ?_; (with_reducible refine (impl_LogRecords.calls kj111 t471 t472 t473 t490 t493 _ A221.out).mono ?_); rintro e w232 ⟨v491, rfl, ho0, hb⟩; refine ⟨_, rfl, ?_⟩; have n0_ := Aside0.mk (Kd.R_elder' (bR HO_21.out) (Kd.R_base ho0) hb); have n1_ := Aside0.mk (Kd.R_lower (Kd.R_newB (Kd.R_newB (Kd.R_newB (Kd.R_new' ho0 (Kd.R_lt (bR HO_21.out))) (bs BK428.out)) (bs BK435.out)) (bs BK456.out)) (below_size (by repeat (first | (with_reducible first | exact bw HB.out | refine bset ?_ | apply bA | apply bN | apply bD) | exact HB.out)))); have n2_ := Aside0.mk (blk_below (bs BK428.out) hb); have n3_ := Aside0.mk (blk_below (bs BK435.out) hb); have n4_ := Aside0.mk (blk_below (bs BK446.out) hb); have n5_ := Aside0.mk (blk_below (bs BK455.out) hb); have n6_ := Aside0.mk (blk_below (bs BK456.out) hb); have n7_ := Aside0.mk (blk_below (bs BK461.out) hb); have n8_ := Aside0.mk (blk_below (bs BK466.out) hb); have n9_ := Aside0.mk (blk_below (bs BK475.out) hb); have n10_ := Aside0.mk (blk_below (bs BK480.out) hb); have n11_ := Aside0.mk (below_step (by repeat (first | (with_reducible first | exact bw HB.out | refine bset ?_ | apply bA | apply bN | apply bD) | exact HB.out)) hb); replace HO_21 := n0_; have HO492 := n1_; replace BK428 := n2_; replace BK435 := n3_; replace BK446 := n4_; replace BK455 := n5_; replace BK456 := n6_; replace BK461 := n7_; replace BK466 := n8_; replace BK475 := n9_; replace BK480 := n10_; replace HB := n11_; clear n0_ n1_ n2_ n3_ n4_ n5_ n6_ n7_ n8_ n9_ n10_ n11_; (try clear hb); (try clear hb2); (try clear hk); (try clear hi); (try clear ho0)))
     (try simp only [Act.put, List.setIfInBounds_toArray, List.set_cons_zero, List.set_cons_succ])
     go_cut [154] (fun v154 wc => ∃ (kq : Nat) (x154_221 : Bool), v154 = .bool x154_221 ∧ Aside0 (laws_FnLogs.j2 kq t460 t481 x154_221 t450 t451 t452 t453 t454 t457 t458 t459 = some r) ∧ Aside0 (kq ≤ kj111) ∧ Aside0 (Kd.R k25 25 wc w.heap.size (fun k_ => k_ ≠ gb428 ∧ k_ ≠ gb435 ∧ k_ ≠ gb456) v482 t481) ∧ Aside0 (wc.heap[gb428]? = some (.cells #[.string t426, .string t427] 25 (0, 0))) ∧ Aside0 (wc.heap[gb435]? = some (.cells #[.string t433, .string t434] 25 (0, 0))) ∧ Aside0 (wc.heap[gb446]? = some (.cells #[.string t443, .string t444, .int .i64 t445] 33 (0, 0))) ∧ Aside0 (wc.heap[gb455]? = some (.cells #[.string t450, .string t451, .int .i64 t452] 33 (0, 0))) ∧ Aside0 (wc.heap[gb456]? = some (.cells #[.string t453, .string t454] 25 (0, 0))) ∧ Aside0 (wc.heap[gb461]? = some (.cells #[.string t457, .string t458, .int .i64 t459] 33 (0, 0))) ∧ Aside0 (wc.heap[gb466]? = some (.cells #[.string t462, .string t463, .int .i64 t464] 33 (0, 0))) ∧ Aside0 (wc.heap[gb475]? = some (.cells #[.string t471, .string t472, .int .i64 t473] 33 (0, 0))) ∧ Aside0 (wc.heap[gb480]? = some (.cells #[.string t476, .string t477, .int .i64 t478] 33 (0, 0))) ∧ Aside0 (Below w.heap.size w wc))
     case first =>
      have H := HC222.out
      clear HC222
      by_cases c233 : t474 = true
      rotate_left
      ·replace c233 := Bool.eq_false_iff.mpr c233
       subst c233
       have H1 : (laws_FnLogs.j2 kj111 t460 t481 false t450 t451 t452 t453 t454 t457 t458 t459) = some r := by rw [if_neg (show ¬ (false = true) by decide)] at H; exact H
       clear H
       have H := H1
       clear H1
       have H' := Aside0.mk H
       clear H
       go_wp2
       go_meet
       case rel => exact ⟨_, (false), (by first | rfl | (simp; done) | (simp [*]; done)), H', ⟨by have := HJ14.out; have := HJ111.out; first | omega | exact Nat.le_refl _⟩, ⟨by (with_reducible repeat (first | apply Kd.R_alloc | apply Kd.R_drewN | apply Kd.R_drew)); exact Kd.R_mono HO_21.out (fun _ hk => ⟨hk.1.1, ⟨hk.1.2.1, hk.1.2.2⟩⟩)⟩, ⟨bs BK428.out⟩, ⟨bs BK435.out⟩, ⟨bs BK446.out⟩, ⟨bs BK455.out⟩, ⟨bs BK456.out⟩, ⟨bs BK461.out⟩, ⟨bs BK466.out⟩, ⟨bs BK475.out⟩, ⟨bs BK480.out⟩, ⟨by repeat (first | (with_reducible first | exact bw HB.out | refine bset ?_ | apply bA | apply bN | apply bD) | exact HB.out)⟩⟩
      subst c233
      have H1 : ((laws_vRecords.f kj111 t490 t481).bind fun t494 => (laws_FnLogs.j2 kj111 t460 t481 (!t494) t450 t451 t452 t453 t454 t457 t458 t459)) = some r := by rw [if_pos rfl] at H; exact H
      clear H
      have H := H1
      clear H1
      replace H := Option.bind_eq_some_iff.mp H
      obtain ⟨t494, A2340, H⟩ := H
      replace H : (laws_FnLogs.j2 kj111 t460 t481 (!t494) t450 t451 t452 t453 t454 t457 t458 t459) = some r := H
      have A234 := Aside0.mk A2340
      clear A2340
      have H' := Aside0.mk H
      clear H
      obtain ⟨Ao235, co235, eo235⟩ := Kd.R_slice HO492.out
      subst eo235
      obtain ⟨Ao236, co236, eo236⟩ := Kd.R_slice HO_21.out
      subst eo236
      go_wp2_with (first | (go_at_call 23; (with_reducible refine (laws_vRecords.calls kj111 _ _ t490 _ _ t481 t494 _ ?side1 ?side2 ?side3 ?side4 A234.out).mono ?_); (case side1 => repeat (first | exact (Kd.R_reads' HO492.out).2.2 | (with_reducible refine Kd.C_alloc ?_ _) | (with_reducible refine Kd.C_drewN ?_ _) | (with_reducible refine Kd.C_drew ?_))); (case side2 => exact (Kd.R_reads' HO492.out).2.1); (case side3 => repeat (first | exact (Kd.R_reads' HO_21.out).2.2 | (with_reducible refine Kd.C_alloc ?_ _) | (with_reducible refine Kd.C_drewN ?_ _) | (with_reducible refine Kd.C_drew ?_))); (case side4 => exact (Kd.R_reads' HO_21.out).2.1); rintro e w' ⟨rfl, ⟨nd, rfl⟩⟩))
      go_meet
      case rel => exact ⟨_, (!t494), (by first | rfl | (simp; done) | (simp [*]; done)), H', ⟨by have := HJ14.out; have := HJ111.out; first | omega | exact Nat.le_refl _⟩, ⟨by (with_reducible repeat (first | apply Kd.R_alloc | apply Kd.R_drewN | apply Kd.R_drew)); exact Kd.R_mono HO_21.out (fun _ hk => ⟨hk.1.1, ⟨hk.1.2.1, hk.1.2.2⟩⟩)⟩, ⟨bs BK428.out⟩, ⟨bs BK435.out⟩, ⟨bs BK446.out⟩, ⟨bs BK455.out⟩, ⟨bs BK456.out⟩, ⟨bs BK461.out⟩, ⟨bs BK466.out⟩, ⟨bs BK475.out⟩, ⟨bs BK480.out⟩, ⟨by repeat (first | (with_reducible first | exact bw HB.out | refine bset ?_ | apply bA | apply bN | apply bD) | exact HB.out)⟩⟩
     case rest => as_aux_lemma =>
      clear HC222
      try clear c1
      try clear c2
      try clear p2
      try clear c7
      try clear c10
      try clear c11
      try clear c12
      try clear c13
      try clear c14
      try clear c15
      try clear c16
      try clear c17
      try clear c18
      try clear c19
      try clear c20
      try clear c21
      try clear c22
      try clear c23
      try clear c75
      try clear c75b0
      try clear c75b1
      try clear c107
      try clear c113
      try clear c114
      try clear c115
      try clear c116
      try clear c117
      try clear c118
      try clear c122
      try clear c123
      try clear c124
      try clear c125
      try clear c126
      try clear c127
      try clear c128
      try clear c133
      try clear c134
      try clear c135
      try clear c136
      try clear c137
      try clear c138
      try clear c139
      try clear c140
      try clear c146
      try clear c146b0
      try clear c147
      try clear c148
      try clear c149
      try clear c150
      try clear c151
      try clear c152
      try clear c153
      try clear c154
      try clear c156
      try clear c157
      try clear c158
      try clear c159
      try clear c160
      try clear c161
      try clear c162
      try clear c164
      try clear c164b0
      try clear c164b1
      try clear c164b2
      try clear c165
      try clear c166
      try clear c167
      try clear c168
      try clear c169
      try clear c170
      try clear c171
      try clear c172
      try clear c174
      try clear c175
      try clear c176
      try clear c177
      try clear c178
      try clear c179
      try clear c180
      try clear c182
      try clear c182b0
      try clear c182b1
      try clear c182b2
      try clear c183
      try clear c184
      try clear c185
      try clear c186
      try clear c187
      try clear c188
      try clear c189
      try clear c190
      try clear c192
      try clear c193
      try clear c194
      try clear c195
      try clear c196
      try clear c197
      try clear c198
      try clear c201
      try clear c202
      try clear c203
      try clear c204
      try clear c205
      try clear c206
      try clear c207
      try clear c208
      try clear c210
      try clear c211
      try clear c212
      try clear c213
      try clear c214
      try clear c215
      try clear c216
      try clear c220
      try clear c223
      try clear c224
      try clear c225
      try clear c226
      try clear c227
      try clear c228
      try clear c229
      try clear c230
      try clear c233
      try clear hcz119_0
      try clear hcz119_1
      try clear hcz119_2
      try clear hcz129_0
      try clear hcz129_1
      try clear hcz129_2
      try clear hcz130_0
      try clear hcz130_1
      try clear hcz130_2
      try clear hcz141_0
      try clear hcz141_1
      try clear hcz141_2
      try clear hcz142_0
      try clear hcz142_1
      try clear hcz142_2
      try clear hcz144_0
      try clear hcz144_1
      try clear hcz144_2
      try clear hcz155_0
      try clear hcz155_1
      try clear hcz155_2
      try clear hcz163_0
      try clear hcz163_1
      try clear hcz163_2
      try clear hcz173_0
      try clear hcz173_1
      try clear hcz173_2
      try clear hcz181_0
      try clear hcz181_1
      try clear hcz181_2
      try clear hcz191_0
      try clear hcz191_1
      try clear hcz191_2
      try clear hcz199_0
      try clear hcz199_1
      try clear hcz199_2
      try clear hcz209_0
      try clear hcz209_1
      try clear hcz209_2
      try clear hcz217_0
      try clear hcz217_1
      try clear hcz217_2
      try clear hcz231_0
      try clear hcz231_1
      try clear hcz231_2
      try clear hfz119_0
      try clear hfz119_1
      try clear hfz119_2
      try clear hfz129_0
      try clear hfz129_1
      try clear hfz129_2
      try clear hfz130_0
      try clear hfz130_1
      try clear hfz130_2
      try clear hfz141_0
      try clear hfz141_1
      try clear hfz141_2
      try clear hfz142_0
      try clear hfz142_1
      try clear hfz142_2
      try clear hfz144_0
      try clear hfz144_1
      try clear hfz144_2
      try clear hfz155_0
      try clear hfz155_1
      try clear hfz155_2
      try clear hfz163_0
      try clear hfz163_1
      try clear hfz163_2
      try clear hfz173_0
      try clear hfz173_1
      try clear hfz173_2
      try clear hfz181_0
      try clear hfz181_1
      try clear hfz181_2
      try clear hfz191_0
      try clear hfz191_1
      try clear hfz191_2
      try clear hfz199_0
      try clear hfz199_1
      try clear hfz199_2
      try clear hfz209_0
      try clear hfz209_1
      try clear hfz209_2
      try clear hfz217_0
      try clear hfz217_1
      try clear hfz217_2
      try clear hfz231_0
      try clear hfz231_1
      try clear hfz231_2
      try clear p2
      obtain ⟨kq, x154_221, rfl, HA, HJ221, HO_21, BK428, BK435, BK446, BK455, BK456, BK461, BK466, BK475, BK480, HB⟩ := hcut
      cases kq with
      | zero => exact absurd HA.out (by simp [laws_FnLogs.j2])
      | succ kj221 =>
       have H := HA.out
       clear HA
       simp only [laws_FnLogs.j2] at H
       by_cases c237 : x154_221 = true
       ·subst c237
        have H1 : (some false) = some r := by rw [if_pos rfl] at H; exact H
        clear H
        have H := H1
        clear H1
        obtain rfl := Option.some.inj H
        go_wp2
        go_ret
        exact ⟨by first | rfl | (simp [errW_none, errW_some] <;> rfl) | (simp [*, errW_none, errW_some] <;> rfl), by repeat (first | (with_reducible first | exact bw HB.out | refine bset ?_ | apply bA | apply bN | apply bD) | exact HB.out)⟩
       replace c237 := Bool.eq_false_iff.mpr c237
       subst c237
       have H1 : (if t460 = 0 then ((impl_LogRecords.f kj221 t457 t458 t459).bind fun bt495 => ((impl_IsValidLog.f kj221 t457 t458 t459).bind fun t499 => (if t499 = true then (if (bt495.1.length : Int) = (wrap64 ((t481.length : Int) + 1)) then (if 0 ≤ (t481.length : Int) then (if (t481.length : Int) ≤ (bt495.1.length : Int) then ((laws_vRecords.f kj221 (bt495.1.take ((t481.length : Int) : Int).toNat) t481).bind fun t504 => (if t504 = true then (if (t481.length : Int) < (bt495.1.length : Int) then (some ((((rd_T25 bt495.1 (t481.length : Int)).f0).toList) == t453.toList && ((((rd_T25 bt495.1 (t481.length : Int)).f1).toList) == t454.toList))) else (none)) else (some false))) else (none)) else (none)) else (some false)) else (some false)))) else (some (t457.toList == t450.toList && (t458.toList == t451.toList && (t459 == t452))))) = some r := by rw [if_neg (show ¬ (false = true) by decide)] at H; exact H
       clear H
       have H := H1
       clear H1
       by_cases c238 : t460 = 0
       rotate_left
       ·rw [if_neg c238] at H
        have c238b0 : (t460 == 0) = false := beq_eq_false_iff_ne.mpr c238
        have c238b1 : (t460 != 0) = true := bne_iff_ne.mpr c238
        obtain rfl := Option.some.inj H
        have hnb304 := NB461_428.out
        have hnc304 := NB428_461.out
        have hnb305 := NB461_435.out
        have hnc305 := NB435_461.out
        have hnb306 := NB461_446.out
        have hnc306 := NB446_461.out
        have hnb307 := NB461_455.out
        have hnc307 := NB455_461.out
        have hnb308 := NB461_456.out
        have hnc308 := NB456_461.out
        have hnb309 := NB461_466.out
        have hnc309 := NB466_461.out
        have hnb310 := NB461_475.out
        have hnc310 := NB475_461.out
        have hnb311 := NB461_480.out
        have hnc311 := NB480_461.out
        obtain ⟨hcz312_0, hcz312_1, hcz312_2, hfz312_0, hfz312_1, hfz312_2⟩ := bz3 BK461.out
        have hnb313 := NB455_428.out
        have hnc313 := NB428_455.out
        have hnb314 := NB455_435.out
        have hnc314 := NB435_455.out
        have hnb315 := NB455_446.out
        have hnc315 := NB446_455.out
        have hnb316 := NB455_456.out
        have hnc316 := NB456_455.out
        have hnb317 := NB455_466.out
        have hnc317 := NB466_455.out
        have hnb318 := NB455_475.out
        have hnc318 := NB475_455.out
        have hnb319 := NB455_480.out
        have hnc319 := NB480_455.out
        obtain ⟨hcz320_0, hcz320_1, hcz320_2, hfz320_0, hfz320_1, hfz320_2⟩ := bz3 BK455.out
        go_wp2
        go_ret
        exact ⟨by first | rfl | (simp [errW_none, errW_some] <;> rfl) | (simp [*, errW_none, errW_some] <;> rfl), by repeat (first | (with_reducible first | exact bw HB.out | refine bset ?_ | apply bA | apply bN | apply bD) | exact HB.out)⟩
       rw [if_pos c238] at H
       have c238b0 : (t460 == 0) = true := beq_iff_eq.mpr c238
       have c238b1 : (t460 != 0) = false := bne_eq_false_iff_eq.mpr c238
       clear c238
       replace H := Option.bind_eq_some_iff.mp H
       obtain ⟨⟨t495, t498⟩, A2390, H⟩ := H
       replace H : ((impl_IsValidLog.f kj221 t457 t458 t459).bind fun t499 => (if t499 = true then (if (t495.length : Int) = (wrap64 ((t481.length : Int) + 1)) then (if 0 ≤ (t481.length : Int) then (if (t481.length : Int) ≤ (t495.length : Int) then ((laws_vRecords.f kj221 (t495.take ((t481.length : Int) : Int).toNat) t481).bind fun t504 => (if t504 = true then (if (t481.length : Int) < (t495.length : Int) then (some ((((rd_T25 t495 (t481.length : Int)).f0).toList) == t453.toList && ((((rd_T25 t495 (t481.length : Int)).f1).toList) == t454.toList))) else (none)) else (some false))) else (none)) else (none)) else (some false)) else (some false))) = some r := H
       have A239 := Aside0.mk A2390
       clear A2390
       replace H := Option.bind_eq_some_iff.mp H
       obtain ⟨t499, A2400, H⟩ := H
       replace H : (if t499 = true then (if (t495.length : Int) = (wrap64 ((t481.length : Int) + 1)) then (if 0 ≤ (t481.length : Int) then (if (t481.length : Int) ≤ (t495.length : Int) then ((laws_vRecords.f kj221 (t495.take ((t481.length : Int) : Int).toNat) t481).bind fun t504 => (if t504 = true then (if (t481.length : Int) < (t495.length : Int) then (some ((((rd_T25 t495 (t481.length : Int)).f0).toList) == t453.toList && ((((rd_T25 t495 (t481.length : Int)).f1).toList) == t454.toList))) else (none)) else (some false))) else (none)) else (none)) else (some false)) else (some false)) = some r := H
       have A240 := Aside0.mk A2400
       clear A2400
       by_cases c241 : t499 = true
       rotate_left
       ·replace c241 := Bool.eq_false_iff.mpr c241
        subst c241
        have H1 : (some false) = some r := by rw [if_neg (show ¬ (false = true) by decide)] at H; exact H
        clear H
        have H := H1
        clear H1
        obtain rfl := Option.some.inj H
        have hnb292 := NB461_428.out
        have hnc292 := NB428_461.out
        have hnb293 := NB461_435.out
        have hnc293 := NB435_461.out
        have hnb294 := NB461_446.out
        have hnc294 := NB446_461.out
        have hnb295 := NB461_455.out
        have hnc295 := NB455_461.out
        have hnb296 := NB461_456.out
        have hnc296 := NB456_461.out
        have hnb297 := NB461_466.out
        have hnc297 := NB466_461.out
        have hnb298 := NB461_475.out
        have hnc298 := NB475_461.out
        have hnb299 := NB461_480.out
        have hnc299 := NB480_461.out
        obtain ⟨hcz300_0, hcz300_1, hcz300_2, hfz300_0, hfz300_1, hfz300_2⟩ := bz3 BK461.out
        try go_wp2_with (first | ((with_reducible refine gate_callee (f := 21) rfl ?_); refine goesL_ (some 162) rfl rfl Try.func21 (by kernel_rfl) rfl #[.agg #[.string t457, .string t458, .int .i64 t459]] rfl (by (try simp only [mA_]); first | done | rfl | (simp only [List.length_drop, List.length_take]; rfl)) ?_; (with_reducible refine (impl_LogRecords.calls kj221 t457 t458 t459 t495 t498 _ A239.out).mono ?_); rintro e w301 ⟨v496, rfl, ho0, hb⟩; refine ⟨_, rfl, ?_⟩; have n0_ := Aside0.mk (Kd.R_elder' (bR HO_21.out) (Kd.R_base ho0) hb); have n1_ := Aside0.mk (Kd.R_lower (Kd.R_newB (Kd.R_newB (Kd.R_newB (Kd.R_new' ho0 (Kd.R_lt (bR HO_21.out))) (bs BK428.out)) (bs BK435.out)) (bs BK456.out)) (below_size (by repeat (first | (with_reducible first | exact bw HB.out | refine bset ?_ | apply bA | apply bN | apply bD) | exact HB.out)))); have n2_ := Aside0.mk (blk_below (bs BK428.out) hb); have n3_ := Aside0.mk (blk_below (bs BK435.out) hb); have n4_ := Aside0.mk (blk_below (bs BK446.out) hb); have n5_ := Aside0.mk (blk_below (bs BK455.out) hb); have n6_ := Aside0.mk (blk_below (bs BK456.out) hb); have n7_ := Aside0.mk (blk_below (bs BK461.out) hb); have n8_ := Aside0.mk (blk_below (bs BK466.out) hb); have n9_ := Aside0.mk (blk_below (bs BK475.out) hb); have n10_ := Aside0.mk (blk_below (bs BK480.out) hb); have n11_ := Aside0.mk (below_step (by repeat (first | (with_reducible first | exact bw HB.out | refine bset ?_ | apply bA | apply bN | apply bD) | exact HB.out)) hb); replace HO_21 := n0_; have HO497 := n1_; replace BK428 := n2_; replace BK435 := n3_; replace BK446 := n4_; replace BK455 := n5_; replace BK456 := n6_; replace BK461 := n7_; replace BK466 := n8_; replace BK475 := n9_; replace BK480 := n10_; replace HB := n11_; clear n0_ n1_ n2_ n3_ n4_ n5_ n6_ n7_ n8_ n9_ n10_ n11_; (try clear hb); (try clear hb2); (try clear hk); (try clear hi); (try clear ho0)))
        have n0_ := Aside0.mk (Kd.R_drew HO_21.out)
        have n1_ := Aside0.mk (Kd.R_drew HO497.out)
        have n2_ := Aside0.mk (blk_drew BK428.out)
        have n3_ := Aside0.mk (blk_drew BK435.out)
        have n4_ := Aside0.mk (blk_drew BK446.out)
        have n5_ := Aside0.mk (blk_drew BK455.out)
        have n6_ := Aside0.mk (blk_drew BK456.out)
        have n7_ := Aside0.mk (blk_drew BK461.out)
        have n8_ := Aside0.mk (blk_drew BK466.out)
        have n9_ := Aside0.mk (blk_drew BK475.out)
        have n10_ := Aside0.mk (blk_drew BK480.out)
        have n11_ := Aside0.mk (below_drew1 HB.out)
        replace HO_21 := n0_
        replace HO497 := n1_
        replace BK428 := n2_
        replace BK435 := n3_
        replace BK446 := n4_
        replace BK455 := n5_
        replace BK456 := n6_
        replace BK461 := n7_
        replace BK466 := n8_
        replace BK475 := n9_
        replace BK480 := n10_
        replace HB := n11_
        clear n0_ n1_ n2_ n3_ n4_ n5_ n6_ n7_ n8_ n9_ n10_ n11_
        refine start_ (n := 28) (S := fun w' => w'.cell? ⟨gb461, 0, none⟩ = some (.string t457) ∧ w'.cell? ⟨gb461, 1, none⟩ = some (.string t458) ∧ w'.cell? ⟨gb461, 2, none⟩ = some (.int .i64 t459)) (ds := []) q3_34 (by kernel_rfl) rfl rfl ⟨(blk_cell BK461.out 0).trans rfl, (blk_cell BK461.out 1).trans rfl, (blk_cell BK461.out 2).trans rfl⟩ (fun hHeld => ?_); refine with_tabW laws_FnLogs.tab25 laws_FnLogs.bits25 (fun HT_ HW_ => ?_)
        generalize w301.drew = w302 at HO_21 HO497 BK428 BK435 BK446 BK455 BK456 BK461 BK466 BK475 BK480 HB hHeld ⊢
        refine take_ (i := 0) (N := some 165) (v := ?_) (a' := ?_) q3_35 rfl rfl (take_ofW HT_.out HW_.out (by kernel_rfl)) (fun _ _ _ h => h) (Or.inl ⟨by rfl, ?_⟩) hHeld ?_ ?_
        rotate_left
        ·rintro w' ⟨s0, s1, s2⟩
         go_simp
         with_reducible rfl
        rotate_left
        ·simp only [aq_]
         rfl
        refine one_ (i := 1) (N := some 166) q3_36 rfl rfl (one_of HT_.out (by kernel_rfl)) (by decide) (fun K hK => ?_)
        refine goes_ Try.func17 (by kernel_rfl) rfl #[.agg #[.string t457, .string t458, .int .i64 t459]] (by rfl) rfl rfl (by (try simp only [mA_]); first | done | rfl | (simp only [List.length_drop, List.length_take]; rfl)) ?_
        with_reducible refine (impl_IsValidLog.calls kj221 t457 t458 t459 false _ A240.out).mono ?_
        rintro e w303 ⟨rfl, hb⟩
        refine ⟨_, rfl, ?_⟩
        have n0_ := Aside0.mk (Kd.R_below (bR HO_21.out) hb)
        have n1_ := Aside0.mk (Kd.R_below (bR HO497.out) hb)
        have n2_ := Aside0.mk (blk_below (bs BK428.out) hb)
        have n3_ := Aside0.mk (blk_below (bs BK435.out) hb)
        have n4_ := Aside0.mk (blk_below (bs BK446.out) hb)
        have n5_ := Aside0.mk (blk_below (bs BK455.out) hb)
        have n6_ := Aside0.mk (blk_below (bs BK456.out) hb)
        have n7_ := Aside0.mk (blk_below (bs BK461.out) hb)
        have n8_ := Aside0.mk (blk_below (bs BK466.out) hb)
        have n9_ := Aside0.mk (blk_below (bs BK475.out) hb)
        have n10_ := Aside0.mk (blk_below (bs BK480.out) hb)
        have n11_ := Aside0.mk (below_step (by repeat (first | (with_reducible first | exact bw HB.out | refine bset ?_ | apply bA | apply bN | apply bD) | exact HB.out)) hb)
        replace HO_21 := n0_
        replace HO497 := n1_
        replace BK428 := n2_
        replace BK435 := n3_
        replace BK446 := n4_
        replace BK455 := n5_
        replace BK456 := n6_
        replace BK461 := n7_
        replace BK466 := n8_
        replace BK475 := n9_
        replace BK480 := n10_
        replace HB := n11_
        clear n0_ n1_ n2_ n3_ n4_ n5_ n6_ n7_ n8_ n9_ n10_ n11_
        (try clear hb)
        (try clear hb2)
        (try clear hk)
        (try clear hi)
        refine hK.out _ _ ⟨(blk_cell BK461.out 0).trans rfl, (blk_cell BK461.out 1).trans rfl, (blk_cell BK461.out 2).trans rfl⟩ (fun hHeld => ?_)
        clear hK K
        refine norm_ (a' := ?_) ?_ ?_
        rotate_left
        ·show Act.put _ (some 166) _ = _
         simp only [aq_]
         rfl
        refine pw_ HT_ 2 (some 167) ?_
        refine sw_ HT_ 3 (some 168) ?_
        refine sw_ HT_ 4 (some 169) ?_
        refine sw_ HT_ 5 (some 170) ?_
        refine sw_ HT_ 6 (some 171) ?_
        refine sw_ HT_ 7 (some 172) ?_
        refine sw_ HT_ 8 (some 173) ?_
        refine pw_ HT_ 9 (some 174) ?_
        refine pw_ HT_ 10 (some 175) ?_
        refine sw_ HT_ 11 (some 176) ?_
        refine sw_ HT_ 12 (some 177) ?_
        refine sw_ HT_ 13 (some 178) ?_
        refine sw_ HT_ 14 (some 179) ?_
        refine sw_ HT_ 15 (some 180) ?_
        refine sw_ HT_ 16 (some 181) ?_
        refine pw_ HT_ 17 (some 182) ?_
        refine pw_ HT_ 18 (some 183) ?_
        refine sw_ HT_ 19 (some 184) ?_
        refine sw_ HT_ 20 (some 185) ?_
        refine sw_ HT_ 21 (some 186) ?_
        refine sw_ HT_ 22 (some 187) ?_
        refine sw_ HT_ 23 (some 188) ?_
        refine sw_ HT_ 24 (some 189) ?_
        refine sw_ HT_ 25 (some 190) ?_
        refine pw_ HT_ 26 (some 191) ?_
        refine pw_ HT_ 27 (some 2) ?_
        refine done_ (done_of HT_.out (by kernel_rfl)) ?_
        try go_wp2
        go_ret
        exact ⟨by first | rfl | (simp [errW_none, errW_some] <;> rfl) | (simp [*, errW_none, errW_some] <;> rfl), by repeat (first | (with_reducible first | exact bw HB.out | refine bset ?_ | apply bA | apply bN | apply bD) | exact HB.out)⟩
       subst c241
       have H1 : (if (t495.length : Int) = (wrap64 ((t481.length : Int) + 1)) then (if 0 ≤ (t481.length : Int) then (if (t481.length : Int) ≤ (t495.length : Int) then ((laws_vRecords.f kj221 (t495.take ((t481.length : Int) : Int).toNat) t481).bind fun t504 => (if t504 = true then (if (t481.length : Int) < (t495.length : Int) then (some ((((rd_T25 t495 (t481.length : Int)).f0).toList) == t453.toList && ((((rd_T25 t495 (t481.length : Int)).f1).toList) == t454.toList))) else (none)) else (some false))) else (none)) else (none)) else (some false)) = some r := by rw [if_pos rfl] at H; exact H
       clear H
       have H := H1
       clear H1
       by_cases c242 : (t495.length : Int) = (wrap64 ((t481.length : Int) + 1))
       rotate_left
       ·rw [if_neg c242] at H
        have c242b0 : ((t495.length : Int) == (wrap64 ((t481.length : Int) + 1))) = false := beq_eq_false_iff_ne.mpr c242
        have c242b1 : ((t495.length : Int) != (wrap64 ((t481.length : Int) + 1))) = true := bne_iff_ne.mpr c242
        obtain rfl := Option.some.inj H
        have hnb278 := NB461_428.out
        have hnc278 := NB428_461.out
        have hnb279 := NB461_435.out
        have hnc279 := NB435_461.out
        have hnb280 := NB461_446.out
        have hnc280 := NB446_461.out
        have hnb281 := NB461_455.out
        have hnc281 := NB455_461.out
        have hnb282 := NB461_456.out
        have hnc282 := NB456_461.out
        have hnb283 := NB461_466.out
        have hnc283 := NB466_461.out
        have hnb284 := NB461_475.out
        have hnc284 := NB475_461.out
        have hnb285 := NB461_480.out
        have hnc285 := NB480_461.out
        obtain ⟨hcz286_0, hcz286_1, hcz286_2, hfz286_0, hfz286_1, hfz286_2⟩ := bz3 BK461.out
        try go_wp2_with (first | ((with_reducible refine gate_callee (f := 21) rfl ?_); refine goesL_ (some 162) rfl rfl Try.func21 (by kernel_rfl) rfl #[.agg #[.string t457, .string t458, .int .i64 t459]] rfl (by (try simp only [mA_]); first | done | rfl | (simp only [List.length_drop, List.length_take]; rfl)) ?_; (with_reducible refine (impl_LogRecords.calls kj221 t457 t458 t459 t495 t498 _ A239.out).mono ?_); rintro e w287 ⟨v496, rfl, ho0, hb⟩; refine ⟨_, rfl, ?_⟩; have n0_ := Aside0.mk (Kd.R_elder' (bR HO_21.out) (Kd.R_base ho0) hb); have n1_ := Aside0.mk (Kd.R_lower (Kd.R_newB (Kd.R_newB (Kd.R_newB (Kd.R_new' ho0 (Kd.R_lt (bR HO_21.out))) (bs BK428.out)) (bs BK435.out)) (bs BK456.out)) (below_size (by repeat (first | (with_reducible first | exact bw HB.out | refine bset ?_ | apply bA | apply bN | apply bD) | exact HB.out)))); have n2_ := Aside0.mk (blk_below (bs BK428.out) hb); have n3_ := Aside0.mk (blk_below (bs BK435.out) hb); have n4_ := Aside0.mk (blk_below (bs BK446.out) hb); have n5_ := Aside0.mk (blk_below (bs BK455.out) hb); have n6_ := Aside0.mk (blk_below (bs BK456.out) hb); have n7_ := Aside0.mk (blk_below (bs BK461.out) hb); have n8_ := Aside0.mk (blk_below (bs BK466.out) hb); have n9_ := Aside0.mk (blk_below (bs BK475.out) hb); have n10_ := Aside0.mk (blk_below (bs BK480.out) hb); have n11_ := Aside0.mk (below_step (by repeat (first | (with_reducible first | exact bw HB.out | refine bset ?_ | apply bA | apply bN | apply bD) | exact HB.out)) hb); replace HO_21 := n0_; have HO497 := n1_; replace BK428 := n2_; replace BK435 := n3_; replace BK446 := n4_; replace BK455 := n5_; replace BK456 := n6_; replace BK461 := n7_; replace BK466 := n8_; replace BK475 := n9_; replace BK480 := n10_; replace HB := n11_; clear n0_ n1_ n2_ n3_ n4_ n5_ n6_ n7_ n8_ n9_ n10_ n11_; (try clear hb); (try clear hb2); (try clear hk); (try clear hi); (try clear ho0)))
        have n0_ := Aside0.mk (Kd.R_drew HO_21.out)
        have n1_ := Aside0.mk (Kd.R_drew HO497.out)
        have n2_ := Aside0.mk (blk_drew BK428.out)
        have n3_ := Aside0.mk (blk_drew BK435.out)
        have n4_ := Aside0.mk (blk_drew BK446.out)
        have n5_ := Aside0.mk (blk_drew BK455.out)
        have n6_ := Aside0.mk (blk_drew BK456.out)
        have n7_ := Aside0.mk (blk_drew BK461.out)
        have n8_ := Aside0.mk (blk_drew BK466.out)
        have n9_ := Aside0.mk (blk_drew BK475.out)
        have n10_ := Aside0.mk (blk_drew BK480.out)
        have n11_ := Aside0.mk (below_drew1 HB.out)
        replace HO_21 := n0_
        replace HO497 := n1_
        replace BK428 := n2_
        replace BK435 := n3_
        replace BK446 := n4_
        replace BK455 := n5_
        replace BK456 := n6_
        replace BK461 := n7_
        replace BK466 := n8_
        replace BK475 := n9_
        replace BK480 := n10_
        replace HB := n11_
        clear n0_ n1_ n2_ n3_ n4_ n5_ n6_ n7_ n8_ n9_ n10_ n11_
        refine start_ (n := 28) (S := fun w' => w'.cell? ⟨gb461, 0, none⟩ = some (.string t457) ∧ w'.cell? ⟨gb461, 1, none⟩ = some (.string t458) ∧ w'.cell? ⟨gb461, 2, none⟩ = some (.int .i64 t459)) (ds := []) q3_34 (by kernel_rfl) rfl rfl ⟨(blk_cell BK461.out 0).trans rfl, (blk_cell BK461.out 1).trans rfl, (blk_cell BK461.out 2).trans rfl⟩ (fun hHeld => ?_); refine with_tabW laws_FnLogs.tab25 laws_FnLogs.bits25 (fun HT_ HW_ => ?_)
        generalize w287.drew = w288 at HO_21 HO497 BK428 BK435 BK446 BK455 BK456 BK461 BK466 BK475 BK480 HB hHeld ⊢
        refine take_ (i := 0) (N := some 165) (v := ?_) (a' := ?_) q3_35 rfl rfl (take_ofW HT_.out HW_.out (by kernel_rfl)) (fun _ _ _ h => h) (Or.inl ⟨by rfl, ?_⟩) hHeld ?_ ?_
        rotate_left
        ·rintro w' ⟨s0, s1, s2⟩
         go_simp
         with_reducible rfl
        rotate_left
        ·simp only [aq_]
         rfl
        refine one_ (i := 1) (N := some 166) q3_36 rfl rfl (one_of HT_.out (by kernel_rfl)) (by decide) (fun K hK => ?_)
        refine goes_ Try.func17 (by kernel_rfl) rfl #[.agg #[.string t457, .string t458, .int .i64 t459]] (by rfl) rfl rfl (by (try simp only [mA_]); first | done | rfl | (simp only [List.length_drop, List.length_take]; rfl)) ?_
        with_reducible refine (impl_IsValidLog.calls kj221 t457 t458 t459 true _ A240.out).mono ?_
        rintro e w289 ⟨rfl, hb⟩
        refine ⟨_, rfl, ?_⟩
        have n0_ := Aside0.mk (Kd.R_below (bR HO_21.out) hb)
        have n1_ := Aside0.mk (Kd.R_below (bR HO497.out) hb)
        have n2_ := Aside0.mk (blk_below (bs BK428.out) hb)
        have n3_ := Aside0.mk (blk_below (bs BK435.out) hb)
        have n4_ := Aside0.mk (blk_below (bs BK446.out) hb)
        have n5_ := Aside0.mk (blk_below (bs BK455.out) hb)
        have n6_ := Aside0.mk (blk_below (bs BK456.out) hb)
        have n7_ := Aside0.mk (blk_below (bs BK461.out) hb)
        have n8_ := Aside0.mk (blk_below (bs BK466.out) hb)
        have n9_ := Aside0.mk (blk_below (bs BK475.out) hb)
        have n10_ := Aside0.mk (blk_below (bs BK480.out) hb)
        have n11_ := Aside0.mk (below_step (by repeat (first | (with_reducible first | exact bw HB.out | refine bset ?_ | apply bA | apply bN | apply bD) | exact HB.out)) hb)
        replace HO_21 := n0_
        replace HO497 := n1_
        replace BK428 := n2_
        replace BK435 := n3_
        replace BK446 := n4_
        replace BK455 := n5_
        replace BK456 := n6_
        replace BK461 := n7_
        replace BK466 := n8_
        replace BK475 := n9_
        replace BK480 := n10_
        replace HB := n11_
        clear n0_ n1_ n2_ n3_ n4_ n5_ n6_ n7_ n8_ n9_ n10_ n11_
        (try clear hb)
        (try clear hb2)
        (try clear hk)
        (try clear hi)
        obtain ⟨Ao290, co290, eo290⟩ := Kd.R_slice HO497.out
        (first | subst eo290 | (injection eo290 with f1_ f2_ f3_; have f4_ := f1_.symm; have f5_ := f3_.symm; clear f1_ f2_ f3_; subst f4_; subst f5_))
        obtain ⟨Ao291, co291, eo291⟩ := Kd.R_slice HO_21.out
        (first | subst eo291 | (injection eo291 with f1_ f2_ f3_; have f4_ := f1_.symm; have f5_ := f3_.symm; clear f1_ f2_ f3_; subst f4_; subst f5_))
        refine hK.out _ _ ⟨(blk_cell BK461.out 0).trans rfl, (blk_cell BK461.out 1).trans rfl, (blk_cell BK461.out 2).trans rfl⟩ (fun hHeld => ?_)
        clear hK K
        refine norm_ (a' := ?_) ?_ ?_
        rotate_left
        ·show Act.put _ (some 166) _ = _
         simp only [aq_]
         rfl
        refine pw_ HT_ 2 (some 167) ?_
        refine pw_ HT_ 3 (some 168) ?_
        refine pw_ HT_ 4 (some 169) ?_
        refine pw_ HT_ 5 (some 170) ?_
        refine pw_ HT_ 6 (some 171) ?_
        refine pw_ HT_ 7 (some 172) ?_
        refine pw_ HT_ 8 (some 173) ?_
        refine pw_ HT_ 9 (some 174) ?_
        refine pw_ HT_ 10 (some 175) ?_
        refine sw_ HT_ 11 (some 176) ?_
        refine sw_ HT_ 12 (some 177) ?_
        refine sw_ HT_ 13 (some 178) ?_
        refine sw_ HT_ 14 (some 179) ?_
        refine sw_ HT_ 15 (some 180) ?_
        refine sw_ HT_ 16 (some 181) ?_
        refine pw_ HT_ 17 (some 182) ?_
        refine pw_ HT_ 18 (some 183) ?_
        refine sw_ HT_ 19 (some 184) ?_
        refine sw_ HT_ 20 (some 185) ?_
        refine sw_ HT_ 21 (some 186) ?_
        refine sw_ HT_ 22 (some 187) ?_
        refine sw_ HT_ 23 (some 188) ?_
        refine sw_ HT_ 24 (some 189) ?_
        refine sw_ HT_ 25 (some 190) ?_
        refine pw_ HT_ 26 (some 191) ?_
        refine pw_ HT_ 27 (some 2) ?_
        refine done_ (done_of HT_.out (by kernel_rfl)) ?_
        try go_wp2
        go_ret
        exact ⟨by first | rfl | (simp [errW_none, errW_some] <;> rfl) | (simp [*, errW_none, errW_some] <;> rfl), by repeat (first | (with_reducible first | exact bw HB.out | refine bset ?_ | apply bA | apply bN | apply bD) | exact HB.out)⟩
       rw [if_pos c242] at H
       have c242b0 : ((t495.length : Int) == (wrap64 ((t481.length : Int) + 1))) = true := beq_iff_eq.mpr c242
       have c242b1 : ((t495.length : Int) != (wrap64 ((t481.length : Int) + 1))) = false := bne_eq_false_iff_eq.mpr c242
       clear c242
       by_cases c243 : 0 ≤ (t481.length : Int)
       rotate_left
       ·rw [if_neg c243] at H
        exact absurd H (by simp)
       rw [if_pos c243] at H
       have c243b0 := eq_true c243
       have c243b1 : decide (0 ≤ (t481.length : Int)) = true := decide_eq_true c243
       clear c243
       by_cases c244 : (t481.length : Int) ≤ (t495.length : Int)
       rotate_left
       ·rw [if_neg c244] at H
        exact absurd H (by simp)
       rw [if_pos c244] at H
       have c244b0 := eq_true c244
       have c244b1 : decide ((t481.length : Int) ≤ (t495.length : Int)) = true := decide_eq_true c244
       clear c244
       obtain ⟨y500, hy500⟩ : ∃ y_ : List (S25), y_ = (t495.take ((t481.length : Int) : Int).toNat) := ⟨_, rfl⟩
       replace H : ((laws_vRecords.f kj221 y500 t481).bind fun t504 => (if t504 = true then (if (t481.length : Int) < (t495.length : Int) then (some ((((rd_T25 t495 (t481.length : Int)).f0).toList) == t453.toList && ((((rd_T25 t495 (t481.length : Int)).f1).toList) == t454.toList))) else (none)) else (some false))) = some r := by first | (rw [hy500]; with_reducible exact H) | (have H2_ := (Option.bind_some _ _).symm.trans H; rw [hy500]; with_reducible exact H2_) | (have H2_ := (Option.bind_some _ _).symm.trans H; with_reducible exact H2_) | with_reducible exact H | (rw [hy500]; exact H) | exact H
       have Ny500 := Aside0.mk hy500
       clear hy500
       replace H := Option.bind_eq_some_iff.mp H
       obtain ⟨t504, A2450, H⟩ := H
       replace H : (if t504 = true then (if (t481.length : Int) < (t495.length : Int) then (some ((((rd_T25 t495 (t481.length : Int)).f0).toList) == t453.toList && ((((rd_T25 t495 (t481.length : Int)).f1).toList) == t454.toList))) else (none)) else (some false)) = some r := H
       have A245 := Aside0.mk A2450
       clear A2450
       by_cases c246 : t504 = true
       rotate_left
       ·replace c246 := Bool.eq_false_iff.mpr c246
        subst c246
        have H1 : (some false) = some r := by rw [if_neg (show ¬ (false = true) by decide)] at H; exact H
        clear H
        have H := H1
        clear H1
        obtain rfl := Option.some.inj H
        have hnb263 := NB461_428.out
        have hnc263 := NB428_461.out
        have hnb264 := NB461_435.out
        have hnc264 := NB435_461.out
        have hnb265 := NB461_446.out
        have hnc265 := NB446_461.out
        have hnb266 := NB461_455.out
        have hnc266 := NB455_461.out
        have hnb267 := NB461_456.out
        have hnc267 := NB456_461.out
        have hnb268 := NB461_466.out
        have hnc268 := NB466_461.out
        have hnb269 := NB461_475.out
        have hnc269 := NB475_461.out
        have hnb270 := NB461_480.out
        have hnc270 := NB480_461.out
        obtain ⟨hcz271_0, hcz271_1, hcz271_2, hfz271_0, hfz271_1, hfz271_2⟩ := bz3 BK461.out
        try go_wp2_with (first | ((with_reducible refine gate_callee (f := 21) rfl ?_); refine goesL_ (some 162) rfl rfl Try.func21 (by kernel_rfl) rfl #[.agg #[.string t457, .string t458, .int .i64 t459]] rfl (by (try simp only [mA_]); first | done | rfl | (simp only [List.length_drop, List.length_take]; rfl)) ?_; (with_reducible refine (impl_LogRecords.calls kj221 t457 t458 t459 t495 t498 _ A239.out).mono ?_); rintro e w272 ⟨v496, rfl, ho0, hb⟩; refine ⟨_, rfl, ?_⟩; have n0_ := Aside0.mk (Kd.R_elder' (bR HO_21.out) (Kd.R_base ho0) hb); have n1_ := Aside0.mk (Kd.R_lower (Kd.R_newB (Kd.R_newB (Kd.R_newB (Kd.R_new' ho0 (Kd.R_lt (bR HO_21.out))) (bs BK428.out)) (bs BK435.out)) (bs BK456.out)) (below_size (by repeat (first | (with_reducible first | exact bw HB.out | refine bset ?_ | apply bA | apply bN | apply bD) | exact HB.out)))); have n2_ := Aside0.mk (blk_below (bs BK428.out) hb); have n3_ := Aside0.mk (blk_below (bs BK435.out) hb); have n4_ := Aside0.mk (blk_below (bs BK446.out) hb); have n5_ := Aside0.mk (blk_below (bs BK455.out) hb); have n6_ := Aside0.mk (blk_below (bs BK456.out) hb); have n7_ := Aside0.mk (blk_below (bs BK461.out) hb); have n8_ := Aside0.mk (blk_below (bs BK466.out) hb); have n9_ := Aside0.mk (blk_below (bs BK475.out) hb); have n10_ := Aside0.mk (blk_below (bs BK480.out) hb); have n11_ := Aside0.mk (below_step (by repeat (first | (with_reducible first | exact bw HB.out | refine bset ?_ | apply bA | apply bN | apply bD) | exact HB.out)) hb); replace HO_21 := n0_; have HO497 := n1_; replace BK428 := n2_; replace BK435 := n3_; replace BK446 := n4_; replace BK455 := n5_; replace BK456 := n6_; replace BK461 := n7_; replace BK466 := n8_; replace BK475 := n9_; replace BK480 := n10_; replace HB := n11_; clear n0_ n1_ n2_ n3_ n4_ n5_ n6_ n7_ n8_ n9_ n10_ n11_; (try clear hb); (try clear hb2); (try clear hk); (try clear hi); (try clear ho0)))
        have n0_ := Aside0.mk (Kd.R_drew HO_21.out)
        have n1_ := Aside0.mk (Kd.R_drew HO497.out)
        have n2_ := Aside0.mk (blk_drew BK428.out)
        have n3_ := Aside0.mk (blk_drew BK435.out)
        have n4_ := Aside0.mk (blk_drew BK446.out)
        have n5_ := Aside0.mk (blk_drew BK455.out)
        have n6_ := Aside0.mk (blk_drew BK456.out)
        have n7_ := Aside0.mk (blk_drew BK461.out)
        have n8_ := Aside0.mk (blk_drew BK466.out)
        have n9_ := Aside0.mk (blk_drew BK475.out)
        have n10_ := Aside0.mk (blk_drew BK480.out)
        have n11_ := Aside0.mk (below_drew1 HB.out)
        replace HO_21 := n0_
        replace HO497 := n1_
        replace BK428 := n2_
        replace BK435 := n3_
        replace BK446 := n4_
        replace BK455 := n5_
        replace BK456 := n6_
        replace BK461 := n7_
        replace BK466 := n8_
        replace BK475 := n9_
        replace BK480 := n10_
        replace HB := n11_
        clear n0_ n1_ n2_ n3_ n4_ n5_ n6_ n7_ n8_ n9_ n10_ n11_
        refine start_ (n := 28) (S := fun w' => w'.cell? ⟨gb461, 0, none⟩ = some (.string t457) ∧ w'.cell? ⟨gb461, 1, none⟩ = some (.string t458) ∧ w'.cell? ⟨gb461, 2, none⟩ = some (.int .i64 t459)) (ds := []) q3_34 (by kernel_rfl) rfl rfl ⟨(blk_cell BK461.out 0).trans rfl, (blk_cell BK461.out 1).trans rfl, (blk_cell BK461.out 2).trans rfl⟩ (fun hHeld => ?_); refine with_tabW laws_FnLogs.tab25 laws_FnLogs.bits25 (fun HT_ HW_ => ?_)
        generalize w272.drew = w273 at HO_21 HO497 BK428 BK435 BK446 BK455 BK456 BK461 BK466 BK475 BK480 HB hHeld ⊢
        refine take_ (i := 0) (N := some 165) (v := ?_) (a' := ?_) q3_35 rfl rfl (take_ofW HT_.out HW_.out (by kernel_rfl)) (fun _ _ _ h => h) (Or.inl ⟨by rfl, ?_⟩) hHeld ?_ ?_
        rotate_left
        ·rintro w' ⟨s0, s1, s2⟩
         go_simp
         with_reducible rfl
        rotate_left
        ·simp only [aq_]
         rfl
        refine one_ (i := 1) (N := some 166) q3_36 rfl rfl (one_of HT_.out (by kernel_rfl)) (by decide) (fun K hK => ?_)
        refine goes_ Try.func17 (by kernel_rfl) rfl #[.agg #[.string t457, .string t458, .int .i64 t459]] (by rfl) rfl rfl (by (try simp only [mA_]); first | done | rfl | (simp only [List.length_drop, List.length_take]; rfl)) ?_
        with_reducible refine (impl_IsValidLog.calls kj221 t457 t458 t459 true _ A240.out).mono ?_
        rintro e w274 ⟨rfl, hb⟩
        refine ⟨_, rfl, ?_⟩
        have n0_ := Aside0.mk (Kd.R_below (bR HO_21.out) hb)
        have n1_ := Aside0.mk (Kd.R_below (bR HO497.out) hb)
        have n2_ := Aside0.mk (blk_below (bs BK428.out) hb)
        have n3_ := Aside0.mk (blk_below (bs BK435.out) hb)
        have n4_ := Aside0.mk (blk_below (bs BK446.out) hb)
        have n5_ := Aside0.mk (blk_below (bs BK455.out) hb)
        have n6_ := Aside0.mk (blk_below (bs BK456.out) hb)
        have n7_ := Aside0.mk (blk_below (bs BK461.out) hb)
        have n8_ := Aside0.mk (blk_below (bs BK466.out) hb)
        have n9_ := Aside0.mk (blk_below (bs BK475.out) hb)
        have n10_ := Aside0.mk (blk_below (bs BK480.out) hb)
        have n11_ := Aside0.mk (below_step (by repeat (first | (with_reducible first | exact bw HB.out | refine bset ?_ | apply bA | apply bN | apply bD) | exact HB.out)) hb)
        replace HO_21 := n0_
        replace HO497 := n1_
        replace BK428 := n2_
        replace BK435 := n3_
        replace BK446 := n4_
        replace BK455 := n5_
        replace BK456 := n6_
        replace BK461 := n7_
        replace BK466 := n8_
        replace BK475 := n9_
        replace BK480 := n10_
        replace HB := n11_
        clear n0_ n1_ n2_ n3_ n4_ n5_ n6_ n7_ n8_ n9_ n10_ n11_
        (try clear hb)
        (try clear hb2)
        (try clear hk)
        (try clear hi)
        obtain ⟨Ao275, co275, eo275⟩ := Kd.R_slice HO497.out
        (first | subst eo275 | (injection eo275 with f1_ f2_ f3_; have f4_ := f1_.symm; have f5_ := f3_.symm; clear f1_ f2_ f3_; subst f4_; subst f5_))
        obtain ⟨Ao276, co276, eo276⟩ := Kd.R_slice HO_21.out
        (first | subst eo276 | (injection eo276 with f1_ f2_ f3_; have f4_ := f1_.symm; have f5_ := f3_.symm; clear f1_ f2_ f3_; subst f4_; subst f5_))
        have q277 : ((t481.length : Int) : Int) ≤ ((t495.length : Int) : Int) := of_decide_eq_true (by first | (with_reducible assumption) | assumption)
        obtain ⟨i0277, hi0277, _, hsz277, _⟩ := info_parts info25
        have hroom277 : t495.length ≤ co275 := (Kd.R_reads' HO497.out).2.1
        have hC277 : Kd.C k25 _ Ao275 t495.length t495 := (Kd.R_reads' HO497.out).2.2
        have hcut277 := cut_to (P := Try.prog) 43 25 .i64 Try.underlying43 hi0277 Ao275 t495.length co275 (t481.length : Int) (of_decide_eq_true (by first | (with_reducible assumption) | assumption)) q277 hroom277
        have hr277 := Kd.C_take (m := ((t481.length : Int) : Int).toNat) hC277 (by omega)
        have hy277 : y500.length = ((t481.length : Int) : Int).toNat := (by rw [Ny500.out, List.length_take]; omega)
        rw [← Ny500.out] at hr277
        rw [← hy277] at hcut277
        have HR503 := Aside0.mk hr277
        have HC503 := Aside0.mk (show y500.length ≤ co275 from by omega)
        clear hr277 hC277 hroom277 hi0277 hsz277
        have KY277 := Aside0.mk hy277
        clear hy277
        have KL277 := Aside0.mk (show ((t481.length : Int) : Int).toNat ≤ t495.length from by omega)
        replace q277 := eq_true q277
        refine hK.out _ _ ⟨(blk_cell BK461.out 0).trans rfl, (blk_cell BK461.out 1).trans rfl, (blk_cell BK461.out 2).trans rfl⟩ (fun hHeld => ?_)
        clear hK K
        refine norm_ (a' := ?_) ?_ ?_
        rotate_left
        ·show Act.put _ (some 166) _ = _
         simp only [aq_]
         rfl
        refine pw_ HT_ 2 (some 167) ?_
        refine pw_ HT_ 3 (some 168) ?_
        refine pw_ HT_ 4 (some 169) ?_
        refine pw_ HT_ 5 (some 170) ?_
        refine pw_ HT_ 6 (some 171) ?_
        refine pw_ HT_ 7 (some 172) ?_
        refine pw_ HT_ 8 (some 173) ?_
        refine pw_ HT_ 9 (some 174) ?_
        refine pw_ HT_ 10 (some 175) ?_
        refine pw_ HT_ 11 (some 176) ?_
        refine pw_ HT_ 12 (some 177) ?_
        refine pw_ HT_ 13 (some 178) ?_
        refine pw_ HT_ 14 (some 179) ?_
        refine pw_ HT_ 15 (some 180) ?_
        refine one_ (i := 16) (N := some 181) q3_51 rfl rfl (one_of HT_.out (by kernel_rfl)) (by decide) (fun K hK => ?_)
        refine goes_ Try.func23 (by kernel_rfl) rfl #[.slice Ao275 y500.length co275, .slice Ao276 t481.length co276] (by rfl) rfl rfl (by (try simp only [mA_]); first | done | rfl | (simp only [List.length_drop, List.length_take]; rfl)) ?_
        with_reducible refine (laws_vRecords.calls kj221 _ _ y500 _ _ t481 false _ ?side1 ?side2 ?side3 ?side4 A245.out).mono ?_
        (case side1 => repeat (first | exact (by repeat (first | (with_reducible exact HR503.out) | (with_reducible refine Kd.C_alloc ?_ _) | (with_reducible refine Kd.C_drewN ?_ _) | (with_reducible refine Kd.C_drew ?_) | exact HR503.out)) | (with_reducible refine Kd.C_alloc ?_ _) | (with_reducible refine Kd.C_drewN ?_ _) | (with_reducible refine Kd.C_drew ?_)))
        (case side2 => exact HC503.out)
        (case side3 => repeat (first | exact (Kd.R_reads' HO_21.out).2.2 | (with_reducible refine Kd.C_alloc ?_ _) | (with_reducible refine Kd.C_drewN ?_ _) | (with_reducible refine Kd.C_drew ?_)))
        (case side4 => exact (Kd.R_reads' HO_21.out).2.1)
        rintro e w' ⟨rfl, ⟨nd, rfl⟩⟩
        refine ⟨_, rfl, ?_⟩
        refine hK.out _ _ ⟨(blk_cell BK461.out 0).trans rfl, (blk_cell BK461.out 1).trans rfl, (blk_cell BK461.out 2).trans rfl⟩ (fun hHeld => ?_)
        clear hK K
        refine norm_ (a' := ?_) ?_ ?_
        rotate_left
        ·show Act.put _ (some 181) _ = _
         simp only [aq_]
         rfl
        refine pw_ HT_ 17 (some 182) ?_
        refine pw_ HT_ 18 (some 183) ?_
        refine sw_ HT_ 19 (some 184) ?_
        refine sw_ HT_ 20 (some 185) ?_
        refine sw_ HT_ 21 (some 186) ?_
        refine sw_ HT_ 22 (some 187) ?_
        refine sw_ HT_ 23 (some 188) ?_
        refine sw_ HT_ 24 (some 189) ?_
        refine sw_ HT_ 25 (some 190) ?_
        refine pw_ HT_ 26 (some 191) ?_
        refine pw_ HT_ 27 (some 2) ?_
        refine done_ (done_of HT_.out (by kernel_rfl)) ?_
        try go_wp2
        go_ret
        exact ⟨by first | rfl | (simp [errW_none, errW_some] <;> rfl) | (simp [*, errW_none, errW_some] <;> rfl), by repeat (first | (with_reducible first | exact bw HB.out | refine bset ?_ | apply bA | apply bN | apply bD) | exact HB.out)⟩
       subst c246
       have H1 : (if (t481.length : Int) < (t495.length : Int) then (some ((((rd_T25 t495 (t481.length : Int)).f0).toList) == t453.toList && ((((rd_T25 t495 (t481.length : Int)).f1).toList) == t454.toList))) else (none)) = some r := by rw [if_pos rfl] at H; exact H
       clear H
       have H := H1
       clear H1
       by_cases c247 : (t481.length : Int) < (t495.length : Int)
       rotate_left
       ·rw [if_neg c247] at H
        exact absurd H (by simp)
       rw [if_pos c247] at H
       have c247b0 : decide ((t481.length : Int) < (t495.length : Int)) = true := decide_eq_true c247
       have c247b1 : decide (t481.length < t495.length) = true := decide_eq_true (Int.ofNat_lt.mp c247)
       clear c247
       obtain rfl := Option.some.inj H
       have hnb248 := NB461_428.out
       have hnc248 := NB428_461.out
       have hnb249 := NB461_435.out
       have hnc249 := NB435_461.out
       have hnb250 := NB461_446.out
       have hnc250 := NB446_461.out
       have hnb251 := NB461_455.out
       have hnc251 := NB455_461.out
       have hnb252 := NB461_456.out
       have hnc252 := NB456_461.out
       have hnb253 := NB461_466.out
       have hnc253 := NB466_461.out
       have hnb254 := NB461_475.out
       have hnc254 := NB475_461.out
       have hnb255 := NB461_480.out
       have hnc255 := NB480_461.out
       obtain ⟨hcz256_0, hcz256_1, hcz256_2, hfz256_0, hfz256_1, hfz256_2⟩ := bz3 BK461.out
       try go_wp2_with (first | ((with_reducible refine gate_callee (f := 21) rfl ?_); refine goesL_ (some 162) rfl rfl Try.func21 (by kernel_rfl) rfl #[.agg #[.string t457, .string t458, .int .i64 t459]] rfl (by (try simp only [mA_]); first | done | rfl | (simp only [List.length_drop, List.length_take]; rfl)) ?_; (with_reducible refine (impl_LogRecords.calls kj221 t457 t458 t459 t495 t498 _ A239.out).mono ?_); rintro e w257 ⟨v496, rfl, ho0, hb⟩; refine ⟨_, rfl, ?_⟩; have n0_ := Aside0.mk (Kd.R_elder' (bR HO_21.out) (Kd.R_base ho0) hb); have n1_ := Aside0.mk (Kd.R_lower (Kd.R_newB (Kd.R_newB (Kd.R_newB (Kd.R_new' ho0 (Kd.R_lt (bR HO_21.out))) (bs BK428.out)) (bs BK435.out)) (bs BK456.out)) (below_size (by repeat (first | (with_reducible first | exact bw HB.out | refine bset ?_ | apply bA | apply bN | apply bD) | exact HB.out)))); have n2_ := Aside0.mk (blk_below (bs BK428.out) hb); have n3_ := Aside0.mk (blk_below (bs BK435.out) hb); have n4_ := Aside0.mk (blk_below (bs BK446.out) hb); have n5_ := Aside0.mk (blk_below (bs BK455.out) hb); have n6_ := Aside0.mk (blk_below (bs BK456.out) hb); have n7_ := Aside0.mk (blk_below (bs BK461.out) hb); have n8_ := Aside0.mk (blk_below (bs BK466.out) hb); have n9_ := Aside0.mk (blk_below (bs BK475.out) hb); have n10_ := Aside0.mk (blk_below (bs BK480.out) hb); have n11_ := Aside0.mk (below_step (by repeat (first | (with_reducible first | exact bw HB.out | refine bset ?_ | apply bA | apply bN | apply bD) | exact HB.out)) hb); replace HO_21 := n0_; have HO497 := n1_; replace BK428 := n2_; replace BK435 := n3_; replace BK446 := n4_; replace BK455 := n5_; replace BK456 := n6_; replace BK461 := n7_; replace BK466 := n8_; replace BK475 := n9_; replace BK480 := n10_; replace HB := n11_; clear n0_ n1_ n2_ n3_ n4_ n5_ n6_ n7_ n8_ n9_ n10_ n11_; (try clear hb); (try clear hb2); (try clear hk); (try clear hi); (try clear ho0)))
       have n0_ := Aside0.mk (Kd.R_drew HO_21.out)
       have n1_ := Aside0.mk (Kd.R_drew HO497.out)
       have n2_ := Aside0.mk (blk_drew BK428.out)
       have n3_ := Aside0.mk (blk_drew BK435.out)
       have n4_ := Aside0.mk (blk_drew BK446.out)
       have n5_ := Aside0.mk (blk_drew BK455.out)
       have n6_ := Aside0.mk (blk_drew BK456.out)
       have n7_ := Aside0.mk (blk_drew BK461.out)
       have n8_ := Aside0.mk (blk_drew BK466.out)
       have n9_ := Aside0.mk (blk_drew BK475.out)
       have n10_ := Aside0.mk (blk_drew BK480.out)
       have n11_ := Aside0.mk (below_drew1 HB.out)
       replace HO_21 := n0_
       replace HO497 := n1_
       replace BK428 := n2_
       replace BK435 := n3_
       replace BK446 := n4_
       replace BK455 := n5_
       replace BK456 := n6_
       replace BK461 := n7_
       replace BK466 := n8_
       replace BK475 := n9_
       replace BK480 := n10_
       replace HB := n11_
       clear n0_ n1_ n2_ n3_ n4_ n5_ n6_ n7_ n8_ n9_ n10_ n11_
       have p505 : 0 ≤ ((t481.length : Int) : Int) := of_decide_eq_true (by first | (with_reducible assumption) | assumption)
       have q505 : (t481.length : Int) < (t495.length : Int) := of_decide_eq_true (by first | (with_reducible assumption) | assumption)
       obtain ⟨Av_, cv_, ev_⟩ := Kd.R_slice HO497.out
       subst ev_
       obtain ⟨ad505, e505, hx505_0, hx505_1⟩ := at_T25 (Kd.R_reads' HO497.out).2.2 (t481.length : Int) p505 q505
       cases e505
       (try simp only [Go.IntWalk.toNatUp] at hx505_0)
       (try simp only [Go.IntWalk.toNatUp] at hx505_1)
       replace p505 := eq_true p505
       replace q505 := eq_true q505
       refine start_ (n := 28) (S := fun w' => w'.cell? ⟨gb461, 0, none⟩ = some (.string t457) ∧ w'.cell? ⟨gb461, 1, none⟩ = some (.string t458) ∧ w'.cell? ⟨gb461, 2, none⟩ = some (.int .i64 t459) ∧ w'.cell? ⟨gb456, 0, none⟩ = some (.string t453) ∧ w'.cell? ⟨gb456, 1, none⟩ = some (.string t454) ∧ w'.cell? (ad505.add (t481.length * 2)) = some (.string ((rd_T25 t495 (t481.length : Int)).f0)) ∧ w'.cell? ⟨(ad505.add (t481.length * 2)).block, (ad505.add (t481.length * 2)).off + 1, none⟩ = some (.string ((rd_T25 t495 (t481.length : Int)).f1))) (ds := []) q3_34 (by kernel_rfl) rfl rfl ⟨(blk_cell BK461.out 0).trans rfl, (blk_cell BK461.out 1).trans rfl, (blk_cell BK461.out 2).trans rfl, (blk_cell BK456.out 0).trans rfl, (blk_cell BK456.out 1).trans rfl, hx505_0, hx505_1⟩ (fun hHeld => ?_); refine with_tabW laws_FnLogs.tab25 laws_FnLogs.bits25 (fun HT_ HW_ => ?_)
       generalize w257.drew = w258 at HO_21 HO497 BK428 BK435 BK446 BK455 BK456 BK461 BK466 BK475 BK480 HB hx505_0 hx505_1 hHeld ⊢
       refine take_ (i := 0) (N := some 165) (v := ?_) (a' := ?_) q3_35 rfl rfl (take_ofW HT_.out HW_.out (by kernel_rfl)) (fun _ _ _ h => h) (Or.inl ⟨by rfl, ?_⟩) hHeld ?_ ?_
       rotate_left
       ·rintro w' ⟨s0, s1, s2, s3, s4, s5, s6⟩
        go_simp
        with_reducible rfl
       rotate_left
       ·simp only [aq_]
        rfl
       refine one_ (i := 1) (N := some 166) q3_36 rfl rfl (one_of HT_.out (by kernel_rfl)) (by decide) (fun K hK => ?_)
       refine goes_ Try.func17 (by kernel_rfl) rfl #[.agg #[.string t457, .string t458, .int .i64 t459]] (by rfl) rfl rfl (by (try simp only [mA_]); first | done | rfl | (simp only [List.length_drop, List.length_take]; rfl)) ?_
       with_reducible refine (impl_IsValidLog.calls kj221 t457 t458 t459 true _ A240.out).mono ?_
       rintro e w259 ⟨rfl, hb⟩
       have HS5_ := (hb.cell (World.block_lt_of_cell? _ _ (hHeld.2.2.2.2.2.1))).trans (hHeld.2.2.2.2.2.1)
       have HS6_ := (hb.cell (World.block_lt_of_cell? _ _ (hHeld.2.2.2.2.2.2))).trans (hHeld.2.2.2.2.2.2)
       refine ⟨_, rfl, ?_⟩
       have n0_ := Aside0.mk (Kd.R_below (bR HO_21.out) hb)
       have n1_ := Aside0.mk (Kd.R_below (bR HO497.out) hb)
       have n2_ := Aside0.mk (blk_below (bs BK428.out) hb)
       have n3_ := Aside0.mk (blk_below (bs BK435.out) hb)
       have n4_ := Aside0.mk (blk_below (bs BK446.out) hb)
       have n5_ := Aside0.mk (blk_below (bs BK455.out) hb)
       have n6_ := Aside0.mk (blk_below (bs BK456.out) hb)
       have n7_ := Aside0.mk (blk_below (bs BK461.out) hb)
       have n8_ := Aside0.mk (blk_below (bs BK466.out) hb)
       have n9_ := Aside0.mk (blk_below (bs BK475.out) hb)
       have n10_ := Aside0.mk (blk_below (bs BK480.out) hb)
       have n11_ := Aside0.mk (below_step (by repeat (first | (with_reducible first | exact bw HB.out | refine bset ?_ | apply bA | apply bN | apply bD) | exact HB.out)) hb)
       replace HO_21 := n0_
       replace HO497 := n1_
       replace BK428 := n2_
       replace BK435 := n3_
       replace BK446 := n4_
       replace BK455 := n5_
       replace BK456 := n6_
       replace BK461 := n7_
       replace BK466 := n8_
       replace BK475 := n9_
       replace BK480 := n10_
       replace HB := n11_
       clear n0_ n1_ n2_ n3_ n4_ n5_ n6_ n7_ n8_ n9_ n10_ n11_
       (try clear hb)
       (try clear hb2)
       (try clear hk)
       (try clear hi)
       obtain ⟨Ao260, co260, eo260⟩ := Kd.R_slice HO497.out
       (first | subst eo260 | (injection eo260 with f1_ f2_ f3_; have f4_ := f1_.symm; have f5_ := f3_.symm; clear f1_ f2_ f3_; subst f4_; subst f5_))
       obtain ⟨Ao261, co261, eo261⟩ := Kd.R_slice HO_21.out
       (first | subst eo261 | (injection eo261 with f1_ f2_ f3_; have f4_ := f1_.symm; have f5_ := f3_.symm; clear f1_ f2_ f3_; subst f4_; subst f5_))
       have q262 : ((t481.length : Int) : Int) ≤ ((t495.length : Int) : Int) := of_decide_eq_true (by first | (with_reducible assumption) | assumption)
       obtain ⟨i0262, hi0262, _, hsz262, _⟩ := info_parts info25
       have hroom262 : t495.length ≤ co260 := (Kd.R_reads' HO497.out).2.1
       have hC262 : Kd.C k25 _ (some ad505) t495.length t495 := (Kd.R_reads' HO497.out).2.2
       have hcut262 := cut_to (P := Try.prog) 43 25 .i64 Try.underlying43 hi0262 (some ad505) t495.length co260 (t481.length : Int) (of_decide_eq_true (by first | (with_reducible assumption) | assumption)) q262 hroom262
       have hr262 := Kd.C_take (m := ((t481.length : Int) : Int).toNat) hC262 (by omega)
       have hy262 : y500.length = ((t481.length : Int) : Int).toNat := (by rw [Ny500.out, List.length_take]; omega)
       rw [← Ny500.out] at hr262
       rw [← hy262] at hcut262
       have HR503 := Aside0.mk hr262
       have HC503 := Aside0.mk (show y500.length ≤ co260 from by omega)
       clear hr262 hC262 hroom262 hi0262 hsz262
       have KY262 := Aside0.mk hy262
       clear hy262
       have KL262 := Aside0.mk (show ((t481.length : Int) : Int).toNat ≤ t495.length from by omega)
       replace q262 := eq_true q262
       refine hK.out _ _ ⟨(blk_cell BK461.out 0).trans rfl, (blk_cell BK461.out 1).trans rfl, (blk_cell BK461.out 2).trans rfl, (blk_cell BK456.out 0).trans rfl, (blk_cell BK456.out 1).trans rfl, HS5_, HS6_⟩ (fun hHeld => ?_)
       clear hK K
       refine norm_ (a' := ?_) ?_ ?_
       rotate_left
       ·show Act.put _ (some 166) _ = _
        simp only [aq_]
        rfl
       refine pw_ HT_ 2 (some 167) ?_
       refine pw_ HT_ 3 (some 168) ?_
       refine pw_ HT_ 4 (some 169) ?_
       refine pw_ HT_ 5 (some 170) ?_
       refine pw_ HT_ 6 (some 171) ?_
       refine pw_ HT_ 7 (some 172) ?_
       refine pw_ HT_ 8 (some 173) ?_
       refine pw_ HT_ 9 (some 174) ?_
       refine pw_ HT_ 10 (some 175) ?_
       refine pw_ HT_ 11 (some 176) ?_
       refine pw_ HT_ 12 (some 177) ?_
       refine pw_ HT_ 13 (some 178) ?_
       refine pw_ HT_ 14 (some 179) ?_
       refine pw_ HT_ 15 (some 180) ?_
       refine one_ (i := 16) (N := some 181) q3_51 rfl rfl (one_of HT_.out (by kernel_rfl)) (by decide) (fun K hK => ?_)
       refine goes_ Try.func23 (by kernel_rfl) rfl #[.slice (some ad505) y500.length co260, .slice Ao261 t481.length co261] (by rfl) rfl rfl (by (try simp only [mA_]); first | done | rfl | (simp only [List.length_drop, List.length_take]; rfl)) ?_
       with_reducible refine (laws_vRecords.calls kj221 _ _ y500 _ _ t481 true _ ?side1 ?side2 ?side3 ?side4 A245.out).mono ?_
       (case side1 => repeat (first | exact (by repeat (first | (with_reducible exact HR503.out) | (with_reducible refine Kd.C_alloc ?_ _) | (with_reducible refine Kd.C_drewN ?_ _) | (with_reducible refine Kd.C_drew ?_) | exact HR503.out)) | (with_reducible refine Kd.C_alloc ?_ _) | (with_reducible refine Kd.C_drewN ?_ _) | (with_reducible refine Kd.C_drew ?_)))
       (case side2 => exact HC503.out)
       (case side3 => repeat (first | exact (Kd.R_reads' HO_21.out).2.2 | (with_reducible refine Kd.C_alloc ?_ _) | (with_reducible refine Kd.C_drewN ?_ _) | (with_reducible refine Kd.C_drew ?_)))
       (case side4 => exact (Kd.R_reads' HO_21.out).2.1)
       rintro e w' ⟨rfl, ⟨nd, rfl⟩⟩
       refine ⟨_, rfl, ?_⟩
       refine hK.out _ _ ⟨(blk_cell BK461.out 0).trans rfl, (blk_cell BK461.out 1).trans rfl, (blk_cell BK461.out 2).trans rfl, (blk_cell BK456.out 0).trans rfl, (blk_cell BK456.out 1).trans rfl, hHeld.2.2.2.2.2.1, hHeld.2.2.2.2.2.2⟩ (fun hHeld => ?_)
       clear hK K
       refine norm_ (a' := ?_) ?_ ?_
       rotate_left
       ·show Act.put _ (some 181) _ = _
        simp only [aq_]
        rfl
       refine pw_ HT_ 17 (some 182) ?_
       refine pw_ HT_ 18 (some 183) ?_
       refine pw_ HT_ 19 (some 184) ?_
       refine pw_ HT_ 20 (some 185) ?_
       refine pw_ HT_ 21 (some 186) ?_
       refine pw_ HT_ 22 (some 187) ?_
       refine take_ (i := 23) (N := some 188) (v := ?_) (a' := ?_) q3_58 rfl rfl (take_ofW HT_.out HW_.out (by kernel_rfl)) (fun _ _ _ h => h) (Or.inl ⟨by rfl, ?_⟩) hHeld ?_ ?_
       rotate_left
       ·rintro w' ⟨s0, s1, s2, s3, s4, s5, s6⟩
        go_simp
        with_reducible rfl
       rotate_left
       ·simp only [aq_]
        rfl
       refine take_ (i := 24) (N := some 189) (v := ?_) (a' := ?_) q3_59 rfl rfl (take_ofW HT_.out HW_.out (by kernel_rfl)) (fun _ _ _ h => h) (Or.inl ⟨by rfl, ?_⟩) hHeld ?_ ?_
       rotate_left
       ·rintro w' ⟨s0, s1, s2, s3, s4, s5, s6⟩
        go_simp
        with_reducible rfl
       rotate_left
       ·simp only [aq_]
        rfl
       refine pw_ HT_ 25 (some 190) ?_
       refine pw_ HT_ 26 (some 191) ?_
       refine pw_ HT_ 27 (some 2) ?_
       refine done_ (done_of HT_.out (by kernel_rfl)) ?_
       try go_wp2
       go_ret
       exact ⟨by first | rfl | (simp [errW_none, errW_some] <;> rfl) | (simp [*, errW_none, errW_some] <;> rfl), by repeat (first | (with_reducible first | exact bw HB.out | refine bset ?_ | apply bA | apply bN | apply bD) | exact HB.out)⟩

end Go.Proofs.Yteakcfnhigaffaa.X
