-- Written by a program of this session (wip/gen/xp.py, over the kit's printer). Not trusted: Lean checks it.
import Derived.Test.YtcohgnafealcoaaX0
import Derived.Test.YtcohgnafealcoaaXf10
import Derived.Test.YtcohgnafealcoaaXf15
import Derived.Test.YtcohgnafealcoaaXf5
namespace Go.Proofs.Ytcohgnafealcoaa.X
open Go.RowKit Go.Proofs.YtcohgnafealcoaaW.PrintWords Go.Proofs.YtcohgnafealcoaaW.PrintLast Go.Proofs.YtcohgnafealcoaaW.PrintMore
attribute [local go_sem] max2_int min2_int max_two min_two max_three min_three max_four min_four   -- for this text's walks alone
set_option linter.unusedVariables false
set_option linter.unusedSimpArgs false

/-! ### laws_FnExactUnitCircuit: function 4 -/
mutual
def laws_FnExactUnitCircuit.j0 : Nat → List (S45) → List Int → Int → List Int → Bool → List (S43) → List Int → List Int → Bool → Bool → Option (Bool)
 | 0, _, _, _, _, _, _, _, _, _, _ => none
 | k + 1, x0, x1, x2, x8, x9, x10, x11, x12, x13, x55 => if x55 = true then (some false) else ((laws_toJobS.f k x0).bind fun t373 => ((laws_eqJobS.f k x10 t373).bind fun t376 => (if t376 = true then ((laws_toIntS.f k x1).bind fun t377 => ((laws_eqIntS.f k x11 t377).bind fun t380 => (if t380 = true then ((laws_markJobS.f k x10 1).bind fun bt381 => ((laws_markIntS.f k x11 bt381.1).bind fun bt383 => (if bt383.1 < 0 then (laws_FnExactUnitCircuit.j1 k x0 x1 x2 x8 x9 x12 true) else ((laws_eqIntS.f k x12 x8).bind fun t385 => (if t385 = true then (laws_FnExactUnitCircuit.j1 k x0 x1 x2 x8 x9 x12 (x13 != x9)) else (laws_FnExactUnitCircuit.j1 k x0 x1 x2 x8 x9 x12 true)))))) else (some false)))) else (some false))))
def laws_FnExactUnitCircuit.j1 : Nat → List (S45) → List Int → Int → List Int → Bool → List Int → Bool → Option (Bool)
 | 0, _, _, _, _, _, _, _ => none
 | k + 1, x0, x1, x2, x8, x9, x12, x84 => if x84 = true then (some false) else ((laws_markIntS.f k x12 1).bind fun bt386 => ((laws_heldIntS.f k bt386.2 1).bind fun t388 => (if t388 < 0 then (some false) else (if t388 = bt386.1 then ((laws_toJobS.f k x0).bind fun t389 => ((laws_toIntS.f k x1).bind fun t392 => ((impl_UnitCircuit.f k t389 t392 x2).bind fun bt395 => ((laws_eqIntS.f k bt395.1 x8).bind fun t399 => (if t399 = true then (laws_FnExactUnitCircuit.j2 k bt386.2 bt386.1 (bt395.2 != x9)) else (laws_FnExactUnitCircuit.j2 k bt386.2 bt386.1 true)))))) else (some false)))))
def laws_FnExactUnitCircuit.j2 : Nat → List Int → Int → Bool → Option (Bool)
 | 0, _, _, _ => none
 | k + 1, x12, x15, x113 => if x113 = true then (some false) else ((laws_heldIntS.f k x12 1).bind fun t400 => (if t400 < 0 then (some false) else (if t400 = x15 then (some true) else (some false))))
end
def laws_FnExactUnitCircuit.f (k : Nat) (l0 : List (S45)) (l1 : List Int) (a2 : Int) : Option (Bool) := if (l1.length : Int) > 1048576 then (some true) else ((laws_szJobS.f l0 1048576).bind fun t351 => (if t351 < 0 then (some true) else ((laws_toJobS.f k l0).bind fun t352 => ((laws_toIntS.f k l1).bind fun t355 => ((spec_UnitCircuit.f k t352 t355 a2).bind fun bt358 => ((laws_toJobS.f k l0).bind fun t362 => ((laws_toIntS.f k l1).bind fun t365 => ((impl_UnitCircuit.f k t362 t365 a2).bind fun bt368 => ((laws_eqIntS.f k bt368.1 bt358.1).bind fun t372 => (if t372 = true then (laws_FnExactUnitCircuit.j0 k l0 l1 a2 bt358.1 bt358.2 t362 t365 bt368.1 bt368.2 (bt368.2 != bt358.2)) else (laws_FnExactUnitCircuit.j0 k l0 l1 a2 bt358.1 bt358.2 t362 t365 bt368.1 bt368.2 true)))))))))))
theorem laws_FnExactUnitCircuit.mono_l : ∀ k, (∀ y0 y1 y2 y3 y4 y5 y6 y7 y8 y9, LeO (laws_FnExactUnitCircuit.j0 k y0 y1 y2 y3 y4 y5 y6 y7 y8 y9) (laws_FnExactUnitCircuit.j0 (k + 1) y0 y1 y2 y3 y4 y5 y6 y7 y8 y9)) ∧ (∀ y0 y1 y2 y3 y4 y5 y6, LeO (laws_FnExactUnitCircuit.j1 k y0 y1 y2 y3 y4 y5 y6) (laws_FnExactUnitCircuit.j1 (k + 1) y0 y1 y2 y3 y4 y5 y6)) ∧ (∀ y0 y1 y2, LeO (laws_FnExactUnitCircuit.j2 k y0 y1 y2) (laws_FnExactUnitCircuit.j2 (k + 1) y0 y1 y2))
 | 0 => ⟨fun _ _ _ _ _ _ _ _ _ _ r h => by simp [laws_FnExactUnitCircuit.j0] at h, fun _ _ _ _ _ _ _ r h => by simp [laws_FnExactUnitCircuit.j1] at h, fun _ _ _ r h => by simp [laws_FnExactUnitCircuit.j2] at h⟩
 | k + 1 => by
  obtain ⟨ih0, ih1, ih2⟩ := laws_FnExactUnitCircuit.mono_l k
  refine ⟨?_, ?_, ?_⟩
  ·intro y0 y1 y2 y3 y4 y5 y6 y7 y8 y9
   unfold laws_FnExactUnitCircuit.j0
   repeat' first
   | (with_reducible exact ih0 _ _ _ _ _ _ _ _ _ _)
   | (with_reducible exact ih1 _ _ _ _ _ _ _)
   | (with_reducible exact ih2 _ _ _)
   | (with_reducible exact impl_UnitCircuit.mono _ _ _ _)
   | (with_reducible exact laws_eqIntS.mono _ _ _)
   | (with_reducible exact laws_eqJobS.mono _ _ _)
   | (with_reducible exact laws_heldIntS.mono _ _ _)
   | (with_reducible exact laws_markIntS.mono _ _ _)
   | (with_reducible exact laws_markJobS.mono _ _ _)
   | (with_reducible exact laws_toIntS.mono _ _)
   | (with_reducible exact laws_toJobS.mono _ _)
   | (with_reducible exact spec_UnitCircuit.mono _ _ _ _)
   | (with_reducible exact LeO.refl _)
   | (with_reducible exact LeO.none _)
   | (with_reducible refine LeO.ite ?_ ?_)
   | (with_reducible refine LeO.bind ?_ (fun _ => ?_))
   | exact ih0 _ _ _ _ _ _ _ _ _ _
   | exact ih1 _ _ _ _ _ _ _
   | exact ih2 _ _ _
   | exact impl_UnitCircuit.mono _ _ _ _
   | exact laws_eqIntS.mono _ _ _
   | exact laws_eqJobS.mono _ _ _
   | exact laws_heldIntS.mono _ _ _
   | exact laws_markIntS.mono _ _ _
   | exact laws_markJobS.mono _ _ _
   | exact laws_toIntS.mono _ _
   | exact laws_toJobS.mono _ _
   | exact spec_UnitCircuit.mono _ _ _ _
   | exact LeO.none _
   | refine LeO.ite ?_ ?_
   | refine LeO.bind ?_ (fun _ => ?_)
  ·intro y0 y1 y2 y3 y4 y5 y6
   unfold laws_FnExactUnitCircuit.j1
   repeat' first
   | (with_reducible exact ih0 _ _ _ _ _ _ _ _ _ _)
   | (with_reducible exact ih1 _ _ _ _ _ _ _)
   | (with_reducible exact ih2 _ _ _)
   | (with_reducible exact impl_UnitCircuit.mono _ _ _ _)
   | (with_reducible exact laws_eqIntS.mono _ _ _)
   | (with_reducible exact laws_eqJobS.mono _ _ _)
   | (with_reducible exact laws_heldIntS.mono _ _ _)
   | (with_reducible exact laws_markIntS.mono _ _ _)
   | (with_reducible exact laws_markJobS.mono _ _ _)
   | (with_reducible exact laws_toIntS.mono _ _)
   | (with_reducible exact laws_toJobS.mono _ _)
   | (with_reducible exact spec_UnitCircuit.mono _ _ _ _)
   | (with_reducible exact LeO.refl _)
   | (with_reducible exact LeO.none _)
   | (with_reducible refine LeO.ite ?_ ?_)
   | (with_reducible refine LeO.bind ?_ (fun _ => ?_))
   | exact ih0 _ _ _ _ _ _ _ _ _ _
   | exact ih1 _ _ _ _ _ _ _
   | exact ih2 _ _ _
   | exact impl_UnitCircuit.mono _ _ _ _
   | exact laws_eqIntS.mono _ _ _
   | exact laws_eqJobS.mono _ _ _
   | exact laws_heldIntS.mono _ _ _
   | exact laws_markIntS.mono _ _ _
   | exact laws_markJobS.mono _ _ _
   | exact laws_toIntS.mono _ _
   | exact laws_toJobS.mono _ _
   | exact spec_UnitCircuit.mono _ _ _ _
   | exact LeO.none _
   | refine LeO.ite ?_ ?_
   | refine LeO.bind ?_ (fun _ => ?_)
  ·intro y0 y1 y2
   unfold laws_FnExactUnitCircuit.j2
   repeat' first
   | (with_reducible exact ih0 _ _ _ _ _ _ _ _ _ _)
   | (with_reducible exact ih1 _ _ _ _ _ _ _)
   | (with_reducible exact ih2 _ _ _)
   | (with_reducible exact impl_UnitCircuit.mono _ _ _ _)
   | (with_reducible exact laws_eqIntS.mono _ _ _)
   | (with_reducible exact laws_eqJobS.mono _ _ _)
   | (with_reducible exact laws_heldIntS.mono _ _ _)
   | (with_reducible exact laws_markIntS.mono _ _ _)
   | (with_reducible exact laws_markJobS.mono _ _ _)
   | (with_reducible exact laws_toIntS.mono _ _)
   | (with_reducible exact laws_toJobS.mono _ _)
   | (with_reducible exact spec_UnitCircuit.mono _ _ _ _)
   | (with_reducible exact LeO.refl _)
   | (with_reducible exact LeO.none _)
   | (with_reducible refine LeO.ite ?_ ?_)
   | (with_reducible refine LeO.bind ?_ (fun _ => ?_))
   | exact ih0 _ _ _ _ _ _ _ _ _ _
   | exact ih1 _ _ _ _ _ _ _
   | exact ih2 _ _ _
   | exact impl_UnitCircuit.mono _ _ _ _
   | exact laws_eqIntS.mono _ _ _
   | exact laws_eqJobS.mono _ _ _
   | exact laws_heldIntS.mono _ _ _
   | exact laws_markIntS.mono _ _ _
   | exact laws_markJobS.mono _ _ _
   | exact laws_toIntS.mono _ _
   | exact laws_toJobS.mono _ _
   | exact spec_UnitCircuit.mono _ _ _ _
   | exact LeO.none _
   | refine LeO.ite ?_ ?_
   | refine LeO.bind ?_ (fun _ => ?_)
theorem laws_FnExactUnitCircuit.mono : ∀ a0 a1 a2 k, LeO (laws_FnExactUnitCircuit.f k a0 a1 a2) (laws_FnExactUnitCircuit.f (k + 1) a0 a1 a2) := by
 intro a0 a1 a2 k
 obtain ⟨ih0, ih1, ih2⟩ := laws_FnExactUnitCircuit.mono_l k
 unfold laws_FnExactUnitCircuit.f
 repeat' first
   | (with_reducible exact ih0 _ _ _ _ _ _ _ _ _ _)
   | (with_reducible exact ih1 _ _ _ _ _ _ _)
   | (with_reducible exact ih2 _ _ _)
   | (with_reducible exact impl_UnitCircuit.mono _ _ _ _)
   | (with_reducible exact laws_eqIntS.mono _ _ _)
   | (with_reducible exact laws_eqJobS.mono _ _ _)
   | (with_reducible exact laws_heldIntS.mono _ _ _)
   | (with_reducible exact laws_markIntS.mono _ _ _)
   | (with_reducible exact laws_markJobS.mono _ _ _)
   | (with_reducible exact laws_toIntS.mono _ _)
   | (with_reducible exact laws_toJobS.mono _ _)
   | (with_reducible exact spec_UnitCircuit.mono _ _ _ _)
   | (with_reducible exact LeO.refl _)
   | (with_reducible exact LeO.none _)
   | (with_reducible refine LeO.ite ?_ ?_)
   | (with_reducible refine LeO.bind ?_ (fun _ => ?_))
   | exact ih0 _ _ _ _ _ _ _ _ _ _
   | exact ih1 _ _ _ _ _ _ _
   | exact ih2 _ _ _
   | exact impl_UnitCircuit.mono _ _ _ _
   | exact laws_eqIntS.mono _ _ _
   | exact laws_eqJobS.mono _ _ _
   | exact laws_heldIntS.mono _ _ _
   | exact laws_markIntS.mono _ _ _
   | exact laws_markJobS.mono _ _ _
   | exact laws_toIntS.mono _ _
   | exact laws_toJobS.mono _ _
   | exact spec_UnitCircuit.mono _ _ _ _
   | exact LeO.none _
   | refine LeO.ite ?_ ?_
   | refine LeO.bind ?_ (fun _ => ?_)
set_option maxHeartbeats 8000000 in
set_option maxRecDepth 100000 in
theorem laws_FnExactUnitCircuit.calls (k : Nat) (A0 : Option Addr) (c0 : Nat) (l0 : List (S45)) (A1 : Option Addr) (c1 : Nat) (l1 : List Int) (a2 : Int) (r : Bool) (w : World) (hr0 : Kd.C k45 w A0 l0.length l0) (hc0 : l0.length ≤ c0) (hr1 : Kd.C (Kd.int .i64) w A1 l1.length l1) (hc1 : l1.length ≤ c1) (h : laws_FnExactUnitCircuit.f k l0 l1 a2 = some r) :
  Calls Try.prog 4 #[.slice A0 l0.length c0, .slice A1 l1.length c1, .int .i64 a2] w fun e w' => e = .returned (.bool r) ∧ Below w.heap.size w w' := by
 have HR0 := Aside0.mk hr0
 have HC0 := Aside0.mk hc0
 clear hr0 hc0
 have HR1 := Aside0.mk hr1
 have HC1 := Aside0.mk hc1
 clear hr1 hc1
 have HB := Aside0.mk (Below.refl w.heap.size w)
 have H : (if (l1.length : Int) > 1048576 then (some true) else ((laws_szJobS.f l0 1048576).bind fun t351 => (if t351 < 0 then (some true) else ((laws_toJobS.f k l0).bind fun t352 => ((laws_toIntS.f k l1).bind fun t355 => ((spec_UnitCircuit.f k t352 t355 a2).bind fun bt358 => ((laws_toJobS.f k l0).bind fun t362 => ((laws_toIntS.f k l1).bind fun t365 => ((impl_UnitCircuit.f k t362 t365 a2).bind fun bt368 => ((laws_eqIntS.f k bt368.1 bt358.1).bind fun t372 => (if t372 = true then (laws_FnExactUnitCircuit.j0 k l0 l1 a2 bt358.1 bt358.2 t362 t365 bt368.1 bt368.2 (bt368.2 != bt358.2)) else (laws_FnExactUnitCircuit.j0 k l0 l1 a2 bt358.1 bt358.2 t362 t365 bt368.1 bt368.2 true)))))))))))) = some r := h
 clear h
 by_cases c4 : (l1.length : Int) > 1048576
 ·rw [if_pos c4] at H
  have c4b0 : decide (1048576 < (l1.length : Int)) = true := decide_eq_true c4
  have c4b1 : decide (1048576 < l1.length) = true := decide_eq_true (by omega)
  clear c4
  obtain rfl := Option.some.inj H
  go_enter Try.func4, Try.ntmps4
  go_wp2
  go_ret
  exact ⟨by first | rfl | (simp [errW_none, errW_some] <;> rfl) | (simp [*, errW_none, errW_some] <;> rfl), bw HB.out⟩
 rw [if_neg c4] at H
 have c4b0 : decide (1048576 < (l1.length : Int)) = false := decide_eq_false c4
 have c4b1 : decide (1048576 < l1.length) = false := decide_eq_false (by omega)
 clear c4
 replace H := Option.bind_eq_some_iff.mp H
 obtain ⟨t351, A50, H⟩ := H
 replace H : (if t351 < 0 then (some true) else ((laws_toJobS.f k l0).bind fun t352 => ((laws_toIntS.f k l1).bind fun t355 => ((spec_UnitCircuit.f k t352 t355 a2).bind fun bt358 => ((laws_toJobS.f k l0).bind fun t362 => ((laws_toIntS.f k l1).bind fun t365 => ((impl_UnitCircuit.f k t362 t365 a2).bind fun bt368 => ((laws_eqIntS.f k bt368.1 bt358.1).bind fun t372 => (if t372 = true then (laws_FnExactUnitCircuit.j0 k l0 l1 a2 bt358.1 bt358.2 t362 t365 bt368.1 bt368.2 (bt368.2 != bt358.2)) else (laws_FnExactUnitCircuit.j0 k l0 l1 a2 bt358.1 bt358.2 t362 t365 bt368.1 bt368.2 true)))))))))) = some r := H
 have A5 := Aside0.mk A50
 clear A50
 by_cases c6 : t351 < 0
 ·rw [if_pos c6] at H
  have c6b0 : decide (t351 < 0) = true := decide_eq_true c6
  clear c6
  obtain rfl := Option.some.inj H
  go_enter Try.func4, Try.ntmps4
  go_wp2_with (first | ((with_reducible refine gate_callee (f := 5) rfl ?_); refine goesL_ (some 24) rfl rfl Try.func5 (by kernel_rfl) rfl #[.slice A0 l0.length c0, .int .i64 1048576] rfl (by (try simp only [mA_]); first | done | rfl | (simp only [List.length_drop, List.length_take]; rfl)) ?_; (with_reducible refine (laws_szJobS.calls _ _ l0 1048576 t351 _ ?side1 ?side2 A5.out).mono ?_); (case side1 => repeat (first | exact HR0.out | (with_reducible refine Kd.C_alloc ?_ _) | (with_reducible refine Kd.C_drewN ?_ _) | (with_reducible refine Kd.C_drew ?_))); (case side2 => exact HC0.out); rintro e w' ⟨rfl, ⟨nd, rfl⟩⟩; refine ⟨_, rfl, ?_⟩))
  go_ret
  exact ⟨by first | rfl | (simp [errW_none, errW_some] <;> rfl) | (simp [*, errW_none, errW_some] <;> rfl), bw HB.out⟩
 rw [if_neg c6] at H
 have c6b0 : decide (t351 < 0) = false := decide_eq_false c6
 clear c6
 replace H := Option.bind_eq_some_iff.mp H
 obtain ⟨t352, A70, H⟩ := H
 replace H : ((laws_toIntS.f k l1).bind fun t355 => ((spec_UnitCircuit.f k t352 t355 a2).bind fun bt358 => ((laws_toJobS.f k l0).bind fun t362 => ((laws_toIntS.f k l1).bind fun t365 => ((impl_UnitCircuit.f k t362 t365 a2).bind fun bt368 => ((laws_eqIntS.f k bt368.1 bt358.1).bind fun t372 => (if t372 = true then (laws_FnExactUnitCircuit.j0 k l0 l1 a2 bt358.1 bt358.2 t362 t365 bt368.1 bt368.2 (bt368.2 != bt358.2)) else (laws_FnExactUnitCircuit.j0 k l0 l1 a2 bt358.1 bt358.2 t362 t365 bt368.1 bt368.2 true)))))))) = some r := H
 have A7 := Aside0.mk A70
 clear A70
 replace H := Option.bind_eq_some_iff.mp H
 obtain ⟨t355, A80, H⟩ := H
 replace H : ((spec_UnitCircuit.f k t352 t355 a2).bind fun bt358 => ((laws_toJobS.f k l0).bind fun t362 => ((laws_toIntS.f k l1).bind fun t365 => ((impl_UnitCircuit.f k t362 t365 a2).bind fun bt368 => ((laws_eqIntS.f k bt368.1 bt358.1).bind fun t372 => (if t372 = true then (laws_FnExactUnitCircuit.j0 k l0 l1 a2 bt358.1 bt358.2 t362 t365 bt368.1 bt368.2 (bt368.2 != bt358.2)) else (laws_FnExactUnitCircuit.j0 k l0 l1 a2 bt358.1 bt358.2 t362 t365 bt368.1 bt368.2 true))))))) = some r := H
 have A8 := Aside0.mk A80
 clear A80
 replace H := Option.bind_eq_some_iff.mp H
 obtain ⟨⟨t358, t359⟩, A90, H⟩ := H
 replace H : ((laws_toJobS.f k l0).bind fun t362 => ((laws_toIntS.f k l1).bind fun t365 => ((impl_UnitCircuit.f k t362 t365 a2).bind fun bt368 => ((laws_eqIntS.f k bt368.1 t358).bind fun t372 => (if t372 = true then (laws_FnExactUnitCircuit.j0 k l0 l1 a2 t358 t359 t362 t365 bt368.1 bt368.2 (bt368.2 != t359)) else (laws_FnExactUnitCircuit.j0 k l0 l1 a2 t358 t359 t362 t365 bt368.1 bt368.2 true)))))) = some r := H
 have A9 := Aside0.mk A90
 clear A90
 replace H := Option.bind_eq_some_iff.mp H
 obtain ⟨t362, A100, H⟩ := H
 replace H : ((laws_toIntS.f k l1).bind fun t365 => ((impl_UnitCircuit.f k t362 t365 a2).bind fun bt368 => ((laws_eqIntS.f k bt368.1 t358).bind fun t372 => (if t372 = true then (laws_FnExactUnitCircuit.j0 k l0 l1 a2 t358 t359 t362 t365 bt368.1 bt368.2 (bt368.2 != t359)) else (laws_FnExactUnitCircuit.j0 k l0 l1 a2 t358 t359 t362 t365 bt368.1 bt368.2 true))))) = some r := H
 have A10 := Aside0.mk A100
 clear A100
 replace H := Option.bind_eq_some_iff.mp H
 obtain ⟨t365, A110, H⟩ := H
 replace H : ((impl_UnitCircuit.f k t362 t365 a2).bind fun bt368 => ((laws_eqIntS.f k bt368.1 t358).bind fun t372 => (if t372 = true then (laws_FnExactUnitCircuit.j0 k l0 l1 a2 t358 t359 t362 t365 bt368.1 bt368.2 (bt368.2 != t359)) else (laws_FnExactUnitCircuit.j0 k l0 l1 a2 t358 t359 t362 t365 bt368.1 bt368.2 true)))) = some r := H
 have A11 := Aside0.mk A110
 clear A110
 replace H := Option.bind_eq_some_iff.mp H
 obtain ⟨⟨t368, t369⟩, A120, H⟩ := H
 replace H : ((laws_eqIntS.f k t368 t358).bind fun t372 => (if t372 = true then (laws_FnExactUnitCircuit.j0 k l0 l1 a2 t358 t359 t362 t365 t368 t369 (t369 != t359)) else (laws_FnExactUnitCircuit.j0 k l0 l1 a2 t358 t359 t362 t365 t368 t369 true))) = some r := H
 have A12 := Aside0.mk A120
 clear A120
 have HC13 := Aside0.mk H
 clear H
 go_enter Try.func4, Try.ntmps4
 go_upto_region 11 with (first | ((with_reducible refine gate_callee (f := 5) rfl ?_); refine goesL_ (some 24) rfl rfl Try.func5 (by kernel_rfl) rfl #[.slice A0 l0.length c0, .int .i64 1048576] rfl (by (try simp only [mA_]); first | done | rfl | (simp only [List.length_drop, List.length_take]; rfl)) ?_; (with_reducible refine (laws_szJobS.calls _ _ l0 1048576 t351 _ ?side1 ?side2 A5.out).mono ?_); (case side1 => repeat (first | exact HR0.out | (with_reducible refine Kd.C_alloc ?_ _) | (with_reducible refine Kd.C_drewN ?_ _) | (with_reducible refine Kd.C_drew ?_))); (case side2 => exact HC0.out); rintro e w' ⟨rfl, ⟨nd, rfl⟩⟩; refine ⟨_, rfl, ?_⟩) | ((with_reducible refine gate_callee (f := 7) rfl ?_); refine goesL_ (some 29) rfl rfl Try.func7 (by kernel_rfl) rfl #[.slice A0 l0.length c0] rfl (by (try simp only [mA_]); first | done | rfl | (simp only [List.length_drop, List.length_take]; rfl)) ?_; (with_reducible refine (laws_toJobS.calls k _ _ l0 t352 _ ?side1 ?side2 A7.out).mono ?_); (case side1 => repeat (first | exact HR0.out | (with_reducible refine Kd.C_alloc ?_ _) | (with_reducible refine Kd.C_drewN ?_ _) | (with_reducible refine Kd.C_drew ?_))); (case side2 => exact HC0.out); rintro e w14 ⟨v353, rfl, ho0, hb⟩; refine ⟨_, rfl, ?_⟩; have n0_ := Aside0.mk (Kd.R_lower ho0 (below_size (bw HB.out))); have n1_ := Aside0.mk (below_step (bw HB.out) hb); have HO354 := n0_; replace HB := n1_; clear n0_ n1_; (try clear hb); (try clear hb2); (try clear hk); (try clear hi); (try clear ho0)) | ((with_reducible refine gate_callee (f := 8) rfl ?_); refine goesL_ (some 31) rfl rfl Try.func8 (by kernel_rfl) rfl #[.slice A1 l1.length c1] rfl (by (try simp only [mA_]); first | done | rfl | (simp only [List.length_drop, List.length_take]; rfl)) ?_; (with_reducible refine (laws_toIntS.calls k _ _ l1 t355 _ ?side1 ?side2 A8.out).mono ?_); (case side1 => first | exact bC HR1.out HB.out | exact Kd.C_below HR1.out HB.out); (case side2 => exact HC1.out); rintro e w15 ⟨v356, rfl, ho0, hb⟩; refine ⟨_, rfl, ?_⟩; have n0_ := Aside0.mk (Kd.R_below (bR HO354.out) hb); have n1_ := Aside0.mk (Kd.R_lower ho0 (below_size (bw HB.out))); have n2_ := Aside0.mk (below_step (bw HB.out) hb); replace HO354 := n0_; have HO357 := n1_; replace HB := n2_; clear n0_ n1_ n2_; (try clear hb); (try clear hb2); (try clear hk); (try clear hi); (try clear ho0); obtain ⟨Ao16, co16, eo16⟩ := Kd.R_slice HO354.out; subst eo16; obtain ⟨Ao17, co17, eo17⟩ := Kd.R_slice HO357.out; subst eo17) | ((with_reducible refine gate_callee (f := 15) rfl ?_); refine goesL_ (some 33) rfl rfl Try.func15 (by kernel_rfl) rfl #[.slice Ao16 t352.length co16, .slice Ao17 t355.length co17, .int .i64 a2] rfl (by (try simp only [mA_]); first | done | rfl | (simp only [List.length_drop, List.length_take]; rfl)) ?_; (with_reducible refine (spec_UnitCircuit.calls k _ _ t352 _ _ t355 a2 t358 t359 _ ?side1 ?side2 ?side3 ?side4 A9.out).mono ?_); (case side1 => repeat (first | exact (Kd.R_reads' HO354.out).2.2 | (with_reducible refine Kd.C_alloc ?_ _) | (with_reducible refine Kd.C_drewN ?_ _) | (with_reducible refine Kd.C_drew ?_))); (case side2 => exact (Kd.R_reads' HO354.out).2.1); (case side3 => repeat (first | exact (Kd.R_reads' HO357.out).2.2 | (with_reducible refine Kd.C_alloc ?_ _) | (with_reducible refine Kd.C_drewN ?_ _) | (with_reducible refine Kd.C_drew ?_))); (case side4 => exact (Kd.R_reads' HO357.out).2.1); rintro e w18 ⟨v360, rfl, ho0, hb⟩; refine ⟨_, rfl, ?_⟩; have n0_ := Aside0.mk (Kd.R_below (bR HO354.out) hb); have n1_ := Aside0.mk (Kd.R_elder' (bR HO357.out) (Kd.R_base ho0) hb); have n2_ := Aside0.mk (Kd.R_lower (Kd.R_new' ho0 (Kd.R_lt (bR HO357.out))) (below_size (bw HB.out))); have n3_ := Aside0.mk (below_step (bw HB.out) hb); replace HO354 := n0_; replace HO357 := n1_; have HO361 := n2_; replace HB := n3_; clear n0_ n1_ n2_ n3_; (try clear hb); (try clear hb2); (try clear hk); (try clear hi); (try clear ho0)) | ((with_reducible refine gate_callee (f := 7) rfl ?_); refine goesL_ (some 37) rfl rfl Try.func7 (by kernel_rfl) rfl #[.slice A0 l0.length c0] rfl (by (try simp only [mA_]); first | done | rfl | (simp only [List.length_drop, List.length_take]; rfl)) ?_; (with_reducible refine (laws_toJobS.calls k _ _ l0 t362 _ ?side1 ?side2 A10.out).mono ?_); (case side1 => first | exact bC HR0.out HB.out | exact Kd.C_below HR0.out HB.out); (case side2 => exact HC0.out); rintro e w19 ⟨v363, rfl, ho0, hb⟩; refine ⟨_, rfl, ?_⟩; have n0_ := Aside0.mk (Kd.R_elder' (bR HO354.out) (Kd.R_base ho0) hb); have n1_ := Aside0.mk (Kd.R_below (bR HO357.out) hb); have n2_ := Aside0.mk (Kd.R_below (bR HO361.out) hb); have n3_ := Aside0.mk (Kd.R_lower (Kd.R_new' ho0 (Kd.R_lt (bR HO354.out))) (below_size (bw HB.out))); have n4_ := Aside0.mk (below_step (bw HB.out) hb); replace HO354 := n0_; replace HO357 := n1_; replace HO361 := n2_; have HO364 := n3_; replace HB := n4_; clear n0_ n1_ n2_ n3_ n4_; (try clear hb); (try clear hb2); (try clear hk); (try clear hi); (try clear ho0)) | ((with_reducible refine gate_callee (f := 8) rfl ?_); refine goesL_ (some 39) rfl rfl Try.func8 (by kernel_rfl) rfl #[.slice A1 l1.length c1] rfl (by (try simp only [mA_]); first | done | rfl | (simp only [List.length_drop, List.length_take]; rfl)) ?_; (with_reducible refine (laws_toIntS.calls k _ _ l1 t365 _ ?side1 ?side2 A11.out).mono ?_); (case side1 => first | exact bC HR1.out HB.out | exact Kd.C_below HR1.out HB.out); (case side2 => exact HC1.out); rintro e w20 ⟨v366, rfl, ho0, hb⟩; refine ⟨_, rfl, ?_⟩; have n0_ := Aside0.mk (Kd.R_below (bR HO354.out) hb); have n1_ := Aside0.mk (Kd.R_elder' (bR HO357.out) (Kd.R_base ho0) hb); have n2_ := Aside0.mk (Kd.R_elder' (bR HO361.out) (Kd.R_base ho0) hb); have n3_ := Aside0.mk (Kd.R_below (bR HO364.out) hb); have n4_ := Aside0.mk (Kd.R_lower (Kd.R_new' (Kd.R_new' ho0 (Kd.R_lt (bR HO357.out))) (Kd.R_lt (bR HO361.out))) (below_size (bw HB.out))); have n5_ := Aside0.mk (below_step (bw HB.out) hb); replace HO354 := n0_; replace HO357 := n1_; replace HO361 := n2_; replace HO364 := n3_; have HO367 := n4_; replace HB := n5_; clear n0_ n1_ n2_ n3_ n4_ n5_; (try clear hb); (try clear hb2); (try clear hk); (try clear hi); (try clear ho0); obtain ⟨Ao21, co21, eo21⟩ := Kd.R_slice HO364.out; subst eo21; obtain ⟨Ao22, co22, eo22⟩ := Kd.R_slice HO367.out; subst eo22) | ((with_reducible refine gate_callee (f := 16) rfl ?_); refine goesL_ (some 44) rfl rfl Try.func16 (by kernel_rfl) rfl #[.slice Ao21 t362.length co21, .slice Ao22 t365.length co22, .int .i64 a2] rfl (by (try simp only [mA_]); first | done | rfl | (simp only [List.length_drop, List.length_take]; rfl)) ?_; (with_reducible refine (impl_UnitCircuit.calls k _ _ t362 _ _ t365 a2 t368 t369 _ ?side1 ?side2 ?side3 ?side4 A12.out).mono ?_); (case side1 => repeat (first | exact (Kd.R_reads' HO364.out).2.2 | (with_reducible refine Kd.C_alloc ?_ _) | (with_reducible refine Kd.C_drewN ?_ _) | (with_reducible refine Kd.C_drew ?_))); (case side2 => exact (Kd.R_reads' HO364.out).2.1); (case side3 => repeat (first | exact (Kd.R_reads' HO367.out).2.2 | (with_reducible refine Kd.C_alloc ?_ _) | (with_reducible refine Kd.C_drewN ?_ _) | (with_reducible refine Kd.C_drew ?_))); (case side4 => exact (Kd.R_reads' HO367.out).2.1); rintro e w23 ⟨v370, rfl, ho0, hb⟩; refine ⟨_, rfl, ?_⟩; have n0_ := Aside0.mk (Kd.R_below (bR HO354.out) hb); have n1_ := Aside0.mk (Kd.R_elder' (bR HO357.out) (Kd.R_base ho0) hb); have n2_ := Aside0.mk (Kd.R_elder' (bR HO361.out) (Kd.R_base ho0) hb); have n3_ := Aside0.mk (Kd.R_below (bR HO364.out) hb); have n4_ := Aside0.mk (Kd.R_elder' (bR HO367.out) (Kd.R_base ho0) hb); have n5_ := Aside0.mk (Kd.R_lower (Kd.R_new' (Kd.R_new' (Kd.R_new' ho0 (Kd.R_lt (bR HO357.out))) (Kd.R_lt (bR HO361.out))) (Kd.R_lt (bR HO367.out))) (below_size (bw HB.out))); have n6_ := Aside0.mk (below_step (bw HB.out) hb); replace HO354 := n0_; replace HO357 := n1_; replace HO361 := n2_; replace HO364 := n3_; replace HO367 := n4_; have HO371 := n5_; replace HB := n6_; clear n0_ n1_ n2_ n3_ n4_ n5_ n6_; (try clear hb); (try clear hb2); (try clear hk); (try clear hi); (try clear ho0)))
 (try simp only [Act.put, List.setIfInBounds_toArray, List.set_cons_zero, List.set_cons_succ])
 go_cut [55] (fun v55 wc => ∃ (kq : Nat) (x55_12 : Bool), v55 = .bool x55_12 ∧ Aside0 (laws_FnExactUnitCircuit.j0 kq l0 l1 a2 t358 t359 t362 t365 t368 t369 x55_12 = some r) ∧ Aside0 (kq ≤ k) ∧ Aside0 (Kd.R (Kd.int .i64) 3 wc w.heap.size (fun k_ => some k_ ≠ ((.slice Ao22 t365.length co22) : Value).ownBlock ∧ some k_ ≠ (v370 : Value).ownBlock) v360 t358) ∧ Aside0 (Kd.R k43 43 wc w.heap.size (fun _ => True) (.slice Ao21 t362.length co21) t362) ∧ Aside0 (Kd.R (Kd.int .i64) 3 wc w.heap.size (fun k_ => some k_ ≠ (v360 : Value).ownBlock ∧ some k_ ≠ (v370 : Value).ownBlock) (.slice Ao22 t365.length co22) t365) ∧ Aside0 (Kd.R (Kd.int .i64) 3 wc w.heap.size (fun k_ => some k_ ≠ (v360 : Value).ownBlock ∧ some k_ ≠ ((.slice Ao22 t365.length co22) : Value).ownBlock) v370 t368) ∧ Aside0 (Below w.heap.size w wc))
 case first =>
  have H := HC13.out
  clear HC13
  replace H := Option.bind_eq_some_iff.mp H
  obtain ⟨t372, A240, H⟩ := H
  replace H : (if t372 = true then (laws_FnExactUnitCircuit.j0 k l0 l1 a2 t358 t359 t362 t365 t368 t369 (t369 != t359)) else (laws_FnExactUnitCircuit.j0 k l0 l1 a2 t358 t359 t362 t365 t368 t369 true)) = some r := H
  have A24 := Aside0.mk A240
  clear A240
  by_cases c25 : t372 = true
  ·subst c25
   have H1 : (laws_FnExactUnitCircuit.j0 k l0 l1 a2 t358 t359 t362 t365 t368 t369 (t369 != t359)) = some r := by rw [if_pos rfl] at H; exact H
   clear H
   have H := H1
   clear H1
   have H' := Aside0.mk H
   clear H
   obtain ⟨Ao26, co26, eo26⟩ := Kd.R_slice HO371.out
   subst eo26
   obtain ⟨Ao27, co27, eo27⟩ := Kd.R_slice HO361.out
   subst eo27
   go_wp2_with (first | ((with_reducible refine gate_callee (f := 10) rfl ?_); refine goesL_ (some 49) rfl rfl Try.func10 (by kernel_rfl) rfl #[.slice Ao26 t368.length co26, .slice Ao27 t358.length co27] rfl (by (try simp only [mA_]); first | done | rfl | (simp only [List.length_drop, List.length_take]; rfl)) ?_; (with_reducible refine (laws_eqIntS.calls k _ _ t368 _ _ t358 true _ ?side1 ?side2 ?side3 ?side4 A24.out).mono ?_); (case side1 => repeat (first | exact (Kd.R_reads' HO371.out).2.2 | (with_reducible refine Kd.C_alloc ?_ _) | (with_reducible refine Kd.C_drewN ?_ _) | (with_reducible refine Kd.C_drew ?_))); (case side2 => exact (Kd.R_reads' HO371.out).2.1); (case side3 => repeat (first | exact (Kd.R_reads' HO361.out).2.2 | (with_reducible refine Kd.C_alloc ?_ _) | (with_reducible refine Kd.C_drewN ?_ _) | (with_reducible refine Kd.C_drew ?_))); (case side4 => exact (Kd.R_reads' HO361.out).2.1); rintro e w' ⟨rfl, ⟨nd, rfl⟩⟩; refine ⟨_, rfl, ?_⟩))
   go_meet
   case rel => exact ⟨_, ((t369 != t359)), (by first | rfl | (simp; done) | (simp [*]; done)), H', ⟨by first | omega | exact Nat.le_refl _⟩, ⟨by (with_reducible repeat (first | apply Kd.R_alloc | apply Kd.R_drewN | apply Kd.R_drew)); exact Kd.R_mono HO361.out (fun _ hk => ⟨hk.1.2, hk.2⟩)⟩, ⟨by (with_reducible repeat (first | apply Kd.R_alloc | apply Kd.R_drewN | apply Kd.R_drew)); exact Kd.R_mono HO364.out (fun _ hk => trivial)⟩, ⟨by (with_reducible repeat (first | apply Kd.R_alloc | apply Kd.R_drewN | apply Kd.R_drew)); exact Kd.R_mono HO367.out (fun _ hk => ⟨hk.1.2, hk.2⟩)⟩, ⟨by (with_reducible repeat (first | apply Kd.R_alloc | apply Kd.R_drewN | apply Kd.R_drew)); exact Kd.R_mono HO371.out (fun _ hk => ⟨hk.1.2, hk.2⟩)⟩, ⟨bw HB.out⟩⟩
  replace c25 := Bool.eq_false_iff.mpr c25
  subst c25
  have H1 : (laws_FnExactUnitCircuit.j0 k l0 l1 a2 t358 t359 t362 t365 t368 t369 true) = some r := by rw [if_neg (show ¬ (false = true) by decide)] at H; exact H
  clear H
  have H := H1
  clear H1
  have H' := Aside0.mk H
  clear H
  obtain ⟨Ao28, co28, eo28⟩ := Kd.R_slice HO371.out
  subst eo28
  obtain ⟨Ao29, co29, eo29⟩ := Kd.R_slice HO361.out
  subst eo29
  go_wp2_with (first | ((with_reducible refine gate_callee (f := 10) rfl ?_); refine goesL_ (some 49) rfl rfl Try.func10 (by kernel_rfl) rfl #[.slice Ao28 t368.length co28, .slice Ao29 t358.length co29] rfl (by (try simp only [mA_]); first | done | rfl | (simp only [List.length_drop, List.length_take]; rfl)) ?_; (with_reducible refine (laws_eqIntS.calls k _ _ t368 _ _ t358 false _ ?side1 ?side2 ?side3 ?side4 A24.out).mono ?_); (case side1 => repeat (first | exact (Kd.R_reads' HO371.out).2.2 | (with_reducible refine Kd.C_alloc ?_ _) | (with_reducible refine Kd.C_drewN ?_ _) | (with_reducible refine Kd.C_drew ?_))); (case side2 => exact (Kd.R_reads' HO371.out).2.1); (case side3 => repeat (first | exact (Kd.R_reads' HO361.out).2.2 | (with_reducible refine Kd.C_alloc ?_ _) | (with_reducible refine Kd.C_drewN ?_ _) | (with_reducible refine Kd.C_drew ?_))); (case side4 => exact (Kd.R_reads' HO361.out).2.1); rintro e w' ⟨rfl, ⟨nd, rfl⟩⟩; refine ⟨_, rfl, ?_⟩))
  go_meet
  case rel => exact ⟨_, (true), (by first | rfl | (simp; done) | (simp [*]; done)), H', ⟨by first | omega | exact Nat.le_refl _⟩, ⟨by (with_reducible repeat (first | apply Kd.R_alloc | apply Kd.R_drewN | apply Kd.R_drew)); exact Kd.R_mono HO361.out (fun _ hk => ⟨hk.1.2, hk.2⟩)⟩, ⟨by (with_reducible repeat (first | apply Kd.R_alloc | apply Kd.R_drewN | apply Kd.R_drew)); exact Kd.R_mono HO364.out (fun _ hk => trivial)⟩, ⟨by (with_reducible repeat (first | apply Kd.R_alloc | apply Kd.R_drewN | apply Kd.R_drew)); exact Kd.R_mono HO367.out (fun _ hk => ⟨hk.1.2, hk.2⟩)⟩, ⟨by (with_reducible repeat (first | apply Kd.R_alloc | apply Kd.R_drewN | apply Kd.R_drew)); exact Kd.R_mono HO371.out (fun _ hk => ⟨hk.1.2, hk.2⟩)⟩, ⟨bw HB.out⟩⟩
 case rest =>
  clear HC13
  try clear c1
  try clear c2
  try clear p2
  try clear c4
  try clear c4b0
  try clear c4b1
  try clear c5
  try clear c6
  try clear c6b0
  try clear c7
  try clear c8
  try clear c10
  try clear c15
  try clear c16
  try clear c25
  obtain ⟨kq, x55_12, rfl, HA, HJ12, HO_8, HO_10, HO_11, HO_12, HB⟩ := hcut
  cases kq with
  | zero => exact absurd HA.out (by simp [laws_FnExactUnitCircuit.j0])
  | succ kj12 =>
   have H := HA.out
   clear HA
   simp only [laws_FnExactUnitCircuit.j0] at H
   by_cases c30 : x55_12 = true
   ·subst c30
    have H1 : (some false) = some r := by rw [if_pos rfl] at H; exact H
    clear H
    have H := H1
    clear H1
    obtain rfl := Option.some.inj H
    go_wp2
    go_ret
    exact ⟨by first | rfl | (simp [errW_none, errW_some] <;> rfl) | (simp [*, errW_none, errW_some] <;> rfl), bw HB.out⟩
   replace c30 := Bool.eq_false_iff.mpr c30
   subst c30
   have H1 : ((laws_toJobS.f kj12 l0).bind fun t373 => ((laws_eqJobS.f kj12 t362 t373).bind fun t376 => (if t376 = true then ((laws_toIntS.f kj12 l1).bind fun t377 => ((laws_eqIntS.f kj12 t365 t377).bind fun t380 => (if t380 = true then ((laws_markJobS.f kj12 t362 1).bind fun bt381 => ((laws_markIntS.f kj12 t365 bt381.1).bind fun bt383 => (if bt383.1 < 0 then (laws_FnExactUnitCircuit.j1 kj12 l0 l1 a2 t358 t359 t368 true) else ((laws_eqIntS.f kj12 t368 t358).bind fun t385 => (if t385 = true then (laws_FnExactUnitCircuit.j1 kj12 l0 l1 a2 t358 t359 t368 (t369 != t359)) else (laws_FnExactUnitCircuit.j1 kj12 l0 l1 a2 t358 t359 t368 true)))))) else (some false)))) else (some false)))) = some r := by rw [if_neg (show ¬ (false = true) by decide)] at H; exact H
   clear H
   have H := H1
   clear H1
   replace H := Option.bind_eq_some_iff.mp H
   obtain ⟨t373, A310, H⟩ := H
   replace H : ((laws_eqJobS.f kj12 t362 t373).bind fun t376 => (if t376 = true then ((laws_toIntS.f kj12 l1).bind fun t377 => ((laws_eqIntS.f kj12 t365 t377).bind fun t380 => (if t380 = true then ((laws_markJobS.f kj12 t362 1).bind fun bt381 => ((laws_markIntS.f kj12 t365 bt381.1).bind fun bt383 => (if bt383.1 < 0 then (laws_FnExactUnitCircuit.j1 kj12 l0 l1 a2 t358 t359 t368 true) else ((laws_eqIntS.f kj12 t368 t358).bind fun t385 => (if t385 = true then (laws_FnExactUnitCircuit.j1 kj12 l0 l1 a2 t358 t359 t368 (t369 != t359)) else (laws_FnExactUnitCircuit.j1 kj12 l0 l1 a2 t358 t359 t368 true)))))) else (some false)))) else (some false))) = some r := H
   have A31 := Aside0.mk A310
   clear A310
   replace H := Option.bind_eq_some_iff.mp H
   obtain ⟨t376, A320, H⟩ := H
   replace H : (if t376 = true then ((laws_toIntS.f kj12 l1).bind fun t377 => ((laws_eqIntS.f kj12 t365 t377).bind fun t380 => (if t380 = true then ((laws_markJobS.f kj12 t362 1).bind fun bt381 => ((laws_markIntS.f kj12 t365 bt381.1).bind fun bt383 => (if bt383.1 < 0 then (laws_FnExactUnitCircuit.j1 kj12 l0 l1 a2 t358 t359 t368 true) else ((laws_eqIntS.f kj12 t368 t358).bind fun t385 => (if t385 = true then (laws_FnExactUnitCircuit.j1 kj12 l0 l1 a2 t358 t359 t368 (t369 != t359)) else (laws_FnExactUnitCircuit.j1 kj12 l0 l1 a2 t358 t359 t368 true)))))) else (some false)))) else (some false)) = some r := H
   have A32 := Aside0.mk A320
   clear A320
   by_cases c33 : t376 = true
   rotate_left
   ·replace c33 := Bool.eq_false_iff.mpr c33
    subst c33
    have H1 : (some false) = some r := by rw [if_neg (show ¬ (false = true) by decide)] at H; exact H
    clear H
    have H := H1
    clear H1
    obtain rfl := Option.some.inj H
    go_wp2_with (first | ((with_reducible refine gate_callee (f := 7) rfl ?_); refine goesL_ (some 58) rfl rfl Try.func7 (by kernel_rfl) rfl #[.slice A0 l0.length c0] rfl (by (try simp only [mA_]); first | done | rfl | (simp only [List.length_drop, List.length_take]; rfl)) ?_; (with_reducible refine (laws_toJobS.calls kj12 _ _ l0 t373 _ ?side1 ?side2 A31.out).mono ?_); (case side1 => first | exact bC HR0.out HB.out | exact Kd.C_below HR0.out HB.out); (case side2 => exact HC0.out); rintro e w89 ⟨v374, rfl, ho0, hb⟩; refine ⟨_, rfl, ?_⟩; have n0_ := Aside0.mk (Kd.R_below (bR HO_8.out) hb); have n1_ := Aside0.mk (Kd.R_elder' (bR HO_10.out) (Kd.R_base ho0) hb); have n2_ := Aside0.mk (Kd.R_below (bR HO_11.out) hb); have n3_ := Aside0.mk (Kd.R_below (bR HO_12.out) hb); have n4_ := Aside0.mk (Kd.R_lower (Kd.R_new' ho0 (Kd.R_lt (bR HO_10.out))) (below_size (bw HB.out))); have n5_ := Aside0.mk (below_step (bw HB.out) hb); replace HO_8 := n0_; replace HO_10 := n1_; replace HO_11 := n2_; replace HO_12 := n3_; have HO375 := n4_; replace HB := n5_; clear n0_ n1_ n2_ n3_ n4_ n5_; (try clear hb); (try clear hb2); (try clear hk); (try clear hi); (try clear ho0); obtain ⟨Ao90, co90, eo90⟩ := Kd.R_slice HO375.out; subst eo90) | ((with_reducible refine gate_callee (f := 11) rfl ?_); refine goesL_ (some 59) rfl rfl Try.func11 (by kernel_rfl) rfl #[.slice Ao21 t362.length co21, .slice Ao90 t373.length co90] rfl (by (try simp only [mA_]); first | done | rfl | (simp only [List.length_drop, List.length_take]; rfl)) ?_; (with_reducible refine (laws_eqJobS.calls kj12 _ _ t362 _ _ t373 false _ ?side1 ?side2 ?side3 ?side4 A32.out).mono ?_); (case side1 => repeat (first | exact (Kd.R_reads' HO_10.out).2.2 | (with_reducible refine Kd.C_alloc ?_ _) | (with_reducible refine Kd.C_drewN ?_ _) | (with_reducible refine Kd.C_drew ?_))); (case side2 => exact (Kd.R_reads' HO_10.out).2.1); (case side3 => repeat (first | exact (Kd.R_reads' HO375.out).2.2 | (with_reducible refine Kd.C_alloc ?_ _) | (with_reducible refine Kd.C_drewN ?_ _) | (with_reducible refine Kd.C_drew ?_))); (case side4 => exact (Kd.R_reads' HO375.out).2.1); rintro e w91 ⟨rfl, hb⟩; refine ⟨_, rfl, ?_⟩; have n0_ := Aside0.mk (Kd.R_below (bR HO_8.out) hb); have n1_ := Aside0.mk (Kd.R_below (bR HO_10.out) hb); have n2_ := Aside0.mk (Kd.R_below (bR HO_11.out) hb); have n3_ := Aside0.mk (Kd.R_below (bR HO_12.out) hb); have n4_ := Aside0.mk (Kd.R_below (bR HO375.out) hb); have n5_ := Aside0.mk (below_step (bw HB.out) hb); replace HO_8 := n0_; replace HO_10 := n1_; replace HO_11 := n2_; replace HO_12 := n3_; replace HO375 := n4_; replace HB := n5_; clear n0_ n1_ n2_ n3_ n4_ n5_; (try clear hb); (try clear hb2); (try clear hk); (try clear hi)))
    go_ret
    exact ⟨by first | rfl | (simp [errW_none, errW_some] <;> rfl) | (simp [*, errW_none, errW_some] <;> rfl), bw HB.out⟩
   subst c33
   have H1 : ((laws_toIntS.f kj12 l1).bind fun t377 => ((laws_eqIntS.f kj12 t365 t377).bind fun t380 => (if t380 = true then ((laws_markJobS.f kj12 t362 1).bind fun bt381 => ((laws_markIntS.f kj12 t365 bt381.1).bind fun bt383 => (if bt383.1 < 0 then (laws_FnExactUnitCircuit.j1 kj12 l0 l1 a2 t358 t359 t368 true) else ((laws_eqIntS.f kj12 t368 t358).bind fun t385 => (if t385 = true then (laws_FnExactUnitCircuit.j1 kj12 l0 l1 a2 t358 t359 t368 (t369 != t359)) else (laws_FnExactUnitCircuit.j1 kj12 l0 l1 a2 t358 t359 t368 true)))))) else (some false)))) = some r := by rw [if_pos rfl] at H; exact H
   clear H
   have H := H1
   clear H1
   replace H := Option.bind_eq_some_iff.mp H
   obtain ⟨t377, A340, H⟩ := H
   replace H : ((laws_eqIntS.f kj12 t365 t377).bind fun t380 => (if t380 = true then ((laws_markJobS.f kj12 t362 1).bind fun bt381 => ((laws_markIntS.f kj12 t365 bt381.1).bind fun bt383 => (if bt383.1 < 0 then (laws_FnExactUnitCircuit.j1 kj12 l0 l1 a2 t358 t359 t368 true) else ((laws_eqIntS.f kj12 t368 t358).bind fun t385 => (if t385 = true then (laws_FnExactUnitCircuit.j1 kj12 l0 l1 a2 t358 t359 t368 (t369 != t359)) else (laws_FnExactUnitCircuit.j1 kj12 l0 l1 a2 t358 t359 t368 true)))))) else (some false))) = some r := H
   have A34 := Aside0.mk A340
   clear A340
   replace H := Option.bind_eq_some_iff.mp H
   obtain ⟨t380, A350, H⟩ := H
   replace H : (if t380 = true then ((laws_markJobS.f kj12 t362 1).bind fun bt381 => ((laws_markIntS.f kj12 t365 bt381.1).bind fun bt383 => (if bt383.1 < 0 then (laws_FnExactUnitCircuit.j1 kj12 l0 l1 a2 t358 t359 t368 true) else ((laws_eqIntS.f kj12 t368 t358).bind fun t385 => (if t385 = true then (laws_FnExactUnitCircuit.j1 kj12 l0 l1 a2 t358 t359 t368 (t369 != t359)) else (laws_FnExactUnitCircuit.j1 kj12 l0 l1 a2 t358 t359 t368 true)))))) else (some false)) = some r := H
   have A35 := Aside0.mk A350
   clear A350
   by_cases c36 : t380 = true
   rotate_left
   ·replace c36 := Bool.eq_false_iff.mpr c36
    subst c36
    have H1 : (some false) = some r := by rw [if_neg (show ¬ (false = true) by decide)] at H; exact H
    clear H
    have H := H1
    clear H1
    obtain rfl := Option.some.inj H
    go_wp2_with (first | ((with_reducible refine gate_callee (f := 7) rfl ?_); refine goesL_ (some 58) rfl rfl Try.func7 (by kernel_rfl) rfl #[.slice A0 l0.length c0] rfl (by (try simp only [mA_]); first | done | rfl | (simp only [List.length_drop, List.length_take]; rfl)) ?_; (with_reducible refine (laws_toJobS.calls kj12 _ _ l0 t373 _ ?side1 ?side2 A31.out).mono ?_); (case side1 => first | exact bC HR0.out HB.out | exact Kd.C_below HR0.out HB.out); (case side2 => exact HC0.out); rintro e w84 ⟨v374, rfl, ho0, hb⟩; refine ⟨_, rfl, ?_⟩; have n0_ := Aside0.mk (Kd.R_below (bR HO_8.out) hb); have n1_ := Aside0.mk (Kd.R_elder' (bR HO_10.out) (Kd.R_base ho0) hb); have n2_ := Aside0.mk (Kd.R_below (bR HO_11.out) hb); have n3_ := Aside0.mk (Kd.R_below (bR HO_12.out) hb); have n4_ := Aside0.mk (Kd.R_lower (Kd.R_new' ho0 (Kd.R_lt (bR HO_10.out))) (below_size (bw HB.out))); have n5_ := Aside0.mk (below_step (bw HB.out) hb); replace HO_8 := n0_; replace HO_10 := n1_; replace HO_11 := n2_; replace HO_12 := n3_; have HO375 := n4_; replace HB := n5_; clear n0_ n1_ n2_ n3_ n4_ n5_; (try clear hb); (try clear hb2); (try clear hk); (try clear hi); (try clear ho0); obtain ⟨Ao85, co85, eo85⟩ := Kd.R_slice HO375.out; subst eo85) | ((with_reducible refine gate_callee (f := 11) rfl ?_); refine goesL_ (some 59) rfl rfl Try.func11 (by kernel_rfl) rfl #[.slice Ao21 t362.length co21, .slice Ao85 t373.length co85] rfl (by (try simp only [mA_]); first | done | rfl | (simp only [List.length_drop, List.length_take]; rfl)) ?_; (with_reducible refine (laws_eqJobS.calls kj12 _ _ t362 _ _ t373 true _ ?side1 ?side2 ?side3 ?side4 A32.out).mono ?_); (case side1 => repeat (first | exact (Kd.R_reads' HO_10.out).2.2 | (with_reducible refine Kd.C_alloc ?_ _) | (with_reducible refine Kd.C_drewN ?_ _) | (with_reducible refine Kd.C_drew ?_))); (case side2 => exact (Kd.R_reads' HO_10.out).2.1); (case side3 => repeat (first | exact (Kd.R_reads' HO375.out).2.2 | (with_reducible refine Kd.C_alloc ?_ _) | (with_reducible refine Kd.C_drewN ?_ _) | (with_reducible refine Kd.C_drew ?_))); (case side4 => exact (Kd.R_reads' HO375.out).2.1); rintro e w86 ⟨rfl, hb⟩; refine ⟨_, rfl, ?_⟩; have n0_ := Aside0.mk (Kd.R_below (bR HO_8.out) hb); have n1_ := Aside0.mk (Kd.R_below (bR HO_10.out) hb); have n2_ := Aside0.mk (Kd.R_below (bR HO_11.out) hb); have n3_ := Aside0.mk (Kd.R_below (bR HO_12.out) hb); have n4_ := Aside0.mk (Kd.R_below (bR HO375.out) hb); have n5_ := Aside0.mk (below_step (bw HB.out) hb); replace HO_8 := n0_; replace HO_10 := n1_; replace HO_11 := n2_; replace HO_12 := n3_; replace HO375 := n4_; replace HB := n5_; clear n0_ n1_ n2_ n3_ n4_ n5_; (try clear hb); (try clear hb2); (try clear hk); (try clear hi)) | ((with_reducible refine gate_callee (f := 8) rfl ?_); refine goesL_ (some 63) rfl rfl Try.func8 (by kernel_rfl) rfl #[.slice A1 l1.length c1] rfl (by (try simp only [mA_]); first | done | rfl | (simp only [List.length_drop, List.length_take]; rfl)) ?_; (with_reducible refine (laws_toIntS.calls kj12 _ _ l1 t377 _ ?side1 ?side2 A34.out).mono ?_); (case side1 => first | exact bC HR1.out HB.out | exact Kd.C_below HR1.out HB.out); (case side2 => exact HC1.out); rintro e w87 ⟨v378, rfl, ho0, hb⟩; refine ⟨_, rfl, ?_⟩; have n0_ := Aside0.mk (Kd.R_elder' (bR HO_8.out) (Kd.R_base ho0) hb); have n1_ := Aside0.mk (Kd.R_below (bR HO_10.out) hb); have n2_ := Aside0.mk (Kd.R_elder' (bR HO_11.out) (Kd.R_base ho0) hb); have n3_ := Aside0.mk (Kd.R_elder' (bR HO_12.out) (Kd.R_base ho0) hb); have n4_ := Aside0.mk (Kd.R_below (bR HO375.out) hb); have n5_ := Aside0.mk (Kd.R_lower (Kd.R_new' (Kd.R_new' (Kd.R_new' ho0 (Kd.R_lt (bR HO_8.out))) (Kd.R_lt (bR HO_11.out))) (Kd.R_lt (bR HO_12.out))) (below_size (bw HB.out))); have n6_ := Aside0.mk (below_step (bw HB.out) hb); replace HO_8 := n0_; replace HO_10 := n1_; replace HO_11 := n2_; replace HO_12 := n3_; replace HO375 := n4_; have HO379 := n5_; replace HB := n6_; clear n0_ n1_ n2_ n3_ n4_ n5_ n6_; (try clear hb); (try clear hb2); (try clear hk); (try clear hi); (try clear ho0); obtain ⟨Ao88, co88, eo88⟩ := Kd.R_slice HO379.out; subst eo88) | ((with_reducible refine gate_callee (f := 10) rfl ?_); refine goesL_ (some 64) rfl rfl Try.func10 (by kernel_rfl) rfl #[.slice Ao22 t365.length co22, .slice Ao88 t377.length co88] rfl (by (try simp only [mA_]); first | done | rfl | (simp only [List.length_drop, List.length_take]; rfl)) ?_; (with_reducible refine (laws_eqIntS.calls kj12 _ _ t365 _ _ t377 false _ ?side1 ?side2 ?side3 ?side4 A35.out).mono ?_); (case side1 => repeat (first | exact (Kd.R_reads' HO_11.out).2.2 | (with_reducible refine Kd.C_alloc ?_ _) | (with_reducible refine Kd.C_drewN ?_ _) | (with_reducible refine Kd.C_drew ?_))); (case side2 => exact (Kd.R_reads' HO_11.out).2.1); (case side3 => repeat (first | exact (Kd.R_reads' HO379.out).2.2 | (with_reducible refine Kd.C_alloc ?_ _) | (with_reducible refine Kd.C_drewN ?_ _) | (with_reducible refine Kd.C_drew ?_))); (case side4 => exact (Kd.R_reads' HO379.out).2.1); rintro e w' ⟨rfl, ⟨nd, rfl⟩⟩; refine ⟨_, rfl, ?_⟩))
    go_ret
    exact ⟨by first | rfl | (simp [errW_none, errW_some] <;> rfl) | (simp [*, errW_none, errW_some] <;> rfl), bw HB.out⟩
   subst c36
   have H1 : ((laws_markJobS.f kj12 t362 1).bind fun bt381 => ((laws_markIntS.f kj12 t365 bt381.1).bind fun bt383 => (if bt383.1 < 0 then (laws_FnExactUnitCircuit.j1 kj12 l0 l1 a2 t358 t359 t368 true) else ((laws_eqIntS.f kj12 t368 t358).bind fun t385 => (if t385 = true then (laws_FnExactUnitCircuit.j1 kj12 l0 l1 a2 t358 t359 t368 (t369 != t359)) else (laws_FnExactUnitCircuit.j1 kj12 l0 l1 a2 t358 t359 t368 true)))))) = some r := by rw [if_pos rfl] at H; exact H
   clear H
   have H := H1
   clear H1
   replace H := Option.bind_eq_some_iff.mp H
   obtain ⟨⟨t381, t382⟩, A370, H⟩ := H
   replace H : ((laws_markIntS.f kj12 t365 t381).bind fun bt383 => (if bt383.1 < 0 then (laws_FnExactUnitCircuit.j1 kj12 l0 l1 a2 t358 t359 t368 true) else ((laws_eqIntS.f kj12 t368 t358).bind fun t385 => (if t385 = true then (laws_FnExactUnitCircuit.j1 kj12 l0 l1 a2 t358 t359 t368 (t369 != t359)) else (laws_FnExactUnitCircuit.j1 kj12 l0 l1 a2 t358 t359 t368 true))))) = some r := H
   have A37 := Aside0.mk A370
   clear A370
   replace H := Option.bind_eq_some_iff.mp H
   obtain ⟨⟨t383, t384⟩, A380, H⟩ := H
   replace H : (if t383 < 0 then (laws_FnExactUnitCircuit.j1 kj12 l0 l1 a2 t358 t359 t368 true) else ((laws_eqIntS.f kj12 t368 t358).bind fun t385 => (if t385 = true then (laws_FnExactUnitCircuit.j1 kj12 l0 l1 a2 t358 t359 t368 (t369 != t359)) else (laws_FnExactUnitCircuit.j1 kj12 l0 l1 a2 t358 t359 t368 true)))) = some r := H
   have A38 := Aside0.mk A380
   clear A380
   have HC39 := Aside0.mk H
   clear H
   go_upto_region 20 with (first | ((with_reducible refine gate_callee (f := 7) rfl ?_); refine goesL_ (some 58) rfl rfl Try.func7 (by kernel_rfl) rfl #[.slice A0 l0.length c0] rfl (by (try simp only [mA_]); first | done | rfl | (simp only [List.length_drop, List.length_take]; rfl)) ?_; (with_reducible refine (laws_toJobS.calls kj12 _ _ l0 t373 _ ?side1 ?side2 A31.out).mono ?_); (case side1 => first | exact bC HR0.out HB.out | exact Kd.C_below HR0.out HB.out); (case side2 => exact HC0.out); rintro e w40 ⟨v374, rfl, ho0, hb⟩; refine ⟨_, rfl, ?_⟩; have n0_ := Aside0.mk (Kd.R_below (bR HO_8.out) hb); have n1_ := Aside0.mk (Kd.R_elder' (bR HO_10.out) (Kd.R_base ho0) hb); have n2_ := Aside0.mk (Kd.R_below (bR HO_11.out) hb); have n3_ := Aside0.mk (Kd.R_below (bR HO_12.out) hb); have n4_ := Aside0.mk (Kd.R_lower (Kd.R_new' ho0 (Kd.R_lt (bR HO_10.out))) (below_size (bw HB.out))); have n5_ := Aside0.mk (below_step (bw HB.out) hb); replace HO_8 := n0_; replace HO_10 := n1_; replace HO_11 := n2_; replace HO_12 := n3_; have HO375 := n4_; replace HB := n5_; clear n0_ n1_ n2_ n3_ n4_ n5_; (try clear hb); (try clear hb2); (try clear hk); (try clear hi); (try clear ho0); obtain ⟨Ao41, co41, eo41⟩ := Kd.R_slice HO375.out; subst eo41) | ((with_reducible refine gate_callee (f := 11) rfl ?_); refine goesL_ (some 59) rfl rfl Try.func11 (by kernel_rfl) rfl #[.slice Ao21 t362.length co21, .slice Ao41 t373.length co41] rfl (by (try simp only [mA_]); first | done | rfl | (simp only [List.length_drop, List.length_take]; rfl)) ?_; (with_reducible refine (laws_eqJobS.calls kj12 _ _ t362 _ _ t373 true _ ?side1 ?side2 ?side3 ?side4 A32.out).mono ?_); (case side1 => repeat (first | exact (Kd.R_reads' HO_10.out).2.2 | (with_reducible refine Kd.C_alloc ?_ _) | (with_reducible refine Kd.C_drewN ?_ _) | (with_reducible refine Kd.C_drew ?_))); (case side2 => exact (Kd.R_reads' HO_10.out).2.1); (case side3 => repeat (first | exact (Kd.R_reads' HO375.out).2.2 | (with_reducible refine Kd.C_alloc ?_ _) | (with_reducible refine Kd.C_drewN ?_ _) | (with_reducible refine Kd.C_drew ?_))); (case side4 => exact (Kd.R_reads' HO375.out).2.1); rintro e w42 ⟨rfl, hb⟩; refine ⟨_, rfl, ?_⟩; have n0_ := Aside0.mk (Kd.R_below (bR HO_8.out) hb); have n1_ := Aside0.mk (Kd.R_below (bR HO_10.out) hb); have n2_ := Aside0.mk (Kd.R_below (bR HO_11.out) hb); have n3_ := Aside0.mk (Kd.R_below (bR HO_12.out) hb); have n4_ := Aside0.mk (Kd.R_below (bR HO375.out) hb); have n5_ := Aside0.mk (below_step (bw HB.out) hb); replace HO_8 := n0_; replace HO_10 := n1_; replace HO_11 := n2_; replace HO_12 := n3_; replace HO375 := n4_; replace HB := n5_; clear n0_ n1_ n2_ n3_ n4_ n5_; (try clear hb); (try clear hb2); (try clear hk); (try clear hi)) | ((with_reducible refine gate_callee (f := 8) rfl ?_); refine goesL_ (some 63) rfl rfl Try.func8 (by kernel_rfl) rfl #[.slice A1 l1.length c1] rfl (by (try simp only [mA_]); first | done | rfl | (simp only [List.length_drop, List.length_take]; rfl)) ?_; (with_reducible refine (laws_toIntS.calls kj12 _ _ l1 t377 _ ?side1 ?side2 A34.out).mono ?_); (case side1 => first | exact bC HR1.out HB.out | exact Kd.C_below HR1.out HB.out); (case side2 => exact HC1.out); rintro e w43 ⟨v378, rfl, ho0, hb⟩; refine ⟨_, rfl, ?_⟩; have n0_ := Aside0.mk (Kd.R_elder' (bR HO_8.out) (Kd.R_base ho0) hb); have n1_ := Aside0.mk (Kd.R_below (bR HO_10.out) hb); have n2_ := Aside0.mk (Kd.R_elder' (bR HO_11.out) (Kd.R_base ho0) hb); have n3_ := Aside0.mk (Kd.R_elder' (bR HO_12.out) (Kd.R_base ho0) hb); have n4_ := Aside0.mk (Kd.R_below (bR HO375.out) hb); have n5_ := Aside0.mk (Kd.R_lower (Kd.R_new' (Kd.R_new' (Kd.R_new' ho0 (Kd.R_lt (bR HO_8.out))) (Kd.R_lt (bR HO_11.out))) (Kd.R_lt (bR HO_12.out))) (below_size (bw HB.out))); have n6_ := Aside0.mk (below_step (bw HB.out) hb); replace HO_8 := n0_; replace HO_10 := n1_; replace HO_11 := n2_; replace HO_12 := n3_; replace HO375 := n4_; have HO379 := n5_; replace HB := n6_; clear n0_ n1_ n2_ n3_ n4_ n5_ n6_; (try clear hb); (try clear hb2); (try clear hk); (try clear hi); (try clear ho0); obtain ⟨Ao44, co44, eo44⟩ := Kd.R_slice HO379.out; subst eo44) | ((with_reducible refine gate_callee (f := 10) rfl ?_); refine goesL_ (some 64) rfl rfl Try.func10 (by kernel_rfl) rfl #[.slice Ao22 t365.length co22, .slice Ao44 t377.length co44] rfl (by (try simp only [mA_]); first | done | rfl | (simp only [List.length_drop, List.length_take]; rfl)) ?_; (with_reducible refine (laws_eqIntS.calls kj12 _ _ t365 _ _ t377 true _ ?side1 ?side2 ?side3 ?side4 A35.out).mono ?_); (case side1 => repeat (first | exact (Kd.R_reads' HO_11.out).2.2 | (with_reducible refine Kd.C_alloc ?_ _) | (with_reducible refine Kd.C_drewN ?_ _) | (with_reducible refine Kd.C_drew ?_))); (case side2 => exact (Kd.R_reads' HO_11.out).2.1); (case side3 => repeat (first | exact (Kd.R_reads' HO379.out).2.2 | (with_reducible refine Kd.C_alloc ?_ _) | (with_reducible refine Kd.C_drewN ?_ _) | (with_reducible refine Kd.C_drew ?_))); (case side4 => exact (Kd.R_reads' HO379.out).2.1); rintro e w' ⟨rfl, ⟨nd, rfl⟩⟩; refine ⟨_, rfl, ?_⟩) | ((with_reducible refine gate_callee (f := 12) rfl ?_); refine goesL_ (some 68) rfl rfl Try.func12 (by kernel_rfl) rfl #[.slice Ao21 t362.length co21, .int .i64 1] rfl (by (try simp only [mA_]); first | done | rfl | (simp only [List.length_drop, List.length_take]; rfl)) ?_; (with_reducible refine (laws_markJobS.calls kj12 (fun k_ => some k_ = (.slice Ao21 t362.length co21 : Value).ownBlock) (.slice Ao21 t362.length co21) t362 1 t381 t382 w _ ?side1 ?side2 A37.out).mono ?_); (case side1 => repeat (first | (with_reducible first | exact HB.out | apply below_alloc | apply pw_below_drewN | apply below_drew1) | exact HB.out)); (case side2 => exact Kd.R_tight rfl HO_10.out); rintro e w45 ⟨rfl, hy0, hb, hkp⟩; refine ⟨_, rfl, ?_⟩; have n0_ := Aside0.mk (Kd.R_mono (ok' := fun k_ => some k_ ≠ (.slice Ao22 t365.length co22 : Value).ownBlock ∧ some k_ ≠ (v370 : Value).ownBlock ∧ some k_ ≠ (.slice Ao44 t377.length co44 : Value).ownBlock) (Kd.R_keptB ((Kd.R_apart' HO_8.out (Kd.R_typed HO_10.out) (by decide))) hkp (fun k_ hk_ hs_ => (hk_.2) hs_)) (fun k_ hk_ => ⟨hk_.1.1.1.1, hk_.1.1.1.2, hk_.1.1.2⟩)); have n1_ := Aside0.mk (Kd.R_reok rfl hy0 (fun k_ e_ => HO_10.out.1 k_ e_)); have n2_ := Aside0.mk (Kd.R_mono (ok' := fun k_ => some k_ ≠ (v360 : Value).ownBlock ∧ some k_ ≠ (v370 : Value).ownBlock ∧ some k_ ≠ (.slice Ao44 t377.length co44 : Value).ownBlock) (Kd.R_keptB ((Kd.R_apart' HO_11.out (Kd.R_typed HO_10.out) (by decide))) hkp (fun k_ hk_ hs_ => (hk_.2) hs_)) (fun k_ hk_ => ⟨hk_.1.1.1.1, hk_.1.1.1.2, hk_.1.1.2⟩)); have n3_ := Aside0.mk (Kd.R_mono (ok' := fun k_ => some k_ ≠ (v360 : Value).ownBlock ∧ some k_ ≠ (.slice Ao22 t365.length co22 : Value).ownBlock ∧ some k_ ≠ (.slice Ao44 t377.length co44 : Value).ownBlock) (Kd.R_keptB ((Kd.R_apart' HO_12.out (Kd.R_typed HO_10.out) (by decide))) hkp (fun k_ hk_ hs_ => (hk_.2) hs_)) (fun k_ hk_ => ⟨hk_.1.1.1.1, hk_.1.1.1.2, hk_.1.1.2⟩)); have n4_ := Aside0.mk (Kd.R_mono (ok' := fun k_ => some k_ ≠ (.slice Ao21 t362.length co21 : Value).ownBlock) (Kd.R_keptB (HO375.out) hkp (fun k_ hk_ hs_ => (hk_.2) hs_)) (fun k_ hk_ => hk_.1.2)); have n5_ := Aside0.mk (Kd.R_mono (ok' := fun k_ => some k_ ≠ (v360 : Value).ownBlock ∧ some k_ ≠ (.slice Ao22 t365.length co22 : Value).ownBlock ∧ some k_ ≠ (v370 : Value).ownBlock) (Kd.R_keptB ((Kd.R_apart' HO379.out (Kd.R_typed HO_10.out) (by decide))) hkp (fun k_ hk_ hs_ => (hk_.2) hs_)) (fun k_ hk_ => ⟨hk_.1.1.1.1.2, hk_.1.1.1.2, hk_.1.1.2⟩)); have n6_ := Aside0.mk (hb); replace HO_8 := n0_; replace HO_10 := n1_; replace HO_11 := n2_; replace HO_12 := n3_; replace HO375 := n4_; replace HO379 := n5_; replace HB := n6_; clear n0_ n1_ n2_ n3_ n4_ n5_ n6_; (try clear hb); (try clear hkp); (try clear hy0)) | ((with_reducible refine gate_callee (f := 13) rfl ?_); refine goesL_ (some 71) rfl rfl Try.func13 (by kernel_rfl) rfl #[.slice Ao22 t365.length co22, .int .i64 t381] rfl (by (try simp only [mA_]); first | done | rfl | (simp only [List.length_drop, List.length_take]; rfl)) ?_; (with_reducible refine (laws_markIntS.calls kj12 (fun k_ => some k_ = (.slice Ao22 t365.length co22 : Value).ownBlock) (.slice Ao22 t365.length co22) t365 t381 t383 t384 w _ ?side1 ?side2 A38.out).mono ?_); (case side1 => repeat (first | (with_reducible first | exact HB.out | apply below_alloc | apply pw_below_drewN | apply below_drew1) | exact HB.out)); (case side2 => exact Kd.R_tight rfl HO_11.out); rintro e w46 ⟨rfl, hy0, hb, hkp⟩; refine ⟨_, rfl, ?_⟩; have n0_ := Aside0.mk (Kd.R_mono (ok' := fun k_ => some k_ ≠ (.slice Ao22 t365.length co22 : Value).ownBlock ∧ some k_ ≠ (v370 : Value).ownBlock ∧ some k_ ≠ (.slice Ao44 t377.length co44 : Value).ownBlock) (Kd.R_keptB (HO_8.out) hkp (fun k_ hk_ hs_ => (hk_.1) hs_)) (fun k_ hk_ => ⟨hk_.1.1, hk_.1.2.1, hk_.1.2.2⟩)); have n1_ := Aside0.mk (Kd.R_mono (ok' := fun k_ => some k_ ≠ (.slice Ao41 t373.length co41 : Value).ownBlock) (Kd.R_keptB ((Kd.R_apart' HO_10.out (Kd.R_typed HO_11.out) (by decide))) hkp (fun k_ hk_ hs_ => (hk_.2) hs_)) (fun k_ hk_ => hk_.1.1.2)); have n2_ := Aside0.mk (Kd.R_reok rfl hy0 (fun k_ e_ => HO_11.out.1 k_ e_)); have n3_ := Aside0.mk (Kd.R_mono (ok' := fun k_ => some k_ ≠ (v360 : Value).ownBlock ∧ some k_ ≠ (.slice Ao22 t365.length co22 : Value).ownBlock ∧ some k_ ≠ (.slice Ao44 t377.length co44 : Value).ownBlock) (Kd.R_keptB (HO_12.out) hkp (fun k_ hk_ hs_ => (hk_.2.1) hs_)) (fun k_ hk_ => ⟨hk_.1.1, hk_.1.2.1, hk_.1.2.2⟩)); have n4_ := Aside0.mk (Kd.R_mono (ok' := fun k_ => some k_ ≠ (.slice Ao21 t362.length co21 : Value).ownBlock) (Kd.R_keptB ((Kd.R_apart' HO375.out (Kd.R_typed HO_11.out) (by decide))) hkp (fun k_ hk_ hs_ => (hk_.2) hs_)) (fun k_ hk_ => hk_.1.1)); have n5_ := Aside0.mk (Kd.R_mono (ok' := fun k_ => some k_ ≠ (v360 : Value).ownBlock ∧ some k_ ≠ (.slice Ao22 t365.length co22 : Value).ownBlock ∧ some k_ ≠ (v370 : Value).ownBlock) (Kd.R_keptB (HO379.out) hkp (fun k_ hk_ hs_ => (hk_.2.1) hs_)) (fun k_ hk_ => ⟨hk_.1.1, hk_.1.2.1, hk_.1.2.2⟩)); have n6_ := Aside0.mk (hb); replace HO_8 := n0_; replace HO_10 := n1_; replace HO_11 := n2_; replace HO_12 := n3_; replace HO375 := n4_; replace HO379 := n5_; replace HB := n6_; clear n0_ n1_ n2_ n3_ n4_ n5_ n6_; (try clear hb); (try clear hkp); (try clear hy0)))
   (try simp only [Act.put, List.setIfInBounds_toArray, List.set_cons_zero, List.set_cons_succ])
   go_cut [84] (fun v84 wc => ∃ (kq : Nat) (x84_38 : Bool), v84 = .bool x84_38 ∧ Aside0 (laws_FnExactUnitCircuit.j1 kq l0 l1 a2 t358 t359 t368 x84_38 = some r) ∧ Aside0 (kq ≤ kj12) ∧ Aside0 (Kd.R (Kd.int .i64) 3 wc w.heap.size (fun k_ => some k_ ≠ (v370 : Value).ownBlock) v360 t358) ∧ Aside0 (Kd.R (Kd.int .i64) 3 wc w.heap.size (fun k_ => some k_ ≠ (v360 : Value).ownBlock) v370 t368) ∧ Aside0 (Below w.heap.size w wc))
   case first =>
    have H := HC39.out
    clear HC39
    by_cases c47 : t383 < 0
    ·rw [if_pos c47] at H
     have c47b0 : decide (t383 < 0) = true := decide_eq_true c47
     clear c47
     (first | rw [c47b0] | (simp only [i64_w, i32_w]; rw [c47b0]) | skip)
     have H' := Aside0.mk H
     clear H
     go_wp2
     go_meet
     case rel => exact ⟨_, (true), (by first | rfl | (simp; done) | (simp [*]; done)), H', ⟨by have := HJ12.out; first | omega | exact Nat.le_refl _⟩, ⟨by (with_reducible repeat (first | apply Kd.R_alloc | apply Kd.R_drewN | apply Kd.R_drew)); exact Kd.R_mono HO_8.out (fun _ hk => hk.2.1)⟩, ⟨by (with_reducible repeat (first | apply Kd.R_alloc | apply Kd.R_drewN | apply Kd.R_drew)); exact Kd.R_mono HO_12.out (fun _ hk => hk.1)⟩, ⟨bw HB.out⟩⟩
    rw [if_neg c47] at H
    have c47b0 : decide (t383 < 0) = false := decide_eq_false c47
    clear c47
    (first | rw [c47b0] | (simp only [i64_w, i32_w]; rw [c47b0]) | skip)
    replace H := Option.bind_eq_some_iff.mp H
    obtain ⟨t385, A480, H⟩ := H
    replace H : (if t385 = true then (laws_FnExactUnitCircuit.j1 kj12 l0 l1 a2 t358 t359 t368 (t369 != t359)) else (laws_FnExactUnitCircuit.j1 kj12 l0 l1 a2 t358 t359 t368 true)) = some r := H
    have A48 := Aside0.mk A480
    clear A480
    by_cases c49 : t385 = true
    ·subst c49
     have H1 : (laws_FnExactUnitCircuit.j1 kj12 l0 l1 a2 t358 t359 t368 (t369 != t359)) = some r := by rw [if_pos rfl] at H; exact H
     clear H
     have H := H1
     clear H1
     have H' := Aside0.mk H
     clear H
     obtain ⟨Ao50, co50, eo50⟩ := Kd.R_slice HO_12.out
     subst eo50
     obtain ⟨Ao51, co51, eo51⟩ := Kd.R_slice HO_8.out
     subst eo51
     go_wp2_with (first | (go_at_call 10; (with_reducible refine (laws_eqIntS.calls kj12 _ _ t368 _ _ t358 true _ ?side1 ?side2 ?side3 ?side4 A48.out).mono ?_); (case side1 => repeat (first | exact (Kd.R_reads' HO_12.out).2.2 | (with_reducible refine Kd.C_alloc ?_ _) | (with_reducible refine Kd.C_drewN ?_ _) | (with_reducible refine Kd.C_drew ?_))); (case side2 => exact (Kd.R_reads' HO_12.out).2.1); (case side3 => repeat (first | exact (Kd.R_reads' HO_8.out).2.2 | (with_reducible refine Kd.C_alloc ?_ _) | (with_reducible refine Kd.C_drewN ?_ _) | (with_reducible refine Kd.C_drew ?_))); (case side4 => exact (Kd.R_reads' HO_8.out).2.1); rintro e w' ⟨rfl, ⟨nd, rfl⟩⟩))
     go_meet
     case rel => exact ⟨_, ((t369 != t359)), (by first | rfl | (simp; done) | (simp [*]; done)), H', ⟨by have := HJ12.out; first | omega | exact Nat.le_refl _⟩, ⟨by (with_reducible repeat (first | apply Kd.R_alloc | apply Kd.R_drewN | apply Kd.R_drew)); exact Kd.R_mono HO_8.out (fun _ hk => hk.2.1)⟩, ⟨by (with_reducible repeat (first | apply Kd.R_alloc | apply Kd.R_drewN | apply Kd.R_drew)); exact Kd.R_mono HO_12.out (fun _ hk => hk.1)⟩, ⟨bw HB.out⟩⟩
    replace c49 := Bool.eq_false_iff.mpr c49
    subst c49
    have H1 : (laws_FnExactUnitCircuit.j1 kj12 l0 l1 a2 t358 t359 t368 true) = some r := by rw [if_neg (show ¬ (false = true) by decide)] at H; exact H
    clear H
    have H := H1
    clear H1
    have H' := Aside0.mk H
    clear H
    obtain ⟨Ao52, co52, eo52⟩ := Kd.R_slice HO_12.out
    subst eo52
    obtain ⟨Ao53, co53, eo53⟩ := Kd.R_slice HO_8.out
    subst eo53
    go_wp2_with (first | (go_at_call 10; (with_reducible refine (laws_eqIntS.calls kj12 _ _ t368 _ _ t358 false _ ?side1 ?side2 ?side3 ?side4 A48.out).mono ?_); (case side1 => repeat (first | exact (Kd.R_reads' HO_12.out).2.2 | (with_reducible refine Kd.C_alloc ?_ _) | (with_reducible refine Kd.C_drewN ?_ _) | (with_reducible refine Kd.C_drew ?_))); (case side2 => exact (Kd.R_reads' HO_12.out).2.1); (case side3 => repeat (first | exact (Kd.R_reads' HO_8.out).2.2 | (with_reducible refine Kd.C_alloc ?_ _) | (with_reducible refine Kd.C_drewN ?_ _) | (with_reducible refine Kd.C_drew ?_))); (case side4 => exact (Kd.R_reads' HO_8.out).2.1); rintro e w' ⟨rfl, ⟨nd, rfl⟩⟩))
    go_meet
    case rel => exact ⟨_, (true), (by first | rfl | (simp; done) | (simp [*]; done)), H', ⟨by have := HJ12.out; first | omega | exact Nat.le_refl _⟩, ⟨by (with_reducible repeat (first | apply Kd.R_alloc | apply Kd.R_drewN | apply Kd.R_drew)); exact Kd.R_mono HO_8.out (fun _ hk => hk.2.1)⟩, ⟨by (with_reducible repeat (first | apply Kd.R_alloc | apply Kd.R_drewN | apply Kd.R_drew)); exact Kd.R_mono HO_12.out (fun _ hk => hk.1)⟩, ⟨bw HB.out⟩⟩
   case rest =>
    clear HC39
    try clear c1
    try clear c2
    try clear p2
    try clear c3
    try clear c4
    try clear c4b0
    try clear c4b1
    try clear c5
    try clear c6
    try clear c6b0
    try clear c7
    try clear c8
    try clear c10
    try clear c11
    try clear c12
    try clear c13
    try clear c15
    try clear c16
    try clear c25
    try clear c30
    try clear c33
    try clear c36
    try clear c47
    try clear c47b0
    try clear c49
    try clear p2
    obtain ⟨kq, x84_38, rfl, HA, HJ38, HO_8, HO_12, HB⟩ := hcut
    cases kq with
    | zero => exact absurd HA.out (by simp [laws_FnExactUnitCircuit.j1])
    | succ kj38 =>
     have H := HA.out
     clear HA
     simp only [laws_FnExactUnitCircuit.j1] at H
     by_cases c54 : x84_38 = true
     ·subst c54
      have H1 : (some false) = some r := by rw [if_pos rfl] at H; exact H
      clear H
      have H := H1
      clear H1
      obtain rfl := Option.some.inj H
      go_wp2
      go_ret
      exact ⟨by first | rfl | (simp [errW_none, errW_some] <;> rfl) | (simp [*, errW_none, errW_some] <;> rfl), bw HB.out⟩
     replace c54 := Bool.eq_false_iff.mpr c54
     subst c54
     have H1 : ((laws_markIntS.f kj38 t368 1).bind fun bt386 => ((laws_heldIntS.f kj38 bt386.2 1).bind fun t388 => (if t388 < 0 then (some false) else (if t388 = bt386.1 then ((laws_toJobS.f kj38 l0).bind fun t389 => ((laws_toIntS.f kj38 l1).bind fun t392 => ((impl_UnitCircuit.f kj38 t389 t392 a2).bind fun bt395 => ((laws_eqIntS.f kj38 bt395.1 t358).bind fun t399 => (if t399 = true then (laws_FnExactUnitCircuit.j2 kj38 bt386.2 bt386.1 (bt395.2 != t359)) else (laws_FnExactUnitCircuit.j2 kj38 bt386.2 bt386.1 true)))))) else (some false))))) = some r := by rw [if_neg (show ¬ (false = true) by decide)] at H; exact H
     clear H
     have H := H1
     clear H1
     replace H := Option.bind_eq_some_iff.mp H
     obtain ⟨⟨t386, t387⟩, A550, H⟩ := H
     replace H : ((laws_heldIntS.f kj38 t387 1).bind fun t388 => (if t388 < 0 then (some false) else (if t388 = t386 then ((laws_toJobS.f kj38 l0).bind fun t389 => ((laws_toIntS.f kj38 l1).bind fun t392 => ((impl_UnitCircuit.f kj38 t389 t392 a2).bind fun bt395 => ((laws_eqIntS.f kj38 bt395.1 t358).bind fun t399 => (if t399 = true then (laws_FnExactUnitCircuit.j2 kj38 t387 t386 (bt395.2 != t359)) else (laws_FnExactUnitCircuit.j2 kj38 t387 t386 true)))))) else (some false)))) = some r := H
     have A55 := Aside0.mk A550
     clear A550
     replace H := Option.bind_eq_some_iff.mp H
     obtain ⟨t388, A560, H⟩ := H
     replace H : (if t388 < 0 then (some false) else (if t388 = t386 then ((laws_toJobS.f kj38 l0).bind fun t389 => ((laws_toIntS.f kj38 l1).bind fun t392 => ((impl_UnitCircuit.f kj38 t389 t392 a2).bind fun bt395 => ((laws_eqIntS.f kj38 bt395.1 t358).bind fun t399 => (if t399 = true then (laws_FnExactUnitCircuit.j2 kj38 t387 t386 (bt395.2 != t359)) else (laws_FnExactUnitCircuit.j2 kj38 t387 t386 true)))))) else (some false))) = some r := H
     have A56 := Aside0.mk A560
     clear A560
     by_cases c57 : t388 < 0
     ·rw [if_pos c57] at H
      have c57b0 : decide (t388 < 0) = true := decide_eq_true c57
      clear c57
      obtain rfl := Option.some.inj H
      obtain ⟨Ao58, co58, eo58⟩ := Kd.R_slice HO_12.out
      subst eo58
      go_wp2_with (first | ((with_reducible refine gate_callee (f := 13) rfl ?_); refine goesL_ (some 87) rfl rfl Try.func13 (by kernel_rfl) rfl #[.slice Ao58 t368.length co58, .int .i64 1] rfl (by (try simp only [mA_]); first | done | rfl | (simp only [List.length_drop, List.length_take]; rfl)) ?_; (with_reducible refine (laws_markIntS.calls kj38 (fun k_ => some k_ = (.slice Ao58 t368.length co58 : Value).ownBlock) (.slice Ao58 t368.length co58) t368 1 t386 t387 w _ ?side1 ?side2 A55.out).mono ?_); (case side1 => repeat (first | (with_reducible first | exact HB.out | apply below_alloc | apply pw_below_drewN | apply below_drew1) | exact HB.out)); (case side2 => exact Kd.R_tight rfl HO_12.out); rintro e w59 ⟨rfl, hy0, hb, hkp⟩; refine ⟨_, rfl, ?_⟩; have n0_ := Aside0.mk (Kd.R_mono (ok' := fun k_ => some k_ ≠ (.slice Ao58 t368.length co58 : Value).ownBlock) (Kd.R_keptB (HO_8.out) hkp (fun k_ hk_ hs_ => (hk_) hs_)) (fun k_ hk_ => hk_.1)); have n1_ := Aside0.mk (Kd.R_reok rfl hy0 (fun k_ e_ => HO_12.out.1 k_ e_)); have n2_ := Aside0.mk (hb); replace HO_8 := n0_; replace HO_12 := n1_; replace HB := n2_; clear n0_ n1_ n2_; (try clear hb); (try clear hkp); (try clear hy0)) | ((with_reducible refine gate_callee (f := 14) rfl ?_); refine goesL_ (some 90) rfl rfl Try.func14 (by kernel_rfl) rfl #[.slice Ao58 t387.length co58, .int .i64 1] rfl (by (try simp only [mA_]); first | done | (rw [show t387.length = t368.length from (Kd.R_reads' HO_12.out).1.symm] <;> rfl) | rfl | (simp only [List.length_drop, List.length_take]; rfl)) ?_; (with_reducible refine (laws_heldIntS.calls kj38 _ _ t387 1 t388 _ ?side1 ?side2 A56.out).mono ?_); (case side1 => repeat (first | exact (Kd.R_reads' HO_12.out).2.2 | (with_reducible refine Kd.C_alloc ?_ _) | (with_reducible refine Kd.C_drewN ?_ _) | (with_reducible refine Kd.C_drew ?_))); (case side2 => rw [show t387.length = t368.length from (Kd.R_reads' HO_12.out).1.symm]; exact (Kd.R_reads' HO_12.out).2.1); rintro e w' ⟨rfl, ⟨nd, rfl⟩⟩; refine ⟨_, rfl, ?_⟩))
      go_ret
      exact ⟨by first | rfl | (simp [errW_none, errW_some] <;> rfl) | (simp [*, errW_none, errW_some] <;> rfl), bw HB.out⟩
     rw [if_neg c57] at H
     have c57b0 : decide (t388 < 0) = false := decide_eq_false c57
     clear c57
     by_cases c60 : t388 = t386
     rotate_left
     ·rw [if_neg c60] at H
      have c60b0 : (t388 == t386) = false := beq_eq_false_iff_ne.mpr c60
      have c60b1 : (t388 != t386) = true := bne_iff_ne.mpr c60
      obtain rfl := Option.some.inj H
      obtain ⟨Ao82, co82, eo82⟩ := Kd.R_slice HO_12.out
      subst eo82
      go_wp2_with (first | ((with_reducible refine gate_callee (f := 13) rfl ?_); refine goesL_ (some 87) rfl rfl Try.func13 (by kernel_rfl) rfl #[.slice Ao82 t368.length co82, .int .i64 1] rfl (by (try simp only [mA_]); first | done | rfl | (simp only [List.length_drop, List.length_take]; rfl)) ?_; (with_reducible refine (laws_markIntS.calls kj38 (fun k_ => some k_ = (.slice Ao82 t368.length co82 : Value).ownBlock) (.slice Ao82 t368.length co82) t368 1 t386 t387 w _ ?side1 ?side2 A55.out).mono ?_); (case side1 => repeat (first | (with_reducible first | exact HB.out | apply below_alloc | apply pw_below_drewN | apply below_drew1) | exact HB.out)); (case side2 => exact Kd.R_tight rfl HO_12.out); rintro e w83 ⟨rfl, hy0, hb, hkp⟩; refine ⟨_, rfl, ?_⟩; have n0_ := Aside0.mk (Kd.R_mono (ok' := fun k_ => some k_ ≠ (.slice Ao82 t368.length co82 : Value).ownBlock) (Kd.R_keptB (HO_8.out) hkp (fun k_ hk_ hs_ => (hk_) hs_)) (fun k_ hk_ => hk_.1)); have n1_ := Aside0.mk (Kd.R_reok rfl hy0 (fun k_ e_ => HO_12.out.1 k_ e_)); have n2_ := Aside0.mk (hb); replace HO_8 := n0_; replace HO_12 := n1_; replace HB := n2_; clear n0_ n1_ n2_; (try clear hb); (try clear hkp); (try clear hy0)) | ((with_reducible refine gate_callee (f := 14) rfl ?_); refine goesL_ (some 90) rfl rfl Try.func14 (by kernel_rfl) rfl #[.slice Ao82 t387.length co82, .int .i64 1] rfl (by (try simp only [mA_]); first | done | (rw [show t387.length = t368.length from (Kd.R_reads' HO_12.out).1.symm] <;> rfl) | rfl | (simp only [List.length_drop, List.length_take]; rfl)) ?_; (with_reducible refine (laws_heldIntS.calls kj38 _ _ t387 1 t388 _ ?side1 ?side2 A56.out).mono ?_); (case side1 => repeat (first | exact (Kd.R_reads' HO_12.out).2.2 | (with_reducible refine Kd.C_alloc ?_ _) | (with_reducible refine Kd.C_drewN ?_ _) | (with_reducible refine Kd.C_drew ?_))); (case side2 => rw [show t387.length = t368.length from (Kd.R_reads' HO_12.out).1.symm]; exact (Kd.R_reads' HO_12.out).2.1); rintro e w' ⟨rfl, ⟨nd, rfl⟩⟩; refine ⟨_, rfl, ?_⟩))
      go_ret
      exact ⟨by first | rfl | (simp [errW_none, errW_some] <;> rfl) | (simp [*, errW_none, errW_some] <;> rfl), bw HB.out⟩
     rw [if_pos c60] at H
     have c60b0 : (t388 == t386) = true := beq_iff_eq.mpr c60
     have c60b1 : (t388 != t386) = false := bne_eq_false_iff_eq.mpr c60
     clear c60
     replace H := Option.bind_eq_some_iff.mp H
     obtain ⟨t389, A610, H⟩ := H
     replace H : ((laws_toIntS.f kj38 l1).bind fun t392 => ((impl_UnitCircuit.f kj38 t389 t392 a2).bind fun bt395 => ((laws_eqIntS.f kj38 bt395.1 t358).bind fun t399 => (if t399 = true then (laws_FnExactUnitCircuit.j2 kj38 t387 t386 (bt395.2 != t359)) else (laws_FnExactUnitCircuit.j2 kj38 t387 t386 true))))) = some r := H
     have A61 := Aside0.mk A610
     clear A610
     replace H := Option.bind_eq_some_iff.mp H
     obtain ⟨t392, A620, H⟩ := H
     replace H : ((impl_UnitCircuit.f kj38 t389 t392 a2).bind fun bt395 => ((laws_eqIntS.f kj38 bt395.1 t358).bind fun t399 => (if t399 = true then (laws_FnExactUnitCircuit.j2 kj38 t387 t386 (bt395.2 != t359)) else (laws_FnExactUnitCircuit.j2 kj38 t387 t386 true)))) = some r := H
     have A62 := Aside0.mk A620
     clear A620
     replace H := Option.bind_eq_some_iff.mp H
     obtain ⟨⟨t395, t396⟩, A630, H⟩ := H
     replace H : ((laws_eqIntS.f kj38 t395 t358).bind fun t399 => (if t399 = true then (laws_FnExactUnitCircuit.j2 kj38 t387 t386 (t396 != t359)) else (laws_FnExactUnitCircuit.j2 kj38 t387 t386 true))) = some r := H
     have A63 := Aside0.mk A630
     clear A630
     have HC64 := Aside0.mk H
     clear H
     obtain ⟨Ao65, co65, eo65⟩ := Kd.R_slice HO_12.out
     subst eo65
     go_upto_region 31 with (first | ((with_reducible refine gate_callee (f := 13) rfl ?_); refine goesL_ (some 87) rfl rfl Try.func13 (by kernel_rfl) rfl #[.slice Ao65 t368.length co65, .int .i64 1] rfl (by (try simp only [mA_]); first | done | rfl | (simp only [List.length_drop, List.length_take]; rfl)) ?_; (with_reducible refine (laws_markIntS.calls kj38 (fun k_ => some k_ = (.slice Ao65 t368.length co65 : Value).ownBlock) (.slice Ao65 t368.length co65) t368 1 t386 t387 w _ ?side1 ?side2 A55.out).mono ?_); (case side1 => repeat (first | (with_reducible first | exact HB.out | apply below_alloc | apply pw_below_drewN | apply below_drew1) | exact HB.out)); (case side2 => exact Kd.R_tight rfl HO_12.out); rintro e w66 ⟨rfl, hy0, hb, hkp⟩; refine ⟨_, rfl, ?_⟩; have n0_ := Aside0.mk (Kd.R_mono (ok' := fun k_ => some k_ ≠ (.slice Ao65 t368.length co65 : Value).ownBlock) (Kd.R_keptB (HO_8.out) hkp (fun k_ hk_ hs_ => (hk_) hs_)) (fun k_ hk_ => hk_.1)); have n1_ := Aside0.mk (Kd.R_reok rfl hy0 (fun k_ e_ => HO_12.out.1 k_ e_)); have n2_ := Aside0.mk (hb); replace HO_8 := n0_; replace HO_12 := n1_; replace HB := n2_; clear n0_ n1_ n2_; (try clear hb); (try clear hkp); (try clear hy0)) | ((with_reducible refine gate_callee (f := 14) rfl ?_); refine goesL_ (some 90) rfl rfl Try.func14 (by kernel_rfl) rfl #[.slice Ao65 t387.length co65, .int .i64 1] rfl (by (try simp only [mA_]); first | done | (rw [show t387.length = t368.length from (Kd.R_reads' HO_12.out).1.symm] <;> rfl) | rfl | (simp only [List.length_drop, List.length_take]; rfl)) ?_; (with_reducible refine (laws_heldIntS.calls kj38 _ _ t387 1 t388 _ ?side1 ?side2 A56.out).mono ?_); (case side1 => repeat (first | exact (Kd.R_reads' HO_12.out).2.2 | (with_reducible refine Kd.C_alloc ?_ _) | (with_reducible refine Kd.C_drewN ?_ _) | (with_reducible refine Kd.C_drew ?_))); (case side2 => rw [show t387.length = t368.length from (Kd.R_reads' HO_12.out).1.symm]; exact (Kd.R_reads' HO_12.out).2.1); rintro e w' ⟨rfl, ⟨nd, rfl⟩⟩; refine ⟨_, rfl, ?_⟩) | ((with_reducible refine gate_callee (f := 7) rfl ?_); refine goesL_ (some 98) rfl rfl Try.func7 (by kernel_rfl) rfl #[.slice A0 l0.length c0] rfl (by (try simp only [mA_]); first | done | rfl | (simp only [List.length_drop, List.length_take]; rfl)) ?_; (with_reducible refine (laws_toJobS.calls kj38 _ _ l0 t389 _ ?side1 ?side2 A61.out).mono ?_); (case side1 => repeat (first | exact (Kd.C_below HR0.out (bw HB.out)) | (with_reducible refine Kd.C_alloc ?_ _) | (with_reducible refine Kd.C_drewN ?_ _) | (with_reducible refine Kd.C_drew ?_))); (case side2 => exact HC0.out); rintro e w67 ⟨v390, rfl, ho0, hb⟩; refine ⟨_, rfl, ?_⟩; have n0_ := Aside0.mk (Kd.R_below (bR HO_8.out) hb); have n1_ := Aside0.mk (Kd.R_below (bR HO_12.out) hb); have n2_ := Aside0.mk (Kd.R_lower ho0 (below_size (bw HB.out))); have n3_ := Aside0.mk (below_step (bw HB.out) hb); replace HO_8 := n0_; replace HO_12 := n1_; have HO391 := n2_; replace HB := n3_; clear n0_ n1_ n2_ n3_; (try clear hb); (try clear hb2); (try clear hk); (try clear hi); (try clear ho0)) | ((with_reducible refine gate_callee (f := 8) rfl ?_); refine goesL_ (some 100) rfl rfl Try.func8 (by kernel_rfl) rfl #[.slice A1 l1.length c1] rfl (by (try simp only [mA_]); first | done | rfl | (simp only [List.length_drop, List.length_take]; rfl)) ?_; (with_reducible refine (laws_toIntS.calls kj38 _ _ l1 t392 _ ?side1 ?side2 A62.out).mono ?_); (case side1 => first | exact bC HR1.out HB.out | exact Kd.C_below HR1.out HB.out); (case side2 => exact HC1.out); rintro e w68 ⟨v393, rfl, ho0, hb⟩; refine ⟨_, rfl, ?_⟩; have n0_ := Aside0.mk (Kd.R_elder' (bR HO_8.out) (Kd.R_base ho0) hb); have n1_ := Aside0.mk (Kd.R_elder' (bR HO_12.out) (Kd.R_base ho0) hb); have n2_ := Aside0.mk (Kd.R_below (bR HO391.out) hb); have n3_ := Aside0.mk (Kd.R_lower (Kd.R_new' (Kd.R_new' ho0 (Kd.R_lt (bR HO_8.out))) (Kd.R_lt (bR HO_12.out))) (below_size (bw HB.out))); have n4_ := Aside0.mk (below_step (bw HB.out) hb); replace HO_8 := n0_; replace HO_12 := n1_; replace HO391 := n2_; have HO394 := n3_; replace HB := n4_; clear n0_ n1_ n2_ n3_ n4_; (try clear hb); (try clear hb2); (try clear hk); (try clear hi); (try clear ho0); obtain ⟨Ao69, co69, eo69⟩ := Kd.R_slice HO391.out; subst eo69; obtain ⟨Ao70, co70, eo70⟩ := Kd.R_slice HO394.out; subst eo70) | ((with_reducible refine gate_callee (f := 16) rfl ?_); refine goesL_ (some 102) rfl rfl Try.func16 (by kernel_rfl) rfl #[.slice Ao69 t389.length co69, .slice Ao70 t392.length co70, .int .i64 a2] rfl (by (try simp only [mA_]); first | done | rfl | (simp only [List.length_drop, List.length_take]; rfl)) ?_; (with_reducible refine (impl_UnitCircuit.calls kj38 _ _ t389 _ _ t392 a2 t395 t396 _ ?side1 ?side2 ?side3 ?side4 A63.out).mono ?_); (case side1 => repeat (first | exact (Kd.R_reads' HO391.out).2.2 | (with_reducible refine Kd.C_alloc ?_ _) | (with_reducible refine Kd.C_drewN ?_ _) | (with_reducible refine Kd.C_drew ?_))); (case side2 => exact (Kd.R_reads' HO391.out).2.1); (case side3 => repeat (first | exact (Kd.R_reads' HO394.out).2.2 | (with_reducible refine Kd.C_alloc ?_ _) | (with_reducible refine Kd.C_drewN ?_ _) | (with_reducible refine Kd.C_drew ?_))); (case side4 => exact (Kd.R_reads' HO394.out).2.1); rintro e w71 ⟨v397, rfl, ho0, hb⟩; refine ⟨_, rfl, ?_⟩; have n0_ := Aside0.mk (Kd.R_elder' (bR HO_8.out) (Kd.R_base ho0) hb); have n1_ := Aside0.mk (Kd.R_elder' (bR HO_12.out) (Kd.R_base ho0) hb); have n2_ := Aside0.mk (Kd.R_below (bR HO391.out) hb); have n3_ := Aside0.mk (Kd.R_elder' (bR HO394.out) (Kd.R_base ho0) hb); have n4_ := Aside0.mk (Kd.R_lower (Kd.R_new' (Kd.R_new' (Kd.R_new' ho0 (Kd.R_lt (bR HO_8.out))) (Kd.R_lt (bR HO_12.out))) (Kd.R_lt (bR HO394.out))) (below_size (bw HB.out))); have n5_ := Aside0.mk (below_step (bw HB.out) hb); replace HO_8 := n0_; replace HO_12 := n1_; replace HO391 := n2_; replace HO394 := n3_; have HO398 := n4_; replace HB := n5_; clear n0_ n1_ n2_ n3_ n4_ n5_; (try clear hb); (try clear hb2); (try clear hk); (try clear hi); (try clear ho0)))
     (try simp only [Act.put, List.setIfInBounds_toArray, List.set_cons_zero, List.set_cons_succ])
     go_cut [113] (fun v113 wc => ∃ (kq : Nat) (x113_63 : Bool), v113 = .bool x113_63 ∧ Aside0 (laws_FnExactUnitCircuit.j2 kq t387 t386 x113_63 = some r) ∧ Aside0 (kq ≤ kj38) ∧ Aside0 (Kd.R (Kd.int .i64) 3 wc w.heap.size (fun _ => True) (.slice Ao65 t368.length co65) t387) ∧ Aside0 (Below w.heap.size w wc))
     case first =>
      have H := HC64.out
      clear HC64
      replace H := Option.bind_eq_some_iff.mp H
      obtain ⟨t399, A720, H⟩ := H
      replace H : (if t399 = true then (laws_FnExactUnitCircuit.j2 kj38 t387 t386 (t396 != t359)) else (laws_FnExactUnitCircuit.j2 kj38 t387 t386 true)) = some r := H
      have A72 := Aside0.mk A720
      clear A720
      by_cases c73 : t399 = true
      ·subst c73
       have H1 : (laws_FnExactUnitCircuit.j2 kj38 t387 t386 (t396 != t359)) = some r := by rw [if_pos rfl] at H; exact H
       clear H
       have H := H1
       clear H1
       have H' := Aside0.mk H
       clear H
       obtain ⟨Ao74, co74, eo74⟩ := Kd.R_slice HO398.out
       subst eo74
       obtain ⟨Ao75, co75, eo75⟩ := Kd.R_slice HO_8.out
       subst eo75
       go_wp2_with (first | ((with_reducible refine gate_callee (f := 10) rfl ?_); refine goesL_ (some 107) rfl rfl Try.func10 (by kernel_rfl) rfl #[.slice Ao74 t395.length co74, .slice Ao75 t358.length co75] rfl (by (try simp only [mA_]); first | done | rfl | (simp only [List.length_drop, List.length_take]; rfl)) ?_; (with_reducible refine (laws_eqIntS.calls kj38 _ _ t395 _ _ t358 true _ ?side1 ?side2 ?side3 ?side4 A72.out).mono ?_); (case side1 => repeat (first | exact (Kd.R_reads' HO398.out).2.2 | (with_reducible refine Kd.C_alloc ?_ _) | (with_reducible refine Kd.C_drewN ?_ _) | (with_reducible refine Kd.C_drew ?_))); (case side2 => exact (Kd.R_reads' HO398.out).2.1); (case side3 => repeat (first | exact (Kd.R_reads' HO_8.out).2.2 | (with_reducible refine Kd.C_alloc ?_ _) | (with_reducible refine Kd.C_drewN ?_ _) | (with_reducible refine Kd.C_drew ?_))); (case side4 => exact (Kd.R_reads' HO_8.out).2.1); rintro e w' ⟨rfl, ⟨nd, rfl⟩⟩; refine ⟨_, rfl, ?_⟩))
       go_meet
       case rel => exact ⟨_, ((t396 != t359)), (by first | rfl | (simp; done) | (simp [*]; done)), H', ⟨by have := HJ12.out; have := HJ38.out; first | omega | exact Nat.le_refl _⟩, ⟨by (with_reducible repeat (first | apply Kd.R_alloc | apply Kd.R_drewN | apply Kd.R_drew)); exact Kd.R_mono HO_12.out (fun _ hk => trivial)⟩, ⟨bw HB.out⟩⟩
      replace c73 := Bool.eq_false_iff.mpr c73
      subst c73
      have H1 : (laws_FnExactUnitCircuit.j2 kj38 t387 t386 true) = some r := by rw [if_neg (show ¬ (false = true) by decide)] at H; exact H
      clear H
      have H := H1
      clear H1
      have H' := Aside0.mk H
      clear H
      obtain ⟨Ao76, co76, eo76⟩ := Kd.R_slice HO398.out
      subst eo76
      obtain ⟨Ao77, co77, eo77⟩ := Kd.R_slice HO_8.out
      subst eo77
      go_wp2_with (first | ((with_reducible refine gate_callee (f := 10) rfl ?_); refine goesL_ (some 107) rfl rfl Try.func10 (by kernel_rfl) rfl #[.slice Ao76 t395.length co76, .slice Ao77 t358.length co77] rfl (by (try simp only [mA_]); first | done | rfl | (simp only [List.length_drop, List.length_take]; rfl)) ?_; (with_reducible refine (laws_eqIntS.calls kj38 _ _ t395 _ _ t358 false _ ?side1 ?side2 ?side3 ?side4 A72.out).mono ?_); (case side1 => repeat (first | exact (Kd.R_reads' HO398.out).2.2 | (with_reducible refine Kd.C_alloc ?_ _) | (with_reducible refine Kd.C_drewN ?_ _) | (with_reducible refine Kd.C_drew ?_))); (case side2 => exact (Kd.R_reads' HO398.out).2.1); (case side3 => repeat (first | exact (Kd.R_reads' HO_8.out).2.2 | (with_reducible refine Kd.C_alloc ?_ _) | (with_reducible refine Kd.C_drewN ?_ _) | (with_reducible refine Kd.C_drew ?_))); (case side4 => exact (Kd.R_reads' HO_8.out).2.1); rintro e w' ⟨rfl, ⟨nd, rfl⟩⟩; refine ⟨_, rfl, ?_⟩))
      go_meet
      case rel => exact ⟨_, (true), (by first | rfl | (simp; done) | (simp [*]; done)), H', ⟨by have := HJ12.out; have := HJ38.out; first | omega | exact Nat.le_refl _⟩, ⟨by (with_reducible repeat (first | apply Kd.R_alloc | apply Kd.R_drewN | apply Kd.R_drew)); exact Kd.R_mono HO_12.out (fun _ hk => trivial)⟩, ⟨bw HB.out⟩⟩
     case rest =>
      clear HC64
      try clear c1
      try clear c2
      try clear p2
      try clear c3
      try clear c4
      try clear c4b0
      try clear c4b1
      try clear c5
      try clear c6
      try clear c6b0
      try clear c7
      try clear c8
      try clear c10
      try clear c11
      try clear c12
      try clear c13
      try clear c14
      try clear c15
      try clear c16
      try clear c25
      try clear c30
      try clear c33
      try clear c36
      try clear c47
      try clear c47b0
      try clear c49
      try clear c54
      try clear c57
      try clear c57b0
      try clear c60
      try clear c60b0
      try clear c60b1
      try clear c73
      try clear p2
      obtain ⟨kq, x113_63, rfl, HA, HJ63, HO_12, HB⟩ := hcut
      have hl12_63 := (Kd.R_reads' HO_12.out).1
      rw [hl12_63] at HO_12
      (try simp only [hl12_63])
      cases kq with
      | zero => exact absurd HA.out (by simp [laws_FnExactUnitCircuit.j2])
      | succ kj63 =>
       have H := HA.out
       clear HA
       simp only [laws_FnExactUnitCircuit.j2] at H
       by_cases c78 : x113_63 = true
       ·subst c78
        have H1 : (some false) = some r := by rw [if_pos rfl] at H; exact H
        clear H
        have H := H1
        clear H1
        obtain rfl := Option.some.inj H
        go_wp2
        go_ret
        exact ⟨by first | rfl | (simp [errW_none, errW_some] <;> rfl) | (simp [*, errW_none, errW_some] <;> rfl), bw HB.out⟩
       replace c78 := Bool.eq_false_iff.mpr c78
       subst c78
       have H1 : ((laws_heldIntS.f kj63 t387 1).bind fun t400 => (if t400 < 0 then (some false) else (if t400 = t386 then (some true) else (some false)))) = some r := by rw [if_neg (show ¬ (false = true) by decide)] at H; exact H
       clear H
       have H := H1
       clear H1
       replace H := Option.bind_eq_some_iff.mp H
       obtain ⟨t400, A790, H⟩ := H
       replace H : (if t400 < 0 then (some false) else (if t400 = t386 then (some true) else (some false))) = some r := H
       have A79 := Aside0.mk A790
       clear A790
       by_cases c80 : t400 < 0
       ·rw [if_pos c80] at H
        have c80b0 : decide (t400 < 0) = true := decide_eq_true c80
        clear c80
        obtain rfl := Option.some.inj H
        go_wp2_with (first | ((with_reducible refine gate_callee (f := 14) rfl ?_); refine goesL_ (some 116) rfl rfl Try.func14 (by kernel_rfl) rfl #[.slice Ao65 t387.length co65, .int .i64 1] rfl (by (try simp only [mA_]); first | done | rfl | (simp only [List.length_drop, List.length_take]; rfl)) ?_; (with_reducible refine (laws_heldIntS.calls kj63 _ _ t387 1 t400 _ ?side1 ?side2 A79.out).mono ?_); (case side1 => repeat (first | exact (Kd.R_reads' HO_12.out).2.2 | (with_reducible refine Kd.C_alloc ?_ _) | (with_reducible refine Kd.C_drewN ?_ _) | (with_reducible refine Kd.C_drew ?_))); (case side2 => exact (Kd.R_reads' HO_12.out).2.1); rintro e w' ⟨rfl, ⟨nd, rfl⟩⟩; refine ⟨_, rfl, ?_⟩))
        go_ret
        exact ⟨by first | rfl | (simp [errW_none, errW_some] <;> rfl) | (simp [*, errW_none, errW_some] <;> rfl), bw HB.out⟩
       rw [if_neg c80] at H
       have c80b0 : decide (t400 < 0) = false := decide_eq_false c80
       clear c80
       by_cases c81 : t400 = t386
       rotate_left
       ·rw [if_neg c81] at H
        have c81b0 : (t400 == t386) = false := beq_eq_false_iff_ne.mpr c81
        have c81b1 : (t400 != t386) = true := bne_iff_ne.mpr c81
        obtain rfl := Option.some.inj H
        go_wp2_with (first | ((with_reducible refine gate_callee (f := 14) rfl ?_); refine goesL_ (some 116) rfl rfl Try.func14 (by kernel_rfl) rfl #[.slice Ao65 t387.length co65, .int .i64 1] rfl (by (try simp only [mA_]); first | done | rfl | (simp only [List.length_drop, List.length_take]; rfl)) ?_; (with_reducible refine (laws_heldIntS.calls kj63 _ _ t387 1 t400 _ ?side1 ?side2 A79.out).mono ?_); (case side1 => repeat (first | exact (Kd.R_reads' HO_12.out).2.2 | (with_reducible refine Kd.C_alloc ?_ _) | (with_reducible refine Kd.C_drewN ?_ _) | (with_reducible refine Kd.C_drew ?_))); (case side2 => exact (Kd.R_reads' HO_12.out).2.1); rintro e w' ⟨rfl, ⟨nd, rfl⟩⟩; refine ⟨_, rfl, ?_⟩))
        go_ret
        exact ⟨by first | rfl | (simp [errW_none, errW_some] <;> rfl) | (simp [*, errW_none, errW_some] <;> rfl), bw HB.out⟩
       rw [if_pos c81] at H
       have c81b0 : (t400 == t386) = true := beq_iff_eq.mpr c81
       have c81b1 : (t400 != t386) = false := bne_eq_false_iff_eq.mpr c81
       clear c81
       obtain rfl := Option.some.inj H
       go_wp2_with (first | ((with_reducible refine gate_callee (f := 14) rfl ?_); refine goesL_ (some 116) rfl rfl Try.func14 (by kernel_rfl) rfl #[.slice Ao65 t387.length co65, .int .i64 1] rfl (by (try simp only [mA_]); first | done | rfl | (simp only [List.length_drop, List.length_take]; rfl)) ?_; (with_reducible refine (laws_heldIntS.calls kj63 _ _ t387 1 t400 _ ?side1 ?side2 A79.out).mono ?_); (case side1 => repeat (first | exact (Kd.R_reads' HO_12.out).2.2 | (with_reducible refine Kd.C_alloc ?_ _) | (with_reducible refine Kd.C_drewN ?_ _) | (with_reducible refine Kd.C_drew ?_))); (case side2 => exact (Kd.R_reads' HO_12.out).2.1); rintro e w' ⟨rfl, ⟨nd, rfl⟩⟩; refine ⟨_, rfl, ?_⟩))
       go_ret
       exact ⟨by first | rfl | (simp [errW_none, errW_some] <;> rfl) | (simp [*, errW_none, errW_some] <;> rfl), bw HB.out⟩

end Go.Proofs.Ytcohgnafealcoaa.X
