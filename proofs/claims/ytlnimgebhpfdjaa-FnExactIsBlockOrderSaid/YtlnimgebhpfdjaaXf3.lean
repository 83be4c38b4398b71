-- Written by a program of this session (wip/gen/xp.py, over the kit's printer). Not trusted: Lean checks it.
import Derived.Test.YtlnimgebhpfdjaaX0
import Derived.Test.YtlnimgebhpfdjaaXf10
import Derived.Test.YtlnimgebhpfdjaaXf4
import Derived.Test.YtlnimgebhpfdjaaXf6
namespace Go.Proofs.Ytlnimgebhpfdjaa.X
open Go.RowKit Go.Proofs.YtlnimgebhpfdjaaW.PrintWords Go.Proofs.YtlnimgebhpfdjaaW.PrintLast Go.Proofs.YtlnimgebhpfdjaaW.PrintMore
attribute [local go_sem] max2_int min2_int max_two min_two max_three min_three max_four min_four   -- for this text's walks alone
set_option linter.unusedVariables false
set_option linter.unusedSimpArgs false

/-! ### laws_FnExactIsBlockOrder: function 3 -/
def laws_FnExactIsBlockOrder.j0 : Nat → List (S46) → List (S47) → List Int → List (S44) → List (S47) → List Int → Bool → Option (Bool)
 | 0, _, _, _, _, _, _, _ => none
 | k + 1, x0, x1, x2, x10, x11, x12, x58 => if x58 = true then (some false) else ((laws_toJobS.f k x0).bind fun t382 => ((laws_eqJobS.f k x10 t382).bind fun t385 => (if t385 = true then ((laws_toIntA2S.f k x1).bind fun t386 => ((laws_eqIntA2S.f k x11 t386).bind fun t389 => (if t389 = true then ((laws_toIntS.f k x2).bind fun t390 => ((laws_eqIntS.f k x12 t390).bind fun t393 => (if t393 = true then (some true) else (some false)))) else (some false)))) else (some false))))
def laws_FnExactIsBlockOrder.f (k : Nat) (l0 : List (S46)) (l1 : List (S47)) (l2 : List Int) : Option (Bool) := if (l2.length : Int) > 1048576 then (some true) else ((laws_szJobS.f l0 1048576).bind fun t358 => (if t358 < 0 then (some true) else ((laws_szIntA2S.f l1 t358).bind fun t359 => (if t359 < 0 then (some true) else ((laws_toJobS.f k l0).bind fun t360 => ((laws_toIntA2S.f k l1).bind fun t363 => ((laws_toIntS.f k l2).bind fun t366 => ((spec_IsBlockOrder.f k t360 t363 t366).bind fun bt369 => ((laws_toJobS.f k l0).bind fun t371 => ((laws_toIntA2S.f k l1).bind fun t374 => ((laws_toIntS.f k l2).bind fun t377 => ((impl_IsBlockOrder.f k t371 t374 t377).bind fun bt380 => (if (bt380.1 != bt369.1) = true then (laws_FnExactIsBlockOrder.j0 k l0 l1 l2 t371 t374 t377 true) else (laws_FnExactIsBlockOrder.j0 k l0 l1 l2 t371 t374 t377 (bt380.2 != bt369.2)))))))))))))))
theorem laws_FnExactIsBlockOrder.mono_l : ∀ k, (∀ y0 y1 y2 y3 y4 y5 y6, LeO (laws_FnExactIsBlockOrder.j0 k y0 y1 y2 y3 y4 y5 y6) (laws_FnExactIsBlockOrder.j0 (k + 1) y0 y1 y2 y3 y4 y5 y6))
 | 0 => fun _ _ _ _ _ _ _ r h => by simp [laws_FnExactIsBlockOrder.j0] at h
 | k + 1 => by
  have ih0 := laws_FnExactIsBlockOrder.mono_l k
  ·intro y0 y1 y2 y3 y4 y5 y6
   unfold laws_FnExactIsBlockOrder.j0
   repeat' first
   | (with_reducible exact ih0 _ _ _ _ _ _ _)
   | (with_reducible exact impl_IsBlockOrder.mono _ _ _ _)
   | (with_reducible exact laws_eqIntA2S.mono _ _ _)
   | (with_reducible exact laws_eqIntS.mono _ _ _)
   | (with_reducible exact laws_eqJobS.mono _ _ _)
   | (with_reducible exact laws_toIntA2S.mono _ _)
   | (with_reducible exact laws_toIntS.mono _ _)
   | (with_reducible exact laws_toJobS.mono _ _)
   | (with_reducible exact spec_IsBlockOrder.mono _ _ _ _)
   | (with_reducible exact LeO.refl _)
   | (with_reducible exact LeO.none _)
   | (with_reducible refine LeO.ite ?_ ?_)
   | (with_reducible refine LeO.bind ?_ (fun _ => ?_))
   | exact ih0 _ _ _ _ _ _ _
   | exact impl_IsBlockOrder.mono _ _ _ _
   | exact laws_eqIntA2S.mono _ _ _
   | exact laws_eqIntS.mono _ _ _
   | exact laws_eqJobS.mono _ _ _
   | exact laws_toIntA2S.mono _ _
   | exact laws_toIntS.mono _ _
   | exact laws_toJobS.mono _ _
   | exact spec_IsBlockOrder.mono _ _ _ _
   | exact LeO.none _
   | refine LeO.ite ?_ ?_
   | refine LeO.bind ?_ (fun _ => ?_)
theorem laws_FnExactIsBlockOrder.mono : ∀ a0 a1 a2 k, LeO (laws_FnExactIsBlockOrder.f k a0 a1 a2) (laws_FnExactIsBlockOrder.f (k + 1) a0 a1 a2) := by
 intro a0 a1 a2 k
 have ih0 := laws_FnExactIsBlockOrder.mono_l k
 unfold laws_FnExactIsBlockOrder.f
 repeat' first
   | (with_reducible exact ih0 _ _ _ _ _ _ _)
   | (with_reducible exact impl_IsBlockOrder.mono _ _ _ _)
   | (with_reducible exact laws_eqIntA2S.mono _ _ _)
   | (with_reducible exact laws_eqIntS.mono _ _ _)
   | (with_reducible exact laws_eqJobS.mono _ _ _)
   | (with_reducible exact laws_toIntA2S.mono _ _)
   | (with_reducible exact laws_toIntS.mono _ _)
   | (with_reducible exact laws_toJobS.mono _ _)
   | (with_reducible exact spec_IsBlockOrder.mono _ _ _ _)
   | (with_reducible exact LeO.refl _)
   | (with_reducible exact LeO.none _)
   | (with_reducible refine LeO.ite ?_ ?_)
   | (with_reducible refine LeO.bind ?_ (fun _ => ?_))
   | exact ih0 _ _ _ _ _ _ _
   | exact impl_IsBlockOrder.mono _ _ _ _
   | exact laws_eqIntA2S.mono _ _ _
   | exact laws_eqIntS.mono _ _ _
   | exact laws_eqJobS.mono _ _ _
   | exact laws_toIntA2S.mono _ _
   | exact laws_toIntS.mono _ _
   | exact laws_toJobS.mono _ _
   | exact spec_IsBlockOrder.mono _ _ _ _
   | exact LeO.none _
   | refine LeO.ite ?_ ?_
   | refine LeO.bind ?_ (fun _ => ?_)
set_option maxHeartbeats 8000000 in
set_option maxRecDepth 100000 in
theorem laws_FnExactIsBlockOrder.calls (k : Nat) (A0 : Option Addr) (c0 : Nat) (l0 : List (S46)) (A1 : Option Addr) (c1 : Nat) (l1 : List (S47)) (A2 : Option Addr) (c2 : Nat) (l2 : List Int) (r : Bool) (w : World) (hr0 : Kd.C k46 w A0 l0.length l0) (hc0 : l0.length ≤ c0) (hr1 : Kd.C k47 w A1 l1.length l1) (hc1 : l1.length ≤ c1) (hr2 : Kd.C (Kd.int .i64) w A2 l2.length l2) (hc2 : l2.length ≤ c2) (h : laws_FnExactIsBlockOrder.f k l0 l1 l2 = some r) :
  Calls Try.prog 3 #[.slice A0 l0.length c0, .slice A1 l1.length c1, .slice A2 l2.length c2] w fun e w' => e = .returned (.bool r) ∧ Below w.heap.size w w' := by
 have HR0 := Aside0.mk hr0
 have HC0 := Aside0.mk hc0
 clear hr0 hc0
 have HR1 := Aside0.mk hr1
 have HC1 := Aside0.mk hc1
 clear hr1 hc1
 have HR2 := Aside0.mk hr2
 have HC2 := Aside0.mk hc2
 clear hr2 hc2
 have HB := Aside0.mk (Below.refl w.heap.size w)
 have H : (if (l2.length : Int) > 1048576 then (some true) else ((laws_szJobS.f l0 1048576).bind fun t358 => (if t358 < 0 then (some true) else ((laws_szIntA2S.f l1 t358).bind fun t359 => (if t359 < 0 then (some true) else ((laws_toJobS.f k l0).bind fun t360 => ((laws_toIntA2S.f k l1).bind fun t363 => ((laws_toIntS.f k l2).bind fun t366 => ((spec_IsBlockOrder.f k t360 t363 t366).bind fun bt369 => ((laws_toJobS.f k l0).bind fun t371 => ((laws_toIntA2S.f k l1).bind fun t374 => ((laws_toIntS.f k l2).bind fun t377 => ((impl_IsBlockOrder.f k t371 t374 t377).bind fun bt380 => (if (bt380.1 != bt369.1) = true then (laws_FnExactIsBlockOrder.j0 k l0 l1 l2 t371 t374 t377 true) else (laws_FnExactIsBlockOrder.j0 k l0 l1 l2 t371 t374 t377 (bt380.2 != bt369.2)))))))))))))))) = some r := h
 clear h
 by_cases c4 : (l2.length : Int) > 1048576
 ·rw [if_pos c4] at H
  have c4b0 : decide (1048576 < (l2.length : Int)) = true := decide_eq_true c4
  have c4b1 : decide (1048576 < l2.length) = true := decide_eq_true (by omega)
  clear c4
  obtain rfl := Option.some.inj H
  go_enter Try.func3, Try.ntmps3
  go_wp2
  go_ret
  exact ⟨by first | rfl | (simp [errW_none, errW_some] <;> rfl) | (simp [*, errW_none, errW_some] <;> rfl), bw HB.out⟩
 rw [if_neg c4] at H
 have c4b0 : decide (1048576 < (l2.length : Int)) = false := decide_eq_false c4
 have c4b1 : decide (1048576 < l2.length) = false := decide_eq_false (by omega)
 clear c4
 replace H := Option.bind_eq_some_iff.mp H
 obtain ⟨t358, A50, H⟩ := H
 replace H : (if t358 < 0 then (some true) else ((laws_szIntA2S.f l1 t358).bind fun t359 => (if t359 < 0 then (some true) else ((laws_toJobS.f k l0).bind fun t360 => ((laws_toIntA2S.f k l1).bind fun t363 => ((laws_toIntS.f k l2).bind fun t366 => ((spec_IsBlockOrder.f k t360 t363 t366).bind fun bt369 => ((laws_toJobS.f k l0).bind fun t371 => ((laws_toIntA2S.f k l1).bind fun t374 => ((laws_toIntS.f k l2).bind fun t377 => ((impl_IsBlockOrder.f k t371 t374 t377).bind fun bt380 => (if (bt380.1 != bt369.1) = true then (laws_FnExactIsBlockOrder.j0 k l0 l1 l2 t371 t374 t377 true) else (laws_FnExactIsBlockOrder.j0 k l0 l1 l2 t371 t374 t377 (bt380.2 != bt369.2)))))))))))))) = some r := H
 have A5 := Aside0.mk A50
 clear A50
 by_cases c6 : t358 < 0
 ·rw [if_pos c6] at H
  have c6b0 : decide (t358 < 0) = true := decide_eq_true c6
  clear c6
  obtain rfl := Option.some.inj H
  go_enter Try.func3, Try.ntmps3
  go_wp2_with (first | ((with_reducible refine gate_callee (f := 4) rfl ?_); refine goesL_ (some 20) rfl rfl Try.func4 (by kernel_rfl) rfl #[.slice A0 l0.length c0, .int .i64 1048576] rfl (by (try simp only [mA_]); first | done | rfl | (simp only [List.length_drop, List.length_take]; rfl)) ?_; (with_reducible refine (laws_szJobS.calls _ _ l0 1048576 t358 _ ?side1 ?side2 A5.out).mono ?_); (case side1 => repeat (first | exact HR0.out | (with_reducible refine Kd.C_alloc ?_ _) | (with_reducible refine Kd.C_drewN ?_ _) | (with_reducible refine Kd.C_drew ?_))); (case side2 => exact HC0.out); rintro e w' ⟨rfl, ⟨nd, rfl⟩⟩; refine ⟨_, rfl, ?_⟩))
  go_ret
  exact ⟨by first | rfl | (simp [errW_none, errW_some] <;> rfl) | (simp [*, errW_none, errW_some] <;> rfl), bw HB.out⟩
 rw [if_neg c6] at H
 have c6b0 : decide (t358 < 0) = false := decide_eq_false c6
 clear c6
 replace H := Option.bind_eq_some_iff.mp H
 obtain ⟨t359, A70, H⟩ := H
 replace H : (if t359 < 0 then (some true) else ((laws_toJobS.f k l0).bind fun t360 => ((laws_toIntA2S.f k l1).bind fun t363 => ((laws_toIntS.f k l2).bind fun t366 => ((spec_IsBlockOrder.f k t360 t363 t366).bind fun bt369 => ((laws_toJobS.f k l0).bind fun t371 => ((laws_toIntA2S.f k l1).bind fun t374 => ((laws_toIntS.f k l2).bind fun t377 => ((impl_IsBlockOrder.f k t371 t374 t377).bind fun bt380 => (if (bt380.1 != bt369.1) = true then (laws_FnExactIsBlockOrder.j0 k l0 l1 l2 t371 t374 t377 true) else (laws_FnExactIsBlockOrder.j0 k l0 l1 l2 t371 t374 t377 (bt380.2 != bt369.2)))))))))))) = some r := H
 have A7 := Aside0.mk A70
 clear A70
 by_cases c8 : t359 < 0
 ·rw [if_pos c8] at H
  have c8b0 : decide (t359 < 0) = true := decide_eq_true c8
  clear c8
  obtain rfl := Option.some.inj H
  go_enter Try.func3, Try.ntmps3
  go_wp2_with (first | ((with_reducible refine gate_callee (f := 4) rfl ?_); refine goesL_ (some 20) rfl rfl Try.func4 (by kernel_rfl) rfl #[.slice A0 l0.length c0, .int .i64 1048576] rfl (by (try simp only [mA_]); first | done | rfl | (simp only [List.length_drop, List.length_take]; rfl)) ?_; (with_reducible refine (laws_szJobS.calls _ _ l0 1048576 t358 _ ?side1 ?side2 A5.out).mono ?_); (case side1 => repeat (first | exact HR0.out | (with_reducible refine Kd.C_alloc ?_ _) | (with_reducible refine Kd.C_drewN ?_ _) | (with_reducible refine Kd.C_drew ?_))); (case side2 => exact HC0.out); rintro e w' ⟨rfl, ⟨nd, rfl⟩⟩; refine ⟨_, rfl, ?_⟩) | ((with_reducible refine gate_callee (f := 5) rfl ?_); refine goesL_ (some 25) rfl rfl Try.func5 (by kernel_rfl) rfl #[.slice A1 l1.length c1, .int .i64 t358] rfl (by (try simp only [mA_]); first | done | rfl | (simp only [List.length_drop, List.length_take]; rfl)) ?_; (with_reducible refine (laws_szIntA2S.calls _ _ l1 t358 t359 _ ?side1 ?side2 A7.out).mono ?_); (case side1 => repeat (first | exact HR1.out | (with_reducible refine Kd.C_alloc ?_ _) | (with_reducible refine Kd.C_drewN ?_ _) | (with_reducible refine Kd.C_drew ?_))); (case side2 => exact HC1.out); rintro e w' ⟨rfl, ⟨nd, rfl⟩⟩; refine ⟨_, rfl, ?_⟩))
  go_ret
  exact ⟨by first | rfl | (simp [errW_none, errW_some] <;> rfl) | (simp [*, errW_none, errW_some] <;> rfl), bw HB.out⟩
 rw [if_neg c8] at H
 have c8b0 : decide (t359 < 0) = false := decide_eq_false c8
 clear c8
 replace H := Option.bind_eq_some_iff.mp H
 obtain ⟨t360, A90, H⟩ := H
 replace H : ((laws_toIntA2S.f k l1).bind fun t363 => ((laws_toIntS.f k l2).bind fun t366 => ((spec_IsBlockOrder.f k t360 t363 t366).bind fun bt369 => ((laws_toJobS.f k l0).bind fun t371 => ((laws_toIntA2S.f k l1).bind fun t374 => ((laws_toIntS.f k l2).bind fun t377 => ((impl_IsBlockOrder.f k t371 t374 t377).bind fun bt380 => (if (bt380.1 != bt369.1) = true then (laws_FnExactIsBlockOrder.j0 k l0 l1 l2 t371 t374 t377 true) else (laws_FnExactIsBlockOrder.j0 k l0 l1 l2 t371 t374 t377 (bt380.2 != bt369.2)))))))))) = some r := H
 have A9 := Aside0.mk A90
 clear A90
 replace H := Option.bind_eq_some_iff.mp H
 obtain ⟨t363, A100, H⟩ := H
 replace H : ((laws_toIntS.f k l2).bind fun t366 => ((spec_IsBlockOrder.f k t360 t363 t366).bind fun bt369 => ((laws_toJobS.f k l0).bind fun t371 => ((laws_toIntA2S.f k l1).bind fun t374 => ((laws_toIntS.f k l2).bind fun t377 => ((impl_IsBlockOrder.f k t371 t374 t377).bind fun bt380 => (if (bt380.1 != bt369.1) = true then (laws_FnExactIsBlockOrder.j0 k l0 l1 l2 t371 t374 t377 true) else (laws_FnExactIsBlockOrder.j0 k l0 l1 l2 t371 t374 t377 (bt380.2 != bt369.2))))))))) = some r := H
 have A10 := Aside0.mk A100
 clear A100
 replace H := Option.bind_eq_some_iff.mp H
 obtain ⟨t366, A110, H⟩ := H
 replace H : ((spec_IsBlockOrder.f k t360 t363 t366).bind fun bt369 => ((laws_toJobS.f k l0).bind fun t371 => ((laws_toIntA2S.f k l1).bind fun t374 => ((laws_toIntS.f k l2).bind fun t377 => ((impl_IsBlockOrder.f k t371 t374 t377).bind fun bt380 => (if (bt380.1 != bt369.1) = true then (laws_FnExactIsBlockOrder.j0 k l0 l1 l2 t371 t374 t377 true) else (laws_FnExactIsBlockOrder.j0 k l0 l1 l2 t371 t374 t377 (bt380.2 != bt369.2)))))))) = some r := H
 have A11 := Aside0.mk A110
 clear A110
 replace H := Option.bind_eq_some_iff.mp H
 obtain ⟨⟨t369, t370⟩, A120, H⟩ := H
 replace H : ((laws_toJobS.f k l0).bind fun t371 => ((laws_toIntA2S.f k l1).bind fun t374 => ((laws_toIntS.f k l2).bind fun t377 => ((impl_IsBlockOrder.f k t371 t374 t377).bind fun bt380 => (if (bt380.1 != t369) = true then (laws_FnExactIsBlockOrder.j0 k l0 l1 l2 t371 t374 t377 true) else (laws_FnExactIsBlockOrder.j0 k l0 l1 l2 t371 t374 t377 (bt380.2 != t370))))))) = some r := H
 have A12 := Aside0.mk A120
 clear A120
 replace H := Option.bind_eq_some_iff.mp H
 obtain ⟨t371, A130, H⟩ := H
 replace H : ((laws_toIntA2S.f k l1).bind fun t374 => ((laws_toIntS.f k l2).bind fun t377 => ((impl_IsBlockOrder.f k t371 t374 t377).bind fun bt380 => (if (bt380.1 != t369) = true then (laws_FnExactIsBlockOrder.j0 k l0 l1 l2 t371 t374 t377 true) else (laws_FnExactIsBlockOrder.j0 k l0 l1 l2 t371 t374 t377 (bt380.2 != t370)))))) = some r := H
 have A13 := Aside0.mk A130
 clear A130
 replace H := Option.bind_eq_some_iff.mp H
 obtain ⟨t374, A140, H⟩ := H
 replace H : ((laws_toIntS.f k l2).bind fun t377 => ((impl_IsBlockOrder.f k t371 t374 t377).bind fun bt380 => (if (bt380.1 != t369) = true then (laws_FnExactIsBlockOrder.j0 k l0 l1 l2 t371 t374 t377 true) else (laws_FnExactIsBlockOrder.j0 k l0 l1 l2 t371 t374 t377 (bt380.2 != t370))))) = some r := H
 have A14 := Aside0.mk A140
 clear A140
 replace H := Option.bind_eq_some_iff.mp H
 obtain ⟨t377, A150, H⟩ := H
 replace H : ((impl_IsBlockOrder.f k t371 t374 t377).bind fun bt380 => (if (bt380.1 != t369) = true then (laws_FnExactIsBlockOrder.j0 k l0 l1 l2 t371 t374 t377 true) else (laws_FnExactIsBlockOrder.j0 k l0 l1 l2 t371 t374 t377 (bt380.2 != t370)))) = some r := H
 have A15 := Aside0.mk A150
 clear A150
 replace H := Option.bind_eq_some_iff.mp H
 obtain ⟨⟨t380, t381⟩, A160, H⟩ := H
 replace H : (if (t380 != t369) = true then (laws_FnExactIsBlockOrder.j0 k l0 l1 l2 t371 t374 t377 true) else (laws_FnExactIsBlockOrder.j0 k l0 l1 l2 t371 t374 t377 (t381 != t370))) = some r := H
 have A16 := Aside0.mk A160
 clear A160
 have HC17 := Aside0.mk H
 clear H
 go_enter Try.func3, Try.ntmps3
 go_upto_region 15 with (first | ((with_reducible refine gate_callee (f := 4) rfl ?_); refine goesL_ (some 20) rfl rfl Try.func4 (by kernel_rfl) rfl #[.slice A0 l0.length c0, .int .i64 1048576] rfl (by (try simp only [mA_]); first | done | rfl | (simp only [List.length_drop, List.length_take]; rfl)) ?_; (with_reducible refine (laws_szJobS.calls _ _ l0 1048576 t358 _ ?side1 ?side2 A5.out).mono ?_); (case side1 => repeat (first | exact HR0.out | (with_reducible refine Kd.C_alloc ?_ _) | (with_reducible refine Kd.C_drewN ?_ _) | (with_reducible refine Kd.C_drew ?_))); (case side2 => exact HC0.out); rintro e w' ⟨rfl, ⟨nd, rfl⟩⟩; refine ⟨_, rfl, ?_⟩) | ((with_reducible refine gate_callee (f := 5) rfl ?_); refine goesL_ (some 25) rfl rfl Try.func5 (by kernel_rfl) rfl #[.slice A1 l1.length c1, .int .i64 t358] rfl (by (try simp only [mA_]); first | done | rfl | (simp only [List.length_drop, List.length_take]; rfl)) ?_; (with_reducible refine (laws_szIntA2S.calls _ _ l1 t358 t359 _ ?side1 ?side2 A7.out).mono ?_); (case side1 => repeat (first | exact HR1.out | (with_reducible refine Kd.C_alloc ?_ _) | (with_reducible refine Kd.C_drewN ?_ _) | (with_reducible refine Kd.C_drew ?_))); (case side2 => exact HC1.out); rintro e w' ⟨rfl, ⟨nd, rfl⟩⟩; refine ⟨_, rfl, ?_⟩) | ((with_reducible refine gate_callee (f := 7) rfl ?_); refine goesL_ (some 30) rfl rfl Try.func7 (by kernel_rfl) rfl #[.slice A0 l0.length c0] rfl (by (try simp only [mA_]); first | done | rfl | (simp only [List.length_drop, List.length_take]; rfl)) ?_; (with_reducible refine (laws_toJobS.calls k _ _ l0 t360 _ ?side1 ?side2 A9.out).mono ?_); (case side1 => repeat (first | exact HR0.out | (with_reducible refine Kd.C_alloc ?_ _) | (with_reducible refine Kd.C_drewN ?_ _) | (with_reducible refine Kd.C_drew ?_))); (case side2 => exact HC0.out); rintro e w18 ⟨v361, rfl, ho0, hb⟩; refine ⟨_, rfl, ?_⟩; have n0_ := Aside0.mk (Kd.R_lower ho0 (below_size (bw HB.out))); have n1_ := Aside0.mk (below_step (bw HB.out) hb); have HO362 := n0_; replace HB := n1_; clear n0_ n1_; (try clear hb); (try clear hb2); (try clear hk); (try clear hi); (try clear ho0)) | ((with_reducible refine gate_callee (f := 8) rfl ?_); refine goesL_ (some 32) rfl rfl Try.func8 (by kernel_rfl) rfl #[.slice A1 l1.length c1] rfl (by (try simp only [mA_]); first | done | rfl | (simp only [List.length_drop, List.length_take]; rfl)) ?_; (with_reducible refine (laws_toIntA2S.calls k _ _ l1 t363 _ ?side1 ?side2 A10.out).mono ?_); (case side1 => first | exact bC HR1.out HB.out | exact Kd.C_below HR1.out HB.out); (case side2 => exact HC1.out); rintro e w19 ⟨v364, rfl, ho0, hb⟩; refine ⟨_, rfl, ?_⟩; have n0_ := Aside0.mk (Kd.R_below (bR HO362.out) hb); have n1_ := Aside0.mk (Kd.R_lower ho0 (below_size (bw HB.out))); have n2_ := Aside0.mk (below_step (bw HB.out) hb); replace HO362 := n0_; have HO365 := n1_; replace HB := n2_; clear n0_ n1_ n2_; (try clear hb); (try clear hb2); (try clear hk); (try clear hi); (try clear ho0)) | ((with_reducible refine gate_callee (f := 9) rfl ?_); refine goesL_ (some 34) rfl rfl Try.func9 (by kernel_rfl) rfl #[.slice A2 l2.length c2] rfl (by (try simp only [mA_]); first | done | rfl | (simp only [List.length_drop, List.length_take]; rfl)) ?_; (with_reducible refine (laws_toIntS.calls k _ _ l2 t366 _ ?side1 ?side2 A11.out).mono ?_); (case side1 => first | exact bC HR2.out HB.out | exact Kd.C_below HR2.out HB.out); (case side2 => exact HC2.out); rintro e w20 ⟨v367, rfl, ho0, hb⟩; refine ⟨_, rfl, ?_⟩; have n0_ := Aside0.mk (Kd.R_below (bR HO362.out) hb); have n1_ := Aside0.mk (Kd.R_below (bR HO365.out) hb); have n2_ := Aside0.mk (Kd.R_lower ho0 (below_size (bw HB.out))); have n3_ := Aside0.mk (below_step (bw HB.out) hb); replace HO362 := n0_; replace HO365 := n1_; have HO368 := n2_; replace HB := n3_; clear n0_ n1_ n2_ n3_; (try clear hb); (try clear hb2); (try clear hk); (try clear hi); (try clear ho0); obtain ⟨Ao21, co21, eo21⟩ := Kd.R_slice HO362.out; subst eo21; obtain ⟨Ao22, co22, eo22⟩ := Kd.R_slice HO365.out; subst eo22; obtain ⟨Ao23, co23, eo23⟩ := Kd.R_slice HO368.out; subst eo23) | ((with_reducible refine gate_callee (f := 6) rfl ?_); refine goesL_ (some 35) rfl rfl Try.func6 (by kernel_rfl) rfl #[.slice Ao21 t360.length co21, .slice Ao22 t363.length co22, .slice Ao23 t366.length co23] rfl (by (try simp only [mA_]); first | done | rfl | (simp only [List.length_drop, List.length_take]; rfl)) ?_; (with_reducible refine (spec_IsBlockOrder.calls k _ _ t360 _ _ t363 _ _ t366 t369 t370 _ ?side1 ?side2 ?side3 ?side4 ?side5 ?side6 A12.out).mono ?_); (case side1 => repeat (first | exact (Kd.R_reads' HO362.out).2.2 | (with_reducible refine Kd.C_alloc ?_ _) | (with_reducible refine Kd.C_drewN ?_ _) | (with_reducible refine Kd.C_drew ?_))); (case side2 => exact (Kd.R_reads' HO362.out).2.1); (case side3 => repeat (first | exact (Kd.R_reads' HO365.out).2.2 | (with_reducible refine Kd.C_alloc ?_ _) | (with_reducible refine Kd.C_drewN ?_ _) | (with_reducible refine Kd.C_drew ?_))); (case side4 => exact (Kd.R_reads' HO365.out).2.1); (case side5 => repeat (first | exact (Kd.R_reads' HO368.out).2.2 | (with_reducible refine Kd.C_alloc ?_ _) | (with_reducible refine Kd.C_drewN ?_ _) | (with_reducible refine Kd.C_drew ?_))); (case side6 => exact (Kd.R_reads' HO368.out).2.1); rintro e w24 ⟨rfl, hb⟩; refine ⟨_, rfl, ?_⟩; have n0_ := Aside0.mk (Kd.R_below (bR HO362.out) hb); have n1_ := Aside0.mk (Kd.R_below (bR HO365.out) hb); have n2_ := Aside0.mk (Kd.R_below (bR HO368.out) hb); have n3_ := Aside0.mk (below_step (bw HB.out) hb); replace HO362 := n0_; replace HO365 := n1_; replace HO368 := n2_; replace HB := n3_; clear n0_ n1_ n2_ n3_; (try clear hb); (try clear hb2); (try clear hk); (try clear hi)) | ((with_reducible refine gate_callee (f := 7) rfl ?_); refine goesL_ (some 39) rfl rfl Try.func7 (by kernel_rfl) rfl #[.slice A0 l0.length c0] rfl (by (try simp only [mA_]); first | done | rfl | (simp only [List.length_drop, List.length_take]; rfl)) ?_; (with_reducible refine (laws_toJobS.calls k _ _ l0 t371 _ ?side1 ?side2 A13.out).mono ?_); (case side1 => first | exact bC HR0.out HB.out | exact Kd.C_below HR0.out HB.out); (case side2 => exact HC0.out); rintro e w25 ⟨v372, rfl, ho0, hb⟩; refine ⟨_, rfl, ?_⟩; have n0_ := Aside0.mk (Kd.R_elder' (bR HO362.out) (Kd.R_base ho0) hb); have n1_ := Aside0.mk (Kd.R_below (bR HO365.out) hb); have n2_ := Aside0.mk (Kd.R_below (bR HO368.out) hb); have n3_ := Aside0.mk (Kd.R_lower (Kd.R_new' ho0 (Kd.R_lt (bR HO362.out))) (below_size (bw HB.out))); have n4_ := Aside0.mk (below_step (bw HB.out) hb); replace HO362 := n0_; replace HO365 := n1_; replace HO368 := n2_; have HO373 := n3_; replace HB := n4_; clear n0_ n1_ n2_ n3_ n4_; (try clear hb); (try clear hb2); (try clear hk); (try clear hi); (try clear ho0)) | ((with_reducible refine gate_callee (f := 8) rfl ?_); refine goesL_ (some 41) rfl rfl Try.func8 (by kernel_rfl) rfl #[.slice A1 l1.length c1] rfl (by (try simp only [mA_]); first | done | rfl | (simp only [List.length_drop, List.length_take]; rfl)) ?_; (with_reducible refine (laws_toIntA2S.calls k _ _ l1 t374 _ ?side1 ?side2 A14.out).mono ?_); (case side1 => first | exact bC HR1.out HB.out | exact Kd.C_below HR1.out HB.out); (case side2 => exact HC1.out); rintro e w26 ⟨v375, rfl, ho0, hb⟩; refine ⟨_, rfl, ?_⟩; have n0_ := Aside0.mk (Kd.R_below (bR HO362.out) hb); have n1_ := Aside0.mk (Kd.R_elder' (bR HO365.out) (Kd.R_base ho0) hb); have n2_ := Aside0.mk (Kd.R_below (bR HO368.out) hb); have n3_ := Aside0.mk (Kd.R_below (bR HO373.out) hb); have n4_ := Aside0.mk (Kd.R_lower (Kd.R_new' ho0 (Kd.R_lt (bR HO365.out))) (below_size (bw HB.out))); have n5_ := Aside0.mk (below_step (bw HB.out) hb); replace HO362 := n0_; replace HO365 := n1_; replace HO368 := n2_; replace HO373 := n3_; have HO376 := n4_; replace HB := n5_; clear n0_ n1_ n2_ n3_ n4_ n5_; (try clear hb); (try clear hb2); (try clear hk); (try clear hi); (try clear ho0)) | ((with_reducible refine gate_callee (f := 9) rfl ?_); refine goesL_ (some 43) rfl rfl Try.func9 (by kernel_rfl) rfl #[.slice A2 l2.length c2] rfl (by (try simp only [mA_]); first | done | rfl | (simp only [List.length_drop, List.length_take]; rfl)) ?_; (with_reducible refine (laws_toIntS.calls k _ _ l2 t377 _ ?side1 ?side2 A15.out).mono ?_); (case side1 => first | exact bC HR2.out HB.out | exact Kd.C_below HR2.out HB.out); (case side2 => exact HC2.out); rintro e w27 ⟨v378, rfl, ho0, hb⟩; refine ⟨_, rfl, ?_⟩; have n0_ := Aside0.mk (Kd.R_below (bR HO362.out) hb); have n1_ := Aside0.mk (Kd.R_below (bR HO365.out) hb); have n2_ := Aside0.mk (Kd.R_elder' (bR HO368.out) (Kd.R_base ho0) hb); have n3_ := Aside0.mk (Kd.R_below (bR HO373.out) hb); have n4_ := Aside0.mk (Kd.R_below (bR HO376.out) hb); have n5_ := Aside0.mk (Kd.R_lower (Kd.R_new' ho0 (Kd.R_lt (bR HO368.out))) (below_size (bw HB.out))); have n6_ := Aside0.mk (below_step (bw HB.out) hb); replace HO362 := n0_; replace HO365 := n1_; replace HO368 := n2_; replace HO373 := n3_; replace HO376 := n4_; have HO379 := n5_; replace HB := n6_; clear n0_ n1_ n2_ n3_ n4_ n5_ n6_; (try clear hb); (try clear hb2); (try clear hk); (try clear hi); (try clear ho0); obtain ⟨Ao28, co28, eo28⟩ := Kd.R_slice HO373.out; subst eo28; obtain ⟨Ao29, co29, eo29⟩ := Kd.R_slice HO376.out; subst eo29; obtain ⟨Ao30, co30, eo30⟩ := Kd.R_slice HO379.out; subst eo30) | ((with_reducible refine gate_callee (f := 10) rfl ?_); refine goesL_ (some 48) rfl rfl Try.func10 (by kernel_rfl) rfl #[.slice Ao28 t371.length co28, .slice Ao29 t374.length co29, .slice Ao30 t377.length co30] rfl (by (try simp only [mA_]); first | done | rfl | (simp only [List.length_drop, List.length_take]; rfl)) ?_; (with_reducible refine (impl_IsBlockOrder.calls k _ _ t371 _ _ t374 _ _ t377 t380 t381 _ ?side1 ?side2 ?side3 ?side4 ?side5 ?side6 A16.out).mono ?_); (case side1 => repeat (first | exact (Kd.R_reads' HO373.out).2.2 | (with_reducible refine Kd.C_alloc ?_ _) | (with_reducible refine Kd.C_drewN ?_ _) | (with_reducible refine Kd.C_drew ?_))); (case side2 => exact (Kd.R_reads' HO373.out).2.1); (case side3 => repeat (first | exact (Kd.R_reads' HO376.out).2.2 | (with_reducible refine Kd.C_alloc ?_ _) | (with_reducible refine Kd.C_drewN ?_ _) | (with_reducible refine Kd.C_drew ?_))); (case side4 => exact (Kd.R_reads' HO376.out).2.1); (case side5 => repeat (first | exact (Kd.R_reads' HO379.out).2.2 | (with_reducible refine Kd.C_alloc ?_ _) | (with_reducible refine Kd.C_drewN ?_ _) | (with_reducible refine Kd.C_drew ?_))); (case side6 => exact (Kd.R_reads' HO379.out).2.1); rintro e w31 ⟨rfl, hb⟩; refine ⟨_, rfl, ?_⟩; have n0_ := Aside0.mk (Kd.R_below (bR HO362.out) hb); have n1_ := Aside0.mk (Kd.R_below (bR HO365.out) hb); have n2_ := Aside0.mk (Kd.R_below (bR HO368.out) hb); have n3_ := Aside0.mk (Kd.R_below (bR HO373.out) hb); have n4_ := Aside0.mk (Kd.R_below (bR HO376.out) hb); have n5_ := Aside0.mk (Kd.R_below (bR HO379.out) hb); have n6_ := Aside0.mk (below_step (bw HB.out) hb); replace HO362 := n0_; replace HO365 := n1_; replace HO368 := n2_; replace HO373 := n3_; replace HO376 := n4_; replace HO379 := n5_; replace HB := n6_; clear n0_ n1_ n2_ n3_ n4_ n5_ n6_; (try clear hb); (try clear hb2); (try clear hk); (try clear hi)))
 (try simp only [Act.put, List.setIfInBounds_toArray, List.set_cons_zero, List.set_cons_succ])
 go_cut [58] (fun v58 wc => ∃ (kq : Nat) (x58_16 : Bool), v58 = .bool x58_16 ∧ Aside0 (laws_FnExactIsBlockOrder.j0 kq l0 l1 l2 t371 t374 t377 x58_16 = some r) ∧ Aside0 (kq ≤ k) ∧ Aside0 (Kd.R k44 44 wc w.heap.size (fun _ => True) (.slice Ao28 t371.length co28) t371) ∧ Aside0 (Kd.R k47 47 wc w.heap.size (fun _ => True) (.slice Ao29 t374.length co29) t374) ∧ Aside0 (Kd.R (Kd.int .i64) 3 wc w.heap.size (fun _ => True) (.slice Ao30 t377.length co30) t377) ∧ Aside0 (Below w.heap.size w wc))
 case first =>
  have H := HC17.out
  clear HC17
  by_cases c32 : (t380 != t369) = true
  rotate_left
  ·rw [if_neg c32] at H
   have c32b0 : (t380 != t369) = false := by simpa using c32
   (try (have c32b1 : decide (t380 = t369) = true := by simpa using c32))
   (try (have c32b2 : (t380 == t369) = true := by simpa using c32))
   clear c32
   (first | rw [c32b0] | (simp only [i64_w, i32_w]; rw [c32b0]) | skip)
   have H' := Aside0.mk H
   clear H
   go_wp2
   go_meet
   case rel => exact ⟨_, ((t381 != t370)), (by first | rfl | (simp; done) | (simp [*]; done)), H', ⟨by first | omega | exact Nat.le_refl _⟩, ⟨by (with_reducible repeat (first | apply Kd.R_alloc | apply Kd.R_drewN | apply Kd.R_drew)); exact Kd.R_mono HO373.out (fun _ hk => trivial)⟩, ⟨by (with_reducible repeat (first | apply Kd.R_alloc | apply Kd.R_drewN | apply Kd.R_drew)); exact Kd.R_mono HO376.out (fun _ hk => trivial)⟩, ⟨by (with_reducible repeat (first | apply Kd.R_alloc | apply Kd.R_drewN | apply Kd.R_drew)); exact Kd.R_mono HO379.out (fun _ hk => trivial)⟩, ⟨bw HB.out⟩⟩
  rw [if_pos c32] at H
  have c32b0 : (t380 != t369) = true := c32
  (try (have c32b1 : decide (t380 = t369) = false := by simpa using c32))
  (try (have c32b2 : (t380 == t369) = false := by simpa using c32))
  (try (have c32b3 : ¬ (t380 = t369) := by simpa using c32))
  clear c32
  (first | rw [c32b0] | (simp only [i64_w, i32_w]; rw [c32b0]) | skip)
  have H' := Aside0.mk H
  clear H
  go_wp2
  go_meet
  case rel => exact ⟨_, (true), (by first | rfl | (simp; done) | (simp [*]; done)), H', ⟨by first | omega | exact Nat.le_refl _⟩, ⟨by (with_reducible repeat (first | apply Kd.R_alloc | apply Kd.R_drewN | apply Kd.R_drew)); exact Kd.R_mono HO373.out (fun _ hk => trivial)⟩, ⟨by (with_reducible repeat (first | apply Kd.R_alloc | apply Kd.R_drewN | apply Kd.R_drew)); exact Kd.R_mono HO376.out (fun _ hk => trivial)⟩, ⟨by (with_reducible repeat (first | apply Kd.R_alloc | apply Kd.R_drewN | apply Kd.R_drew)); exact Kd.R_mono HO379.out (fun _ hk => trivial)⟩, ⟨bw HB.out⟩⟩
 case rest =>
  clear HC17
  try clear c1
  try clear c2
  try clear p2
  try clear c3
  try clear c4
  try clear c4b0
  try clear c4b1
  try clear c5
  try clear c6
  try clear c6b0
  try clear c7
  try clear c8
  try clear c8b0
  try clear c9
  try clear c10
  try clear c32
  try clear c32b0
  try clear c32b1
  try clear c32b2
  obtain ⟨kq, x58_16, rfl, HA, HJ16, HO_10, HO_11, HO_12, HB⟩ := hcut
  cases kq with
  | zero => exact absurd HA.out (by simp [laws_FnExactIsBlockOrder.j0])
  | succ kj16 =>
   have H := HA.out
   clear HA
   simp only [laws_FnExactIsBlockOrder.j0] at H
   by_cases c33 : x58_16 = true
   ·subst c33
    have H1 : (some false) = some r := by rw [if_pos rfl] at H; exact H
    clear H
    have H := H1
    clear H1
    obtain rfl := Option.some.inj H
    go_wp2
    go_ret
    exact ⟨by first | rfl | (simp [errW_none, errW_some] <;> rfl) | (simp [*, errW_none, errW_some] <;> rfl), bw HB.out⟩
   replace c33 := Bool.eq_false_iff.mpr c33
   subst c33
   have H1 : ((laws_toJobS.f kj16 l0).bind fun t382 => ((laws_eqJobS.f kj16 t371 t382).bind fun t385 => (if t385 = true then ((laws_toIntA2S.f kj16 l1).bind fun t386 => ((laws_eqIntA2S.f kj16 t374 t386).bind fun t389 => (if t389 = true then ((laws_toIntS.f kj16 l2).bind fun t390 => ((laws_eqIntS.f kj16 t377 t390).bind fun t393 => (if t393 = true then (some true) else (some false)))) else (some false)))) else (some false)))) = some r := by rw [if_neg (show ¬ (false = true) by decide)] at H; exact H
   clear H
   have H := H1
   clear H1
   replace H := Option.bind_eq_some_iff.mp H
   obtain ⟨t382, A340, H⟩ := H
   replace H : ((laws_eqJobS.f kj16 t371 t382).bind fun t385 => (if t385 = true then ((laws_toIntA2S.f kj16 l1).bind fun t386 => ((laws_eqIntA2S.f kj16 t374 t386).bind fun t389 => (if t389 = true then ((laws_toIntS.f kj16 l2).bind fun t390 => ((laws_eqIntS.f kj16 t377 t390).bind fun t393 => (if t393 = true then (some true) else (some false)))) else (some false)))) else (some false))) = some r := H
   have A34 := Aside0.mk A340
   clear A340
   replace H := Option.bind_eq_some_iff.mp H
   obtain ⟨t385, A350, H⟩ := H
   replace H : (if t385 = true then ((laws_toIntA2S.f kj16 l1).bind fun t386 => ((laws_eqIntA2S.f kj16 t374 t386).bind fun t389 => (if t389 = true then ((laws_toIntS.f kj16 l2).bind fun t390 => ((laws_eqIntS.f kj16 t377 t390).bind fun t393 => (if t393 = true then (some true) else (some false)))) else (some false)))) else (some false)) = some r := H
   have A35 := Aside0.mk A350
   clear A350
   by_cases c36 : t385 = true
   rotate_left
   ·replace c36 := Bool.eq_false_iff.mpr c36
    subst c36
    have H1 : (some false) = some r := by rw [if_neg (show ¬ (false = true) by decide)] at H; exact H
    clear H
    have H := H1
    clear H1
    obtain rfl := Option.some.inj H
    go_wp2_with (first | ((with_reducible refine gate_callee (f := 7) rfl ?_); refine goesL_ (some 61) rfl rfl Try.func7 (by kernel_rfl) rfl #[.slice A0 l0.length c0] rfl (by (try simp only [mA_]); first | done | rfl | (simp only [List.length_drop, List.length_take]; rfl)) ?_; (with_reducible refine (laws_toJobS.calls kj16 _ _ l0 t382 _ ?side1 ?side2 A34.out).mono ?_); (case side1 => first | exact bC HR0.out HB.out | exact Kd.C_below HR0.out HB.out); (case side2 => exact HC0.out); rintro e w65 ⟨v383, rfl, ho0, hb⟩; refine ⟨_, rfl, ?_⟩; have n0_ := Aside0.mk (Kd.R_elder' (bR HO_10.out) (Kd.R_base ho0) hb); have n1_ := Aside0.mk (Kd.R_below (bR HO_11.out) hb); have n2_ := Aside0.mk (Kd.R_below (bR HO_12.out) hb); have n3_ := Aside0.mk (Kd.R_lower (Kd.R_new' ho0 (Kd.R_lt (bR HO_10.out))) (below_size (bw HB.out))); have n4_ := Aside0.mk (below_step (bw HB.out) hb); replace HO_10 := n0_; replace HO_11 := n1_; replace HO_12 := n2_; have HO384 := n3_; replace HB := n4_; clear n0_ n1_ n2_ n3_ n4_; (try clear hb); (try clear hb2); (try clear hk); (try clear hi); (try clear ho0); obtain ⟨Ao66, co66, eo66⟩ := Kd.R_slice HO384.out; subst eo66) | ((with_reducible refine gate_callee (f := 11) rfl ?_); refine goesL_ (some 62) rfl rfl Try.func11 (by kernel_rfl) rfl #[.slice Ao28 t371.length co28, .slice Ao66 t382.length co66] rfl (by (try simp only [mA_]); first | done | rfl | (simp only [List.length_drop, List.length_take]; rfl)) ?_; (with_reducible refine (laws_eqJobS.calls kj16 _ _ t371 _ _ t382 false _ ?side1 ?side2 ?side3 ?side4 A35.out).mono ?_); (case side1 => repeat (first | exact (Kd.R_reads' HO_10.out).2.2 | (with_reducible refine Kd.C_alloc ?_ _) | (with_reducible refine Kd.C_drewN ?_ _) | (with_reducible refine Kd.C_drew ?_))); (case side2 => exact (Kd.R_reads' HO_10.out).2.1); (case side3 => repeat (first | exact (Kd.R_reads' HO384.out).2.2 | (with_reducible refine Kd.C_alloc ?_ _) | (with_reducible refine Kd.C_drewN ?_ _) | (with_reducible refine Kd.C_drew ?_))); (case side4 => exact (Kd.R_reads' HO384.out).2.1); rintro e w67 ⟨rfl, hb⟩; refine ⟨_, rfl, ?_⟩; have n0_ := Aside0.mk (Kd.R_below (bR HO_10.out) hb); have n1_ := Aside0.mk (Kd.R_below (bR HO_11.out) hb); have n2_ := Aside0.mk (Kd.R_below (bR HO_12.out) hb); have n3_ := Aside0.mk (Kd.R_below (bR HO384.out) hb); have n4_ := Aside0.mk (below_step (bw HB.out) hb); replace HO_10 := n0_; replace HO_11 := n1_; replace HO_12 := n2_; replace HO384 := n3_; replace HB := n4_; clear n0_ n1_ n2_ n3_ n4_; (try clear hb); (try clear hb2); (try clear hk); (try clear hi)))
    go_ret
    exact ⟨by first | rfl | (simp [errW_none, errW_some] <;> rfl) | (simp [*, errW_none, errW_some] <;> rfl), bw HB.out⟩
   subst c36
   have H1 : ((laws_toIntA2S.f kj16 l1).bind fun t386 => ((laws_eqIntA2S.f kj16 t374 t386).bind fun t389 => (if t389 = true then ((laws_toIntS.f kj16 l2).bind fun t390 => ((laws_eqIntS.f kj16 t377 t390).bind fun t393 => (if t393 = true then (some true) else (some false)))) else (some false)))) = some r := by rw [if_pos rfl] at H; exact H
   clear H
   have H := H1
   clear H1
   replace H := Option.bind_eq_some_iff.mp H
   obtain ⟨t386, A370, H⟩ := H
   replace H : ((laws_eqIntA2S.f kj16 t374 t386).bind fun t389 => (if t389 = true then ((laws_toIntS.f kj16 l2).bind fun t390 => ((laws_eqIntS.f kj16 t377 t390).bind fun t393 => (if t393 = true then (some true) else (some false)))) else (some false))) = some r := H
   have A37 := Aside0.mk A370
   clear A370
   replace H := Option.bind_eq_some_iff.mp H
   obtain ⟨t389, A380, H⟩ := H
   replace H : (if t389 = true then ((laws_toIntS.f kj16 l2).bind fun t390 => ((laws_eqIntS.f kj16 t377 t390).bind fun t393 => (if t393 = true then (some true) else (some false)))) else (some false)) = some r := H
   have A38 := Aside0.mk A380
   clear A380
   by_cases c39 : t389 = true
   rotate_left
   ·replace c39 := Bool.eq_false_iff.mpr c39
    subst c39
    have H1 : (some false) = some r := by rw [if_neg (show ¬ (false = true) by decide)] at H; exact H
    clear H
    have H := H1
    clear H1
    obtain rfl := Option.some.inj H
    go_wp2_with (first | ((with_reducible refine gate_callee (f := 7) rfl ?_); refine goesL_ (some 61) rfl rfl Try.func7 (by kernel_rfl) rfl #[.slice A0 l0.length c0] rfl (by (try simp only [mA_]); first | done | rfl | (simp only [List.length_drop, List.length_take]; rfl)) ?_; (with_reducible refine (laws_toJobS.calls kj16 _ _ l0 t382 _ ?side1 ?side2 A34.out).mono ?_); (case side1 => first | exact bC HR0.out HB.out | exact Kd.C_below HR0.out HB.out); (case side2 => exact HC0.out); rintro e w59 ⟨v383, rfl, ho0, hb⟩; refine ⟨_, rfl, ?_⟩; have n0_ := Aside0.mk (Kd.R_elder' (bR HO_10.out) (Kd.R_base ho0) hb); have n1_ := Aside0.mk (Kd.R_below (bR HO_11.out) hb); have n2_ := Aside0.mk (Kd.R_below (bR HO_12.out) hb); have n3_ := Aside0.mk (Kd.R_lower (Kd.R_new' ho0 (Kd.R_lt (bR HO_10.out))) (below_size (bw HB.out))); have n4_ := Aside0.mk (below_step (bw HB.out) hb); replace HO_10 := n0_; replace HO_11 := n1_; replace HO_12 := n2_; have HO384 := n3_; replace HB := n4_; clear n0_ n1_ n2_ n3_ n4_; (try clear hb); (try clear hb2); (try clear hk); (try clear hi); (try clear ho0); obtain ⟨Ao60, co60, eo60⟩ := Kd.R_slice HO384.out; subst eo60) | ((with_reducible refine gate_callee (f := 11) rfl ?_); refine goesL_ (some 62) rfl rfl Try.func11 (by kernel_rfl) rfl #[.slice Ao28 t371.length co28, .slice Ao60 t382.length co60] rfl (by (try simp only [mA_]); first | done | rfl | (simp only [List.length_drop, List.length_take]; rfl)) ?_; (with_reducible refine (laws_eqJobS.calls kj16 _ _ t371 _ _ t382 true _ ?side1 ?side2 ?side3 ?side4 A35.out).mono ?_); (case side1 => repeat (first | exact (Kd.R_reads' HO_10.out).2.2 | (with_reducible refine Kd.C_alloc ?_ _) | (with_reducible refine Kd.C_drewN ?_ _) | (with_reducible refine Kd.C_drew ?_))); (case side2 => exact (Kd.R_reads' HO_10.out).2.1); (case side3 => repeat (first | exact (Kd.R_reads' HO384.out).2.2 | (with_reducible refine Kd.C_alloc ?_ _) | (with_reducible refine Kd.C_drewN ?_ _) | (with_reducible refine Kd.C_drew ?_))); (case side4 => exact (Kd.R_reads' HO384.out).2.1); rintro e w61 ⟨rfl, hb⟩; refine ⟨_, rfl, ?_⟩; have n0_ := Aside0.mk (Kd.R_below (bR HO_10.out) hb); have n1_ := Aside0.mk (Kd.R_below (bR HO_11.out) hb); have n2_ := Aside0.mk (Kd.R_below (bR HO_12.out) hb); have n3_ := Aside0.mk (Kd.R_below (bR HO384.out) hb); have n4_ := Aside0.mk (below_step (bw HB.out) hb); replace HO_10 := n0_; replace HO_11 := n1_; replace HO_12 := n2_; replace HO384 := n3_; replace HB := n4_; clear n0_ n1_ n2_ n3_ n4_; (try clear hb); (try clear hb2); (try clear hk); (try clear hi)) | ((with_reducible refine gate_callee (f := 8) rfl ?_); refine goesL_ (some 66) rfl rfl Try.func8 (by kernel_rfl) rfl #[.slice A1 l1.length c1] rfl (by (try simp only [mA_]); first | done | rfl | (simp only [List.length_drop, List.length_take]; rfl)) ?_; (with_reducible refine (laws_toIntA2S.calls kj16 _ _ l1 t386 _ ?side1 ?side2 A37.out).mono ?_); (case side1 => first | exact bC HR1.out HB.out | exact Kd.C_below HR1.out HB.out); (case side2 => exact HC1.out); rintro e w62 ⟨v387, rfl, ho0, hb⟩; refine ⟨_, rfl, ?_⟩; have n0_ := Aside0.mk (Kd.R_below (bR HO_10.out) hb); have n1_ := Aside0.mk (Kd.R_elder' (bR HO_11.out) (Kd.R_base ho0) hb); have n2_ := Aside0.mk (Kd.R_below (bR HO_12.out) hb); have n3_ := Aside0.mk (Kd.R_below (bR HO384.out) hb); have n4_ := Aside0.mk (Kd.R_lower (Kd.R_new' ho0 (Kd.R_lt (bR HO_11.out))) (below_size (bw HB.out))); have n5_ := Aside0.mk (below_step (bw HB.out) hb); replace HO_10 := n0_; replace HO_11 := n1_; replace HO_12 := n2_; replace HO384 := n3_; have HO388 := n4_; replace HB := n5_; clear n0_ n1_ n2_ n3_ n4_ n5_; (try clear hb); (try clear hb2); (try clear hk); (try clear hi); (try clear ho0); obtain ⟨Ao63, co63, eo63⟩ := Kd.R_slice HO388.out; subst eo63) | ((with_reducible refine gate_callee (f := 12) rfl ?_); refine goesL_ (some 67) rfl rfl Try.func12 (by kernel_rfl) rfl #[.slice Ao29 t374.length co29, .slice Ao63 t386.length co63] rfl (by (try simp only [mA_]); first | done | rfl | (simp only [List.length_drop, List.length_take]; rfl)) ?_; (with_reducible refine (laws_eqIntA2S.calls kj16 _ _ t374 _ _ t386 false _ ?side1 ?side2 ?side3 ?side4 A38.out).mono ?_); (case side1 => repeat (first | exact (Kd.R_reads' HO_11.out).2.2 | (with_reducible refine Kd.C_alloc ?_ _) | (with_reducible refine Kd.C_drewN ?_ _) | (with_reducible refine Kd.C_drew ?_))); (case side2 => exact (Kd.R_reads' HO_11.out).2.1); (case side3 => repeat (first | exact (Kd.R_reads' HO388.out).2.2 | (with_reducible refine Kd.C_alloc ?_ _) | (with_reducible refine Kd.C_drewN ?_ _) | (with_reducible refine Kd.C_drew ?_))); (case side4 => exact (Kd.R_reads' HO388.out).2.1); rintro e w64 ⟨rfl, hb⟩; refine ⟨_, rfl, ?_⟩; have n0_ := Aside0.mk (Kd.R_below (bR HO_10.out) hb); have n1_ := Aside0.mk (Kd.R_below (bR HO_11.out) hb); have n2_ := Aside0.mk (Kd.R_below (bR HO_12.out) hb); have n3_ := Aside0.mk (Kd.R_below (bR HO384.out) hb); have n4_ := Aside0.mk (Kd.R_below (bR HO388.out) hb); have n5_ := Aside0.mk (below_step (bw HB.out) hb); replace HO_10 := n0_; replace HO_11 := n1_; replace HO_12 := n2_; replace HO384 := n3_; replace HO388 := n4_; replace HB := n5_; clear n0_ n1_ n2_ n3_ n4_ n5_; (try clear hb); (try clear hb2); (try clear hk); (try clear hi)))
    go_ret
    exact ⟨by first | rfl | (simp [errW_none, errW_some] <;> rfl) | (simp [*, errW_none, errW_some] <;> rfl), bw HB.out⟩
   subst c39
   have H1 : ((laws_toIntS.f kj16 l2).bind fun t390 => ((laws_eqIntS.f kj16 t377 t390).bind fun t393 => (if t393 = true then (some true) else (some false)))) = some r := by rw [if_pos rfl] at H; exact H
   clear H
   have H := H1
   clear H1
   replace H := Option.bind_eq_some_iff.mp H
   obtain ⟨t390, A400, H⟩ := H
   replace H : ((laws_eqIntS.f kj16 t377 t390).bind fun t393 => (if t393 = true then (some true) else (some false))) = some r := H
   have A40 := Aside0.mk A400
   clear A400
   replace H := Option.bind_eq_some_iff.mp H
   obtain ⟨t393, A410, H⟩ := H
   replace H : (if t393 = true then (some true) else (some false)) = some r := H
   have A41 := Aside0.mk A410
   clear A410
   by_cases c42 : t393 = true
   ·subst c42
    have H1 : (some true) = some r := by rw [if_pos rfl] at H; exact H
    clear H
    have H := H1
    clear H1
    obtain rfl := Option.some.inj H
    go_wp2_with (first | ((with_reducible refine gate_callee (f := 7) rfl ?_); refine goesL_ (some 61) rfl rfl Try.func7 (by kernel_rfl) rfl #[.slice A0 l0.length c0] rfl (by (try simp only [mA_]); first | done | rfl | (simp only [List.length_drop, List.length_take]; rfl)) ?_; (with_reducible refine (laws_toJobS.calls kj16 _ _ l0 t382 _ ?side1 ?side2 A34.out).mono ?_); (case side1 => first | exact bC HR0.out HB.out | exact Kd.C_below HR0.out HB.out); (case side2 => exact HC0.out); rintro e w43 ⟨v383, rfl, ho0, hb⟩; refine ⟨_, rfl, ?_⟩; have n0_ := Aside0.mk (Kd.R_elder' (bR HO_10.out) (Kd.R_base ho0) hb); have n1_ := Aside0.mk (Kd.R_below (bR HO_11.out) hb); have n2_ := Aside0.mk (Kd.R_below (bR HO_12.out) hb); have n3_ := Aside0.mk (Kd.R_lower (Kd.R_new' ho0 (Kd.R_lt (bR HO_10.out))) (below_size (bw HB.out))); have n4_ := Aside0.mk (below_step (bw HB.out) hb); replace HO_10 := n0_; replace HO_11 := n1_; replace HO_12 := n2_; have HO384 := n3_; replace HB := n4_; clear n0_ n1_ n2_ n3_ n4_; (try clear hb); (try clear hb2); (try clear hk); (try clear hi); (try clear ho0); obtain ⟨Ao44, co44, eo44⟩ := Kd.R_slice HO384.out; subst eo44) | ((with_reducible refine gate_callee (f := 11) rfl ?_); refine goesL_ (some 62) rfl rfl Try.func11 (by kernel_rfl) rfl #[.slice Ao28 t371.length co28, .slice Ao44 t382.length co44] rfl (by (try simp only [mA_]); first | done | rfl | (simp only [List.length_drop, List.length_take]; rfl)) ?_; (with_reducible refine (laws_eqJobS.calls kj16 _ _ t371 _ _ t382 true _ ?side1 ?side2 ?side3 ?side4 A35.out).mono ?_); (case side1 => repeat (first | exact (Kd.R_reads' HO_10.out).2.2 | (with_reducible refine Kd.C_alloc ?_ _) | (with_reducible refine Kd.C_drewN ?_ _) | (with_reducible refine Kd.C_drew ?_))); (case side2 => exact (Kd.R_reads' HO_10.out).2.1); (case side3 => repeat (first | exact (Kd.R_reads' HO384.out).2.2 | (with_reducible refine Kd.C_alloc ?_ _) | (with_reducible refine Kd.C_drewN ?_ _) | (with_reducible refine Kd.C_drew ?_))); (case side4 => exact (Kd.R_reads' HO384.out).2.1); rintro e w45 ⟨rfl, hb⟩; refine ⟨_, rfl, ?_⟩; have n0_ := Aside0.mk (Kd.R_below (bR HO_10.out) hb); have n1_ := Aside0.mk (Kd.R_below (bR HO_11.out) hb); have n2_ := Aside0.mk (Kd.R_below (bR HO_12.out) hb); have n3_ := Aside0.mk (Kd.R_below (bR HO384.out) hb); have n4_ := Aside0.mk (below_step (bw HB.out) hb); replace HO_10 := n0_; replace HO_11 := n1_; replace HO_12 := n2_; replace HO384 := n3_; replace HB := n4_; clear n0_ n1_ n2_ n3_ n4_; (try clear hb); (try clear hb2); (try clear hk); (try clear hi)) | ((with_reducible refine gate_callee (f := 8) rfl ?_); refine goesL_ (some 66) rfl rfl Try.func8 (by kernel_rfl) rfl #[.slice A1 l1.length c1] rfl (by (try simp only [mA_]); first | done | rfl | (simp only [List.length_drop, List.length_take]; rfl)) ?_; (with_reducible refine (laws_toIntA2S.calls kj16 _ _ l1 t386 _ ?side1 ?side2 A37.out).mono ?_); (case side1 => first | exact bC HR1.out HB.out | exact Kd.C_below HR1.out HB.out); (case side2 => exact HC1.out); rintro e w46 ⟨v387, rfl, ho0, hb⟩; refine ⟨_, rfl, ?_⟩; have n0_ := Aside0.mk (Kd.R_below (bR HO_10.out) hb); have n1_ := Aside0.mk (Kd.R_elder' (bR HO_11.out) (Kd.R_base ho0) hb); have n2_ := Aside0.mk (Kd.R_below (bR HO_12.out) hb); have n3_ := Aside0.mk (Kd.R_below (bR HO384.out) hb); have n4_ := Aside0.mk (Kd.R_lower (Kd.R_new' ho0 (Kd.R_lt (bR HO_11.out))) (below_size (bw HB.out))); have n5_ := Aside0.mk (below_step (bw HB.out) hb); replace HO_10 := n0_; replace HO_11 := n1_; replace HO_12 := n2_; replace HO384 := n3_; have HO388 := n4_; replace HB := n5_; clear n0_ n1_ n2_ n3_ n4_ n5_; (try clear hb); (try clear hb2); (try clear hk); (try clear hi); (try clear ho0); obtain ⟨Ao47, co47, eo47⟩ := Kd.R_slice HO388.out; subst eo47) | ((with_reducible refine gate_callee (f := 12) rfl ?_); refine goesL_ (some 67) rfl rfl Try.func12 (by kernel_rfl) rfl #[.slice Ao29 t374.length co29, .slice Ao47 t386.length co47] rfl (by (try simp only [mA_]); first | done | rfl | (simp only [List.length_drop, List.length_take]; rfl)) ?_; (with_reducible refine (laws_eqIntA2S.calls kj16 _ _ t374 _ _ t386 true _ ?side1 ?side2 ?side3 ?side4 A38.out).mono ?_); (case side1 => repeat (first | exact (Kd.R_reads' HO_11.out).2.2 | (with_reducible refine Kd.C_alloc ?_ _) | (with_reducible refine Kd.C_drewN ?_ _) | (with_reducible refine Kd.C_drew ?_))); (case side2 => exact (Kd.R_reads' HO_11.out).2.1); (case side3 => repeat (first | exact (Kd.R_reads' HO388.out).2.2 | (with_reducible refine Kd.C_alloc ?_ _) | (with_reducible refine Kd.C_drewN ?_ _) | (with_reducible refine Kd.C_drew ?_))); (case side4 => exact (Kd.R_reads' HO388.out).2.1); rintro e w48 ⟨rfl, hb⟩; refine ⟨_, rfl, ?_⟩; have n0_ := Aside0.mk (Kd.R_below (bR HO_10.out) hb); have n1_ := Aside0.mk (Kd.R_below (bR HO_11.out) hb); have n2_ := Aside0.mk (Kd.R_below (bR HO_12.out) hb); have n3_ := Aside0.mk (Kd.R_below (bR HO384.out) hb); have n4_ := Aside0.mk (Kd.R_below (bR HO388.out) hb); have n5_ := Aside0.mk (below_step (bw HB.out) hb); replace HO_10 := n0_; replace HO_11 := n1_; replace HO_12 := n2_; replace HO384 := n3_; replace HO388 := n4_; replace HB := n5_; clear n0_ n1_ n2_ n3_ n4_ n5_; (try clear hb); (try clear hb2); (try clear hk); (try clear hi)) | ((with_reducible refine gate_callee (f := 9) rfl ?_); refine goesL_ (some 71) rfl rfl Try.func9 (by kernel_rfl) rfl #[.slice A2 l2.length c2] rfl (by (try simp only [mA_]); first | done | rfl | (simp only [List.length_drop, List.length_take]; rfl)) ?_; (with_reducible refine (laws_toIntS.calls kj16 _ _ l2 t390 _ ?side1 ?side2 A40.out).mono ?_); (case side1 => first | exact bC HR2.out HB.out | exact Kd.C_below HR2.out HB.out); (case side2 => exact HC2.out); rintro e w49 ⟨v391, rfl, ho0, hb⟩; refine ⟨_, rfl, ?_⟩; have n0_ := Aside0.mk (Kd.R_below (bR HO_10.out) hb); have n1_ := Aside0.mk (Kd.R_below (bR HO_11.out) hb); have n2_ := Aside0.mk (Kd.R_elder' (bR HO_12.out) (Kd.R_base ho0) hb); have n3_ := Aside0.mk (Kd.R_below (bR HO384.out) hb); have n4_ := Aside0.mk (Kd.R_below (bR HO388.out) hb); have n5_ := Aside0.mk (Kd.R_lower (Kd.R_new' ho0 (Kd.R_lt (bR HO_12.out))) (below_size (bw HB.out))); have n6_ := Aside0.mk (below_step (bw HB.out) hb); replace HO_10 := n0_; replace HO_11 := n1_; replace HO_12 := n2_; replace HO384 := n3_; replace HO388 := n4_; have HO392 := n5_; replace HB := n6_; clear n0_ n1_ n2_ n3_ n4_ n5_ n6_; (try clear hb); (try clear hb2); (try clear hk); (try clear hi); (try clear ho0); obtain ⟨Ao50, co50, eo50⟩ := Kd.R_slice HO392.out; subst eo50) | ((with_reducible refine gate_callee (f := 13) rfl ?_); refine goesL_ (some 72) rfl rfl Try.func13 (by kernel_rfl) rfl #[.slice Ao30 t377.length co30, .slice Ao50 t390.length co50] rfl (by (try simp only [mA_]); first | done | rfl | (simp only [List.length_drop, List.length_take]; rfl)) ?_; (with_reducible refine (laws_eqIntS.calls kj16 _ _ t377 _ _ t390 true _ ?side1 ?side2 ?side3 ?side4 A41.out).mono ?_); (case side1 => repeat (first | exact (Kd.R_reads' HO_12.out).2.2 | (with_reducible refine Kd.C_alloc ?_ _) | (with_reducible refine Kd.C_drewN ?_ _) | (with_reducible refine Kd.C_drew ?_))); (case side2 => exact (Kd.R_reads' HO_12.out).2.1); (case side3 => repeat (first | exact (Kd.R_reads' HO392.out).2.2 | (with_reducible refine Kd.C_alloc ?_ _) | (with_reducible refine Kd.C_drewN ?_ _) | (with_reducible refine Kd.C_drew ?_))); (case side4 => exact (Kd.R_reads' HO392.out).2.1); rintro e w' ⟨rfl, ⟨nd, rfl⟩⟩; refine ⟨_, rfl, ?_⟩))
    go_ret
    exact ⟨by first | rfl | (simp [errW_none, errW_some] <;> rfl) | (simp [*, errW_none, errW_some] <;> rfl), bw HB.out⟩
   replace c42 := Bool.eq_false_iff.mpr c42
   subst c42
   have H1 : (some false) = some r := by rw [if_neg (show ¬ (false = true) by decide)] at H; exact H
   clear H
   have H := H1
   clear H1
   obtain rfl := Option.some.inj H
   go_wp2_with (first | ((with_reducible refine gate_callee (f := 7) rfl ?_); refine goesL_ (some 61) rfl rfl Try.func7 (by kernel_rfl) rfl #[.slice A0 l0.length c0] rfl (by (try simp only [mA_]); first | done | rfl | (simp only [List.length_drop, List.length_take]; rfl)) ?_; (with_reducible refine (laws_toJobS.calls kj16 _ _ l0 t382 _ ?side1 ?side2 A34.out).mono ?_); (case side1 => first | exact bC HR0.out HB.out | exact Kd.C_below HR0.out HB.out); (case side2 => exact HC0.out); rintro e w51 ⟨v383, rfl, ho0, hb⟩; refine ⟨_, rfl, ?_⟩; have n0_ := Aside0.mk (Kd.R_elder' (bR HO_10.out) (Kd.R_base ho0) hb); have n1_ := Aside0.mk (Kd.R_below (bR HO_11.out) hb); have n2_ := Aside0.mk (Kd.R_below (bR HO_12.out) hb); have n3_ := Aside0.mk (Kd.R_lower (Kd.R_new' ho0 (Kd.R_lt (bR HO_10.out))) (below_size (bw HB.out))); have n4_ := Aside0.mk (below_step (bw HB.out) hb); replace HO_10 := n0_; replace HO_11 := n1_; replace HO_12 := n2_; have HO384 := n3_; replace HB := n4_; clear n0_ n1_ n2_ n3_ n4_; (try clear hb); (try clear hb2); (try clear hk); (try clear hi); (try clear ho0); obtain ⟨Ao52, co52, eo52⟩ := Kd.R_slice HO384.out; subst eo52) | ((with_reducible refine gate_callee (f := 11) rfl ?_); refine goesL_ (some 62) rfl rfl Try.func11 (by kernel_rfl) rfl #[.slice Ao28 t371.length co28, .slice Ao52 t382.length co52] rfl (by (try simp only [mA_]); first | done | rfl | (simp only [List.length_drop, List.length_take]; rfl)) ?_; (with_reducible refine (laws_eqJobS.calls kj16 _ _ t371 _ _ t382 true _ ?side1 ?side2 ?side3 ?side4 A35.out).mono ?_); (case side1 => repeat (first | exact (Kd.R_reads' HO_10.out).2.2 | (with_reducible refine Kd.C_alloc ?_ _) | (with_reducible refine Kd.C_drewN ?_ _) | (with_reducible refine Kd.C_drew ?_))); (case side2 => exact (Kd.R_reads' HO_10.out).2.1); (case side3 => repeat (first | exact (Kd.R_reads' HO384.out).2.2 | (with_reducible refine Kd.C_alloc ?_ _) | (with_reducible refine Kd.C_drewN ?_ _) | (with_reducible refine Kd.C_drew ?_))); (case side4 => exact (Kd.R_reads' HO384.out).2.1); rintro e w53 ⟨rfl, hb⟩; refine ⟨_, rfl, ?_⟩; have n0_ := Aside0.mk (Kd.R_below (bR HO_10.out) hb); have n1_ := Aside0.mk (Kd.R_below (bR HO_11.out) hb); have n2_ := Aside0.mk (Kd.R_below (bR HO_12.out) hb); have n3_ := Aside0.mk (Kd.R_below (bR HO384.out) hb); have n4_ := Aside0.mk (below_step (bw HB.out) hb); replace HO_10 := n0_; replace HO_11 := n1_; replace HO_12 := n2_; replace HO384 := n3_; replace HB := n4_; clear n0_ n1_ n2_ n3_ n4_; (try clear hb); (try clear hb2); (try clear hk); (try clear hi)) | ((with_reducible refine gate_callee (f := 8) rfl ?_); refine goesL_ (some 66) rfl rfl Try.func8 (by kernel_rfl) rfl #[.slice A1 l1.length c1] rfl (by (try simp only [mA_]); first | done | rfl | (simp only [List.length_drop, List.length_take]; rfl)) ?_; (with_reducible refine (laws_toIntA2S.calls kj16 _ _ l1 t386 _ ?side1 ?side2 A37.out).mono ?_); (case side1 => first | exact bC HR1.out HB.out | exact Kd.C_below HR1.out HB.out); (case side2 => exact HC1.out); rintro e w54 ⟨v387, rfl, ho0, hb⟩; refine ⟨_, rfl, ?_⟩; have n0_ := Aside0.mk (Kd.R_below (bR HO_10.out) hb); have n1_ := Aside0.mk (Kd.R_elder' (bR HO_11.out) (Kd.R_base ho0) hb); have n2_ := Aside0.mk (Kd.R_below (bR HO_12.out) hb); have n3_ := Aside0.mk (Kd.R_below (bR HO384.out) hb); have n4_ := Aside0.mk (Kd.R_lower (Kd.R_new' ho0 (Kd.R_lt (bR HO_11.out))) (below_size (bw HB.out))); have n5_ := Aside0.mk (below_step (bw HB.out) hb); replace HO_10 := n0_; replace HO_11 := n1_; replace HO_12 := n2_; replace HO384 := n3_; have HO388 := n4_; replace HB := n5_; clear n0_ n1_ n2_ n3_ n4_ n5_; (try clear hb); (try clear hb2); (try clear hk); (try clear hi); (try clear ho0); obtain ⟨Ao55, co55, eo55⟩ := Kd.R_slice HO388.out; subst eo55) | ((with_reducible refine gate_callee (f := 12) rfl ?_); refine goesL_ (some 67) rfl rfl Try.func12 (by kernel_rfl) rfl #[.slice Ao29 t374.length co29, .slice Ao55 t386.length co55] rfl (by (try simp only [mA_]); first | done | rfl | (simp only [List.length_drop, List.length_take]; rfl)) ?_; (with_reducible refine (laws_eqIntA2S.calls kj16 _ _ t374 _ _ t386 true _ ?side1 ?side2 ?side3 ?side4 A38.out).mono ?_); (case side1 => repeat (first | exact (Kd.R_reads' HO_11.out).2.2 | (with_reducible refine Kd.C_alloc ?_ _) | (with_reducible refine Kd.C_drewN ?_ _) | (with_reducible refine Kd.C_drew ?_))); (case side2 => exact (Kd.R_reads' HO_11.out).2.1); (case side3 => repeat (first | exact (Kd.R_reads' HO388.out).2.2 | (with_reducible refine Kd.C_alloc ?_ _) | (with_reducible refine Kd.C_drewN ?_ _) | (with_reducible refine Kd.C_drew ?_))); (case side4 => exact (Kd.R_reads' HO388.out).2.1); rintro e w56 ⟨rfl, hb⟩; refine ⟨_, rfl, ?_⟩; have n0_ := Aside0.mk (Kd.R_below (bR HO_10.out) hb); have n1_ := Aside0.mk (Kd.R_below (bR HO_11.out) hb); have n2_ := Aside0.mk (Kd.R_below (bR HO_12.out) hb); have n3_ := Aside0.mk (Kd.R_below (bR HO384.out) hb); have n4_ := Aside0.mk (Kd.R_below (bR HO388.out) hb); have n5_ := Aside0.mk (below_step (bw HB.out) hb); replace HO_10 := n0_; replace HO_11 := n1_; replace HO_12 := n2_; replace HO384 := n3_; replace HO388 := n4_; replace HB := n5_; clear n0_ n1_ n2_ n3_ n4_ n5_; (try clear hb); (try clear hb2); (try clear hk); (try clear hi)) | ((with_reducible refine gate_callee (f := 9) rfl ?_); refine goesL_ (some 71) rfl rfl Try.func9 (by kernel_rfl) rfl #[.slice A2 l2.length c2] rfl (by (try simp only [mA_]); first | done | rfl | (simp only [List.length_drop, List.length_take]; rfl)) ?_; (with_reducible refine (laws_toIntS.calls kj16 _ _ l2 t390 _ ?side1 ?side2 A40.out).mono ?_); (case side1 => first | exact bC HR2.out HB.out | exact Kd.C_below HR2.out HB.out); (case side2 => exact HC2.out); rintro e w57 ⟨v391, rfl, ho0, hb⟩; refine ⟨_, rfl, ?_⟩; have n0_ := Aside0.mk (Kd.R_below (bR HO_10.out) hb); have n1_ := Aside0.mk (Kd.R_below (bR HO_11.out) hb); have n2_ := Aside0.mk (Kd.R_elder' (bR HO_12.out) (Kd.R_base ho0) hb); have n3_ := Aside0.mk (Kd.R_below (bR HO384.out) hb); have n4_ := Aside0.mk (Kd.R_below (bR HO388.out) hb); have n5_ := Aside0.mk (Kd.R_lower (Kd.R_new' ho0 (Kd.R_lt (bR HO_12.out))) (below_size (bw HB.out))); have n6_ := Aside0.mk (below_step (bw HB.out) hb); replace HO_10 := n0_; replace HO_11 := n1_; replace HO_12 := n2_; replace HO384 := n3_; replace HO388 := n4_; have HO392 := n5_; replace HB := n6_; clear n0_ n1_ n2_ n3_ n4_ n5_ n6_; (try clear hb); (try clear hb2); (try clear hk); (try clear hi); (try clear ho0); obtain ⟨Ao58, co58, eo58⟩ := Kd.R_slice HO392.out; subst eo58) | ((with_reducible refine gate_callee (f := 13) rfl ?_); refine goesL_ (some 72) rfl rfl Try.func13 (by kernel_rfl) rfl #[.slice Ao30 t377.length co30, .slice Ao58 t390.length co58] rfl (by (try simp only [mA_]); first | done | rfl | (simp only [List.length_drop, List.length_take]; rfl)) ?_; (with_reducible refine (laws_eqIntS.calls kj16 _ _ t377 _ _ t390 false _ ?side1 ?side2 ?side3 ?side4 A41.out).mono ?_); (case side1 => repeat (first | exact (Kd.R_reads' HO_12.out).2.2 | (with_reducible refine Kd.C_alloc ?_ _) | (with_reducible refine Kd.C_drewN ?_ _) | (with_reducible refine Kd.C_drew ?_))); (case side2 => exact (Kd.R_reads' HO_12.out).2.1); (case side3 => repeat (first | exact (Kd.R_reads' HO392.out).2.2 | (with_reducible refine Kd.C_alloc ?_ _) | (with_reducible refine Kd.C_drewN ?_ _) | (with_reducible refine Kd.C_drew ?_))); (case side4 => exact (Kd.R_reads' HO392.out).2.1); rintro e w' ⟨rfl, ⟨nd, rfl⟩⟩; refine ⟨_, rfl, ?_⟩))
   go_ret
   exact ⟨by first | rfl | (simp [errW_none, errW_some] <;> rfl) | (simp [*, errW_none, errW_some] <;> rfl), bw HB.out⟩

end Go.Proofs.Ytlnimgebhpfdjaa.X
