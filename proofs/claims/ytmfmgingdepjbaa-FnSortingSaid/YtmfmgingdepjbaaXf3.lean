-- Written by a program of this session (wip/gen/xp.py, over the kit's printer). Not trusted: Lean checks it.
import Derived.Test.YtmfmgingdepjbaaX0
import Derived.Test.YtmfmgingdepjbaaXf11
import Derived.Test.YtmfmgingdepjbaaXf4
import Derived.Test.YtmfmgingdepjbaaXf5
import Derived.Test.YtmfmgingdepjbaaXf6
namespace Go.Proofs.Ytmfmgingdepjbaa.X
open Go.RowKit Go.Proofs.YtmfmgingdepjbaaW.PrintWords Go.Proofs.YtmfmgingdepjbaaW.PrintLast Go.Proofs.YtmfmgingdepjbaaW.PrintMore
attribute [local go_sem] max2_int min2_int max_two min_two max_three min_three max_four min_four   -- for this text's walks alone
set_option linter.unusedVariables false
set_option linter.unusedSimpArgs false

/-! ### laws_FnSorting: function 3 -/
abbrev q3_0 : Array Bool := ⟨rl_ [15] false⟩
abbrev q3_9 : Array Bool := ⟨rl_ [9, 6] true⟩
abbrev q3_10 : Array Bool := ⟨rl_ [10, 5] true⟩
abbrev q3_13 : Array Bool := ⟨rl_ [13, 2] true⟩
abbrev q3_15 : Array Bool := ⟨rl_ [15] true⟩
mutual
def laws_FnSorting.j0 : Nat → List (S42) → List Int → Int → List Int → List Int → Bool → Bool → Option (Bool)
 | 0, _, _, _, _, _, _, _ => none
 | k + 1, x3, x4, x5, x6, x7, x8, x61 => if x61 = true then (some false) else (if x8 = true then ((impl_InversionsOf.f k x3 x4 x5).bind fun bt502 => ((laws_vOwn.f x4).bind fun t506 => (laws_FnSorting.l0 k x3 x5 x6 x7 bt502.1 t506 0))) else (some true))
def laws_FnSorting.l0 : Nat → List (S42) → Int → List Int → List Int → List (S63) → List Int → Int → Option (Bool)
 | 0, _, _, _, _, _, _, _ => none
 | k + 1, x3, x5, x6, x7, x12, x14, x15 => if x15 < (x6.length : Int) then (if 0 ≤ x15 then ((impl_ExchangeGain.f k x3 x14 (rd x6 x15) x5).bind fun bt510 => (if bt510.2 = true then (if bt510.1 < 0 then (some false) else (if 0 ≤ (rd x6 x15) then (if (rd x6 x15) < (x14.length : Int) then (if 0 ≤ (wrap64 ((rd x6 x15) + 1)) then (if (wrap64 ((rd x6 x15) + 1)) < (x14.length : Int) then (laws_FnSorting.l0 k x3 x5 x6 x7 x12 ((x14.set ((rd x6 x15) : Int).toNat (rd x14 (wrap64 ((rd x6 x15) + 1)))).set ((wrap64 ((rd x6 x15) + 1)) : Int).toNat (rd x14 (rd x6 x15))) (wrap64 (x15 + 1))) else (none)) else (none)) else (none)) else (none))) else (some false))) else (none)) else ((impl_IsRuledOrder.f k x3 x7 x5).bind fun bt520 => ((impl_IsBestOrder.f k x3 x7 x5).bind fun bt522 => ((laws_vInts.f k x14 x7).bind fun t524 => (if t524 = true then (if bt520.1 = true then (if bt522.1 = true then (some ((x6.length : Int) == (x12.length : Int))) else (some false)) else (some false)) else (some false)))))
end
def laws_FnSorting.f (k : Nat) (l0 : List Int) : Option (Bool) := (laws_vBig.f l0).bind fun t478 => (if t478 = true then (some true) else ((spec_DrawSortingExchanges.f k l0).bind fun bt479 => ((impl_SortingExchanges.f k bt479.1 bt479.2.1 bt479.2.2).bind fun bt486 => ((spec_SortingExchanges.f k bt479.1 bt479.2.1 bt479.2.2).bind fun bt493 => (if (bt486.2.2 != bt493.2.2) = true then (laws_FnSorting.j0 k bt479.1 bt479.2.1 bt479.2.2 bt486.1 bt486.2.1 bt486.2.2 true) else ((laws_vInts.f k bt486.1 bt493.1).bind fun t500 => (if t500 = true then ((laws_vInts.f k bt486.2.1 bt493.2.1).bind fun t501 => (laws_FnSorting.j0 k bt479.1 bt479.2.1 bt479.2.2 bt486.1 bt486.2.1 bt486.2.2 (!t501))) else (laws_FnSorting.j0 k bt479.1 bt479.2.1 bt479.2.2 bt486.1 bt486.2.1 bt486.2.2 true))))))))
theorem laws_FnSorting.mono_l : ∀ k, (∀ y0 y1 y2 y3 y4 y5 y6, LeO (laws_FnSorting.j0 k y0 y1 y2 y3 y4 y5 y6) (laws_FnSorting.j0 (k + 1) y0 y1 y2 y3 y4 y5 y6)) ∧ (∀ y0 y1 y2 y3 y4 y5 y6, LeO (laws_FnSorting.l0 k y0 y1 y2 y3 y4 y5 y6) (laws_FnSorting.l0 (k + 1) y0 y1 y2 y3 y4 y5 y6))
 | 0 => ⟨fun _ _ _ _ _ _ _ r h => by simp [laws_FnSorting.j0] at h, fun _ _ _ _ _ _ _ r h => by simp [laws_FnSorting.l0] at h⟩
 | k + 1 => by
  obtain ⟨ih0, ih1⟩ := laws_FnSorting.mono_l k
  refine ⟨?_, ?_⟩
  ·intro y0 y1 y2 y3 y4 y5 y6
   unfold laws_FnSorting.j0
   repeat' first
   | (with_reducible exact ih0 _ _ _ _ _ _ _)
   | (with_reducible exact ih1 _ _ _ _ _ _ _)
   | (with_reducible exact impl_ExchangeGain.mono _ _ _ _ _)
   | (with_reducible exact impl_InversionsOf.mono _ _ _ _)
   | (with_reducible exact impl_IsBestOrder.mono _ _ _ _)
   | (with_reducible exact impl_IsRuledOrder.mono _ _ _ _)
   | (with_reducible exact impl_SortingExchanges.mono _ _ _ _)
   | (with_reducible exact laws_vInts.mono _ _ _)
   | (with_reducible exact spec_DrawSortingExchanges.mono _ _)
   | (with_reducible exact spec_SortingExchanges.mono _ _ _ _)
   | (with_reducible exact LeO.refl _)
   | (with_reducible exact LeO.none _)
   | (with_reducible refine LeO.ite ?_ ?_)
   | (with_reducible refine LeO.bind ?_ (fun _ => ?_))
   | exact ih0 _ _ _ _ _ _ _
   | exact ih1 _ _ _ _ _ _ _
   | exact impl_ExchangeGain.mono _ _ _ _ _
   | exact impl_InversionsOf.mono _ _ _ _
   | exact impl_IsBestOrder.mono _ _ _ _
   | exact impl_IsRuledOrder.mono _ _ _ _
   | exact impl_SortingExchanges.mono _ _ _ _
   | exact laws_vInts.mono _ _ _
   | exact spec_DrawSortingExchanges.mono _ _
   | exact spec_SortingExchanges.mono _ _ _ _
   | exact LeO.none _
   | refine LeO.ite ?_ ?_
   | refine LeO.bind ?_ (fun _ => ?_)
  ·intro y0 y1 y2 y3 y4 y5 y6
   unfold laws_FnSorting.l0
   repeat' first
   | (with_reducible exact ih0 _ _ _ _ _ _ _)
   | (with_reducible exact ih1 _ _ _ _ _ _ _)
   | (with_reducible exact impl_ExchangeGain.mono _ _ _ _ _)
   | (with_reducible exact impl_InversionsOf.mono _ _ _ _)
   | (with_reducible exact impl_IsBestOrder.mono _ _ _ _)
   | (with_reducible exact impl_IsRuledOrder.mono _ _ _ _)
   | (with_reducible exact impl_SortingExchanges.mono _ _ _ _)
   | (with_reducible exact laws_vInts.mono _ _ _)
   | (with_reducible exact spec_DrawSortingExchanges.mono _ _)
   | (with_reducible exact spec_SortingExchanges.mono _ _ _ _)
   | (with_reducible exact LeO.refl _)
   | (with_reducible exact LeO.none _)
   | (with_reducible refine LeO.ite ?_ ?_)
   | (with_reducible refine LeO.bind ?_ (fun _ => ?_))
   | exact ih0 _ _ _ _ _ _ _
   | exact ih1 _ _ _ _ _ _ _
   | exact impl_ExchangeGain.mono _ _ _ _ _
   | exact impl_InversionsOf.mono _ _ _ _
   | exact impl_IsBestOrder.mono _ _ _ _
   | exact impl_IsRuledOrder.mono _ _ _ _
   | exact impl_SortingExchanges.mono _ _ _ _
   | exact laws_vInts.mono _ _ _
   | exact spec_DrawSortingExchanges.mono _ _
   | exact spec_SortingExchanges.mono _ _ _ _
   | exact LeO.none _
   | refine LeO.ite ?_ ?_
   | refine LeO.bind ?_ (fun _ => ?_)
theorem laws_FnSorting.mono : ∀ a0 k, LeO (laws_FnSorting.f k a0) (laws_FnSorting.f (k + 1) a0) := by
 intro a0 k
 obtain ⟨ih0, ih1⟩ := laws_FnSorting.mono_l k
 unfold laws_FnSorting.f
 repeat' first
   | (with_reducible exact ih0 _ _ _ _ _ _ _)
   | (with_reducible exact ih1 _ _ _ _ _ _ _)
   | (with_reducible exact impl_ExchangeGain.mono _ _ _ _ _)
   | (with_reducible exact impl_InversionsOf.mono _ _ _ _)
   | (with_reducible exact impl_IsBestOrder.mono _ _ _ _)
   | (with_reducible exact impl_IsRuledOrder.mono _ _ _ _)
   | (with_reducible exact impl_SortingExchanges.mono _ _ _ _)
   | (with_reducible exact laws_vInts.mono _ _ _)
   | (with_reducible exact spec_DrawSortingExchanges.mono _ _)
   | (with_reducible exact spec_SortingExchanges.mono _ _ _ _)
   | (with_reducible exact LeO.refl _)
   | (with_reducible exact LeO.none _)
   | (with_reducible refine LeO.ite ?_ ?_)
   | (with_reducible refine LeO.bind ?_ (fun _ => ?_))
   | exact ih0 _ _ _ _ _ _ _
   | exact ih1 _ _ _ _ _ _ _
   | exact impl_ExchangeGain.mono _ _ _ _ _
   | exact impl_InversionsOf.mono _ _ _ _
   | exact impl_IsBestOrder.mono _ _ _ _
   | exact impl_IsRuledOrder.mono _ _ _ _
   | exact impl_SortingExchanges.mono _ _ _ _
   | exact laws_vInts.mono _ _ _
   | exact spec_DrawSortingExchanges.mono _ _
   | exact spec_SortingExchanges.mono _ _ _ _
   | exact LeO.none _
   | refine LeO.ite ?_ ?_
   | refine LeO.bind ?_ (fun _ => ?_)
def laws_FnSorting.T19 : Bool × List (List Nat × List Nat) := (true, [([], []), ([], []), ([], []), ([1, 2], [1, 2]), ([3], [3]), ([], []), ([], []), ([], []), ([6, 7], [6, 7]), ([8], [8]), ([9], [9]), ([5, 10], [5, 10]), ([11], [11]), ([0, 4, 0, 1, 2, 3, 4, 5, 6, 7, 8, 9, 10, 11, 12], [0, 4]), ([13, 12, 0, 1, 2, 3, 4, 5, 6, 7, 8, 9, 10, 11, 12], [12, 13])])
def laws_FnSorting.B19 : List Nat := [0, 0, 0, 6, 14, 0, 0, 0, 192, 448, 960, 2016, 4064, 8191, 16383]
theorem laws_FnSorting.tab19 : rtab .any (opsOf Try.f3 19) = laws_FnSorting.T19 := by kernel_rfl
theorem laws_FnSorting.bits19 : waitsOk laws_FnSorting.T19.2 laws_FnSorting.B19 = true := by kernel_rfl
set_option maxHeartbeats 8000000 in
set_option maxRecDepth 100000 in
theorem laws_FnSorting.calls (k : Nat) (A0 : Option Addr) (c0 : Nat) (l0 : List Int) (r : Bool) (w : World) (hr0 : Kd.C (Kd.int .u8) w A0 l0.length l0) (hc0 : l0.length ≤ c0) (h : laws_FnSorting.f k l0 = some r) :
  Calls Try.prog 3 #[.slice A0 l0.length c0] w fun e w' => e = .returned (.bool r) ∧ Below w.heap.size w w' := by
 have HR0 := Aside0.mk hr0
 have HC0 := Aside0.mk hc0
 clear hr0 hc0
 have HB := Aside0.mk (Below.refl w.heap.size w)
 have H : ((laws_vBig.f l0).bind fun t478 => (if t478 = true then (some true) else ((spec_DrawSortingExchanges.f k l0).bind fun bt479 => ((impl_SortingExchanges.f k bt479.1 bt479.2.1 bt479.2.2).bind fun bt486 => ((spec_SortingExchanges.f k bt479.1 bt479.2.1 bt479.2.2).bind fun bt493 => (if (bt486.2.2 != bt493.2.2) = true then (laws_FnSorting.j0 k bt479.1 bt479.2.1 bt479.2.2 bt486.1 bt486.2.1 bt486.2.2 true) else ((laws_vInts.f k bt486.1 bt493.1).bind fun t500 => (if t500 = true then ((laws_vInts.f k bt486.2.1 bt493.2.1).bind fun t501 => (laws_FnSorting.j0 k bt479.1 bt479.2.1 bt479.2.2 bt486.1 bt486.2.1 bt486.2.2 (!t501))) else (laws_FnSorting.j0 k bt479.1 bt479.2.1 bt479.2.2 bt486.1 bt486.2.1 bt486.2.2 true))))))))) = some r := h
 clear h
 replace H := Option.bind_eq_some_iff.mp H
 obtain ⟨t478, A20, H⟩ := H
 replace H : (if t478 = true then (some true) else ((spec_DrawSortingExchanges.f k l0).bind fun bt479 => ((impl_SortingExchanges.f k bt479.1 bt479.2.1 bt479.2.2).bind fun bt486 => ((spec_SortingExchanges.f k bt479.1 bt479.2.1 bt479.2.2).bind fun bt493 => (if (bt486.2.2 != bt493.2.2) = true then (laws_FnSorting.j0 k bt479.1 bt479.2.1 bt479.2.2 bt486.1 bt486.2.1 bt486.2.2 true) else ((laws_vInts.f k bt486.1 bt493.1).bind fun t500 => (if t500 = true then ((laws_vInts.f k bt486.2.1 bt493.2.1).bind fun t501 => (laws_FnSorting.j0 k bt479.1 bt479.2.1 bt479.2.2 bt486.1 bt486.2.1 bt486.2.2 (!t501))) else (laws_FnSorting.j0 k bt479.1 bt479.2.1 bt479.2.2 bt486.1 bt486.2.1 bt486.2.2 true)))))))) = some r := H
 have A2 := Aside0.mk A20
 clear A20
 by_cases c3 : t478 = true
 ·subst c3
  have H1 : (some true) = some r := by rw [if_pos rfl] at H; exact H
  clear H
  have H := H1
  clear H1
  obtain rfl := Option.some.inj H
  go_enter Try.func3, Try.ntmps3
  go_wp2_with (first | ((with_reducible refine gate_callee (f := 4) rfl ?_); refine goesL_ (some 24) rfl rfl Try.func4 (by kernel_rfl) rfl #[.slice A0 l0.length c0] rfl (by (try simp only [mA_]); first | done | rfl | (simp only [List.length_drop, List.length_take]; rfl)) ?_; (with_reducible refine (laws_vBig.calls _ _ l0 true _ ?side1 ?side2 A2.out).mono ?_); (case side1 => repeat (first | exact HR0.out | (with_reducible refine Kd.C_alloc ?_ _) | (with_reducible refine Kd.C_drewN ?_ _) | (with_reducible refine Kd.C_drew ?_))); (case side2 => exact HC0.out); rintro e w' ⟨rfl, ⟨nd, rfl⟩⟩; refine ⟨_, rfl, ?_⟩))
  go_ret
  exact ⟨by first | rfl | (simp [errW_none, errW_some] <;> rfl) | (simp [*, errW_none, errW_some] <;> rfl), bw HB.out⟩
 replace c3 := Bool.eq_false_iff.mpr c3
 subst c3
 have H1 : ((spec_DrawSortingExchanges.f k l0).bind fun bt479 => ((impl_SortingExchanges.f k bt479.1 bt479.2.1 bt479.2.2).bind fun bt486 => ((spec_SortingExchanges.f k bt479.1 bt479.2.1 bt479.2.2).bind fun bt493 => (if (bt486.2.2 != bt493.2.2) = true then (laws_FnSorting.j0 k bt479.1 bt479.2.1 bt479.2.2 bt486.1 bt486.2.1 bt486.2.2 true) else ((laws_vInts.f k bt486.1 bt493.1).bind fun t500 => (if t500 = true then ((laws_vInts.f k bt486.2.1 bt493.2.1).bind fun t501 => (laws_FnSorting.j0 k bt479.1 bt479.2.1 bt479.2.2 bt486.1 bt486.2.1 bt486.2.2 (!t501))) else (laws_FnSorting.j0 k bt479.1 bt479.2.1 bt479.2.2 bt486.1 bt486.2.1 bt486.2.2 true))))))) = some r := by rw [if_neg (show ¬ (false = true) by decide)] at H; exact H
 clear H
 have H := H1
 clear H1
 replace H := Option.bind_eq_some_iff.mp H
 obtain ⟨⟨t479, t480, t481⟩, A40, H⟩ := H
 replace H : ((impl_SortingExchanges.f k t479 t480 t481).bind fun bt486 => ((spec_SortingExchanges.f k t479 t480 t481).bind fun bt493 => (if (bt486.2.2 != bt493.2.2) = true then (laws_FnSorting.j0 k t479 t480 t481 bt486.1 bt486.2.1 bt486.2.2 true) else ((laws_vInts.f k bt486.1 bt493.1).bind fun t500 => (if t500 = true then ((laws_vInts.f k bt486.2.1 bt493.2.1).bind fun t501 => (laws_FnSorting.j0 k t479 t480 t481 bt486.1 bt486.2.1 bt486.2.2 (!t501))) else (laws_FnSorting.j0 k t479 t480 t481 bt486.1 bt486.2.1 bt486.2.2 true)))))) = some r := H
 have A4 := Aside0.mk A40
 clear A40
 replace H := Option.bind_eq_some_iff.mp H
 obtain ⟨⟨t486, t487, t488⟩, A50, H⟩ := H
 replace H : ((spec_SortingExchanges.f k t479 t480 t481).bind fun bt493 => (if (t488 != bt493.2.2) = true then (laws_FnSorting.j0 k t479 t480 t481 t486 t487 t488 true) else ((laws_vInts.f k t486 bt493.1).bind fun t500 => (if t500 = true then ((laws_vInts.f k t487 bt493.2.1).bind fun t501 => (laws_FnSorting.j0 k t479 t480 t481 t486 t487 t488 (!t501))) else (laws_FnSorting.j0 k t479 t480 t481 t486 t487 t488 true))))) = some r := H
 have A5 := Aside0.mk A50
 clear A50
 replace H := Option.bind_eq_some_iff.mp H
 obtain ⟨⟨t493, t494, t495⟩, A60, H⟩ := H
 replace H : (if (t488 != t495) = true then (laws_FnSorting.j0 k t479 t480 t481 t486 t487 t488 true) else ((laws_vInts.f k t486 t493).bind fun t500 => (if t500 = true then ((laws_vInts.f k t487 t494).bind fun t501 => (laws_FnSorting.j0 k t479 t480 t481 t486 t487 t488 (!t501))) else (laws_FnSorting.j0 k t479 t480 t481 t486 t487 t488 true)))) = some r := H
 have A6 := Aside0.mk A60
 clear A60
 have HC7 := Aside0.mk H
 clear H
 go_enter Try.func3, Try.ntmps3
 go_upto_region 6 with (first | ((with_reducible refine gate_callee (f := 4) rfl ?_); refine goesL_ (some 24) rfl rfl Try.func4 (by kernel_rfl) rfl #[.slice A0 l0.length c0] rfl (by (try simp only [mA_]); first | done | rfl | (simp only [List.length_drop, List.length_take]; rfl)) ?_; (with_reducible refine (laws_vBig.calls _ _ l0 false _ ?side1 ?side2 A2.out).mono ?_); (case side1 => repeat (first | exact HR0.out | (with_reducible refine Kd.C_alloc ?_ _) | (with_reducible refine Kd.C_drewN ?_ _) | (with_reducible refine Kd.C_drew ?_))); (case side2 => exact HC0.out); rintro e w' ⟨rfl, ⟨nd, rfl⟩⟩; refine ⟨_, rfl, ?_⟩) | ((with_reducible refine gate_callee (f := 5) rfl ?_); refine goesL_ (some 27) rfl rfl Try.func5 (by kernel_rfl) rfl #[.slice A0 l0.length c0] rfl (by (try simp only [mA_]); first | done | rfl | (simp only [List.length_drop, List.length_take]; rfl)) ?_; (with_reducible refine (spec_DrawSortingExchanges.calls k _ _ l0 t479 t480 t481 _ ?side1 ?side2 A4.out).mono ?_); (case side1 => repeat (first | exact HR0.out | (with_reducible refine Kd.C_alloc ?_ _) | (with_reducible refine Kd.C_drewN ?_ _) | (with_reducible refine Kd.C_drew ?_))); (case side2 => exact HC0.out); rintro e w8 ⟨v482, v484, rfl, ho0, ho1, hb⟩; refine ⟨_, rfl, ?_⟩; have n0_ := Aside0.mk (Kd.R_lower ho0 (below_size (bw HB.out))); have n1_ := Aside0.mk (Kd.R_lower ho1 (below_size (bw HB.out))); have n2_ := Aside0.mk (below_step (bw HB.out) hb); have HO483 := n0_; have HO485 := n1_; replace HB := n2_; clear n0_ n1_ n2_; (try clear hb); (try clear hb2); (try clear hk); (try clear hi); (try clear ho0); (try clear ho1); obtain ⟨Ao9, co9, eo9⟩ := Kd.R_slice HO483.out; subst eo9; obtain ⟨Ao10, co10, eo10⟩ := Kd.R_slice HO485.out; subst eo10) | ((with_reducible refine gate_callee (f := 6) rfl ?_); refine goesL_ (some 35) rfl rfl Try.func6 (by kernel_rfl) rfl #[.slice Ao9 t479.length co9, .slice Ao10 t480.length co10, .int .i64 t481] rfl (by (try simp only [mA_]); first | done | rfl | (simp only [List.length_drop, List.length_take]; rfl)) ?_; (with_reducible refine (impl_SortingExchanges.calls k _ _ t479 _ _ t480 t481 t486 t487 t488 _ ?side1 ?side2 ?side3 ?side4 A5.out).mono ?_); (case side1 => repeat (first | exact (Kd.R_reads' HO483.out).2.2 | (with_reducible refine Kd.C_alloc ?_ _) | (with_reducible refine Kd.C_drewN ?_ _) | (with_reducible refine Kd.C_drew ?_))); (case side2 => exact (Kd.R_reads' HO483.out).2.1); (case side3 => repeat (first | exact (Kd.R_reads' HO485.out).2.2 | (with_reducible refine Kd.C_alloc ?_ _) | (with_reducible refine Kd.C_drewN ?_ _) | (with_reducible refine Kd.C_drew ?_))); (case side4 => exact (Kd.R_reads' HO485.out).2.1); rintro e w11 ⟨v489, v491, rfl, ho0, ho1, hb⟩; refine ⟨_, rfl, ?_⟩; have n0_ := Aside0.mk (Kd.R_below (bR HO483.out) hb); have n1_ := Aside0.mk (Kd.R_mono (Kd.R_told (Kd.R_told (Kd.R_old (bR HO485.out) hb) (Kd.R_base ho0)) (Kd.R_base ho1)) (fun _ h_ => h_.1)); have n2_ := Aside0.mk (Kd.R_lower (Kd.R_new' ho0 (Kd.R_lt (bR HO485.out))) (below_size (bw HB.out))); have n3_ := Aside0.mk (Kd.R_lower (Kd.R_new' ho1 (Kd.R_lt (bR HO485.out))) (below_size (bw HB.out))); have n4_ := Aside0.mk (below_step (bw HB.out) hb); replace HO483 := n0_; replace HO485 := n1_; have HO490 := n2_; have HO492 := n3_; replace HB := n4_; clear n0_ n1_ n2_ n3_ n4_; (try clear hb); (try clear hb2); (try clear hk); (try clear hi); (try clear ho0); (try clear ho1)) | ((with_reducible refine gate_callee (f := 7) rfl ?_); refine goesL_ (some 43) rfl rfl Try.func7 (by kernel_rfl) rfl #[.slice Ao9 t479.length co9, .slice Ao10 t480.length co10, .int .i64 t481] rfl (by (try simp only [mA_]); first | done | rfl | (simp only [List.length_drop, List.length_take]; rfl)) ?_; (with_reducible refine (spec_SortingExchanges.calls k _ _ t479 _ _ t480 t481 t493 t494 t495 _ ?side1 ?side2 ?side3 ?side4 A6.out).mono ?_); (case side1 => repeat (first | exact (Kd.R_reads' HO483.out).2.2 | (with_reducible refine Kd.C_alloc ?_ _) | (with_reducible refine Kd.C_drewN ?_ _) | (with_reducible refine Kd.C_drew ?_))); (case side2 => exact (Kd.R_reads' HO483.out).2.1); (case side3 => repeat (first | exact (Kd.R_reads' HO485.out).2.2 | (with_reducible refine Kd.C_alloc ?_ _) | (with_reducible refine Kd.C_drewN ?_ _) | (with_reducible refine Kd.C_drew ?_))); (case side4 => exact (Kd.R_reads' HO485.out).2.1); rintro e w12 ⟨v496, v498, rfl, ho0, ho1, hb⟩; refine ⟨_, rfl, ?_⟩; have n0_ := Aside0.mk (Kd.R_below (bR HO483.out) hb); have n1_ := Aside0.mk (Kd.R_mono (Kd.R_told (Kd.R_told (Kd.R_old (bR HO485.out) hb) (Kd.R_base ho0)) (Kd.R_base ho1)) (fun _ h_ => h_.1)); have n2_ := Aside0.mk (Kd.R_mono (Kd.R_told (Kd.R_told (Kd.R_old (bR HO490.out) hb) (Kd.R_base ho0)) (Kd.R_base ho1)) (fun _ h_ => h_.1)); have n3_ := Aside0.mk (Kd.R_mono (Kd.R_told (Kd.R_told (Kd.R_old (bR HO492.out) hb) (Kd.R_base ho0)) (Kd.R_base ho1)) (fun _ h_ => h_.1)); have n4_ := Aside0.mk (Kd.R_lower (Kd.R_new' (Kd.R_new' (Kd.R_new' ho0 (Kd.R_lt (bR HO485.out))) (Kd.R_lt (bR HO490.out))) (Kd.R_lt (bR HO492.out))) (below_size (bw HB.out))); have n5_ := Aside0.mk (Kd.R_lower (Kd.R_new' (Kd.R_new' (Kd.R_new' ho1 (Kd.R_lt (bR HO485.out))) (Kd.R_lt (bR HO490.out))) (Kd.R_lt (bR HO492.out))) (below_size (bw HB.out))); have n6_ := Aside0.mk (below_step (bw HB.out) hb); replace HO483 := n0_; replace HO485 := n1_; replace HO490 := n2_; replace HO492 := n3_; have HO497 := n4_; have HO499 := n5_; replace HB := n6_; clear n0_ n1_ n2_ n3_ n4_ n5_ n6_; (try clear hb); (try clear hb2); (try clear hk); (try clear hi); (try clear ho0); (try clear ho1)))
 (try simp only [Act.put, List.setIfInBounds_toArray, List.set_cons_zero, List.set_cons_succ])
 go_cut [61] (fun v61 wc => ∃ (kq : Nat) (x61_6 : Bool), v61 = .bool x61_6 ∧ Aside0 (laws_FnSorting.j0 kq t479 t480 t481 t486 t487 t488 x61_6 = some r) ∧ Aside0 (kq ≤ k) ∧ Aside0 (Kd.R k42 42 wc w.heap.size (fun _ => True) (.slice Ao9 t479.length co9) t479) ∧ Aside0 (Kd.R (Kd.int .i64) 3 wc w.heap.size (fun k_ => some k_ ≠ (v489 : Value).ownBlock ∧ some k_ ≠ (v491 : Value).ownBlock) (.slice Ao10 t480.length co10) t480) ∧ Aside0 (Kd.R (Kd.int .i64) 3 wc w.heap.size (fun k_ => some k_ ≠ ((.slice Ao10 t480.length co10) : Value).ownBlock ∧ some k_ ≠ (v491 : Value).ownBlock) v489 t486) ∧ Aside0 (Kd.R (Kd.int .i64) 3 wc w.heap.size (fun k_ => some k_ ≠ ((.slice Ao10 t480.length co10) : Value).ownBlock ∧ some k_ ≠ (v489 : Value).ownBlock) v491 t487) ∧ Aside0 (Below w.heap.size w wc))
 case first =>
  have H := HC7.out
  clear HC7
  by_cases c13 : (t488 != t495) = true
  ·rw [if_pos c13] at H
   have c13b0 : (t488 != t495) = true := c13
   (try (have c13b1 : decide (t488 = t495) = false := by simpa using c13))
   (try (have c13b2 : (t488 == t495) = false := by simpa using c13))
   (try (have c13b3 : ¬ (t488 = t495) := by simpa using c13))
   clear c13
   (first | rw [c13b0] | (simp only [i64_w, i32_w]; rw [c13b0]) | skip)
   have H' := Aside0.mk H
   clear H
   go_wp2
   go_meet
   case rel => exact ⟨_, (true), (by first | rfl | (simp; done) | (simp [*]; done)), H', ⟨by first | omega | exact Nat.le_refl _⟩, ⟨bR HO483.out⟩, ⟨by (with_reducible repeat (first | apply Kd.R_alloc | apply Kd.R_drewN | apply Kd.R_drew)); exact Kd.R_mono HO485.out (fun _ hk => ⟨hk.1.1.1.2, hk.1.1.2⟩)⟩, ⟨by (with_reducible repeat (first | apply Kd.R_alloc | apply Kd.R_drewN | apply Kd.R_drew)); exact Kd.R_mono HO490.out (fun _ hk => ⟨hk.1.1.2, hk.1.1.1⟩)⟩, ⟨by (with_reducible repeat (first | apply Kd.R_alloc | apply Kd.R_drewN | apply Kd.R_drew)); exact Kd.R_mono HO492.out (fun _ hk => ⟨hk.1.1.2, hk.1.1.1⟩)⟩, ⟨bw HB.out⟩⟩
  rw [if_neg c13] at H
  have c13b0 : (t488 != t495) = false := by simpa using c13
  (try (have c13b1 : decide (t488 = t495) = true := by simpa using c13))
  (try (have c13b2 : (t488 == t495) = true := by simpa using c13))
  clear c13
  (first | rw [c13b0] | (simp only [i64_w, i32_w]; rw [c13b0]) | skip)
  replace H := Option.bind_eq_some_iff.mp H
  obtain ⟨t500, A140, H⟩ := H
  replace H : (if t500 = true then ((laws_vInts.f k t487 t494).bind fun t501 => (laws_FnSorting.j0 k t479 t480 t481 t486 t487 t488 (!t501))) else (laws_FnSorting.j0 k t479 t480 t481 t486 t487 t488 true)) = some r := H
  have A14 := Aside0.mk A140
  clear A140
  by_cases c15 : t500 = true
  rotate_left
  ·replace c15 := Bool.eq_false_iff.mpr c15
   subst c15
   have H1 : (laws_FnSorting.j0 k t479 t480 t481 t486 t487 t488 true) = some r := by rw [if_neg (show ¬ (false = true) by decide)] at H; exact H
   clear H
   have H := H1
   clear H1
   have H' := Aside0.mk H
   clear H
   obtain ⟨Ao21, co21, eo21⟩ := Kd.R_slice HO490.out
   subst eo21
   obtain ⟨Ao22, co22, eo22⟩ := Kd.R_slice HO497.out
   subst eo22
   go_wp2_with (first | (go_at_call 8; (with_reducible refine (laws_vInts.calls k _ _ t486 _ _ t493 false _ ?side1 ?side2 ?side3 ?side4 A14.out).mono ?_); (case side1 => repeat (first | exact (Kd.R_reads' HO490.out).2.2 | (with_reducible refine Kd.C_alloc ?_ _) | (with_reducible refine Kd.C_drewN ?_ _) | (with_reducible refine Kd.C_drew ?_))); (case side2 => exact (Kd.R_reads' HO490.out).2.1); (case side3 => repeat (first | exact (Kd.R_reads' HO497.out).2.2 | (with_reducible refine Kd.C_alloc ?_ _) | (with_reducible refine Kd.C_drewN ?_ _) | (with_reducible refine Kd.C_drew ?_))); (case side4 => exact (Kd.R_reads' HO497.out).2.1); rintro e w' ⟨rfl, ⟨nd, rfl⟩⟩))
   go_meet
   case rel => exact ⟨_, (true), (by first | rfl | (simp; done) | (simp [*]; done)), H', ⟨by first | omega | exact Nat.le_refl _⟩, ⟨bR HO483.out⟩, ⟨by (with_reducible repeat (first | apply Kd.R_alloc | apply Kd.R_drewN | apply Kd.R_drew)); exact Kd.R_mono HO485.out (fun _ hk => ⟨hk.1.1.1.2, hk.1.1.2⟩)⟩, ⟨by (with_reducible repeat (first | apply Kd.R_alloc | apply Kd.R_drewN | apply Kd.R_drew)); exact Kd.R_mono HO490.out (fun _ hk => ⟨hk.1.1.2, hk.1.1.1⟩)⟩, ⟨by (with_reducible repeat (first | apply Kd.R_alloc | apply Kd.R_drewN | apply Kd.R_drew)); exact Kd.R_mono HO492.out (fun _ hk => ⟨hk.1.1.2, hk.1.1.1⟩)⟩, ⟨bw HB.out⟩⟩
  subst c15
  have H1 : ((laws_vInts.f k t487 t494).bind fun t501 => (laws_FnSorting.j0 k t479 t480 t481 t486 t487 t488 (!t501))) = some r := by rw [if_pos rfl] at H; exact H
  clear H
  have H := H1
  clear H1
  replace H := Option.bind_eq_some_iff.mp H
  obtain ⟨t501, A160, H⟩ := H
  replace H : (laws_FnSorting.j0 k t479 t480 t481 t486 t487 t488 (!t501)) = some r := H
  have A16 := Aside0.mk A160
  clear A160
  have H' := Aside0.mk H
  clear H
  obtain ⟨Ao17, co17, eo17⟩ := Kd.R_slice HO490.out
  subst eo17
  obtain ⟨Ao18, co18, eo18⟩ := Kd.R_slice HO497.out
  subst eo18
  go_wp2_with (first | (go_at_call 8; (with_reducible refine (laws_vInts.calls k _ _ t486 _ _ t493 true _ ?side1 ?side2 ?side3 ?side4 A14.out).mono ?_); (case side1 => repeat (first | exact (Kd.R_reads' HO490.out).2.2 | (with_reducible refine Kd.C_alloc ?_ _) | (with_reducible refine Kd.C_drewN ?_ _) | (with_reducible refine Kd.C_drew ?_))); (case side2 => exact (Kd.R_reads' HO490.out).2.1); (case side3 => repeat (first | exact (Kd.R_reads' HO497.out).2.2 | (with_reducible refine Kd.C_alloc ?_ _) | (with_reducible refine Kd.C_drewN ?_ _) | (with_reducible refine Kd.C_drew ?_))); (case side4 => exact (Kd.R_reads' HO497.out).2.1); rintro e w' ⟨rfl, ⟨nd, rfl⟩⟩; obtain ⟨Ao19, co19, eo19⟩ := Kd.R_slice HO492.out; subst eo19; obtain ⟨Ao20, co20, eo20⟩ := Kd.R_slice HO499.out; subst eo20) | (go_at_call 8; (with_reducible refine (laws_vInts.calls k _ _ t487 _ _ t494 t501 _ ?side1 ?side2 ?side3 ?side4 A16.out).mono ?_); (case side1 => repeat (first | exact (Kd.R_reads' HO492.out).2.2 | (with_reducible refine Kd.C_alloc ?_ _) | (with_reducible refine Kd.C_drewN ?_ _) | (with_reducible refine Kd.C_drew ?_))); (case side2 => exact (Kd.R_reads' HO492.out).2.1); (case side3 => repeat (first | exact (Kd.R_reads' HO499.out).2.2 | (with_reducible refine Kd.C_alloc ?_ _) | (with_reducible refine Kd.C_drewN ?_ _) | (with_reducible refine Kd.C_drew ?_))); (case side4 => exact (Kd.R_reads' HO499.out).2.1); rintro e w' ⟨rfl, ⟨nd, rfl⟩⟩))
  go_meet
  case rel => exact ⟨_, (!t501), (by first | rfl | (simp; done) | (simp [*]; done)), H', ⟨by first | omega | exact Nat.le_refl _⟩, ⟨bR HO483.out⟩, ⟨by (with_reducible repeat (first | apply Kd.R_alloc | apply Kd.R_drewN | apply Kd.R_drew)); exact Kd.R_mono HO485.out (fun _ hk => ⟨hk.1.1.1.2, hk.1.1.2⟩)⟩, ⟨by (with_reducible repeat (first | apply Kd.R_alloc | apply Kd.R_drewN | apply Kd.R_drew)); exact Kd.R_mono HO490.out (fun _ hk => ⟨hk.1.1.2, hk.1.1.1⟩)⟩, ⟨by (with_reducible repeat (first | apply Kd.R_alloc | apply Kd.R_drewN | apply Kd.R_drew)); exact Kd.R_mono HO492.out (fun _ hk => ⟨hk.1.1.2, hk.1.1.1⟩)⟩, ⟨bw HB.out⟩⟩
 case rest =>
  clear HC7
  try clear c1
  try clear p2
  try clear c3
  try clear c4
  try clear c5
  try clear c6
  try clear c7
  try clear c13
  try clear c13b0
  try clear c13b1
  try clear c13b2
  try clear c15
  obtain ⟨kq, x61_6, rfl, HA, HJ6, HO_3, HO_4, HO_6, HO_7, HB⟩ := hcut
  cases kq with
  | zero => exact absurd HA.out (by simp [laws_FnSorting.j0])
  | succ kj6 =>
   have H := HA.out
   clear HA
   simp only [laws_FnSorting.j0] at H
   by_cases c23 : x61_6 = true
   ·subst c23
    have H1 : (some false) = some r := by rw [if_pos rfl] at H; exact H
    clear H
    have H := H1
    clear H1
    obtain rfl := Option.some.inj H
    go_wp2
    go_ret
    exact ⟨by first | rfl | (simp [errW_none, errW_some] <;> rfl) | (simp [*, errW_none, errW_some] <;> rfl), bw HB.out⟩
   replace c23 := Bool.eq_false_iff.mpr c23
   subst c23
   have H1 : (if t488 = true then ((impl_InversionsOf.f kj6 t479 t480 t481).bind fun bt502 => ((laws_vOwn.f t480).bind fun t506 => (laws_FnSorting.l0 kj6 t479 t481 t486 t487 bt502.1 t506 0))) else (some true)) = some r := by rw [if_neg (show ¬ (false = true) by decide)] at H; exact H
   clear H
   have H := H1
   clear H1
   by_cases c24 : t488 = true
   rotate_left
   ·replace c24 := Bool.eq_false_iff.mpr c24
    subst c24
    have H1 : (some true) = some r := by rw [if_neg (show ¬ (false = true) by decide)] at H; exact H
    clear H
    have H := H1
    clear H1
    obtain rfl := Option.some.inj H
    go_wp2
    go_ret
    exact ⟨by first | rfl | (simp [errW_none, errW_some] <;> rfl) | (simp [*, errW_none, errW_some] <;> rfl), bw HB.out⟩
   subst c24
   have H1 : ((impl_InversionsOf.f kj6 t479 t480 t481).bind fun bt502 => ((laws_vOwn.f t480).bind fun t506 => (laws_FnSorting.l0 kj6 t479 t481 t486 t487 bt502.1 t506 0))) = some r := by rw [if_pos rfl] at H; exact H
   clear H
   have H := H1
   clear H1
   replace H := Option.bind_eq_some_iff.mp H
   obtain ⟨⟨t502, t503⟩, A250, H⟩ := H
   replace H : ((laws_vOwn.f t480).bind fun t506 => (laws_FnSorting.l0 kj6 t479 t481 t486 t487 t502 t506 0)) = some r := H
   have A25 := Aside0.mk A250
   clear A250
   replace H := Option.bind_eq_some_iff.mp H
   obtain ⟨t506, A260, H⟩ := H
   replace H : (laws_FnSorting.l0 kj6 t479 t481 t486 t487 t502 t506 0) = some r := H
   have A26 := Aside0.mk A260
   clear A260
   have H' := Aside0.mk H
   clear H
   go_wp2_with (first | ((with_reducible refine gate_callee (f := 9) rfl ?_); refine goesL_ (some 68) rfl rfl Try.func9 (by kernel_rfl) rfl #[.slice Ao9 t479.length co9, .slice Ao10 t480.length co10, .int .i64 t481] rfl (by (try simp only [mA_]); first | done | rfl | (simp only [List.length_drop, List.length_take]; rfl)) ?_; (with_reducible refine (impl_InversionsOf.calls kj6 _ _ t479 _ _ t480 t481 t502 t503 _ ?side1 ?side2 ?side3 ?side4 A25.out).mono ?_); (case side1 => repeat (first | exact (Kd.R_reads' HO_3.out).2.2 | (with_reducible refine Kd.C_alloc ?_ _) | (with_reducible refine Kd.C_drewN ?_ _) | (with_reducible refine Kd.C_drew ?_))); (case side2 => exact (Kd.R_reads' HO_3.out).2.1); (case side3 => repeat (first | exact (Kd.R_reads' HO_4.out).2.2 | (with_reducible refine Kd.C_alloc ?_ _) | (with_reducible refine Kd.C_drewN ?_ _) | (with_reducible refine Kd.C_drew ?_))); (case side4 => exact (Kd.R_reads' HO_4.out).2.1); rintro e w27 ⟨v504, rfl, ho0, hb⟩; refine ⟨_, rfl, ?_⟩; have n0_ := Aside0.mk (Kd.R_below (bR HO_3.out) hb); have n1_ := Aside0.mk (Kd.R_below (bR HO_4.out) hb); have n2_ := Aside0.mk (Kd.R_below (bR HO_6.out) hb); have n3_ := Aside0.mk (Kd.R_below (bR HO_7.out) hb); have n4_ := Aside0.mk (Kd.R_lower ho0 (below_size (bw HB.out))); have n5_ := Aside0.mk (below_step (bw HB.out) hb); replace HO_3 := n0_; replace HO_4 := n1_; replace HO_6 := n2_; replace HO_7 := n3_; have HO505 := n4_; replace HB := n5_; clear n0_ n1_ n2_ n3_ n4_ n5_; (try clear hb); (try clear hb2); (try clear hk); (try clear hi); (try clear ho0)) | ((with_reducible refine gate_callee (f := 10) rfl ?_); refine goesL_ (some 72) rfl rfl Try.func10 (by kernel_rfl) rfl #[.slice Ao10 t480.length co10] rfl (by (try simp only [mA_]); first | done | rfl | (simp only [List.length_drop, List.length_take]; rfl)) ?_; (with_reducible refine (laws_vOwn.calls _ _ t480 t506 _ ?side1 ?side2 A26.out).mono ?_); (case side1 => repeat (first | exact (Kd.R_reads' HO_4.out).2.2 | (with_reducible refine Kd.C_alloc ?_ _) | (with_reducible refine Kd.C_drewN ?_ _) | (with_reducible refine Kd.C_drew ?_))); (case side2 => exact (Kd.R_reads' HO_4.out).2.1); rintro e w28 ⟨v507, rfl, ho0, hb⟩; refine ⟨_, rfl, ?_⟩; have n0_ := Aside0.mk (Kd.R_below (bR HO_3.out) hb); have n1_ := Aside0.mk (Kd.R_elder' (bR HO_4.out) (Kd.R_base ho0) hb); have n2_ := Aside0.mk (Kd.R_elder' (bR HO_6.out) (Kd.R_base ho0) hb); have n3_ := Aside0.mk (Kd.R_elder' (bR HO_7.out) (Kd.R_base ho0) hb); have n4_ := Aside0.mk (Kd.R_below (bR HO505.out) hb); have n5_ := Aside0.mk (Kd.R_lower (Kd.R_new' (Kd.R_new' (Kd.R_new' ho0 (Kd.R_lt (bR HO_4.out))) (Kd.R_lt (bR HO_6.out))) (Kd.R_lt (bR HO_7.out))) (below_size (bw HB.out))); have n6_ := Aside0.mk (below_step (bw HB.out) hb); replace HO_3 := n0_; replace HO_4 := n1_; replace HO_6 := n2_; replace HO_7 := n3_; replace HO505 := n4_; have HO508 := n5_; replace HB := n6_; clear n0_ n1_ n2_ n3_ n4_ n5_ n6_; (try clear hb); (try clear hb2); (try clear hk); (try clear hi); (try clear ho0)))
   go_loopg [15] kj6 (fun kq v15 w' => ∃ (x14_2 : List Int) (x15_2 : Int), v15 = .int .i64 x15_2 ∧ Aside0 (laws_FnSorting.l0 kq t479 t481 t486 t487 t502 x14_2 x15_2 = some r) ∧ Aside0 (kq ≤ kj6) ∧ Aside0 (Kd.R k42 42 w' w.heap.size (fun _ => True) (.slice Ao9 t479.length co9) t479) ∧ Aside0 (Kd.R (Kd.int .i64) 3 w' w.heap.size (fun k_ => some k_ ≠ (v491 : Value).ownBlock ∧ some k_ ≠ (v507 : Value).ownBlock) v489 t486) ∧ Aside0 (Kd.R (Kd.int .i64) 3 w' w.heap.size (fun k_ => some k_ ≠ (v489 : Value).ownBlock ∧ some k_ ≠ (v507 : Value).ownBlock) v491 t487) ∧ Aside0 (Kd.R k63 63 w' w.heap.size (fun _ => True) v504 t502) ∧ Aside0 (Kd.R (Kd.int .i64) 3 w' w.heap.size (fun k_ => some k_ ≠ (v489 : Value).ownBlock ∧ some k_ ≠ (v491 : Value).ownBlock) v507 x14_2) ∧ Aside0 (Below w.heap.size w w'))
   case atStart => exact ⟨(t506), (0), (by first | rfl | (simp; done) | (simp [*]; done)), H', ⟨Nat.le_refl _⟩, ⟨bR HO_3.out⟩, ⟨by (with_reducible repeat (first | apply Kd.R_alloc | apply Kd.R_drewN | apply Kd.R_drew)); exact Kd.R_mono HO_6.out (fun _ hk => ⟨hk.1.2, hk.2⟩)⟩, ⟨by (with_reducible repeat (first | apply Kd.R_alloc | apply Kd.R_drewN | apply Kd.R_drew)); exact Kd.R_mono HO_7.out (fun _ hk => ⟨hk.1.2, hk.2⟩)⟩, ⟨bR HO505.out⟩, ⟨by (with_reducible repeat (first | apply Kd.R_alloc | apply Kd.R_drewN | apply Kd.R_drew)); exact Kd.R_mono HO508.out (fun _ hk => ⟨hk.1.2, hk.2⟩)⟩, ⟨bw HB.out⟩⟩
   case round =>
    clear H'
    try clear c1
    try clear c2
    try clear p2
    try clear c3
    try clear c4
    try clear c5
    try clear c6
    try clear c7
    try clear c9
    try clear c10
    try clear c13
    try clear c13b0
    try clear c13b1
    try clear c13b2
    try clear c15
    try clear c23
    try clear c24
    try clear p2
    obtain ⟨x14_2, x15_2, rfl, HA, HK2, HO_3, HO_6, HO_7, HO_12, HO_14, HB⟩ := hrel
    cases gk with
    | zero => exact absurd HA.out (by simp [laws_FnSorting.l0])
    | succ k2 =>
     have H := HA.out
     clear HA
     simp only [laws_FnSorting.l0] at H
     by_cases c29 : x15_2 < (t486.length : Int)
     rotate_left
     ·rw [if_neg c29] at H
      have c29b0 : decide (x15_2 < (t486.length : Int)) = false := decide_eq_false c29
      clear c29
      replace H := Option.bind_eq_some_iff.mp H
      obtain ⟨⟨t520, t521⟩, A550, H⟩ := H
      replace H : ((impl_IsBestOrder.f k2 t479 t487 t481).bind fun bt522 => ((laws_vInts.f k2 x14_2 t487).bind fun t524 => (if t524 = true then (if t520 = true then (if bt522.1 = true then (some ((t486.length : Int) == (t502.length : Int))) else (some false)) else (some false)) else (some false)))) = some r := H
      have A55 := Aside0.mk A550
      clear A550
      replace H := Option.bind_eq_some_iff.mp H
      obtain ⟨⟨t522, t523⟩, A560, H⟩ := H
      replace H : ((laws_vInts.f k2 x14_2 t487).bind fun t524 => (if t524 = true then (if t520 = true then (if t522 = true then (some ((t486.length : Int) == (t502.length : Int))) else (some false)) else (some false)) else (some false))) = some r := H
      have A56 := Aside0.mk A560
      clear A560
      replace H := Option.bind_eq_some_iff.mp H
      obtain ⟨t524, A570, H⟩ := H
      replace H : (if t524 = true then (if t520 = true then (if t522 = true then (some ((t486.length : Int) == (t502.length : Int))) else (some false)) else (some false)) else (some false)) = some r := H
      have A57 := Aside0.mk A570
      clear A570
      by_cases c58 : t524 = true
      rotate_left
      ·replace c58 := Bool.eq_false_iff.mpr c58
       subst c58
       have H1 : (some false) = some r := by rw [if_neg (show ¬ (false = true) by decide)] at H; exact H
       clear H
       have H := H1
       clear H1
       obtain rfl := Option.some.inj H
       obtain ⟨Ao77, co77, eo77⟩ := Kd.R_slice HO_6.out
       subst eo77
       obtain ⟨Ao78, co78, eo78⟩ := Kd.R_slice HO_7.out
       subst eo78
       go_wp2_with (first | ((with_reducible refine gate_callee (f := 12) rfl ?_); refine goesL_ (some 129) rfl rfl Try.func12 (by kernel_rfl) rfl #[.slice Ao9 t479.length co9, .slice Ao78 t487.length co78, .int .i64 t481] rfl (by (try simp only [mA_]); first | done | rfl | (simp only [List.length_drop, List.length_take]; rfl)) ?_; (with_reducible refine (impl_IsRuledOrder.calls k2 _ _ t479 _ _ t487 t481 t520 t521 _ ?side1 ?side2 ?side3 ?side4 A55.out).mono ?_); (case side1 => repeat (first | exact (Kd.R_reads' HO_3.out).2.2 | (with_reducible refine Kd.C_alloc ?_ _) | (with_reducible refine Kd.C_drewN ?_ _) | (with_reducible refine Kd.C_drew ?_))); (case side2 => exact (Kd.R_reads' HO_3.out).2.1); (case side3 => repeat (first | exact (Kd.R_reads' HO_7.out).2.2 | (with_reducible refine Kd.C_alloc ?_ _) | (with_reducible refine Kd.C_drewN ?_ _) | (with_reducible refine Kd.C_drew ?_))); (case side4 => exact (Kd.R_reads' HO_7.out).2.1); rintro e w79 ⟨rfl, hb⟩; refine ⟨_, rfl, ?_⟩; have n0_ := Aside0.mk (Kd.R_below (bR HO_3.out) hb); have n1_ := Aside0.mk (Kd.R_below (bR HO_6.out) hb); have n2_ := Aside0.mk (Kd.R_below (bR HO_7.out) hb); have n3_ := Aside0.mk (Kd.R_below (bR HO_12.out) hb); have n4_ := Aside0.mk (Kd.R_below (bR HO_14.out) hb); have n5_ := Aside0.mk (below_step (bw HB.out) hb); replace HO_3 := n0_; replace HO_6 := n1_; replace HO_7 := n2_; replace HO_12 := n3_; replace HO_14 := n4_; replace HB := n5_; clear n0_ n1_ n2_ n3_ n4_ n5_; (try clear hb); (try clear hb2); (try clear hk); (try clear hi)) | ((with_reducible refine gate_callee (f := 13) rfl ?_); refine goesL_ (some 136) rfl rfl Try.func13 (by kernel_rfl) rfl #[.slice Ao9 t479.length co9, .slice Ao78 t487.length co78, .int .i64 t481] rfl (by (try simp only [mA_]); first | done | rfl | (simp only [List.length_drop, List.length_take]; rfl)) ?_; (with_reducible refine (impl_IsBestOrder.calls k2 _ _ t479 _ _ t487 t481 t522 t523 _ ?side1 ?side2 ?side3 ?side4 A56.out).mono ?_); (case side1 => repeat (first | exact (Kd.R_reads' HO_3.out).2.2 | (with_reducible refine Kd.C_alloc ?_ _) | (with_reducible refine Kd.C_drewN ?_ _) | (with_reducible refine Kd.C_drew ?_))); (case side2 => exact (Kd.R_reads' HO_3.out).2.1); (case side3 => repeat (first | exact (Kd.R_reads' HO_7.out).2.2 | (with_reducible refine Kd.C_alloc ?_ _) | (with_reducible refine Kd.C_drewN ?_ _) | (with_reducible refine Kd.C_drew ?_))); (case side4 => exact (Kd.R_reads' HO_7.out).2.1); rintro e w80 ⟨rfl, hb⟩; refine ⟨_, rfl, ?_⟩; have n0_ := Aside0.mk (Kd.R_below (bR HO_3.out) hb); have n1_ := Aside0.mk (Kd.R_below (bR HO_6.out) hb); have n2_ := Aside0.mk (Kd.R_below (bR HO_7.out) hb); have n3_ := Aside0.mk (Kd.R_below (bR HO_12.out) hb); have n4_ := Aside0.mk (Kd.R_below (bR HO_14.out) hb); have n5_ := Aside0.mk (below_step (bw HB.out) hb); replace HO_3 := n0_; replace HO_6 := n1_; replace HO_7 := n2_; replace HO_12 := n3_; replace HO_14 := n4_; replace HB := n5_; clear n0_ n1_ n2_ n3_ n4_ n5_; (try clear hb); (try clear hb2); (try clear hk); (try clear hi); obtain ⟨Ao81, co81, eo81⟩ := Kd.R_slice HO_14.out; subst eo81) | ((with_reducible refine gate_callee (f := 8) rfl ?_); refine goesL_ (some 141) rfl rfl Try.func8 (by kernel_rfl) rfl #[.slice Ao81 x14_2.length co81, .slice Ao78 t487.length co78] rfl (by (try simp only [mA_]); first | done | rfl | (simp only [List.length_drop, List.length_take]; rfl)) ?_; (with_reducible refine (laws_vInts.calls k2 _ _ x14_2 _ _ t487 false _ ?side1 ?side2 ?side3 ?side4 A57.out).mono ?_); (case side1 => repeat (first | exact (Kd.R_reads' HO_14.out).2.2 | (with_reducible refine Kd.C_alloc ?_ _) | (with_reducible refine Kd.C_drewN ?_ _) | (with_reducible refine Kd.C_drew ?_))); (case side2 => exact (Kd.R_reads' HO_14.out).2.1); (case side3 => repeat (first | exact (Kd.R_reads' HO_7.out).2.2 | (with_reducible refine Kd.C_alloc ?_ _) | (with_reducible refine Kd.C_drewN ?_ _) | (with_reducible refine Kd.C_drew ?_))); (case side4 => exact (Kd.R_reads' HO_7.out).2.1); rintro e w' ⟨rfl, ⟨nd, rfl⟩⟩; refine ⟨_, rfl, ?_⟩))
       go_ret
       exact ⟨by first | rfl | (simp [errW_none, errW_some] <;> rfl) | (simp [*, errW_none, errW_some] <;> rfl), bw HB.out⟩
      subst c58
      have H1 : (if t520 = true then (if t522 = true then (some ((t486.length : Int) == (t502.length : Int))) else (some false)) else (some false)) = some r := by rw [if_pos rfl] at H; exact H
      clear H
      have H := H1
      clear H1
      by_cases c59 : t520 = true
      rotate_left
      ·replace c59 := Bool.eq_false_iff.mpr c59
       subst c59
       have H1 : (some false) = some r := by rw [if_neg (show ¬ (false = true) by decide)] at H; exact H
       clear H
       have H := H1
       clear H1
       obtain rfl := Option.some.inj H
       obtain ⟨Ao72, co72, eo72⟩ := Kd.R_slice HO_6.out
       subst eo72
       obtain ⟨Ao73, co73, eo73⟩ := Kd.R_slice HO_7.out
       subst eo73
       go_wp2_with (first | ((with_reducible refine gate_callee (f := 12) rfl ?_); refine goesL_ (some 129) rfl rfl Try.func12 (by kernel_rfl) rfl #[.slice Ao9 t479.length co9, .slice Ao73 t487.length co73, .int .i64 t481] rfl (by (try simp only [mA_]); first | done | rfl | (simp only [List.length_drop, List.length_take]; rfl)) ?_; (with_reducible refine (impl_IsRuledOrder.calls k2 _ _ t479 _ _ t487 t481 false t521 _ ?side1 ?side2 ?side3 ?side4 A55.out).mono ?_); (case side1 => repeat (first | exact (Kd.R_reads' HO_3.out).2.2 | (with_reducible refine Kd.C_alloc ?_ _) | (with_reducible refine Kd.C_drewN ?_ _) | (with_reducible refine Kd.C_drew ?_))); (case side2 => exact (Kd.R_reads' HO_3.out).2.1); (case side3 => repeat (first | exact (Kd.R_reads' HO_7.out).2.2 | (with_reducible refine Kd.C_alloc ?_ _) | (with_reducible refine Kd.C_drewN ?_ _) | (with_reducible refine Kd.C_drew ?_))); (case side4 => exact (Kd.R_reads' HO_7.out).2.1); rintro e w74 ⟨rfl, hb⟩; refine ⟨_, rfl, ?_⟩; have n0_ := Aside0.mk (Kd.R_below (bR HO_3.out) hb); have n1_ := Aside0.mk (Kd.R_below (bR HO_6.out) hb); have n2_ := Aside0.mk (Kd.R_below (bR HO_7.out) hb); have n3_ := Aside0.mk (Kd.R_below (bR HO_12.out) hb); have n4_ := Aside0.mk (Kd.R_below (bR HO_14.out) hb); have n5_ := Aside0.mk (below_step (bw HB.out) hb); replace HO_3 := n0_; replace HO_6 := n1_; replace HO_7 := n2_; replace HO_12 := n3_; replace HO_14 := n4_; replace HB := n5_; clear n0_ n1_ n2_ n3_ n4_ n5_; (try clear hb); (try clear hb2); (try clear hk); (try clear hi)) | ((with_reducible refine gate_callee (f := 13) rfl ?_); refine goesL_ (some 136) rfl rfl Try.func13 (by kernel_rfl) rfl #[.slice Ao9 t479.length co9, .slice Ao73 t487.length co73, .int .i64 t481] rfl (by (try simp only [mA_]); first | done | rfl | (simp only [List.length_drop, List.length_take]; rfl)) ?_; (with_reducible refine (impl_IsBestOrder.calls k2 _ _ t479 _ _ t487 t481 t522 t523 _ ?side1 ?side2 ?side3 ?side4 A56.out).mono ?_); (case side1 => repeat (first | exact (Kd.R_reads' HO_3.out).2.2 | (with_reducible refine Kd.C_alloc ?_ _) | (with_reducible refine Kd.C_drewN ?_ _) | (with_reducible refine Kd.C_drew ?_))); (case side2 => exact (Kd.R_reads' HO_3.out).2.1); (case side3 => repeat (first | exact (Kd.R_reads' HO_7.out).2.2 | (with_reducible refine Kd.C_alloc ?_ _) | (with_reducible refine Kd.C_drewN ?_ _) | (with_reducible refine Kd.C_drew ?_))); (case side4 => exact (Kd.R_reads' HO_7.out).2.1); rintro e w75 ⟨rfl, hb⟩; refine ⟨_, rfl, ?_⟩; have n0_ := Aside0.mk (Kd.R_below (bR HO_3.out) hb); have n1_ := Aside0.mk (Kd.R_below (bR HO_6.out) hb); have n2_ := Aside0.mk (Kd.R_below (bR HO_7.out) hb); have n3_ := Aside0.mk (Kd.R_below (bR HO_12.out) hb); have n4_ := Aside0.mk (Kd.R_below (bR HO_14.out) hb); have n5_ := Aside0.mk (below_step (bw HB.out) hb); replace HO_3 := n0_; replace HO_6 := n1_; replace HO_7 := n2_; replace HO_12 := n3_; replace HO_14 := n4_; replace HB := n5_; clear n0_ n1_ n2_ n3_ n4_ n5_; (try clear hb); (try clear hb2); (try clear hk); (try clear hi); obtain ⟨Ao76, co76, eo76⟩ := Kd.R_slice HO_14.out; subst eo76) | ((with_reducible refine gate_callee (f := 8) rfl ?_); refine goesL_ (some 141) rfl rfl Try.func8 (by kernel_rfl) rfl #[.slice Ao76 x14_2.length co76, .slice Ao73 t487.length co73] rfl (by (try simp only [mA_]); first | done | rfl | (simp only [List.length_drop, List.length_take]; rfl)) ?_; (with_reducible refine (laws_vInts.calls k2 _ _ x14_2 _ _ t487 true _ ?side1 ?side2 ?side3 ?side4 A57.out).mono ?_); (case side1 => repeat (first | exact (Kd.R_reads' HO_14.out).2.2 | (with_reducible refine Kd.C_alloc ?_ _) | (with_reducible refine Kd.C_drewN ?_ _) | (with_reducible refine Kd.C_drew ?_))); (case side2 => exact (Kd.R_reads' HO_14.out).2.1); (case side3 => repeat (first | exact (Kd.R_reads' HO_7.out).2.2 | (with_reducible refine Kd.C_alloc ?_ _) | (with_reducible refine Kd.C_drewN ?_ _) | (with_reducible refine Kd.C_drew ?_))); (case side4 => exact (Kd.R_reads' HO_7.out).2.1); rintro e w' ⟨rfl, ⟨nd, rfl⟩⟩; refine ⟨_, rfl, ?_⟩))
       go_ret
       exact ⟨by first | rfl | (simp [errW_none, errW_some] <;> rfl) | (simp [*, errW_none, errW_some] <;> rfl), bw HB.out⟩
      subst c59
      have H1 : (if t522 = true then (some ((t486.length : Int) == (t502.length : Int))) else (some false)) = some r := by rw [if_pos rfl] at H; exact H
      clear H
      have H := H1
      clear H1
      by_cases c60 : t522 = true
      rotate_left
      ·replace c60 := Bool.eq_false_iff.mpr c60
       subst c60
       have H1 : (some false) = some r := by rw [if_neg (show ¬ (false = true) by decide)] at H; exact H
       clear H
       have H := H1
       clear H1
       obtain rfl := Option.some.inj H
       obtain ⟨Ao67, co67, eo67⟩ := Kd.R_slice HO_6.out
       subst eo67
       obtain ⟨Ao68, co68, eo68⟩ := Kd.R_slice HO_7.out
       subst eo68
       go_wp2_with (first | ((with_reducible refine gate_callee (f := 12) rfl ?_); refine goesL_ (some 129) rfl rfl Try.func12 (by kernel_rfl) rfl #[.slice Ao9 t479.length co9, .slice Ao68 t487.length co68, .int .i64 t481] rfl (by (try simp only [mA_]); first | done | rfl | (simp only [List.length_drop, List.length_take]; rfl)) ?_; (with_reducible refine (impl_IsRuledOrder.calls k2 _ _ t479 _ _ t487 t481 true t521 _ ?side1 ?side2 ?side3 ?side4 A55.out).mono ?_); (case side1 => repeat (first | exact (Kd.R_reads' HO_3.out).2.2 | (with_reducible refine Kd.C_alloc ?_ _) | (with_reducible refine Kd.C_drewN ?_ _) | (with_reducible refine Kd.C_drew ?_))); (case side2 => exact (Kd.R_reads' HO_3.out).2.1); (case side3 => repeat (first | exact (Kd.R_reads' HO_7.out).2.2 | (with_reducible refine Kd.C_alloc ?_ _) | (with_reducible refine Kd.C_drewN ?_ _) | (with_reducible refine Kd.C_drew ?_))); (case side4 => exact (Kd.R_reads' HO_7.out).2.1); rintro e w69 ⟨rfl, hb⟩; refine ⟨_, rfl, ?_⟩; have n0_ := Aside0.mk (Kd.R_below (bR HO_3.out) hb); have n1_ := Aside0.mk (Kd.R_below (bR HO_6.out) hb); have n2_ := Aside0.mk (Kd.R_below (bR HO_7.out) hb); have n3_ := Aside0.mk (Kd.R_below (bR HO_12.out) hb); have n4_ := Aside0.mk (Kd.R_below (bR HO_14.out) hb); have n5_ := Aside0.mk (below_step (bw HB.out) hb); replace HO_3 := n0_; replace HO_6 := n1_; replace HO_7 := n2_; replace HO_12 := n3_; replace HO_14 := n4_; replace HB := n5_; clear n0_ n1_ n2_ n3_ n4_ n5_; (try clear hb); (try clear hb2); (try clear hk); (try clear hi)) | ((with_reducible refine gate_callee (f := 13) rfl ?_); refine goesL_ (some 136) rfl rfl Try.func13 (by kernel_rfl) rfl #[.slice Ao9 t479.length co9, .slice Ao68 t487.length co68, .int .i64 t481] rfl (by (try simp only [mA_]); first | done | rfl | (simp only [List.length_drop, List.length_take]; rfl)) ?_; (with_reducible refine (impl_IsBestOrder.calls k2 _ _ t479 _ _ t487 t481 false t523 _ ?side1 ?side2 ?side3 ?side4 A56.out).mono ?_); (case side1 => repeat (first | exact (Kd.R_reads' HO_3.out).2.2 | (with_reducible refine Kd.C_alloc ?_ _) | (with_reducible refine Kd.C_drewN ?_ _) | (with_reducible refine Kd.C_drew ?_))); (case side2 => exact (Kd.R_reads' HO_3.out).2.1); (case side3 => repeat (first | exact (Kd.R_reads' HO_7.out).2.2 | (with_reducible refine Kd.C_alloc ?_ _) | (with_reducible refine Kd.C_drewN ?_ _) | (with_reducible refine Kd.C_drew ?_))); (case side4 => exact (Kd.R_reads' HO_7.out).2.1); rintro e w70 ⟨rfl, hb⟩; refine ⟨_, rfl, ?_⟩; have n0_ := Aside0.mk (Kd.R_below (bR HO_3.out) hb); have n1_ := Aside0.mk (Kd.R_below (bR HO_6.out) hb); have n2_ := Aside0.mk (Kd.R_below (bR HO_7.out) hb); have n3_ := Aside0.mk (Kd.R_below (bR HO_12.out) hb); have n4_ := Aside0.mk (Kd.R_below (bR HO_14.out) hb); have n5_ := Aside0.mk (below_step (bw HB.out) hb); replace HO_3 := n0_; replace HO_6 := n1_; replace HO_7 := n2_; replace HO_12 := n3_; replace HO_14 := n4_; replace HB := n5_; clear n0_ n1_ n2_ n3_ n4_ n5_; (try clear hb); (try clear hb2); (try clear hk); (try clear hi); obtain ⟨Ao71, co71, eo71⟩ := Kd.R_slice HO_14.out; subst eo71) | ((with_reducible refine gate_callee (f := 8) rfl ?_); refine goesL_ (some 141) rfl rfl Try.func8 (by kernel_rfl) rfl #[.slice Ao71 x14_2.length co71, .slice Ao68 t487.length co68] rfl (by (try simp only [mA_]); first | done | rfl | (simp only [List.length_drop, List.length_take]; rfl)) ?_; (with_reducible refine (laws_vInts.calls k2 _ _ x14_2 _ _ t487 true _ ?side1 ?side2 ?side3 ?side4 A57.out).mono ?_); (case side1 => repeat (first | exact (Kd.R_reads' HO_14.out).2.2 | (with_reducible refine Kd.C_alloc ?_ _) | (with_reducible refine Kd.C_drewN ?_ _) | (with_reducible refine Kd.C_drew ?_))); (case side2 => exact (Kd.R_reads' HO_14.out).2.1); (case side3 => repeat (first | exact (Kd.R_reads' HO_7.out).2.2 | (with_reducible refine Kd.C_alloc ?_ _) | (with_reducible refine Kd.C_drewN ?_ _) | (with_reducible refine Kd.C_drew ?_))); (case side4 => exact (Kd.R_reads' HO_7.out).2.1); rintro e w' ⟨rfl, ⟨nd, rfl⟩⟩; refine ⟨_, rfl, ?_⟩))
       go_ret
       exact ⟨by first | rfl | (simp [errW_none, errW_some] <;> rfl) | (simp [*, errW_none, errW_some] <;> rfl), bw HB.out⟩
      subst c60
      have H1 : (some ((t486.length : Int) == (t502.length : Int))) = some r := by rw [if_pos rfl] at H; exact H
      clear H
      have H := H1
      clear H1
      obtain rfl := Option.some.inj H
      obtain ⟨Ao61, co61, eo61⟩ := Kd.R_slice HO_6.out
      subst eo61
      obtain ⟨Ao62, co62, eo62⟩ := Kd.R_slice HO_7.out
      subst eo62
      go_wp2_with (first | ((with_reducible refine gate_callee (f := 12) rfl ?_); refine goesL_ (some 129) rfl rfl Try.func12 (by kernel_rfl) rfl #[.slice Ao9 t479.length co9, .slice Ao62 t487.length co62, .int .i64 t481] rfl (by (try simp only [mA_]); first | done | rfl | (simp only [List.length_drop, List.length_take]; rfl)) ?_; (with_reducible refine (impl_IsRuledOrder.calls k2 _ _ t479 _ _ t487 t481 true t521 _ ?side1 ?side2 ?side3 ?side4 A55.out).mono ?_); (case side1 => repeat (first | exact (Kd.R_reads' HO_3.out).2.2 | (with_reducible refine Kd.C_alloc ?_ _) | (with_reducible refine Kd.C_drewN ?_ _) | (with_reducible refine Kd.C_drew ?_))); (case side2 => exact (Kd.R_reads' HO_3.out).2.1); (case side3 => repeat (first | exact (Kd.R_reads' HO_7.out).2.2 | (with_reducible refine Kd.C_alloc ?_ _) | (with_reducible refine Kd.C_drewN ?_ _) | (with_reducible refine Kd.C_drew ?_))); (case side4 => exact (Kd.R_reads' HO_7.out).2.1); rintro e w63 ⟨rfl, hb⟩; refine ⟨_, rfl, ?_⟩; have n0_ := Aside0.mk (Kd.R_below (bR HO_3.out) hb); have n1_ := Aside0.mk (Kd.R_below (bR HO_6.out) hb); have n2_ := Aside0.mk (Kd.R_below (bR HO_7.out) hb); have n3_ := Aside0.mk (Kd.R_below (bR HO_12.out) hb); have n4_ := Aside0.mk (Kd.R_below (bR HO_14.out) hb); have n5_ := Aside0.mk (below_step (bw HB.out) hb); replace HO_3 := n0_; replace HO_6 := n1_; replace HO_7 := n2_; replace HO_12 := n3_; replace HO_14 := n4_; replace HB := n5_; clear n0_ n1_ n2_ n3_ n4_ n5_; (try clear hb); (try clear hb2); (try clear hk); (try clear hi)) | ((with_reducible refine gate_callee (f := 13) rfl ?_); refine goesL_ (some 136) rfl rfl Try.func13 (by kernel_rfl) rfl #[.slice Ao9 t479.length co9, .slice Ao62 t487.length co62, .int .i64 t481] rfl (by (try simp only [mA_]); first | done | rfl | (simp only [List.length_drop, List.length_take]; rfl)) ?_; (with_reducible refine (impl_IsBestOrder.calls k2 _ _ t479 _ _ t487 t481 true t523 _ ?side1 ?side2 ?side3 ?side4 A56.out).mono ?_); (case side1 => repeat (first | exact (Kd.R_reads' HO_3.out).2.2 | (with_reducible refine Kd.C_alloc ?_ _) | (with_reducible refine Kd.C_drewN ?_ _) | (with_reducible refine Kd.C_drew ?_))); (case side2 => exact (Kd.R_reads' HO_3.out).2.1); (case side3 => repeat (first | exact (Kd.R_reads' HO_7.out).2.2 | (with_reducible refine Kd.C_alloc ?_ _) | (with_reducible refine Kd.C_drewN ?_ _) | (with_reducible refine Kd.C_drew ?_))); (case side4 => exact (Kd.R_reads' HO_7.out).2.1); rintro e w64 ⟨rfl, hb⟩; refine ⟨_, rfl, ?_⟩; have n0_ := Aside0.mk (Kd.R_below (bR HO_3.out) hb); have n1_ := Aside0.mk (Kd.R_below (bR HO_6.out) hb); have n2_ := Aside0.mk (Kd.R_below (bR HO_7.out) hb); have n3_ := Aside0.mk (Kd.R_below (bR HO_12.out) hb); have n4_ := Aside0.mk (Kd.R_below (bR HO_14.out) hb); have n5_ := Aside0.mk (below_step (bw HB.out) hb); replace HO_3 := n0_; replace HO_6 := n1_; replace HO_7 := n2_; replace HO_12 := n3_; replace HO_14 := n4_; replace HB := n5_; clear n0_ n1_ n2_ n3_ n4_ n5_; (try clear hb); (try clear hb2); (try clear hk); (try clear hi); obtain ⟨Ao65, co65, eo65⟩ := Kd.R_slice HO_14.out; subst eo65) | ((with_reducible refine gate_callee (f := 8) rfl ?_); refine goesL_ (some 141) rfl rfl Try.func8 (by kernel_rfl) rfl #[.slice Ao65 x14_2.length co65, .slice Ao62 t487.length co62] rfl (by (try simp only [mA_]); first | done | rfl | (simp only [List.length_drop, List.length_take]; rfl)) ?_; (with_reducible refine (laws_vInts.calls k2 _ _ x14_2 _ _ t487 true _ ?side1 ?side2 ?side3 ?side4 A57.out).mono ?_); (case side1 => repeat (first | exact (Kd.R_reads' HO_14.out).2.2 | (with_reducible refine Kd.C_alloc ?_ _) | (with_reducible refine Kd.C_drewN ?_ _) | (with_reducible refine Kd.C_drew ?_))); (case side2 => exact (Kd.R_reads' HO_14.out).2.1); (case side3 => repeat (first | exact (Kd.R_reads' HO_7.out).2.2 | (with_reducible refine Kd.C_alloc ?_ _) | (with_reducible refine Kd.C_drewN ?_ _) | (with_reducible refine Kd.C_drew ?_))); (case side4 => exact (Kd.R_reads' HO_7.out).2.1); rintro e w' ⟨rfl, ⟨nd, rfl⟩⟩; refine ⟨_, rfl, ?_⟩; obtain ⟨Ao66, co66, eo66⟩ := Kd.R_slice HO_12.out; subst eo66))
      go_ret
      exact ⟨by first | rfl | (simp [errW_none, errW_some] <;> rfl) | (simp [*, errW_none, errW_some] <;> rfl), bw HB.out⟩
     rw [if_pos c29] at H
     have c29b0 : decide (x15_2 < (t486.length : Int)) = true := decide_eq_true c29
     clear c29
     by_cases c30 : 0 ≤ x15_2
     rotate_left
     ·rw [if_neg c30] at H
      exact absurd H (by simp)
     rw [if_pos c30] at H
     have c30b0 : decide (0 ≤ x15_2) = true := decide_eq_true c30
     clear c30
     replace H := Option.bind_eq_some_iff.mp H
     obtain ⟨⟨t510, t511⟩, A310, H⟩ := H
     replace H : (if t511 = true then (if t510 < 0 then (some false) else (if 0 ≤ (rd t486 x15_2) then (if (rd t486 x15_2) < (x14_2.length : Int) then (if 0 ≤ (wrap64 ((rd t486 x15_2) + 1)) then (if (wrap64 ((rd t486 x15_2) + 1)) < (x14_2.length : Int) then (laws_FnSorting.l0 k2 t479 t481 t486 t487 t502 ((x14_2.set ((rd t486 x15_2) : Int).toNat (rd x14_2 (wrap64 ((rd t486 x15_2) + 1)))).set ((wrap64 ((rd t486 x15_2) + 1)) : Int).toNat (rd x14_2 (rd t486 x15_2))) (wrap64 (x15_2 + 1))) else (none)) else (none)) else (none)) else (none))) else (some false)) = some r := H
     have A31 := Aside0.mk A310
     clear A310
     by_cases c32 : t511 = true
     rotate_left
     ·replace c32 := Bool.eq_false_iff.mpr c32
      subst c32
      have H1 : (some false) = some r := by rw [if_neg (show ¬ (false = true) by decide)] at H; exact H
      clear H
      have H := H1
      clear H1
      obtain rfl := Option.some.inj H
      obtain ⟨Ao52, co52, eo52⟩ := Kd.R_slice HO_6.out
      subst eo52
      have p509 : 0 ≤ (x15_2 : Int) := of_decide_eq_true (by first | (with_reducible assumption) | assumption)
      have q509 : x15_2 < (t486.length : Int) := of_decide_eq_true (by first | (with_reducible assumption) | assumption)
      obtain ⟨ad509, e509, hx509_0⟩ := Kd.at_int (Kd.R_reads' HO_6.out).2.2 x15_2 p509 q509
      cases e509
      replace p509 := eq_true p509
      replace q509 := eq_true q509
      obtain ⟨Ao53, co53, eo53⟩ := Kd.R_slice HO_14.out
      subst eo53
      go_wp2_with (first | ((with_reducible refine gate_callee (f := 11) rfl ?_); refine goesL_ (some 87) rfl rfl Try.func11 (by kernel_rfl) rfl #[.slice Ao9 t479.length co9, .slice Ao53 x14_2.length co53, .int .i64 (rd t486 x15_2), .int .i64 t481] rfl (by (try simp only [mA_]); first | done | rfl | (simp only [List.length_drop, List.length_take]; rfl)) ?_; (with_reducible refine (impl_ExchangeGain.calls k2 _ _ t479 _ _ x14_2 (rd t486 x15_2) t481 t510 false _ ?side1 ?side2 ?side3 ?side4 A31.out).mono ?_); (case side1 => repeat (first | exact (Kd.R_reads' HO_3.out).2.2 | (with_reducible refine Kd.C_alloc ?_ _) | (with_reducible refine Kd.C_drewN ?_ _) | (with_reducible refine Kd.C_drew ?_))); (case side2 => exact (Kd.R_reads' HO_3.out).2.1); (case side3 => repeat (first | exact (Kd.R_reads' HO_14.out).2.2 | (with_reducible refine Kd.C_alloc ?_ _) | (with_reducible refine Kd.C_drewN ?_ _) | (with_reducible refine Kd.C_drew ?_))); (case side4 => exact (Kd.R_reads' HO_14.out).2.1); rintro e w54 ⟨rfl, hb⟩; refine ⟨_, rfl, ?_⟩; have n0_ := Aside0.mk (Kd.R_below (bR HO_3.out) hb); have n1_ := Aside0.mk (Kd.R_below (bR HO_6.out) hb); have n2_ := Aside0.mk (Kd.R_below (bR HO_7.out) hb); have n3_ := Aside0.mk (Kd.R_below (bR HO_12.out) hb); have n4_ := Aside0.mk (Kd.R_below (bR HO_14.out) hb); have n5_ := Aside0.mk (below_step (bw HB.out) hb); replace HO_3 := n0_; replace HO_6 := n1_; replace HO_7 := n2_; replace HO_12 := n3_; replace HO_14 := n4_; replace HB := n5_; clear n0_ n1_ n2_ n3_ n4_ n5_; (try clear hb); (try clear hb2); (try clear hk); (try clear hi)))
      go_ret
      exact ⟨by first | rfl | (simp [errW_none, errW_some] <;> rfl) | (simp [*, errW_none, errW_some] <;> rfl), bw HB.out⟩
     subst c32
     have H1 : (if t510 < 0 then (some false) else (if 0 ≤ (rd t486 x15_2) then (if (rd t486 x15_2) < (x14_2.length : Int) then (if 0 ≤ (wrap64 ((rd t486 x15_2) + 1)) then (if (wrap64 ((rd t486 x15_2) + 1)) < (x14_2.length : Int) then (laws_FnSorting.l0 k2 t479 t481 t486 t487 t502 ((x14_2.set ((rd t486 x15_2) : Int).toNat (rd x14_2 (wrap64 ((rd t486 x15_2) + 1)))).set ((wrap64 ((rd t486 x15_2) + 1)) : Int).toNat (rd x14_2 (rd t486 x15_2))) (wrap64 (x15_2 + 1))) else (none)) else (none)) else (none)) else (none))) = some r := by rw [if_pos rfl] at H; exact H
     clear H
     have H := H1
     clear H1
     by_cases c33 : t510 < 0
     ·rw [if_pos c33] at H
      have c33b0 : decide (t510 < 0) = true := decide_eq_true c33
      clear c33
      obtain rfl := Option.some.inj H
      obtain ⟨Ao34, co34, eo34⟩ := Kd.R_slice HO_6.out
      subst eo34
      have p509 : 0 ≤ (x15_2 : Int) := of_decide_eq_true (by first | (with_reducible assumption) | assumption)
      have q509 : x15_2 < (t486.length : Int) := of_decide_eq_true (by first | (with_reducible assumption) | assumption)
      obtain ⟨ad509, e509, hx509_0⟩ := Kd.at_int (Kd.R_reads' HO_6.out).2.2 x15_2 p509 q509
      cases e509
      replace p509 := eq_true p509
      replace q509 := eq_true q509
      obtain ⟨Ao35, co35, eo35⟩ := Kd.R_slice HO_14.out
      subst eo35
      go_wp2_with (first | ((with_reducible refine gate_callee (f := 11) rfl ?_); refine goesL_ (some 87) rfl rfl Try.func11 (by kernel_rfl) rfl #[.slice Ao9 t479.length co9, .slice Ao35 x14_2.length co35, .int .i64 (rd t486 x15_2), .int .i64 t481] rfl (by (try simp only [mA_]); first | done | rfl | (simp only [List.length_drop, List.length_take]; rfl)) ?_; (with_reducible refine (impl_ExchangeGain.calls k2 _ _ t479 _ _ x14_2 (rd t486 x15_2) t481 t510 true _ ?side1 ?side2 ?side3 ?side4 A31.out).mono ?_); (case side1 => repeat (first | exact (Kd.R_reads' HO_3.out).2.2 | (with_reducible refine Kd.C_alloc ?_ _) | (with_reducible refine Kd.C_drewN ?_ _) | (with_reducible refine Kd.C_drew ?_))); (case side2 => exact (Kd.R_reads' HO_3.out).2.1); (case side3 => repeat (first | exact (Kd.R_reads' HO_14.out).2.2 | (with_reducible refine Kd.C_alloc ?_ _) | (with_reducible refine Kd.C_drewN ?_ _) | (with_reducible refine Kd.C_drew ?_))); (case side4 => exact (Kd.R_reads' HO_14.out).2.1); rintro e w36 ⟨rfl, hb⟩; refine ⟨_, rfl, ?_⟩; have n0_ := Aside0.mk (Kd.R_below (bR HO_3.out) hb); have n1_ := Aside0.mk (Kd.R_below (bR HO_6.out) hb); have n2_ := Aside0.mk (Kd.R_below (bR HO_7.out) hb); have n3_ := Aside0.mk (Kd.R_below (bR HO_12.out) hb); have n4_ := Aside0.mk (Kd.R_below (bR HO_14.out) hb); have n5_ := Aside0.mk (below_step (bw HB.out) hb); replace HO_3 := n0_; replace HO_6 := n1_; replace HO_7 := n2_; replace HO_12 := n3_; replace HO_14 := n4_; replace HB := n5_; clear n0_ n1_ n2_ n3_ n4_ n5_; (try clear hb); (try clear hb2); (try clear hk); (try clear hi)))
      go_ret
      exact ⟨by first | rfl | (simp [errW_none, errW_some] <;> rfl) | (simp [*, errW_none, errW_some] <;> rfl), bw HB.out⟩
     rw [if_neg c33] at H
     have c33b0 : decide (t510 < 0) = false := decide_eq_false c33
     clear c33
     by_cases c37 : 0 ≤ (rd t486 x15_2)
     rotate_left
     ·rw [if_neg c37] at H
      exact absurd H (by simp)
     rw [if_pos c37] at H
     have c37b0 : decide (0 ≤ (rd t486 x15_2)) = true := decide_eq_true c37
     clear c37
     by_cases c38 : (rd t486 x15_2) < (x14_2.length : Int)
     rotate_left
     ·rw [if_neg c38] at H
      exact absurd H (by simp)
     rw [if_pos c38] at H
     have c38b0 : decide ((rd t486 x15_2) < (x14_2.length : Int)) = true := decide_eq_true c38
     clear c38
     obtain ⟨ji39, hji39⟩ : ∃ j_ : Int, (wrap64 ((rd t486 x15_2) + 1)) = j_ := ⟨_, rfl⟩
     replace H : (if 0 ≤ (ji39) then (if (ji39) < (x14_2.length : Int) then (laws_FnSorting.l0 k2 t479 t481 t486 t487 t502 ((x14_2.set ((rd t486 x15_2) : Int).toNat (rd x14_2 (ji39))).set ((ji39) : Int).toNat (rd x14_2 (rd t486 x15_2))) (wrap64 (x15_2 + 1))) else (none)) else (none)) = some r := by first | (rw [hji39] at H; exact H) | (simp only [hji39] at H ⊢; exact H)
     (try rw [hji39] at A31)
     have hji39w : (IntKind.i64.wrap ((rd t486 x15_2) + 1)) = ji39 := (i64_w _).trans hji39
     by_cases c40 : 0 ≤ (ji39)
     rotate_left
     ·rw [if_neg c40] at H
      exact absurd H (by simp)
     rw [if_pos c40] at H
     have c40b0 : decide (0 ≤ (ji39)) = true := decide_eq_true c40
     clear c40
     by_cases c41 : (ji39) < (x14_2.length : Int)
     rotate_left
     ·rw [if_neg c41] at H
      exact absurd H (by simp)
     rw [if_pos c41] at H
     have c41b0 : decide ((ji39) < (x14_2.length : Int)) = true := decide_eq_true c41
     clear c41
     obtain ⟨y517, hy517⟩ : ∃ y_ : List Int, y_ = (x14_2.set ((rd t486 x15_2) : Int).toNat (rd x14_2 (ji39))) := ⟨_, rfl⟩
     replace H : (laws_FnSorting.l0 k2 t479 t481 t486 t487 t502 (y517.set ((ji39) : Int).toNat (rd x14_2 (rd t486 x15_2))) (wrap64 (x15_2 + 1))) = some r := by first | (rw [hy517]; with_reducible exact H) | (have H2_ := (Option.bind_some _ _).symm.trans H; rw [hy517]; with_reducible exact H2_) | (have H2_ := (Option.bind_some _ _).symm.trans H; with_reducible exact H2_) | with_reducible exact H | (rw [hy517]; exact H) | exact H
     have Ny517 := Aside0.mk hy517
     clear hy517
     obtain ⟨y519, hy519⟩ : ∃ y_ : List Int, y_ = (y517.set ((ji39) : Int).toNat (rd x14_2 (rd t486 x15_2))) := ⟨_, rfl⟩
     replace H : (laws_FnSorting.l0 k2 t479 t481 t486 t487 t502 y519 (wrap64 (x15_2 + 1))) = some r := by first | (rw [hy519]; with_reducible exact H) | (have H2_ := (Option.bind_some _ _).symm.trans H; rw [hy519]; with_reducible exact H2_) | (have H2_ := (Option.bind_some _ _).symm.trans H; with_reducible exact H2_) | with_reducible exact H | (rw [hy519]; exact H) | exact H
     have Ny519 := Aside0.mk hy519
     clear hy519
     have H' := Aside0.mk H
     clear H
     obtain ⟨Ao44, co44, eo44⟩ := Kd.R_slice HO_6.out
     subst eo44
     have p509 : 0 ≤ (x15_2 : Int) := of_decide_eq_true (by first | (with_reducible assumption) | assumption)
     have q509 : x15_2 < (t486.length : Int) := of_decide_eq_true (by first | (with_reducible assumption) | assumption)
     obtain ⟨ad509, e509, hx509_0⟩ := Kd.at_int (Kd.R_reads' HO_6.out).2.2 x15_2 p509 q509
     cases e509
     replace p509 := eq_true p509
     replace q509 := eq_true q509
     obtain ⟨Ao45, co45, eo45⟩ := Kd.R_slice HO_14.out
     subst eo45
     try go_wp2_with (first | ((with_reducible refine gate_callee (f := 11) rfl ?_); refine goesL_ (some 87) rfl rfl Try.func11 (by kernel_rfl) rfl #[.slice Ao9 t479.length co9, .slice Ao45 x14_2.length co45, .int .i64 (rd t486 x15_2), .int .i64 t481] rfl (by (try simp only [mA_]); first | done | rfl | (simp only [List.length_drop, List.length_take]; rfl)) ?_; (with_reducible refine (impl_ExchangeGain.calls k2 _ _ t479 _ _ x14_2 (rd t486 x15_2) t481 t510 true _ ?side1 ?side2 ?side3 ?side4 A31.out).mono ?_); (case side1 => repeat (first | exact (Kd.R_reads' HO_3.out).2.2 | (with_reducible refine Kd.C_alloc ?_ _) | (with_reducible refine Kd.C_drewN ?_ _) | (with_reducible refine Kd.C_drew ?_))); (case side2 => exact (Kd.R_reads' HO_3.out).2.1); (case side3 => repeat (first | exact (Kd.R_reads' HO_14.out).2.2 | (with_reducible refine Kd.C_alloc ?_ _) | (with_reducible refine Kd.C_drewN ?_ _) | (with_reducible refine Kd.C_drew ?_))); (case side4 => exact (Kd.R_reads' HO_14.out).2.1); rintro e w46 ⟨rfl, hb⟩; refine ⟨_, rfl, ?_⟩; have n0_ := Aside0.mk (Kd.R_below (bR HO_3.out) hb); have n1_ := Aside0.mk (Kd.R_below (bR HO_6.out) hb); have n2_ := Aside0.mk (Kd.R_below (bR HO_7.out) hb); have n3_ := Aside0.mk (Kd.R_below (bR HO_12.out) hb); have n4_ := Aside0.mk (Kd.R_below (bR HO_14.out) hb); have n5_ := Aside0.mk (below_step (bw HB.out) hb); replace HO_3 := n0_; replace HO_6 := n1_; replace HO_7 := n2_; replace HO_12 := n3_; replace HO_14 := n4_; replace HB := n5_; clear n0_ n1_ n2_ n3_ n4_ n5_; (try clear hb); (try clear hb2); (try clear hk); (try clear hi); have p512 : 0 ≤ (x15_2 : Int) := of_decide_eq_true (by first | (with_reducible assumption) | assumption); have q512 : x15_2 < (t486.length : Int) := of_decide_eq_true (by first | (with_reducible assumption) | assumption); obtain ⟨ad512, e512, hx512_0⟩ := Kd.at_int (Kd.R_reads' HO_6.out).2.2 x15_2 p512 q512; obtain rfl : ad509 = ad512 := (by injection e512); replace p512 := eq_true p512; replace q512 := eq_true q512; have p513 : 0 ≤ ((rd t486 x15_2) : Int) := of_decide_eq_true (by first | (with_reducible assumption) | assumption); have q513 : (rd t486 x15_2) < (x14_2.length : Int) := of_decide_eq_true (by first | (with_reducible assumption) | assumption); obtain ⟨ad513, e513, hx513_0⟩ := Kd.at_int (Kd.R_reads' HO_14.out).2.2 (rd t486 x15_2) p513 q513; cases e513; replace p513 := eq_true p513; replace q513 := eq_true q513))
     have n0_ := Aside0.mk (Kd.R_drew HO_3.out)
     have n1_ := Aside0.mk (Kd.R_drew HO_6.out)
     have n2_ := Aside0.mk (Kd.R_drew HO_7.out)
     have n3_ := Aside0.mk (Kd.R_drew HO_12.out)
     have n4_ := Aside0.mk (Kd.R_drew HO_14.out)
     have n5_ := Aside0.mk (below_drew1 HB.out)
     replace HO_3 := n0_
     replace HO_6 := n1_
     replace HO_7 := n2_
     replace HO_12 := n3_
     replace HO_14 := n4_
     replace HB := n5_
     clear n0_ n1_ n2_ n3_ n4_ n5_
     have p514 : 0 ≤ (x15_2 : Int) := of_decide_eq_true (by first | (with_reducible assumption) | assumption)
     have q514 : x15_2 < (t486.length : Int) := of_decide_eq_true (by first | (with_reducible assumption) | assumption)
     obtain ⟨ad514, e514, hx514_0⟩ := Kd.at_int (Kd.R_reads' HO_6.out).2.2 x15_2 p514 q514
     obtain rfl : ad509 = ad514 := (by injection e514)
     replace p514 := eq_true p514
     replace q514 := eq_true q514
     have p515 : 0 ≤ (x15_2 : Int) := of_decide_eq_true (by first | (with_reducible assumption) | assumption)
     have q515 : x15_2 < (t486.length : Int) := of_decide_eq_true (by first | (with_reducible assumption) | assumption)
     obtain ⟨ad515, e515, hx515_0⟩ := Kd.at_int (Kd.R_reads' HO_6.out).2.2 x15_2 p515 q515
     obtain rfl : ad509 = ad515 := (by injection e515)
     replace p515 := eq_true p515
     replace q515 := eq_true q515
     have p516 : 0 ≤ ((ji39) : Int) := of_decide_eq_true (by first | (with_reducible assumption) | assumption)
     have q516 : (ji39) < (x14_2.length : Int) := of_decide_eq_true (by first | (with_reducible assumption) | assumption)
     obtain ⟨ad516, e516, hx516_0⟩ := Kd.at_int (Kd.R_reads' HO_14.out).2.2 (ji39) p516 q516
     obtain rfl : ad513 = ad516 := (by injection e516)
     replace p516 := eq_true p516
     replace q516 := eq_true q516
     have p42 : 0 ≤ ((rd t486 x15_2) : Int) := of_decide_eq_true (by first | (with_reducible assumption) | assumption)
     have q42 : ((rd t486 x15_2) : Int) < ((x14_2.length : Int) : Int) := of_decide_eq_true (by first | (with_reducible assumption) | assumption)
     obtain ⟨go42, co42, eo42, gb42, gl42, cl42, HG42⟩ := Kd.R_form HO_14.out (by omega)
     (first | cases eo42 | (injection eo42 with ea_ en_ ec_; (first | subst ea_ | (injection ea_ with ea_; subst ea_)); subst ec_; clear en_))
     have GB42 := Aside0.mk gb42
     have GG42 := Aside0.mk HG42
     clear gb42 gl42 HG42
     (first | simp only [add_plain] at hx513_0 | skip)
     (first | simp only [add_plain] at hx516_0 | skip)
     obtain ⟨hx42_0, hf42_0⟩ := Kd.R_celln 0 HO_14.out ((rd t486 x15_2) : Int) p42 q42
     replace p42 := eq_true p42
     replace q42 := eq_true q42
     have HP48 := Kd.R_putn HO_14.out ((rd t486 x15_2) : Int) (rd x14_2 (ji39))
     rw [← Ny517.out] at HP48
     have HQ48 := Aside0.mk HP48
     clear HP48
     refine start_ (n := 15) (S := fun w' => w'.cell? (ad509.add (x15_2).toNat) = some (.int .i64 (rd t486 x15_2)) ∧ w'.cell? (ad509.add (x15_2).toNat) = some (.int .i64 (rd t486 x15_2)) ∧ w'.cell? ⟨go42, ((ji39)).toNat, none⟩ = some (.int .i64 (rd x14_2 (ji39)))) (ds := [14]) q3_0 (by kernel_rfl) rfl rfl ⟨hx514_0, hx515_0, hx516_0⟩ (fun hHeld => ?_); refine with_tabW laws_FnSorting.tab19 laws_FnSorting.bits19 (fun HT_ HW_ => ?_)
     generalize w46.drew = w47 at HO_3 HO_6 HO_7 HO_12 HO_14 HB GG42 HQ48 hf42_0 hx42_0 hx513_0 hx514_0 hx515_0 hx516_0 hHeld ⊢
     refine pw_ HT_ 0 (some 103) ?_
     refine pw_ HT_ 1 (some 104) ?_
     refine pw_ HT_ 2 (some 105) ?_
     refine pw_ HT_ 3 (some 106) ?_
     refine pw_ HT_ 5 (some 108) ?_
     refine pw_ HT_ 6 (some 109) ?_
     refine pw_ HT_ 7 (some 110) ?_
     refine pw_ HT_ 8 (some 111) ?_
     refine take_ (i := 4) (N := some 107) (v := ?_) (a' := ?_) q3_9 rfl rfl (take_ofW HT_.out HW_.out (by kernel_rfl)) (fun _ _ _ h => h) (Or.inl ⟨by rfl, ?_⟩) hHeld ?_ ?_
     rotate_left
     ·rintro w' ⟨s0, s1, s2⟩
      go_simp
      with_reducible rfl
     rotate_left
     ·simp only [aq_]
      rfl
     refine take_ (i := 9) (N := some 112) (v := ?_) (a' := ?_) q3_10 rfl rfl (take_ofW HT_.out HW_.out (by kernel_rfl)) (fun _ _ _ h => h) (Or.inl ⟨by rfl, ?_⟩) hHeld ?_ ?_
     rotate_left
     ·rintro w' ⟨s0, s1, s2⟩
      go_simp
      with_reducible rfl
     rotate_left
     ·simp only [aq_]
      rfl
     refine pw_ HT_ 10 (some 113) ?_
     refine pw_ HT_ 11 (some 114) ?_
     refine take_ (i := 12) (N := some 115) (v := ?_) (a' := ?_) q3_13 rfl rfl (take_ofW HT_.out HW_.out (by kernel_rfl)) (fun _ _ _ h => h) (Or.inl ⟨by rfl, ?_⟩) hHeld ?_ ?_
     rotate_left
     ·rintro w' ⟨s0, s1, s2⟩
      go_simp
      with_reducible rfl
     rotate_left
     ·simp only [aq_]
      rfl
     refine pw_ HT_ 13 (some 116) ?_
     refine last_ (i := 14) (N := none) q3_15 rfl rfl (one_of HT_.out (by kernel_rfl)) (by decide) (fun K hK => ?_)
     refine skip_ (w1 := ?_) (by rfl) rfl ?_ ?_
     rotate_left
     ·go_simp
      rfl
     refine hK.out _ _ ?_
     clear hK K
     refine done_ (done_of HT_.out (by kernel_rfl)) ?_
     have n0_ : Aside0 (Kd.R k42 42 (w47.setCell ⟨go42, ((rd t486 x15_2) : Int).toNat, none⟩ (.int .i64 (rd x14_2 (ji39)))) w.heap.size (fun _ => True) (.slice Ao9 t479.length co9) t479) := ⟨by (with_reducible repeat (first | apply Kd.R_alloc | apply Kd.R_drewN | apply Kd.R_drew)); exact Kd.R_mono (Kd.R_far (p := ⟨go42, ((rd t486 x15_2) : Int).toNat, none⟩) (Kd.R_types HO_3.out GG42.out (by decide)) (fun _ hk => hk.2) (.int .i64 (rd x14_2 (ji39)))) (fun _ hk => trivial)⟩
     have n1_ : Aside0 (Kd.R (Kd.int .i64) 3 (w47.setCell ⟨go42, ((rd t486 x15_2) : Int).toNat, none⟩ (.int .i64 (rd x14_2 (ji39)))) w.heap.size (fun k_ => some k_ ≠ (v491 : Value).ownBlock ∧ some k_ ≠ (.slice (some ⟨go42, 0, none⟩) x14_2.length co45 : Value).ownBlock) (.slice (some ad509) t486.length co44) t486) := ⟨by (with_reducible repeat (first | apply Kd.R_alloc | apply Kd.R_drewN | apply Kd.R_drew)); exact Kd.R_mono (Kd.R_far (p := ⟨go42, ((rd t486 x15_2) : Int).toNat, none⟩) (Kd.R_mono HO_6.out (fun k_ hk => (⟨hk, fun e_ => hk.2 (by rw [e_]; rfl)⟩ : _ ∧ k_ ≠ go42))) (fun _ hk => hk.2) (.int .i64 (rd x14_2 (ji39)))) (fun _ hk => ⟨hk.1.1, hk.1.2⟩)⟩
     have n2_ : Aside0 (Kd.R (Kd.int .i64) 3 (w47.setCell ⟨go42, ((rd t486 x15_2) : Int).toNat, none⟩ (.int .i64 (rd x14_2 (ji39)))) w.heap.size (fun k_ => some k_ ≠ (.slice (some ad509) t486.length co44 : Value).ownBlock ∧ some k_ ≠ (.slice (some ⟨go42, 0, none⟩) x14_2.length co45 : Value).ownBlock) v491 t487) := ⟨by (with_reducible repeat (first | apply Kd.R_alloc | apply Kd.R_drewN | apply Kd.R_drew)); exact Kd.R_mono (Kd.R_far (p := ⟨go42, ((rd t486 x15_2) : Int).toNat, none⟩) (Kd.R_mono HO_7.out (fun k_ hk => (⟨hk, fun e_ => hk.2 (by rw [e_]; rfl)⟩ : _ ∧ k_ ≠ go42))) (fun _ hk => hk.2) (.int .i64 (rd x14_2 (ji39)))) (fun _ hk => ⟨hk.1.1, hk.1.2⟩)⟩
     have n3_ : Aside0 (Kd.R k63 63 (w47.setCell ⟨go42, ((rd t486 x15_2) : Int).toNat, none⟩ (.int .i64 (rd x14_2 (ji39)))) w.heap.size (fun _ => True) v504 t502) := ⟨by (with_reducible repeat (first | apply Kd.R_alloc | apply Kd.R_drewN | apply Kd.R_drew)); exact Kd.R_mono (Kd.R_far (p := ⟨go42, ((rd t486 x15_2) : Int).toNat, none⟩) (Kd.R_types HO_12.out GG42.out (by decide)) (fun _ hk => hk.2) (.int .i64 (rd x14_2 (ji39)))) (fun _ hk => trivial)⟩
     have n4_ : Aside0 (Kd.R (Kd.int .i64) 3 (w47.setCell ⟨go42, ((rd t486 x15_2) : Int).toNat, none⟩ (.int .i64 (rd x14_2 (ji39)))) w.heap.size (fun k_ => some k_ ≠ (.slice (some ad509) t486.length co44 : Value).ownBlock ∧ some k_ ≠ (v491 : Value).ownBlock) (.slice (some ⟨go42, 0, none⟩) x14_2.length co45) y517) := ⟨bR HQ48.out⟩
     have n5_ : Aside0 (Below w.heap.size w (w47.setCell ⟨go42, ((rd t486 x15_2) : Int).toNat, none⟩ (.int .i64 (rd x14_2 (ji39))))) := ⟨by repeat (first | (with_reducible first | exact HB.out | apply below_alloc | apply pw_below_drewN | apply below_drew1 | refine below_set ?_ GB42.out) | exact HB.out)⟩
     (try clear HO_3)
     (try clear HO_6)
     (try clear HO_7)
     (try clear HO_12)
     (try clear HO_14)
     (try clear HB)
     (try simp only [setCell_drewN])
     generalize (w47.setCell ⟨go42, ((rd t486 x15_2) : Int).toNat, none⟩ (.int .i64 (rd x14_2 (ji39)))) = w49 at n0_ n1_ n2_ n3_ n4_ n5_ ⊢
     have HO_3 := n0_
     have HO_6 := n1_
     have HO_7 := n2_
     have HO_12 := n3_
     have HO_14 := n4_
     have HB := n5_
     clear n0_ n1_ n2_ n3_ n4_ n5_
     have p518 : 0 ≤ (x15_2 : Int) := of_decide_eq_true (by first | (with_reducible assumption) | assumption)
     have q518 : x15_2 < (t486.length : Int) := of_decide_eq_true (by first | (with_reducible assumption) | assumption)
     obtain ⟨ad518, e518, hx518_0⟩ := Kd.at_int (Kd.R_reads' HO_6.out).2.2 x15_2 p518 q518
     obtain rfl : ad509 = ad518 := (by injection e518)
     replace p518 := eq_true p518
     replace q518 := eq_true q518
     have p43 : 0 ≤ ((ji39) : Int) := of_decide_eq_true (by first | (with_reducible assumption) | assumption)
     have q43 : ((ji39) : Int) < ((x14_2.length : Int) : Int) := of_decide_eq_true (by first | (with_reducible assumption) | assumption)
     obtain ⟨hx43_0, hf43_0⟩ := Kd.R_celln 0 HO_14.out ((ji39) : Int) p43 q43
     replace p43 := eq_true p43
     replace q43 := eq_true q43
     obtain ⟨hy50_, hz50_⟩ := Kd.R_celln 0 HO_14.out ((ji39) : Int) (of_decide_eq_true (by first | (with_reducible assumption) | assumption)) (of_decide_eq_true (by first | (with_reducible assumption) | assumption))
     have HP50 := Kd.R_putg HO_14.out ((ji39) : Int) (rd x14_2 (rd t486 x15_2))
     try go_wp2_with (first | ((with_reducible refine gate_store (t := 3) (p := 124) rfl ?_); refine store_event (t := 3) (p := 124) (v := ?vo_w51) (w1 := (w49.setCell ⟨go42, ((ji39) : Int).toNat, none⟩ (.int .i64 (rd x14_2 (rd t486 x15_2))))) ?hg ?ho ?hn ?hr ?_; (case ho => rfl); (case hg => rfl); (case hn => rfl); (case hr => first | (go_simp; done) | (go_simp; rfl)); intro w51 hw; have hg : w49.grownBy w51 (some go42) := (by rw [hw]; exact HP50.2); have hp_ : Kd.R (Kd.int .i64) 3 w51 w.heap.size (fun k_ => some k_ ≠ (.slice (some ad509) t486.length co44 : Value).ownBlock ∧ some k_ ≠ (v491 : Value).ownBlock) (.slice (some ⟨go42, 0, none⟩) x14_2.length co45) y519 := (by rw [hw, Ny519.out]; exact HP50.1); clear HP50; have n0_ := Aside0.mk (Kd.R_over' (v := (.slice (some ⟨go42, 0, none⟩) x14_2.length co45)) (bR HO_3.out) (Kd.R_typed HO_14.out) (by decide) hg); have n1_ := Aside0.mk (Kd.R_after (v := (.slice (some ⟨go42, 0, none⟩) x14_2.length co45)) (v1 := (.slice (some ⟨go42, 0, none⟩) x14_2.length co45)) (ok := (fun k_ => some k_ ≠ (v491 : Value).ownBlock)) (bR HO_6.out) hg (.inl rfl)); have n2_ := Aside0.mk (Kd.R_after (v := (.slice (some ⟨go42, 0, none⟩) x14_2.length co45)) (v1 := (.slice (some ⟨go42, 0, none⟩) x14_2.length co45)) (ok := (fun k_ => some k_ ≠ (.slice (some ad509) t486.length co44 : Value).ownBlock)) (bR HO_7.out) hg (.inl rfl)); have n3_ := Aside0.mk (Kd.R_over' (v := (.slice (some ⟨go42, 0, none⟩) x14_2.length co45)) (bR HO_12.out) (Kd.R_typed HO_14.out) (by decide) hg); have n4_ := Aside0.mk (hp_); have n5_ := Aside0.mk ((by rw [hw]; exact below_set (HB.out) GB42.out : Below w.heap.size w w51)); replace HO_3 := n0_; replace HO_6 := n1_; replace HO_7 := n2_; replace HO_12 := n3_; replace HO_14 := n4_; replace HB := n5_; clear n0_ n1_ n2_ n3_ n4_ n5_; clear hg hw hp_))
     go_roundg k2
     case measure => have := HJ6.out; have := HK2.out; omega
     case rel => exact ⟨(y519), (wrap64 (x15_2 + 1)), (by first | rfl | (simp; done) | (simp [*]; done)), H', ⟨by have := HJ6.out; have := HK2.out; omega⟩, ⟨bR HO_3.out⟩, ⟨bR HO_6.out⟩, ⟨bR HO_7.out⟩, ⟨bR HO_12.out⟩, ⟨bR HO_14.out⟩, ⟨bw HB.out⟩⟩

/-- THE ONE PURE STATEMENT of laws_FnSorting: yours. -/
def laws_FnSorting.PureK : Prop := ∀ (l0 : List Int), l0.length ≤ maxLen → l0.length * 1 ≤ 140737488351232 → (∀ x ∈ l0, (Lit.int .u8 x).wf = true) → ∃ k, laws_FnSorting.f k l0 = some true
theorem laws_FnSorting.walk (P : laws_FnSorting.PureK) (a0 : Option Addr) (len0 cap0 : Nat) (z0 : List Int) (w : World) (w0 : (a0 = none ∧ len0 = 0 ∧ cap0 = 0 ∧ z0 = []) ∨ ∃ x, a0 = some x ∧ len0 ≤ cap0 ∧ cap0 ≤ maxLen ∧ z0.length = cap0 ∧ (∀ i, i < z0.length → w.cell? (x.add i) = some (.int .u8 (z0.getD i 0))) ∧ ∀ n ∈ z0, (Lit.int .u8 n).wf = true) (y0 : len0 * 1 ≤ 140737488351232) :
  Calls Try.prog 3 #[.slice a0 len0 cap0] w fun e w' => e = .returned (.bool true) ∧ Below w.heap.size w w' := by
 obtain ⟨l0, rfl, hr0, hm0, hw0, hc0⟩ := ReadsInt.ofRowC w0
 obtain ⟨k, h⟩ := P l0 hm0 y0 hw0
 refine (laws_FnSorting.calls k _ _ l0 true w (Kd.C_of_reads (d := (0 : Int)) (h1 := fun _ => rfl) hr0) hc0 h).mono ?_
 rintro e w' ⟨rfl, hd⟩
 exact ⟨rfl, hd⟩

end Go.Proofs.Ytmfmgingdepjbaa.X
