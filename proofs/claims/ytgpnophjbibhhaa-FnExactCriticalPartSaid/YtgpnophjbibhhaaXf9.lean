-- Written by a program of this session (wip/gen/xp.py, over the kit's printer). Not trusted: Lean checks it.
import Derived.Test.YtgpnophjbibhhaaX0
import Derived.Test.YtgpnophjbibhhaaXf15
import Derived.Test.YtgpnophjbibhhaaXf21
import Derived.Test.YtgpnophjbibhhaaXf27
import Derived.Test.YtgpnophjbibhhaaXf28
import Derived.Test.YtgpnophjbibhhaaXf42
import Derived.Test.YtgpnophjbibhhaaXf66
import Derived.Test.YtgpnophjbibhhaaXf86
namespace Go.Proofs.Ytgpnophjbibhhaa.X
open Go.RowKit Go.Proofs.YtgpnophjbibhhaaW.PrintWords Go.Proofs.YtgpnophjbibhhaaW.PrintLast Go.Proofs.YtgpnophjbibhhaaW.PrintMore
attribute [local go_sem] max2_int min2_int max_two min_two max_three min_three max_four min_four   -- for this text's walks alone
set_option linter.unusedVariables false
set_option linter.unusedSimpArgs false

/-! ### spec_CriticalPart: function 50 -/
def spec_CriticalPart.f (k : Nat) (l0 : List (S89)) : Option (List Int × Bool) := (spec_l2Good.f k l0).bind fun t781 => (if t781 = true then (if (l0.length : Int) = 0 then (some ((([] : List Int)), false)) else ((spec_l5Part.f k l0).bind fun t785 => (some (t785, true)))) else (some ((([] : List Int)), false)))
theorem spec_CriticalPart.mono : ∀ a0 k, LeO (spec_CriticalPart.f k a0) (spec_CriticalPart.f (k + 1) a0) := by
 intro a0 k
 unfold spec_CriticalPart.f
 repeat' first
   | (with_reducible exact spec_l2Good.mono _ _)
   | (with_reducible exact spec_l5Part.mono _ _)
   | (with_reducible exact LeO.refl _)
   | (with_reducible exact LeO.none _)
   | (with_reducible refine LeO.ite ?_ ?_)
   | (with_reducible refine LeO.bind ?_ (fun _ => ?_))
   | exact spec_l2Good.mono _ _
   | exact spec_l5Part.mono _ _
   | exact LeO.none _
   | refine LeO.ite ?_ ?_
   | refine LeO.bind ?_ (fun _ => ?_)
set_option maxHeartbeats 8000000 in
set_option maxRecDepth 100000 in
theorem spec_CriticalPart.calls (k : Nat) (A0 : Option Addr) (c0 : Nat) (l0 : List (S89)) (r1 : List Int) (r2 : Bool) (w : World) (hr0 : Kd.C k89 w A0 l0.length l0) (hc0 : l0.length ≤ c0) (h : spec_CriticalPart.f k l0 = some (r1, r2)) :
  Calls Try.prog 50 #[.slice A0 l0.length c0] w fun e w' => ∃ v0_ : Value, e = .returned (.tuple #[v0_, .bool r2]) ∧ Kd.R (Kd.int .i64) 3 w' w.heap.size (fun _ => True) v0_ r1 ∧ Below w.heap.size w w' := by
 have HR0 := Aside0.mk hr0
 have HC0 := Aside0.mk hc0
 clear hr0 hc0
 have HB := Aside0.mk (Below.refl w.heap.size w)
 have H : ((spec_l2Good.f k l0).bind fun t781 => (if t781 = true then (if (l0.length : Int) = 0 then (some ((([] : List Int)), false)) else ((spec_l5Part.f k l0).bind fun t785 => (some (t785, true)))) else (some ((([] : List Int)), false)))) = some (r1, r2) := h
 clear h
 replace H := Option.bind_eq_some_iff.mp H
 obtain ⟨t781, A20, H⟩ := H
 replace H : (if t781 = true then (if (l0.length : Int) = 0 then (some ((([] : List Int)), false)) else ((spec_l5Part.f k l0).bind fun t785 => (some (t785, true)))) else (some ((([] : List Int)), false))) = some (r1, r2) := H
 have A2 := Aside0.mk A20
 clear A20
 by_cases c3 : t781 = true
 rotate_left
 ·replace c3 := Bool.eq_false_iff.mpr c3
  subst c3
  have H1 : (some ((([] : List Int)), false)) = some (r1, r2) := by rw [if_neg (show ¬ (false = true) by decide)] at H; exact H
  clear H
  have H := H1
  clear H1
  obtain ⟨y788, hy788⟩ : ∃ y_ : List Int, y_ = (([] : List Int)) := ⟨_, rfl⟩
  replace H : (some (y788, false)) = some (r1, r2) := by first | (rw [hy788]; with_reducible exact H) | (have H2_ := (Option.bind_some _ _).symm.trans H; rw [hy788]; with_reducible exact H2_) | (have H2_ := (Option.bind_some _ _).symm.trans H; with_reducible exact H2_) | with_reducible exact H | (rw [hy788]; exact H) | exact H
  have Ny788 := Aside0.mk hy788
  clear hy788
  simp only [Option.some.injEq, Prod.mk.injEq] at H
  obtain ⟨rfl, rfl⟩ := H
  go_enter Try.func50, Try.ntmps50
  go_wp2_with (first | ((with_reducible refine gate_callee (f := 85) rfl ?_); refine goesL_ (some 5) rfl rfl Try.func85 (by kernel_rfl) rfl #[.slice A0 l0.length c0] rfl (by (try simp only [mA_]); first | done | rfl | (simp only [List.length_drop, List.length_take]; rfl)) ?_; (with_reducible refine (spec_l2Good.calls k _ _ l0 false _ ?side1 ?side2 A2.out).mono ?_); (case side1 => repeat (first | exact HR0.out | (with_reducible refine Kd.C_alloc ?_ _) | (with_reducible refine Kd.C_drewN ?_ _) | (with_reducible refine Kd.C_drew ?_))); (case side2 => exact HC0.out); rintro e w11 ⟨rfl, hb⟩; refine ⟨_, rfl, ?_⟩; have n0_ := Aside0.mk (below_step (bw HB.out) hb); replace HB := n0_; clear n0_; (try clear hb); (try clear hb2); (try clear hk); (try clear hi)) | ((with_reducible refine gate_dst (N := 12) rfl ?_); (try (refine gate_guard (by rfl) ?_; dsimp only)); refine Kd.R_lit (Kd.int .i64) _ 3 ?hg (N := 12) ?hd (xs := ([] : List Int)) (inner := []) (ok := fun _ => True) (okp := fun _ => True) ?hr ?hp (fun _ hk => hk) trivial (Below.refl _ _) (Nat.le_refl _) (by simp) ?_; (case hd => rfl); (case hg => rfl); (case hr => first | (go_simp; done) | (go_simp; rfl)); (case hp => exact (Reps.none _ _)); intro v789 w12 ho13 hb hg_ hnew_; clear hg_ hnew_; (first | rw [← Ny788.out] at ho13 | (simp only [Int.reduceToNat] at ho13; rw [← Ny788.out] at ho13)); have n0_ := Aside0.mk (Kd.R_lower ho13 (below_size (bw HB.out))); have n1_ := Aside0.mk (below_step (bw HB.out) hb); have HO790 := n0_; replace HB := n1_; clear n0_ n1_; clear hb ho13))
  go_ret2
  exact ⟨_, by first | rfl | (simp [errW_none, errW_some] <;> rfl) | (simp [*, errW_none, errW_some] <;> rfl), by (with_reducible repeat (first | apply Kd.R_alloc | apply Kd.R_drewN | apply Kd.R_drew)); exact HO790.out, bw HB.out⟩
 subst c3
 have H1 : (if (l0.length : Int) = 0 then (some ((([] : List Int)), false)) else ((spec_l5Part.f k l0).bind fun t785 => (some (t785, true)))) = some (r1, r2) := by rw [if_pos rfl] at H; exact H
 clear H
 have H := H1
 clear H1
 by_cases c4 : (l0.length : Int) = 0
 rotate_left
 ·rw [if_neg c4] at H
  have c4b0 : ((l0.length : Int) == 0) = false := beq_eq_false_iff_ne.mpr c4
  have c4b1 : ((l0.length : Int) != 0) = true := bne_iff_ne.mpr c4
  have c4b2 : ¬ (l0 = []) := fun h_ => c4 (by rw [h_]; rfl)
  replace H := Option.bind_eq_some_iff.mp H
  obtain ⟨t785, A80, H⟩ := H
  replace H : (some (t785, true)) = some (r1, r2) := H
  have A8 := Aside0.mk A80
  clear A80
  simp only [Option.some.injEq, Prod.mk.injEq] at H
  obtain ⟨rfl, rfl⟩ := H
  go_enter Try.func50, Try.ntmps50
  go_wp2_with (first | ((with_reducible refine gate_callee (f := 85) rfl ?_); refine goesL_ (some 5) rfl rfl Try.func85 (by kernel_rfl) rfl #[.slice A0 l0.length c0] rfl (by (try simp only [mA_]); first | done | rfl | (simp only [List.length_drop, List.length_take]; rfl)) ?_; (with_reducible refine (spec_l2Good.calls k _ _ l0 true _ ?side1 ?side2 A2.out).mono ?_); (case side1 => repeat (first | exact HR0.out | (with_reducible refine Kd.C_alloc ?_ _) | (with_reducible refine Kd.C_drewN ?_ _) | (with_reducible refine Kd.C_drew ?_))); (case side2 => exact HC0.out); rintro e w9 ⟨rfl, hb⟩; refine ⟨_, rfl, ?_⟩; have n0_ := Aside0.mk (below_step (bw HB.out) hb); replace HB := n0_; clear n0_; (try clear hb); (try clear hb2); (try clear hk); (try clear hi)) | ((with_reducible refine gate_callee (f := 86) rfl ?_); refine goesL_ (some 14) rfl rfl Try.func86 (by kernel_rfl) rfl #[.slice A0 l0.length c0] rfl (by (try simp only [mA_]); first | done | rfl | (simp only [List.length_drop, List.length_take]; rfl)) ?_; (with_reducible refine (spec_l5Part.calls k _ _ l0 t785 _ ?side1 ?side2 A8.out).mono ?_); (case side1 => first | exact bC HR0.out HB.out | exact Kd.C_below HR0.out HB.out); (case side2 => exact HC0.out); rintro e w10 ⟨v786, rfl, ho0, hb⟩; refine ⟨_, rfl, ?_⟩; have n0_ := Aside0.mk (Kd.R_lower ho0 (below_size (bw HB.out))); have n1_ := Aside0.mk (below_step (bw HB.out) hb); have HO787 := n0_; replace HB := n1_; clear n0_ n1_; (try clear hb); (try clear hb2); (try clear hk); (try clear hi); (try clear ho0)))
  go_ret2
  exact ⟨_, by first | rfl | (simp [errW_none, errW_some] <;> rfl) | (simp [*, errW_none, errW_some] <;> rfl), by (with_reducible repeat (first | apply Kd.R_alloc | apply Kd.R_drewN | apply Kd.R_drew)); exact HO787.out, bw HB.out⟩
 rw [if_pos c4] at H
 have c4b0 : ((l0.length : Int) == 0) = true := beq_iff_eq.mpr c4
 have c4b1 : ((l0.length : Int) != 0) = false := bne_eq_false_iff_eq.mpr c4
 clear c4
 obtain ⟨y782, hy782⟩ : ∃ y_ : List Int, y_ = (([] : List Int)) := ⟨_, rfl⟩
 replace H : (some (y782, false)) = some (r1, r2) := by first | (rw [hy782]; with_reducible exact H) | (have H2_ := (Option.bind_some _ _).symm.trans H; rw [hy782]; with_reducible exact H2_) | (have H2_ := (Option.bind_some _ _).symm.trans H; with_reducible exact H2_) | with_reducible exact H | (rw [hy782]; exact H) | exact H
 have Ny782 := Aside0.mk hy782
 clear hy782
 simp only [Option.some.injEq, Prod.mk.injEq] at H
 obtain ⟨rfl, rfl⟩ := H
 go_enter Try.func50, Try.ntmps50
 go_wp2_with (first | ((with_reducible refine gate_callee (f := 85) rfl ?_); refine goesL_ (some 5) rfl rfl Try.func85 (by kernel_rfl) rfl #[.slice A0 l0.length c0] rfl (by (try simp only [mA_]); first | done | rfl | (simp only [List.length_drop, List.length_take]; rfl)) ?_; (with_reducible refine (spec_l2Good.calls k _ _ l0 true _ ?side1 ?side2 A2.out).mono ?_); (case side1 => repeat (first | exact HR0.out | (with_reducible refine Kd.C_alloc ?_ _) | (with_reducible refine Kd.C_drewN ?_ _) | (with_reducible refine Kd.C_drew ?_))); (case side2 => exact HC0.out); rintro e w5 ⟨rfl, hb⟩; refine ⟨_, rfl, ?_⟩; have n0_ := Aside0.mk (below_step (bw HB.out) hb); replace HB := n0_; clear n0_; (try clear hb); (try clear hb2); (try clear hk); (try clear hi)) | ((with_reducible refine gate_dst (N := 12) rfl ?_); (try (refine gate_guard (by rfl) ?_; dsimp only)); refine Kd.R_lit (Kd.int .i64) _ 3 ?hg (N := 12) ?hd (xs := ([] : List Int)) (inner := []) (ok := fun _ => True) (okp := fun _ => True) ?hr ?hp (fun _ hk => hk) trivial (Below.refl _ _) (Nat.le_refl _) (by simp) ?_; (case hd => rfl); (case hg => rfl); (case hr => first | (go_simp; done) | (go_simp; rfl)); (case hp => exact (Reps.none _ _)); intro v783 w6 ho7 hb hg_ hnew_; clear hg_ hnew_; (first | rw [← Ny782.out] at ho7 | (simp only [Int.reduceToNat] at ho7; rw [← Ny782.out] at ho7)); have n0_ := Aside0.mk (Kd.R_lower ho7 (below_size (bw HB.out))); have n1_ := Aside0.mk (below_step (bw HB.out) hb); have HO784 := n0_; replace HB := n1_; clear n0_ n1_; clear hb ho7))
 go_ret2
 exact ⟨_, by first | rfl | (simp [errW_none, errW_some] <;> rfl) | (simp [*, errW_none, errW_some] <;> rfl), by (with_reducible repeat (first | apply Kd.R_alloc | apply Kd.R_drewN | apply Kd.R_drew)); exact HO784.out, bw HB.out⟩

/-! ### impl_CriticalPart: function 51 -/
def impl_CriticalPart.f (k : Nat) (l0 : List (S89)) : Option (List Int × Bool) := (impl_IsJobs.f k l0).bind fun t791 => (if t791 = true then (if (l0.length : Int) = 0 then (some (([] : List Int), false)) else ((impl_criticalPart.f k l0).bind fun t792 => (some (t792, true)))) else (some (([] : List Int), false)))
theorem impl_CriticalPart.mono : ∀ a0 k, LeO (impl_CriticalPart.f k a0) (impl_CriticalPart.f (k + 1) a0) := by
 intro a0 k
 unfold impl_CriticalPart.f
 repeat' first
   | (with_reducible exact impl_IsJobs.mono _ _)
   | (with_reducible exact impl_criticalPart.mono _ _)
   | (with_reducible exact LeO.refl _)
   | (with_reducible exact LeO.none _)
   | (with_reducible refine LeO.ite ?_ ?_)
   | (with_reducible refine LeO.bind ?_ (fun _ => ?_))
   | exact impl_IsJobs.mono _ _
   | exact impl_criticalPart.mono _ _
   | exact LeO.none _
   | refine LeO.ite ?_ ?_
   | refine LeO.bind ?_ (fun _ => ?_)
set_option maxHeartbeats 8000000 in
set_option maxRecDepth 100000 in
theorem impl_CriticalPart.calls (k : Nat) (A0 : Option Addr) (c0 : Nat) (l0 : List (S89)) (r1 : List Int) (r2 : Bool) (w : World) (hr0 : Kd.C k89 w A0 l0.length l0) (hc0 : l0.length ≤ c0) (h : impl_CriticalPart.f k l0 = some (r1, r2)) :
  Calls Try.prog 51 #[.slice A0 l0.length c0] w fun e w' => ∃ v0_ : Value, e = .returned (.tuple #[v0_, .bool r2]) ∧ Kd.Q (Kd.int .i64) 3 w' w.heap.size (fun _ => True) v0_ r1 ∧ Below w.heap.size w w' := by
 have HR0 := Aside0.mk hr0
 have HC0 := Aside0.mk hc0
 clear hr0 hc0
 have HB := Aside0.mk (Below.refl w.heap.size w)
 have H : ((impl_IsJobs.f k l0).bind fun t791 => (if t791 = true then (if (l0.length : Int) = 0 then (some (([] : List Int), false)) else ((impl_criticalPart.f k l0).bind fun t792 => (some (t792, true)))) else (some (([] : List Int), false)))) = some (r1, r2) := h
 clear h
 replace H := Option.bind_eq_some_iff.mp H
 obtain ⟨t791, A20, H⟩ := H
 replace H : (if t791 = true then (if (l0.length : Int) = 0 then (some (([] : List Int), false)) else ((impl_criticalPart.f k l0).bind fun t792 => (some (t792, true)))) else (some (([] : List Int), false))) = some (r1, r2) := H
 have A2 := Aside0.mk A20
 clear A20
 by_cases c3 : t791 = true
 rotate_left
 ·replace c3 := Bool.eq_false_iff.mpr c3
  subst c3
  have H1 : (some (([] : List Int), false)) = some (r1, r2) := by rw [if_neg (show ¬ (false = true) by decide)] at H; exact H
  clear H
  have H := H1
  clear H1
  simp only [Option.some.injEq, Prod.mk.injEq] at H
  obtain ⟨rfl, rfl⟩ := H
  go_enter Try.func51, Try.ntmps51
  go_wp2_with (first | ((with_reducible refine gate_callee (f := 66) rfl ?_); refine goesL_ (some 5) rfl rfl Try.func66 (by kernel_rfl) rfl #[.slice A0 l0.length c0] rfl (by (try simp only [mA_]); first | done | rfl | (simp only [List.length_drop, List.length_take]; rfl)) ?_; (with_reducible refine (impl_IsJobs.calls k _ _ l0 false _ ?side1 ?side2 A2.out).mono ?_); (case side1 => repeat (first | exact HR0.out | (with_reducible refine Kd.C_alloc ?_ _) | (with_reducible refine Kd.C_drewN ?_ _) | (with_reducible refine Kd.C_drew ?_))); (case side2 => exact HC0.out); rintro e w9 ⟨rfl, hb⟩; refine ⟨_, rfl, ?_⟩; have n0_ := Aside0.mk (below_step (bw HB.out) hb); replace HB := n0_; clear n0_; (try clear hb); (try clear hb2); (try clear hk); (try clear hi)))
  go_ret2
  exact ⟨_, by first | rfl | (simp [errW_none, errW_some] <;> rfl) | (simp [*, errW_none, errW_some] <;> rfl), Kd.Q_of_R (by first | exact Kd.R_nil _ _ _ _ _ | exact Kd.N_nil _ _ _ _ _ | exact Kd.V_nil _ _ _ _ _ | exact Kd.Q_nil _ _ _ _ _ | exact Kd.S_nil _ _ _ _ _), bw HB.out⟩
 subst c3
 have H1 : (if (l0.length : Int) = 0 then (some (([] : List Int), false)) else ((impl_criticalPart.f k l0).bind fun t792 => (some (t792, true)))) = some (r1, r2) := by rw [if_pos rfl] at H; exact H
 clear H
 have H := H1
 clear H1
 by_cases c4 : (l0.length : Int) = 0
 ·rw [if_pos c4] at H
  have c4b0 : ((l0.length : Int) == 0) = true := beq_iff_eq.mpr c4
  have c4b1 : ((l0.length : Int) != 0) = false := bne_eq_false_iff_eq.mpr c4
  clear c4
  simp only [Option.some.injEq, Prod.mk.injEq] at H
  obtain ⟨rfl, rfl⟩ := H
  go_enter Try.func51, Try.ntmps51
  go_wp2_with (first | ((with_reducible refine gate_callee (f := 66) rfl ?_); refine goesL_ (some 5) rfl rfl Try.func66 (by kernel_rfl) rfl #[.slice A0 l0.length c0] rfl (by (try simp only [mA_]); first | done | rfl | (simp only [List.length_drop, List.length_take]; rfl)) ?_; (with_reducible refine (impl_IsJobs.calls k _ _ l0 true _ ?side1 ?side2 A2.out).mono ?_); (case side1 => repeat (first | exact HR0.out | (with_reducible refine Kd.C_alloc ?_ _) | (with_reducible refine Kd.C_drewN ?_ _) | (with_reducible refine Kd.C_drew ?_))); (case side2 => exact HC0.out); rintro e w5 ⟨rfl, hb⟩; refine ⟨_, rfl, ?_⟩; have n0_ := Aside0.mk (below_step (bw HB.out) hb); replace HB := n0_; clear n0_; (try clear hb); (try clear hb2); (try clear hk); (try clear hi)))
  go_ret2
  exact ⟨_, by first | rfl | (simp [errW_none, errW_some] <;> rfl) | (simp [*, errW_none, errW_some] <;> rfl), Kd.Q_of_R (by first | exact Kd.R_nil _ _ _ _ _ | exact Kd.N_nil _ _ _ _ _ | exact Kd.V_nil _ _ _ _ _ | exact Kd.Q_nil _ _ _ _ _ | exact Kd.S_nil _ _ _ _ _), bw HB.out⟩
 rw [if_neg c4] at H
 have c4b0 : ((l0.length : Int) == 0) = false := beq_eq_false_iff_ne.mpr c4
 have c4b1 : ((l0.length : Int) != 0) = true := bne_iff_ne.mpr c4
 have c4b2 : ¬ (l0 = []) := fun h_ => c4 (by rw [h_]; rfl)
 replace H := Option.bind_eq_some_iff.mp H
 obtain ⟨t792, A60, H⟩ := H
 replace H : (some (t792, true)) = some (r1, r2) := H
 have A6 := Aside0.mk A60
 clear A60
 simp only [Option.some.injEq, Prod.mk.injEq] at H
 obtain ⟨rfl, rfl⟩ := H
 go_enter Try.func51, Try.ntmps51
 go_wp2_with (first | ((with_reducible refine gate_callee (f := 66) rfl ?_); refine goesL_ (some 5) rfl rfl Try.func66 (by kernel_rfl) rfl #[.slice A0 l0.length c0] rfl (by (try simp only [mA_]); first | done | rfl | (simp only [List.length_drop, List.length_take]; rfl)) ?_; (with_reducible refine (impl_IsJobs.calls k _ _ l0 true _ ?side1 ?side2 A2.out).mono ?_); (case side1 => repeat (first | exact HR0.out | (with_reducible refine Kd.C_alloc ?_ _) | (with_reducible refine Kd.C_drewN ?_ _) | (with_reducible refine Kd.C_drew ?_))); (case side2 => exact HC0.out); rintro e w7 ⟨rfl, hb⟩; refine ⟨_, rfl, ?_⟩; have n0_ := Aside0.mk (below_step (bw HB.out) hb); replace HB := n0_; clear n0_; (try clear hb); (try clear hb2); (try clear hk); (try clear hi)) | ((with_reducible refine gate_callee (f := 87) rfl ?_); refine goesL_ (some 13) rfl rfl Try.func87 (by kernel_rfl) rfl #[.slice A0 l0.length c0] rfl (by (try simp only [mA_]); first | done | rfl | (simp only [List.length_drop, List.length_take]; rfl)) ?_; (with_reducible refine (impl_criticalPart.calls k _ _ l0 t792 _ ?side1 ?side2 A6.out).mono ?_); (case side1 => first | exact bC HR0.out HB.out | exact Kd.C_below HR0.out HB.out); (case side2 => exact HC0.out); rintro e w8 ⟨v793, rfl, ho0, hb⟩; refine ⟨_, rfl, ?_⟩; have n0_ := Aside0.mk (Kd.Q_lower ho0 (below_size (bw HB.out))); have n1_ := Aside0.mk (below_step (bw HB.out) hb); have HO794 := n0_; replace HB := n1_; clear n0_ n1_; (try clear hb); (try clear hb2); (try clear hk); (try clear hi); (try clear ho0)))
 go_ret2
 exact ⟨_, by first | rfl | (simp [errW_none, errW_some] <;> rfl) | (simp [*, errW_none, errW_some] <;> rfl), by (with_reducible repeat (first | apply Kd.Q_alloc | apply Kd.Q_drewN | apply Kd.Q_drew)); exact HO794.out, bw HB.out⟩

/-! ### laws_FnExactCriticalPart: function 9 -/
set_option maxHeartbeats 8000000 in
set_option maxRecDepth 100000 in
theorem laws_markIntS.callsQ (k : Nat) (P0_ : Nat → Prop) (u9000_ : Value) (l0 : List Int) (a1 : Int) (r1 : Int) (r2 : List Int) (w0 w : World) (hB : Below w0.heap.size w0 w) (ho0 : Kd.Q (Kd.int .i64) 3 w w0.heap.size P0_ u9000_ l0) (h : laws_markIntS.f k l0 a1 = some (r1, r2)) :
  Calls Try.prog 28 #[u9000_, .int .i64 a1] w fun e w' => e = .returned (.int .i64 r1) ∧ Kd.Q (Kd.int .i64) 3 w' w0.heap.size P0_ u9000_ r2 ∧ Below w0.heap.size w0 w' ∧ Kept w w' (fun k_ => P0_ k_) := by
 have HO0 := Aside0.mk ho0
 have HK := Aside0.mk (Kept.refl w (fun k_ => P0_ k_))
 have HB := Aside0.mk hB
 clear hB ho0
 have H' : Aside0 ((laws_markIntS.l0 k l0 a1 0) = some (r1, r2)) := ⟨h⟩
 clear h
 obtain ⟨A0, c0, e0, -⟩ := Kd.Q_slice HO0.out
 subst e0
 go_enter Try.func28, Try.ntmps28
 go_wp2
 go_loopg [1, 5] k (fun kq v1 v5 w' => ∃ (x0_1 : List Int) (x1_1 : Int) (x5_1 : Int), v1 = .int .i64 x1_1 ∧ v5 = .int .i64 x5_1 ∧ Aside0 (laws_markIntS.l0 kq x0_1 x1_1 x5_1 = some (r1, r2)) ∧ Aside0 (kq ≤ k) ∧ Aside0 (x0_1.length = l0.length) ∧ Aside0 (Kd.Q (Kd.int .i64) 3 w' w0.heap.size P0_ (.slice A0 l0.length c0) x0_1) ∧ Aside0 (Kept w w' (fun k_ => P0_ k_)) ∧ Aside0 (Below w0.heap.size w0 w'))
 case atStart => exact ⟨l0, a1, 0, rfl, rfl, H', ⟨Nat.le_refl _⟩, ⟨rfl⟩, HO0, HK, HB⟩
 case round =>
  clear H' HO0 HK HB
  obtain ⟨x0_1, x1_1, x5_1, rfl, rfl, HA, HK1, HL, HO, HK, HB⟩ := hrel
  cases gk with
  | zero => exact absurd HA.out (by simp [laws_markIntS.l0])
  | succ k1 =>
   have H := HA.out
   clear HA
   simp only [laws_markIntS.l0] at H
   by_cases c3 : x5_1 < (x0_1.length : Int)
   rotate_left
   ·rw [if_neg c3] at H
    have c3b0 : decide (x5_1 < (l0.length : Int)) = false := decide_eq_false (by have := HL.out; omega)
    simp only [Option.some.injEq, Prod.mk.injEq] at H
    obtain ⟨rfl, rfl⟩ := H
    clear c3
    go_wp2
    go_ret
    exact ⟨rfl, HO.out, HB.out, HK.out⟩
   rw [if_pos c3] at H
   by_cases c4 : 0 ≤ x5_1
   rotate_left
   ·rw [if_neg c4] at H
    exact absurd H (by simp)
   rw [if_pos c4] at H
   have c3l : x5_1 < (l0.length : Int) := by have := HL.out; omega
   have c3b0 : decide (x5_1 < (l0.length : Int)) = true := decide_eq_true c3l
   have c4b := eq_true c4
   have c3t := eq_true c3l
   obtain ⟨go, oo, co, eo, gb, gl, cl, HG⟩ := Kd.Q_form HO.out (by omega)
   have HL' := HL.out
   obtain ⟨rfl, rfl⟩ : A0 = some ⟨go, oo, none⟩ ∧ c0 = co := by
    injection eo with e1 e2 e3
    exact ⟨e1, e3⟩
   have GB := Aside0.mk gb
   obtain ⟨hx0, hf0⟩ := Kd.Q_cell 0 HO.out x5_1 c4 c3l
   have HPP := Aside0.mk (Kd.Q_putg HO.out x5_1 c4 c3l x1_1)
   have H' := Aside0.mk H
   have HMG := Aside0.mk (HO.out.1 go rfl)
   clear H HG gl cl eo c3 c4 c3l HL' gb
   go_wp2
   have HP2 := Aside0.mk (show Kd.Q (Kd.int .i64) 3 (wr.setCell ⟨go, oo + x5_1.toNat, none⟩ (.int .i64 x1_1)) w0.heap.size P0_ (.slice (some ⟨go, oo, none⟩) l0.length c0) (x0_1.set x5_1.toNat x1_1) ∧ _ from HPP.out)
   go_roundg k1
   case measure => have := HK1.out; omega
   case rel =>
    refine ⟨x0_1.set x5_1.toNat x1_1, wrap64 (x1_1 + 1), wrap64 (x5_1 + 1), (by first | rfl | (simp; done)), (by first | rfl | (simp; done)), H', ⟨by have := HK1.out; omega⟩, ⟨by rw [List.length_set]; exact HL.out⟩, ⟨HP2.out.1⟩, ⟨?_⟩, ⟨below_set HB.out GB.out⟩⟩
    exact Kept.of_grown (S := (fun k_ => P0_ k_)) HP2.out.2 HK.out (fun k_ e_ => by injection e_ with e_; subst e_; exact .inl HMG.out)
def laws_FnExactCriticalPart.f (k : Nat) (l0 : List (S96)) : Option (Bool) := ((laws_szJobS.f l0 1048576).bind fun t1 => (if t1 < 0 then some true else ((laws_toJobS.f k l0).bind fun t2 => ((spec_CriticalPart.f k t2).bind fun bt3 => ((laws_toJobS.f k l0).bind fun t5 => ((impl_CriticalPart.f k t5).bind fun bt6 => ((laws_eqIntS.f k bt6.1 bt3.1).bind fun t8 => (if t8 = true then (if bt6.2 = bt3.2 then ((laws_toJobS.f k l0).bind fun t9 => ((laws_eqJobS.f k t5 t9).bind fun t10 => (if t10 = true then ((laws_markJobS.f k t5 1).bind fun bt11 => (if bt11.1 < 0 then none else ((laws_eqIntS.f k bt6.1 bt3.1).bind fun t13 => (if t13 = true then (if bt6.2 = bt3.2 then ((laws_markIntS.f k bt6.1 1).bind fun bt14 => ((laws_heldIntS.f k bt14.2 1).bind fun t16 => (if t16 < 0 then none else (if t16 = bt14.1 then ((laws_toJobS.f k l0).bind fun t17 => ((impl_CriticalPart.f k t17).bind fun bt18 => ((laws_eqIntS.f k bt18.1 bt3.1).bind fun t20 => (if t20 = true then (if bt18.2 = bt3.2 then ((laws_heldIntS.f k bt14.2 1).bind fun t21 => (if t21 < 0 then none else (if t21 = bt14.1 then some true else none))) else none) else none)))) else none)))) else none) else none)))) else none))) else none) else none))))))))
theorem laws_FnExactCriticalPart.mono : ∀ l0 k, LeO (laws_FnExactCriticalPart.f k l0) (laws_FnExactCriticalPart.f (k + 1) l0) := by
 intro l0 k
 unfold laws_FnExactCriticalPart.f
 repeat' first
  | (with_reducible exact impl_CriticalPart.mono _ _)
  | (with_reducible exact laws_eqIntS.mono _ _ _)
  | (with_reducible exact laws_eqJobS.mono _ _ _)
  | (with_reducible exact laws_heldIntS.mono _ _ _)
  | (with_reducible exact laws_markIntS.mono _ _ _)
  | (with_reducible exact laws_markJobS.mono _ _ _)
  | (with_reducible exact laws_toJobS.mono _ _)
  | (with_reducible exact spec_CriticalPart.mono _ _)
  | (with_reducible exact LeO.refl _)
  | (with_reducible exact LeO.none _)
  | (with_reducible refine LeO.ite ?_ ?_)
  | (with_reducible refine LeO.bind ?_ (fun _ => ?_))
theorem laws_FnExactCriticalPart.bS {α : Type} {d : Kd α} {e base : Nat} {w' w : World} {ok : Nat → Prop} {v : Value} {xs : List α} (h : Kd.S d e w base ok v xs) [k : Bs w' w] : Kd.S d e w' base ok v xs := by
 obtain ⟨k⟩ := k
 exact Kd.S_below h k.out
theorem laws_FnExactCriticalPart.sz {w' w : World} {m : Nat} (h : m ≤ w.heap.size) [k : Bs w' w] : m ≤ w'.heap.size := by
 obtain ⟨k⟩ := k
 exact Nat.le_trans h k.out.size
theorem laws_FnExactCriticalPart.cS {α : Type} {d : Kd α} {e base : Nat} {ok : Nat → Prop} {w w' : World} {A : Option Addr} {n c : Nat} {xs : List α} (h : Kd.S d e w base ok (.slice A n c) xs) [k : Bs w' w] : d.C w' A xs.length xs := (Kd.S_reads' (laws_FnExactCriticalPart.bS h)).2.2
theorem laws_FnExactCriticalPart.cR {α : Type} {d : Kd α} {e base : Nat} {ok : Nat → Prop} {w w' : World} {A : Option Addr} {n c : Nat} {xs : List α} (h : d.R e w base ok (.slice A n c) xs) [k : Bs w' w] : d.C w' A xs.length xs := (Kd.R_reads' (bR h)).2.2
theorem laws_FnExactCriticalPart.szS {w : World} {m : Nat} (p : Addr) (u : Value) (h : m ≤ w.heap.size) : m ≤ (w.setCell p u).heap.size := by simpa [World.setCell] using h
theorem laws_FnExactCriticalPart.bQ {α : Type} {d : Kd α} {e base : Nat} {w' w : World} {ok : Nat → Prop} {v : Value} {xs : List α} (h : d.Q e w base ok v xs) [k : Bs w' w] : d.Q e w' base ok v xs := by
 obtain ⟨k⟩ := k
 exact Kd.Q_below h k.out
theorem laws_FnExactCriticalPart.cQ {α : Type} {d : Kd α} {e base : Nat} {ok : Nat → Prop} {w w' : World} {A : Option Addr} {n c : Nat} {xs : List α} (h : d.Q e w base ok (.slice A n c) xs) [k : Bs w' w] : d.C w' A xs.length xs := (Kd.Q_reads' (laws_FnExactCriticalPart.bQ h)).2.2
theorem laws_FnExactCriticalPart.newR {α : Type} {d : Kd α} {e m base : Nat} {ok : Nat → Prop} {wc w' : World} {v : Value} {xs : List α} (h : d.R e w' wc.heap.size ok v xs) (hb : base ≤ wc.heap.size) (hm : m ≤ wc.heap.size) (hs : wc.heap.size ≤ w'.heap.size) : ∃ lo hi, (m ≤ lo ∧ lo ≤ hi) ∧ hi ≤ w'.heap.size ∧ d.R e w' base (fun k_ => lo ≤ k_ ∧ k_ < hi) v xs := ⟨wc.heap.size, w'.heap.size, ⟨hm, hs⟩, Nat.le_refl _, Kd.R_lower (Kd.R_mono (Kd.R_bound h) (fun _ hk => ⟨hk.2.1, hk.2.2.1⟩)) hb⟩
theorem laws_FnExactCriticalPart.newS {α : Type} {d : Kd α} {e m base : Nat} {ok : Nat → Prop} {wc w' : World} {v : Value} {xs : List α} (h : Kd.S d e w' wc.heap.size ok v xs) (hb : base ≤ wc.heap.size) (hm : m ≤ wc.heap.size) (hs : wc.heap.size ≤ w'.heap.size) : ∃ lo hi, (m ≤ lo ∧ lo ≤ hi) ∧ hi ≤ w'.heap.size ∧ Kd.S d e w' base (fun k_ => lo ≤ k_ ∧ k_ < hi) v xs := ⟨wc.heap.size, w'.heap.size, ⟨hm, hs⟩, Nat.le_refl _, Kd.S_lower (Kd.S_mono (Kd.S_bound h) (fun _ hk => ⟨hk.2.1, hk.2.2.1⟩)) hb⟩
theorem laws_FnExactCriticalPart.newQ {α : Type} {d : Kd α} {e m base : Nat} {ok : Nat → Prop} {wc w' : World} {v : Value} {xs : List α} (h : d.Q e w' wc.heap.size ok v xs) (hb : base ≤ wc.heap.size) (hm : m ≤ wc.heap.size) (hs : wc.heap.size ≤ w'.heap.size) : ∃ lo hi, (m ≤ lo ∧ lo ≤ hi) ∧ hi ≤ w'.heap.size ∧ d.Q e w' base (fun k_ => lo ≤ k_ ∧ k_ < hi) v xs := ⟨wc.heap.size, w'.heap.size, ⟨hm, hs⟩, Nat.le_refl _, Kd.Q_lower (Kd.Q_mono (Kd.Q_bound h) (fun _ hk => ⟨hk.2.1, hk.2.2.1⟩)) hb⟩
set_option maxHeartbeats 16000000 in
set_option maxRecDepth 100000 in
theorem laws_FnExactCriticalPart.calls (k : Nat) (A0 : Option Addr) (c0 : Nat) (l0 : List (S96)) (r : Bool) (w : World) (hr0 : Kd.C k96 w A0 l0.length l0) (hc0 : l0.length ≤ c0) (h : laws_FnExactCriticalPart.f k l0 = some r) :
  Calls Try.prog 9 #[.slice A0 l0.length c0] w fun e w' => e = .returned (.bool r) ∧ Below w.heap.size w w' := by
 have HR0 := Aside0.mk hr0
 clear hr0
 have HC0 := Aside0.mk hc0
 clear hc0
 have HB := Aside0.mk (Below.refl w.heap.size w)
 have HM := Aside0.mk (Nat.le_refl w.heap.size)
 have BD := Aside0.mk True.intro
 have H := h
 clear h
 unfold laws_FnExactCriticalPart.f at H
 replace H := Option.bind_eq_some_iff.mp H
 obtain ⟨t1, A10, H⟩ := H
 have A1 := Aside0.mk A10
 clear A10
 have H' := Aside0.mk (show (if t1 < 0 then some true else ((laws_toJobS.f k l0).bind fun t2 => ((spec_CriticalPart.f k t2).bind fun bt3 => ((laws_toJobS.f k l0).bind fun t5 => ((impl_CriticalPart.f k t5).bind fun bt6 => ((laws_eqIntS.f k bt6.1 bt3.1).bind fun t8 => (if t8 = true then (if bt6.2 = bt3.2 then ((laws_toJobS.f k l0).bind fun t9 => ((laws_eqJobS.f k t5 t9).bind fun t10 => (if t10 = true then ((laws_markJobS.f k t5 1).bind fun bt11 => (if bt11.1 < 0 then none else ((laws_eqIntS.f k bt6.1 bt3.1).bind fun t13 => (if t13 = true then (if bt6.2 = bt3.2 then ((laws_markIntS.f k bt6.1 1).bind fun bt14 => ((laws_heldIntS.f k bt14.2 1).bind fun t16 => (if t16 < 0 then none else (if t16 = bt14.1 then ((laws_toJobS.f k l0).bind fun t17 => ((impl_CriticalPart.f k t17).bind fun bt18 => ((laws_eqIntS.f k bt18.1 bt3.1).bind fun t20 => (if t20 = true then (if bt18.2 = bt3.2 then ((laws_heldIntS.f k bt14.2 1).bind fun t21 => (if t21 < 0 then none else (if t21 = bt14.1 then some true else none))) else none) else none)))) else none)))) else none) else none)))) else none))) else none) else none))))))) = some r from H)
 clear H
 have H := H'.out
 clear H'
 by_cases c2 : t1 < 0
 ·rw [if_pos c2] at H
  have c2b0 : decide (t1 < 0) = true := decide_eq_true c2
  clear c2
  obtain rfl := Option.some.inj H
  go_enter Try.func9, Try.ntmps9
  go_wp2_with (first | ((with_reducible refine gate_callee (f := 15) rfl ?_); refine goesL_ (some 16) rfl rfl Try.func15 (by kernel_rfl) rfl #[.slice A0 l0.length c0, .int .i64 1048576] rfl (by (try simp only [mA_]); first | done | rfl | (simp only [List.length_drop, List.length_take]; rfl)) ?_; (with_reducible refine (laws_szJobS.calls A0 c0 l0 1048576 t1 _ ?side1 ?side2 A1.out).mono ?_); (case side1 => exact bC HR0.out HB.out); (case side2 => exact HC0.out); rintro e w1 ⟨rfl, ⟨nd1, rfl⟩⟩; refine ⟨_, rfl, ?_⟩))
  go_ret
  exact ⟨by first | rfl | (simp [*]; done), bw HB.out⟩
 rw [if_neg c2] at H
 have c2b0 : decide (t1 < 0) = false := decide_eq_false c2
 clear c2
 replace H := Option.bind_eq_some_iff.mp H
 obtain ⟨t2, A30, H⟩ := H
 have A3 := Aside0.mk A30
 clear A30
 have H' := Aside0.mk (show ((spec_CriticalPart.f k t2).bind fun bt3 => ((laws_toJobS.f k l0).bind fun t5 => ((impl_CriticalPart.f k t5).bind fun bt6 => ((laws_eqIntS.f k bt6.1 bt3.1).bind fun t8 => (if t8 = true then (if bt6.2 = bt3.2 then ((laws_toJobS.f k l0).bind fun t9 => ((laws_eqJobS.f k t5 t9).bind fun t10 => (if t10 = true then ((laws_markJobS.f k t5 1).bind fun bt11 => (if bt11.1 < 0 then none else ((laws_eqIntS.f k bt6.1 bt3.1).bind fun t13 => (if t13 = true then (if bt6.2 = bt3.2 then ((laws_markIntS.f k bt6.1 1).bind fun bt14 => ((laws_heldIntS.f k bt14.2 1).bind fun t16 => (if t16 < 0 then none else (if t16 = bt14.1 then ((laws_toJobS.f k l0).bind fun t17 => ((impl_CriticalPart.f k t17).bind fun bt18 => ((laws_eqIntS.f k bt18.1 bt3.1).bind fun t20 => (if t20 = true then (if bt18.2 = bt3.2 then ((laws_heldIntS.f k bt14.2 1).bind fun t21 => (if t21 < 0 then none else (if t21 = bt14.1 then some true else none))) else none) else none)))) else none)))) else none) else none)))) else none))) else none) else none))))) = some r from H)
 clear H
 have H := H'.out
 clear H'
 replace H := Option.bind_eq_some_iff.mp H
 obtain ⟨⟨t3, t4⟩, A40, H⟩ := H
 have A4 := Aside0.mk A40
 clear A40
 have H' := Aside0.mk (show ((laws_toJobS.f k l0).bind fun t5 => ((impl_CriticalPart.f k t5).bind fun bt6 => ((laws_eqIntS.f k bt6.1 t3).bind fun t8 => (if t8 = true then (if bt6.2 = t4 then ((laws_toJobS.f k l0).bind fun t9 => ((laws_eqJobS.f k t5 t9).bind fun t10 => (if t10 = true then ((laws_markJobS.f k t5 1).bind fun bt11 => (if bt11.1 < 0 then none else ((laws_eqIntS.f k bt6.1 t3).bind fun t13 => (if t13 = true then (if bt6.2 = t4 then ((laws_markIntS.f k bt6.1 1).bind fun bt14 => ((laws_heldIntS.f k bt14.2 1).bind fun t16 => (if t16 < 0 then none else (if t16 = bt14.1 then ((laws_toJobS.f k l0).bind fun t17 => ((impl_CriticalPart.f k t17).bind fun bt18 => ((laws_eqIntS.f k bt18.1 t3).bind fun t20 => (if t20 = true then (if bt18.2 = t4 then ((laws_heldIntS.f k bt14.2 1).bind fun t21 => (if t21 < 0 then none else (if t21 = bt14.1 then some true else none))) else none) else none)))) else none)))) else none) else none)))) else none))) else none) else none)))) = some r from H)
 clear H
 have H := H'.out
 clear H'
 replace H := Option.bind_eq_some_iff.mp H
 obtain ⟨t5, A50, H⟩ := H
 have A5 := Aside0.mk A50
 clear A50
 have H' := Aside0.mk (show ((impl_CriticalPart.f k t5).bind fun bt6 => ((laws_eqIntS.f k bt6.1 t3).bind fun t8 => (if t8 = true then (if bt6.2 = t4 then ((laws_toJobS.f k l0).bind fun t9 => ((laws_eqJobS.f k t5 t9).bind fun t10 => (if t10 = true then ((laws_markJobS.f k t5 1).bind fun bt11 => (if bt11.1 < 0 then none else ((laws_eqIntS.f k bt6.1 t3).bind fun t13 => (if t13 = true then (if bt6.2 = t4 then ((laws_markIntS.f k bt6.1 1).bind fun bt14 => ((laws_heldIntS.f k bt14.2 1).bind fun t16 => (if t16 < 0 then none else (if t16 = bt14.1 then ((laws_toJobS.f k l0).bind fun t17 => ((impl_CriticalPart.f k t17).bind fun bt18 => ((laws_eqIntS.f k bt18.1 t3).bind fun t20 => (if t20 = true then (if bt18.2 = t4 then ((laws_heldIntS.f k bt14.2 1).bind fun t21 => (if t21 < 0 then none else (if t21 = bt14.1 then some true else none))) else none) else none)))) else none)))) else none) else none)))) else none))) else none) else none))) = some r from H)
 clear H
 have H := H'.out
 clear H'
 replace H := Option.bind_eq_some_iff.mp H
 obtain ⟨⟨t6, t7⟩, A60, H⟩ := H
 have A6 := Aside0.mk A60
 clear A60
 have H' := Aside0.mk (show ((laws_eqIntS.f k t6 t3).bind fun t8 => (if t8 = true then (if t7 = t4 then ((laws_toJobS.f k l0).bind fun t9 => ((laws_eqJobS.f k t5 t9).bind fun t10 => (if t10 = true then ((laws_markJobS.f k t5 1).bind fun bt11 => (if bt11.1 < 0 then none else ((laws_eqIntS.f k t6 t3).bind fun t13 => (if t13 = true then (if t7 = t4 then ((laws_markIntS.f k t6 1).bind fun bt14 => ((laws_heldIntS.f k bt14.2 1).bind fun t16 => (if t16 < 0 then none else (if t16 = bt14.1 then ((laws_toJobS.f k l0).bind fun t17 => ((impl_CriticalPart.f k t17).bind fun bt18 => ((laws_eqIntS.f k bt18.1 t3).bind fun t20 => (if t20 = true then (if bt18.2 = t4 then ((laws_heldIntS.f k bt14.2 1).bind fun t21 => (if t21 < 0 then none else (if t21 = bt14.1 then some true else none))) else none) else none)))) else none)))) else none) else none)))) else none))) else none) else none)) = some r from H)
 clear H
 have H := H'.out
 clear H'
 replace H := Option.bind_eq_some_iff.mp H
 obtain ⟨t8, A70, H⟩ := H
 have A7 := Aside0.mk A70
 clear A70
 have H' := Aside0.mk (show (if t8 = true then (if t7 = t4 then ((laws_toJobS.f k l0).bind fun t9 => ((laws_eqJobS.f k t5 t9).bind fun t10 => (if t10 = true then ((laws_markJobS.f k t5 1).bind fun bt11 => (if bt11.1 < 0 then none else ((laws_eqIntS.f k t6 t3).bind fun t13 => (if t13 = true then (if t7 = t4 then ((laws_markIntS.f k t6 1).bind fun bt14 => ((laws_heldIntS.f k bt14.2 1).bind fun t16 => (if t16 < 0 then none else (if t16 = bt14.1 then ((laws_toJobS.f k l0).bind fun t17 => ((impl_CriticalPart.f k t17).bind fun bt18 => ((laws_eqIntS.f k bt18.1 t3).bind fun t20 => (if t20 = true then (if bt18.2 = t4 then ((laws_heldIntS.f k bt14.2 1).bind fun t21 => (if t21 < 0 then none else (if t21 = bt14.1 then some true else none))) else none) else none)))) else none)))) else none) else none)))) else none))) else none) else none) = some r from H)
 clear H
 have H := H'.out
 clear H'
 by_cases c8 : t8 = true
 case neg =>
  rw [if_neg c8] at H
  exact absurd H (by simp)
 rw [if_pos c8] at H
 subst c8
 by_cases c9 : t7 = t4
 case neg =>
  rw [if_neg c9] at H
  exact absurd H (by simp)
 rw [if_pos c9] at H
 have c9b0 : (t7 == t4) = true := beq_iff_eq.mpr c9
 have c9b1 : (t7 != t4) = false := bne_eq_false_iff_eq.mpr c9
 clear c9
 replace H := Option.bind_eq_some_iff.mp H
 obtain ⟨t9, A100, H⟩ := H
 have A10 := Aside0.mk A100
 clear A100
 have H' := Aside0.mk (show ((laws_eqJobS.f k t5 t9).bind fun t10 => (if t10 = true then ((laws_markJobS.f k t5 1).bind fun bt11 => (if bt11.1 < 0 then none else ((laws_eqIntS.f k t6 t3).bind fun t13 => (if t13 = true then (if t7 = t4 then ((laws_markIntS.f k t6 1).bind fun bt14 => ((laws_heldIntS.f k bt14.2 1).bind fun t16 => (if t16 < 0 then none else (if t16 = bt14.1 then ((laws_toJobS.f k l0).bind fun t17 => ((impl_CriticalPart.f k t17).bind fun bt18 => ((laws_eqIntS.f k bt18.1 t3).bind fun t20 => (if t20 = true then (if bt18.2 = t4 then ((laws_heldIntS.f k bt14.2 1).bind fun t21 => (if t21 < 0 then none else (if t21 = bt14.1 then some true else none))) else none) else none)))) else none)))) else none) else none)))) else none)) = some r from H)
 clear H
 have H := H'.out
 clear H'
 replace H := Option.bind_eq_some_iff.mp H
 obtain ⟨t10, A110, H⟩ := H
 have A11 := Aside0.mk A110
 clear A110
 have H' := Aside0.mk (show (if t10 = true then ((laws_markJobS.f k t5 1).bind fun bt11 => (if bt11.1 < 0 then none else ((laws_eqIntS.f k t6 t3).bind fun t13 => (if t13 = true then (if t7 = t4 then ((laws_markIntS.f k t6 1).bind fun bt14 => ((laws_heldIntS.f k bt14.2 1).bind fun t16 => (if t16 < 0 then none else (if t16 = bt14.1 then ((laws_toJobS.f k l0).bind fun t17 => ((impl_CriticalPart.f k t17).bind fun bt18 => ((laws_eqIntS.f k bt18.1 t3).bind fun t20 => (if t20 = true then (if bt18.2 = t4 then ((laws_heldIntS.f k bt14.2 1).bind fun t21 => (if t21 < 0 then none else (if t21 = bt14.1 then some true else none))) else none) else none)))) else none)))) else none) else none)))) else none) = some r from H)
 clear H
 have H := H'.out
 clear H'
 by_cases c12 : t10 = true
 case neg =>
  rw [if_neg c12] at H
  exact absurd H (by simp)
 rw [if_pos c12] at H
 subst c12
 replace H := Option.bind_eq_some_iff.mp H
 obtain ⟨⟨t11, t12⟩, A130, H⟩ := H
 have A13 := Aside0.mk A130
 clear A130
 have H' := Aside0.mk (show (if t11 < 0 then none else ((laws_eqIntS.f k t6 t3).bind fun t13 => (if t13 = true then (if t7 = t4 then ((laws_markIntS.f k t6 1).bind fun bt14 => ((laws_heldIntS.f k bt14.2 1).bind fun t16 => (if t16 < 0 then none else (if t16 = bt14.1 then ((laws_toJobS.f k l0).bind fun t17 => ((impl_CriticalPart.f k t17).bind fun bt18 => ((laws_eqIntS.f k bt18.1 t3).bind fun t20 => (if t20 = true then (if bt18.2 = t4 then ((laws_heldIntS.f k bt14.2 1).bind fun t21 => (if t21 < 0 then none else (if t21 = bt14.1 then some true else none))) else none) else none)))) else none)))) else none) else none))) = some r from H)
 clear H
 have H := H'.out
 clear H'
 by_cases c14 : t11 < 0
 ·rw [if_pos c14] at H
  exact absurd H (by simp)
 rw [if_neg c14] at H
 have c14b0 : decide (t11 < 0) = false := decide_eq_false c14
 clear c14
 replace H := Option.bind_eq_some_iff.mp H
 obtain ⟨t13, A150, H⟩ := H
 have A15 := Aside0.mk A150
 clear A150
 have H' := Aside0.mk (show (if t13 = true then (if t7 = t4 then ((laws_markIntS.f k t6 1).bind fun bt14 => ((laws_heldIntS.f k bt14.2 1).bind fun t16 => (if t16 < 0 then none else (if t16 = bt14.1 then ((laws_toJobS.f k l0).bind fun t17 => ((impl_CriticalPart.f k t17).bind fun bt18 => ((laws_eqIntS.f k bt18.1 t3).bind fun t20 => (if t20 = true then (if bt18.2 = t4 then ((laws_heldIntS.f k bt14.2 1).bind fun t21 => (if t21 < 0 then none else (if t21 = bt14.1 then some true else none))) else none) else none)))) else none)))) else none) else none) = some r from H)
 clear H
 have H := H'.out
 clear H'
 by_cases c16 : t13 = true
 case neg =>
  rw [if_neg c16] at H
  exact absurd H (by simp)
 rw [if_pos c16] at H
 subst c16
 by_cases c17 : t7 = t4
 case neg =>
  rw [if_neg c17] at H
  exact absurd H (by simp)
 rw [if_pos c17] at H
 have c17b0 : (t7 == t4) = true := beq_iff_eq.mpr c17
 have c17b1 : (t7 != t4) = false := bne_eq_false_iff_eq.mpr c17
 clear c17
 replace H := Option.bind_eq_some_iff.mp H
 obtain ⟨⟨t14, t15⟩, A180, H⟩ := H
 have A18 := Aside0.mk A180
 clear A180
 have H' := Aside0.mk (show ((laws_heldIntS.f k t15 1).bind fun t16 => (if t16 < 0 then none else (if t16 = t14 then ((laws_toJobS.f k l0).bind fun t17 => ((impl_CriticalPart.f k t17).bind fun bt18 => ((laws_eqIntS.f k bt18.1 t3).bind fun t20 => (if t20 = true then (if bt18.2 = t4 then ((laws_heldIntS.f k t15 1).bind fun t21 => (if t21 < 0 then none else (if t21 = t14 then some true else none))) else none) else none)))) else none))) = some r from H)
 clear H
 have H := H'.out
 clear H'
 replace H := Option.bind_eq_some_iff.mp H
 obtain ⟨t16, A190, H⟩ := H
 have A19 := Aside0.mk A190
 clear A190
 have H' := Aside0.mk (show (if t16 < 0 then none else (if t16 = t14 then ((laws_toJobS.f k l0).bind fun t17 => ((impl_CriticalPart.f k t17).bind fun bt18 => ((laws_eqIntS.f k bt18.1 t3).bind fun t20 => (if t20 = true then (if bt18.2 = t4 then ((laws_heldIntS.f k t15 1).bind fun t21 => (if t21 < 0 then none else (if t21 = t14 then some true else none))) else none) else none)))) else none)) = some r from H)
 clear H
 have H := H'.out
 clear H'
 by_cases c20 : t16 < 0
 ·rw [if_pos c20] at H
  exact absurd H (by simp)
 rw [if_neg c20] at H
 have c20b0 : decide (t16 < 0) = false := decide_eq_false c20
 clear c20
 by_cases c21 : t16 = t14
 case neg =>
  rw [if_neg c21] at H
  exact absurd H (by simp)
 rw [if_pos c21] at H
 have c21b0 : (t16 == t14) = true := beq_iff_eq.mpr c21
 have c21b1 : (t16 != t14) = false := bne_eq_false_iff_eq.mpr c21
 clear c21
 replace H := Option.bind_eq_some_iff.mp H
 obtain ⟨t17, A220, H⟩ := H
 have A22 := Aside0.mk A220
 clear A220
 have H' := Aside0.mk (show ((impl_CriticalPart.f k t17).bind fun bt18 => ((laws_eqIntS.f k bt18.1 t3).bind fun t20 => (if t20 = true then (if bt18.2 = t4 then ((laws_heldIntS.f k t15 1).bind fun t21 => (if t21 < 0 then none else (if t21 = t14 then some true else none))) else none) else none))) = some r from H)
 clear H
 have H := H'.out
 clear H'
 replace H := Option.bind_eq_some_iff.mp H
 obtain ⟨⟨t18, t19⟩, A230, H⟩ := H
 have A23 := Aside0.mk A230
 clear A230
 have H' := Aside0.mk (show ((laws_eqIntS.f k t18 t3).bind fun t20 => (if t20 = true then (if t19 = t4 then ((laws_heldIntS.f k t15 1).bind fun t21 => (if t21 < 0 then none else (if t21 = t14 then some true else none))) else none) else none)) = some r from H)
 clear H
 have H := H'.out
 clear H'
 replace H := Option.bind_eq_some_iff.mp H
 obtain ⟨t20, A240, H⟩ := H
 have A24 := Aside0.mk A240
 clear A240
 have H' := Aside0.mk (show (if t20 = true then (if t19 = t4 then ((laws_heldIntS.f k t15 1).bind fun t21 => (if t21 < 0 then none else (if t21 = t14 then some true else none))) else none) else none) = some r from H)
 clear H
 have H := H'.out
 clear H'
 by_cases c25 : t20 = true
 case neg =>
  rw [if_neg c25] at H
  exact absurd H (by simp)
 rw [if_pos c25] at H
 subst c25
 by_cases c26 : t19 = t4
 case neg =>
  rw [if_neg c26] at H
  exact absurd H (by simp)
 rw [if_pos c26] at H
 have c26b0 : (t19 == t4) = true := beq_iff_eq.mpr c26
 have c26b1 : (t19 != t4) = false := bne_eq_false_iff_eq.mpr c26
 clear c26
 replace H := Option.bind_eq_some_iff.mp H
 obtain ⟨t21, A270, H⟩ := H
 have A27 := Aside0.mk A270
 clear A270
 have H' := Aside0.mk (show (if t21 < 0 then none else (if t21 = t14 then some true else none)) = some r from H)
 clear H
 have H := H'.out
 clear H'
 by_cases c28 : t21 < 0
 ·rw [if_pos c28] at H
  exact absurd H (by simp)
 rw [if_neg c28] at H
 have c28b0 : decide (t21 < 0) = false := decide_eq_false c28
 clear c28
 by_cases c29 : t21 = t14
 case neg =>
  rw [if_neg c29] at H
  exact absurd H (by simp)
 rw [if_pos c29] at H
 have c29b0 : (t21 == t14) = true := beq_iff_eq.mpr c29
 have c29b1 : (t21 != t14) = false := bne_eq_false_iff_eq.mpr c29
 clear c29
 obtain rfl := Option.some.inj H
 clear H
 go_enter Try.func9, Try.ntmps9
 go_wp2_with (first | ((with_reducible refine gate_callee (f := 15) rfl ?_); refine goesL_ (some 16) rfl rfl Try.func15 (by kernel_rfl) rfl #[.slice A0 l0.length c0, .int .i64 1048576] rfl (by (try simp only [mA_]); first | done | rfl | (simp only [List.length_drop, List.length_take]; rfl)) ?_; (with_reducible refine (laws_szJobS.calls A0 c0 l0 1048576 t1 _ ?side1 ?side2 A1.out).mono ?_); (case side1 => exact bC HR0.out HB.out); (case side2 => exact HC0.out); rintro e w1 ⟨rfl, ⟨nd1, rfl⟩⟩; refine ⟨_, rfl, ?_⟩) | ((with_reducible refine gate_callee (f := 17) rfl ?_); refine goesL_ (some 21) rfl rfl Try.func17 (by kernel_rfl) rfl #[.slice A0 l0.length c0] rfl (by (try simp only [mA_]); first | done | rfl | (simp only [List.length_drop, List.length_take]; rfl)) ?_; (with_reducible refine (laws_toJobS.calls k A0 c0 l0 t2 _ ?side1 ?side2 A3.out).mono ?_); (case side1 => exact bC HR0.out HB.out); (case side2 => exact HC0.out); rintro e w2 ⟨v2_0, rfl, ho0, hb⟩; refine ⟨_, rfl, ?_⟩; have hbb := Aside0.mk hb; clear hb; obtain ⟨lo0, hi0, bd, hm, ho⟩ := laws_FnExactCriticalPart.newR (base := w.heap.size) ho0 (below_size (bw HB.out)) (laws_FnExactCriticalPart.sz HM.out) hbb.out.size; have HO0 := Aside0.mk ho; replace HM := Aside0.mk hm; have BD2 := Aside0.mk (And.intro bd BD.out); clear BD; have BD := BD2; clear BD2; clear ho ho0 bd hm; obtain ⟨Ao0, co0, eo0⟩ := Kd.R_slice HO0.out; subst eo0; have n0_ := Aside0.mk (below_step (bw HB.out) hbb.out); replace HB := n0_; clear n0_ hbb) | ((with_reducible refine gate_callee (f := 50) rfl ?_); refine goesL_ (some 22) rfl rfl Try.func50 (by kernel_rfl) rfl #[.slice Ao0 t2.length co0] rfl (by (try simp only [mA_]); first | done | rfl | (simp only [List.length_drop, List.length_take]; rfl)) ?_; (with_reducible refine (spec_CriticalPart.calls k _ _ t2 t3 t4 _ ?side1 ?side2 A4.out).mono ?_); (case side1 => exact laws_FnExactCriticalPart.cR HO0.out); (case side2 => exact (Kd.R_reads' HO0.out).2.1); rintro e w3 ⟨v3_0, rfl, ho0, hb⟩; refine ⟨_, rfl, ?_⟩; have hbb := Aside0.mk hb; clear hb; obtain ⟨lo1, hi1, bd, hm, ho⟩ := laws_FnExactCriticalPart.newR (base := w.heap.size) ho0 (below_size (bw HB.out)) (laws_FnExactCriticalPart.sz HM.out) hbb.out.size; have HO1 := Aside0.mk ho; replace HM := Aside0.mk hm; have BD2 := Aside0.mk (And.intro bd BD.out); clear BD; have BD := BD2; clear BD2; clear ho ho0 bd hm; obtain ⟨Ao1, co1, eo1⟩ := Kd.R_slice HO1.out; subst eo1; have n0_ := Aside0.mk (below_step (bw HB.out) hbb.out); replace HB := n0_; clear n0_ hbb) | ((with_reducible refine gate_callee (f := 17) rfl ?_); refine goesL_ (some 26) rfl rfl Try.func17 (by kernel_rfl) rfl #[.slice A0 l0.length c0] rfl (by (try simp only [mA_]); first | done | rfl | (simp only [List.length_drop, List.length_take]; rfl)) ?_; (with_reducible refine (laws_toJobS.calls k A0 c0 l0 t5 _ ?side1 ?side2 A5.out).mono ?_); (case side1 => exact bC HR0.out HB.out); (case side2 => exact HC0.out); rintro e w4 ⟨v4_0, rfl, ho0, hb⟩; refine ⟨_, rfl, ?_⟩; have hbb := Aside0.mk hb; clear hb; have n1 := Aside0.mk (Kd.R_below (bR HO1.out) hbb.out); replace HO1 := n1; clear n1; obtain ⟨lo2, hi2, bd, hm, ho⟩ := laws_FnExactCriticalPart.newR (base := w.heap.size) ho0 (below_size (bw HB.out)) (laws_FnExactCriticalPart.sz HM.out) hbb.out.size; have HO2 := Aside0.mk ho; replace HM := Aside0.mk hm; have BD2 := Aside0.mk (And.intro bd BD.out); clear BD; have BD := BD2; clear BD2; clear ho ho0 bd hm; obtain ⟨Ao2, co2, eo2⟩ := Kd.R_slice HO2.out; subst eo2; have n0_ := Aside0.mk (below_step (bw HB.out) hbb.out); replace HB := n0_; clear n0_ hbb) | ((with_reducible refine gate_callee (f := 51) rfl ?_); refine goesL_ (some 29) rfl rfl Try.func51 (by kernel_rfl) rfl #[.slice Ao2 t5.length co2] rfl (by (try simp only [mA_]); first | done | rfl | (simp only [List.length_drop, List.length_take]; rfl)) ?_; (with_reducible refine (impl_CriticalPart.calls k _ _ t5 t6 t7 _ ?side1 ?side2 A6.out).mono ?_); (case side1 => exact laws_FnExactCriticalPart.cR HO2.out); (case side2 => exact (Kd.R_reads' HO2.out).2.1); rintro e w5 ⟨v5_0, rfl, ho0, hb⟩; refine ⟨_, rfl, ?_⟩; have hbb := Aside0.mk hb; clear hb; have n1 := Aside0.mk (Kd.R_below (bR HO1.out) hbb.out); replace HO1 := n1; clear n1; have n2 := Aside0.mk (Kd.R_below (bR HO2.out) hbb.out); replace HO2 := n2; clear n2; obtain ⟨lo3, hi3, bd, hm, ho⟩ := laws_FnExactCriticalPart.newQ (base := w.heap.size) ho0 (below_size (bw HB.out)) (laws_FnExactCriticalPart.sz HM.out) hbb.out.size; have HO3 := Aside0.mk ho; replace HM := Aside0.mk hm; have BD2 := Aside0.mk (And.intro bd BD.out); clear BD; have BD := BD2; clear BD2; clear ho ho0 bd hm; obtain ⟨Ao3, co3, eo3, -⟩ := Kd.Q_slice HO3.out; subst eo3; have n0_ := Aside0.mk (below_step (bw HB.out) hbb.out); replace HB := n0_; clear n0_ hbb) | ((with_reducible refine gate_callee (f := 21) rfl ?_); refine goesL_ (some 34) rfl rfl Try.func21 (by kernel_rfl) rfl #[.slice Ao3 t6.length co3, .slice Ao1 t3.length co1] rfl (by (try simp only [mA_]); first | done | rfl | (simp only [List.length_drop, List.length_take]; rfl)) ?_; (with_reducible refine (laws_eqIntS.calls k _ _ t6 _ _ t3 true _ ?side1 ?side2 ?side3 ?side4 A7.out).mono ?_); (case side1 => exact laws_FnExactCriticalPart.cQ HO3.out); (case side2 => exact (Kd.Q_reads' HO3.out).2.1); (case side3 => exact laws_FnExactCriticalPart.cR HO1.out); (case side4 => exact (Kd.R_reads' HO1.out).2.1); rintro e w6 ⟨rfl, ⟨nd6, rfl⟩⟩; refine ⟨_, rfl, ?_⟩) | ((with_reducible refine gate_callee (f := 17) rfl ?_); refine goesL_ (some 43) rfl rfl Try.func17 (by kernel_rfl) rfl #[.slice A0 l0.length c0] rfl (by (try simp only [mA_]); first | done | rfl | (simp only [List.length_drop, List.length_take]; rfl)) ?_; (with_reducible refine (laws_toJobS.calls k A0 c0 l0 t9 _ ?side1 ?side2 A10.out).mono ?_); (case side1 => exact bC HR0.out HB.out); (case side2 => exact HC0.out); rintro e w7 ⟨v7_0, rfl, ho0, hb⟩; refine ⟨_, rfl, ?_⟩; have hbb := Aside0.mk hb; clear hb; have n1 := Aside0.mk (Kd.R_below (bR HO1.out) hbb.out); replace HO1 := n1; clear n1; have n2 := Aside0.mk (Kd.R_below (bR HO2.out) hbb.out); replace HO2 := n2; clear n2; have n3 := Aside0.mk (Kd.Q_below (laws_FnExactCriticalPart.bQ HO3.out) hbb.out); replace HO3 := n3; clear n3; obtain ⟨lo4, hi4, bd, hm, ho⟩ := laws_FnExactCriticalPart.newR (base := w.heap.size) ho0 (below_size (bw HB.out)) (laws_FnExactCriticalPart.sz HM.out) hbb.out.size; have HO4 := Aside0.mk ho; replace HM := Aside0.mk hm; have BD2 := Aside0.mk (And.intro bd BD.out); clear BD; have BD := BD2; clear BD2; clear ho ho0 bd hm; obtain ⟨Ao4, co4, eo4⟩ := Kd.R_slice HO4.out; subst eo4; have n0_ := Aside0.mk (below_step (bw HB.out) hbb.out); replace HB := n0_; clear n0_ hbb) | ((with_reducible refine gate_callee (f := 20) rfl ?_); refine goesL_ (some 44) rfl rfl Try.func20 (by kernel_rfl) rfl #[.slice Ao2 t5.length co2, .slice Ao4 t9.length co4] rfl (by (try simp only [mA_]); first | done | rfl | (simp only [List.length_drop, List.length_take]; rfl)) ?_; (with_reducible refine (laws_eqJobS.calls k _ _ t5 _ _ t9 true _ ?side1 ?side2 ?side3 ?side4 A11.out).mono ?_); (case side1 => exact laws_FnExactCriticalPart.cR HO2.out); (case side2 => exact (Kd.R_reads' HO2.out).2.1); (case side3 => exact laws_FnExactCriticalPart.cR HO4.out); (case side4 => exact (Kd.R_reads' HO4.out).2.1); rintro e w8 ⟨rfl, hb⟩; refine ⟨_, rfl, ?_⟩; have hbb := Aside0.mk hb; clear hb; have n1 := Aside0.mk (Kd.R_below (bR HO1.out) hbb.out); replace HO1 := n1; clear n1; have n2 := Aside0.mk (Kd.R_below (bR HO2.out) hbb.out); replace HO2 := n2; clear n2; have n3 := Aside0.mk (Kd.Q_below (laws_FnExactCriticalPart.bQ HO3.out) hbb.out); replace HO3 := n3; clear n3; replace HM := Aside0.mk (Nat.le_trans (laws_FnExactCriticalPart.sz HM.out) hbb.out.size); have n0_ := Aside0.mk (below_step (bw HB.out) hbb.out); replace HB := n0_; clear n0_ hbb) | ((with_reducible refine gate_callee (f := 27) rfl ?_); refine goesL_ (some 48) rfl rfl Try.func27 (by kernel_rfl) rfl #[.slice Ao2 t5.length co2, .int .i64 1] rfl (by (try simp only [mA_]); first | done | rfl | (simp only [List.length_drop, List.length_take]; rfl)) ?_; (with_reducible refine (laws_markJobS.calls k (fun k_ => lo2 ≤ k_ ∧ k_ < hi2) _ t5 1 t11 t12 w _ ?side1 ?side2 A13.out).mono ?_); (case side1 => exact bw HB.out); (case side2 => exact bR HO2.out); rintro e w9 ⟨rfl, ho0, hb, hk⟩; refine ⟨_, rfl, ?_⟩; have n1 := Aside0.mk (Kd.R_kept (bR HO1.out) hk (fun k_ h1 h2 => by have b_ := BD.out; omega)); replace HO1 := n1; clear n1; have n3 := Aside0.mk (Kd.Q_kept (laws_FnExactCriticalPart.bQ HO3.out) hk (fun k_ h1 h2 => by have b_ := BD.out; omega)); replace HO3 := n3; clear n3; have n0_ := Aside0.mk hb; replace HB := n0_; replace HM := Aside0.mk (Nat.le_trans (laws_FnExactCriticalPart.sz HM.out) hk.1); clear n0_ ho0 hb hk) | (go_at_call 21; (with_reducible refine (laws_eqIntS.calls k _ _ t6 _ _ t3 true _ ?side1 ?side2 ?side3 ?side4 A15.out).mono ?_); (case side1 => exact laws_FnExactCriticalPart.cQ HO3.out); (case side2 => exact (Kd.Q_reads' HO3.out).2.1); (case side3 => exact laws_FnExactCriticalPart.cR HO1.out); (case side4 => exact (Kd.R_reads' HO1.out).2.1); rintro e w10 ⟨rfl, ⟨nd10, rfl⟩⟩) | ((with_reducible refine gate_callee (f := 28) rfl ?_); refine goesL_ (some 64) rfl rfl Try.func28 (by kernel_rfl) rfl #[.slice Ao3 t6.length co3, .int .i64 1] rfl (by (try simp only [mA_]); first | done | rfl | (simp only [List.length_drop, List.length_take]; rfl)) ?_; (with_reducible refine (laws_markIntS.callsQ k (fun k_ => lo3 ≤ k_ ∧ k_ < hi3) _ t6 1 t14 t15 w _ ?side1 ?side2 A18.out).mono ?_); (case side1 => exact bw HB.out); (case side2 => exact laws_FnExactCriticalPart.bQ HO3.out); rintro e w11 ⟨rfl, ho0, hb, hk⟩; refine ⟨_, rfl, ?_⟩; have n1 := Aside0.mk (Kd.R_kept (bR HO1.out) hk (fun k_ h1 h2 => by have b_ := BD.out; omega)); replace HO1 := n1; clear n1; have LN3 := Aside0.mk (Kd.Q_reads' ho0).1; rw [LN3.out] at ho0; replace HO3 := Aside0.mk ho0; have n0_ := Aside0.mk hb; replace HB := n0_; replace HM := Aside0.mk (Nat.le_trans (laws_FnExactCriticalPart.sz HM.out) hk.1); clear n0_ ho0 hb hk) | ((with_reducible refine gate_callee (f := 42) rfl ?_); refine goesL_ (some 67) rfl rfl Try.func42 (by kernel_rfl) rfl #[.slice Ao3 t6.length co3, .int .i64 1] rfl (by (try simp only [mA_]); first | done | rfl | (simp only [List.length_drop, List.length_take]; rfl)) ?_; refine calls_args (a' := #[.slice Ao3 t15.length co3, .int .i64 1]) (by rw [LN3.out]) ?_; (with_reducible refine (laws_heldIntS.calls k _ _ t15 1 t16 _ ?side1 ?side2 A19.out).mono ?_); (case side1 => exact laws_FnExactCriticalPart.cQ HO3.out); (case side2 => exact (Kd.Q_reads' HO3.out).2.1); rintro e w12 ⟨rfl, ⟨nd12, rfl⟩⟩; refine ⟨_, rfl, ?_⟩) | ((with_reducible refine gate_callee (f := 17) rfl ?_); refine goesL_ (some 75) rfl rfl Try.func17 (by kernel_rfl) rfl #[.slice A0 l0.length c0] rfl (by (try simp only [mA_]); first | done | rfl | (simp only [List.length_drop, List.length_take]; rfl)) ?_; (with_reducible refine (laws_toJobS.calls k A0 c0 l0 t17 _ ?side1 ?side2 A22.out).mono ?_); (case side1 => exact bC HR0.out HB.out); (case side2 => exact HC0.out); rintro e w13 ⟨v13_0, rfl, ho0, hb⟩; refine ⟨_, rfl, ?_⟩; have hbb := Aside0.mk hb; clear hb; have n1 := Aside0.mk (Kd.R_below (bR HO1.out) hbb.out); replace HO1 := n1; clear n1; have n3 := Aside0.mk (Kd.Q_below (laws_FnExactCriticalPart.bQ HO3.out) hbb.out); replace HO3 := n3; clear n3; obtain ⟨lo5, hi5, bd, hm, ho⟩ := laws_FnExactCriticalPart.newR (base := w.heap.size) ho0 (below_size (bw HB.out)) (laws_FnExactCriticalPart.sz HM.out) hbb.out.size; have HO5 := Aside0.mk ho; replace HM := Aside0.mk hm; have BD2 := Aside0.mk (And.intro bd BD.out); clear BD; have BD := BD2; clear BD2; clear ho ho0 bd hm; obtain ⟨Ao5, co5, eo5⟩ := Kd.R_slice HO5.out; subst eo5; have n0_ := Aside0.mk (below_step (bw HB.out) hbb.out); replace HB := n0_; clear n0_ hbb) | ((with_reducible refine gate_callee (f := 51) rfl ?_); refine goesL_ (some 76) rfl rfl Try.func51 (by kernel_rfl) rfl #[.slice Ao5 t17.length co5] rfl (by (try simp only [mA_]); first | done | rfl | (simp only [List.length_drop, List.length_take]; rfl)) ?_; (with_reducible refine (impl_CriticalPart.calls k _ _ t17 t18 t19 _ ?side1 ?side2 A23.out).mono ?_); (case side1 => exact laws_FnExactCriticalPart.cR HO5.out); (case side2 => exact (Kd.R_reads' HO5.out).2.1); rintro e w14 ⟨v14_0, rfl, ho0, hb⟩; refine ⟨_, rfl, ?_⟩; have hbb := Aside0.mk hb; clear hb; have n1 := Aside0.mk (Kd.R_below (bR HO1.out) hbb.out); replace HO1 := n1; clear n1; have n3 := Aside0.mk (Kd.Q_below (laws_FnExactCriticalPart.bQ HO3.out) hbb.out); replace HO3 := n3; clear n3; obtain ⟨lo6, hi6, bd, hm, ho⟩ := laws_FnExactCriticalPart.newQ (base := w.heap.size) ho0 (below_size (bw HB.out)) (laws_FnExactCriticalPart.sz HM.out) hbb.out.size; have HO6 := Aside0.mk ho; replace HM := Aside0.mk hm; have BD2 := Aside0.mk (And.intro bd BD.out); clear BD; have BD := BD2; clear BD2; clear ho ho0 bd hm; obtain ⟨Ao6, co6, eo6, -⟩ := Kd.Q_slice HO6.out; subst eo6; have n0_ := Aside0.mk (below_step (bw HB.out) hbb.out); replace HB := n0_; clear n0_ hbb) | ((with_reducible refine gate_callee (f := 21) rfl ?_); refine goesL_ (some 81) rfl rfl Try.func21 (by kernel_rfl) rfl #[.slice Ao6 t18.length co6, .slice Ao1 t3.length co1] rfl (by (try simp only [mA_]); first | done | rfl | (simp only [List.length_drop, List.length_take]; rfl)) ?_; (with_reducible refine (laws_eqIntS.calls k _ _ t18 _ _ t3 true _ ?side1 ?side2 ?side3 ?side4 A24.out).mono ?_); (case side1 => exact laws_FnExactCriticalPart.cQ HO6.out); (case side2 => exact (Kd.Q_reads' HO6.out).2.1); (case side3 => exact laws_FnExactCriticalPart.cR HO1.out); (case side4 => exact (Kd.R_reads' HO1.out).2.1); rintro e w15 ⟨rfl, ⟨nd15, rfl⟩⟩; refine ⟨_, rfl, ?_⟩) | ((with_reducible refine gate_callee (f := 42) rfl ?_); refine goesL_ (some 90) rfl rfl Try.func42 (by kernel_rfl) rfl #[.slice Ao3 t6.length co3, .int .i64 1] rfl (by (try simp only [mA_]); first | done | rfl | (simp only [List.length_drop, List.length_take]; rfl)) ?_; refine calls_args (a' := #[.slice Ao3 t15.length co3, .int .i64 1]) (by rw [LN3.out]) ?_; (with_reducible refine (laws_heldIntS.calls k _ _ t15 1 t21 _ ?side1 ?side2 A27.out).mono ?_); (case side1 => exact laws_FnExactCriticalPart.cQ HO3.out); (case side2 => exact (Kd.Q_reads' HO3.out).2.1); rintro e w16 ⟨rfl, ⟨nd16, rfl⟩⟩; refine ⟨_, rfl, ?_⟩))
 go_ret
 exact ⟨by first | rfl | (simp [*]; done), bw HB.out⟩

end Go.Proofs.Ytgpnophjbibhhaa.X
