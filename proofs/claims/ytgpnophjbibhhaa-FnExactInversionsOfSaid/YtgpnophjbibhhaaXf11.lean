-- Written by a program of this session (wip/gen/xp.py, over the kit's printer). Not trusted: Lean checks it.
import Derived.Test.YtgpnophjbibhhaaX0
import Derived.Test.YtgpnophjbibhhaaXf15
import Derived.Test.YtgpnophjbibhhaaXf18
import Derived.Test.YtgpnophjbibhhaaXf21
import Derived.Test.YtgpnophjbibhhaaXf27
import Derived.Test.YtgpnophjbibhhaaXf28
import Derived.Test.YtgpnophjbibhhaaXf35
import Derived.Test.YtgpnophjbibhhaaXf77
namespace Go.Proofs.Ytgpnophjbibhhaa.X
open Go.RowKit Go.Proofs.YtgpnophjbibhhaaW.PrintWords Go.Proofs.YtgpnophjbibhhaaW.PrintLast Go.Proofs.YtgpnophjbibhhaaW.PrintMore
attribute [local go_sem] max2_int min2_int max_two min_two max_three min_three max_four min_four   -- for this text's walks alone
set_option linter.unusedVariables false
set_option linter.unusedSimpArgs false

/-! ### spec_InversionsOf: function 55 -/
def spec_InversionsOf.f (k : Nat) (l0 : List (S89)) (l1 : List Int) (a2 : Int) : Option ((List (S71)) × Bool) := (spec_l3Both.f k l0 l1 a2).bind fun t991 => (if t991 = true then ((spec_l3Inversions.f k l0 l1 a2).bind fun t992 => (some (t992, true))) else (some ((([] : List (S71))), false)))
theorem spec_InversionsOf.mono : ∀ a0 a1 a2 k, LeO (spec_InversionsOf.f k a0 a1 a2) (spec_InversionsOf.f (k + 1) a0 a1 a2) := by
 intro a0 a1 a2 k
 unfold spec_InversionsOf.f
 repeat' first
   | (with_reducible exact spec_l3Both.mono _ _ _ _)
   | (with_reducible exact spec_l3Inversions.mono _ _ _ _)
   | (with_reducible exact LeO.refl _)
   | (with_reducible exact LeO.none _)
   | (with_reducible refine LeO.ite ?_ ?_)
   | (with_reducible refine LeO.bind ?_ (fun _ => ?_))
   | exact spec_l3Both.mono _ _ _ _
   | exact spec_l3Inversions.mono _ _ _ _
   | exact LeO.none _
   | refine LeO.ite ?_ ?_
   | refine LeO.bind ?_ (fun _ => ?_)
set_option maxHeartbeats 8000000 in
set_option maxRecDepth 100000 in
theorem spec_InversionsOf.calls (k : Nat) (A0 : Option Addr) (c0 : Nat) (l0 : List (S89)) (A1 : Option Addr) (c1 : Nat) (l1 : List Int) (a2 : Int) (r1 : List (S71)) (r2 : Bool) (w : World) (hr0 : Kd.C k89 w A0 l0.length l0) (hc0 : l0.length ≤ c0) (hr1 : Kd.C (Kd.int .i64) w A1 l1.length l1) (hc1 : l1.length ≤ c1) (h : spec_InversionsOf.f k l0 l1 a2 = some (r1, r2)) :
  Calls Try.prog 55 #[.slice A0 l0.length c0, .slice A1 l1.length c1, .int .i64 a2] w fun e w' => ∃ v0_ : Value, e = .returned (.tuple #[v0_, .bool r2]) ∧ Kd.R k71 71 w' w.heap.size (fun _ => True) v0_ r1 ∧ Below w.heap.size w w' := by
 have HR0 := Aside0.mk hr0
 have HC0 := Aside0.mk hc0
 clear hr0 hc0
 have HR1 := Aside0.mk hr1
 have HC1 := Aside0.mk hc1
 clear hr1 hc1
 have HB := Aside0.mk (Below.refl w.heap.size w)
 have H : ((spec_l3Both.f k l0 l1 a2).bind fun t991 => (if t991 = true then ((spec_l3Inversions.f k l0 l1 a2).bind fun t992 => (some (t992, true))) else (some ((([] : List (S71))), false)))) = some (r1, r2) := h
 clear h
 replace H := Option.bind_eq_some_iff.mp H
 obtain ⟨t991, A40, H⟩ := H
 replace H : (if t991 = true then ((spec_l3Inversions.f k l0 l1 a2).bind fun t992 => (some (t992, true))) else (some ((([] : List (S71))), false))) = some (r1, r2) := H
 have A4 := Aside0.mk A40
 clear A40
 by_cases c5 : t991 = true
 ·subst c5
  have H1 : ((spec_l3Inversions.f k l0 l1 a2).bind fun t992 => (some (t992, true))) = some (r1, r2) := by rw [if_pos rfl] at H; exact H
  clear H
  have H := H1
  clear H1
  replace H := Option.bind_eq_some_iff.mp H
  obtain ⟨t992, A60, H⟩ := H
  replace H : (some (t992, true)) = some (r1, r2) := H
  have A6 := Aside0.mk A60
  clear A60
  simp only [Option.some.injEq, Prod.mk.injEq] at H
  obtain ⟨rfl, rfl⟩ := H
  go_enter Try.func55, Try.ntmps55
  go_wp2_with (first | ((with_reducible refine gate_callee (f := 77) rfl ?_); refine goesL_ (some 11) rfl rfl Try.func77 (by kernel_rfl) rfl #[.slice A0 l0.length c0, .slice A1 l1.length c1, .int .i64 a2] rfl (by (try simp only [mA_]); first | done | rfl | (simp only [List.length_drop, List.length_take]; rfl)) ?_; (with_reducible refine (spec_l3Both.calls k _ _ l0 _ _ l1 a2 true _ ?side1 ?side2 ?side3 ?side4 A4.out).mono ?_); (case side1 => repeat (first | exact HR0.out | (with_reducible refine Kd.C_alloc ?_ _) | (with_reducible refine Kd.C_drewN ?_ _) | (with_reducible refine Kd.C_drew ?_))); (case side2 => exact HC0.out); (case side3 => repeat (first | exact HR1.out | (with_reducible refine Kd.C_alloc ?_ _) | (with_reducible refine Kd.C_drewN ?_ _) | (with_reducible refine Kd.C_drew ?_))); (case side4 => exact HC1.out); rintro e w7 ⟨rfl, hb⟩; refine ⟨_, rfl, ?_⟩; have n0_ := Aside0.mk (below_step (bw HB.out) hb); replace HB := n0_; clear n0_; (try clear hb); (try clear hb2); (try clear hk); (try clear hi)) | ((with_reducible refine gate_callee (f := 78) rfl ?_); refine goesL_ (some 17) rfl rfl Try.func78 (by kernel_rfl) rfl #[.slice A0 l0.length c0, .slice A1 l1.length c1, .int .i64 a2] rfl (by (try simp only [mA_]); first | done | rfl | (simp only [List.length_drop, List.length_take]; rfl)) ?_; (with_reducible refine (spec_l3Inversions.calls k _ _ l0 _ _ l1 a2 t992 _ ?side1 ?side2 ?side3 ?side4 A6.out).mono ?_); (case side1 => first | exact bC HR0.out HB.out | exact Kd.C_below HR0.out HB.out); (case side2 => exact HC0.out); (case side3 => first | exact bC HR1.out HB.out | exact Kd.C_below HR1.out HB.out); (case side4 => exact HC1.out); rintro e w8 ⟨v993, rfl, ho0, hb⟩; refine ⟨_, rfl, ?_⟩; have n0_ := Aside0.mk (Kd.R_lower ho0 (below_size (bw HB.out))); have n1_ := Aside0.mk (below_step (bw HB.out) hb); have HO994 := n0_; replace HB := n1_; clear n0_ n1_; (try clear hb); (try clear hb2); (try clear hk); (try clear hi); (try clear ho0)))
  go_ret2
  exact ⟨_, by first | rfl | (simp [errW_none, errW_some] <;> rfl) | (simp [*, errW_none, errW_some] <;> rfl), by (with_reducible repeat (first | apply Kd.R_alloc | apply Kd.R_drewN | apply Kd.R_drew)); exact HO994.out, bw HB.out⟩
 replace c5 := Bool.eq_false_iff.mpr c5
 subst c5
 have H1 : (some ((([] : List (S71))), false)) = some (r1, r2) := by rw [if_neg (show ¬ (false = true) by decide)] at H; exact H
 clear H
 have H := H1
 clear H1
 obtain ⟨y995, hy995⟩ : ∃ y_ : List (S71), y_ = (([] : List (S71))) := ⟨_, rfl⟩
 replace H : (some (y995, false)) = some (r1, r2) := by first | (rw [hy995]; with_reducible exact H) | (have H2_ := (Option.bind_some _ _).symm.trans H; rw [hy995]; with_reducible exact H2_) | (have H2_ := (Option.bind_some _ _).symm.trans H; with_reducible exact H2_) | with_reducible exact H | (rw [hy995]; exact H) | exact H
 have Ny995 := Aside0.mk hy995
 clear hy995
 simp only [Option.some.injEq, Prod.mk.injEq] at H
 obtain ⟨rfl, rfl⟩ := H
 go_enter Try.func55, Try.ntmps55
 go_wp2_with (first | ((with_reducible refine gate_callee (f := 77) rfl ?_); refine goesL_ (some 11) rfl rfl Try.func77 (by kernel_rfl) rfl #[.slice A0 l0.length c0, .slice A1 l1.length c1, .int .i64 a2] rfl (by (try simp only [mA_]); first | done | rfl | (simp only [List.length_drop, List.length_take]; rfl)) ?_; (with_reducible refine (spec_l3Both.calls k _ _ l0 _ _ l1 a2 false _ ?side1 ?side2 ?side3 ?side4 A4.out).mono ?_); (case side1 => repeat (first | exact HR0.out | (with_reducible refine Kd.C_alloc ?_ _) | (with_reducible refine Kd.C_drewN ?_ _) | (with_reducible refine Kd.C_drew ?_))); (case side2 => exact HC0.out); (case side3 => repeat (first | exact HR1.out | (with_reducible refine Kd.C_alloc ?_ _) | (with_reducible refine Kd.C_drewN ?_ _) | (with_reducible refine Kd.C_drew ?_))); (case side4 => exact HC1.out); rintro e w9 ⟨rfl, hb⟩; refine ⟨_, rfl, ?_⟩; have n0_ := Aside0.mk (below_step (bw HB.out) hb); replace HB := n0_; clear n0_; (try clear hb); (try clear hb2); (try clear hk); (try clear hi)) | ((with_reducible refine gate_dst (N := 13) rfl ?_); refine Kd.R_lit k71 _ 71 ?hg (N := 13) ?hd (xs := ([] : List (S71))) (inner := []) (ok := fun _ => True) (okp := fun _ => True) ?hr ?hp (fun _ hk => hk) trivial (Below.refl _ _) (Nat.le_refl _) (by simp) ?_; (case hd => rfl); (case hg => rfl); (case hr => first | (go_simp; done) | (go_simp; rfl)); (case hp => exact (Reps.none _ _)); intro v996 w10 ho11 hb hg_ hnew_; clear hg_ hnew_; (first | rw [← Ny995.out] at ho11 | (simp only [Int.reduceToNat] at ho11; rw [← Ny995.out] at ho11)); have n0_ := Aside0.mk (Kd.R_lower ho11 (below_size (bw HB.out))); have n1_ := Aside0.mk (below_step (bw HB.out) hb); have HO997 := n0_; replace HB := n1_; clear n0_ n1_; clear hb ho11))
 go_ret2
 exact ⟨_, by first | rfl | (simp [errW_none, errW_some] <;> rfl) | (simp [*, errW_none, errW_some] <;> rfl), by (with_reducible repeat (first | apply Kd.R_alloc | apply Kd.R_drewN | apply Kd.R_drew)); exact HO997.out, bw HB.out⟩

/-! ### impl_InversionsOf: function 56 -/
def impl_InversionsOf.f (k : Nat) (l0 : List (S89)) (l1 : List Int) (a2 : Int) : Option ((List (S71)) × Bool) := (impl_isRuledAndOrdered.f k l0 l1 a2).bind fun t998 => (if t998 = true then ((impl_inversions.f k l0 l1 a2).bind fun t999 => (some (t999, true))) else (some (([] : List (S71)), false)))
theorem impl_InversionsOf.mono : ∀ a0 a1 a2 k, LeO (impl_InversionsOf.f k a0 a1 a2) (impl_InversionsOf.f (k + 1) a0 a1 a2) := by
 intro a0 a1 a2 k
 unfold impl_InversionsOf.f
 repeat' first
   | (with_reducible exact impl_inversions.mono _ _ _ _)
   | (with_reducible exact impl_isRuledAndOrdered.mono _ _ _ _)
   | (with_reducible exact LeO.refl _)
   | (with_reducible exact LeO.none _)
   | (with_reducible refine LeO.ite ?_ ?_)
   | (with_reducible refine LeO.bind ?_ (fun _ => ?_))
   | exact impl_inversions.mono _ _ _ _
   | exact impl_isRuledAndOrdered.mono _ _ _ _
   | exact LeO.none _
   | refine LeO.ite ?_ ?_
   | refine LeO.bind ?_ (fun _ => ?_)
set_option maxHeartbeats 8000000 in
set_option maxRecDepth 100000 in
theorem impl_InversionsOf.calls (k : Nat) (A0 : Option Addr) (c0 : Nat) (l0 : List (S89)) (A1 : Option Addr) (c1 : Nat) (l1 : List Int) (a2 : Int) (r1 : List (S71)) (r2 : Bool) (w : World) (hr0 : Kd.C k89 w A0 l0.length l0) (hc0 : l0.length ≤ c0) (hr1 : Kd.C (Kd.int .i64) w A1 l1.length l1) (hc1 : l1.length ≤ c1) (h : impl_InversionsOf.f k l0 l1 a2 = some (r1, r2)) :
  Calls Try.prog 56 #[.slice A0 l0.length c0, .slice A1 l1.length c1, .int .i64 a2] w fun e w' => ∃ v0_ : Value, e = .returned (.tuple #[v0_, .bool r2]) ∧ Kd.R k71 71 w' w.heap.size (fun _ => True) v0_ r1 ∧ Below w.heap.size w w' := by
 have HR0 := Aside0.mk hr0
 have HC0 := Aside0.mk hc0
 clear hr0 hc0
 have HR1 := Aside0.mk hr1
 have HC1 := Aside0.mk hc1
 clear hr1 hc1
 have HB := Aside0.mk (Below.refl w.heap.size w)
 have H : ((impl_isRuledAndOrdered.f k l0 l1 a2).bind fun t998 => (if t998 = true then ((impl_inversions.f k l0 l1 a2).bind fun t999 => (some (t999, true))) else (some (([] : List (S71)), false)))) = some (r1, r2) := h
 clear h
 replace H := Option.bind_eq_some_iff.mp H
 obtain ⟨t998, A40, H⟩ := H
 replace H : (if t998 = true then ((impl_inversions.f k l0 l1 a2).bind fun t999 => (some (t999, true))) else (some (([] : List (S71)), false))) = some (r1, r2) := H
 have A4 := Aside0.mk A40
 clear A40
 by_cases c5 : t998 = true
 rotate_left
 ·replace c5 := Bool.eq_false_iff.mpr c5
  subst c5
  have H1 : (some (([] : List (S71)), false)) = some (r1, r2) := by rw [if_neg (show ¬ (false = true) by decide)] at H; exact H
  clear H
  have H := H1
  clear H1
  simp only [Option.some.injEq, Prod.mk.injEq] at H
  obtain ⟨rfl, rfl⟩ := H
  go_enter Try.func56, Try.ntmps56
  go_wp2_with (first | ((with_reducible refine gate_callee (f := 81) rfl ?_); refine goesL_ (some 11) rfl rfl Try.func81 (by kernel_rfl) rfl #[.slice A0 l0.length c0, .slice A1 l1.length c1, .int .i64 a2] rfl (by (try simp only [mA_]); first | done | rfl | (simp only [List.length_drop, List.length_take]; rfl)) ?_; (with_reducible refine (impl_isRuledAndOrdered.calls k _ _ l0 _ _ l1 a2 false _ ?side1 ?side2 ?side3 ?side4 A4.out).mono ?_); (case side1 => repeat (first | exact HR0.out | (with_reducible refine Kd.C_alloc ?_ _) | (with_reducible refine Kd.C_drewN ?_ _) | (with_reducible refine Kd.C_drew ?_))); (case side2 => exact HC0.out); (case side3 => repeat (first | exact HR1.out | (with_reducible refine Kd.C_alloc ?_ _) | (with_reducible refine Kd.C_drewN ?_ _) | (with_reducible refine Kd.C_drew ?_))); (case side4 => exact HC1.out); rintro e w9 ⟨rfl, hb⟩; refine ⟨_, rfl, ?_⟩; have n0_ := Aside0.mk (below_step (bw HB.out) hb); replace HB := n0_; clear n0_; (try clear hb); (try clear hb2); (try clear hk); (try clear hi)))
  go_ret2
  exact ⟨_, by first | rfl | (simp [errW_none, errW_some] <;> rfl) | (simp [*, errW_none, errW_some] <;> rfl), by first | exact Kd.R_nil _ _ _ _ _ | exact Kd.N_nil _ _ _ _ _ | exact Kd.V_nil _ _ _ _ _ | exact Kd.Q_nil _ _ _ _ _ | exact Kd.S_nil _ _ _ _ _, bw HB.out⟩
 subst c5
 have H1 : ((impl_inversions.f k l0 l1 a2).bind fun t999 => (some (t999, true))) = some (r1, r2) := by rw [if_pos rfl] at H; exact H
 clear H
 have H := H1
 clear H1
 replace H := Option.bind_eq_some_iff.mp H
 obtain ⟨t999, A60, H⟩ := H
 replace H : (some (t999, true)) = some (r1, r2) := H
 have A6 := Aside0.mk A60
 clear A60
 simp only [Option.some.injEq, Prod.mk.injEq] at H
 obtain ⟨rfl, rfl⟩ := H
 go_enter Try.func56, Try.ntmps56
 go_wp2_with (first | ((with_reducible refine gate_callee (f := 81) rfl ?_); refine goesL_ (some 11) rfl rfl Try.func81 (by kernel_rfl) rfl #[.slice A0 l0.length c0, .slice A1 l1.length c1, .int .i64 a2] rfl (by (try simp only [mA_]); first | done | rfl | (simp only [List.length_drop, List.length_take]; rfl)) ?_; (with_reducible refine (impl_isRuledAndOrdered.calls k _ _ l0 _ _ l1 a2 true _ ?side1 ?side2 ?side3 ?side4 A4.out).mono ?_); (case side1 => repeat (first | exact HR0.out | (with_reducible refine Kd.C_alloc ?_ _) | (with_reducible refine Kd.C_drewN ?_ _) | (with_reducible refine Kd.C_drew ?_))); (case side2 => exact HC0.out); (case side3 => repeat (first | exact HR1.out | (with_reducible refine Kd.C_alloc ?_ _) | (with_reducible refine Kd.C_drewN ?_ _) | (with_reducible refine Kd.C_drew ?_))); (case side4 => exact HC1.out); rintro e w7 ⟨rfl, hb⟩; refine ⟨_, rfl, ?_⟩; have n0_ := Aside0.mk (below_step (bw HB.out) hb); replace HB := n0_; clear n0_; (try clear hb); (try clear hb2); (try clear hk); (try clear hi)) | ((with_reducible refine gate_callee (f := 82) rfl ?_); refine goesL_ (some 16) rfl rfl Try.func82 (by kernel_rfl) rfl #[.slice A0 l0.length c0, .slice A1 l1.length c1, .int .i64 a2] rfl (by (try simp only [mA_]); first | done | rfl | (simp only [List.length_drop, List.length_take]; rfl)) ?_; (with_reducible refine (impl_inversions.calls k _ _ l0 _ _ l1 a2 t999 _ ?side1 ?side2 ?side3 ?side4 A6.out).mono ?_); (case side1 => first | exact bC HR0.out HB.out | exact Kd.C_below HR0.out HB.out); (case side2 => exact HC0.out); (case side3 => first | exact bC HR1.out HB.out | exact Kd.C_below HR1.out HB.out); (case side4 => exact HC1.out); rintro e w8 ⟨v1000, rfl, ho0, hb⟩; refine ⟨_, rfl, ?_⟩; have n0_ := Aside0.mk (Kd.R_lower ho0 (below_size (bw HB.out))); have n1_ := Aside0.mk (below_step (bw HB.out) hb); have HO1001 := n0_; replace HB := n1_; clear n0_ n1_; (try clear hb); (try clear hb2); (try clear hk); (try clear hi); (try clear ho0)))
 go_ret2
 exact ⟨_, by first | rfl | (simp [errW_none, errW_some] <;> rfl) | (simp [*, errW_none, errW_some] <;> rfl), by (with_reducible repeat (first | apply Kd.R_alloc | apply Kd.R_drewN | apply Kd.R_drew)); exact HO1001.out, bw HB.out⟩

/-! ### laws_FnExactInversionsOf: function 11 -/
mutual
def laws_FnExactInversionsOf.j0 : Nat → List (S96) → List Int → Int → List (S71) → Bool → List (S89) → List Int → List (S71) → Bool → Bool → Option (Bool)
 | 0, _, _, _, _, _, _, _, _, _, _ => none
 | k + 1, x0, x1, x2, x8, x9, x10, x11, x12, x13, x55 => if x55 = true then (some false) else ((laws_toJobS.f k x0).bind fun t1024 => ((laws_eqJobS.f k x10 t1024).bind fun t1027 => (if t1027 = true then ((laws_toIntS.f k x1).bind fun t1028 => ((laws_eqIntS.f k x11 t1028).bind fun t1031 => (if t1031 = true then ((laws_markJobS.f k x10 1).bind fun bt1032 => ((laws_markIntS.f k x11 bt1032.1).bind fun bt1034 => (if bt1034.1 < 0 then (laws_FnExactInversionsOf.j1 k x0 x1 x2 x8 x9 x12 true) else ((laws_eqIntA2S.f k x12 x8).bind fun t1036 => (if t1036 = true then (laws_FnExactInversionsOf.j1 k x0 x1 x2 x8 x9 x12 (x13 != x9)) else (laws_FnExactInversionsOf.j1 k x0 x1 x2 x8 x9 x12 true)))))) else (some false)))) else (some false))))
def laws_FnExactInversionsOf.j1 : Nat → List (S96) → List Int → Int → List (S71) → Bool → List (S71) → Bool → Option (Bool)
 | 0, _, _, _, _, _, _, _ => none
 | k + 1, x0, x1, x2, x8, x9, x12, x84 => if x84 = true then (some false) else ((laws_markIntA2S.f k x12 1).bind fun bt1037 => ((laws_heldIntA2S.f k bt1037.2 1).bind fun t1039 => (if t1039 < 0 then (some false) else (if t1039 = bt1037.1 then ((laws_toJobS.f k x0).bind fun t1040 => ((laws_toIntS.f k x1).bind fun t1043 => ((impl_InversionsOf.f k t1040 t1043 x2).bind fun bt1046 => ((laws_eqIntA2S.f k bt1046.1 x8).bind fun t1050 => (if t1050 = true then (laws_FnExactInversionsOf.j2 k bt1037.2 bt1037.1 (bt1046.2 != x9)) else (laws_FnExactInversionsOf.j2 k bt1037.2 bt1037.1 true)))))) else (some false)))))
def laws_FnExactInversionsOf.j2 : Nat → List (S71) → Int → Bool → Option (Bool)
 | 0, _, _, _ => none
 | k + 1, x12, x15, x113 => if x113 = true then (some false) else ((laws_heldIntA2S.f k x12 1).bind fun t1051 => (if t1051 < 0 then (some false) else (if t1051 = x15 then (some true) else (some false))))
end
def laws_FnExactInversionsOf.f (k : Nat) (l0 : List (S96)) (l1 : List Int) (a2 : Int) : Option (Bool) := if (l1.length : Int) > 1048576 then (some true) else ((laws_szJobS.f l0 1048576).bind fun t1002 => (if t1002 < 0 then (some true) else ((laws_toJobS.f k l0).bind fun t1003 => ((laws_toIntS.f k l1).bind fun t1006 => ((spec_InversionsOf.f k t1003 t1006 a2).bind fun bt1009 => ((laws_toJobS.f k l0).bind fun t1013 => ((laws_toIntS.f k l1).bind fun t1016 => ((impl_InversionsOf.f k t1013 t1016 a2).bind fun bt1019 => ((laws_eqIntA2S.f k bt1019.1 bt1009.1).bind fun t1023 => (if t1023 = true then (laws_FnExactInversionsOf.j0 k l0 l1 a2 bt1009.1 bt1009.2 t1013 t1016 bt1019.1 bt1019.2 (bt1019.2 != bt1009.2)) else (laws_FnExactInversionsOf.j0 k l0 l1 a2 bt1009.1 bt1009.2 t1013 t1016 bt1019.1 bt1019.2 true)))))))))))
theorem laws_FnExactInversionsOf.mono_l : ∀ k, (∀ y0 y1 y2 y3 y4 y5 y6 y7 y8 y9, LeO (laws_FnExactInversionsOf.j0 k y0 y1 y2 y3 y4 y5 y6 y7 y8 y9) (laws_FnExactInversionsOf.j0 (k + 1) y0 y1 y2 y3 y4 y5 y6 y7 y8 y9)) ∧ (∀ y0 y1 y2 y3 y4 y5 y6, LeO (laws_FnExactInversionsOf.j1 k y0 y1 y2 y3 y4 y5 y6) (laws_FnExactInversionsOf.j1 (k + 1) y0 y1 y2 y3 y4 y5 y6)) ∧ (∀ y0 y1 y2, LeO (laws_FnExactInversionsOf.j2 k y0 y1 y2) (laws_FnExactInversionsOf.j2 (k + 1) y0 y1 y2))
 | 0 => ⟨fun _ _ _ _ _ _ _ _ _ _ r h => by simp [laws_FnExactInversionsOf.j0] at h, fun _ _ _ _ _ _ _ r h => by simp [laws_FnExactInversionsOf.j1] at h, fun _ _ _ r h => by simp [laws_FnExactInversionsOf.j2] at h⟩
 | k + 1 => by
  obtain ⟨ih0, ih1, ih2⟩ := laws_FnExactInversionsOf.mono_l k
  refine ⟨?_, ?_, ?_⟩
  ·intro y0 y1 y2 y3 y4 y5 y6 y7 y8 y9
   unfold laws_FnExactInversionsOf.j0
   repeat' first
   | (with_reducible exact ih0 _ _ _ _ _ _ _ _ _ _)
   | (with_reducible exact ih1 _ _ _ _ _ _ _)
   | (with_reducible exact ih2 _ _ _)
   | (with_reducible exact impl_InversionsOf.mono _ _ _ _)
   | (with_reducible exact laws_eqIntA2S.mono _ _ _)
   | (with_reducible exact laws_eqIntS.mono _ _ _)
   | (with_reducible exact laws_eqJobS.mono _ _ _)
   | (with_reducible exact laws_heldIntA2S.mono _ _ _)
   | (with_reducible exact laws_markIntA2S.mono _ _ _)
   | (with_reducible exact laws_markIntS.mono _ _ _)
   | (with_reducible exact laws_markJobS.mono _ _ _)
   | (with_reducible exact laws_toIntS.mono _ _)
   | (with_reducible exact laws_toJobS.mono _ _)
   | (with_reducible exact spec_InversionsOf.mono _ _ _ _)
   | (with_reducible exact LeO.refl _)
   | (with_reducible exact LeO.none _)
   | (with_reducible refine LeO.ite ?_ ?_)
   | (with_reducible refine LeO.bind ?_ (fun _ => ?_))
   | exact ih0 _ _ _ _ _ _ _ _ _ _
   | exact ih1 _ _ _ _ _ _ _
   | exact ih2 _ _ _
   | exact impl_InversionsOf.mono _ _ _ _
   | exact laws_eqIntA2S.mono _ _ _
   | exact laws_eqIntS.mono _ _ _
   | exact laws_eqJobS.mono _ _ _
   | exact laws_heldIntA2S.mono _ _ _
   | exact laws_markIntA2S.mono _ _ _
   | exact laws_markIntS.mono _ _ _
   | exact laws_markJobS.mono _ _ _
   | exact laws_toIntS.mono _ _
   | exact laws_toJobS.mono _ _
   | exact spec_InversionsOf.mono _ _ _ _
   | exact LeO.none _
   | refine LeO.ite ?_ ?_
   | refine LeO.bind ?_ (fun _ => ?_)
  ·intro y0 y1 y2 y3 y4 y5 y6
   unfold laws_FnExactInversionsOf.j1
   repeat' first
   | (with_reducible exact ih0 _ _ _ _ _ _ _ _ _ _)
   | (with_reducible exact ih1 _ _ _ _ _ _ _)
   | (with_reducible exact ih2 _ _ _)
   | (with_reducible exact impl_InversionsOf.mono _ _ _ _)
   | (with_reducible exact laws_eqIntA2S.mono _ _ _)
   | (with_reducible exact laws_eqIntS.mono _ _ _)
   | (with_reducible exact laws_eqJobS.mono _ _ _)
   | (with_reducible exact laws_heldIntA2S.mono _ _ _)
   | (with_reducible exact laws_markIntA2S.mono _ _ _)
   | (with_reducible exact laws_markIntS.mono _ _ _)
   | (with_reducible exact laws_markJobS.mono _ _ _)
   | (with_reducible exact laws_toIntS.mono _ _)
   | (with_reducible exact laws_toJobS.mono _ _)
   | (with_reducible exact spec_InversionsOf.mono _ _ _ _)
   | (with_reducible exact LeO.refl _)
   | (with_reducible exact LeO.none _)
   | (with_reducible refine LeO.ite ?_ ?_)
   | (with_reducible refine LeO.bind ?_ (fun _ => ?_))
   | exact ih0 _ _ _ _ _ _ _ _ _ _
   | exact ih1 _ _ _ _ _ _ _
   | exact ih2 _ _ _
   | exact impl_InversionsOf.mono _ _ _ _
   | exact laws_eqIntA2S.mono _ _ _
   | exact laws_eqIntS.mono _ _ _
   | exact laws_eqJobS.mono _ _ _
   | exact laws_heldIntA2S.mono _ _ _
   | exact laws_markIntA2S.mono _ _ _
   | exact laws_markIntS.mono _ _ _
   | exact laws_markJobS.mono _ _ _
   | exact laws_toIntS.mono _ _
   | exact laws_toJobS.mono _ _
   | exact spec_InversionsOf.mono _ _ _ _
   | exact LeO.none _
   | refine LeO.ite ?_ ?_
   | refine LeO.bind ?_ (fun _ => ?_)
  ·intro y0 y1 y2
   unfold laws_FnExactInversionsOf.j2
   repeat' first
   | (with_reducible exact ih0 _ _ _ _ _ _ _ _ _ _)
   | (with_reducible exact ih1 _ _ _ _ _ _ _)
   | (with_reducible exact ih2 _ _ _)
   | (with_reducible exact impl_InversionsOf.mono _ _ _ _)
   | (with_reducible exact laws_eqIntA2S.mono _ _ _)
   | (with_reducible exact laws_eqIntS.mono _ _ _)
   | (with_reducible exact laws_eqJobS.mono _ _ _)
   | (with_reducible exact laws_heldIntA2S.mono _ _ _)
   | (with_reducible exact laws_markIntA2S.mono _ _ _)
   | (with_reducible exact laws_markIntS.mono _ _ _)
   | (with_reducible exact laws_markJobS.mono _ _ _)
   | (with_reducible exact laws_toIntS.mono _ _)
   | (with_reducible exact laws_toJobS.mono _ _)
   | (with_reducible exact spec_InversionsOf.mono _ _ _ _)
   | (with_reducible exact LeO.refl _)
   | (with_reducible exact LeO.none _)
   | (with_reducible refine LeO.ite ?_ ?_)
   | (with_reducible refine LeO.bind ?_ (fun _ => ?_))
   | exact ih0 _ _ _ _ _ _ _ _ _ _
   | exact ih1 _ _ _ _ _ _ _
   | exact ih2 _ _ _
   | exact impl_InversionsOf.mono _ _ _ _
   | exact laws_eqIntA2S.mono _ _ _
   | exact laws_eqIntS.mono _ _ _
   | exact laws_eqJobS.mono _ _ _
   | exact laws_heldIntA2S.mono _ _ _
   | exact laws_markIntA2S.mono _ _ _
   | exact laws_markIntS.mono _ _ _
   | exact laws_markJobS.mono _ _ _
   | exact laws_toIntS.mono _ _
   | exact laws_toJobS.mono _ _
   | exact spec_InversionsOf.mono _ _ _ _
   | exact LeO.none _
   | refine LeO.ite ?_ ?_
   | refine LeO.bind ?_ (fun _ => ?_)
theorem laws_FnExactInversionsOf.mono : ∀ a0 a1 a2 k, LeO (laws_FnExactInversionsOf.f k a0 a1 a2) (laws_FnExactInversionsOf.f (k + 1) a0 a1 a2) := by
 intro a0 a1 a2 k
 obtain ⟨ih0, ih1, ih2⟩ := laws_FnExactInversionsOf.mono_l k
 unfold laws_FnExactInversionsOf.f
 repeat' first
   | (with_reducible exact ih0 _ _ _ _ _ _ _ _ _ _)
   | (with_reducible exact ih1 _ _ _ _ _ _ _)
   | (with_reducible exact ih2 _ _ _)
   | (with_reducible exact impl_InversionsOf.mono _ _ _ _)
   | (with_reducible exact laws_eqIntA2S.mono _ _ _)
   | (with_reducible exact laws_eqIntS.mono _ _ _)
   | (with_reducible exact laws_eqJobS.mono _ _ _)
   | (with_reducible exact laws_heldIntA2S.mono _ _ _)
   | (with_reducible exact laws_markIntA2S.mono _ _ _)
   | (with_reducible exact laws_markIntS.mono _ _ _)
   | (with_reducible exact laws_markJobS.mono _ _ _)
   | (with_reducible exact laws_toIntS.mono _ _)
   | (with_reducible exact laws_toJobS.mono _ _)
   | (with_reducible exact spec_InversionsOf.mono _ _ _ _)
   | (with_reducible exact LeO.refl _)
   | (with_reducible exact LeO.none _)
   | (with_reducible refine LeO.ite ?_ ?_)
   | (with_reducible refine LeO.bind ?_ (fun _ => ?_))
   | exact ih0 _ _ _ _ _ _ _ _ _ _
   | exact ih1 _ _ _ _ _ _ _
   | exact ih2 _ _ _
   | exact impl_InversionsOf.mono _ _ _ _
   | exact laws_eqIntA2S.mono _ _ _
   | exact laws_eqIntS.mono _ _ _
   | exact laws_eqJobS.mono _ _ _
   | exact laws_heldIntA2S.mono _ _ _
   | exact laws_markIntA2S.mono _ _ _
   | exact laws_markIntS.mono _ _ _
   | exact laws_markJobS.mono _ _ _
   | exact laws_toIntS.mono _ _
   | exact laws_toJobS.mono _ _
   | exact spec_InversionsOf.mono _ _ _ _
   | exact LeO.none _
   | refine LeO.ite ?_ ?_
   | refine LeO.bind ?_ (fun _ => ?_)
set_option maxHeartbeats 8000000 in
set_option maxRecDepth 100000 in
theorem laws_FnExactInversionsOf.calls (k : Nat) (A0 : Option Addr) (c0 : Nat) (l0 : List (S96)) (A1 : Option Addr) (c1 : Nat) (l1 : List Int) (a2 : Int) (r : Bool) (w : World) (hr0 : Kd.C k96 w A0 l0.length l0) (hc0 : l0.length ≤ c0) (hr1 : Kd.C (Kd.int .i64) w A1 l1.length l1) (hc1 : l1.length ≤ c1) (h : laws_FnExactInversionsOf.f k l0 l1 a2 = some r) :
  Calls Try.prog 11 #[.slice A0 l0.length c0, .slice A1 l1.length c1, .int .i64 a2] w fun e w' => e = .returned (.bool r) ∧ Below w.heap.size w w' := by
 have HR0 := Aside0.mk hr0
 have HC0 := Aside0.mk hc0
 clear hr0 hc0
 have HR1 := Aside0.mk hr1
 have HC1 := Aside0.mk hc1
 clear hr1 hc1
 have HB := Aside0.mk (Below.refl w.heap.size w)
 have H : (if (l1.length : Int) > 1048576 then (some true) else ((laws_szJobS.f l0 1048576).bind fun t1002 => (if t1002 < 0 then (some true) else ((laws_toJobS.f k l0).bind fun t1003 => ((laws_toIntS.f k l1).bind fun t1006 => ((spec_InversionsOf.f k t1003 t1006 a2).bind fun bt1009 => ((laws_toJobS.f k l0).bind fun t1013 => ((laws_toIntS.f k l1).bind fun t1016 => ((impl_InversionsOf.f k t1013 t1016 a2).bind fun bt1019 => ((laws_eqIntA2S.f k bt1019.1 bt1009.1).bind fun t1023 => (if t1023 = true then (laws_FnExactInversionsOf.j0 k l0 l1 a2 bt1009.1 bt1009.2 t1013 t1016 bt1019.1 bt1019.2 (bt1019.2 != bt1009.2)) else (laws_FnExactInversionsOf.j0 k l0 l1 a2 bt1009.1 bt1009.2 t1013 t1016 bt1019.1 bt1019.2 true)))))))))))) = some r := h
 clear h
 by_cases c4 : (l1.length : Int) > 1048576
 ·rw [if_pos c4] at H
  have c4b0 : decide (1048576 < (l1.length : Int)) = true := decide_eq_true c4
  have c4b1 : decide (1048576 < l1.length) = true := decide_eq_true (by omega)
  clear c4
  obtain rfl := Option.some.inj H
  go_enter Try.func11, Try.ntmps11
  go_wp2
  go_ret
  exact ⟨by first | rfl | (simp [errW_none, errW_some] <;> rfl) | (simp [*, errW_none, errW_some] <;> rfl), bw HB.out⟩
 rw [if_neg c4] at H
 have c4b0 : decide (1048576 < (l1.length : Int)) = false := decide_eq_false c4
 have c4b1 : decide (1048576 < l1.length) = false := decide_eq_false (by omega)
 clear c4
 replace H := Option.bind_eq_some_iff.mp H
 obtain ⟨t1002, A50, H⟩ := H
 replace H : (if t1002 < 0 then (some true) else ((laws_toJobS.f k l0).bind fun t1003 => ((laws_toIntS.f k l1).bind fun t1006 => ((spec_InversionsOf.f k t1003 t1006 a2).bind fun bt1009 => ((laws_toJobS.f k l0).bind fun t1013 => ((laws_toIntS.f k l1).bind fun t1016 => ((impl_InversionsOf.f k t1013 t1016 a2).bind fun bt1019 => ((laws_eqIntA2S.f k bt1019.1 bt1009.1).bind fun t1023 => (if t1023 = true then (laws_FnExactInversionsOf.j0 k l0 l1 a2 bt1009.1 bt1009.2 t1013 t1016 bt1019.1 bt1019.2 (bt1019.2 != bt1009.2)) else (laws_FnExactInversionsOf.j0 k l0 l1 a2 bt1009.1 bt1009.2 t1013 t1016 bt1019.1 bt1019.2 true)))))))))) = some r := H
 have A5 := Aside0.mk A50
 clear A50
 by_cases c6 : t1002 < 0
 ·rw [if_pos c6] at H
  have c6b0 : decide (t1002 < 0) = true := decide_eq_true c6
  clear c6
  obtain rfl := Option.some.inj H
  go_enter Try.func11, Try.ntmps11
  go_wp2_with (first | ((with_reducible refine gate_callee (f := 15) rfl ?_); refine goesL_ (some 24) rfl rfl Try.func15 (by kernel_rfl) rfl #[.slice A0 l0.length c0, .int .i64 1048576] rfl (by (try simp only [mA_]); first | done | rfl | (simp only [List.length_drop, List.length_take]; rfl)) ?_; (with_reducible refine (laws_szJobS.calls _ _ l0 1048576 t1002 _ ?side1 ?side2 A5.out).mono ?_); (case side1 => repeat (first | exact HR0.out | (with_reducible refine Kd.C_alloc ?_ _) | (with_reducible refine Kd.C_drewN ?_ _) | (with_reducible refine Kd.C_drew ?_))); (case side2 => exact HC0.out); rintro e w' ⟨rfl, ⟨nd, rfl⟩⟩; refine ⟨_, rfl, ?_⟩))
  go_ret
  exact ⟨by first | rfl | (simp [errW_none, errW_some] <;> rfl) | (simp [*, errW_none, errW_some] <;> rfl), bw HB.out⟩
 rw [if_neg c6] at H
 have c6b0 : decide (t1002 < 0) = false := decide_eq_false c6
 clear c6
 replace H := Option.bind_eq_some_iff.mp H
 obtain ⟨t1003, A70, H⟩ := H
 replace H : ((laws_toIntS.f k l1).bind fun t1006 => ((spec_InversionsOf.f k t1003 t1006 a2).bind fun bt1009 => ((laws_toJobS.f k l0).bind fun t1013 => ((laws_toIntS.f k l1).bind fun t1016 => ((impl_InversionsOf.f k t1013 t1016 a2).bind fun bt1019 => ((laws_eqIntA2S.f k bt1019.1 bt1009.1).bind fun t1023 => (if t1023 = true then (laws_FnExactInversionsOf.j0 k l0 l1 a2 bt1009.1 bt1009.2 t1013 t1016 bt1019.1 bt1019.2 (bt1019.2 != bt1009.2)) else (laws_FnExactInversionsOf.j0 k l0 l1 a2 bt1009.1 bt1009.2 t1013 t1016 bt1019.1 bt1019.2 true)))))))) = some r := H
 have A7 := Aside0.mk A70
 clear A70
 replace H := Option.bind_eq_some_iff.mp H
 obtain ⟨t1006, A80, H⟩ := H
 replace H : ((spec_InversionsOf.f k t1003 t1006 a2).bind fun bt1009 => ((laws_toJobS.f k l0).bind fun t1013 => ((laws_toIntS.f k l1).bind fun t1016 => ((impl_InversionsOf.f k t1013 t1016 a2).bind fun bt1019 => ((laws_eqIntA2S.f k bt1019.1 bt1009.1).bind fun t1023 => (if t1023 = true then (laws_FnExactInversionsOf.j0 k l0 l1 a2 bt1009.1 bt1009.2 t1013 t1016 bt1019.1 bt1019.2 (bt1019.2 != bt1009.2)) else (laws_FnExactInversionsOf.j0 k l0 l1 a2 bt1009.1 bt1009.2 t1013 t1016 bt1019.1 bt1019.2 true))))))) = some r := H
 have A8 := Aside0.mk A80
 clear A80
 replace H := Option.bind_eq_some_iff.mp H
 obtain ⟨⟨t1009, t1010⟩, A90, H⟩ := H
 replace H : ((laws_toJobS.f k l0).bind fun t1013 => ((laws_toIntS.f k l1).bind fun t1016 => ((impl_InversionsOf.f k t1013 t1016 a2).bind fun bt1019 => ((laws_eqIntA2S.f k bt1019.1 t1009).bind fun t1023 => (if t1023 = true then (laws_FnExactInversionsOf.j0 k l0 l1 a2 t1009 t1010 t1013 t1016 bt1019.1 bt1019.2 (bt1019.2 != t1010)) else (laws_FnExactInversionsOf.j0 k l0 l1 a2 t1009 t1010 t1013 t1016 bt1019.1 bt1019.2 true)))))) = some r := H
 have A9 := Aside0.mk A90
 clear A90
 replace H := Option.bind_eq_some_iff.mp H
 obtain ⟨t1013, A100, H⟩ := H
 replace H : ((laws_toIntS.f k l1).bind fun t1016 => ((impl_InversionsOf.f k t1013 t1016 a2).bind fun bt1019 => ((laws_eqIntA2S.f k bt1019.1 t1009).bind fun t1023 => (if t1023 = true then (laws_FnExactInversionsOf.j0 k l0 l1 a2 t1009 t1010 t1013 t1016 bt1019.1 bt1019.2 (bt1019.2 != t1010)) else (laws_FnExactInversionsOf.j0 k l0 l1 a2 t1009 t1010 t1013 t1016 bt1019.1 bt1019.2 true))))) = some r := H
 have A10 := Aside0.mk A100
 clear A100
 replace H := Option.bind_eq_some_iff.mp H
 obtain ⟨t1016, A110, H⟩ := H
 replace H : ((impl_InversionsOf.f k t1013 t1016 a2).bind fun bt1019 => ((laws_eqIntA2S.f k bt1019.1 t1009).bind fun t1023 => (if t1023 = true then (laws_FnExactInversionsOf.j0 k l0 l1 a2 t1009 t1010 t1013 t1016 bt1019.1 bt1019.2 (bt1019.2 != t1010)) else (laws_FnExactInversionsOf.j0 k l0 l1 a2 t1009 t1010 t1013 t1016 bt1019.1 bt1019.2 true)))) = some r := H
 have A11 := Aside0.mk A110
 clear A110
 replace H := Option.bind_eq_some_iff.mp H
 obtain ⟨⟨t1019, t1020⟩, A120, H⟩ := H
 replace H : ((laws_eqIntA2S.f k t1019 t1009).bind fun t1023 => (if t1023 = true then (laws_FnExactInversionsOf.j0 k l0 l1 a2 t1009 t1010 t1013 t1016 t1019 t1020 (t1020 != t1010)) else (laws_FnExactInversionsOf.j0 k l0 l1 a2 t1009 t1010 t1013 t1016 t1019 t1020 true))) = some r := H
 have A12 := Aside0.mk A120
 clear A120
 have HC13 := Aside0.mk H
 clear H
 go_enter Try.func11, Try.ntmps11
 go_upto_region 11 with (first | ((with_reducible refine gate_callee (f := 15) rfl ?_); refine goesL_ (some 24) rfl rfl Try.func15 (by kernel_rfl) rfl #[.slice A0 l0.length c0, .int .i64 1048576] rfl (by (try simp only [mA_]); first | done | rfl | (simp only [List.length_drop, List.length_take]; rfl)) ?_; (with_reducible refine (laws_szJobS.calls _ _ l0 1048576 t1002 _ ?side1 ?side2 A5.out).mono ?_); (case side1 => repeat (first | exact HR0.out | (with_reducible refine Kd.C_alloc ?_ _) | (with_reducible refine Kd.C_drewN ?_ _) | (with_reducible refine Kd.C_drew ?_))); (case side2 => exact HC0.out); rintro e w' ⟨rfl, ⟨nd, rfl⟩⟩; refine ⟨_, rfl, ?_⟩) | ((with_reducible refine gate_callee (f := 17) rfl ?_); refine goesL_ (some 29) rfl rfl Try.func17 (by kernel_rfl) rfl #[.slice A0 l0.length c0] rfl (by (try simp only [mA_]); first | done | rfl | (simp only [List.length_drop, List.length_take]; rfl)) ?_; (with_reducible refine (laws_toJobS.calls k _ _ l0 t1003 _ ?side1 ?side2 A7.out).mono ?_); (case side1 => repeat (first | exact HR0.out | (with_reducible refine Kd.C_alloc ?_ _) | (with_reducible refine Kd.C_drewN ?_ _) | (with_reducible refine Kd.C_drew ?_))); (case side2 => exact HC0.out); rintro e w14 ⟨v1004, rfl, ho0, hb⟩; refine ⟨_, rfl, ?_⟩; have n0_ := Aside0.mk (Kd.R_lower ho0 (below_size (bw HB.out))); have n1_ := Aside0.mk (below_step (bw HB.out) hb); have HO1005 := n0_; replace HB := n1_; clear n0_ n1_; (try clear hb); (try clear hb2); (try clear hk); (try clear hi); (try clear ho0)) | ((with_reducible refine gate_callee (f := 18) rfl ?_); refine goesL_ (some 31) rfl rfl Try.func18 (by kernel_rfl) rfl #[.slice A1 l1.length c1] rfl (by (try simp only [mA_]); first | done | rfl | (simp only [List.length_drop, List.length_take]; rfl)) ?_; (with_reducible refine (laws_toIntS.calls k _ _ l1 t1006 _ ?side1 ?side2 A8.out).mono ?_); (case side1 => first | exact bC HR1.out HB.out | exact Kd.C_below HR1.out HB.out); (case side2 => exact HC1.out); rintro e w15 ⟨v1007, rfl, ho0, hb⟩; refine ⟨_, rfl, ?_⟩; have n0_ := Aside0.mk (Kd.R_below (bR HO1005.out) hb); have n1_ := Aside0.mk (Kd.R_lower ho0 (below_size (bw HB.out))); have n2_ := Aside0.mk (below_step (bw HB.out) hb); replace HO1005 := n0_; have HO1008 := n1_; replace HB := n2_; clear n0_ n1_ n2_; (try clear hb); (try clear hb2); (try clear hk); (try clear hi); (try clear ho0); obtain ⟨Ao16, co16, eo16⟩ := Kd.R_slice HO1005.out; subst eo16; obtain ⟨Ao17, co17, eo17⟩ := Kd.R_slice HO1008.out; subst eo17) | ((with_reducible refine gate_callee (f := 55) rfl ?_); refine goesL_ (some 33) rfl rfl Try.func55 (by kernel_rfl) rfl #[.slice Ao16 t1003.length co16, .slice Ao17 t1006.length co17, .int .i64 a2] rfl (by (try simp only [mA_]); first | done | rfl | (simp only [List.length_drop, List.length_take]; rfl)) ?_; (with_reducible refine (spec_InversionsOf.calls k _ _ t1003 _ _ t1006 a2 t1009 t1010 _ ?side1 ?side2 ?side3 ?side4 A9.out).mono ?_); (case side1 => repeat (first | exact (Kd.R_reads' HO1005.out).2.2 | (with_reducible refine Kd.C_alloc ?_ _) | (with_reducible refine Kd.C_drewN ?_ _) | (with_reducible refine Kd.C_drew ?_))); (case side2 => exact (Kd.R_reads' HO1005.out).2.1); (case side3 => repeat (first | exact (Kd.R_reads' HO1008.out).2.2 | (with_reducible refine Kd.C_alloc ?_ _) | (with_reducible refine Kd.C_drewN ?_ _) | (with_reducible refine Kd.C_drew ?_))); (case side4 => exact (Kd.R_reads' HO1008.out).2.1); rintro e w18 ⟨v1011, rfl, ho0, hb⟩; refine ⟨_, rfl, ?_⟩; have n0_ := Aside0.mk (Kd.R_below (bR HO1005.out) hb); have n1_ := Aside0.mk (Kd.R_below (bR HO1008.out) hb); have n2_ := Aside0.mk (Kd.R_lower ho0 (below_size (bw HB.out))); have n3_ := Aside0.mk (below_step (bw HB.out) hb); replace HO1005 := n0_; replace HO1008 := n1_; have HO1012 := n2_; replace HB := n3_; clear n0_ n1_ n2_ n3_; (try clear hb); (try clear hb2); (try clear hk); (try clear hi); (try clear ho0)) | ((with_reducible refine gate_callee (f := 17) rfl ?_); refine goesL_ (some 37) rfl rfl Try.func17 (by kernel_rfl) rfl #[.slice A0 l0.length c0] rfl (by (try simp only [mA_]); first | done | rfl | (simp only [List.length_drop, List.length_take]; rfl)) ?_; (with_reducible refine (laws_toJobS.calls k _ _ l0 t1013 _ ?side1 ?side2 A10.out).mono ?_); (case side1 => first | exact bC HR0.out HB.out | exact Kd.C_below HR0.out HB.out); (case side2 => exact HC0.out); rintro e w19 ⟨v1014, rfl, ho0, hb⟩; refine ⟨_, rfl, ?_⟩; have n0_ := Aside0.mk (Kd.R_elder' (bR HO1005.out) (Kd.R_base ho0) hb); have n1_ := Aside0.mk (Kd.R_below (bR HO1008.out) hb); have n2_ := Aside0.mk (Kd.R_below (bR HO1012.out) hb); have n3_ := Aside0.mk (Kd.R_lower (Kd.R_new' ho0 (Kd.R_lt (bR HO1005.out))) (below_size (bw HB.out))); have n4_ := Aside0.mk (below_step (bw HB.out) hb); replace HO1005 := n0_; replace HO1008 := n1_; replace HO1012 := n2_; have HO1015 := n3_; replace HB := n4_; clear n0_ n1_ n2_ n3_ n4_; (try clear hb); (try clear hb2); (try clear hk); (try clear hi); (try clear ho0)) | ((with_reducible refine gate_callee (f := 18) rfl ?_); refine goesL_ (some 39) rfl rfl Try.func18 (by kernel_rfl) rfl #[.slice A1 l1.length c1] rfl (by (try simp only [mA_]); first | done | rfl | (simp only [List.length_drop, List.length_take]; rfl)) ?_; (with_reducible refine (laws_toIntS.calls k _ _ l1 t1016 _ ?side1 ?side2 A11.out).mono ?_); (case side1 => first | exact bC HR1.out HB.out | exact Kd.C_below HR1.out HB.out); (case side2 => exact HC1.out); rintro e w20 ⟨v1017, rfl, ho0, hb⟩; refine ⟨_, rfl, ?_⟩; have n0_ := Aside0.mk (Kd.R_below (bR HO1005.out) hb); have n1_ := Aside0.mk (Kd.R_elder' (bR HO1008.out) (Kd.R_base ho0) hb); have n2_ := Aside0.mk (Kd.R_below (bR HO1012.out) hb); have n3_ := Aside0.mk (Kd.R_below (bR HO1015.out) hb); have n4_ := Aside0.mk (Kd.R_lower (Kd.R_new' ho0 (Kd.R_lt (bR HO1008.out))) (below_size (bw HB.out))); have n5_ := Aside0.mk (below_step (bw HB.out) hb); replace HO1005 := n0_; replace HO1008 := n1_; replace HO1012 := n2_; replace HO1015 := n3_; have HO1018 := n4_; replace HB := n5_; clear n0_ n1_ n2_ n3_ n4_ n5_; (try clear hb); (try clear hb2); (try clear hk); (try clear hi); (try clear ho0); obtain ⟨Ao21, co21, eo21⟩ := Kd.R_slice HO1015.out; subst eo21; obtain ⟨Ao22, co22, eo22⟩ := Kd.R_slice HO1018.out; subst eo22) | ((with_reducible refine gate_callee (f := 56) rfl ?_); refine goesL_ (some 44) rfl rfl Try.func56 (by kernel_rfl) rfl #[.slice Ao21 t1013.length co21, .slice Ao22 t1016.length co22, .int .i64 a2] rfl (by (try simp only [mA_]); first | done | rfl | (simp only [List.length_drop, List.length_take]; rfl)) ?_; (with_reducible refine (impl_InversionsOf.calls k _ _ t1013 _ _ t1016 a2 t1019 t1020 _ ?side1 ?side2 ?side3 ?side4 A12.out).mono ?_); (case side1 => repeat (first | exact (Kd.R_reads' HO1015.out).2.2 | (with_reducible refine Kd.C_alloc ?_ _) | (with_reducible refine Kd.C_drewN ?_ _) | (with_reducible refine Kd.C_drew ?_))); (case side2 => exact (Kd.R_reads' HO1015.out).2.1); (case side3 => repeat (first | exact (Kd.R_reads' HO1018.out).2.2 | (with_reducible refine Kd.C_alloc ?_ _) | (with_reducible refine Kd.C_drewN ?_ _) | (with_reducible refine Kd.C_drew ?_))); (case side4 => exact (Kd.R_reads' HO1018.out).2.1); rintro e w23 ⟨v1021, rfl, ho0, hb⟩; refine ⟨_, rfl, ?_⟩; have n0_ := Aside0.mk (Kd.R_below (bR HO1005.out) hb); have n1_ := Aside0.mk (Kd.R_below (bR HO1008.out) hb); have n2_ := Aside0.mk (Kd.R_elder' (bR HO1012.out) (Kd.R_base ho0) hb); have n3_ := Aside0.mk (Kd.R_below (bR HO1015.out) hb); have n4_ := Aside0.mk (Kd.R_below (bR HO1018.out) hb); have n5_ := Aside0.mk (Kd.R_lower (Kd.R_new' ho0 (Kd.R_lt (bR HO1012.out))) (below_size (bw HB.out))); have n6_ := Aside0.mk (below_step (bw HB.out) hb); replace HO1005 := n0_; replace HO1008 := n1_; replace HO1012 := n2_; replace HO1015 := n3_; replace HO1018 := n4_; have HO1022 := n5_; replace HB := n6_; clear n0_ n1_ n2_ n3_ n4_ n5_ n6_; (try clear hb); (try clear hb2); (try clear hk); (try clear hi); (try clear ho0)))
 (try simp only [Act.put, List.setIfInBounds_toArray, List.set_cons_zero, List.set_cons_succ])
 go_cut [55] (fun v55 wc => ∃ (kq : Nat) (x55_12 : Bool), v55 = .bool x55_12 ∧ Aside0 (laws_FnExactInversionsOf.j0 kq l0 l1 a2 t1009 t1010 t1013 t1016 t1019 t1020 x55_12 = some r) ∧ Aside0 (kq ≤ k) ∧ Aside0 (Kd.R k71 71 wc w.heap.size (fun k_ => some k_ ≠ (v1021 : Value).ownBlock) v1011 t1009) ∧ Aside0 (Kd.R k89 89 wc w.heap.size (fun _ => True) (.slice Ao21 t1013.length co21) t1013) ∧ Aside0 (Kd.R (Kd.int .i64) 3 wc w.heap.size (fun _ => True) (.slice Ao22 t1016.length co22) t1016) ∧ Aside0 (Kd.R k71 71 wc w.heap.size (fun k_ => some k_ ≠ (v1011 : Value).ownBlock) v1021 t1019) ∧ Aside0 (Below w.heap.size w wc))
 case first =>
  have H := HC13.out
  clear HC13
  replace H := Option.bind_eq_some_iff.mp H
  obtain ⟨t1023, A240, H⟩ := H
  replace H : (if t1023 = true then (laws_FnExactInversionsOf.j0 k l0 l1 a2 t1009 t1010 t1013 t1016 t1019 t1020 (t1020 != t1010)) else (laws_FnExactInversionsOf.j0 k l0 l1 a2 t1009 t1010 t1013 t1016 t1019 t1020 true)) = some r := H
  have A24 := Aside0.mk A240
  clear A240
  by_cases c25 : t1023 = true
  ·subst c25
   have H1 : (laws_FnExactInversionsOf.j0 k l0 l1 a2 t1009 t1010 t1013 t1016 t1019 t1020 (t1020 != t1010)) = some r := by rw [if_pos rfl] at H; exact H
   clear H
   have H := H1
   clear H1
   have H' := Aside0.mk H
   clear H
   obtain ⟨Ao26, co26, eo26⟩ := Kd.R_slice HO1022.out
   subst eo26
   obtain ⟨Ao27, co27, eo27⟩ := Kd.R_slice HO1012.out
   subst eo27
   go_wp2_with (first | ((with_reducible refine gate_callee (f := 35) rfl ?_); refine goesL_ (some 49) rfl rfl Try.func35 (by kernel_rfl) rfl #[.slice Ao26 t1019.length co26, .slice Ao27 t1009.length co27] rfl (by (try simp only [mA_]); first | done | rfl | (simp only [List.length_drop, List.length_take]; rfl)) ?_; (with_reducible refine (laws_eqIntA2S.calls k _ _ t1019 _ _ t1009 true _ ?side1 ?side2 ?side3 ?side4 A24.out).mono ?_); (case side1 => repeat (first | exact (Kd.R_reads' HO1022.out).2.2 | (with_reducible refine Kd.C_alloc ?_ _) | (with_reducible refine Kd.C_drewN ?_ _) | (with_reducible refine Kd.C_drew ?_))); (case side2 => exact (Kd.R_reads' HO1022.out).2.1); (case side3 => repeat (first | exact (Kd.R_reads' HO1012.out).2.2 | (with_reducible refine Kd.C_alloc ?_ _) | (with_reducible refine Kd.C_drewN ?_ _) | (with_reducible refine Kd.C_drew ?_))); (case side4 => exact (Kd.R_reads' HO1012.out).2.1); rintro e w28 ⟨rfl, hb⟩; refine ⟨_, rfl, ?_⟩; have n0_ := Aside0.mk (Kd.R_below (bR HO1005.out) hb); have n1_ := Aside0.mk (Kd.R_below (bR HO1008.out) hb); have n2_ := Aside0.mk (Kd.R_below (bR HO1012.out) hb); have n3_ := Aside0.mk (Kd.R_below (bR HO1015.out) hb); have n4_ := Aside0.mk (Kd.R_below (bR HO1018.out) hb); have n5_ := Aside0.mk (Kd.R_below (bR HO1022.out) hb); have n6_ := Aside0.mk (below_step (bw HB.out) hb); replace HO1005 := n0_; replace HO1008 := n1_; replace HO1012 := n2_; replace HO1015 := n3_; replace HO1018 := n4_; replace HO1022 := n5_; replace HB := n6_; clear n0_ n1_ n2_ n3_ n4_ n5_ n6_; (try clear hb); (try clear hb2); (try clear hk); (try clear hi)))
   go_meet
   case rel => exact ⟨_, ((t1020 != t1010)), (by first | rfl | (simp; done) | (simp [*]; done)), H', ⟨by first | omega | exact Nat.le_refl _⟩, ⟨by (with_reducible repeat (first | apply Kd.R_alloc | apply Kd.R_drewN | apply Kd.R_drew)); exact Kd.R_mono HO1012.out (fun _ hk => hk.2)⟩, ⟨by (with_reducible repeat (first | apply Kd.R_alloc | apply Kd.R_drewN | apply Kd.R_drew)); exact Kd.R_mono HO1015.out (fun _ hk => trivial)⟩, ⟨by (with_reducible repeat (first | apply Kd.R_alloc | apply Kd.R_drewN | apply Kd.R_drew)); exact Kd.R_mono HO1018.out (fun _ hk => trivial)⟩, ⟨by (with_reducible repeat (first | apply Kd.R_alloc | apply Kd.R_drewN | apply Kd.R_drew)); exact Kd.R_mono HO1022.out (fun _ hk => hk.2)⟩, ⟨bw HB.out⟩⟩
  replace c25 := Bool.eq_false_iff.mpr c25
  subst c25
  have H1 : (laws_FnExactInversionsOf.j0 k l0 l1 a2 t1009 t1010 t1013 t1016 t1019 t1020 true) = some r := by rw [if_neg (show ¬ (false = true) by decide)] at H; exact H
  clear H
  have H := H1
  clear H1
  have H' := Aside0.mk H
  clear H
  obtain ⟨Ao29, co29, eo29⟩ := Kd.R_slice HO1022.out
  subst eo29
  obtain ⟨Ao30, co30, eo30⟩ := Kd.R_slice HO1012.out
  subst eo30
  go_wp2_with (first | ((with_reducible refine gate_callee (f := 35) rfl ?_); refine goesL_ (some 49) rfl rfl Try.func35 (by kernel_rfl) rfl #[.slice Ao29 t1019.length co29, .slice Ao30 t1009.length co30] rfl (by (try simp only [mA_]); first | done | rfl | (simp only [List.length_drop, List.length_take]; rfl)) ?_; (with_reducible refine (laws_eqIntA2S.calls k _ _ t1019 _ _ t1009 false _ ?side1 ?side2 ?side3 ?side4 A24.out).mono ?_); (case side1 => repeat (first | exact (Kd.R_reads' HO1022.out).2.2 | (with_reducible refine Kd.C_alloc ?_ _) | (with_reducible refine Kd.C_drewN ?_ _) | (with_reducible refine Kd.C_drew ?_))); (case side2 => exact (Kd.R_reads' HO1022.out).2.1); (case side3 => repeat (first | exact (Kd.R_reads' HO1012.out).2.2 | (with_reducible refine Kd.C_alloc ?_ _) | (with_reducible refine Kd.C_drewN ?_ _) | (with_reducible refine Kd.C_drew ?_))); (case side4 => exact (Kd.R_reads' HO1012.out).2.1); rintro e w31 ⟨rfl, hb⟩; refine ⟨_, rfl, ?_⟩; have n0_ := Aside0.mk (Kd.R_below (bR HO1005.out) hb); have n1_ := Aside0.mk (Kd.R_below (bR HO1008.out) hb); have n2_ := Aside0.mk (Kd.R_below (bR HO1012.out) hb); have n3_ := Aside0.mk (Kd.R_below (bR HO1015.out) hb); have n4_ := Aside0.mk (Kd.R_below (bR HO1018.out) hb); have n5_ := Aside0.mk (Kd.R_below (bR HO1022.out) hb); have n6_ := Aside0.mk (below_step (bw HB.out) hb); replace HO1005 := n0_; replace HO1008 := n1_; replace HO1012 := n2_; replace HO1015 := n3_; replace HO1018 := n4_; replace HO1022 := n5_; replace HB := n6_; clear n0_ n1_ n2_ n3_ n4_ n5_ n6_; (try clear hb); (try clear hb2); (try clear hk); (try clear hi)))
  go_meet
  case rel => exact ⟨_, (true), (by first | rfl | (simp; done) | (simp [*]; done)), H', ⟨by first | omega | exact Nat.le_refl _⟩, ⟨by (with_reducible repeat (first | apply Kd.R_alloc | apply Kd.R_drewN | apply Kd.R_drew)); exact Kd.R_mono HO1012.out (fun _ hk => hk.2)⟩, ⟨by (with_reducible repeat (first | apply Kd.R_alloc | apply Kd.R_drewN | apply Kd.R_drew)); exact Kd.R_mono HO1015.out (fun _ hk => trivial)⟩, ⟨by (with_reducible repeat (first | apply Kd.R_alloc | apply Kd.R_drewN | apply Kd.R_drew)); exact Kd.R_mono HO1018.out (fun _ hk => trivial)⟩, ⟨by (with_reducible repeat (first | apply Kd.R_alloc | apply Kd.R_drewN | apply Kd.R_drew)); exact Kd.R_mono HO1022.out (fun _ hk => hk.2)⟩, ⟨bw HB.out⟩⟩
 case rest =>
  clear HC13
  try clear c1
  try clear c2
  try clear p2
  try clear c3
  try clear c4
  try clear c4b0
  try clear c4b1
  try clear c5
  try clear c6
  try clear c6b0
  try clear c11
  try clear c15
  try clear c17
  try clear c18
  try clear c25
  obtain ⟨kq, x55_12, rfl, HA, HJ12, HO_8, HO_10, HO_11, HO_12, HB⟩ := hcut
  cases kq with
  | zero => exact absurd HA.out (by simp [laws_FnExactInversionsOf.j0])
  | succ kj12 =>
   have H := HA.out
   clear HA
   simp only [laws_FnExactInversionsOf.j0] at H
   by_cases c32 : x55_12 = true
   ·subst c32
    have H1 : (some false) = some r := by rw [if_pos rfl] at H; exact H
    clear H
    have H := H1
    clear H1
    obtain rfl := Option.some.inj H
    go_wp2
    go_ret
    exact ⟨by first | rfl | (simp [errW_none, errW_some] <;> rfl) | (simp [*, errW_none, errW_some] <;> rfl), bw HB.out⟩
   replace c32 := Bool.eq_false_iff.mpr c32
   subst c32
   have H1 : ((laws_toJobS.f kj12 l0).bind fun t1024 => ((laws_eqJobS.f kj12 t1013 t1024).bind fun t1027 => (if t1027 = true then ((laws_toIntS.f kj12 l1).bind fun t1028 => ((laws_eqIntS.f kj12 t1016 t1028).bind fun t1031 => (if t1031 = true then ((laws_markJobS.f kj12 t1013 1).bind fun bt1032 => ((laws_markIntS.f kj12 t1016 bt1032.1).bind fun bt1034 => (if bt1034.1 < 0 then (laws_FnExactInversionsOf.j1 kj12 l0 l1 a2 t1009 t1010 t1019 true) else ((laws_eqIntA2S.f kj12 t1019 t1009).bind fun t1036 => (if t1036 = true then (laws_FnExactInversionsOf.j1 kj12 l0 l1 a2 t1009 t1010 t1019 (t1020 != t1010)) else (laws_FnExactInversionsOf.j1 kj12 l0 l1 a2 t1009 t1010 t1019 true)))))) else (some false)))) else (some false)))) = some r := by rw [if_neg (show ¬ (false = true) by decide)] at H; exact H
   clear H
   have H := H1
   clear H1
   replace H := Option.bind_eq_some_iff.mp H
   obtain ⟨t1024, A330, H⟩ := H
   replace H : ((laws_eqJobS.f kj12 t1013 t1024).bind fun t1027 => (if t1027 = true then ((laws_toIntS.f kj12 l1).bind fun t1028 => ((laws_eqIntS.f kj12 t1016 t1028).bind fun t1031 => (if t1031 = true then ((laws_markJobS.f kj12 t1013 1).bind fun bt1032 => ((laws_markIntS.f kj12 t1016 bt1032.1).bind fun bt1034 => (if bt1034.1 < 0 then (laws_FnExactInversionsOf.j1 kj12 l0 l1 a2 t1009 t1010 t1019 true) else ((laws_eqIntA2S.f kj12 t1019 t1009).bind fun t1036 => (if t1036 = true then (laws_FnExactInversionsOf.j1 kj12 l0 l1 a2 t1009 t1010 t1019 (t1020 != t1010)) else (laws_FnExactInversionsOf.j1 kj12 l0 l1 a2 t1009 t1010 t1019 true)))))) else (some false)))) else (some false))) = some r := H
   have A33 := Aside0.mk A330
   clear A330
   replace H := Option.bind_eq_some_iff.mp H
   obtain ⟨t1027, A340, H⟩ := H
   replace H : (if t1027 = true then ((laws_toIntS.f kj12 l1).bind fun t1028 => ((laws_eqIntS.f kj12 t1016 t1028).bind fun t1031 => (if t1031 = true then ((laws_markJobS.f kj12 t1013 1).bind fun bt1032 => ((laws_markIntS.f kj12 t1016 bt1032.1).bind fun bt1034 => (if bt1034.1 < 0 then (laws_FnExactInversionsOf.j1 kj12 l0 l1 a2 t1009 t1010 t1019 true) else ((laws_eqIntA2S.f kj12 t1019 t1009).bind fun t1036 => (if t1036 = true then (laws_FnExactInversionsOf.j1 kj12 l0 l1 a2 t1009 t1010 t1019 (t1020 != t1010)) else (laws_FnExactInversionsOf.j1 kj12 l0 l1 a2 t1009 t1010 t1019 true)))))) else (some false)))) else (some false)) = some r := H
   have A34 := Aside0.mk A340
   clear A340
   by_cases c35 : t1027 = true
   rotate_left
   ·replace c35 := Bool.eq_false_iff.mpr c35
    subst c35
    have H1 : (some false) = some r := by rw [if_neg (show ¬ (false = true) by decide)] at H; exact H
    clear H
    have H := H1
    clear H1
    obtain rfl := Option.some.inj H
    go_wp2_with (first | ((with_reducible refine gate_callee (f := 17) rfl ?_); refine goesL_ (some 58) rfl rfl Try.func17 (by kernel_rfl) rfl #[.slice A0 l0.length c0] rfl (by (try simp only [mA_]); first | done | rfl | (simp only [List.length_drop, List.length_take]; rfl)) ?_; (with_reducible refine (laws_toJobS.calls kj12 _ _ l0 t1024 _ ?side1 ?side2 A33.out).mono ?_); (case side1 => first | exact bC HR0.out HB.out | exact Kd.C_below HR0.out HB.out); (case side2 => exact HC0.out); rintro e w101 ⟨v1025, rfl, ho0, hb⟩; refine ⟨_, rfl, ?_⟩; have n0_ := Aside0.mk (Kd.R_below (bR HO_8.out) hb); have n1_ := Aside0.mk (Kd.R_elder' (bR HO_10.out) (Kd.R_base ho0) hb); have n2_ := Aside0.mk (Kd.R_below (bR HO_11.out) hb); have n3_ := Aside0.mk (Kd.R_below (bR HO_12.out) hb); have n4_ := Aside0.mk (Kd.R_lower (Kd.R_new' ho0 (Kd.R_lt (bR HO_10.out))) (below_size (bw HB.out))); have n5_ := Aside0.mk (below_step (bw HB.out) hb); replace HO_8 := n0_; replace HO_10 := n1_; replace HO_11 := n2_; replace HO_12 := n3_; have HO1026 := n4_; replace HB := n5_; clear n0_ n1_ n2_ n3_ n4_ n5_; (try clear hb); (try clear hb2); (try clear hk); (try clear hi); (try clear ho0); obtain ⟨Ao102, co102, eo102⟩ := Kd.R_slice HO1026.out; subst eo102) | ((with_reducible refine gate_callee (f := 20) rfl ?_); refine goesL_ (some 59) rfl rfl Try.func20 (by kernel_rfl) rfl #[.slice Ao21 t1013.length co21, .slice Ao102 t1024.length co102] rfl (by (try simp only [mA_]); first | done | rfl | (simp only [List.length_drop, List.length_take]; rfl)) ?_; (with_reducible refine (laws_eqJobS.calls kj12 _ _ t1013 _ _ t1024 false _ ?side1 ?side2 ?side3 ?side4 A34.out).mono ?_); (case side1 => repeat (first | exact (Kd.R_reads' HO_10.out).2.2 | (with_reducible refine Kd.C_alloc ?_ _) | (with_reducible refine Kd.C_drewN ?_ _) | (with_reducible refine Kd.C_drew ?_))); (case side2 => exact (Kd.R_reads' HO_10.out).2.1); (case side3 => repeat (first | exact (Kd.R_reads' HO1026.out).2.2 | (with_reducible refine Kd.C_alloc ?_ _) | (with_reducible refine Kd.C_drewN ?_ _) | (with_reducible refine Kd.C_drew ?_))); (case side4 => exact (Kd.R_reads' HO1026.out).2.1); rintro e w103 ⟨rfl, hb⟩; refine ⟨_, rfl, ?_⟩; have n0_ := Aside0.mk (Kd.R_below (bR HO_8.out) hb); have n1_ := Aside0.mk (Kd.R_below (bR HO_10.out) hb); have n2_ := Aside0.mk (Kd.R_below (bR HO_11.out) hb); have n3_ := Aside0.mk (Kd.R_below (bR HO_12.out) hb); have n4_ := Aside0.mk (Kd.R_below (bR HO1026.out) hb); have n5_ := Aside0.mk (below_step (bw HB.out) hb); replace HO_8 := n0_; replace HO_10 := n1_; replace HO_11 := n2_; replace HO_12 := n3_; replace HO1026 := n4_; replace HB := n5_; clear n0_ n1_ n2_ n3_ n4_ n5_; (try clear hb); (try clear hb2); (try clear hk); (try clear hi)))
    go_ret
    exact ⟨by first | rfl | (simp [errW_none, errW_some] <;> rfl) | (simp [*, errW_none, errW_some] <;> rfl), bw HB.out⟩
   subst c35
   have H1 : ((laws_toIntS.f kj12 l1).bind fun t1028 => ((laws_eqIntS.f kj12 t1016 t1028).bind fun t1031 => (if t1031 = true then ((laws_markJobS.f kj12 t1013 1).bind fun bt1032 => ((laws_markIntS.f kj12 t1016 bt1032.1).bind fun bt1034 => (if bt1034.1 < 0 then (laws_FnExactInversionsOf.j1 kj12 l0 l1 a2 t1009 t1010 t1019 true) else ((laws_eqIntA2S.f kj12 t1019 t1009).bind fun t1036 => (if t1036 = true then (laws_FnExactInversionsOf.j1 kj12 l0 l1 a2 t1009 t1010 t1019 (t1020 != t1010)) else (laws_FnExactInversionsOf.j1 kj12 l0 l1 a2 t1009 t1010 t1019 true)))))) else (some false)))) = some r := by rw [if_pos rfl] at H; exact H
   clear H
   have H := H1
   clear H1
   replace H := Option.bind_eq_some_iff.mp H
   obtain ⟨t1028, A360, H⟩ := H
   replace H : ((laws_eqIntS.f kj12 t1016 t1028).bind fun t1031 => (if t1031 = true then ((laws_markJobS.f kj12 t1013 1).bind fun bt1032 => ((laws_markIntS.f kj12 t1016 bt1032.1).bind fun bt1034 => (if bt1034.1 < 0 then (laws_FnExactInversionsOf.j1 kj12 l0 l1 a2 t1009 t1010 t1019 true) else ((laws_eqIntA2S.f kj12 t1019 t1009).bind fun t1036 => (if t1036 = true then (laws_FnExactInversionsOf.j1 kj12 l0 l1 a2 t1009 t1010 t1019 (t1020 != t1010)) else (laws_FnExactInversionsOf.j1 kj12 l0 l1 a2 t1009 t1010 t1019 true)))))) else (some false))) = some r := H
   have A36 := Aside0.mk A360
   clear A360
   replace H := Option.bind_eq_some_iff.mp H
   obtain ⟨t1031, A370, H⟩ := H
   replace H : (if t1031 = true then ((laws_markJobS.f kj12 t1013 1).bind fun bt1032 => ((laws_markIntS.f kj12 t1016 bt1032.1).bind fun bt1034 => (if bt1034.1 < 0 then (laws_FnExactInversionsOf.j1 kj12 l0 l1 a2 t1009 t1010 t1019 true) else ((laws_eqIntA2S.f kj12 t1019 t1009).bind fun t1036 => (if t1036 = true then (laws_FnExactInversionsOf.j1 kj12 l0 l1 a2 t1009 t1010 t1019 (t1020 != t1010)) else (laws_FnExactInversionsOf.j1 kj12 l0 l1 a2 t1009 t1010 t1019 true)))))) else (some false)) = some r := H
   have A37 := Aside0.mk A370
   clear A370
   by_cases c38 : t1031 = true
   rotate_left
   ·replace c38 := Bool.eq_false_iff.mpr c38
    subst c38
    have H1 : (some false) = some r := by rw [if_neg (show ¬ (false = true) by decide)] at H; exact H
    clear H
    have H := H1
    clear H1
    obtain rfl := Option.some.inj H
    go_wp2_with (first | ((with_reducible refine gate_callee (f := 17) rfl ?_); refine goesL_ (some 58) rfl rfl Try.func17 (by kernel_rfl) rfl #[.slice A0 l0.length c0] rfl (by (try simp only [mA_]); first | done | rfl | (simp only [List.length_drop, List.length_take]; rfl)) ?_; (with_reducible refine (laws_toJobS.calls kj12 _ _ l0 t1024 _ ?side1 ?side2 A33.out).mono ?_); (case side1 => first | exact bC HR0.out HB.out | exact Kd.C_below HR0.out HB.out); (case side2 => exact HC0.out); rintro e w96 ⟨v1025, rfl, ho0, hb⟩; refine ⟨_, rfl, ?_⟩; have n0_ := Aside0.mk (Kd.R_below (bR HO_8.out) hb); have n1_ := Aside0.mk (Kd.R_elder' (bR HO_10.out) (Kd.R_base ho0) hb); have n2_ := Aside0.mk (Kd.R_below (bR HO_11.out) hb); have n3_ := Aside0.mk (Kd.R_below (bR HO_12.out) hb); have n4_ := Aside0.mk (Kd.R_lower (Kd.R_new' ho0 (Kd.R_lt (bR HO_10.out))) (below_size (bw HB.out))); have n5_ := Aside0.mk (below_step (bw HB.out) hb); replace HO_8 := n0_; replace HO_10 := n1_; replace HO_11 := n2_; replace HO_12 := n3_; have HO1026 := n4_; replace HB := n5_; clear n0_ n1_ n2_ n3_ n4_ n5_; (try clear hb); (try clear hb2); (try clear hk); (try clear hi); (try clear ho0); obtain ⟨Ao97, co97, eo97⟩ := Kd.R_slice HO1026.out; subst eo97) | ((with_reducible refine gate_callee (f := 20) rfl ?_); refine goesL_ (some 59) rfl rfl Try.func20 (by kernel_rfl) rfl #[.slice Ao21 t1013.length co21, .slice Ao97 t1024.length co97] rfl (by (try simp only [mA_]); first | done | rfl | (simp only [List.length_drop, List.length_take]; rfl)) ?_; (with_reducible refine (laws_eqJobS.calls kj12 _ _ t1013 _ _ t1024 true _ ?side1 ?side2 ?side3 ?side4 A34.out).mono ?_); (case side1 => repeat (first | exact (Kd.R_reads' HO_10.out).2.2 | (with_reducible refine Kd.C_alloc ?_ _) | (with_reducible refine Kd.C_drewN ?_ _) | (with_reducible refine Kd.C_drew ?_))); (case side2 => exact (Kd.R_reads' HO_10.out).2.1); (case side3 => repeat (first | exact (Kd.R_reads' HO1026.out).2.2 | (with_reducible refine Kd.C_alloc ?_ _) | (with_reducible refine Kd.C_drewN ?_ _) | (with_reducible refine Kd.C_drew ?_))); (case side4 => exact (Kd.R_reads' HO1026.out).2.1); rintro e w98 ⟨rfl, hb⟩; refine ⟨_, rfl, ?_⟩; have n0_ := Aside0.mk (Kd.R_below (bR HO_8.out) hb); have n1_ := Aside0.mk (Kd.R_below (bR HO_10.out) hb); have n2_ := Aside0.mk (Kd.R_below (bR HO_11.out) hb); have n3_ := Aside0.mk (Kd.R_below (bR HO_12.out) hb); have n4_ := Aside0.mk (Kd.R_below (bR HO1026.out) hb); have n5_ := Aside0.mk (below_step (bw HB.out) hb); replace HO_8 := n0_; replace HO_10 := n1_; replace HO_11 := n2_; replace HO_12 := n3_; replace HO1026 := n4_; replace HB := n5_; clear n0_ n1_ n2_ n3_ n4_ n5_; (try clear hb); (try clear hb2); (try clear hk); (try clear hi)) | ((with_reducible refine gate_callee (f := 18) rfl ?_); refine goesL_ (some 63) rfl rfl Try.func18 (by kernel_rfl) rfl #[.slice A1 l1.length c1] rfl (by (try simp only [mA_]); first | done | rfl | (simp only [List.length_drop, List.length_take]; rfl)) ?_; (with_reducible refine (laws_toIntS.calls kj12 _ _ l1 t1028 _ ?side1 ?side2 A36.out).mono ?_); (case side1 => first | exact bC HR1.out HB.out | exact Kd.C_below HR1.out HB.out); (case side2 => exact HC1.out); rintro e w99 ⟨v1029, rfl, ho0, hb⟩; refine ⟨_, rfl, ?_⟩; have n0_ := Aside0.mk (Kd.R_below (bR HO_8.out) hb); have n1_ := Aside0.mk (Kd.R_below (bR HO_10.out) hb); have n2_ := Aside0.mk (Kd.R_elder' (bR HO_11.out) (Kd.R_base ho0) hb); have n3_ := Aside0.mk (Kd.R_below (bR HO_12.out) hb); have n4_ := Aside0.mk (Kd.R_below (bR HO1026.out) hb); have n5_ := Aside0.mk (Kd.R_lower (Kd.R_new' ho0 (Kd.R_lt (bR HO_11.out))) (below_size (bw HB.out))); have n6_ := Aside0.mk (below_step (bw HB.out) hb); replace HO_8 := n0_; replace HO_10 := n1_; replace HO_11 := n2_; replace HO_12 := n3_; replace HO1026 := n4_; have HO1030 := n5_; replace HB := n6_; clear n0_ n1_ n2_ n3_ n4_ n5_ n6_; (try clear hb); (try clear hb2); (try clear hk); (try clear hi); (try clear ho0); obtain ⟨Ao100, co100, eo100⟩ := Kd.R_slice HO1030.out; subst eo100) | ((with_reducible refine gate_callee (f := 21) rfl ?_); refine goesL_ (some 64) rfl rfl Try.func21 (by kernel_rfl) rfl #[.slice Ao22 t1016.length co22, .slice Ao100 t1028.length co100] rfl (by (try simp only [mA_]); first | done | rfl | (simp only [List.length_drop, List.length_take]; rfl)) ?_; (with_reducible refine (laws_eqIntS.calls kj12 _ _ t1016 _ _ t1028 false _ ?side1 ?side2 ?side3 ?side4 A37.out).mono ?_); (case side1 => repeat (first | exact (Kd.R_reads' HO_11.out).2.2 | (with_reducible refine Kd.C_alloc ?_ _) | (with_reducible refine Kd.C_drewN ?_ _) | (with_reducible refine Kd.C_drew ?_))); (case side2 => exact (Kd.R_reads' HO_11.out).2.1); (case side3 => repeat (first | exact (Kd.R_reads' HO1030.out).2.2 | (with_reducible refine Kd.C_alloc ?_ _) | (with_reducible refine Kd.C_drewN ?_ _) | (with_reducible refine Kd.C_drew ?_))); (case side4 => exact (Kd.R_reads' HO1030.out).2.1); rintro e w' ⟨rfl, ⟨nd, rfl⟩⟩; refine ⟨_, rfl, ?_⟩))
    go_ret
    exact ⟨by first | rfl | (simp [errW_none, errW_some] <;> rfl) | (simp [*, errW_none, errW_some] <;> rfl), bw HB.out⟩
   subst c38
   have H1 : ((laws_markJobS.f kj12 t1013 1).bind fun bt1032 => ((laws_markIntS.f kj12 t1016 bt1032.1).bind fun bt1034 => (if bt1034.1 < 0 then (laws_FnExactInversionsOf.j1 kj12 l0 l1 a2 t1009 t1010 t1019 true) else ((laws_eqIntA2S.f kj12 t1019 t1009).bind fun t1036 => (if t1036 = true then (laws_FnExactInversionsOf.j1 kj12 l0 l1 a2 t1009 t1010 t1019 (t1020 != t1010)) else (laws_FnExactInversionsOf.j1 kj12 l0 l1 a2 t1009 t1010 t1019 true)))))) = some r := by rw [if_pos rfl] at H; exact H
   clear H
   have H := H1
   clear H1
   replace H := Option.bind_eq_some_iff.mp H
   obtain ⟨⟨t1032, t1033⟩, A390, H⟩ := H
   replace H : ((laws_markIntS.f kj12 t1016 t1032).bind fun bt1034 => (if bt1034.1 < 0 then (laws_FnExactInversionsOf.j1 kj12 l0 l1 a2 t1009 t1010 t1019 true) else ((laws_eqIntA2S.f kj12 t1019 t1009).bind fun t1036 => (if t1036 = true then (laws_FnExactInversionsOf.j1 kj12 l0 l1 a2 t1009 t1010 t1019 (t1020 != t1010)) else (laws_FnExactInversionsOf.j1 kj12 l0 l1 a2 t1009 t1010 t1019 true))))) = some r := H
   have A39 := Aside0.mk A390
   clear A390
   replace H := Option.bind_eq_some_iff.mp H
   obtain ⟨⟨t1034, t1035⟩, A400, H⟩ := H
   replace H : (if t1034 < 0 then (laws_FnExactInversionsOf.j1 kj12 l0 l1 a2 t1009 t1010 t1019 true) else ((laws_eqIntA2S.f kj12 t1019 t1009).bind fun t1036 => (if t1036 = true then (laws_FnExactInversionsOf.j1 kj12 l0 l1 a2 t1009 t1010 t1019 (t1020 != t1010)) else (laws_FnExactInversionsOf.j1 kj12 l0 l1 a2 t1009 t1010 t1019 true)))) = some r := H
   have A40 := Aside0.mk A400
   clear A400
   have HC41 := Aside0.mk H
   clear H
   go_upto_region 20 with (first | ((with_reducible refine gate_callee (f := 17) rfl ?_); refine goesL_ (some 58) rfl rfl Try.func17 (by kernel_rfl) rfl #[.slice A0 l0.length c0] rfl (by (try simp only [mA_]); first | done | rfl | (simp only [List.length_drop, List.length_take]; rfl)) ?_; (with_reducible refine (laws_toJobS.calls kj12 _ _ l0 t1024 _ ?side1 ?side2 A33.out).mono ?_); (case side1 => first | exact bC HR0.out HB.out | exact Kd.C_below HR0.out HB.out); (case side2 => exact HC0.out); rintro e w42 ⟨v1025, rfl, ho0, hb⟩; refine ⟨_, rfl, ?_⟩; have n0_ := Aside0.mk (Kd.R_below (bR HO_8.out) hb); have n1_ := Aside0.mk (Kd.R_elder' (bR HO_10.out) (Kd.R_base ho0) hb); have n2_ := Aside0.mk (Kd.R_below (bR HO_11.out) hb); have n3_ := Aside0.mk (Kd.R_below (bR HO_12.out) hb); have n4_ := Aside0.mk (Kd.R_lower (Kd.R_new' ho0 (Kd.R_lt (bR HO_10.out))) (below_size (bw HB.out))); have n5_ := Aside0.mk (below_step (bw HB.out) hb); replace HO_8 := n0_; replace HO_10 := n1_; replace HO_11 := n2_; replace HO_12 := n3_; have HO1026 := n4_; replace HB := n5_; clear n0_ n1_ n2_ n3_ n4_ n5_; (try clear hb); (try clear hb2); (try clear hk); (try clear hi); (try clear ho0); obtain ⟨Ao43, co43, eo43⟩ := Kd.R_slice HO1026.out; subst eo43) | ((with_reducible refine gate_callee (f := 20) rfl ?_); refine goesL_ (some 59) rfl rfl Try.func20 (by kernel_rfl) rfl #[.slice Ao21 t1013.length co21, .slice Ao43 t1024.length co43] rfl (by (try simp only [mA_]); first | done | rfl | (simp only [List.length_drop, List.length_take]; rfl)) ?_; (with_reducible refine (laws_eqJobS.calls kj12 _ _ t1013 _ _ t1024 true _ ?side1 ?side2 ?side3 ?side4 A34.out).mono ?_); (case side1 => repeat (first | exact (Kd.R_reads' HO_10.out).2.2 | (with_reducible refine Kd.C_alloc ?_ _) | (with_reducible refine Kd.C_drewN ?_ _) | (with_reducible refine Kd.C_drew ?_))); (case side2 => exact (Kd.R_reads' HO_10.out).2.1); (case side3 => repeat (first | exact (Kd.R_reads' HO1026.out).2.2 | (with_reducible refine Kd.C_alloc ?_ _) | (with_reducible refine Kd.C_drewN ?_ _) | (with_reducible refine Kd.C_drew ?_))); (case side4 => exact (Kd.R_reads' HO1026.out).2.1); rintro e w44 ⟨rfl, hb⟩; refine ⟨_, rfl, ?_⟩; have n0_ := Aside0.mk (Kd.R_below (bR HO_8.out) hb); have n1_ := Aside0.mk (Kd.R_below (bR HO_10.out) hb); have n2_ := Aside0.mk (Kd.R_below (bR HO_11.out) hb); have n3_ := Aside0.mk (Kd.R_below (bR HO_12.out) hb); have n4_ := Aside0.mk (Kd.R_below (bR HO1026.out) hb); have n5_ := Aside0.mk (below_step (bw HB.out) hb); replace HO_8 := n0_; replace HO_10 := n1_; replace HO_11 := n2_; replace HO_12 := n3_; replace HO1026 := n4_; replace HB := n5_; clear n0_ n1_ n2_ n3_ n4_ n5_; (try clear hb); (try clear hb2); (try clear hk); (try clear hi)) | ((with_reducible refine gate_callee (f := 18) rfl ?_); refine goesL_ (some 63) rfl rfl Try.func18 (by kernel_rfl) rfl #[.slice A1 l1.length c1] rfl (by (try simp only [mA_]); first | done | rfl | (simp only [List.length_drop, List.length_take]; rfl)) ?_; (with_reducible refine (laws_toIntS.calls kj12 _ _ l1 t1028 _ ?side1 ?side2 A36.out).mono ?_); (case side1 => first | exact bC HR1.out HB.out | exact Kd.C_below HR1.out HB.out); (case side2 => exact HC1.out); rintro e w45 ⟨v1029, rfl, ho0, hb⟩; refine ⟨_, rfl, ?_⟩; have n0_ := Aside0.mk (Kd.R_below (bR HO_8.out) hb); have n1_ := Aside0.mk (Kd.R_below (bR HO_10.out) hb); have n2_ := Aside0.mk (Kd.R_elder' (bR HO_11.out) (Kd.R_base ho0) hb); have n3_ := Aside0.mk (Kd.R_below (bR HO_12.out) hb); have n4_ := Aside0.mk (Kd.R_below (bR HO1026.out) hb); have n5_ := Aside0.mk (Kd.R_lower (Kd.R_new' ho0 (Kd.R_lt (bR HO_11.out))) (below_size (bw HB.out))); have n6_ := Aside0.mk (below_step (bw HB.out) hb); replace HO_8 := n0_; replace HO_10 := n1_; replace HO_11 := n2_; replace HO_12 := n3_; replace HO1026 := n4_; have HO1030 := n5_; replace HB := n6_; clear n0_ n1_ n2_ n3_ n4_ n5_ n6_; (try clear hb); (try clear hb2); (try clear hk); (try clear hi); (try clear ho0); obtain ⟨Ao46, co46, eo46⟩ := Kd.R_slice HO1030.out; subst eo46) | ((with_reducible refine gate_callee (f := 21) rfl ?_); refine goesL_ (some 64) rfl rfl Try.func21 (by kernel_rfl) rfl #[.slice Ao22 t1016.length co22, .slice Ao46 t1028.length co46] rfl (by (try simp only [mA_]); first | done | rfl | (simp only [List.length_drop, List.length_take]; rfl)) ?_; (with_reducible refine (laws_eqIntS.calls kj12 _ _ t1016 _ _ t1028 true _ ?side1 ?side2 ?side3 ?side4 A37.out).mono ?_); (case side1 => repeat (first | exact (Kd.R_reads' HO_11.out).2.2 | (with_reducible refine Kd.C_alloc ?_ _) | (with_reducible refine Kd.C_drewN ?_ _) | (with_reducible refine Kd.C_drew ?_))); (case side2 => exact (Kd.R_reads' HO_11.out).2.1); (case side3 => repeat (first | exact (Kd.R_reads' HO1030.out).2.2 | (with_reducible refine Kd.C_alloc ?_ _) | (with_reducible refine Kd.C_drewN ?_ _) | (with_reducible refine Kd.C_drew ?_))); (case side4 => exact (Kd.R_reads' HO1030.out).2.1); rintro e w' ⟨rfl, ⟨nd, rfl⟩⟩; refine ⟨_, rfl, ?_⟩) | ((with_reducible refine gate_callee (f := 27) rfl ?_); refine goesL_ (some 68) rfl rfl Try.func27 (by kernel_rfl) rfl #[.slice Ao21 t1013.length co21, .int .i64 1] rfl (by (try simp only [mA_]); first | done | rfl | (simp only [List.length_drop, List.length_take]; rfl)) ?_; (with_reducible refine (laws_markJobS.calls kj12 (fun k_ => some k_ = (.slice Ao21 t1013.length co21 : Value).ownBlock) (.slice Ao21 t1013.length co21) t1013 1 t1032 t1033 w _ ?side1 ?side2 A39.out).mono ?_); (case side1 => repeat (first | (with_reducible first | exact HB.out | apply below_alloc | apply pw_below_drewN | apply below_drew1) | exact HB.out)); (case side2 => exact Kd.R_tight rfl HO_10.out); rintro e w47 ⟨rfl, hy0, hb, hkp⟩; refine ⟨_, rfl, ?_⟩; have n0_ := Aside0.mk (Kd.R_mono (ok' := fun k_ => some k_ ≠ (v1021 : Value).ownBlock) (Kd.R_keptB ((Kd.R_apart' HO_8.out (Kd.R_typed HO_10.out) (by decide))) hkp (fun k_ hk_ hs_ => (hk_.2) hs_)) (fun k_ hk_ => hk_.1.1)); have n1_ := Aside0.mk (Kd.R_reok rfl hy0 (fun k_ e_ => HO_10.out.1 k_ e_)); have n2_ := Aside0.mk (Kd.R_mono (ok' := fun k_ => some k_ ≠ (.slice Ao46 t1028.length co46 : Value).ownBlock) (Kd.R_keptB ((Kd.R_apart' HO_11.out (Kd.R_typed HO_10.out) (by decide))) hkp (fun k_ hk_ hs_ => (hk_.2) hs_)) (fun k_ hk_ => hk_.1.1.2)); have n3_ := Aside0.mk (Kd.R_mono (ok' := fun k_ => some k_ ≠ (v1011 : Value).ownBlock) (Kd.R_keptB ((Kd.R_apart' HO_12.out (Kd.R_typed HO_10.out) (by decide))) hkp (fun k_ hk_ hs_ => (hk_.2) hs_)) (fun k_ hk_ => hk_.1.1)); have n4_ := Aside0.mk (Kd.R_mono (ok' := fun k_ => some k_ ≠ (.slice Ao21 t1013.length co21 : Value).ownBlock) (Kd.R_keptB (HO1026.out) hkp (fun k_ hk_ hs_ => (hk_.2) hs_)) (fun k_ hk_ => hk_.1.2)); have n5_ := Aside0.mk (Kd.R_mono (ok' := fun k_ => some k_ ≠ (.slice Ao22 t1016.length co22 : Value).ownBlock) (Kd.R_keptB ((Kd.R_apart' HO1030.out (Kd.R_typed HO_10.out) (by decide))) hkp (fun k_ hk_ hs_ => (hk_.2) hs_)) (fun k_ hk_ => hk_.1.1.2)); have n6_ := Aside0.mk (hb); replace HO_8 := n0_; replace HO_10 := n1_; replace HO_11 := n2_; replace HO_12 := n3_; replace HO1026 := n4_; replace HO1030 := n5_; replace HB := n6_; clear n0_ n1_ n2_ n3_ n4_ n5_ n6_; (try clear hb); (try clear hkp); (try clear hy0)) | ((with_reducible refine gate_callee (f := 28) rfl ?_); refine goesL_ (some 71) rfl rfl Try.func28 (by kernel_rfl) rfl #[.slice Ao22 t1016.length co22, .int .i64 t1032] rfl (by (try simp only [mA_]); first | done | rfl | (simp only [List.length_drop, List.length_take]; rfl)) ?_; (with_reducible refine (laws_markIntS.calls kj12 (fun k_ => some k_ = (.slice Ao22 t1016.length co22 : Value).ownBlock) (.slice Ao22 t1016.length co22) t1016 t1032 t1034 t1035 w _ ?side1 ?side2 A40.out).mono ?_); (case side1 => repeat (first | (with_reducible first | exact HB.out | apply below_alloc | apply pw_below_drewN | apply below_drew1) | exact HB.out)); (case side2 => exact Kd.R_tight rfl HO_11.out); rintro e w48 ⟨rfl, hy0, hb, hkp⟩; refine ⟨_, rfl, ?_⟩; have n0_ := Aside0.mk (Kd.R_mono (ok' := fun k_ => some k_ ≠ (v1021 : Value).ownBlock) (Kd.R_keptB ((Kd.R_apart' HO_8.out (Kd.R_typed HO_11.out) (by decide))) hkp (fun k_ hk_ hs_ => (hk_.2) hs_)) (fun k_ hk_ => hk_.1.1)); have n1_ := Aside0.mk (Kd.R_mono (ok' := fun k_ => some k_ ≠ (.slice Ao43 t1024.length co43 : Value).ownBlock) (Kd.R_keptB ((Kd.R_apart' HO_10.out (Kd.R_typed HO_11.out) (by decide))) hkp (fun k_ hk_ hs_ => (hk_.2) hs_)) (fun k_ hk_ => hk_.1.1.2)); have n2_ := Aside0.mk (Kd.R_reok rfl hy0 (fun k_ e_ => HO_11.out.1 k_ e_)); have n3_ := Aside0.mk (Kd.R_mono (ok' := fun k_ => some k_ ≠ (v1011 : Value).ownBlock) (Kd.R_keptB ((Kd.R_apart' HO_12.out (Kd.R_typed HO_11.out) (by decide))) hkp (fun k_ hk_ hs_ => (hk_.2) hs_)) (fun k_ hk_ => hk_.1.1)); have n4_ := Aside0.mk (Kd.R_mono (ok' := fun k_ => some k_ ≠ (.slice Ao21 t1013.length co21 : Value).ownBlock) (Kd.R_keptB ((Kd.R_apart' HO1026.out (Kd.R_typed HO_11.out) (by decide))) hkp (fun k_ hk_ hs_ => (hk_.2) hs_)) (fun k_ hk_ => hk_.1.1)); have n5_ := Aside0.mk (Kd.R_mono (ok' := fun k_ => some k_ ≠ (.slice Ao22 t1016.length co22 : Value).ownBlock) (Kd.R_keptB (HO1030.out) hkp (fun k_ hk_ hs_ => (hk_) hs_)) (fun k_ hk_ => hk_.1)); have n6_ := Aside0.mk (hb); replace HO_8 := n0_; replace HO_10 := n1_; replace HO_11 := n2_; replace HO_12 := n3_; replace HO1026 := n4_; replace HO1030 := n5_; replace HB := n6_; clear n0_ n1_ n2_ n3_ n4_ n5_ n6_; (try clear hb); (try clear hkp); (try clear hy0)))
   (try simp only [Act.put, List.setIfInBounds_toArray, List.set_cons_zero, List.set_cons_succ])
   go_cut [84] (fun v84 wc => ∃ (kq : Nat) (x84_40 : Bool), v84 = .bool x84_40 ∧ Aside0 (laws_FnExactInversionsOf.j1 kq l0 l1 a2 t1009 t1010 t1019 x84_40 = some r) ∧ Aside0 (kq ≤ kj12) ∧ Aside0 (Kd.R k71 71 wc w.heap.size (fun k_ => some k_ ≠ (v1021 : Value).ownBlock) v1011 t1009) ∧ Aside0 (Kd.R k71 71 wc w.heap.size (fun k_ => some k_ ≠ (v1011 : Value).ownBlock) v1021 t1019) ∧ Aside0 (Below w.heap.size w wc))
   case first =>
    have H := HC41.out
    clear HC41
    by_cases c49 : t1034 < 0
    ·rw [if_pos c49] at H
     have c49b0 : decide (t1034 < 0) = true := decide_eq_true c49
     clear c49
     (first | rw [c49b0] | (simp only [i64_w, i32_w]; rw [c49b0]) | skip)
     have H' := Aside0.mk H
     clear H
     go_wp2
     go_meet
     case rel => exact ⟨_, (true), (by first | rfl | (simp; done) | (simp [*]; done)), H', ⟨by have := HJ12.out; first | omega | exact Nat.le_refl _⟩, ⟨bR HO_8.out⟩, ⟨bR HO_12.out⟩, ⟨bw HB.out⟩⟩
    rw [if_neg c49] at H
    have c49b0 : decide (t1034 < 0) = false := decide_eq_false c49
    clear c49
    (first | rw [c49b0] | (simp only [i64_w, i32_w]; rw [c49b0]) | skip)
    replace H := Option.bind_eq_some_iff.mp H
    obtain ⟨t1036, A500, H⟩ := H
    replace H : (if t1036 = true then (laws_FnExactInversionsOf.j1 kj12 l0 l1 a2 t1009 t1010 t1019 (t1020 != t1010)) else (laws_FnExactInversionsOf.j1 kj12 l0 l1 a2 t1009 t1010 t1019 true)) = some r := H
    have A50 := Aside0.mk A500
    clear A500
    by_cases c51 : t1036 = true
    ·subst c51
     have H1 : (laws_FnExactInversionsOf.j1 kj12 l0 l1 a2 t1009 t1010 t1019 (t1020 != t1010)) = some r := by rw [if_pos rfl] at H; exact H
     clear H
     have H := H1
     clear H1
     have H' := Aside0.mk H
     clear H
     obtain ⟨Ao52, co52, eo52⟩ := Kd.R_slice HO_12.out
     subst eo52
     obtain ⟨Ao53, co53, eo53⟩ := Kd.R_slice HO_8.out
     subst eo53
     go_wp2_with (first | (go_at_call 35; (with_reducible refine (laws_eqIntA2S.calls kj12 _ _ t1019 _ _ t1009 true _ ?side1 ?side2 ?side3 ?side4 A50.out).mono ?_); (case side1 => repeat (first | exact (Kd.R_reads' HO_12.out).2.2 | (with_reducible refine Kd.C_alloc ?_ _) | (with_reducible refine Kd.C_drewN ?_ _) | (with_reducible refine Kd.C_drew ?_))); (case side2 => exact (Kd.R_reads' HO_12.out).2.1); (case side3 => repeat (first | exact (Kd.R_reads' HO_8.out).2.2 | (with_reducible refine Kd.C_alloc ?_ _) | (with_reducible refine Kd.C_drewN ?_ _) | (with_reducible refine Kd.C_drew ?_))); (case side4 => exact (Kd.R_reads' HO_8.out).2.1); rintro e w54 ⟨rfl, hb⟩; have n0_ := Aside0.mk (Kd.R_below (bR HO_8.out) hb); have n1_ := Aside0.mk (Kd.R_below (bR HO_10.out) hb); have n2_ := Aside0.mk (Kd.R_below (bR HO_11.out) hb); have n3_ := Aside0.mk (Kd.R_below (bR HO_12.out) hb); have n4_ := Aside0.mk (Kd.R_below (bR HO1026.out) hb); have n5_ := Aside0.mk (Kd.R_below (bR HO1030.out) hb); have n6_ := Aside0.mk (below_step (bw HB.out) hb); replace HO_8 := n0_; replace HO_10 := n1_; replace HO_11 := n2_; replace HO_12 := n3_; replace HO1026 := n4_; replace HO1030 := n5_; replace HB := n6_; clear n0_ n1_ n2_ n3_ n4_ n5_ n6_; (try clear hb); (try clear hb2); (try clear hk); (try clear hi)))
     go_meet
     case rel => exact ⟨_, ((t1020 != t1010)), (by first | rfl | (simp; done) | (simp [*]; done)), H', ⟨by have := HJ12.out; first | omega | exact Nat.le_refl _⟩, ⟨bR HO_8.out⟩, ⟨bR HO_12.out⟩, ⟨bw HB.out⟩⟩
    replace c51 := Bool.eq_false_iff.mpr c51
    subst c51
    have H1 : (laws_FnExactInversionsOf.j1 kj12 l0 l1 a2 t1009 t1010 t1019 true) = some r := by rw [if_neg (show ¬ (false = true) by decide)] at H; exact H
    clear H
    have H := H1
    clear H1
    have H' := Aside0.mk H
    clear H
    obtain ⟨Ao55, co55, eo55⟩ := Kd.R_slice HO_12.out
    subst eo55
    obtain ⟨Ao56, co56, eo56⟩ := Kd.R_slice HO_8.out
    subst eo56
    go_wp2_with (first | (go_at_call 35; (with_reducible refine (laws_eqIntA2S.calls kj12 _ _ t1019 _ _ t1009 false _ ?side1 ?side2 ?side3 ?side4 A50.out).mono ?_); (case side1 => repeat (first | exact (Kd.R_reads' HO_12.out).2.2 | (with_reducible refine Kd.C_alloc ?_ _) | (with_reducible refine Kd.C_drewN ?_ _) | (with_reducible refine Kd.C_drew ?_))); (case side2 => exact (Kd.R_reads' HO_12.out).2.1); (case side3 => repeat (first | exact (Kd.R_reads' HO_8.out).2.2 | (with_reducible refine Kd.C_alloc ?_ _) | (with_reducible refine Kd.C_drewN ?_ _) | (with_reducible refine Kd.C_drew ?_))); (case side4 => exact (Kd.R_reads' HO_8.out).2.1); rintro e w57 ⟨rfl, hb⟩; have n0_ := Aside0.mk (Kd.R_below (bR HO_8.out) hb); have n1_ := Aside0.mk (Kd.R_below (bR HO_10.out) hb); have n2_ := Aside0.mk (Kd.R_below (bR HO_11.out) hb); have n3_ := Aside0.mk (Kd.R_below (bR HO_12.out) hb); have n4_ := Aside0.mk (Kd.R_below (bR HO1026.out) hb); have n5_ := Aside0.mk (Kd.R_below (bR HO1030.out) hb); have n6_ := Aside0.mk (below_step (bw HB.out) hb); replace HO_8 := n0_; replace HO_10 := n1_; replace HO_11 := n2_; replace HO_12 := n3_; replace HO1026 := n4_; replace HO1030 := n5_; replace HB := n6_; clear n0_ n1_ n2_ n3_ n4_ n5_ n6_; (try clear hb); (try clear hb2); (try clear hk); (try clear hi)))
    go_meet
    case rel => exact ⟨_, (true), (by first | rfl | (simp; done) | (simp [*]; done)), H', ⟨by have := HJ12.out; first | omega | exact Nat.le_refl _⟩, ⟨bR HO_8.out⟩, ⟨bR HO_12.out⟩, ⟨bw HB.out⟩⟩
   case rest =>
    clear HC41
    try clear c1
    try clear c2
    try clear p2
    try clear c3
    try clear c4
    try clear c4b0
    try clear c4b1
    try clear c5
    try clear c6
    try clear c6b0
    try clear c11
    try clear c15
    try clear c17
    try clear c18
    try clear c20
    try clear c21
    try clear c25
    try clear c27
    try clear c28
    try clear c32
    try clear c35
    try clear c38
    try clear c49
    try clear c49b0
    try clear c51
    try clear c55
    try clear c56
    try clear p2
    obtain ⟨kq, x84_40, rfl, HA, HJ40, HO_8, HO_12, HB⟩ := hcut
    cases kq with
    | zero => exact absurd HA.out (by simp [laws_FnExactInversionsOf.j1])
    | succ kj40 =>
     have H := HA.out
     clear HA
     simp only [laws_FnExactInversionsOf.j1] at H
     by_cases c58 : x84_40 = true
     ·subst c58
      have H1 : (some false) = some r := by rw [if_pos rfl] at H; exact H
      clear H
      have H := H1
      clear H1
      obtain rfl := Option.some.inj H
      go_wp2
      go_ret
      exact ⟨by first | rfl | (simp [errW_none, errW_some] <;> rfl) | (simp [*, errW_none, errW_some] <;> rfl), bw HB.out⟩
     replace c58 := Bool.eq_false_iff.mpr c58
     subst c58
     have H1 : ((laws_markIntA2S.f kj40 t1019 1).bind fun bt1037 => ((laws_heldIntA2S.f kj40 bt1037.2 1).bind fun t1039 => (if t1039 < 0 then (some false) else (if t1039 = bt1037.1 then ((laws_toJobS.f kj40 l0).bind fun t1040 => ((laws_toIntS.f kj40 l1).bind fun t1043 => ((impl_InversionsOf.f kj40 t1040 t1043 a2).bind fun bt1046 => ((laws_eqIntA2S.f kj40 bt1046.1 t1009).bind fun t1050 => (if t1050 = true then (laws_FnExactInversionsOf.j2 kj40 bt1037.2 bt1037.1 (bt1046.2 != t1010)) else (laws_FnExactInversionsOf.j2 kj40 bt1037.2 bt1037.1 true)))))) else (some false))))) = some r := by rw [if_neg (show ¬ (false = true) by decide)] at H; exact H
     clear H
     have H := H1
     clear H1
     replace H := Option.bind_eq_some_iff.mp H
     obtain ⟨⟨t1037, t1038⟩, A590, H⟩ := H
     replace H : ((laws_heldIntA2S.f kj40 t1038 1).bind fun t1039 => (if t1039 < 0 then (some false) else (if t1039 = t1037 then ((laws_toJobS.f kj40 l0).bind fun t1040 => ((laws_toIntS.f kj40 l1).bind fun t1043 => ((impl_InversionsOf.f kj40 t1040 t1043 a2).bind fun bt1046 => ((laws_eqIntA2S.f kj40 bt1046.1 t1009).bind fun t1050 => (if t1050 = true then (laws_FnExactInversionsOf.j2 kj40 t1038 t1037 (bt1046.2 != t1010)) else (laws_FnExactInversionsOf.j2 kj40 t1038 t1037 true)))))) else (some false)))) = some r := H
     have A59 := Aside0.mk A590
     clear A590
     replace H := Option.bind_eq_some_iff.mp H
     obtain ⟨t1039, A600, H⟩ := H
     replace H : (if t1039 < 0 then (some false) else (if t1039 = t1037 then ((laws_toJobS.f kj40 l0).bind fun t1040 => ((laws_toIntS.f kj40 l1).bind fun t1043 => ((impl_InversionsOf.f kj40 t1040 t1043 a2).bind fun bt1046 => ((laws_eqIntA2S.f kj40 bt1046.1 t1009).bind fun t1050 => (if t1050 = true then (laws_FnExactInversionsOf.j2 kj40 t1038 t1037 (bt1046.2 != t1010)) else (laws_FnExactInversionsOf.j2 kj40 t1038 t1037 true)))))) else (some false))) = some r := H
     have A60 := Aside0.mk A600
     clear A600
     by_cases c61 : t1039 < 0
     ·rw [if_pos c61] at H
      have c61b0 : decide (t1039 < 0) = true := decide_eq_true c61
      clear c61
      obtain rfl := Option.some.inj H
      obtain ⟨Ao62, co62, eo62⟩ := Kd.R_slice HO_12.out
      subst eo62
      go_wp2_with (first | ((with_reducible refine gate_callee (f := 38) rfl ?_); refine goesL_ (some 87) rfl rfl Try.func38 (by kernel_rfl) rfl #[.slice Ao62 t1019.length co62, .int .i64 1] rfl (by (try simp only [mA_]); first | done | rfl | (simp only [List.length_drop, List.length_take]; rfl)) ?_; (with_reducible refine (laws_markIntA2S.calls kj40 (fun k_ => some k_ = (.slice Ao62 t1019.length co62 : Value).ownBlock) (.slice Ao62 t1019.length co62) t1019 1 t1037 t1038 w _ ?side1 ?side2 A59.out).mono ?_); (case side1 => repeat (first | (with_reducible first | exact HB.out | apply below_alloc | apply pw_below_drewN | apply below_drew1) | exact HB.out)); (case side2 => exact Kd.R_tight rfl HO_12.out); rintro e w63 ⟨rfl, hy0, hb, hkp⟩; refine ⟨_, rfl, ?_⟩; have n0_ := Aside0.mk (Kd.R_mono (ok' := fun k_ => some k_ ≠ (.slice Ao62 t1019.length co62 : Value).ownBlock) (Kd.R_keptB (HO_8.out) hkp (fun k_ hk_ hs_ => (hk_) hs_)) (fun k_ hk_ => hk_.1)); have n1_ := Aside0.mk (Kd.R_reok rfl hy0 (fun k_ e_ => HO_12.out.1 k_ e_)); have n2_ := Aside0.mk (hb); replace HO_8 := n0_; replace HO_12 := n1_; replace HB := n2_; clear n0_ n1_ n2_; (try clear hb); (try clear hkp); (try clear hy0)) | ((with_reducible refine gate_callee (f := 39) rfl ?_); refine goesL_ (some 90) rfl rfl Try.func39 (by kernel_rfl) rfl #[.slice Ao62 t1038.length co62, .int .i64 1] rfl (by (try simp only [mA_]); first | done | (rw [show t1038.length = t1019.length from (Kd.R_reads' HO_12.out).1.symm] <;> rfl) | rfl | (simp only [List.length_drop, List.length_take]; rfl)) ?_; (with_reducible refine (laws_heldIntA2S.calls kj40 _ _ t1038 1 t1039 _ ?side1 ?side2 A60.out).mono ?_); (case side1 => repeat (first | exact (Kd.R_reads' HO_12.out).2.2 | (with_reducible refine Kd.C_alloc ?_ _) | (with_reducible refine Kd.C_drewN ?_ _) | (with_reducible refine Kd.C_drew ?_))); (case side2 => rw [show t1038.length = t1019.length from (Kd.R_reads' HO_12.out).1.symm]; exact (Kd.R_reads' HO_12.out).2.1); rintro e w64 ⟨rfl, hb⟩; refine ⟨_, rfl, ?_⟩; have n0_ := Aside0.mk (Kd.R_below (bR HO_8.out) hb); have n1_ := Aside0.mk (Kd.R_below (bR HO_12.out) hb); have n2_ := Aside0.mk (below_step (bw HB.out) hb); replace HO_8 := n0_; replace HO_12 := n1_; replace HB := n2_; clear n0_ n1_ n2_; (try clear hb); (try clear hb2); (try clear hk); (try clear hi)))
      go_ret
      exact ⟨by first | rfl | (simp [errW_none, errW_some] <;> rfl) | (simp [*, errW_none, errW_some] <;> rfl), bw HB.out⟩
     rw [if_neg c61] at H
     have c61b0 : decide (t1039 < 0) = false := decide_eq_false c61
     clear c61
     by_cases c65 : t1039 = t1037
     rotate_left
     ·rw [if_neg c65] at H
      have c65b0 : (t1039 == t1037) = false := beq_eq_false_iff_ne.mpr c65
      have c65b1 : (t1039 != t1037) = true := bne_iff_ne.mpr c65
      obtain rfl := Option.some.inj H
      obtain ⟨Ao93, co93, eo93⟩ := Kd.R_slice HO_12.out
      subst eo93
      go_wp2_with (first | ((with_reducible refine gate_callee (f := 38) rfl ?_); refine goesL_ (some 87) rfl rfl Try.func38 (by kernel_rfl) rfl #[.slice Ao93 t1019.length co93, .int .i64 1] rfl (by (try simp only [mA_]); first | done | rfl | (simp only [List.length_drop, List.length_take]; rfl)) ?_; (with_reducible refine (laws_markIntA2S.calls kj40 (fun k_ => some k_ = (.slice Ao93 t1019.length co93 : Value).ownBlock) (.slice Ao93 t1019.length co93) t1019 1 t1037 t1038 w _ ?side1 ?side2 A59.out).mono ?_); (case side1 => repeat (first | (with_reducible first | exact HB.out | apply below_alloc | apply pw_below_drewN | apply below_drew1) | exact HB.out)); (case side2 => exact Kd.R_tight rfl HO_12.out); rintro e w94 ⟨rfl, hy0, hb, hkp⟩; refine ⟨_, rfl, ?_⟩; have n0_ := Aside0.mk (Kd.R_mono (ok' := fun k_ => some k_ ≠ (.slice Ao93 t1019.length co93 : Value).ownBlock) (Kd.R_keptB (HO_8.out) hkp (fun k_ hk_ hs_ => (hk_) hs_)) (fun k_ hk_ => hk_.1)); have n1_ := Aside0.mk (Kd.R_reok rfl hy0 (fun k_ e_ => HO_12.out.1 k_ e_)); have n2_ := Aside0.mk (hb); replace HO_8 := n0_; replace HO_12 := n1_; replace HB := n2_; clear n0_ n1_ n2_; (try clear hb); (try clear hkp); (try clear hy0)) | ((with_reducible refine gate_callee (f := 39) rfl ?_); refine goesL_ (some 90) rfl rfl Try.func39 (by kernel_rfl) rfl #[.slice Ao93 t1038.length co93, .int .i64 1] rfl (by (try simp only [mA_]); first | done | (rw [show t1038.length = t1019.length from (Kd.R_reads' HO_12.out).1.symm] <;> rfl) | rfl | (simp only [List.length_drop, List.length_take]; rfl)) ?_; (with_reducible refine (laws_heldIntA2S.calls kj40 _ _ t1038 1 t1039 _ ?side1 ?side2 A60.out).mono ?_); (case side1 => repeat (first | exact (Kd.R_reads' HO_12.out).2.2 | (with_reducible refine Kd.C_alloc ?_ _) | (with_reducible refine Kd.C_drewN ?_ _) | (with_reducible refine Kd.C_drew ?_))); (case side2 => rw [show t1038.length = t1019.length from (Kd.R_reads' HO_12.out).1.symm]; exact (Kd.R_reads' HO_12.out).2.1); rintro e w95 ⟨rfl, hb⟩; refine ⟨_, rfl, ?_⟩; have n0_ := Aside0.mk (Kd.R_below (bR HO_8.out) hb); have n1_ := Aside0.mk (Kd.R_below (bR HO_12.out) hb); have n2_ := Aside0.mk (below_step (bw HB.out) hb); replace HO_8 := n0_; replace HO_12 := n1_; replace HB := n2_; clear n0_ n1_ n2_; (try clear hb); (try clear hb2); (try clear hk); (try clear hi)))
      go_ret
      exact ⟨by first | rfl | (simp [errW_none, errW_some] <;> rfl) | (simp [*, errW_none, errW_some] <;> rfl), bw HB.out⟩
     rw [if_pos c65] at H
     have c65b0 : (t1039 == t1037) = true := beq_iff_eq.mpr c65
     have c65b1 : (t1039 != t1037) = false := bne_eq_false_iff_eq.mpr c65
     clear c65
     replace H := Option.bind_eq_some_iff.mp H
     obtain ⟨t1040, A660, H⟩ := H
     replace H : ((laws_toIntS.f kj40 l1).bind fun t1043 => ((impl_InversionsOf.f kj40 t1040 t1043 a2).bind fun bt1046 => ((laws_eqIntA2S.f kj40 bt1046.1 t1009).bind fun t1050 => (if t1050 = true then (laws_FnExactInversionsOf.j2 kj40 t1038 t1037 (bt1046.2 != t1010)) else (laws_FnExactInversionsOf.j2 kj40 t1038 t1037 true))))) = some r := H
     have A66 := Aside0.mk A660
     clear A660
     replace H := Option.bind_eq_some_iff.mp H
     obtain ⟨t1043, A670, H⟩ := H
     replace H : ((impl_InversionsOf.f kj40 t1040 t1043 a2).bind fun bt1046 => ((laws_eqIntA2S.f kj40 bt1046.1 t1009).bind fun t1050 => (if t1050 = true then (laws_FnExactInversionsOf.j2 kj40 t1038 t1037 (bt1046.2 != t1010)) else (laws_FnExactInversionsOf.j2 kj40 t1038 t1037 true)))) = some r := H
     have A67 := Aside0.mk A670
     clear A670
     replace H := Option.bind_eq_some_iff.mp H
     obtain ⟨⟨t1046, t1047⟩, A680, H⟩ := H
     replace H : ((laws_eqIntA2S.f kj40 t1046 t1009).bind fun t1050 => (if t1050 = true then (laws_FnExactInversionsOf.j2 kj40 t1038 t1037 (t1047 != t1010)) else (laws_FnExactInversionsOf.j2 kj40 t1038 t1037 true))) = some r := H
     have A68 := Aside0.mk A680
     clear A680
     have HC69 := Aside0.mk H
     clear H
     obtain ⟨Ao70, co70, eo70⟩ := Kd.R_slice HO_12.out
     subst eo70
     go_upto_region 31 with (first | ((with_reducible refine gate_callee (f := 38) rfl ?_); refine goesL_ (some 87) rfl rfl Try.func38 (by kernel_rfl) rfl #[.slice Ao70 t1019.length co70, .int .i64 1] rfl (by (try simp only [mA_]); first | done | rfl | (simp only [List.length_drop, List.length_take]; rfl)) ?_; (with_reducible refine (laws_markIntA2S.calls kj40 (fun k_ => some k_ = (.slice Ao70 t1019.length co70 : Value).ownBlock) (.slice Ao70 t1019.length co70) t1019 1 t1037 t1038 w _ ?side1 ?side2 A59.out).mono ?_); (case side1 => repeat (first | (with_reducible first | exact HB.out | apply below_alloc | apply pw_below_drewN | apply below_drew1) | exact HB.out)); (case side2 => exact Kd.R_tight rfl HO_12.out); rintro e w71 ⟨rfl, hy0, hb, hkp⟩; refine ⟨_, rfl, ?_⟩; have n0_ := Aside0.mk (Kd.R_mono (ok' := fun k_ => some k_ ≠ (.slice Ao70 t1019.length co70 : Value).ownBlock) (Kd.R_keptB (HO_8.out) hkp (fun k_ hk_ hs_ => (hk_) hs_)) (fun k_ hk_ => hk_.1)); have n1_ := Aside0.mk (Kd.R_reok rfl hy0 (fun k_ e_ => HO_12.out.1 k_ e_)); have n2_ := Aside0.mk (hb); replace HO_8 := n0_; replace HO_12 := n1_; replace HB := n2_; clear n0_ n1_ n2_; (try clear hb); (try clear hkp); (try clear hy0)) | ((with_reducible refine gate_callee (f := 39) rfl ?_); refine goesL_ (some 90) rfl rfl Try.func39 (by kernel_rfl) rfl #[.slice Ao70 t1038.length co70, .int .i64 1] rfl (by (try simp only [mA_]); first | done | (rw [show t1038.length = t1019.length from (Kd.R_reads' HO_12.out).1.symm] <;> rfl) | rfl | (simp only [List.length_drop, List.length_take]; rfl)) ?_; (with_reducible refine (laws_heldIntA2S.calls kj40 _ _ t1038 1 t1039 _ ?side1 ?side2 A60.out).mono ?_); (case side1 => repeat (first | exact (Kd.R_reads' HO_12.out).2.2 | (with_reducible refine Kd.C_alloc ?_ _) | (with_reducible refine Kd.C_drewN ?_ _) | (with_reducible refine Kd.C_drew ?_))); (case side2 => rw [show t1038.length = t1019.length from (Kd.R_reads' HO_12.out).1.symm]; exact (Kd.R_reads' HO_12.out).2.1); rintro e w72 ⟨rfl, hb⟩; refine ⟨_, rfl, ?_⟩; have n0_ := Aside0.mk (Kd.R_below (bR HO_8.out) hb); have n1_ := Aside0.mk (Kd.R_below (bR HO_12.out) hb); have n2_ := Aside0.mk (below_step (bw HB.out) hb); replace HO_8 := n0_; replace HO_12 := n1_; replace HB := n2_; clear n0_ n1_ n2_; (try clear hb); (try clear hb2); (try clear hk); (try clear hi)) | ((with_reducible refine gate_callee (f := 17) rfl ?_); refine goesL_ (some 98) rfl rfl Try.func17 (by kernel_rfl) rfl #[.slice A0 l0.length c0] rfl (by (try simp only [mA_]); first | done | rfl | (simp only [List.length_drop, List.length_take]; rfl)) ?_; (with_reducible refine (laws_toJobS.calls kj40 _ _ l0 t1040 _ ?side1 ?side2 A66.out).mono ?_); (case side1 => first | exact bC HR0.out HB.out | exact Kd.C_below HR0.out HB.out); (case side2 => exact HC0.out); rintro e w73 ⟨v1041, rfl, ho0, hb⟩; refine ⟨_, rfl, ?_⟩; have n0_ := Aside0.mk (Kd.R_below (bR HO_8.out) hb); have n1_ := Aside0.mk (Kd.R_below (bR HO_12.out) hb); have n2_ := Aside0.mk (Kd.R_lower ho0 (below_size (bw HB.out))); have n3_ := Aside0.mk (below_step (bw HB.out) hb); replace HO_8 := n0_; replace HO_12 := n1_; have HO1042 := n2_; replace HB := n3_; clear n0_ n1_ n2_ n3_; (try clear hb); (try clear hb2); (try clear hk); (try clear hi); (try clear ho0)) | ((with_reducible refine gate_callee (f := 18) rfl ?_); refine goesL_ (some 100) rfl rfl Try.func18 (by kernel_rfl) rfl #[.slice A1 l1.length c1] rfl (by (try simp only [mA_]); first | done | rfl | (simp only [List.length_drop, List.length_take]; rfl)) ?_; (with_reducible refine (laws_toIntS.calls kj40 _ _ l1 t1043 _ ?side1 ?side2 A67.out).mono ?_); (case side1 => first | exact bC HR1.out HB.out | exact Kd.C_below HR1.out HB.out); (case side2 => exact HC1.out); rintro e w74 ⟨v1044, rfl, ho0, hb⟩; refine ⟨_, rfl, ?_⟩; have n0_ := Aside0.mk (Kd.R_below (bR HO_8.out) hb); have n1_ := Aside0.mk (Kd.R_below (bR HO_12.out) hb); have n2_ := Aside0.mk (Kd.R_below (bR HO1042.out) hb); have n3_ := Aside0.mk (Kd.R_lower ho0 (below_size (bw HB.out))); have n4_ := Aside0.mk (below_step (bw HB.out) hb); replace HO_8 := n0_; replace HO_12 := n1_; replace HO1042 := n2_; have HO1045 := n3_; replace HB := n4_; clear n0_ n1_ n2_ n3_ n4_; (try clear hb); (try clear hb2); (try clear hk); (try clear hi); (try clear ho0); obtain ⟨Ao75, co75, eo75⟩ := Kd.R_slice HO1042.out; subst eo75; obtain ⟨Ao76, co76, eo76⟩ := Kd.R_slice HO1045.out; subst eo76) | ((with_reducible refine gate_callee (f := 56) rfl ?_); refine goesL_ (some 102) rfl rfl Try.func56 (by kernel_rfl) rfl #[.slice Ao75 t1040.length co75, .slice Ao76 t1043.length co76, .int .i64 a2] rfl (by (try simp only [mA_]); first | done | rfl | (simp only [List.length_drop, List.length_take]; rfl)) ?_; (with_reducible refine (impl_InversionsOf.calls kj40 _ _ t1040 _ _ t1043 a2 t1046 t1047 _ ?side1 ?side2 ?side3 ?side4 A68.out).mono ?_); (case side1 => repeat (first | exact (Kd.R_reads' HO1042.out).2.2 | (with_reducible refine Kd.C_alloc ?_ _) | (with_reducible refine Kd.C_drewN ?_ _) | (with_reducible refine Kd.C_drew ?_))); (case side2 => exact (Kd.R_reads' HO1042.out).2.1); (case side3 => repeat (first | exact (Kd.R_reads' HO1045.out).2.2 | (with_reducible refine Kd.C_alloc ?_ _) | (with_reducible refine Kd.C_drewN ?_ _) | (with_reducible refine Kd.C_drew ?_))); (case side4 => exact (Kd.R_reads' HO1045.out).2.1); rintro e w77 ⟨v1048, rfl, ho0, hb⟩; refine ⟨_, rfl, ?_⟩; have n0_ := Aside0.mk (Kd.R_elder' (bR HO_8.out) (Kd.R_base ho0) hb); have n1_ := Aside0.mk (Kd.R_elder' (bR HO_12.out) (Kd.R_base ho0) hb); have n2_ := Aside0.mk (Kd.R_below (bR HO1042.out) hb); have n3_ := Aside0.mk (Kd.R_below (bR HO1045.out) hb); have n4_ := Aside0.mk (Kd.R_lower (Kd.R_new' (Kd.R_new' ho0 (Kd.R_lt (bR HO_8.out))) (Kd.R_lt (bR HO_12.out))) (below_size (bw HB.out))); have n5_ := Aside0.mk (below_step (bw HB.out) hb); replace HO_8 := n0_; replace HO_12 := n1_; replace HO1042 := n2_; replace HO1045 := n3_; have HO1049 := n4_; replace HB := n5_; clear n0_ n1_ n2_ n3_ n4_ n5_; (try clear hb); (try clear hb2); (try clear hk); (try clear hi); (try clear ho0)))
     (try simp only [Act.put, List.setIfInBounds_toArray, List.set_cons_zero, List.set_cons_succ])
     go_cut [113] (fun v113 wc => ∃ (kq : Nat) (x113_68 : Bool), v113 = .bool x113_68 ∧ Aside0 (laws_FnExactInversionsOf.j2 kq t1038 t1037 x113_68 = some r) ∧ Aside0 (kq ≤ kj40) ∧ Aside0 (Kd.R k71 71 wc w.heap.size (fun _ => True) (.slice Ao70 t1019.length co70) t1038) ∧ Aside0 (Below w.heap.size w wc))
     case first =>
      have H := HC69.out
      clear HC69
      replace H := Option.bind_eq_some_iff.mp H
      obtain ⟨t1050, A780, H⟩ := H
      replace H : (if t1050 = true then (laws_FnExactInversionsOf.j2 kj40 t1038 t1037 (t1047 != t1010)) else (laws_FnExactInversionsOf.j2 kj40 t1038 t1037 true)) = some r := H
      have A78 := Aside0.mk A780
      clear A780
      by_cases c79 : t1050 = true
      ·subst c79
       have H1 : (laws_FnExactInversionsOf.j2 kj40 t1038 t1037 (t1047 != t1010)) = some r := by rw [if_pos rfl] at H; exact H
       clear H
       have H := H1
       clear H1
       have H' := Aside0.mk H
       clear H
       obtain ⟨Ao80, co80, eo80⟩ := Kd.R_slice HO1049.out
       subst eo80
       obtain ⟨Ao81, co81, eo81⟩ := Kd.R_slice HO_8.out
       subst eo81
       go_wp2_with (first | ((with_reducible refine gate_callee (f := 35) rfl ?_); refine goesL_ (some 107) rfl rfl Try.func35 (by kernel_rfl) rfl #[.slice Ao80 t1046.length co80, .slice Ao81 t1009.length co81] rfl (by (try simp only [mA_]); first | done | rfl | (simp only [List.length_drop, List.length_take]; rfl)) ?_; (with_reducible refine (laws_eqIntA2S.calls kj40 _ _ t1046 _ _ t1009 true _ ?side1 ?side2 ?side3 ?side4 A78.out).mono ?_); (case side1 => repeat (first | exact (Kd.R_reads' HO1049.out).2.2 | (with_reducible refine Kd.C_alloc ?_ _) | (with_reducible refine Kd.C_drewN ?_ _) | (with_reducible refine Kd.C_drew ?_))); (case side2 => exact (Kd.R_reads' HO1049.out).2.1); (case side3 => repeat (first | exact (Kd.R_reads' HO_8.out).2.2 | (with_reducible refine Kd.C_alloc ?_ _) | (with_reducible refine Kd.C_drewN ?_ _) | (with_reducible refine Kd.C_drew ?_))); (case side4 => exact (Kd.R_reads' HO_8.out).2.1); rintro e w82 ⟨rfl, hb⟩; refine ⟨_, rfl, ?_⟩; have n0_ := Aside0.mk (Kd.R_below (bR HO_8.out) hb); have n1_ := Aside0.mk (Kd.R_below (bR HO_12.out) hb); have n2_ := Aside0.mk (Kd.R_below (bR HO1042.out) hb); have n3_ := Aside0.mk (Kd.R_below (bR HO1045.out) hb); have n4_ := Aside0.mk (Kd.R_below (bR HO1049.out) hb); have n5_ := Aside0.mk (below_step (bw HB.out) hb); replace HO_8 := n0_; replace HO_12 := n1_; replace HO1042 := n2_; replace HO1045 := n3_; replace HO1049 := n4_; replace HB := n5_; clear n0_ n1_ n2_ n3_ n4_ n5_; (try clear hb); (try clear hb2); (try clear hk); (try clear hi)))
       go_meet
       case rel => exact ⟨_, ((t1047 != t1010)), (by first | rfl | (simp; done) | (simp [*]; done)), H', ⟨by have := HJ12.out; have := HJ40.out; first | omega | exact Nat.le_refl _⟩, ⟨by (with_reducible repeat (first | apply Kd.R_alloc | apply Kd.R_drewN | apply Kd.R_drew)); exact Kd.R_mono HO_12.out (fun _ hk => trivial)⟩, ⟨bw HB.out⟩⟩
      replace c79 := Bool.eq_false_iff.mpr c79
      subst c79
      have H1 : (laws_FnExactInversionsOf.j2 kj40 t1038 t1037 true) = some r := by rw [if_neg (show ¬ (false = true) by decide)] at H; exact H
      clear H
      have H := H1
      clear H1
      have H' := Aside0.mk H
      clear H
      obtain ⟨Ao83, co83, eo83⟩ := Kd.R_slice HO1049.out
      subst eo83
      obtain ⟨Ao84, co84, eo84⟩ := Kd.R_slice HO_8.out
      subst eo84
      go_wp2_with (first | ((with_reducible refine gate_callee (f := 35) rfl ?_); refine goesL_ (some 107) rfl rfl Try.func35 (by kernel_rfl) rfl #[.slice Ao83 t1046.length co83, .slice Ao84 t1009.length co84] rfl (by (try simp only [mA_]); first | done | rfl | (simp only [List.length_drop, List.length_take]; rfl)) ?_; (with_reducible refine (laws_eqIntA2S.calls kj40 _ _ t1046 _ _ t1009 false _ ?side1 ?side2 ?side3 ?side4 A78.out).mono ?_); (case side1 => repeat (first | exact (Kd.R_reads' HO1049.out).2.2 | (with_reducible refine Kd.C_alloc ?_ _) | (with_reducible refine Kd.C_drewN ?_ _) | (with_reducible refine Kd.C_drew ?_))); (case side2 => exact (Kd.R_reads' HO1049.out).2.1); (case side3 => repeat (first | exact (Kd.R_reads' HO_8.out).2.2 | (with_reducible refine Kd.C_alloc ?_ _) | (with_reducible refine Kd.C_drewN ?_ _) | (with_reducible refine Kd.C_drew ?_))); (case side4 => exact (Kd.R_reads' HO_8.out).2.1); rintro e w85 ⟨rfl, hb⟩; refine ⟨_, rfl, ?_⟩; have n0_ := Aside0.mk (Kd.R_below (bR HO_8.out) hb); have n1_ := Aside0.mk (Kd.R_below (bR HO_12.out) hb); have n2_ := Aside0.mk (Kd.R_below (bR HO1042.out) hb); have n3_ := Aside0.mk (Kd.R_below (bR HO1045.out) hb); have n4_ := Aside0.mk (Kd.R_below (bR HO1049.out) hb); have n5_ := Aside0.mk (below_step (bw HB.out) hb); replace HO_8 := n0_; replace HO_12 := n1_; replace HO1042 := n2_; replace HO1045 := n3_; replace HO1049 := n4_; replace HB := n5_; clear n0_ n1_ n2_ n3_ n4_ n5_; (try clear hb); (try clear hb2); (try clear hk); (try clear hi)))
      go_meet
      case rel => exact ⟨_, (true), (by first | rfl | (simp; done) | (simp [*]; done)), H', ⟨by have := HJ12.out; have := HJ40.out; first | omega | exact Nat.le_refl _⟩, ⟨by (with_reducible repeat (first | apply Kd.R_alloc | apply Kd.R_drewN | apply Kd.R_drew)); exact Kd.R_mono HO_12.out (fun _ hk => trivial)⟩, ⟨bw HB.out⟩⟩
     case rest =>
      clear HC69
      try clear c1
      try clear c2
      try clear p2
      try clear c3
      try clear c4
      try clear c4b0
      try clear c4b1
      try clear c5
      try clear c6
      try clear c6b0
      try clear c7
      try clear c11
      try clear c15
      try clear c17
      try clear c18
      try clear c20
      try clear c21
      try clear c25
      try clear c27
      try clear c28
      try clear c32
      try clear c35
      try clear c38
      try clear c39
      try clear c49
      try clear c49b0
      try clear c51
      try clear c55
      try clear c56
      try clear c58
      try clear c61
      try clear c61b0
      try clear c65
      try clear c65b0
      try clear c65b1
      try clear c79
      try clear p2
      obtain ⟨kq, x113_68, rfl, HA, HJ68, HO_12, HB⟩ := hcut
      have hl12_68 := (Kd.R_reads' HO_12.out).1
      rw [hl12_68] at HO_12
      (try simp only [hl12_68])
      cases kq with
      | zero => exact absurd HA.out (by simp [laws_FnExactInversionsOf.j2])
      | succ kj68 =>
       have H := HA.out
       clear HA
       simp only [laws_FnExactInversionsOf.j2] at H
       by_cases c86 : x113_68 = true
       ·subst c86
        have H1 : (some false) = some r := by rw [if_pos rfl] at H; exact H
        clear H
        have H := H1
        clear H1
        obtain rfl := Option.some.inj H
        go_wp2
        go_ret
        exact ⟨by first | rfl | (simp [errW_none, errW_some] <;> rfl) | (simp [*, errW_none, errW_some] <;> rfl), bw HB.out⟩
       replace c86 := Bool.eq_false_iff.mpr c86
       subst c86
       have H1 : ((laws_heldIntA2S.f kj68 t1038 1).bind fun t1051 => (if t1051 < 0 then (some false) else (if t1051 = t1037 then (some true) else (some false)))) = some r := by rw [if_neg (show ¬ (false = true) by decide)] at H; exact H
       clear H
       have H := H1
       clear H1
       replace H := Option.bind_eq_some_iff.mp H
       obtain ⟨t1051, A870, H⟩ := H
       replace H : (if t1051 < 0 then (some false) else (if t1051 = t1037 then (some true) else (some false))) = some r := H
       have A87 := Aside0.mk A870
       clear A870
       by_cases c88 : t1051 < 0
       ·rw [if_pos c88] at H
        have c88b0 : decide (t1051 < 0) = true := decide_eq_true c88
        clear c88
        obtain rfl := Option.some.inj H
        go_wp2_with (first | ((with_reducible refine gate_callee (f := 39) rfl ?_); refine goesL_ (some 116) rfl rfl Try.func39 (by kernel_rfl) rfl #[.slice Ao70 t1038.length co70, .int .i64 1] rfl (by (try simp only [mA_]); first | done | rfl | (simp only [List.length_drop, List.length_take]; rfl)) ?_; (with_reducible refine (laws_heldIntA2S.calls kj68 _ _ t1038 1 t1051 _ ?side1 ?side2 A87.out).mono ?_); (case side1 => repeat (first | exact (Kd.R_reads' HO_12.out).2.2 | (with_reducible refine Kd.C_alloc ?_ _) | (with_reducible refine Kd.C_drewN ?_ _) | (with_reducible refine Kd.C_drew ?_))); (case side2 => exact (Kd.R_reads' HO_12.out).2.1); rintro e w89 ⟨rfl, hb⟩; refine ⟨_, rfl, ?_⟩; have n0_ := Aside0.mk (Kd.R_below (bR HO_12.out) hb); have n1_ := Aside0.mk (below_step (bw HB.out) hb); replace HO_12 := n0_; replace HB := n1_; clear n0_ n1_; (try clear hb); (try clear hb2); (try clear hk); (try clear hi)))
        go_ret
        exact ⟨by first | rfl | (simp [errW_none, errW_some] <;> rfl) | (simp [*, errW_none, errW_some] <;> rfl), bw HB.out⟩
       rw [if_neg c88] at H
       have c88b0 : decide (t1051 < 0) = false := decide_eq_false c88
       clear c88
       by_cases c90 : t1051 = t1037
       rotate_left
       ·rw [if_neg c90] at H
        have c90b0 : (t1051 == t1037) = false := beq_eq_false_iff_ne.mpr c90
        have c90b1 : (t1051 != t1037) = true := bne_iff_ne.mpr c90
        obtain rfl := Option.some.inj H
        go_wp2_with (first | ((with_reducible refine gate_callee (f := 39) rfl ?_); refine goesL_ (some 116) rfl rfl Try.func39 (by kernel_rfl) rfl #[.slice Ao70 t1038.length co70, .int .i64 1] rfl (by (try simp only [mA_]); first | done | rfl | (simp only [List.length_drop, List.length_take]; rfl)) ?_; (with_reducible refine (laws_heldIntA2S.calls kj68 _ _ t1038 1 t1051 _ ?side1 ?side2 A87.out).mono ?_); (case side1 => repeat (first | exact (Kd.R_reads' HO_12.out).2.2 | (with_reducible refine Kd.C_alloc ?_ _) | (with_reducible refine Kd.C_drewN ?_ _) | (with_reducible refine Kd.C_drew ?_))); (case side2 => exact (Kd.R_reads' HO_12.out).2.1); rintro e w92 ⟨rfl, hb⟩; refine ⟨_, rfl, ?_⟩; have n0_ := Aside0.mk (Kd.R_below (bR HO_12.out) hb); have n1_ := Aside0.mk (below_step (bw HB.out) hb); replace HO_12 := n0_; replace HB := n1_; clear n0_ n1_; (try clear hb); (try clear hb2); (try clear hk); (try clear hi)))
        go_ret
        exact ⟨by first | rfl | (simp [errW_none, errW_some] <;> rfl) | (simp [*, errW_none, errW_some] <;> rfl), bw HB.out⟩
       rw [if_pos c90] at H
       have c90b0 : (t1051 == t1037) = true := beq_iff_eq.mpr c90
       have c90b1 : (t1051 != t1037) = false := bne_eq_false_iff_eq.mpr c90
       clear c90
       obtain rfl := Option.some.inj H
       go_wp2_with (first | ((with_reducible refine gate_callee (f := 39) rfl ?_); refine goesL_ (some 116) rfl rfl Try.func39 (by kernel_rfl) rfl #[.slice Ao70 t1038.length co70, .int .i64 1] rfl (by (try simp only [mA_]); first | done | rfl | (simp only [List.length_drop, List.length_take]; rfl)) ?_; (with_reducible refine (laws_heldIntA2S.calls kj68 _ _ t1038 1 t1051 _ ?side1 ?side2 A87.out).mono ?_); (case side1 => repeat (first | exact (Kd.R_reads' HO_12.out).2.2 | (with_reducible refine Kd.C_alloc ?_ _) | (with_reducible refine Kd.C_drewN ?_ _) | (with_reducible refine Kd.C_drew ?_))); (case side2 => exact (Kd.R_reads' HO_12.out).2.1); rintro e w91 ⟨rfl, hb⟩; refine ⟨_, rfl, ?_⟩; have n0_ := Aside0.mk (Kd.R_below (bR HO_12.out) hb); have n1_ := Aside0.mk (below_step (bw HB.out) hb); replace HO_12 := n0_; replace HB := n1_; clear n0_ n1_; (try clear hb); (try clear hb2); (try clear hk); (try clear hi)))
       go_ret
       exact ⟨by first | rfl | (simp [errW_none, errW_some] <;> rfl) | (simp [*, errW_none, errW_some] <;> rfl), bw HB.out⟩

end Go.Proofs.Ytgpnophjbibhhaa.X
