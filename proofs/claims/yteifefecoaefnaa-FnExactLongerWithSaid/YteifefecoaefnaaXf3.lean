-- Written by a program of this session (wip/gen/xp.py, over the kit's printer). Not trusted: Lean checks it.
import Derived.Test.YteifefecoaefnaaX0
import Derived.Test.YteifefecoaefnaaXf12
import Derived.Test.YteifefecoaefnaaXf23
import Derived.Test.YteifefecoaefnaaXf5
import Derived.Test.YteifefecoaefnaaXf8
namespace Go.Proofs.Yteifefecoaefnaa.X
open Go.RowKit Go.Proofs.YteifefecoaefnaaW.PrintWords Go.Proofs.YteifefecoaefnaaW.PrintLast Go.Proofs.YteifefecoaefnaaW.PrintMore
attribute [local go_sem] max2_int min2_int max_two min_two max_three min_three max_four min_four   -- for this text's walks alone
set_option linter.unusedVariables false
set_option linter.unusedSimpArgs false

/-! ### spec_LongerWith: function 7 -/
def spec_LongerWith.j0 : Nat → List (S46) → Int → List (S37) → List Int → Bool → Option (Bool × Bool)
 | 0, _, _, _, _, _ => none
 | k + 1, x0, x1, x2, x3, x19 => if x19 = true then (some (false, false)) else ((spec_l7List.f k x0 (wrap64 (x1 + 1)) x2 x3).bind fun t202 => ((spec_l7Length.f k x0 t202).bind fun t205 => ((spec_l7List.f k x0 x1 x2 x3).bind fun t206 => ((spec_l7Length.f k x0 t206).bind fun t209 => (some (decide (t205 > t209), true))))))
def spec_LongerWith.f (k : Nat) (l0 : List (S46)) (a1 : Int) (l2 : List (S37)) (l3 : List Int) : Option (Bool × Bool) := (spec_l7Ordered.f k l0 a1 l2 l3).bind fun t201 => (if t201 = true then (spec_LongerWith.j0 k l0 a1 l2 l3 (a1 == 4)) else (spec_LongerWith.j0 k l0 a1 l2 l3 true))
theorem spec_LongerWith.mono_l : ∀ k, (∀ y0 y1 y2 y3 y4, LeO (spec_LongerWith.j0 k y0 y1 y2 y3 y4) (spec_LongerWith.j0 (k + 1) y0 y1 y2 y3 y4))
 | 0 => fun _ _ _ _ _ r h => by simp [spec_LongerWith.j0] at h
 | k + 1 => by
  have ih0 := spec_LongerWith.mono_l k
  ·intro y0 y1 y2 y3 y4
   unfold spec_LongerWith.j0
   repeat' first
   | (with_reducible exact ih0 _ _ _ _ _)
   | (with_reducible exact spec_l7Length.mono _ _ _)
   | (with_reducible exact spec_l7List.mono _ _ _ _ _)
   | (with_reducible exact spec_l7Ordered.mono _ _ _ _ _)
   | (with_reducible exact LeO.refl _)
   | (with_reducible exact LeO.none _)
   | (with_reducible refine LeO.ite ?_ ?_)
   | (with_reducible refine LeO.bind ?_ (fun _ => ?_))
   | exact ih0 _ _ _ _ _
   | exact spec_l7Length.mono _ _ _
   | exact spec_l7List.mono _ _ _ _ _
   | exact spec_l7Ordered.mono _ _ _ _ _
   | exact LeO.none _
   | refine LeO.ite ?_ ?_
   | refine LeO.bind ?_ (fun _ => ?_)
theorem spec_LongerWith.mono : ∀ a0 a1 a2 a3 k, LeO (spec_LongerWith.f k a0 a1 a2 a3) (spec_LongerWith.f (k + 1) a0 a1 a2 a3) := by
 intro a0 a1 a2 a3 k
 have ih0 := spec_LongerWith.mono_l k
 unfold spec_LongerWith.f
 repeat' first
   | (with_reducible exact ih0 _ _ _ _ _)
   | (with_reducible exact spec_l7Length.mono _ _ _)
   | (with_reducible exact spec_l7List.mono _ _ _ _ _)
   | (with_reducible exact spec_l7Ordered.mono _ _ _ _ _)
   | (with_reducible exact LeO.refl _)
   | (with_reducible exact LeO.none _)
   | (with_reducible refine LeO.ite ?_ ?_)
   | (with_reducible refine LeO.bind ?_ (fun _ => ?_))
   | exact ih0 _ _ _ _ _
   | exact spec_l7Length.mono _ _ _
   | exact spec_l7List.mono _ _ _ _ _
   | exact spec_l7Ordered.mono _ _ _ _ _
   | exact LeO.none _
   | refine LeO.ite ?_ ?_
   | refine LeO.bind ?_ (fun _ => ?_)
set_option maxHeartbeats 8000000 in
set_option maxRecDepth 100000 in
theorem spec_LongerWith.calls (k : Nat) (A0 : Option Addr) (c0 : Nat) (l0 : List (S46)) (a1 : Int) (A2 : Option Addr) (c2 : Nat) (l2 : List (S37)) (A3 : Option Addr) (c3 : Nat) (l3 : List Int) (r1 : Bool) (r2 : Bool) (w : World) (hr0 : Kd.C k46 w A0 l0.length l0) (hc0 : l0.length ≤ c0) (hr2 : Kd.C k37 w A2 l2.length l2) (hc2 : l2.length ≤ c2) (hr3 : Kd.C (Kd.int .i64) w A3 l3.length l3) (hc3 : l3.length ≤ c3) (h : spec_LongerWith.f k l0 a1 l2 l3 = some (r1, r2)) :
  Calls Try.prog 7 #[.slice A0 l0.length c0, .int .i64 a1, .slice A2 l2.length c2, .slice A3 l3.length c3] w fun e w' => e = .returned (.tuple #[.bool r1, .bool r2]) ∧ Below w.heap.size w w' := by
 have HR0 := Aside0.mk hr0
 have HC0 := Aside0.mk hc0
 clear hr0 hc0
 have HR2 := Aside0.mk hr2
 have HC2 := Aside0.mk hc2
 clear hr2 hc2
 have HR3 := Aside0.mk hr3
 have HC3 := Aside0.mk hc3
 clear hr3 hc3
 have HB := Aside0.mk (Below.refl w.heap.size w)
 have H : ((spec_l7Ordered.f k l0 a1 l2 l3).bind fun t201 => (if t201 = true then (spec_LongerWith.j0 k l0 a1 l2 l3 (a1 == 4)) else (spec_LongerWith.j0 k l0 a1 l2 l3 true))) = some (r1, r2) := h
 clear h
 have HC5 := Aside0.mk H
 clear H
 go_enter Try.func7, Try.ntmps7
 go_upto_region 1 with (fail)
 go_cut [19] (fun v19 wc => ∃ (kq : Nat) (x19_4 : Bool), v19 = .bool x19_4 ∧ Aside0 (spec_LongerWith.j0 kq l0 a1 l2 l3 x19_4 = some (r1, r2)) ∧ Aside0 (kq ≤ k) ∧ Aside0 (Below w.heap.size w wc))
 case first =>
  have H := HC5.out
  clear HC5
  replace H := Option.bind_eq_some_iff.mp H
  obtain ⟨t201, A60, H⟩ := H
  replace H : (if t201 = true then (spec_LongerWith.j0 k l0 a1 l2 l3 (a1 == 4)) else (spec_LongerWith.j0 k l0 a1 l2 l3 true)) = some (r1, r2) := H
  have A6 := Aside0.mk A60
  clear A60
  by_cases c7 : t201 = true
  ·subst c7
   have H1 : (spec_LongerWith.j0 k l0 a1 l2 l3 (a1 == 4)) = some (r1, r2) := by rw [if_pos rfl] at H; exact H
   clear H
   have H := H1
   clear H1
   have H' := Aside0.mk H
   clear H
   go_wp2_with (first | ((with_reducible refine gate_callee (f := 18) rfl ?_); refine goesL_ (some 14) rfl rfl Try.func18 (by kernel_rfl) rfl #[.slice A0 l0.length c0, .int .i64 a1, .slice A2 l2.length c2, .slice A3 l3.length c3] rfl (by (try simp only [mA_]); first | done | rfl | (simp only [List.length_drop, List.length_take]; rfl)) ?_; (with_reducible refine (spec_l7Ordered.calls k _ _ l0 a1 _ _ l2 _ _ l3 true _ ?side1 ?side2 ?side3 ?side4 ?side5 ?side6 A6.out).mono ?_); (case side1 => first | exact bC HR0.out HB.out | exact Kd.C_below HR0.out HB.out); (case side2 => exact HC0.out); (case side3 => first | exact bC HR2.out HB.out | exact Kd.C_below HR2.out HB.out); (case side4 => exact HC2.out); (case side5 => first | exact bC HR3.out HB.out | exact Kd.C_below HR3.out HB.out); (case side6 => exact HC3.out); rintro e w8 ⟨rfl, hb⟩; refine ⟨_, rfl, ?_⟩; have n0_ := Aside0.mk (below_step (bw HB.out) hb); replace HB := n0_; clear n0_; (try clear hb); (try clear hb2); (try clear hk); (try clear hi)))
   go_meet
   case rel => exact ⟨_, ((a1 == 4)), (by first | rfl | (simp; done) | (simp [*]; done)), H', ⟨by first | omega | exact Nat.le_refl _⟩, ⟨bw HB.out⟩⟩
  replace c7 := Bool.eq_false_iff.mpr c7
  subst c7
  have H1 : (spec_LongerWith.j0 k l0 a1 l2 l3 true) = some (r1, r2) := by rw [if_neg (show ¬ (false = true) by decide)] at H; exact H
  clear H
  have H := H1
  clear H1
  have H' := Aside0.mk H
  clear H
  go_wp2_with (first | ((with_reducible refine gate_callee (f := 18) rfl ?_); refine goesL_ (some 14) rfl rfl Try.func18 (by kernel_rfl) rfl #[.slice A0 l0.length c0, .int .i64 a1, .slice A2 l2.length c2, .slice A3 l3.length c3] rfl (by (try simp only [mA_]); first | done | rfl | (simp only [List.length_drop, List.length_take]; rfl)) ?_; (with_reducible refine (spec_l7Ordered.calls k _ _ l0 a1 _ _ l2 _ _ l3 false _ ?side1 ?side2 ?side3 ?side4 ?side5 ?side6 A6.out).mono ?_); (case side1 => first | exact bC HR0.out HB.out | exact Kd.C_below HR0.out HB.out); (case side2 => exact HC0.out); (case side3 => first | exact bC HR2.out HB.out | exact Kd.C_below HR2.out HB.out); (case side4 => exact HC2.out); (case side5 => first | exact bC HR3.out HB.out | exact Kd.C_below HR3.out HB.out); (case side6 => exact HC3.out); rintro e w9 ⟨rfl, hb⟩; refine ⟨_, rfl, ?_⟩; have n0_ := Aside0.mk (below_step (bw HB.out) hb); replace HB := n0_; clear n0_; (try clear hb); (try clear hb2); (try clear hk); (try clear hi)))
  go_meet
  case rel => exact ⟨_, (true), (by first | rfl | (simp; done) | (simp [*]; done)), H', ⟨by first | omega | exact Nat.le_refl _⟩, ⟨bw HB.out⟩⟩
 case rest =>
  clear HC5
  try clear c1
  try clear c2
  try clear p2
  try clear c3
  try clear c7
  obtain ⟨kq, x19_4, rfl, HA, HJ4, HB⟩ := hcut
  cases kq with
  | zero => exact absurd HA.out (by simp [spec_LongerWith.j0])
  | succ kj4 =>
   have H := HA.out
   clear HA
   simp only [spec_LongerWith.j0] at H
   by_cases c10 : x19_4 = true
   ·subst c10
    have H1 : (some (false, false)) = some (r1, r2) := by rw [if_pos rfl] at H; exact H
    clear H
    have H := H1
    clear H1
    simp only [Option.some.injEq, Prod.mk.injEq] at H
    obtain ⟨rfl, rfl⟩ := H
    go_wp2
    go_ret2
    exact ⟨by first | rfl | (simp [errW_none, errW_some] <;> rfl) | (simp [*, errW_none, errW_some] <;> rfl), bw HB.out⟩
   replace c10 := Bool.eq_false_iff.mpr c10
   subst c10
   have H1 : ((spec_l7List.f kj4 l0 (wrap64 (a1 + 1)) l2 l3).bind fun t202 => ((spec_l7Length.f kj4 l0 t202).bind fun t205 => ((spec_l7List.f kj4 l0 a1 l2 l3).bind fun t206 => ((spec_l7Length.f kj4 l0 t206).bind fun t209 => (some (decide (t205 > t209), true)))))) = some (r1, r2) := by rw [if_neg (show ¬ (false = true) by decide)] at H; exact H
   clear H
   have H := H1
   clear H1
   replace H := Option.bind_eq_some_iff.mp H
   obtain ⟨t202, A110, H⟩ := H
   replace H : ((spec_l7Length.f kj4 l0 t202).bind fun t205 => ((spec_l7List.f kj4 l0 a1 l2 l3).bind fun t206 => ((spec_l7Length.f kj4 l0 t206).bind fun t209 => (some (decide (t205 > t209), true))))) = some (r1, r2) := H
   have A11 := Aside0.mk A110
   clear A110
   replace H := Option.bind_eq_some_iff.mp H
   obtain ⟨t205, A120, H⟩ := H
   replace H : ((spec_l7List.f kj4 l0 a1 l2 l3).bind fun t206 => ((spec_l7Length.f kj4 l0 t206).bind fun t209 => (some (decide (t205 > t209), true)))) = some (r1, r2) := H
   have A12 := Aside0.mk A120
   clear A120
   replace H := Option.bind_eq_some_iff.mp H
   obtain ⟨t206, A130, H⟩ := H
   replace H : ((spec_l7Length.f kj4 l0 t206).bind fun t209 => (some (decide (t205 > t209), true))) = some (r1, r2) := H
   have A13 := Aside0.mk A130
   clear A130
   replace H := Option.bind_eq_some_iff.mp H
   obtain ⟨t209, A140, H⟩ := H
   replace H : (some (decide (t205 > t209), true)) = some (r1, r2) := H
   have A14 := Aside0.mk A140
   clear A140
   simp only [Option.some.injEq, Prod.mk.injEq] at H
   obtain ⟨rfl, rfl⟩ := H
   go_wp2_with (first | ((with_reducible refine gate_callee (f := 20) rfl ?_); refine goesL_ (some 26) rfl rfl Try.func20 (by kernel_rfl) rfl #[.slice A0 l0.length c0, .int .i64 (wrap64 (a1 + 1)), .slice A2 l2.length c2, .slice A3 l3.length c3] rfl (by (try simp only [mA_]); first | done | rfl | (simp only [List.length_drop, List.length_take]; rfl)) ?_; (with_reducible refine (spec_l7List.calls kj4 _ _ l0 (wrap64 (a1 + 1)) _ _ l2 _ _ l3 t202 _ ?side1 ?side2 ?side3 ?side4 ?side5 ?side6 A11.out).mono ?_); (case side1 => first | exact bC HR0.out HB.out | exact Kd.C_below HR0.out HB.out); (case side2 => exact HC0.out); (case side3 => first | exact bC HR2.out HB.out | exact Kd.C_below HR2.out HB.out); (case side4 => exact HC2.out); (case side5 => first | exact bC HR3.out HB.out | exact Kd.C_below HR3.out HB.out); (case side6 => exact HC3.out); rintro e w15 ⟨v203, rfl, ho0, hb⟩; refine ⟨_, rfl, ?_⟩; have n0_ := Aside0.mk (Kd.R_lower ho0 (below_size (bw HB.out))); have n1_ := Aside0.mk (below_step (bw HB.out) hb); have HO204 := n0_; replace HB := n1_; clear n0_ n1_; (try clear hb); (try clear hb2); (try clear hk); (try clear hi); (try clear ho0); obtain ⟨Ao16, co16, eo16⟩ := Kd.R_slice HO204.out; subst eo16) | ((with_reducible refine gate_callee (f := 19) rfl ?_); refine goesL_ (some 27) rfl rfl Try.func19 (by kernel_rfl) rfl #[.slice A0 l0.length c0, .slice Ao16 t202.length co16] rfl (by (try simp only [mA_]); first | done | rfl | (simp only [List.length_drop, List.length_take]; rfl)) ?_; (with_reducible refine (spec_l7Length.calls kj4 _ _ l0 _ _ t202 t205 _ ?side1 ?side2 ?side3 ?side4 A12.out).mono ?_); (case side1 => first | exact bC HR0.out HB.out | exact Kd.C_below HR0.out HB.out); (case side2 => exact HC0.out); (case side3 => repeat (first | exact (Kd.R_reads' HO204.out).2.2 | (with_reducible refine Kd.C_alloc ?_ _) | (with_reducible refine Kd.C_drewN ?_ _) | (with_reducible refine Kd.C_drew ?_))); (case side4 => exact (Kd.R_reads' HO204.out).2.1); rintro e w' ⟨rfl, ⟨nd, rfl⟩⟩; refine ⟨_, rfl, ?_⟩) | ((with_reducible refine gate_callee (f := 20) rfl ?_); refine goesL_ (some 33) rfl rfl Try.func20 (by kernel_rfl) rfl #[.slice A0 l0.length c0, .int .i64 a1, .slice A2 l2.length c2, .slice A3 l3.length c3] rfl (by (try simp only [mA_]); first | done | rfl | (simp only [List.length_drop, List.length_take]; rfl)) ?_; (with_reducible refine (spec_l7List.calls kj4 _ _ l0 a1 _ _ l2 _ _ l3 t206 _ ?side1 ?side2 ?side3 ?side4 ?side5 ?side6 A13.out).mono ?_); (case side1 => repeat (first | exact (Kd.C_below HR0.out (bw HB.out)) | (with_reducible refine Kd.C_alloc ?_ _) | (with_reducible refine Kd.C_drewN ?_ _) | (with_reducible refine Kd.C_drew ?_))); (case side2 => exact HC0.out); (case side3 => repeat (first | exact (Kd.C_below HR2.out (bw HB.out)) | (with_reducible refine Kd.C_alloc ?_ _) | (with_reducible refine Kd.C_drewN ?_ _) | (with_reducible refine Kd.C_drew ?_))); (case side4 => exact HC2.out); (case side5 => repeat (first | exact (Kd.C_below HR3.out (bw HB.out)) | (with_reducible refine Kd.C_alloc ?_ _) | (with_reducible refine Kd.C_drewN ?_ _) | (with_reducible refine Kd.C_drew ?_))); (case side6 => exact HC3.out); rintro e w17 ⟨v207, rfl, ho0, hb⟩; refine ⟨_, rfl, ?_⟩; have n0_ := Aside0.mk (Kd.R_elder' (bR HO204.out) (Kd.R_base ho0) hb); have n1_ := Aside0.mk (Kd.R_lower (Kd.R_new' ho0 (Kd.R_lt (bR HO204.out))) (below_size (bw HB.out))); have n2_ := Aside0.mk (below_step (bw HB.out) hb); replace HO204 := n0_; have HO208 := n1_; replace HB := n2_; clear n0_ n1_ n2_; (try clear hb); (try clear hb2); (try clear hk); (try clear hi); (try clear ho0); obtain ⟨Ao18, co18, eo18⟩ := Kd.R_slice HO208.out; subst eo18) | ((with_reducible refine gate_callee (f := 19) rfl ?_); refine goesL_ (some 34) rfl rfl Try.func19 (by kernel_rfl) rfl #[.slice A0 l0.length c0, .slice Ao18 t206.length co18] rfl (by (try simp only [mA_]); first | done | rfl | (simp only [List.length_drop, List.length_take]; rfl)) ?_; (with_reducible refine (spec_l7Length.calls kj4 _ _ l0 _ _ t206 t209 _ ?side1 ?side2 ?side3 ?side4 A14.out).mono ?_); (case side1 => first | exact bC HR0.out HB.out | exact Kd.C_below HR0.out HB.out); (case side2 => exact HC0.out); (case side3 => repeat (first | exact (Kd.R_reads' HO208.out).2.2 | (with_reducible refine Kd.C_alloc ?_ _) | (with_reducible refine Kd.C_drewN ?_ _) | (with_reducible refine Kd.C_drew ?_))); (case side4 => exact (Kd.R_reads' HO208.out).2.1); rintro e w' ⟨rfl, ⟨nd, rfl⟩⟩; refine ⟨_, rfl, ?_⟩))
   go_ret2
   exact ⟨by first | rfl | (simp [errW_none, errW_some] <;> rfl) | (simp [*, errW_none, errW_some] <;> rfl), bw HB.out⟩

/-! ### impl_LongerWith: function 11 -/
def impl_LongerWith.j0 : Nat → List (S46) → Int → List (S37) → List Int → Bool → Option (Bool × Bool)
 | 0, _, _, _, _, _ => none
 | k + 1, x0, x1, x2, x3, x19 => if x19 = true then (some (false, false)) else ((impl_listPlan.f k x0 (wrap64 (x1 + 1)) x2 x3).bind fun t303 => ((impl_planLength.f k x0 t303).bind fun t306 => ((impl_listPlan.f k x0 x1 x2 x3).bind fun t307 => ((impl_planLength.f k x0 t307).bind fun t310 => (some (decide (t306 > t310), true))))))
def impl_LongerWith.f (k : Nat) (l0 : List (S46)) (a1 : Int) (l2 : List (S37)) (l3 : List Int) : Option (Bool × Bool) := (impl_isListed.f k l0 a1 l2 l3).bind fun t302 => (if t302 = true then (impl_LongerWith.j0 k l0 a1 l2 l3 (a1 == 4)) else (impl_LongerWith.j0 k l0 a1 l2 l3 true))
theorem impl_LongerWith.mono_l : ∀ k, (∀ y0 y1 y2 y3 y4, LeO (impl_LongerWith.j0 k y0 y1 y2 y3 y4) (impl_LongerWith.j0 (k + 1) y0 y1 y2 y3 y4))
 | 0 => fun _ _ _ _ _ r h => by simp [impl_LongerWith.j0] at h
 | k + 1 => by
  have ih0 := impl_LongerWith.mono_l k
  ·intro y0 y1 y2 y3 y4
   unfold impl_LongerWith.j0
   repeat' first
   | (with_reducible exact ih0 _ _ _ _ _)
   | (with_reducible exact impl_isListed.mono _ _ _ _ _)
   | (with_reducible exact impl_listPlan.mono _ _ _ _ _)
   | (with_reducible exact impl_planLength.mono _ _ _)
   | (with_reducible exact LeO.refl _)
   | (with_reducible exact LeO.none _)
   | (with_reducible refine LeO.ite ?_ ?_)
   | (with_reducible refine LeO.bind ?_ (fun _ => ?_))
   | exact ih0 _ _ _ _ _
   | exact impl_isListed.mono _ _ _ _ _
   | exact impl_listPlan.mono _ _ _ _ _
   | exact impl_planLength.mono _ _ _
   | exact LeO.none _
   | refine LeO.ite ?_ ?_
   | refine LeO.bind ?_ (fun _ => ?_)
theorem impl_LongerWith.mono : ∀ a0 a1 a2 a3 k, LeO (impl_LongerWith.f k a0 a1 a2 a3) (impl_LongerWith.f (k + 1) a0 a1 a2 a3) := by
 intro a0 a1 a2 a3 k
 have ih0 := impl_LongerWith.mono_l k
 unfold impl_LongerWith.f
 repeat' first
   | (with_reducible exact ih0 _ _ _ _ _)
   | (with_reducible exact impl_isListed.mono _ _ _ _ _)
   | (with_reducible exact impl_listPlan.mono _ _ _ _ _)
   | (with_reducible exact impl_planLength.mono _ _ _)
   | (with_reducible exact LeO.refl _)
   | (with_reducible exact LeO.none _)
   | (with_reducible refine LeO.ite ?_ ?_)
   | (with_reducible refine LeO.bind ?_ (fun _ => ?_))
   | exact ih0 _ _ _ _ _
   | exact impl_isListed.mono _ _ _ _ _
   | exact impl_listPlan.mono _ _ _ _ _
   | exact impl_planLength.mono _ _ _
   | exact LeO.none _
   | refine LeO.ite ?_ ?_
   | refine LeO.bind ?_ (fun _ => ?_)
set_option maxHeartbeats 8000000 in
set_option maxRecDepth 100000 in
theorem impl_LongerWith.calls (k : Nat) (A0 : Option Addr) (c0 : Nat) (l0 : List (S46)) (a1 : Int) (A2 : Option Addr) (c2 : Nat) (l2 : List (S37)) (A3 : Option Addr) (c3 : Nat) (l3 : List Int) (r1 : Bool) (r2 : Bool) (w : World) (hr0 : Kd.C k46 w A0 l0.length l0) (hc0 : l0.length ≤ c0) (hr2 : Kd.C k37 w A2 l2.length l2) (hc2 : l2.length ≤ c2) (hr3 : Kd.C (Kd.int .i64) w A3 l3.length l3) (hc3 : l3.length ≤ c3) (h : impl_LongerWith.f k l0 a1 l2 l3 = some (r1, r2)) :
  Calls Try.prog 11 #[.slice A0 l0.length c0, .int .i64 a1, .slice A2 l2.length c2, .slice A3 l3.length c3] w fun e w' => e = .returned (.tuple #[.bool r1, .bool r2]) ∧ Below w.heap.size w w' := by
 have HR0 := Aside0.mk hr0
 have HC0 := Aside0.mk hc0
 clear hr0 hc0
 have HR2 := Aside0.mk hr2
 have HC2 := Aside0.mk hc2
 clear hr2 hc2
 have HR3 := Aside0.mk hr3
 have HC3 := Aside0.mk hc3
 clear hr3 hc3
 have HB := Aside0.mk (Below.refl w.heap.size w)
 have H : ((impl_isListed.f k l0 a1 l2 l3).bind fun t302 => (if t302 = true then (impl_LongerWith.j0 k l0 a1 l2 l3 (a1 == 4)) else (impl_LongerWith.j0 k l0 a1 l2 l3 true))) = some (r1, r2) := h
 clear h
 have HC5 := Aside0.mk H
 clear H
 go_enter Try.func11, Try.ntmps11
 go_upto_region 1 with (fail)
 go_cut [19] (fun v19 wc => ∃ (kq : Nat) (x19_4 : Bool), v19 = .bool x19_4 ∧ Aside0 (impl_LongerWith.j0 kq l0 a1 l2 l3 x19_4 = some (r1, r2)) ∧ Aside0 (kq ≤ k) ∧ Aside0 (Below w.heap.size w wc))
 case first =>
  have H := HC5.out
  clear HC5
  replace H := Option.bind_eq_some_iff.mp H
  obtain ⟨t302, A60, H⟩ := H
  replace H : (if t302 = true then (impl_LongerWith.j0 k l0 a1 l2 l3 (a1 == 4)) else (impl_LongerWith.j0 k l0 a1 l2 l3 true)) = some (r1, r2) := H
  have A6 := Aside0.mk A60
  clear A60
  by_cases c7 : t302 = true
  ·subst c7
   have H1 : (impl_LongerWith.j0 k l0 a1 l2 l3 (a1 == 4)) = some (r1, r2) := by rw [if_pos rfl] at H; exact H
   clear H
   have H := H1
   clear H1
   have H' := Aside0.mk H
   clear H
   go_wp2_with (first | ((with_reducible refine gate_callee (f := 23) rfl ?_); refine goesL_ (some 14) rfl rfl Try.func23 (by kernel_rfl) rfl #[.slice A0 l0.length c0, .int .i64 a1, .slice A2 l2.length c2, .slice A3 l3.length c3] rfl (by (try simp only [mA_]); first | done | rfl | (simp only [List.length_drop, List.length_take]; rfl)) ?_; (with_reducible refine (impl_isListed.calls k _ _ l0 a1 _ _ l2 _ _ l3 true _ ?side1 ?side2 ?side3 ?side4 ?side5 ?side6 A6.out).mono ?_); (case side1 => first | exact bC HR0.out HB.out | exact Kd.C_below HR0.out HB.out); (case side2 => exact HC0.out); (case side3 => first | exact bC HR2.out HB.out | exact Kd.C_below HR2.out HB.out); (case side4 => exact HC2.out); (case side5 => first | exact bC HR3.out HB.out | exact Kd.C_below HR3.out HB.out); (case side6 => exact HC3.out); rintro e w8 ⟨rfl, hb⟩; refine ⟨_, rfl, ?_⟩; have n0_ := Aside0.mk (below_step (bw HB.out) hb); replace HB := n0_; clear n0_; (try clear hb); (try clear hb2); (try clear hk); (try clear hi)))
   go_meet
   case rel => exact ⟨_, ((a1 == 4)), (by first | rfl | (simp; done) | (simp [*]; done)), H', ⟨by first | omega | exact Nat.le_refl _⟩, ⟨bw HB.out⟩⟩
  replace c7 := Bool.eq_false_iff.mpr c7
  subst c7
  have H1 : (impl_LongerWith.j0 k l0 a1 l2 l3 true) = some (r1, r2) := by rw [if_neg (show ¬ (false = true) by decide)] at H; exact H
  clear H
  have H := H1
  clear H1
  have H' := Aside0.mk H
  clear H
  go_wp2_with (first | ((with_reducible refine gate_callee (f := 23) rfl ?_); refine goesL_ (some 14) rfl rfl Try.func23 (by kernel_rfl) rfl #[.slice A0 l0.length c0, .int .i64 a1, .slice A2 l2.length c2, .slice A3 l3.length c3] rfl (by (try simp only [mA_]); first | done | rfl | (simp only [List.length_drop, List.length_take]; rfl)) ?_; (with_reducible refine (impl_isListed.calls k _ _ l0 a1 _ _ l2 _ _ l3 false _ ?side1 ?side2 ?side3 ?side4 ?side5 ?side6 A6.out).mono ?_); (case side1 => first | exact bC HR0.out HB.out | exact Kd.C_below HR0.out HB.out); (case side2 => exact HC0.out); (case side3 => first | exact bC HR2.out HB.out | exact Kd.C_below HR2.out HB.out); (case side4 => exact HC2.out); (case side5 => first | exact bC HR3.out HB.out | exact Kd.C_below HR3.out HB.out); (case side6 => exact HC3.out); rintro e w9 ⟨rfl, hb⟩; refine ⟨_, rfl, ?_⟩; have n0_ := Aside0.mk (below_step (bw HB.out) hb); replace HB := n0_; clear n0_; (try clear hb); (try clear hb2); (try clear hk); (try clear hi)))
  go_meet
  case rel => exact ⟨_, (true), (by first | rfl | (simp; done) | (simp [*]; done)), H', ⟨by first | omega | exact Nat.le_refl _⟩, ⟨bw HB.out⟩⟩
 case rest =>
  clear HC5
  try clear c1
  try clear c2
  try clear p2
  try clear c3
  try clear c7
  obtain ⟨kq, x19_4, rfl, HA, HJ4, HB⟩ := hcut
  cases kq with
  | zero => exact absurd HA.out (by simp [impl_LongerWith.j0])
  | succ kj4 =>
   have H := HA.out
   clear HA
   simp only [impl_LongerWith.j0] at H
   by_cases c10 : x19_4 = true
   ·subst c10
    have H1 : (some (false, false)) = some (r1, r2) := by rw [if_pos rfl] at H; exact H
    clear H
    have H := H1
    clear H1
    simp only [Option.some.injEq, Prod.mk.injEq] at H
    obtain ⟨rfl, rfl⟩ := H
    go_wp2
    go_ret2
    exact ⟨by first | rfl | (simp [errW_none, errW_some] <;> rfl) | (simp [*, errW_none, errW_some] <;> rfl), bw HB.out⟩
   replace c10 := Bool.eq_false_iff.mpr c10
   subst c10
   have H1 : ((impl_listPlan.f kj4 l0 (wrap64 (a1 + 1)) l2 l3).bind fun t303 => ((impl_planLength.f kj4 l0 t303).bind fun t306 => ((impl_listPlan.f kj4 l0 a1 l2 l3).bind fun t307 => ((impl_planLength.f kj4 l0 t307).bind fun t310 => (some (decide (t306 > t310), true)))))) = some (r1, r2) := by rw [if_neg (show ¬ (false = true) by decide)] at H; exact H
   clear H
   have H := H1
   clear H1
   replace H := Option.bind_eq_some_iff.mp H
   obtain ⟨t303, A110, H⟩ := H
   replace H : ((impl_planLength.f kj4 l0 t303).bind fun t306 => ((impl_listPlan.f kj4 l0 a1 l2 l3).bind fun t307 => ((impl_planLength.f kj4 l0 t307).bind fun t310 => (some (decide (t306 > t310), true))))) = some (r1, r2) := H
   have A11 := Aside0.mk A110
   clear A110
   replace H := Option.bind_eq_some_iff.mp H
   obtain ⟨t306, A120, H⟩ := H
   replace H : ((impl_listPlan.f kj4 l0 a1 l2 l3).bind fun t307 => ((impl_planLength.f kj4 l0 t307).bind fun t310 => (some (decide (t306 > t310), true)))) = some (r1, r2) := H
   have A12 := Aside0.mk A120
   clear A120
   replace H := Option.bind_eq_some_iff.mp H
   obtain ⟨t307, A130, H⟩ := H
   replace H : ((impl_planLength.f kj4 l0 t307).bind fun t310 => (some (decide (t306 > t310), true))) = some (r1, r2) := H
   have A13 := Aside0.mk A130
   clear A130
   replace H := Option.bind_eq_some_iff.mp H
   obtain ⟨t310, A140, H⟩ := H
   replace H : (some (decide (t306 > t310), true)) = some (r1, r2) := H
   have A14 := Aside0.mk A140
   clear A140
   simp only [Option.some.injEq, Prod.mk.injEq] at H
   obtain ⟨rfl, rfl⟩ := H
   go_wp2_with (first | ((with_reducible refine gate_callee (f := 25) rfl ?_); refine goesL_ (some 26) rfl rfl Try.func25 (by kernel_rfl) rfl #[.slice A0 l0.length c0, .int .i64 (wrap64 (a1 + 1)), .slice A2 l2.length c2, .slice A3 l3.length c3] rfl (by (try simp only [mA_]); first | done | rfl | (simp only [List.length_drop, List.length_take]; rfl)) ?_; (with_reducible refine (impl_listPlan.calls kj4 _ _ l0 (wrap64 (a1 + 1)) _ _ l2 _ _ l3 t303 _ ?side1 ?side2 ?side3 ?side4 ?side5 ?side6 A11.out).mono ?_); (case side1 => first | exact bC HR0.out HB.out | exact Kd.C_below HR0.out HB.out); (case side2 => exact HC0.out); (case side3 => first | exact bC HR2.out HB.out | exact Kd.C_below HR2.out HB.out); (case side4 => exact HC2.out); (case side5 => first | exact bC HR3.out HB.out | exact Kd.C_below HR3.out HB.out); (case side6 => exact HC3.out); rintro e w15 ⟨v304, rfl, ho0, hb⟩; refine ⟨_, rfl, ?_⟩; have n0_ := Aside0.mk (Kd.R_lower ho0 (below_size (bw HB.out))); have n1_ := Aside0.mk (below_step (bw HB.out) hb); have HO305 := n0_; replace HB := n1_; clear n0_ n1_; (try clear hb); (try clear hb2); (try clear hk); (try clear hi); (try clear ho0); obtain ⟨Ao16, co16, eo16⟩ := Kd.R_slice HO305.out; subst eo16) | ((with_reducible refine gate_callee (f := 24) rfl ?_); refine goesL_ (some 27) rfl rfl Try.func24 (by kernel_rfl) rfl #[.slice A0 l0.length c0, .slice Ao16 t303.length co16] rfl (by (try simp only [mA_]); first | done | rfl | (simp only [List.length_drop, List.length_take]; rfl)) ?_; (with_reducible refine (impl_planLength.calls kj4 _ _ l0 _ _ t303 t306 _ ?side1 ?side2 ?side3 ?side4 A12.out).mono ?_); (case side1 => first | exact bC HR0.out HB.out | exact Kd.C_below HR0.out HB.out); (case side2 => exact HC0.out); (case side3 => repeat (first | exact (Kd.R_reads' HO305.out).2.2 | (with_reducible refine Kd.C_alloc ?_ _) | (with_reducible refine Kd.C_drewN ?_ _) | (with_reducible refine Kd.C_drew ?_))); (case side4 => exact (Kd.R_reads' HO305.out).2.1); rintro e w17 ⟨rfl, hb⟩; refine ⟨_, rfl, ?_⟩; have n0_ := Aside0.mk (Kd.R_below (bR HO305.out) hb); have n1_ := Aside0.mk (below_step (bw HB.out) hb); replace HO305 := n0_; replace HB := n1_; clear n0_ n1_; (try clear hb); (try clear hb2); (try clear hk); (try clear hi)) | ((with_reducible refine gate_callee (f := 25) rfl ?_); refine goesL_ (some 33) rfl rfl Try.func25 (by kernel_rfl) rfl #[.slice A0 l0.length c0, .int .i64 a1, .slice A2 l2.length c2, .slice A3 l3.length c3] rfl (by (try simp only [mA_]); first | done | rfl | (simp only [List.length_drop, List.length_take]; rfl)) ?_; (with_reducible refine (impl_listPlan.calls kj4 _ _ l0 a1 _ _ l2 _ _ l3 t307 _ ?side1 ?side2 ?side3 ?side4 ?side5 ?side6 A13.out).mono ?_); (case side1 => first | exact bC HR0.out HB.out | exact Kd.C_below HR0.out HB.out); (case side2 => exact HC0.out); (case side3 => first | exact bC HR2.out HB.out | exact Kd.C_below HR2.out HB.out); (case side4 => exact HC2.out); (case side5 => first | exact bC HR3.out HB.out | exact Kd.C_below HR3.out HB.out); (case side6 => exact HC3.out); rintro e w18 ⟨v308, rfl, ho0, hb⟩; refine ⟨_, rfl, ?_⟩; have n0_ := Aside0.mk (Kd.R_elder' (bR HO305.out) (Kd.R_base ho0) hb); have n1_ := Aside0.mk (Kd.R_lower (Kd.R_new' ho0 (Kd.R_lt (bR HO305.out))) (below_size (bw HB.out))); have n2_ := Aside0.mk (below_step (bw HB.out) hb); replace HO305 := n0_; have HO309 := n1_; replace HB := n2_; clear n0_ n1_ n2_; (try clear hb); (try clear hb2); (try clear hk); (try clear hi); (try clear ho0); obtain ⟨Ao19, co19, eo19⟩ := Kd.R_slice HO309.out; subst eo19) | ((with_reducible refine gate_callee (f := 24) rfl ?_); refine goesL_ (some 34) rfl rfl Try.func24 (by kernel_rfl) rfl #[.slice A0 l0.length c0, .slice Ao19 t307.length co19] rfl (by (try simp only [mA_]); first | done | rfl | (simp only [List.length_drop, List.length_take]; rfl)) ?_; (with_reducible refine (impl_planLength.calls kj4 _ _ l0 _ _ t307 t310 _ ?side1 ?side2 ?side3 ?side4 A14.out).mono ?_); (case side1 => first | exact bC HR0.out HB.out | exact Kd.C_below HR0.out HB.out); (case side2 => exact HC0.out); (case side3 => repeat (first | exact (Kd.R_reads' HO309.out).2.2 | (with_reducible refine Kd.C_alloc ?_ _) | (with_reducible refine Kd.C_drewN ?_ _) | (with_reducible refine Kd.C_drew ?_))); (case side4 => exact (Kd.R_reads' HO309.out).2.1); rintro e w20 ⟨rfl, hb⟩; refine ⟨_, rfl, ?_⟩; have n0_ := Aside0.mk (Kd.R_below (bR HO305.out) hb); have n1_ := Aside0.mk (Kd.R_below (bR HO309.out) hb); have n2_ := Aside0.mk (below_step (bw HB.out) hb); replace HO305 := n0_; replace HO309 := n1_; replace HB := n2_; clear n0_ n1_ n2_; (try clear hb); (try clear hb2); (try clear hk); (try clear hi)))
   go_ret2
   exact ⟨by first | rfl | (simp [errW_none, errW_some] <;> rfl) | (simp [*, errW_none, errW_some] <;> rfl), bw HB.out⟩

/-! ### laws_FnExactLongerWith: function 3 -/
def laws_FnExactLongerWith.j0 : Nat → List (S48) → List (S37) → List Int → List (S46) → List (S37) → List Int → Bool → Option (Bool)
 | 0, _, _, _, _, _, _, _ => none
 | k + 1, x0, x2, x3, x12, x13, x14, x62 => if x62 = true then (some false) else ((laws_toJobS.f k x0).bind fun t345 => ((laws_eqJobS.f k x12 t345).bind fun t348 => (if t348 = true then ((laws_toIntA2S.f k x2).bind fun t349 => ((laws_eqIntA2S.f k x13 t349).bind fun t352 => (if t352 = true then ((laws_toIntS.f k x3).bind fun t353 => ((laws_eqIntS.f k x14 t353).bind fun t356 => (if t356 = true then (some true) else (some false)))) else (some false)))) else (some false))))
def laws_FnExactLongerWith.f (k : Nat) (l0 : List (S48)) (a1 : Int) (l2 : List (S37)) (l3 : List Int) : Option (Bool) := if (l3.length : Int) > 1048576 then (some true) else ((laws_szJobS.f l0 1048576).bind fun t321 => (if t321 < 0 then (some true) else ((laws_szIntA2S.f l2 t321).bind fun t322 => (if t322 < 0 then (some true) else ((laws_toJobS.f k l0).bind fun t323 => ((laws_toIntA2S.f k l2).bind fun t326 => ((laws_toIntS.f k l3).bind fun t329 => ((spec_LongerWith.f k t323 a1 t326 t329).bind fun bt332 => ((laws_toJobS.f k l0).bind fun t334 => ((laws_toIntA2S.f k l2).bind fun t337 => ((laws_toIntS.f k l3).bind fun t340 => ((impl_LongerWith.f k t334 a1 t337 t340).bind fun bt343 => (if (bt343.1 != bt332.1) = true then (laws_FnExactLongerWith.j0 k l0 l2 l3 t334 t337 t340 true) else (laws_FnExactLongerWith.j0 k l0 l2 l3 t334 t337 t340 (bt343.2 != bt332.2)))))))))))))))
theorem laws_FnExactLongerWith.mono_l : ∀ k, (∀ y0 y1 y2 y3 y4 y5 y6, LeO (laws_FnExactLongerWith.j0 k y0 y1 y2 y3 y4 y5 y6) (laws_FnExactLongerWith.j0 (k + 1) y0 y1 y2 y3 y4 y5 y6))
 | 0 => fun _ _ _ _ _ _ _ r h => by simp [laws_FnExactLongerWith.j0] at h
 | k + 1 => by
  have ih0 := laws_FnExactLongerWith.mono_l k
  ·intro y0 y1 y2 y3 y4 y5 y6
   unfold laws_FnExactLongerWith.j0
   repeat' first
   | (with_reducible exact ih0 _ _ _ _ _ _ _)
   | (with_reducible exact impl_LongerWith.mono _ _ _ _ _)
   | (with_reducible exact laws_eqIntA2S.mono _ _ _)
   | (with_reducible exact laws_eqIntS.mono _ _ _)
   | (with_reducible exact laws_eqJobS.mono _ _ _)
   | (with_reducible exact laws_toIntA2S.mono _ _)
   | (with_reducible exact laws_toIntS.mono _ _)
   | (with_reducible exact laws_toJobS.mono _ _)
   | (with_reducible exact spec_LongerWith.mono _ _ _ _ _)
   | (with_reducible exact LeO.refl _)
   | (with_reducible exact LeO.none _)
   | (with_reducible refine LeO.ite ?_ ?_)
   | (with_reducible refine LeO.bind ?_ (fun _ => ?_))
   | exact ih0 _ _ _ _ _ _ _
   | exact impl_LongerWith.mono _ _ _ _ _
   | exact laws_eqIntA2S.mono _ _ _
   | exact laws_eqIntS.mono _ _ _
   | exact laws_eqJobS.mono _ _ _
   | exact laws_toIntA2S.mono _ _
   | exact laws_toIntS.mono _ _
   | exact laws_toJobS.mono _ _
   | exact spec_LongerWith.mono _ _ _ _ _
   | exact LeO.none _
   | refine LeO.ite ?_ ?_
   | refine LeO.bind ?_ (fun _ => ?_)
theorem laws_FnExactLongerWith.mono : ∀ a0 a1 a2 a3 k, LeO (laws_FnExactLongerWith.f k a0 a1 a2 a3) (laws_FnExactLongerWith.f (k + 1) a0 a1 a2 a3) := by
 intro a0 a1 a2 a3 k
 have ih0 := laws_FnExactLongerWith.mono_l k
 unfold laws_FnExactLongerWith.f
 repeat' first
   | (with_reducible exact ih0 _ _ _ _ _ _ _)
   | (with_reducible exact impl_LongerWith.mono _ _ _ _ _)
   | (with_reducible exact laws_eqIntA2S.mono _ _ _)
   | (with_reducible exact laws_eqIntS.mono _ _ _)
   | (with_reducible exact laws_eqJobS.mono _ _ _)
   | (with_reducible exact laws_toIntA2S.mono _ _)
   | (with_reducible exact laws_toIntS.mono _ _)
   | (with_reducible exact laws_toJobS.mono _ _)
   | (with_reducible exact spec_LongerWith.mono _ _ _ _ _)
   | (with_reducible exact LeO.refl _)
   | (with_reducible exact LeO.none _)
   | (with_reducible refine LeO.ite ?_ ?_)
   | (with_reducible refine LeO.bind ?_ (fun _ => ?_))
   | exact ih0 _ _ _ _ _ _ _
   | exact impl_LongerWith.mono _ _ _ _ _
   | exact laws_eqIntA2S.mono _ _ _
   | exact laws_eqIntS.mono _ _ _
   | exact laws_eqJobS.mono _ _ _
   | exact laws_toIntA2S.mono _ _
   | exact laws_toIntS.mono _ _
   | exact laws_toJobS.mono _ _
   | exact spec_LongerWith.mono _ _ _ _ _
   | exact LeO.none _
   | refine LeO.ite ?_ ?_
   | refine LeO.bind ?_ (fun _ => ?_)
set_option maxHeartbeats 8000000 in
set_option maxRecDepth 100000 in
theorem laws_FnExactLongerWith.calls (k : Nat) (A0 : Option Addr) (c0 : Nat) (l0 : List (S48)) (a1 : Int) (A2 : Option Addr) (c2 : Nat) (l2 : List (S37)) (A3 : Option Addr) (c3 : Nat) (l3 : List Int) (r : Bool) (w : World) (hr0 : Kd.C k48 w A0 l0.length l0) (hc0 : l0.length ≤ c0) (hr2 : Kd.C k37 w A2 l2.length l2) (hc2 : l2.length ≤ c2) (hr3 : Kd.C (Kd.int .i64) w A3 l3.length l3) (hc3 : l3.length ≤ c3) (h : laws_FnExactLongerWith.f k l0 a1 l2 l3 = some r) :
  Calls Try.prog 3 #[.slice A0 l0.length c0, .int .i64 a1, .slice A2 l2.length c2, .slice A3 l3.length c3] w fun e w' => e = .returned (.bool r) ∧ Below w.heap.size w w' := by
 have HR0 := Aside0.mk hr0
 have HC0 := Aside0.mk hc0
 clear hr0 hc0
 have HR2 := Aside0.mk hr2
 have HC2 := Aside0.mk hc2
 clear hr2 hc2
 have HR3 := Aside0.mk hr3
 have HC3 := Aside0.mk hc3
 clear hr3 hc3
 have HB := Aside0.mk (Below.refl w.heap.size w)
 have H : (if (l3.length : Int) > 1048576 then (some true) else ((laws_szJobS.f l0 1048576).bind fun t321 => (if t321 < 0 then (some true) else ((laws_szIntA2S.f l2 t321).bind fun t322 => (if t322 < 0 then (some true) else ((laws_toJobS.f k l0).bind fun t323 => ((laws_toIntA2S.f k l2).bind fun t326 => ((laws_toIntS.f k l3).bind fun t329 => ((spec_LongerWith.f k t323 a1 t326 t329).bind fun bt332 => ((laws_toJobS.f k l0).bind fun t334 => ((laws_toIntA2S.f k l2).bind fun t337 => ((laws_toIntS.f k l3).bind fun t340 => ((impl_LongerWith.f k t334 a1 t337 t340).bind fun bt343 => (if (bt343.1 != bt332.1) = true then (laws_FnExactLongerWith.j0 k l0 l2 l3 t334 t337 t340 true) else (laws_FnExactLongerWith.j0 k l0 l2 l3 t334 t337 t340 (bt343.2 != bt332.2)))))))))))))))) = some r := h
 clear h
 by_cases c5 : (l3.length : Int) > 1048576
 ·rw [if_pos c5] at H
  have c5b0 : decide (1048576 < (l3.length : Int)) = true := decide_eq_true c5
  have c5b1 : decide (1048576 < l3.length) = true := decide_eq_true (by omega)
  clear c5
  obtain rfl := Option.some.inj H
  go_enter Try.func3, Try.ntmps3
  go_wp2
  go_ret
  exact ⟨by first | rfl | (simp [errW_none, errW_some] <;> rfl) | (simp [*, errW_none, errW_some] <;> rfl), bw HB.out⟩
 rw [if_neg c5] at H
 have c5b0 : decide (1048576 < (l3.length : Int)) = false := decide_eq_false c5
 have c5b1 : decide (1048576 < l3.length) = false := decide_eq_false (by omega)
 clear c5
 replace H := Option.bind_eq_some_iff.mp H
 obtain ⟨t321, A60, H⟩ := H
 replace H : (if t321 < 0 then (some true) else ((laws_szIntA2S.f l2 t321).bind fun t322 => (if t322 < 0 then (some true) else ((laws_toJobS.f k l0).bind fun t323 => ((laws_toIntA2S.f k l2).bind fun t326 => ((laws_toIntS.f k l3).bind fun t329 => ((spec_LongerWith.f k t323 a1 t326 t329).bind fun bt332 => ((laws_toJobS.f k l0).bind fun t334 => ((laws_toIntA2S.f k l2).bind fun t337 => ((laws_toIntS.f k l3).bind fun t340 => ((impl_LongerWith.f k t334 a1 t337 t340).bind fun bt343 => (if (bt343.1 != bt332.1) = true then (laws_FnExactLongerWith.j0 k l0 l2 l3 t334 t337 t340 true) else (laws_FnExactLongerWith.j0 k l0 l2 l3 t334 t337 t340 (bt343.2 != bt332.2)))))))))))))) = some r := H
 have A6 := Aside0.mk A60
 clear A60
 by_cases c7 : t321 < 0
 ·rw [if_pos c7] at H
  have c7b0 : decide (t321 < 0) = true := decide_eq_true c7
  clear c7
  obtain rfl := Option.some.inj H
  go_enter Try.func3, Try.ntmps3
  go_wp2_with (first | ((with_reducible refine gate_callee (f := 5) rfl ?_); refine goesL_ (some 22) rfl rfl Try.func5 (by kernel_rfl) rfl #[.slice A0 l0.length c0, .int .i64 1048576] rfl (by (try simp only [mA_]); first | done | rfl | (simp only [List.length_drop, List.length_take]; rfl)) ?_; (with_reducible refine (laws_szJobS.calls _ _ l0 1048576 t321 _ ?side1 ?side2 A6.out).mono ?_); (case side1 => repeat (first | exact HR0.out | (with_reducible refine Kd.C_alloc ?_ _) | (with_reducible refine Kd.C_drewN ?_ _) | (with_reducible refine Kd.C_drew ?_))); (case side2 => exact HC0.out); rintro e w' ⟨rfl, ⟨nd, rfl⟩⟩; refine ⟨_, rfl, ?_⟩))
  go_ret
  exact ⟨by first | rfl | (simp [errW_none, errW_some] <;> rfl) | (simp [*, errW_none, errW_some] <;> rfl), bw HB.out⟩
 rw [if_neg c7] at H
 have c7b0 : decide (t321 < 0) = false := decide_eq_false c7
 clear c7
 replace H := Option.bind_eq_some_iff.mp H
 obtain ⟨t322, A80, H⟩ := H
 replace H : (if t322 < 0 then (some true) else ((laws_toJobS.f k l0).bind fun t323 => ((laws_toIntA2S.f k l2).bind fun t326 => ((laws_toIntS.f k l3).bind fun t329 => ((spec_LongerWith.f k t323 a1 t326 t329).bind fun bt332 => ((laws_toJobS.f k l0).bind fun t334 => ((laws_toIntA2S.f k l2).bind fun t337 => ((laws_toIntS.f k l3).bind fun t340 => ((impl_LongerWith.f k t334 a1 t337 t340).bind fun bt343 => (if (bt343.1 != bt332.1) = true then (laws_FnExactLongerWith.j0 k l0 l2 l3 t334 t337 t340 true) else (laws_FnExactLongerWith.j0 k l0 l2 l3 t334 t337 t340 (bt343.2 != bt332.2)))))))))))) = some r := H
 have A8 := Aside0.mk A80
 clear A80
 by_cases c9 : t322 < 0
 ·rw [if_pos c9] at H
  have c9b0 : decide (t322 < 0) = true := decide_eq_true c9
  clear c9
  obtain rfl := Option.some.inj H
  go_enter Try.func3, Try.ntmps3
  go_wp2_with (first | ((with_reducible refine gate_callee (f := 5) rfl ?_); refine goesL_ (some 22) rfl rfl Try.func5 (by kernel_rfl) rfl #[.slice A0 l0.length c0, .int .i64 1048576] rfl (by (try simp only [mA_]); first | done | rfl | (simp only [List.length_drop, List.length_take]; rfl)) ?_; (with_reducible refine (laws_szJobS.calls _ _ l0 1048576 t321 _ ?side1 ?side2 A6.out).mono ?_); (case side1 => repeat (first | exact HR0.out | (with_reducible refine Kd.C_alloc ?_ _) | (with_reducible refine Kd.C_drewN ?_ _) | (with_reducible refine Kd.C_drew ?_))); (case side2 => exact HC0.out); rintro e w' ⟨rfl, ⟨nd, rfl⟩⟩; refine ⟨_, rfl, ?_⟩) | ((with_reducible refine gate_callee (f := 6) rfl ?_); refine goesL_ (some 27) rfl rfl Try.func6 (by kernel_rfl) rfl #[.slice A2 l2.length c2, .int .i64 t321] rfl (by (try simp only [mA_]); first | done | rfl | (simp only [List.length_drop, List.length_take]; rfl)) ?_; (with_reducible refine (laws_szIntA2S.calls _ _ l2 t321 t322 _ ?side1 ?side2 A8.out).mono ?_); (case side1 => repeat (first | exact HR2.out | (with_reducible refine Kd.C_alloc ?_ _) | (with_reducible refine Kd.C_drewN ?_ _) | (with_reducible refine Kd.C_drew ?_))); (case side2 => exact HC2.out); rintro e w' ⟨rfl, ⟨nd, rfl⟩⟩; refine ⟨_, rfl, ?_⟩))
  go_ret
  exact ⟨by first | rfl | (simp [errW_none, errW_some] <;> rfl) | (simp [*, errW_none, errW_some] <;> rfl), bw HB.out⟩
 rw [if_neg c9] at H
 have c9b0 : decide (t322 < 0) = false := decide_eq_false c9
 clear c9
 replace H := Option.bind_eq_some_iff.mp H
 obtain ⟨t323, A100, H⟩ := H
 replace H : ((laws_toIntA2S.f k l2).bind fun t326 => ((laws_toIntS.f k l3).bind fun t329 => ((spec_LongerWith.f k t323 a1 t326 t329).bind fun bt332 => ((laws_toJobS.f k l0).bind fun t334 => ((laws_toIntA2S.f k l2).bind fun t337 => ((laws_toIntS.f k l3).bind fun t340 => ((impl_LongerWith.f k t334 a1 t337 t340).bind fun bt343 => (if (bt343.1 != bt332.1) = true then (laws_FnExactLongerWith.j0 k l0 l2 l3 t334 t337 t340 true) else (laws_FnExactLongerWith.j0 k l0 l2 l3 t334 t337 t340 (bt343.2 != bt332.2)))))))))) = some r := H
 have A10 := Aside0.mk A100
 clear A100
 replace H := Option.bind_eq_some_iff.mp H
 obtain ⟨t326, A110, H⟩ := H
 replace H : ((laws_toIntS.f k l3).bind fun t329 => ((spec_LongerWith.f k t323 a1 t326 t329).bind fun bt332 => ((laws_toJobS.f k l0).bind fun t334 => ((laws_toIntA2S.f k l2).bind fun t337 => ((laws_toIntS.f k l3).bind fun t340 => ((impl_LongerWith.f k t334 a1 t337 t340).bind fun bt343 => (if (bt343.1 != bt332.1) = true then (laws_FnExactLongerWith.j0 k l0 l2 l3 t334 t337 t340 true) else (laws_FnExactLongerWith.j0 k l0 l2 l3 t334 t337 t340 (bt343.2 != bt332.2))))))))) = some r := H
 have A11 := Aside0.mk A110
 clear A110
 replace H := Option.bind_eq_some_iff.mp H
 obtain ⟨t329, A120, H⟩ := H
 replace H : ((spec_LongerWith.f k t323 a1 t326 t329).bind fun bt332 => ((laws_toJobS.f k l0).bind fun t334 => ((laws_toIntA2S.f k l2).bind fun t337 => ((laws_toIntS.f k l3).bind fun t340 => ((impl_LongerWith.f k t334 a1 t337 t340).bind fun bt343 => (if (bt343.1 != bt332.1) = true then (laws_FnExactLongerWith.j0 k l0 l2 l3 t334 t337 t340 true) else (laws_FnExactLongerWith.j0 k l0 l2 l3 t334 t337 t340 (bt343.2 != bt332.2)))))))) = some r := H
 have A12 := Aside0.mk A120
 clear A120
 replace H := Option.bind_eq_some_iff.mp H
 obtain ⟨⟨t332, t333⟩, A130, H⟩ := H
 replace H : ((laws_toJobS.f k l0).bind fun t334 => ((laws_toIntA2S.f k l2).bind fun t337 => ((laws_toIntS.f k l3).bind fun t340 => ((impl_LongerWith.f k t334 a1 t337 t340).bind fun bt343 => (if (bt343.1 != t332) = true then (laws_FnExactLongerWith.j0 k l0 l2 l3 t334 t337 t340 true) else (laws_FnExactLongerWith.j0 k l0 l2 l3 t334 t337 t340 (bt343.2 != t333))))))) = some r := H
 have A13 := Aside0.mk A130
 clear A130
 replace H := Option.bind_eq_some_iff.mp H
 obtain ⟨t334, A140, H⟩ := H
 replace H : ((laws_toIntA2S.f k l2).bind fun t337 => ((laws_toIntS.f k l3).bind fun t340 => ((impl_LongerWith.f k t334 a1 t337 t340).bind fun bt343 => (if (bt343.1 != t332) = true then (laws_FnExactLongerWith.j0 k l0 l2 l3 t334 t337 t340 true) else (laws_FnExactLongerWith.j0 k l0 l2 l3 t334 t337 t340 (bt343.2 != t333)))))) = some r := H
 have A14 := Aside0.mk A140
 clear A140
 replace H := Option.bind_eq_some_iff.mp H
 obtain ⟨t337, A150, H⟩ := H
 replace H : ((laws_toIntS.f k l3).bind fun t340 => ((impl_LongerWith.f k t334 a1 t337 t340).bind fun bt343 => (if (bt343.1 != t332) = true then (laws_FnExactLongerWith.j0 k l0 l2 l3 t334 t337 t340 true) else (laws_FnExactLongerWith.j0 k l0 l2 l3 t334 t337 t340 (bt343.2 != t333))))) = some r := H
 have A15 := Aside0.mk A150
 clear A150
 replace H := Option.bind_eq_some_iff.mp H
 obtain ⟨t340, A160, H⟩ := H
 replace H : ((impl_LongerWith.f k t334 a1 t337 t340).bind fun bt343 => (if (bt343.1 != t332) = true then (laws_FnExactLongerWith.j0 k l0 l2 l3 t334 t337 t340 true) else (laws_FnExactLongerWith.j0 k l0 l2 l3 t334 t337 t340 (bt343.2 != t333)))) = some r := H
 have A16 := Aside0.mk A160
 clear A160
 replace H := Option.bind_eq_some_iff.mp H
 obtain ⟨⟨t343, t344⟩, A170, H⟩ := H
 replace H : (if (t343 != t332) = true then (laws_FnExactLongerWith.j0 k l0 l2 l3 t334 t337 t340 true) else (laws_FnExactLongerWith.j0 k l0 l2 l3 t334 t337 t340 (t344 != t333))) = some r := H
 have A17 := Aside0.mk A170
 clear A170
 have HC18 := Aside0.mk H
 clear H
 go_enter Try.func3, Try.ntmps3
 go_upto_region 15 with (first | ((with_reducible refine gate_callee (f := 5) rfl ?_); refine goesL_ (some 22) rfl rfl Try.func5 (by kernel_rfl) rfl #[.slice A0 l0.length c0, .int .i64 1048576] rfl (by (try simp only [mA_]); first | done | rfl | (simp only [List.length_drop, List.length_take]; rfl)) ?_; (with_reducible refine (laws_szJobS.calls _ _ l0 1048576 t321 _ ?side1 ?side2 A6.out).mono ?_); (case side1 => repeat (first | exact HR0.out | (with_reducible refine Kd.C_alloc ?_ _) | (with_reducible refine Kd.C_drewN ?_ _) | (with_reducible refine Kd.C_drew ?_))); (case side2 => exact HC0.out); rintro e w' ⟨rfl, ⟨nd, rfl⟩⟩; refine ⟨_, rfl, ?_⟩) | ((with_reducible refine gate_callee (f := 6) rfl ?_); refine goesL_ (some 27) rfl rfl Try.func6 (by kernel_rfl) rfl #[.slice A2 l2.length c2, .int .i64 t321] rfl (by (try simp only [mA_]); first | done | rfl | (simp only [List.length_drop, List.length_take]; rfl)) ?_; (with_reducible refine (laws_szIntA2S.calls _ _ l2 t321 t322 _ ?side1 ?side2 A8.out).mono ?_); (case side1 => repeat (first | exact HR2.out | (with_reducible refine Kd.C_alloc ?_ _) | (with_reducible refine Kd.C_drewN ?_ _) | (with_reducible refine Kd.C_drew ?_))); (case side2 => exact HC2.out); rintro e w' ⟨rfl, ⟨nd, rfl⟩⟩; refine ⟨_, rfl, ?_⟩) | ((with_reducible refine gate_callee (f := 8) rfl ?_); refine goesL_ (some 32) rfl rfl Try.func8 (by kernel_rfl) rfl #[.slice A0 l0.length c0] rfl (by (try simp only [mA_]); first | done | rfl | (simp only [List.length_drop, List.length_take]; rfl)) ?_; (with_reducible refine (laws_toJobS.calls k _ _ l0 t323 _ ?side1 ?side2 A10.out).mono ?_); (case side1 => repeat (first | exact HR0.out | (with_reducible refine Kd.C_alloc ?_ _) | (with_reducible refine Kd.C_drewN ?_ _) | (with_reducible refine Kd.C_drew ?_))); (case side2 => exact HC0.out); rintro e w19 ⟨v324, rfl, ho0, hb⟩; refine ⟨_, rfl, ?_⟩; have n0_ := Aside0.mk (Kd.R_lower ho0 (below_size (bw HB.out))); have n1_ := Aside0.mk (below_step (bw HB.out) hb); have HO325 := n0_; replace HB := n1_; clear n0_ n1_; (try clear hb); (try clear hb2); (try clear hk); (try clear hi); (try clear ho0)) | ((with_reducible refine gate_callee (f := 9) rfl ?_); refine goesL_ (some 35) rfl rfl Try.func9 (by kernel_rfl) rfl #[.slice A2 l2.length c2] rfl (by (try simp only [mA_]); first | done | rfl | (simp only [List.length_drop, List.length_take]; rfl)) ?_; (with_reducible refine (laws_toIntA2S.calls k _ _ l2 t326 _ ?side1 ?side2 A11.out).mono ?_); (case side1 => first | exact bC HR2.out HB.out | exact Kd.C_below HR2.out HB.out); (case side2 => exact HC2.out); rintro e w20 ⟨v327, rfl, ho0, hb⟩; refine ⟨_, rfl, ?_⟩; have n0_ := Aside0.mk (Kd.R_below (bR HO325.out) hb); have n1_ := Aside0.mk (Kd.R_lower ho0 (below_size (bw HB.out))); have n2_ := Aside0.mk (below_step (bw HB.out) hb); replace HO325 := n0_; have HO328 := n1_; replace HB := n2_; clear n0_ n1_ n2_; (try clear hb); (try clear hb2); (try clear hk); (try clear hi); (try clear ho0)) | ((with_reducible refine gate_callee (f := 10) rfl ?_); refine goesL_ (some 37) rfl rfl Try.func10 (by kernel_rfl) rfl #[.slice A3 l3.length c3] rfl (by (try simp only [mA_]); first | done | rfl | (simp only [List.length_drop, List.length_take]; rfl)) ?_; (with_reducible refine (laws_toIntS.calls k _ _ l3 t329 _ ?side1 ?side2 A12.out).mono ?_); (case side1 => first | exact bC HR3.out HB.out | exact Kd.C_below HR3.out HB.out); (case side2 => exact HC3.out); rintro e w21 ⟨v330, rfl, ho0, hb⟩; refine ⟨_, rfl, ?_⟩; have n0_ := Aside0.mk (Kd.R_below (bR HO325.out) hb); have n1_ := Aside0.mk (Kd.R_below (bR HO328.out) hb); have n2_ := Aside0.mk (Kd.R_lower ho0 (below_size (bw HB.out))); have n3_ := Aside0.mk (below_step (bw HB.out) hb); replace HO325 := n0_; replace HO328 := n1_; have HO331 := n2_; replace HB := n3_; clear n0_ n1_ n2_ n3_; (try clear hb); (try clear hb2); (try clear hk); (try clear hi); (try clear ho0); obtain ⟨Ao22, co22, eo22⟩ := Kd.R_slice HO325.out; subst eo22; obtain ⟨Ao23, co23, eo23⟩ := Kd.R_slice HO328.out; subst eo23; obtain ⟨Ao24, co24, eo24⟩ := Kd.R_slice HO331.out; subst eo24) | ((with_reducible refine gate_callee (f := 7) rfl ?_); refine goesL_ (some 38) rfl rfl Try.func7 (by kernel_rfl) rfl #[.slice Ao22 t323.length co22, .int .i64 a1, .slice Ao23 t326.length co23, .slice Ao24 t329.length co24] rfl (by (try simp only [mA_]); first | done | rfl | (simp only [List.length_drop, List.length_take]; rfl)) ?_; (with_reducible refine (spec_LongerWith.calls k _ _ t323 a1 _ _ t326 _ _ t329 t332 t333 _ ?side1 ?side2 ?side3 ?side4 ?side5 ?side6 A13.out).mono ?_); (case side1 => repeat (first | exact (Kd.R_reads' HO325.out).2.2 | (with_reducible refine Kd.C_alloc ?_ _) | (with_reducible refine Kd.C_drewN ?_ _) | (with_reducible refine Kd.C_drew ?_))); (case side2 => exact (Kd.R_reads' HO325.out).2.1); (case side3 => repeat (first | exact (Kd.R_reads' HO328.out).2.2 | (with_reducible refine Kd.C_alloc ?_ _) | (with_reducible refine Kd.C_drewN ?_ _) | (with_reducible refine Kd.C_drew ?_))); (case side4 => exact (Kd.R_reads' HO328.out).2.1); (case side5 => repeat (first | exact (Kd.R_reads' HO331.out).2.2 | (with_reducible refine Kd.C_alloc ?_ _) | (with_reducible refine Kd.C_drewN ?_ _) | (with_reducible refine Kd.C_drew ?_))); (case side6 => exact (Kd.R_reads' HO331.out).2.1); rintro e w25 ⟨rfl, hb⟩; refine ⟨_, rfl, ?_⟩; have n0_ := Aside0.mk (Kd.R_below (bR HO325.out) hb); have n1_ := Aside0.mk (Kd.R_below (bR HO328.out) hb); have n2_ := Aside0.mk (Kd.R_below (bR HO331.out) hb); have n3_ := Aside0.mk (below_step (bw HB.out) hb); replace HO325 := n0_; replace HO328 := n1_; replace HO331 := n2_; replace HB := n3_; clear n0_ n1_ n2_ n3_; (try clear hb); (try clear hb2); (try clear hk); (try clear hi)) | ((with_reducible refine gate_callee (f := 8) rfl ?_); refine goesL_ (some 42) rfl rfl Try.func8 (by kernel_rfl) rfl #[.slice A0 l0.length c0] rfl (by (try simp only [mA_]); first | done | rfl | (simp only [List.length_drop, List.length_take]; rfl)) ?_; (with_reducible refine (laws_toJobS.calls k _ _ l0 t334 _ ?side1 ?side2 A14.out).mono ?_); (case side1 => first | exact bC HR0.out HB.out | exact Kd.C_below HR0.out HB.out); (case side2 => exact HC0.out); rintro e w26 ⟨v335, rfl, ho0, hb⟩; refine ⟨_, rfl, ?_⟩; have n0_ := Aside0.mk (Kd.R_elder' (bR HO325.out) (Kd.R_base ho0) hb); have n1_ := Aside0.mk (Kd.R_below (bR HO328.out) hb); have n2_ := Aside0.mk (Kd.R_below (bR HO331.out) hb); have n3_ := Aside0.mk (Kd.R_lower (Kd.R_new' ho0 (Kd.R_lt (bR HO325.out))) (below_size (bw HB.out))); have n4_ := Aside0.mk (below_step (bw HB.out) hb); replace HO325 := n0_; replace HO328 := n1_; replace HO331 := n2_; have HO336 := n3_; replace HB := n4_; clear n0_ n1_ n2_ n3_ n4_; (try clear hb); (try clear hb2); (try clear hk); (try clear hi); (try clear ho0)) | ((with_reducible refine gate_callee (f := 9) rfl ?_); refine goesL_ (some 44) rfl rfl Try.func9 (by kernel_rfl) rfl #[.slice A2 l2.length c2] rfl (by (try simp only [mA_]); first | done | rfl | (simp only [List.length_drop, List.length_take]; rfl)) ?_; (with_reducible refine (laws_toIntA2S.calls k _ _ l2 t337 _ ?side1 ?side2 A15.out).mono ?_); (case side1 => first | exact bC HR2.out HB.out | exact Kd.C_below HR2.out HB.out); (case side2 => exact HC2.out); rintro e w27 ⟨v338, rfl, ho0, hb⟩; refine ⟨_, rfl, ?_⟩; have n0_ := Aside0.mk (Kd.R_below (bR HO325.out) hb); have n1_ := Aside0.mk (Kd.R_elder' (bR HO328.out) (Kd.R_base ho0) hb); have n2_ := Aside0.mk (Kd.R_below (bR HO331.out) hb); have n3_ := Aside0.mk (Kd.R_below (bR HO336.out) hb); have n4_ := Aside0.mk (Kd.R_lower (Kd.R_new' ho0 (Kd.R_lt (bR HO328.out))) (below_size (bw HB.out))); have n5_ := Aside0.mk (below_step (bw HB.out) hb); replace HO325 := n0_; replace HO328 := n1_; replace HO331 := n2_; replace HO336 := n3_; have HO339 := n4_; replace HB := n5_; clear n0_ n1_ n2_ n3_ n4_ n5_; (try clear hb); (try clear hb2); (try clear hk); (try clear hi); (try clear ho0)) | ((with_reducible refine gate_callee (f := 10) rfl ?_); refine goesL_ (some 46) rfl rfl Try.func10 (by kernel_rfl) rfl #[.slice A3 l3.length c3] rfl (by (try simp only [mA_]); first | done | rfl | (simp only [List.length_drop, List.length_take]; rfl)) ?_; (with_reducible refine (laws_toIntS.calls k _ _ l3 t340 _ ?side1 ?side2 A16.out).mono ?_); (case side1 => first | exact bC HR3.out HB.out | exact Kd.C_below HR3.out HB.out); (case side2 => exact HC3.out); rintro e w28 ⟨v341, rfl, ho0, hb⟩; refine ⟨_, rfl, ?_⟩; have n0_ := Aside0.mk (Kd.R_below (bR HO325.out) hb); have n1_ := Aside0.mk (Kd.R_below (bR HO328.out) hb); have n2_ := Aside0.mk (Kd.R_elder' (bR HO331.out) (Kd.R_base ho0) hb); have n3_ := Aside0.mk (Kd.R_below (bR HO336.out) hb); have n4_ := Aside0.mk (Kd.R_below (bR HO339.out) hb); have n5_ := Aside0.mk (Kd.R_lower (Kd.R_new' ho0 (Kd.R_lt (bR HO331.out))) (below_size (bw HB.out))); have n6_ := Aside0.mk (below_step (bw HB.out) hb); replace HO325 := n0_; replace HO328 := n1_; replace HO331 := n2_; replace HO336 := n3_; replace HO339 := n4_; have HO342 := n5_; replace HB := n6_; clear n0_ n1_ n2_ n3_ n4_ n5_ n6_; (try clear hb); (try clear hb2); (try clear hk); (try clear hi); (try clear ho0); obtain ⟨Ao29, co29, eo29⟩ := Kd.R_slice HO336.out; subst eo29; obtain ⟨Ao30, co30, eo30⟩ := Kd.R_slice HO339.out; subst eo30; obtain ⟨Ao31, co31, eo31⟩ := Kd.R_slice HO342.out; subst eo31) | ((with_reducible refine gate_callee (f := 11) rfl ?_); refine goesL_ (some 52) rfl rfl Try.func11 (by kernel_rfl) rfl #[.slice Ao29 t334.length co29, .int .i64 a1, .slice Ao30 t337.length co30, .slice Ao31 t340.length co31] rfl (by (try simp only [mA_]); first | done | rfl | (simp only [List.length_drop, List.length_take]; rfl)) ?_; (with_reducible refine (impl_LongerWith.calls k _ _ t334 a1 _ _ t337 _ _ t340 t343 t344 _ ?side1 ?side2 ?side3 ?side4 ?side5 ?side6 A17.out).mono ?_); (case side1 => repeat (first | exact (Kd.R_reads' HO336.out).2.2 | (with_reducible refine Kd.C_alloc ?_ _) | (with_reducible refine Kd.C_drewN ?_ _) | (with_reducible refine Kd.C_drew ?_))); (case side2 => exact (Kd.R_reads' HO336.out).2.1); (case side3 => repeat (first | exact (Kd.R_reads' HO339.out).2.2 | (with_reducible refine Kd.C_alloc ?_ _) | (with_reducible refine Kd.C_drewN ?_ _) | (with_reducible refine Kd.C_drew ?_))); (case side4 => exact (Kd.R_reads' HO339.out).2.1); (case side5 => repeat (first | exact (Kd.R_reads' HO342.out).2.2 | (with_reducible refine Kd.C_alloc ?_ _) | (with_reducible refine Kd.C_drewN ?_ _) | (with_reducible refine Kd.C_drew ?_))); (case side6 => exact (Kd.R_reads' HO342.out).2.1); rintro e w32 ⟨rfl, hb⟩; refine ⟨_, rfl, ?_⟩; have n0_ := Aside0.mk (Kd.R_below (bR HO325.out) hb); have n1_ := Aside0.mk (Kd.R_below (bR HO328.out) hb); have n2_ := Aside0.mk (Kd.R_below (bR HO331.out) hb); have n3_ := Aside0.mk (Kd.R_below (bR HO336.out) hb); have n4_ := Aside0.mk (Kd.R_below (bR HO339.out) hb); have n5_ := Aside0.mk (Kd.R_below (bR HO342.out) hb); have n6_ := Aside0.mk (below_step (bw HB.out) hb); replace HO325 := n0_; replace HO328 := n1_; replace HO331 := n2_; replace HO336 := n3_; replace HO339 := n4_; replace HO342 := n5_; replace HB := n6_; clear n0_ n1_ n2_ n3_ n4_ n5_ n6_; (try clear hb); (try clear hb2); (try clear hk); (try clear hi)))
 (try simp only [Act.put, List.setIfInBounds_toArray, List.set_cons_zero, List.set_cons_succ])
 go_cut [62] (fun v62 wc => ∃ (kq : Nat) (x62_17 : Bool), v62 = .bool x62_17 ∧ Aside0 (laws_FnExactLongerWith.j0 kq l0 l2 l3 t334 t337 t340 x62_17 = some r) ∧ Aside0 (kq ≤ k) ∧ Aside0 (Kd.R k46 46 wc w.heap.size (fun _ => True) (.slice Ao29 t334.length co29) t334) ∧ Aside0 (Kd.R k37 37 wc w.heap.size (fun _ => True) (.slice Ao30 t337.length co30) t337) ∧ Aside0 (Kd.R (Kd.int .i64) 3 wc w.heap.size (fun _ => True) (.slice Ao31 t340.length co31) t340) ∧ Aside0 (Below w.heap.size w wc))
 case first =>
  have H := HC18.out
  clear HC18
  by_cases c33 : (t343 != t332) = true
  rotate_left
  ·rw [if_neg c33] at H
   have c33b0 : (t343 != t332) = false := by simpa using c33
   (try (have c33b1 : decide (t343 = t332) = true := by simpa using c33))
   (try (have c33b2 : (t343 == t332) = true := by simpa using c33))
   clear c33
   (first | rw [c33b0] | (simp only [i64_w, i32_w]; rw [c33b0]) | skip)
   have H' := Aside0.mk H
   clear H
   go_wp2
   go_meet
   case rel => exact ⟨_, ((t344 != t333)), (by first | rfl | (simp; done) | (simp [*]; done)), H', ⟨by first | omega | exact Nat.le_refl _⟩, ⟨by (with_reducible repeat (first | apply Kd.R_alloc | apply Kd.R_drewN | apply Kd.R_drew)); exact Kd.R_mono HO336.out (fun _ hk => trivial)⟩, ⟨by (with_reducible repeat (first | apply Kd.R_alloc | apply Kd.R_drewN | apply Kd.R_drew)); exact Kd.R_mono HO339.out (fun _ hk => trivial)⟩, ⟨by (with_reducible repeat (first | apply Kd.R_alloc | apply Kd.R_drewN | apply Kd.R_drew)); exact Kd.R_mono HO342.out (fun _ hk => trivial)⟩, ⟨bw HB.out⟩⟩
  rw [if_pos c33] at H
  have c33b0 : (t343 != t332) = true := c33
  (try (have c33b1 : decide (t343 = t332) = false := by simpa using c33))
  (try (have c33b2 : (t343 == t332) = false := by simpa using c33))
  (try (have c33b3 : ¬ (t343 = t332) := by simpa using c33))
  clear c33
  (first | rw [c33b0] | (simp only [i64_w, i32_w]; rw [c33b0]) | skip)
  have H' := Aside0.mk H
  clear H
  go_wp2
  go_meet
  case rel => exact ⟨_, (true), (by first | rfl | (simp; done) | (simp [*]; done)), H', ⟨by first | omega | exact Nat.le_refl _⟩, ⟨by (with_reducible repeat (first | apply Kd.R_alloc | apply Kd.R_drewN | apply Kd.R_drew)); exact Kd.R_mono HO336.out (fun _ hk => trivial)⟩, ⟨by (with_reducible repeat (first | apply Kd.R_alloc | apply Kd.R_drewN | apply Kd.R_drew)); exact Kd.R_mono HO339.out (fun _ hk => trivial)⟩, ⟨by (with_reducible repeat (first | apply Kd.R_alloc | apply Kd.R_drewN | apply Kd.R_drew)); exact Kd.R_mono HO342.out (fun _ hk => trivial)⟩, ⟨bw HB.out⟩⟩
 case rest =>
  clear HC18
  try clear c1
  try clear c2
  try clear p2
  try clear c3
  try clear c5
  try clear c5b0
  try clear c5b1
  try clear c6
  try clear c7
  try clear c7b0
  try clear c8
  try clear c9
  try clear c9b0
  try clear c10
  try clear c11
  try clear c33
  try clear c33b0
  try clear c33b1
  try clear c33b2
  obtain ⟨kq, x62_17, rfl, HA, HJ17, HO_12, HO_13, HO_14, HB⟩ := hcut
  cases kq with
  | zero => exact absurd HA.out (by simp [laws_FnExactLongerWith.j0])
  | succ kj17 =>
   have H := HA.out
   clear HA
   simp only [laws_FnExactLongerWith.j0] at H
   by_cases c34 : x62_17 = true
   ·subst c34
    have H1 : (some false) = some r := by rw [if_pos rfl] at H; exact H
    clear H
    have H := H1
    clear H1
    obtain rfl := Option.some.inj H
    go_wp2
    go_ret
    exact ⟨by first | rfl | (simp [errW_none, errW_some] <;> rfl) | (simp [*, errW_none, errW_some] <;> rfl), bw HB.out⟩
   replace c34 := Bool.eq_false_iff.mpr c34
   subst c34
   have H1 : ((laws_toJobS.f kj17 l0).bind fun t345 => ((laws_eqJobS.f kj17 t334 t345).bind fun t348 => (if t348 = true then ((laws_toIntA2S.f kj17 l2).bind fun t349 => ((laws_eqIntA2S.f kj17 t337 t349).bind fun t352 => (if t352 = true then ((laws_toIntS.f kj17 l3).bind fun t353 => ((laws_eqIntS.f kj17 t340 t353).bind fun t356 => (if t356 = true then (some true) else (some false)))) else (some false)))) else (some false)))) = some r := by rw [if_neg (show ¬ (false = true) by decide)] at H; exact H
   clear H
   have H := H1
   clear H1
   replace H := Option.bind_eq_some_iff.mp H
   obtain ⟨t345, A350, H⟩ := H
   replace H : ((laws_eqJobS.f kj17 t334 t345).bind fun t348 => (if t348 = true then ((laws_toIntA2S.f kj17 l2).bind fun t349 => ((laws_eqIntA2S.f kj17 t337 t349).bind fun t352 => (if t352 = true then ((laws_toIntS.f kj17 l3).bind fun t353 => ((laws_eqIntS.f kj17 t340 t353).bind fun t356 => (if t356 = true then (some true) else (some false)))) else (some false)))) else (some false))) = some r := H
   have A35 := Aside0.mk A350
   clear A350
   replace H := Option.bind_eq_some_iff.mp H
   obtain ⟨t348, A360, H⟩ := H
   replace H : (if t348 = true then ((laws_toIntA2S.f kj17 l2).bind fun t349 => ((laws_eqIntA2S.f kj17 t337 t349).bind fun t352 => (if t352 = true then ((laws_toIntS.f kj17 l3).bind fun t353 => ((laws_eqIntS.f kj17 t340 t353).bind fun t356 => (if t356 = true then (some true) else (some false)))) else (some false)))) else (some false)) = some r := H
   have A36 := Aside0.mk A360
   clear A360
   by_cases c37 : t348 = true
   rotate_left
   ·replace c37 := Bool.eq_false_iff.mpr c37
    subst c37
    have H1 : (some false) = some r := by rw [if_neg (show ¬ (false = true) by decide)] at H; exact H
    clear H
    have H := H1
    clear H1
    obtain rfl := Option.some.inj H
    go_wp2_with (first | ((with_reducible refine gate_callee (f := 8) rfl ?_); refine goesL_ (some 65) rfl rfl Try.func8 (by kernel_rfl) rfl #[.slice A0 l0.length c0] rfl (by (try simp only [mA_]); first | done | rfl | (simp only [List.length_drop, List.length_take]; rfl)) ?_; (with_reducible refine (laws_toJobS.calls kj17 _ _ l0 t345 _ ?side1 ?side2 A35.out).mono ?_); (case side1 => first | exact bC HR0.out HB.out | exact Kd.C_below HR0.out HB.out); (case side2 => exact HC0.out); rintro e w66 ⟨v346, rfl, ho0, hb⟩; refine ⟨_, rfl, ?_⟩; have n0_ := Aside0.mk (Kd.R_elder' (bR HO_12.out) (Kd.R_base ho0) hb); have n1_ := Aside0.mk (Kd.R_below (bR HO_13.out) hb); have n2_ := Aside0.mk (Kd.R_below (bR HO_14.out) hb); have n3_ := Aside0.mk (Kd.R_lower (Kd.R_new' ho0 (Kd.R_lt (bR HO_12.out))) (below_size (bw HB.out))); have n4_ := Aside0.mk (below_step (bw HB.out) hb); replace HO_12 := n0_; replace HO_13 := n1_; replace HO_14 := n2_; have HO347 := n3_; replace HB := n4_; clear n0_ n1_ n2_ n3_ n4_; (try clear hb); (try clear hb2); (try clear hk); (try clear hi); (try clear ho0); obtain ⟨Ao67, co67, eo67⟩ := Kd.R_slice HO347.out; subst eo67) | ((with_reducible refine gate_callee (f := 12) rfl ?_); refine goesL_ (some 66) rfl rfl Try.func12 (by kernel_rfl) rfl #[.slice Ao29 t334.length co29, .slice Ao67 t345.length co67] rfl (by (try simp only [mA_]); first | done | rfl | (simp only [List.length_drop, List.length_take]; rfl)) ?_; (with_reducible refine (laws_eqJobS.calls kj17 _ _ t334 _ _ t345 false _ ?side1 ?side2 ?side3 ?side4 A36.out).mono ?_); (case side1 => repeat (first | exact (Kd.R_reads' HO_12.out).2.2 | (with_reducible refine Kd.C_alloc ?_ _) | (with_reducible refine Kd.C_drewN ?_ _) | (with_reducible refine Kd.C_drew ?_))); (case side2 => exact (Kd.R_reads' HO_12.out).2.1); (case side3 => repeat (first | exact (Kd.R_reads' HO347.out).2.2 | (with_reducible refine Kd.C_alloc ?_ _) | (with_reducible refine Kd.C_drewN ?_ _) | (with_reducible refine Kd.C_drew ?_))); (case side4 => exact (Kd.R_reads' HO347.out).2.1); rintro e w68 ⟨rfl, hb⟩; refine ⟨_, rfl, ?_⟩; have n0_ := Aside0.mk (Kd.R_below (bR HO_12.out) hb); have n1_ := Aside0.mk (Kd.R_below (bR HO_13.out) hb); have n2_ := Aside0.mk (Kd.R_below (bR HO_14.out) hb); have n3_ := Aside0.mk (Kd.R_below (bR HO347.out) hb); have n4_ := Aside0.mk (below_step (bw HB.out) hb); replace HO_12 := n0_; replace HO_13 := n1_; replace HO_14 := n2_; replace HO347 := n3_; replace HB := n4_; clear n0_ n1_ n2_ n3_ n4_; (try clear hb); (try clear hb2); (try clear hk); (try clear hi)))
    go_ret
    exact ⟨by first | rfl | (simp [errW_none, errW_some] <;> rfl) | (simp [*, errW_none, errW_some] <;> rfl), bw HB.out⟩
   subst c37
   have H1 : ((laws_toIntA2S.f kj17 l2).bind fun t349 => ((laws_eqIntA2S.f kj17 t337 t349).bind fun t352 => (if t352 = true then ((laws_toIntS.f kj17 l3).bind fun t353 => ((laws_eqIntS.f kj17 t340 t353).bind fun t356 => (if t356 = true then (some true) else (some false)))) else (some false)))) = some r := by rw [if_pos rfl] at H; exact H
   clear H
   have H := H1
   clear H1
   replace H := Option.bind_eq_some_iff.mp H
   obtain ⟨t349, A380, H⟩ := H
   replace H : ((laws_eqIntA2S.f kj17 t337 t349).bind fun t352 => (if t352 = true then ((laws_toIntS.f kj17 l3).bind fun t353 => ((laws_eqIntS.f kj17 t340 t353).bind fun t356 => (if t356 = true then (some true) else (some false)))) else (some false))) = some r := H
   have A38 := Aside0.mk A380
   clear A380
   replace H := Option.bind_eq_some_iff.mp H
   obtain ⟨t352, A390, H⟩ := H
   replace H : (if t352 = true then ((laws_toIntS.f kj17 l3).bind fun t353 => ((laws_eqIntS.f kj17 t340 t353).bind fun t356 => (if t356 = true then (some true) else (some false)))) else (some false)) = some r := H
   have A39 := Aside0.mk A390
   clear A390
   by_cases c40 : t352 = true
   rotate_left
   ·replace c40 := Bool.eq_false_iff.mpr c40
    subst c40
    have H1 : (some false) = some r := by rw [if_neg (show ¬ (false = true) by decide)] at H; exact H
    clear H
    have H := H1
    clear H1
    obtain rfl := Option.some.inj H
    go_wp2_with (first | ((with_reducible refine gate_callee (f := 8) rfl ?_); refine goesL_ (some 65) rfl rfl Try.func8 (by kernel_rfl) rfl #[.slice A0 l0.length c0] rfl (by (try simp only [mA_]); first | done | rfl | (simp only [List.length_drop, List.length_take]; rfl)) ?_; (with_reducible refine (laws_toJobS.calls kj17 _ _ l0 t345 _ ?side1 ?side2 A35.out).mono ?_); (case side1 => first | exact bC HR0.out HB.out | exact Kd.C_below HR0.out HB.out); (case side2 => exact HC0.out); rintro e w60 ⟨v346, rfl, ho0, hb⟩; refine ⟨_, rfl, ?_⟩; have n0_ := Aside0.mk (Kd.R_elder' (bR HO_12.out) (Kd.R_base ho0) hb); have n1_ := Aside0.mk (Kd.R_below (bR HO_13.out) hb); have n2_ := Aside0.mk (Kd.R_below (bR HO_14.out) hb); have n3_ := Aside0.mk (Kd.R_lower (Kd.R_new' ho0 (Kd.R_lt (bR HO_12.out))) (below_size (bw HB.out))); have n4_ := Aside0.mk (below_step (bw HB.out) hb); replace HO_12 := n0_; replace HO_13 := n1_; replace HO_14 := n2_; have HO347 := n3_; replace HB := n4_; clear n0_ n1_ n2_ n3_ n4_; (try clear hb); (try clear hb2); (try clear hk); (try clear hi); (try clear ho0); obtain ⟨Ao61, co61, eo61⟩ := Kd.R_slice HO347.out; subst eo61) | ((with_reducible refine gate_callee (f := 12) rfl ?_); refine goesL_ (some 66) rfl rfl Try.func12 (by kernel_rfl) rfl #[.slice Ao29 t334.length co29, .slice Ao61 t345.length co61] rfl (by (try simp only [mA_]); first | done | rfl | (simp only [List.length_drop, List.length_take]; rfl)) ?_; (with_reducible refine (laws_eqJobS.calls kj17 _ _ t334 _ _ t345 true _ ?side1 ?side2 ?side3 ?side4 A36.out).mono ?_); (case side1 => repeat (first | exact (Kd.R_reads' HO_12.out).2.2 | (with_reducible refine Kd.C_alloc ?_ _) | (with_reducible refine Kd.C_drewN ?_ _) | (with_reducible refine Kd.C_drew ?_))); (case side2 => exact (Kd.R_reads' HO_12.out).2.1); (case side3 => repeat (first | exact (Kd.R_reads' HO347.out).2.2 | (with_reducible refine Kd.C_alloc ?_ _) | (with_reducible refine Kd.C_drewN ?_ _) | (with_reducible refine Kd.C_drew ?_))); (case side4 => exact (Kd.R_reads' HO347.out).2.1); rintro e w62 ⟨rfl, hb⟩; refine ⟨_, rfl, ?_⟩; have n0_ := Aside0.mk (Kd.R_below (bR HO_12.out) hb); have n1_ := Aside0.mk (Kd.R_below (bR HO_13.out) hb); have n2_ := Aside0.mk (Kd.R_below (bR HO_14.out) hb); have n3_ := Aside0.mk (Kd.R_below (bR HO347.out) hb); have n4_ := Aside0.mk (below_step (bw HB.out) hb); replace HO_12 := n0_; replace HO_13 := n1_; replace HO_14 := n2_; replace HO347 := n3_; replace HB := n4_; clear n0_ n1_ n2_ n3_ n4_; (try clear hb); (try clear hb2); (try clear hk); (try clear hi)) | ((with_reducible refine gate_callee (f := 9) rfl ?_); refine goesL_ (some 70) rfl rfl Try.func9 (by kernel_rfl) rfl #[.slice A2 l2.length c2] rfl (by (try simp only [mA_]); first | done | rfl | (simp only [List.length_drop, List.length_take]; rfl)) ?_; (with_reducible refine (laws_toIntA2S.calls kj17 _ _ l2 t349 _ ?side1 ?side2 A38.out).mono ?_); (case side1 => first | exact bC HR2.out HB.out | exact Kd.C_below HR2.out HB.out); (case side2 => exact HC2.out); rintro e w63 ⟨v350, rfl, ho0, hb⟩; refine ⟨_, rfl, ?_⟩; have n0_ := Aside0.mk (Kd.R_below (bR HO_12.out) hb); have n1_ := Aside0.mk (Kd.R_elder' (bR HO_13.out) (Kd.R_base ho0) hb); have n2_ := Aside0.mk (Kd.R_below (bR HO_14.out) hb); have n3_ := Aside0.mk (Kd.R_below (bR HO347.out) hb); have n4_ := Aside0.mk (Kd.R_lower (Kd.R_new' ho0 (Kd.R_lt (bR HO_13.out))) (below_size (bw HB.out))); have n5_ := Aside0.mk (below_step (bw HB.out) hb); replace HO_12 := n0_; replace HO_13 := n1_; replace HO_14 := n2_; replace HO347 := n3_; have HO351 := n4_; replace HB := n5_; clear n0_ n1_ n2_ n3_ n4_ n5_; (try clear hb); (try clear hb2); (try clear hk); (try clear hi); (try clear ho0); obtain ⟨Ao64, co64, eo64⟩ := Kd.R_slice HO351.out; subst eo64) | ((with_reducible refine gate_callee (f := 13) rfl ?_); refine goesL_ (some 71) rfl rfl Try.func13 (by kernel_rfl) rfl #[.slice Ao30 t337.length co30, .slice Ao64 t349.length co64] rfl (by (try simp only [mA_]); first | done | rfl | (simp only [List.length_drop, List.length_take]; rfl)) ?_; (with_reducible refine (laws_eqIntA2S.calls kj17 _ _ t337 _ _ t349 false _ ?side1 ?side2 ?side3 ?side4 A39.out).mono ?_); (case side1 => repeat (first | exact (Kd.R_reads' HO_13.out).2.2 | (with_reducible refine Kd.C_alloc ?_ _) | (with_reducible refine Kd.C_drewN ?_ _) | (with_reducible refine Kd.C_drew ?_))); (case side2 => exact (Kd.R_reads' HO_13.out).2.1); (case side3 => repeat (first | exact (Kd.R_reads' HO351.out).2.2 | (with_reducible refine Kd.C_alloc ?_ _) | (with_reducible refine Kd.C_drewN ?_ _) | (with_reducible refine Kd.C_drew ?_))); (case side4 => exact (Kd.R_reads' HO351.out).2.1); rintro e w65 ⟨rfl, hb⟩; refine ⟨_, rfl, ?_⟩; have n0_ := Aside0.mk (Kd.R_below (bR HO_12.out) hb); have n1_ := Aside0.mk (Kd.R_below (bR HO_13.out) hb); have n2_ := Aside0.mk (Kd.R_below (bR HO_14.out) hb); have n3_ := Aside0.mk (Kd.R_below (bR HO347.out) hb); have n4_ := Aside0.mk (Kd.R_below (bR HO351.out) hb); have n5_ := Aside0.mk (below_step (bw HB.out) hb); replace HO_12 := n0_; replace HO_13 := n1_; replace HO_14 := n2_; replace HO347 := n3_; replace HO351 := n4_; replace HB := n5_; clear n0_ n1_ n2_ n3_ n4_ n5_; (try clear hb); (try clear hb2); (try clear hk); (try clear hi)))
    go_ret
    exact ⟨by first | rfl | (simp [errW_none, errW_some] <;> rfl) | (simp [*, errW_none, errW_some] <;> rfl), bw HB.out⟩
   subst c40
   have H1 : ((laws_toIntS.f kj17 l3).bind fun t353 => ((laws_eqIntS.f kj17 t340 t353).bind fun t356 => (if t356 = true then (some true) else (some false)))) = some r := by rw [if_pos rfl] at H; exact H
   clear H
   have H := H1
   clear H1
   replace H := Option.bind_eq_some_iff.mp H
   obtain ⟨t353, A410, H⟩ := H
   replace H : ((laws_eqIntS.f kj17 t340 t353).bind fun t356 => (if t356 = true then (some true) else (some false))) = some r := H
   have A41 := Aside0.mk A410
   clear A410
   replace H := Option.bind_eq_some_iff.mp H
   obtain ⟨t356, A420, H⟩ := H
   replace H : (if t356 = true then (some true) else (some false)) = some r := H
   have A42 := Aside0.mk A420
   clear A420
   by_cases c43 : t356 = true
   ·subst c43
    have H1 : (some true) = some r := by rw [if_pos rfl] at H; exact H
    clear H
    have H := H1
    clear H1
    obtain rfl := Option.some.inj H
    go_wp2_with (first | ((with_reducible refine gate_callee (f := 8) rfl ?_); refine goesL_ (some 65) rfl rfl Try.func8 (by kernel_rfl) rfl #[.slice A0 l0.length c0] rfl (by (try simp only [mA_]); first | done | rfl | (simp only [List.length_drop, List.length_take]; rfl)) ?_; (with_reducible refine (laws_toJobS.calls kj17 _ _ l0 t345 _ ?side1 ?side2 A35.out).mono ?_); (case side1 => first | exact bC HR0.out HB.out | exact Kd.C_below HR0.out HB.out); (case side2 => exact HC0.out); rintro e w44 ⟨v346, rfl, ho0, hb⟩; refine ⟨_, rfl, ?_⟩; have n0_ := Aside0.mk (Kd.R_elder' (bR HO_12.out) (Kd.R_base ho0) hb); have n1_ := Aside0.mk (Kd.R_below (bR HO_13.out) hb); have n2_ := Aside0.mk (Kd.R_below (bR HO_14.out) hb); have n3_ := Aside0.mk (Kd.R_lower (Kd.R_new' ho0 (Kd.R_lt (bR HO_12.out))) (below_size (bw HB.out))); have n4_ := Aside0.mk (below_step (bw HB.out) hb); replace HO_12 := n0_; replace HO_13 := n1_; replace HO_14 := n2_; have HO347 := n3_; replace HB := n4_; clear n0_ n1_ n2_ n3_ n4_; (try clear hb); (try clear hb2); (try clear hk); (try clear hi); (try clear ho0); obtain ⟨Ao45, co45, eo45⟩ := Kd.R_slice HO347.out; subst eo45) | ((with_reducible refine gate_callee (f := 12) rfl ?_); refine goesL_ (some 66) rfl rfl Try.func12 (by kernel_rfl) rfl #[.slice Ao29 t334.length co29, .slice Ao45 t345.length co45] rfl (by (try simp only [mA_]); first | done | rfl | (simp only [List.length_drop, List.length_take]; rfl)) ?_; (with_reducible refine (laws_eqJobS.calls kj17 _ _ t334 _ _ t345 true _ ?side1 ?side2 ?side3 ?side4 A36.out).mono ?_); (case side1 => repeat (first | exact (Kd.R_reads' HO_12.out).2.2 | (with_reducible refine Kd.C_alloc ?_ _) | (with_reducible refine Kd.C_drewN ?_ _) | (with_reducible refine Kd.C_drew ?_))); (case side2 => exact (Kd.R_reads' HO_12.out).2.1); (case side3 => repeat (first | exact (Kd.R_reads' HO347.out).2.2 | (with_reducible refine Kd.C_alloc ?_ _) | (with_reducible refine Kd.C_drewN ?_ _) | (with_reducible refine Kd.C_drew ?_))); (case side4 => exact (Kd.R_reads' HO347.out).2.1); rintro e w46 ⟨rfl, hb⟩; refine ⟨_, rfl, ?_⟩; have n0_ := Aside0.mk (Kd.R_below (bR HO_12.out) hb); have n1_ := Aside0.mk (Kd.R_below (bR HO_13.out) hb); have n2_ := Aside0.mk (Kd.R_below (bR HO_14.out) hb); have n3_ := Aside0.mk (Kd.R_below (bR HO347.out) hb); have n4_ := Aside0.mk (below_step (bw HB.out) hb); replace HO_12 := n0_; replace HO_13 := n1_; replace HO_14 := n2_; replace HO347 := n3_; replace HB := n4_; clear n0_ n1_ n2_ n3_ n4_; (try clear hb); (try clear hb2); (try clear hk); (try clear hi)) | ((with_reducible refine gate_callee (f := 9) rfl ?_); refine goesL_ (some 70) rfl rfl Try.func9 (by kernel_rfl) rfl #[.slice A2 l2.length c2] rfl (by (try simp only [mA_]); first | done | rfl | (simp only [List.length_drop, List.length_take]; rfl)) ?_; (with_reducible refine (laws_toIntA2S.calls kj17 _ _ l2 t349 _ ?side1 ?side2 A38.out).mono ?_); (case side1 => first | exact bC HR2.out HB.out | exact Kd.C_below HR2.out HB.out); (case side2 => exact HC2.out); rintro e w47 ⟨v350, rfl, ho0, hb⟩; refine ⟨_, rfl, ?_⟩; have n0_ := Aside0.mk (Kd.R_below (bR HO_12.out) hb); have n1_ := Aside0.mk (Kd.R_elder' (bR HO_13.out) (Kd.R_base ho0) hb); have n2_ := Aside0.mk (Kd.R_below (bR HO_14.out) hb); have n3_ := Aside0.mk (Kd.R_below (bR HO347.out) hb); have n4_ := Aside0.mk (Kd.R_lower (Kd.R_new' ho0 (Kd.R_lt (bR HO_13.out))) (below_size (bw HB.out))); have n5_ := Aside0.mk (below_step (bw HB.out) hb); replace HO_12 := n0_; replace HO_13 := n1_; replace HO_14 := n2_; replace HO347 := n3_; have HO351 := n4_; replace HB := n5_; clear n0_ n1_ n2_ n3_ n4_ n5_; (try clear hb); (try clear hb2); (try clear hk); (try clear hi); (try clear ho0); obtain ⟨Ao48, co48, eo48⟩ := Kd.R_slice HO351.out; subst eo48) | ((with_reducible refine gate_callee (f := 13) rfl ?_); refine goesL_ (some 71) rfl rfl Try.func13 (by kernel_rfl) rfl #[.slice Ao30 t337.length co30, .slice Ao48 t349.length co48] rfl (by (try simp only [mA_]); first | done | rfl | (simp only [List.length_drop, List.length_take]; rfl)) ?_; (with_reducible refine (laws_eqIntA2S.calls kj17 _ _ t337 _ _ t349 true _ ?side1 ?side2 ?side3 ?side4 A39.out).mono ?_); (case side1 => repeat (first | exact (Kd.R_reads' HO_13.out).2.2 | (with_reducible refine Kd.C_alloc ?_ _) | (with_reducible refine Kd.C_drewN ?_ _) | (with_reducible refine Kd.C_drew ?_))); (case side2 => exact (Kd.R_reads' HO_13.out).2.1); (case side3 => repeat (first | exact (Kd.R_reads' HO351.out).2.2 | (with_reducible refine Kd.C_alloc ?_ _) | (with_reducible refine Kd.C_drewN ?_ _) | (with_reducible refine Kd.C_drew ?_))); (case side4 => exact (Kd.R_reads' HO351.out).2.1); rintro e w49 ⟨rfl, hb⟩; refine ⟨_, rfl, ?_⟩; have n0_ := Aside0.mk (Kd.R_below (bR HO_12.out) hb); have n1_ := Aside0.mk (Kd.R_below (bR HO_13.out) hb); have n2_ := Aside0.mk (Kd.R_below (bR HO_14.out) hb); have n3_ := Aside0.mk (Kd.R_below (bR HO347.out) hb); have n4_ := Aside0.mk (Kd.R_below (bR HO351.out) hb); have n5_ := Aside0.mk (below_step (bw HB.out) hb); replace HO_12 := n0_; replace HO_13 := n1_; replace HO_14 := n2_; replace HO347 := n3_; replace HO351 := n4_; replace HB := n5_; clear n0_ n1_ n2_ n3_ n4_ n5_; (try clear hb); (try clear hb2); (try clear hk); (try clear hi)) | ((with_reducible refine gate_callee (f := 10) rfl ?_); refine goesL_ (some 75) rfl rfl Try.func10 (by kernel_rfl) rfl #[.slice A3 l3.length c3] rfl (by (try simp only [mA_]); first | done | rfl | (simp only [List.length_drop, List.length_take]; rfl)) ?_; (with_reducible refine (laws_toIntS.calls kj17 _ _ l3 t353 _ ?side1 ?side2 A41.out).mono ?_); (case side1 => first | exact bC HR3.out HB.out | exact Kd.C_below HR3.out HB.out); (case side2 => exact HC3.out); rintro e w50 ⟨v354, rfl, ho0, hb⟩; refine ⟨_, rfl, ?_⟩; have n0_ := Aside0.mk (Kd.R_below (bR HO_12.out) hb); have n1_ := Aside0.mk (Kd.R_below (bR HO_13.out) hb); have n2_ := Aside0.mk (Kd.R_elder' (bR HO_14.out) (Kd.R_base ho0) hb); have n3_ := Aside0.mk (Kd.R_below (bR HO347.out) hb); have n4_ := Aside0.mk (Kd.R_below (bR HO351.out) hb); have n5_ := Aside0.mk (Kd.R_lower (Kd.R_new' ho0 (Kd.R_lt (bR HO_14.out))) (below_size (bw HB.out))); have n6_ := Aside0.mk (below_step (bw HB.out) hb); replace HO_12 := n0_; replace HO_13 := n1_; replace HO_14 := n2_; replace HO347 := n3_; replace HO351 := n4_; have HO355 := n5_; replace HB := n6_; clear n0_ n1_ n2_ n3_ n4_ n5_ n6_; (try clear hb); (try clear hb2); (try clear hk); (try clear hi); (try clear ho0); obtain ⟨Ao51, co51, eo51⟩ := Kd.R_slice HO355.out; subst eo51) | ((with_reducible refine gate_callee (f := 14) rfl ?_); refine goesL_ (some 76) rfl rfl Try.func14 (by kernel_rfl) rfl #[.slice Ao31 t340.length co31, .slice Ao51 t353.length co51] rfl (by (try simp only [mA_]); first | done | rfl | (simp only [List.length_drop, List.length_take]; rfl)) ?_; (with_reducible refine (laws_eqIntS.calls kj17 _ _ t340 _ _ t353 true _ ?side1 ?side2 ?side3 ?side4 A42.out).mono ?_); (case side1 => repeat (first | exact (Kd.R_reads' HO_14.out).2.2 | (with_reducible refine Kd.C_alloc ?_ _) | (with_reducible refine Kd.C_drewN ?_ _) | (with_reducible refine Kd.C_drew ?_))); (case side2 => exact (Kd.R_reads' HO_14.out).2.1); (case side3 => repeat (first | exact (Kd.R_reads' HO355.out).2.2 | (with_reducible refine Kd.C_alloc ?_ _) | (with_reducible refine Kd.C_drewN ?_ _) | (with_reducible refine Kd.C_drew ?_))); (case side4 => exact (Kd.R_reads' HO355.out).2.1); rintro e w' ⟨rfl, ⟨nd, rfl⟩⟩; refine ⟨_, rfl, ?_⟩))
    go_ret
    exact ⟨by first | rfl | (simp [errW_none, errW_some] <;> rfl) | (simp [*, errW_none, errW_some] <;> rfl), bw HB.out⟩
   replace c43 := Bool.eq_false_iff.mpr c43
   subst c43
   have H1 : (some false) = some r := by rw [if_neg (show ¬ (false = true) by decide)] at H; exact H
   clear H
   have H := H1
   clear H1
   obtain rfl := Option.some.inj H
   go_wp2_with (first | ((with_reducible refine gate_callee (f := 8) rfl ?_); refine goesL_ (some 65) rfl rfl Try.func8 (by kernel_rfl) rfl #[.slice A0 l0.length c0] rfl (by (try simp only [mA_]); first | done | rfl | (simp only [List.length_drop, List.length_take]; rfl)) ?_; (with_reducible refine (laws_toJobS.calls kj17 _ _ l0 t345 _ ?side1 ?side2 A35.out).mono ?_); (case side1 => first | exact bC HR0.out HB.out | exact Kd.C_below HR0.out HB.out); (case side2 => exact HC0.out); rintro e w52 ⟨v346, rfl, ho0, hb⟩; refine ⟨_, rfl, ?_⟩; have n0_ := Aside0.mk (Kd.R_elder' (bR HO_12.out) (Kd.R_base ho0) hb); have n1_ := Aside0.mk (Kd.R_below (bR HO_13.out) hb); have n2_ := Aside0.mk (Kd.R_below (bR HO_14.out) hb); have n3_ := Aside0.mk (Kd.R_lower (Kd.R_new' ho0 (Kd.R_lt (bR HO_12.out))) (below_size (bw HB.out))); have n4_ := Aside0.mk (below_step (bw HB.out) hb); replace HO_12 := n0_; replace HO_13 := n1_; replace HO_14 := n2_; have HO347 := n3_; replace HB := n4_; clear n0_ n1_ n2_ n3_ n4_; (try clear hb); (try clear hb2); (try clear hk); (try clear hi); (try clear ho0); obtain ⟨Ao53, co53, eo53⟩ := Kd.R_slice HO347.out; subst eo53) | ((with_reducible refine gate_callee (f := 12) rfl ?_); refine goesL_ (some 66) rfl rfl Try.func12 (by kernel_rfl) rfl #[.slice Ao29 t334.length co29, .slice Ao53 t345.length co53] rfl (by (try simp only [mA_]); first | done | rfl | (simp only [List.length_drop, List.length_take]; rfl)) ?_; (with_reducible refine (laws_eqJobS.calls kj17 _ _ t334 _ _ t345 true _ ?side1 ?side2 ?side3 ?side4 A36.out).mono ?_); (case side1 => repeat (first | exact (Kd.R_reads' HO_12.out).2.2 | (with_reducible refine Kd.C_alloc ?_ _) | (with_reducible refine Kd.C_drewN ?_ _) | (with_reducible refine Kd.C_drew ?_))); (case side2 => exact (Kd.R_reads' HO_12.out).2.1); (case side3 => repeat (first | exact (Kd.R_reads' HO347.out).2.2 | (with_reducible refine Kd.C_alloc ?_ _) | (with_reducible refine Kd.C_drewN ?_ _) | (with_reducible refine Kd.C_drew ?_))); (case side4 => exact (Kd.R_reads' HO347.out).2.1); rintro e w54 ⟨rfl, hb⟩; refine ⟨_, rfl, ?_⟩; have n0_ := Aside0.mk (Kd.R_below (bR HO_12.out) hb); have n1_ := Aside0.mk (Kd.R_below (bR HO_13.out) hb); have n2_ := Aside0.mk (Kd.R_below (bR HO_14.out) hb); have n3_ := Aside0.mk (Kd.R_below (bR HO347.out) hb); have n4_ := Aside0.mk (below_step (bw HB.out) hb); replace HO_12 := n0_; replace HO_13 := n1_; replace HO_14 := n2_; replace HO347 := n3_; replace HB := n4_; clear n0_ n1_ n2_ n3_ n4_; (try clear hb); (try clear hb2); (try clear hk); (try clear hi)) | ((with_reducible refine gate_callee (f := 9) rfl ?_); refine goesL_ (some 70) rfl rfl Try.func9 (by kernel_rfl) rfl #[.slice A2 l2.length c2] rfl (by (try simp only [mA_]); first | done | rfl | (simp only [List.length_drop, List.length_take]; rfl)) ?_; (with_reducible refine (laws_toIntA2S.calls kj17 _ _ l2 t349 _ ?side1 ?side2 A38.out).mono ?_); (case side1 => first | exact bC HR2.out HB.out | exact Kd.C_below HR2.out HB.out); (case side2 => exact HC2.out); rintro e w55 ⟨v350, rfl, ho0, hb⟩; refine ⟨_, rfl, ?_⟩; have n0_ := Aside0.mk (Kd.R_below (bR HO_12.out) hb); have n1_ := Aside0.mk (Kd.R_elder' (bR HO_13.out) (Kd.R_base ho0) hb); have n2_ := Aside0.mk (Kd.R_below (bR HO_14.out) hb); have n3_ := Aside0.mk (Kd.R_below (bR HO347.out) hb); have n4_ := Aside0.mk (Kd.R_lower (Kd.R_new' ho0 (Kd.R_lt (bR HO_13.out))) (below_size (bw HB.out))); have n5_ := Aside0.mk (below_step (bw HB.out) hb); replace HO_12 := n0_; replace HO_13 := n1_; replace HO_14 := n2_; replace HO347 := n3_; have HO351 := n4_; replace HB := n5_; clear n0_ n1_ n2_ n3_ n4_ n5_; (try clear hb); (try clear hb2); (try clear hk); (try clear hi); (try clear ho0); obtain ⟨Ao56, co56, eo56⟩ := Kd.R_slice HO351.out; subst eo56) | ((with_reducible refine gate_callee (f := 13) rfl ?_); refine goesL_ (some 71) rfl rfl Try.func13 (by kernel_rfl) rfl #[.slice Ao30 t337.length co30, .slice Ao56 t349.length co56] rfl (by (try simp only [mA_]); first | done | rfl | (simp only [List.length_drop, List.length_take]; rfl)) ?_; (with_reducible refine (laws_eqIntA2S.calls kj17 _ _ t337 _ _ t349 true _ ?side1 ?side2 ?side3 ?side4 A39.out).mono ?_); (case side1 => repeat (first | exact (Kd.R_reads' HO_13.out).2.2 | (with_reducible refine Kd.C_alloc ?_ _) | (with_reducible refine Kd.C_drewN ?_ _) | (with_reducible refine Kd.C_drew ?_))); (case side2 => exact (Kd.R_reads' HO_13.out).2.1); (case side3 => repeat (first | exact (Kd.R_reads' HO351.out).2.2 | (with_reducible refine Kd.C_alloc ?_ _) | (with_reducible refine Kd.C_drewN ?_ _) | (with_reducible refine Kd.C_drew ?_))); (case side4 => exact (Kd.R_reads' HO351.out).2.1); rintro e w57 ⟨rfl, hb⟩; refine ⟨_, rfl, ?_⟩; have n0_ := Aside0.mk (Kd.R_below (bR HO_12.out) hb); have n1_ := Aside0.mk (Kd.R_below (bR HO_13.out) hb); have n2_ := Aside0.mk (Kd.R_below (bR HO_14.out) hb); have n3_ := Aside0.mk (Kd.R_below (bR HO347.out) hb); have n4_ := Aside0.mk (Kd.R_below (bR HO351.out) hb); have n5_ := Aside0.mk (below_step (bw HB.out) hb); replace HO_12 := n0_; replace HO_13 := n1_; replace HO_14 := n2_; replace HO347 := n3_; replace HO351 := n4_; replace HB := n5_; clear n0_ n1_ n2_ n3_ n4_ n5_; (try clear hb); (try clear hb2); (try clear hk); (try clear hi)) | ((with_reducible refine gate_callee (f := 10) rfl ?_); refine goesL_ (some 75) rfl rfl Try.func10 (by kernel_rfl) rfl #[.slice A3 l3.length c3] rfl (by (try simp only [mA_]); first | done | rfl | (simp only [List.length_drop, List.length_take]; rfl)) ?_; (with_reducible refine (laws_toIntS.calls kj17 _ _ l3 t353 _ ?side1 ?side2 A41.out).mono ?_); (case side1 => first | exact bC HR3.out HB.out | exact Kd.C_below HR3.out HB.out); (case side2 => exact HC3.out); rintro e w58 ⟨v354, rfl, ho0, hb⟩; refine ⟨_, rfl, ?_⟩; have n0_ := Aside0.mk (Kd.R_below (bR HO_12.out) hb); have n1_ := Aside0.mk (Kd.R_below (bR HO_13.out) hb); have n2_ := Aside0.mk (Kd.R_elder' (bR HO_14.out) (Kd.R_base ho0) hb); have n3_ := Aside0.mk (Kd.R_below (bR HO347.out) hb); have n4_ := Aside0.mk (Kd.R_below (bR HO351.out) hb); have n5_ := Aside0.mk (Kd.R_lower (Kd.R_new' ho0 (Kd.R_lt (bR HO_14.out))) (below_size (bw HB.out))); have n6_ := Aside0.mk (below_step (bw HB.out) hb); replace HO_12 := n0_; replace HO_13 := n1_; replace HO_14 := n2_; replace HO347 := n3_; replace HO351 := n4_; have HO355 := n5_; replace HB := n6_; clear n0_ n1_ n2_ n3_ n4_ n5_ n6_; (try clear hb); (try clear hb2); (try clear hk); (try clear hi); (try clear ho0); obtain ⟨Ao59, co59, eo59⟩ := Kd.R_slice HO355.out; subst eo59) | ((with_reducible refine gate_callee (f := 14) rfl ?_); refine goesL_ (some 76) rfl rfl Try.func14 (by kernel_rfl) rfl #[.slice Ao31 t340.length co31, .slice Ao59 t353.length co59] rfl (by (try simp only [mA_]); first | done | rfl | (simp only [List.length_drop, List.length_take]; rfl)) ?_; (with_reducible refine (laws_eqIntS.calls kj17 _ _ t340 _ _ t353 false _ ?side1 ?side2 ?side3 ?side4 A42.out).mono ?_); (case side1 => repeat (first | exact (Kd.R_reads' HO_14.out).2.2 | (with_reducible refine Kd.C_alloc ?_ _) | (with_reducible refine Kd.C_drewN ?_ _) | (with_reducible refine Kd.C_drew ?_))); (case side2 => exact (Kd.R_reads' HO_14.out).2.1); (case side3 => repeat (first | exact (Kd.R_reads' HO355.out).2.2 | (with_reducible refine Kd.C_alloc ?_ _) | (with_reducible refine Kd.C_drewN ?_ _) | (with_reducible refine Kd.C_drew ?_))); (case side4 => exact (Kd.R_reads' HO355.out).2.1); rintro e w' ⟨rfl, ⟨nd, rfl⟩⟩; refine ⟨_, rfl, ?_⟩))
   go_ret
   exact ⟨by first | rfl | (simp [errW_none, errW_some] <;> rfl) | (simp [*, errW_none, errW_some] <;> rfl), bw HB.out⟩

end Go.Proofs.Yteifefecoaefnaa.X
