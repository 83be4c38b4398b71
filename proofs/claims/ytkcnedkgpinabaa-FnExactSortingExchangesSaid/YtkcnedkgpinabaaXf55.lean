-- Written by a program of this session (wip/gen/xp.py, over the kit's printer). Not trusted: Lean checks it.
import Derived.Test.YtkcnedkgpinabaaX0
import Derived.Test.YtkcnedkgpinabaaXf129
import Derived.Test.YtkcnedkgpinabaaXf131
import Derived.Test.YtkcnedkgpinabaaXf139
import Derived.Test.YtkcnedkgpinabaaXf24
import Derived.Test.YtkcnedkgpinabaaXf241
import Derived.Test.YtkcnedkgpinabaaXf82
namespace Go.Proofs.Ytkcnedkgpinabaa.X
open Go.RowKit Go.Proofs.YtkcnedkgpinabaaW.PrintWords Go.Proofs.YtkcnedkgpinabaaW.PrintLast Go.Proofs.YtkcnedkgpinabaaW.PrintMore
attribute [local go_sem] max2_int min2_int max_two min_two max_three min_three max_four min_four   -- for this text's walks alone
set_option linter.unusedVariables false
set_option linter.unusedSimpArgs false

/-! ### spec_l3Plain: function 240 -/
def spec_l3Plain.l0 : Nat → List (S127) → Int → Option (Bool)
 | 0, _, _ => none
 | k + 1, x0, x3 => if x3 < (x0.length : Int) then (if 0 ≤ x3 then (if ((rd_T127 x0 x3).f2) = 0 then (spec_l3Plain.l0 k x0 (wrap64 (x3 + 1))) else (some false)) else (none)) else (some true)
def spec_l3Plain.f (k : Nat) (l0 : List (S127)) : Option (Bool) := spec_l3Plain.l0 k l0 0
theorem spec_l3Plain.mono_l : ∀ k, (∀ y0 y1, LeO (spec_l3Plain.l0 k y0 y1) (spec_l3Plain.l0 (k + 1) y0 y1))
 | 0 => fun _ _ r h => by simp [spec_l3Plain.l0] at h
 | k + 1 => by
  have ih0 := spec_l3Plain.mono_l k
  ·intro y0 y1
   unfold spec_l3Plain.l0
   repeat' first
   | (with_reducible exact ih0 _ _)
   | (with_reducible exact LeO.refl _)
   | (with_reducible exact LeO.none _)
   | (with_reducible refine LeO.ite ?_ ?_)
   | (with_reducible refine LeO.bind ?_ (fun _ => ?_))
   | exact ih0 _ _
   | exact LeO.none _
   | refine LeO.ite ?_ ?_
   | refine LeO.bind ?_ (fun _ => ?_)
theorem spec_l3Plain.mono : ∀ a0 k, LeO (spec_l3Plain.f k a0) (spec_l3Plain.f (k + 1) a0) := by
 intro a0 k
 have ih0 := spec_l3Plain.mono_l k
 unfold spec_l3Plain.f
 repeat' first
   | (with_reducible exact ih0 _ _)
   | (with_reducible exact LeO.refl _)
   | (with_reducible exact LeO.none _)
   | (with_reducible refine LeO.ite ?_ ?_)
   | (with_reducible refine LeO.bind ?_ (fun _ => ?_))
   | exact ih0 _ _
   | exact LeO.none _
   | refine LeO.ite ?_ ?_
   | refine LeO.bind ?_ (fun _ => ?_)
set_option maxHeartbeats 8000000 in
set_option maxRecDepth 100000 in
theorem spec_l3Plain.calls (k : Nat) (A0 : Option Addr) (c0 : Nat) (l0 : List (S127)) (r : Bool) (w : World) (hr0 : Kd.C k127 w A0 l0.length l0) (hc0 : l0.length ≤ c0) (h : spec_l3Plain.f k l0 = some r) :
  Calls Try.prog 240 #[.slice A0 l0.length c0] w fun e w' => e = .returned (.bool r) ∧ Drawn0 w w' := by
 have HR0 := Aside0.mk hr0
 have HC0 := Aside0.mk hc0
 clear hr0 hc0
 have H : (spec_l3Plain.l0 k l0 0) = some r := h
 clear h
 have H' := Aside0.mk H
 clear H
 go_enter Try.func240, Try.ntmps240
 go_wp2
 go_loopg [3] k (fun kq v3 w' => ∃ (x3_1 : Int), v3 = .int .i64 x3_1 ∧ Aside0 (spec_l3Plain.l0 kq l0 x3_1 = some r) ∧ Aside0 (kq ≤ k) ∧ Drawn0 w w')
 case atStart => exact ⟨(0), (by first | rfl | (simp; done) | (simp [*]; done)), H', ⟨Nat.le_refl _⟩, by repeat (first | exact Drawn0.refl _ | apply Drawn0.step)⟩
 case round =>
  clear H'
  obtain ⟨x3_1, rfl, HA, HK1, ⟨m1, rfl⟩⟩ := hrel
  cases gk with
  | zero => exact absurd HA.out (by simp [spec_l3Plain.l0])
  | succ k1 =>
   have H := HA.out
   clear HA
   simp only [spec_l3Plain.l0] at H
   by_cases c2 : x3_1 < (l0.length : Int)
   ·rw [if_pos c2] at H
    have c2b0 : decide (x3_1 < (l0.length : Int)) = true := decide_eq_true c2
    clear c2
    by_cases c3 : 0 ≤ x3_1
    ·rw [if_pos c3] at H
     have c3b0 : decide (0 ≤ x3_1) = true := decide_eq_true c3
     clear c3
     by_cases c4 : ((rd_T127 l0 x3_1).f2) = 0
     ·rw [if_pos c4] at H
      have c4b0 : (((rd_T127 l0 x3_1).f2) == 0) = true := beq_iff_eq.mpr c4
      have c4b1 : (((rd_T127 l0 x3_1).f2) != 0) = false := bne_eq_false_iff_eq.mpr c4
      clear c4
      have H' := Aside0.mk H
      clear H
      have p1036 : 0 ≤ (x3_1 : Int) := of_decide_eq_true (by first | (with_reducible assumption) | assumption)
      have q1036 : x3_1 < (l0.length : Int) := of_decide_eq_true (by first | (with_reducible assumption) | assumption)
      obtain ⟨ad1036, e1036, hx1036_0, hx1036_1, hx1036_2, hx1036_3⟩ := at_T127 HR0.out x3_1 p1036 q1036
      cases e1036
      replace p1036 := eq_true p1036
      replace q1036 := eq_true q1036
      go_wp2
      go_roundg k1
      case measure => have := HK1.out; omega
      case rel => exact ⟨(wrap64 (x3_1 + 1)), (by first | rfl | (simp; done) | (simp [*]; done)), H', ⟨by have := HK1.out; omega⟩, by repeat (first | exact Drawn0.refl _ | apply Drawn0.step)⟩
     ·rw [if_neg c4] at H
      have c4b0 : (((rd_T127 l0 x3_1).f2) == 0) = false := beq_eq_false_iff_ne.mpr c4
      have c4b1 : (((rd_T127 l0 x3_1).f2) != 0) = true := bne_iff_ne.mpr c4
      obtain rfl := Option.some.inj H
      have p1036 : 0 ≤ (x3_1 : Int) := of_decide_eq_true (by first | (with_reducible assumption) | assumption)
      have q1036 : x3_1 < (l0.length : Int) := of_decide_eq_true (by first | (with_reducible assumption) | assumption)
      obtain ⟨ad1036, e1036, hx1036_0, hx1036_1, hx1036_2, hx1036_3⟩ := at_T127 HR0.out x3_1 p1036 q1036
      cases e1036
      replace p1036 := eq_true p1036
      replace q1036 := eq_true q1036
      go_wp2
      go_ret
      exact ⟨by first | rfl | (simp; done) | (simp [*]; done), by repeat (first | exact Drawn0.refl _ | apply Drawn0.step)⟩
    ·rw [if_neg c3] at H
     exact absurd H (by simp)
   ·rw [if_neg c2] at H
    have c2b0 : decide (x3_1 < (l0.length : Int)) = false := decide_eq_false c2
    clear c2
    obtain rfl := Option.some.inj H
    go_wp2
    go_ret
    exact ⟨by first | rfl | (simp; done) | (simp [*]; done), by repeat (first | exact Drawn0.refl _ | apply Drawn0.step)⟩

/-! ### spec_l3Ruled: function 208 -/
def spec_l3Ruled.f (k : Nat) (l0 : List (S127)) (a1 : Int) : Option (Bool) := (spec_l2Good.f k l0).bind fun t1037 => (if t1037 = true then ((spec_l1In.f a1 1 4).bind fun t1038 => (if t1038 = true then (if a1 = 1 then (some true) else ((spec_l3Plain.f k l0).bind fun t1039 => (some t1039))) else (some false))) else (some false))
theorem spec_l3Ruled.mono : ∀ a0 a1 k, LeO (spec_l3Ruled.f k a0 a1) (spec_l3Ruled.f (k + 1) a0 a1) := by
 intro a0 a1 k
 unfold spec_l3Ruled.f
 repeat' first
   | (with_reducible exact spec_l2Good.mono _ _)
   | (with_reducible exact spec_l3Plain.mono _ _)
   | (with_reducible exact LeO.refl _)
   | (with_reducible exact LeO.none _)
   | (with_reducible refine LeO.ite ?_ ?_)
   | (with_reducible refine LeO.bind ?_ (fun _ => ?_))
   | exact spec_l2Good.mono _ _
   | exact spec_l3Plain.mono _ _
   | exact LeO.none _
   | refine LeO.ite ?_ ?_
   | refine LeO.bind ?_ (fun _ => ?_)
set_option maxHeartbeats 8000000 in
set_option maxRecDepth 100000 in
theorem spec_l3Ruled.calls (k : Nat) (A0 : Option Addr) (c0 : Nat) (l0 : List (S127)) (a1 : Int) (r : Bool) (w : World) (hr0 : Kd.C k127 w A0 l0.length l0) (hc0 : l0.length ≤ c0) (h : spec_l3Ruled.f k l0 a1 = some r) :
  Calls Try.prog 208 #[.slice A0 l0.length c0, .int .i64 a1] w fun e w' => e = .returned (.bool r) ∧ Below w.heap.size w w' := by
 have HR0 := Aside0.mk hr0
 have HC0 := Aside0.mk hc0
 clear hr0 hc0
 have HB := Aside0.mk (Below.refl w.heap.size w)
 have H : ((spec_l2Good.f k l0).bind fun t1037 => (if t1037 = true then ((spec_l1In.f a1 1 4).bind fun t1038 => (if t1038 = true then (if a1 = 1 then (some true) else ((spec_l3Plain.f k l0).bind fun t1039 => (some t1039))) else (some false))) else (some false))) = some r := h
 clear h
 replace H := Option.bind_eq_some_iff.mp H
 obtain ⟨t1037, A30, H⟩ := H
 replace H : (if t1037 = true then ((spec_l1In.f a1 1 4).bind fun t1038 => (if t1038 = true then (if a1 = 1 then (some true) else ((spec_l3Plain.f k l0).bind fun t1039 => (some t1039))) else (some false))) else (some false)) = some r := H
 have A3 := Aside0.mk A30
 clear A30
 by_cases c4 : t1037 = true
 ·subst c4
  have H1 : ((spec_l1In.f a1 1 4).bind fun t1038 => (if t1038 = true then (if a1 = 1 then (some true) else ((spec_l3Plain.f k l0).bind fun t1039 => (some t1039))) else (some false))) = some r := by rw [if_pos rfl] at H; exact H
  clear H
  have H := H1
  clear H1
  replace H := Option.bind_eq_some_iff.mp H
  obtain ⟨t1038, A50, H⟩ := H
  replace H : (if t1038 = true then (if a1 = 1 then (some true) else ((spec_l3Plain.f k l0).bind fun t1039 => (some t1039))) else (some false)) = some r := H
  have A5 := Aside0.mk A50
  clear A50
  by_cases c6 : t1038 = true
  ·subst c6
   have H1 : (if a1 = 1 then (some true) else ((spec_l3Plain.f k l0).bind fun t1039 => (some t1039))) = some r := by rw [if_pos rfl] at H; exact H
   clear H
   have H := H1
   clear H1
   by_cases c7 : a1 = 1
   ·rw [if_pos c7] at H
    have c7b0 : (a1 == 1) = true := beq_iff_eq.mpr c7
    have c7b1 : (a1 != 1) = false := bne_eq_false_iff_eq.mpr c7
    clear c7
    obtain rfl := Option.some.inj H
    go_enter Try.func208, Try.ntmps208
    go_wp2_with (first | ((with_reducible refine gate_callee (f := 114) rfl ?_); refine goesL_ (some 6) rfl rfl Try.func114 (by kernel_rfl) rfl #[.slice A0 l0.length c0] rfl (by (try simp only [List.map_toArray, List.map_cons, List.map_nil]); first | done | rfl | (simp only [List.length_drop, List.length_take]; rfl)) ?_; (with_reducible refine (spec_l2Good.calls k _ _ l0 true _ ?side1 ?side2 A3.out).mono ?_); (case side1 => repeat (first | exact HR0.out | (with_reducible refine Kd.C_alloc ?_ _) | (with_reducible refine Kd.C_drewN ?_ _) | (with_reducible refine Kd.C_drew ?_))); (case side2 => exact HC0.out); rintro e w8 ⟨rfl, hb⟩; refine ⟨_, rfl, ?_⟩; have n0_ := Aside0.mk (below_step (by repeat (first | (with_reducible first | exact HB.out | apply below_alloc | apply pw_below_drewN | apply below_drew1) | exact HB.out)) hb); clear HB; have HB := n0_; clear n0_; (try clear hb); (try clear hb2); (try clear hk); (try clear hi)) | (go_at_call 82; (with_reducible refine (spec_l1In.calls a1 1 4 true _ A5.out).mono ?_); rintro e w' ⟨rfl, ⟨nd, rfl⟩⟩))
    go_ret
    exact ⟨by first | rfl | (simp [errW_none, errW_some] <;> rfl) | (simp [*, errW_none, errW_some] <;> rfl), by repeat (first | (with_reducible first | exact HB.out | apply below_alloc | apply pw_below_drewN | apply below_drew1) | exact HB.out)⟩
   ·rw [if_neg c7] at H
    have c7b0 : (a1 == 1) = false := beq_eq_false_iff_ne.mpr c7
    have c7b1 : (a1 != 1) = true := bne_iff_ne.mpr c7
    replace H := Option.bind_eq_some_iff.mp H
    obtain ⟨t1039, A90, H⟩ := H
    replace H : (some t1039) = some r := H
    have A9 := Aside0.mk A90
    clear A90
    obtain rfl := Option.some.inj H
    go_enter Try.func208, Try.ntmps208
    go_wp2_with (first | ((with_reducible refine gate_callee (f := 114) rfl ?_); refine goesL_ (some 6) rfl rfl Try.func114 (by kernel_rfl) rfl #[.slice A0 l0.length c0] rfl (by (try simp only [List.map_toArray, List.map_cons, List.map_nil]); first | done | rfl | (simp only [List.length_drop, List.length_take]; rfl)) ?_; (with_reducible refine (spec_l2Good.calls k _ _ l0 true _ ?side1 ?side2 A3.out).mono ?_); (case side1 => repeat (first | exact HR0.out | (with_reducible refine Kd.C_alloc ?_ _) | (with_reducible refine Kd.C_drewN ?_ _) | (with_reducible refine Kd.C_drew ?_))); (case side2 => exact HC0.out); rintro e w10 ⟨rfl, hb⟩; refine ⟨_, rfl, ?_⟩; have n0_ := Aside0.mk (below_step (by repeat (first | (with_reducible first | exact HB.out | apply below_alloc | apply pw_below_drewN | apply below_drew1) | exact HB.out)) hb); clear HB; have HB := n0_; clear n0_; (try clear hb); (try clear hb2); (try clear hk); (try clear hi)) | (go_at_call 82; (with_reducible refine (spec_l1In.calls a1 1 4 true _ A5.out).mono ?_); rintro e w' ⟨rfl, ⟨nd, rfl⟩⟩) | (go_at_call 240; (with_reducible refine (spec_l3Plain.calls k _ _ l0 t1039 _ ?side1 ?side2 A9.out).mono ?_); (case side1 => repeat (first | exact (Kd.C_below HR0.out (by repeat (first | (with_reducible first | exact HB.out | apply below_alloc | apply pw_below_drewN | apply below_drew1) | exact HB.out))) | (with_reducible refine Kd.C_alloc ?_ _) | (with_reducible refine Kd.C_drewN ?_ _) | (with_reducible refine Kd.C_drew ?_))); (case side2 => exact HC0.out); rintro e w' ⟨rfl, ⟨nd, rfl⟩⟩))
    go_ret
    exact ⟨by first | rfl | (simp [errW_none, errW_some] <;> rfl) | (simp [*, errW_none, errW_some] <;> rfl), by repeat (first | (with_reducible first | exact HB.out | apply below_alloc | apply pw_below_drewN | apply below_drew1) | exact HB.out)⟩
  ·replace c6 := Bool.eq_false_iff.mpr c6
   subst c6
   have H1 : (some false) = some r := by rw [if_neg (show ¬ (false = true) by decide)] at H; exact H
   clear H
   have H := H1
   clear H1
   obtain rfl := Option.some.inj H
   go_enter Try.func208, Try.ntmps208
   go_wp2_with (first | ((with_reducible refine gate_callee (f := 114) rfl ?_); refine goesL_ (some 6) rfl rfl Try.func114 (by kernel_rfl) rfl #[.slice A0 l0.length c0] rfl (by (try simp only [List.map_toArray, List.map_cons, List.map_nil]); first | done | rfl | (simp only [List.length_drop, List.length_take]; rfl)) ?_; (with_reducible refine (spec_l2Good.calls k _ _ l0 true _ ?side1 ?side2 A3.out).mono ?_); (case side1 => repeat (first | exact HR0.out | (with_reducible refine Kd.C_alloc ?_ _) | (with_reducible refine Kd.C_drewN ?_ _) | (with_reducible refine Kd.C_drew ?_))); (case side2 => exact HC0.out); rintro e w11 ⟨rfl, hb⟩; refine ⟨_, rfl, ?_⟩; have n0_ := Aside0.mk (below_step (by repeat (first | (with_reducible first | exact HB.out | apply below_alloc | apply pw_below_drewN | apply below_drew1) | exact HB.out)) hb); clear HB; have HB := n0_; clear n0_; (try clear hb); (try clear hb2); (try clear hk); (try clear hi)) | (go_at_call 82; (with_reducible refine (spec_l1In.calls a1 1 4 false _ A5.out).mono ?_); rintro e w' ⟨rfl, ⟨nd, rfl⟩⟩))
   go_ret
   exact ⟨by first | rfl | (simp [errW_none, errW_some] <;> rfl) | (simp [*, errW_none, errW_some] <;> rfl), by repeat (first | (with_reducible first | exact HB.out | apply below_alloc | apply pw_below_drewN | apply below_drew1) | exact HB.out)⟩
 ·replace c4 := Bool.eq_false_iff.mpr c4
  subst c4
  have H1 : (some false) = some r := by rw [if_neg (show ¬ (false = true) by decide)] at H; exact H
  clear H
  have H := H1
  clear H1
  obtain rfl := Option.some.inj H
  go_enter Try.func208, Try.ntmps208
  go_wp2_with (first | ((with_reducible refine gate_callee (f := 114) rfl ?_); refine goesL_ (some 6) rfl rfl Try.func114 (by kernel_rfl) rfl #[.slice A0 l0.length c0] rfl (by (try simp only [List.map_toArray, List.map_cons, List.map_nil]); first | done | rfl | (simp only [List.length_drop, List.length_take]; rfl)) ?_; (with_reducible refine (spec_l2Good.calls k _ _ l0 false _ ?side1 ?side2 A3.out).mono ?_); (case side1 => repeat (first | exact HR0.out | (with_reducible refine Kd.C_alloc ?_ _) | (with_reducible refine Kd.C_drewN ?_ _) | (with_reducible refine Kd.C_drew ?_))); (case side2 => exact HC0.out); rintro e w12 ⟨rfl, hb⟩; refine ⟨_, rfl, ?_⟩; have n0_ := Aside0.mk (below_step (by repeat (first | (with_reducible first | exact HB.out | apply below_alloc | apply pw_below_drewN | apply below_drew1) | exact HB.out)) hb); clear HB; have HB := n0_; clear n0_; (try clear hb); (try clear hb2); (try clear hk); (try clear hi)))
  go_ret
  exact ⟨by first | rfl | (simp [errW_none, errW_some] <;> rfl) | (simp [*, errW_none, errW_some] <;> rfl), by repeat (first | (with_reducible first | exact HB.out | apply below_alloc | apply pw_below_drewN | apply below_drew1) | exact HB.out)⟩

/-! ### spec_l3Both: function 128 -/
def spec_l3Both.f (k : Nat) (l0 : List (S127)) (l1 : List Int) (a2 : Int) : Option (Bool) := (spec_l3Ruled.f k l0 a2).bind fun t1040 => (if t1040 = true then ((spec_l2Order.f k (l0.length : Int) l1).bind fun t1041 => (some t1041)) else (some false))
theorem spec_l3Both.mono : ∀ a0 a1 a2 k, LeO (spec_l3Both.f k a0 a1 a2) (spec_l3Both.f (k + 1) a0 a1 a2) := by
 intro a0 a1 a2 k
 unfold spec_l3Both.f
 repeat' first
   | (with_reducible exact spec_l2Order.mono _ _ _)
   | (with_reducible exact spec_l3Ruled.mono _ _ _)
   | (with_reducible exact LeO.refl _)
   | (with_reducible exact LeO.none _)
   | (with_reducible refine LeO.ite ?_ ?_)
   | (with_reducible refine LeO.bind ?_ (fun _ => ?_))
   | exact spec_l2Order.mono _ _ _
   | exact spec_l3Ruled.mono _ _ _
   | exact LeO.none _
   | refine LeO.ite ?_ ?_
   | refine LeO.bind ?_ (fun _ => ?_)
set_option maxHeartbeats 8000000 in
set_option maxRecDepth 100000 in
theorem spec_l3Both.calls (k : Nat) (A0 : Option Addr) (c0 : Nat) (l0 : List (S127)) (A1 : Option Addr) (c1 : Nat) (l1 : List Int) (a2 : Int) (r : Bool) (w : World) (hr0 : Kd.C k127 w A0 l0.length l0) (hc0 : l0.length ≤ c0) (hr1 : Kd.C (Kd.int .i64) w A1 l1.length l1) (hc1 : l1.length ≤ c1) (h : spec_l3Both.f k l0 l1 a2 = some r) :
  Calls Try.prog 128 #[.slice A0 l0.length c0, .slice A1 l1.length c1, .int .i64 a2] w fun e w' => e = .returned (.bool r) ∧ Below w.heap.size w w' := by
 have HR0 := Aside0.mk hr0
 have HC0 := Aside0.mk hc0
 clear hr0 hc0
 have HR1 := Aside0.mk hr1
 have HC1 := Aside0.mk hc1
 clear hr1 hc1
 have HB := Aside0.mk (Below.refl w.heap.size w)
 have H : ((spec_l3Ruled.f k l0 a2).bind fun t1040 => (if t1040 = true then ((spec_l2Order.f k (l0.length : Int) l1).bind fun t1041 => (some t1041)) else (some false))) = some r := h
 clear h
 replace H := Option.bind_eq_some_iff.mp H
 obtain ⟨t1040, A40, H⟩ := H
 replace H : (if t1040 = true then ((spec_l2Order.f k (l0.length : Int) l1).bind fun t1041 => (some t1041)) else (some false)) = some r := H
 have A4 := Aside0.mk A40
 clear A40
 by_cases c5 : t1040 = true
 ·subst c5
  have H1 : ((spec_l2Order.f k (l0.length : Int) l1).bind fun t1041 => (some t1041)) = some r := by rw [if_pos rfl] at H; exact H
  clear H
  have H := H1
  clear H1
  replace H := Option.bind_eq_some_iff.mp H
  obtain ⟨t1041, A60, H⟩ := H
  replace H : (some t1041) = some r := H
  have A6 := Aside0.mk A60
  clear A60
  obtain rfl := Option.some.inj H
  go_enter Try.func128, Try.ntmps128
  go_wp2_with (first | ((with_reducible refine gate_callee (f := 208) rfl ?_); refine goesL_ (some 9) rfl rfl Try.func208 (by kernel_rfl) rfl #[.slice A0 l0.length c0, .int .i64 a2] rfl (by (try simp only [List.map_toArray, List.map_cons, List.map_nil]); first | done | rfl | (simp only [List.length_drop, List.length_take]; rfl)) ?_; (with_reducible refine (spec_l3Ruled.calls k _ _ l0 a2 true _ ?side1 ?side2 A4.out).mono ?_); (case side1 => repeat (first | exact HR0.out | (with_reducible refine Kd.C_alloc ?_ _) | (with_reducible refine Kd.C_drewN ?_ _) | (with_reducible refine Kd.C_drew ?_))); (case side2 => exact HC0.out); rintro e w7 ⟨rfl, hb⟩; refine ⟨_, rfl, ?_⟩; have n0_ := Aside0.mk (below_step (by repeat (first | (with_reducible first | exact HB.out | apply below_alloc | apply pw_below_drewN | apply below_drew1) | exact HB.out)) hb); clear HB; have HB := n0_; clear n0_; (try clear hb); (try clear hb2); (try clear hk); (try clear hi)) | (go_at_call 156; (with_reducible refine (spec_l2Order.calls k (l0.length : Int) _ _ l1 t1041 _ ?side1 ?side2 A6.out).mono ?_); (case side1 => repeat (first | exact (Kd.C_below HR1.out HB.out) | (with_reducible refine Kd.C_alloc ?_ _) | (with_reducible refine Kd.C_drewN ?_ _) | (with_reducible refine Kd.C_drew ?_))); (case side2 => exact HC1.out); rintro e w' ⟨rfl, ⟨nd, rfl⟩⟩))
  go_ret
  exact ⟨by first | rfl | (simp [errW_none, errW_some] <;> rfl) | (simp [*, errW_none, errW_some] <;> rfl), by repeat (first | (with_reducible first | exact HB.out | apply below_alloc | apply pw_below_drewN | apply below_drew1) | exact HB.out)⟩
 ·replace c5 := Bool.eq_false_iff.mpr c5
  subst c5
  have H1 : (some false) = some r := by rw [if_neg (show ¬ (false = true) by decide)] at H; exact H
  clear H
  have H := H1
  clear H1
  obtain rfl := Option.some.inj H
  go_enter Try.func128, Try.ntmps128
  go_wp2_with (first | ((with_reducible refine gate_callee (f := 208) rfl ?_); refine goesL_ (some 9) rfl rfl Try.func208 (by kernel_rfl) rfl #[.slice A0 l0.length c0, .int .i64 a2] rfl (by (try simp only [List.map_toArray, List.map_cons, List.map_nil]); first | done | rfl | (simp only [List.length_drop, List.length_take]; rfl)) ?_; (with_reducible refine (spec_l3Ruled.calls k _ _ l0 a2 false _ ?side1 ?side2 A4.out).mono ?_); (case side1 => repeat (first | exact HR0.out | (with_reducible refine Kd.C_alloc ?_ _) | (with_reducible refine Kd.C_drewN ?_ _) | (with_reducible refine Kd.C_drew ?_))); (case side2 => exact HC0.out); rintro e w8 ⟨rfl, hb⟩; refine ⟨_, rfl, ?_⟩; have n0_ := Aside0.mk (below_step (by repeat (first | (with_reducible first | exact HB.out | apply below_alloc | apply pw_below_drewN | apply below_drew1) | exact HB.out)) hb); clear HB; have HB := n0_; clear n0_; (try clear hb); (try clear hb2); (try clear hk); (try clear hi)))
  go_ret
  exact ⟨by first | rfl | (simp [errW_none, errW_some] <;> rfl) | (simp [*, errW_none, errW_some] <;> rfl), by repeat (first | (with_reducible first | exact HB.out | apply below_alloc | apply pw_below_drewN | apply below_drew1) | exact HB.out)⟩

/-! ### spec_l3Gap: function 209 -/
abbrev q209_0 : Array Bool := #[false, false, false, false, false, false, false, false, false, false, false, false]
abbrev q209_1 : Array Bool := #[true, false, false, false, false, false, false, false, false, false, false, false]
abbrev q209_2 : Array Bool := #[true, true, false, false, false, false, false, false, false, false, false, false]
abbrev q209_3 : Array Bool := #[true, true, true, false, false, false, false, false, false, false, false, false]
abbrev q209_4 : Array Bool := #[true, true, true, false, true, false, false, false, false, false, false, false]
abbrev q209_5 : Array Bool := #[true, true, true, false, true, true, false, false, false, false, false, false]
abbrev q209_6 : Array Bool := #[true, true, true, false, true, true, true, false, false, false, false, false]
abbrev q209_7 : Array Bool := #[true, true, true, true, true, true, true, false, false, false, false, false]
abbrev q209_8 : Array Bool := #[true, true, true, true, true, true, true, true, false, false, false, false]
abbrev q209_9 : Array Bool := #[true, true, true, true, true, true, true, true, true, true, false, false]
abbrev q209_10 : Array Bool := #[true, true, true, true, true, true, true, true, true, false, false, false]
abbrev q209_11 : Array Bool := #[true, true, true, true, true, true, true, true, false, true, false, false]
abbrev q209_12 : Array Bool := #[true, true, true, true, true, true, true, true, true, true, true, false]
abbrev q209_13 : Array Bool := #[true, true, true, true, true, true, true, true, true, true, true, true]
def spec_l3Gap.f (l0 : List (S127)) (a1 : Int) (a2 : Int) (a3 : Int) : Option (Int) := if 0 ≤ a2 then (if a2 < (l0.length : Int) then (if 0 ≤ a3 then (if a3 < (l0.length : Int) then (if a1 = 1 then (some (wrap64 (((rd_T127 l0 a2).f2) - ((rd_T127 l0 a3).f2)))) else (if a1 = 2 then (some (wrap64 (((rd_T127 l0 a2).f0) - ((rd_T127 l0 a3).f0)))) else (if a1 = 3 then (some (wrap64 ((wrap64 (((rd_T127 l0 a2).f0) * ((rd_T127 l0 a3).f1))) - (wrap64 (((rd_T127 l0 a3).f0) * ((rd_T127 l0 a2).f1)))))) else (some (wrap64 (((rd_T127 l0 a2).f3) - ((rd_T127 l0 a3).f3))))))) else (none)) else (none)) else (none)) else (none)
def spec_l3Gap.T1 : Bool × List (List Nat × List Nat) := (true, [([], []), ([], []), ([0, 1], [0, 1]), ([2], [2]), ([], []), ([], []), ([4, 5], [4, 5]), ([6], [6]), ([], []), ([], []), ([8, 3, 0, 1, 2, 3, 8, 9], [3, 8]), ([9, 7, 10, 0, 1, 2, 3, 4, 5, 6, 7, 8, 9, 10], [7, 9])])
def spec_l3Gap.B1 : List Nat := [0, 0, 3, 7, 0, 0, 48, 112, 0, 0, 783, 2047]
theorem spec_l3Gap.tab1 : rtab .any (opsOf Try.f209 1) = spec_l3Gap.T1 := by kernel_rfl
theorem spec_l3Gap.bits1 : waitsOk spec_l3Gap.T1.2 spec_l3Gap.B1 = true := by kernel_rfl
set_option maxHeartbeats 8000000 in
set_option maxRecDepth 100000 in
theorem spec_l3Gap.calls (A0 : Option Addr) (c0 : Nat) (l0 : List (S127)) (a1 : Int) (a2 : Int) (a3 : Int) (r : Int) (w : World) (hr0 : Kd.C k127 w A0 l0.length l0) (hc0 : l0.length ≤ c0) (h : spec_l3Gap.f l0 a1 a2 a3 = some r) :
  Calls Try.prog 209 #[.slice A0 l0.length c0, .int .i64 a1, .int .i64 a2, .int .i64 a3] w fun e w' => e = .returned (.int .i64 r) ∧ Below w.heap.size w w' := by
 have hu127 := Try.underlying127
 have HR0 := Aside0.mk hr0
 have HC0 := Aside0.mk hc0
 clear hr0 hc0
 have HB := Aside0.mk (Below.refl w.heap.size w)
 have H : (if 0 ≤ a2 then (if a2 < (l0.length : Int) then (if 0 ≤ a3 then (if a3 < (l0.length : Int) then (if a1 = 1 then (some (wrap64 (((rd_T127 l0 a2).f2) - ((rd_T127 l0 a3).f2)))) else (if a1 = 2 then (some (wrap64 (((rd_T127 l0 a2).f0) - ((rd_T127 l0 a3).f0)))) else (if a1 = 3 then (some (wrap64 ((wrap64 (((rd_T127 l0 a2).f0) * ((rd_T127 l0 a3).f1))) - (wrap64 (((rd_T127 l0 a3).f0) * ((rd_T127 l0 a2).f1)))))) else (some (wrap64 (((rd_T127 l0 a2).f3) - ((rd_T127 l0 a3).f3))))))) else (none)) else (none)) else (none)) else (none)) = some r := h
 clear h
 by_cases c5 : 0 ≤ a2
 ·rw [if_pos c5] at H
  have c5b0 : decide (0 ≤ a2) = true := decide_eq_true c5
  clear c5
  by_cases c6 : a2 < (l0.length : Int)
  ·rw [if_pos c6] at H
   have c6b0 : decide (a2 < (l0.length : Int)) = true := decide_eq_true c6
   clear c6
   by_cases c7 : 0 ≤ a3
   ·rw [if_pos c7] at H
    have c7b0 : decide (0 ≤ a3) = true := decide_eq_true c7
    clear c7
    by_cases c8 : a3 < (l0.length : Int)
    ·rw [if_pos c8] at H
     have c8b0 : decide (a3 < (l0.length : Int)) = true := decide_eq_true c8
     clear c8
     by_cases c9 : a1 = 1
     ·rw [if_pos c9] at H
      have c9b0 : (a1 == 1) = true := beq_iff_eq.mpr c9
      have c9b1 : (a1 != 1) = false := bne_eq_false_iff_eq.mpr c9
      clear c9
      obtain rfl := Option.some.inj H
      go_enter Try.func209, Try.ntmps209
      try go_wp2
      have n0_ := Aside0.mk (below_drew1 HB.out)
      clear HB
      have HB := n0_
      clear n0_
      have p1042 : 0 ≤ (a2 : Int) := of_decide_eq_true (by first | (with_reducible assumption) | assumption)
      have q1042 : a2 < (l0.length : Int) := of_decide_eq_true (by first | (with_reducible assumption) | assumption)
      obtain ⟨ad1042, e1042, hx1042_0, hx1042_1, hx1042_2, hx1042_3⟩ := at_T127 HR0.out a2 p1042 q1042
      have hw1042_3 := hx1042_3
      have hw1042_2 := hx1042_2
      have hw1042_1 := hx1042_1
      have hw1042_0 := hx1042_0
      cases e1042
      replace hx1042_0 := (HB.out.cell (World.block_lt_of_cell? w _ hx1042_0)).trans hx1042_0
      replace hx1042_1 := (HB.out.cell (World.block_lt_of_cell? w _ hx1042_1)).trans hx1042_1
      replace hx1042_2 := (HB.out.cell (World.block_lt_of_cell? w _ hx1042_2)).trans hx1042_2
      replace hx1042_3 := (HB.out.cell (World.block_lt_of_cell? w _ hx1042_3)).trans hx1042_3
      replace p1042 := eq_true p1042
      replace q1042 := eq_true q1042
      have p1043 : 0 ≤ (a3 : Int) := of_decide_eq_true (by first | (with_reducible assumption) | assumption)
      have q1043 : a3 < (l0.length : Int) := of_decide_eq_true (by first | (with_reducible assumption) | assumption)
      obtain ⟨ad1043, e1043, hx1043_0, hx1043_1, hx1043_2, hx1043_3⟩ := at_T127 HR0.out a3 p1043 q1043
      have hw1043_3 := hx1043_3
      have hw1043_2 := hx1043_2
      have hw1043_1 := hx1043_1
      have hw1043_0 := hx1043_0
      obtain rfl : ad1042 = ad1043 := (by injection e1043)
      replace hx1043_0 := (HB.out.cell (World.block_lt_of_cell? w _ hx1043_0)).trans hx1043_0
      replace hx1043_1 := (HB.out.cell (World.block_lt_of_cell? w _ hx1043_1)).trans hx1043_1
      replace hx1043_2 := (HB.out.cell (World.block_lt_of_cell? w _ hx1043_2)).trans hx1043_2
      replace hx1043_3 := (HB.out.cell (World.block_lt_of_cell? w _ hx1043_3)).trans hx1043_3
      replace p1043 := eq_true p1043
      replace q1043 := eq_true q1043
      refine start_ (n := 12) (S := fun w' => w'.cell? (ad1042.add ((a2).toNat * 4)) = some (.int .i64 ((rd_T127 l0 a2).f0)) ∧ w'.cell? ⟨(ad1042.add ((a2).toNat * 4)).block, (ad1042.add ((a2).toNat * 4)).off + 1, none⟩ = some (.int .i64 ((rd_T127 l0 a2).f1)) ∧ w'.cell? ⟨(ad1042.add ((a2).toNat * 4)).block, (ad1042.add ((a2).toNat * 4)).off + 2, none⟩ = some (.int .i64 ((rd_T127 l0 a2).f2)) ∧ w'.cell? ⟨(ad1042.add ((a2).toNat * 4)).block, (ad1042.add ((a2).toNat * 4)).off + 3, none⟩ = some (.int .i64 ((rd_T127 l0 a2).f3)) ∧ w'.cell? (ad1042.add ((a3).toNat * 4)) = some (.int .i64 ((rd_T127 l0 a3).f0)) ∧ w'.cell? ⟨(ad1042.add ((a3).toNat * 4)).block, (ad1042.add ((a3).toNat * 4)).off + 1, none⟩ = some (.int .i64 ((rd_T127 l0 a3).f1)) ∧ w'.cell? ⟨(ad1042.add ((a3).toNat * 4)).block, (ad1042.add ((a3).toNat * 4)).off + 2, none⟩ = some (.int .i64 ((rd_T127 l0 a3).f2)) ∧ w'.cell? ⟨(ad1042.add ((a3).toNat * 4)).block, (ad1042.add ((a3).toNat * 4)).off + 3, none⟩ = some (.int .i64 ((rd_T127 l0 a3).f3))) (ds := []) q209_0 (by kernel_rfl) rfl rfl ⟨(bcl_ HB.out hw1042_0), (bcl_ HB.out hw1042_1), (bcl_ HB.out hw1042_2), (bcl_ HB.out hw1042_3), (bcl_ HB.out hw1043_0), (bcl_ HB.out hw1043_1), (bcl_ HB.out hw1043_2), (bcl_ HB.out hw1043_3)⟩ (fun hHeld => ?_); refine with_tabW spec_l3Gap.tab1 spec_l3Gap.bits1 (fun HT_ HW_ => ?_)
      generalize w.drew = w10 at HB hx1042_0 hx1042_1 hx1042_2 hx1042_3 hx1043_0 hx1043_1 hx1043_2 hx1043_3 hHeld ⊢
      refine pure_ (i := 0) (N := some 11) (v := ?_) (a' := ?_) q209_1 rfl rfl (any_of HT_.out (by kernel_rfl)) (fun _ _ _ h => h) (Or.inl ⟨by rfl, ?_⟩) ?_ ?_
      rotate_left
      ·intro w'
       go_simp
       with_reducible rfl
      rotate_left
      ·simp only [aq_]
       rfl
      refine pure_ (i := 1) (N := some 12) (v := ?_) (a' := ?_) q209_2 rfl rfl (any_of HT_.out (by kernel_rfl)) (fun _ _ _ h => h) (Or.inl ⟨by rfl, ?_⟩) ?_ ?_
      rotate_left
      ·intro w'
       go_simp
       with_reducible rfl
      rotate_left
      ·simp only [aq_]
       rfl
      refine pure_ (i := 2) (N := some 13) (v := ?_) (a' := ?_) q209_3 rfl rfl (any_of HT_.out (by kernel_rfl)) (fun _ _ _ h => h) (Or.inl ⟨by rfl, ?_⟩) ?_ ?_
      rotate_left
      ·intro w'
       go_simp
       with_reducible rfl
      rotate_left
      ·simp only [aq_]
       rfl
      refine pure_ (i := 4) (N := some 15) (v := ?_) (a' := ?_) q209_4 rfl rfl (any_of HT_.out (by kernel_rfl)) (fun _ _ _ h => h) (Or.inl ⟨by rfl, ?_⟩) ?_ ?_
      rotate_left
      ·intro w'
       go_simp
       with_reducible rfl
      rotate_left
      ·simp only [aq_]
       rfl
      refine pure_ (i := 5) (N := some 16) (v := ?_) (a' := ?_) q209_5 rfl rfl (any_of HT_.out (by kernel_rfl)) (fun _ _ _ h => h) (Or.inl ⟨by rfl, ?_⟩) ?_ ?_
      rotate_left
      ·intro w'
       go_simp
       with_reducible rfl
      rotate_left
      ·simp only [aq_]
       rfl
      refine pure_ (i := 6) (N := some 17) (v := ?_) (a' := ?_) q209_6 rfl rfl (any_of HT_.out (by kernel_rfl)) (fun _ _ _ h => h) (Or.inl ⟨by rfl, ?_⟩) ?_ ?_
      rotate_left
      ·intro w'
       go_simp
       with_reducible rfl
      rotate_left
      ·simp only [aq_]
       rfl
      refine take_ (i := 3) (N := some 14) (v := ?_) (a' := ?_) q209_7 rfl rfl (take_ofW HT_.out HW_.out (by kernel_rfl)) (fun _ _ _ h => h) (Or.inl ⟨by rfl, ?_⟩) hHeld ?_ ?_
      rotate_left
      ·rintro w' ⟨s0, s1, s2, s3, s4, s5, s6, s7⟩
       go_simp
       with_reducible rfl
      rotate_left
      ·simp only [aq_]
       rfl
      refine take_ (i := 7) (N := some 18) (v := ?_) (a' := ?_) q209_8 rfl rfl (take_ofW HT_.out HW_.out (by kernel_rfl)) (fun _ _ _ h => h) (Or.inl ⟨by rfl, ?_⟩) hHeld ?_ ?_
      rotate_left
      ·rintro w' ⟨s0, s1, s2, s3, s4, s5, s6, s7⟩
       go_simp
       with_reducible rfl
      rotate_left
      ·simp only [aq_]
       rfl
      refine join_ (σ := Nat × Nat) 2 q209_9 (fun s_ => [(9, .pointer (some ⟨s_.1, 0, none⟩)), (10, .pointer (some ⟨s_.2, 0, none⟩))]) (fun s_ w' => (w'.cell? (ad1042.add ((a2).toNat * 4)) = some (.int .i64 ((rd_T127 l0 a2).f0)) ∧ w'.cell? ⟨(ad1042.add ((a2).toNat * 4)).block, (ad1042.add ((a2).toNat * 4)).off + 1, none⟩ = some (.int .i64 ((rd_T127 l0 a2).f1)) ∧ w'.cell? ⟨(ad1042.add ((a2).toNat * 4)).block, (ad1042.add ((a2).toNat * 4)).off + 2, none⟩ = some (.int .i64 ((rd_T127 l0 a2).f2)) ∧ w'.cell? ⟨(ad1042.add ((a2).toNat * 4)).block, (ad1042.add ((a2).toNat * 4)).off + 3, none⟩ = some (.int .i64 ((rd_T127 l0 a2).f3)) ∧ w'.cell? (ad1042.add ((a3).toNat * 4)) = some (.int .i64 ((rd_T127 l0 a3).f0)) ∧ w'.cell? ⟨(ad1042.add ((a3).toNat * 4)).block, (ad1042.add ((a3).toNat * 4)).off + 1, none⟩ = some (.int .i64 ((rd_T127 l0 a3).f1)) ∧ w'.cell? ⟨(ad1042.add ((a3).toNat * 4)).block, (ad1042.add ((a3).toNat * 4)).off + 2, none⟩ = some (.int .i64 ((rd_T127 l0 a3).f2)) ∧ w'.cell? ⟨(ad1042.add ((a3).toNat * 4)).block, (ad1042.add ((a3).toNat * 4)).off + 3, none⟩ = some (.int .i64 ((rd_T127 l0 a3).f3))) ∧ (w'.heap[s_.1]? = some (.cells #[.int .i64 0, .int .i64 0, .int .i64 0, .int .i64 0] 127 (0, 0))) ∧ (w'.heap[s_.2]? = some (.cells #[.int .i64 0, .int .i64 0, .int .i64 0, .int .i64 0] 127 (0, 0))) ∧ (w.heap.size ≤ s_.1) ∧ (w.heap.size ≤ s_.1) ∧ (s_.2 ≠ s_.1) ∧ (s_.1 ≠ s_.2) ∧ (w.heap.size ≤ s_.2) ∧ (w.heap.size ≤ s_.2) ∧ (Below w.heap.size w w')) ?_ ?_
      rotate_left
      ·intro hCont
       refine two_ (i := 8) (j := 9) (Ni := some 9) (Nj := some 10) q209_10 q209_11 rfl rfl rfl rfl (two_of HT_.out (by kernel_rfl)) (by decide) (by decide) (fun K hK => ?_) (fun K hK => ?_)
       ·skip
        refine box_step ?hg (N := 9) ?hd (cs := #[.int .i64 0, .int .i64 0, .int .i64 0, .int .i64 0]) (t := 127) ?hr ?_; (case hd => rfl); (case hg => rfl); (case hr => first | (go_simp; done) | (go_simp; rfl))
        intro gb1044 hg w11 hbox hb
        have n0_ := Aside0.mk (below_step (by repeat (first | (with_reducible first | exact HB.out | apply below_alloc | apply pw_below_drewN | apply below_drew1) | exact HB.out)) hb)
        have n1_ := Aside0.mk (hbox)
        have n2_ := Aside0.mk ((by rw [hg]; exact (below_size (by repeat (first | (with_reducible first | exact HB.out | apply below_alloc | apply pw_below_drewN | apply below_drew1) | exact HB.out))) : w.heap.size ≤ gb1044))
        have n3_ := Aside0.mk ((by rw [hg]; exact (below_size (by repeat (first | (with_reducible first | exact HB.out | apply below_alloc | apply pw_below_drewN | apply below_drew1) | exact HB.out))) : w.heap.size ≤ gb1044))
        clear HB
        have HB := n0_
        have BK1044 := n1_
        have GW1044 := n2_
        have GE1044 := n3_
        clear n0_ n1_ n2_ n3_
        clear hb hbox hg
        refine hK.out _ _ ⟨(bcl_ HB.out hw1042_0), (bcl_ HB.out hw1042_1), (bcl_ HB.out hw1042_2), (bcl_ HB.out hw1042_3), (bcl_ HB.out hw1043_0), (bcl_ HB.out hw1043_1), (bcl_ HB.out hw1043_2), (bcl_ HB.out hw1043_3)⟩ (fun hHeld => ?_)
        clear hK K
        refine norm_ (a' := ?_) ?_ ?_
        rotate_left
        ·show Act.put _ (some 9) _ = _
         simp only [aq_]
         rfl
        refine one_ (i := 9) (N := some 10) q209_9 rfl rfl (one_of HT_.out (by kernel_rfl)) (by decide) (fun K hK => ?_)
        refine box_step ?hg (N := 10) ?hd (cs := #[.int .i64 0, .int .i64 0, .int .i64 0, .int .i64 0]) (t := 127) ?hr ?_; (case hd => rfl); (case hg => rfl); (case hr => first | (go_simp; done) | (go_simp; rfl))
        intro gb1045 hg w12 hbox hb
        have n0_ := Aside0.mk (blk_below (g := gb1044) (o := .cells #[.int .i64 0, .int .i64 0, .int .i64 0, .int .i64 0] 127 (0, 0)) (by (with_reducible repeat (first | refine blk_drewN ?_ _ | refine blk_drew ?_ | refine blk_alloc ?_ _)); exact BK1044.out) hb)
        have n1_ := Aside0.mk (below_step (by repeat (first | (with_reducible first | exact HB.out | apply below_alloc | apply pw_below_drewN | apply below_drew1 | refine below_set ?_ GE1044.out) | exact HB.out)) hb)
        have n2_ := Aside0.mk (hbox)
        have n3_ := Aside0.mk ((by rw [hg]; exact (below_size (by repeat (first | (with_reducible first | exact HB.out | apply below_alloc | apply pw_below_drewN | apply below_drew1 | refine below_set ?_ GE1044.out) | exact HB.out))) : w.heap.size ≤ gb1045))
        have n4_ := Aside0.mk ((by rw [hg]; exact (below_size (by repeat (first | (with_reducible first | exact HB.out | apply below_alloc | apply pw_below_drewN | apply below_drew1 | refine below_set ?_ GE1044.out) | exact HB.out))) : w.heap.size ≤ gb1045))
        have n5_ := Aside0.mk ((by rw [hg]; exact Nat.ne_of_lt (blk_lt (g := gb1044) (o := .cells #[.int .i64 0, .int .i64 0, .int .i64 0, .int .i64 0] 127 (0, 0)) (by (with_reducible repeat (first | refine blk_drewN ?_ _ | refine blk_drew ?_ | refine blk_alloc ?_ _)); exact BK1044.out)) : gb1044 ≠ gb1045))
        have n6_ := Aside0.mk ((by rw [hg]; exact Nat.ne_of_gt (blk_lt (g := gb1044) (o := .cells #[.int .i64 0, .int .i64 0, .int .i64 0, .int .i64 0] 127 (0, 0)) (by (with_reducible repeat (first | refine blk_drewN ?_ _ | refine blk_drew ?_ | refine blk_alloc ?_ _)); exact BK1044.out)) : gb1045 ≠ gb1044))
        clear BK1044
        clear HB
        have BK1044 := n0_
        have HB := n1_
        have BK1045 := n2_
        have GW1045 := n3_
        have GE1045 := n4_
        have NB1044_1045 := n5_
        have NB1045_1044 := n6_
        clear n0_ n1_ n2_ n3_ n4_ n5_ n6_
        clear hb hbox hg
        refine hK.out _ _ ⟨(bcl_ HB.out hw1042_0), (bcl_ HB.out hw1042_1), (bcl_ HB.out hw1042_2), (bcl_ HB.out hw1042_3), (bcl_ HB.out hw1043_0), (bcl_ HB.out hw1043_1), (bcl_ HB.out hw1043_2), (bcl_ HB.out hw1043_3)⟩ (fun hHeld => ?_)
        clear hK K
        refine norm_ (a' := ?_) ?_ ?_
        rotate_left
        ·show Act.put _ (some 10) _ = _
         simp only [aq_]
         rfl
        exact norm_ (by simp only [putAll, Act.put, List.setIfInBounds_toArray, List.set_cons_zero, List.set_cons_succ]) (hCont (gb1044, gb1045) _ ⟨hHeld, (by (with_reducible repeat (first | refine blk_drewN ?_ _ | refine blk_drew ?_ | refine blk_alloc ?_ _)); exact BK1044.out), (by (with_reducible repeat (first | refine blk_drewN ?_ _ | refine blk_drew ?_ | refine blk_alloc ?_ _)); exact BK1045.out), GW1044.out, GE1044.out, NB1045_1044.out, NB1044_1045.out, GW1045.out, GE1045.out, (by repeat (first | (with_reducible first | exact HB.out | apply below_alloc | apply pw_below_drewN | apply below_drew1 | refine below_set ?_ GE1044.out | refine below_set ?_ GE1045.out) | exact HB.out))⟩)
       ·skip
        refine box_step ?hg (N := 10) ?hd (cs := #[.int .i64 0, .int .i64 0, .int .i64 0, .int .i64 0]) (t := 127) ?hr ?_; (case hd => rfl); (case hg => rfl); (case hr => first | (go_simp; done) | (go_simp; rfl))
        intro gb1045 hg w11 hbox hb
        have n0_ := Aside0.mk (below_step (by repeat (first | (with_reducible first | exact HB.out | apply below_alloc | apply pw_below_drewN | apply below_drew1) | exact HB.out)) hb)
        have n1_ := Aside0.mk (hbox)
        have n2_ := Aside0.mk ((by rw [hg]; exact (below_size (by repeat (first | (with_reducible first | exact HB.out | apply below_alloc | apply pw_below_drewN | apply below_drew1) | exact HB.out))) : w.heap.size ≤ gb1045))
        have n3_ := Aside0.mk ((by rw [hg]; exact (below_size (by repeat (first | (with_reducible first | exact HB.out | apply below_alloc | apply pw_below_drewN | apply below_drew1) | exact HB.out))) : w.heap.size ≤ gb1045))
        clear HB
        have HB := n0_
        have BK1045 := n1_
        have GW1045 := n2_
        have GE1045 := n3_
        clear n0_ n1_ n2_ n3_
        clear hb hbox hg
        refine hK.out _ _ ⟨(bcl_ HB.out hw1042_0), (bcl_ HB.out hw1042_1), (bcl_ HB.out hw1042_2), (bcl_ HB.out hw1042_3), (bcl_ HB.out hw1043_0), (bcl_ HB.out hw1043_1), (bcl_ HB.out hw1043_2), (bcl_ HB.out hw1043_3)⟩ (fun hHeld => ?_)
        clear hK K
        refine norm_ (a' := ?_) ?_ ?_
        rotate_left
        ·show Act.put _ (some 10) _ = _
         simp only [aq_]
         rfl
        refine one_ (i := 8) (N := some 9) q209_9 rfl rfl (one_of HT_.out (by kernel_rfl)) (by decide) (fun K hK => ?_)
        refine box_step ?hg (N := 9) ?hd (cs := #[.int .i64 0, .int .i64 0, .int .i64 0, .int .i64 0]) (t := 127) ?hr ?_; (case hd => rfl); (case hg => rfl); (case hr => first | (go_simp; done) | (go_simp; rfl))
        intro gb1044 hg w12 hbox hb
        have n0_ := Aside0.mk (blk_below (g := gb1045) (o := .cells #[.int .i64 0, .int .i64 0, .int .i64 0, .int .i64 0] 127 (0, 0)) (by (with_reducible repeat (first | refine blk_drewN ?_ _ | refine blk_drew ?_ | refine blk_alloc ?_ _)); exact BK1045.out) hb)
        have n1_ := Aside0.mk (below_step (by repeat (first | (with_reducible first | exact HB.out | apply below_alloc | apply pw_below_drewN | apply below_drew1 | refine below_set ?_ GE1045.out) | exact HB.out)) hb)
        have n2_ := Aside0.mk (hbox)
        have n3_ := Aside0.mk ((by rw [hg]; exact (below_size (by repeat (first | (with_reducible first | exact HB.out | apply below_alloc | apply pw_below_drewN | apply below_drew1 | refine below_set ?_ GE1045.out) | exact HB.out))) : w.heap.size ≤ gb1044))
        have n4_ := Aside0.mk ((by rw [hg]; exact (below_size (by repeat (first | (with_reducible first | exact HB.out | apply below_alloc | apply pw_below_drewN | apply below_drew1 | refine below_set ?_ GE1045.out) | exact HB.out))) : w.heap.size ≤ gb1044))
        have n5_ := Aside0.mk ((by rw [hg]; exact Nat.ne_of_lt (blk_lt (g := gb1045) (o := .cells #[.int .i64 0, .int .i64 0, .int .i64 0, .int .i64 0] 127 (0, 0)) (by (with_reducible repeat (first | refine blk_drewN ?_ _ | refine blk_drew ?_ | refine blk_alloc ?_ _)); exact BK1045.out)) : gb1045 ≠ gb1044))
        have n6_ := Aside0.mk ((by rw [hg]; exact Nat.ne_of_gt (blk_lt (g := gb1045) (o := .cells #[.int .i64 0, .int .i64 0, .int .i64 0, .int .i64 0] 127 (0, 0)) (by (with_reducible repeat (first | refine blk_drewN ?_ _ | refine blk_drew ?_ | refine blk_alloc ?_ _)); exact BK1045.out)) : gb1044 ≠ gb1045))
        clear BK1045
        clear HB
        have BK1045 := n0_
        have HB := n1_
        have BK1044 := n2_
        have GW1044 := n3_
        have GE1044 := n4_
        have NB1045_1044 := n5_
        have NB1044_1045 := n6_
        clear n0_ n1_ n2_ n3_ n4_ n5_ n6_
        clear hb hbox hg
        refine hK.out _ _ ⟨(bcl_ HB.out hw1042_0), (bcl_ HB.out hw1042_1), (bcl_ HB.out hw1042_2), (bcl_ HB.out hw1042_3), (bcl_ HB.out hw1043_0), (bcl_ HB.out hw1043_1), (bcl_ HB.out hw1043_2), (bcl_ HB.out hw1043_3)⟩ (fun hHeld => ?_)
        clear hK K
        refine norm_ (a' := ?_) ?_ ?_
        rotate_left
        ·show Act.put _ (some 9) _ = _
         simp only [aq_]
         rfl
        exact norm_ (by simp only [putAll, Act.put, List.setIfInBounds_toArray, List.set_cons_zero, List.set_cons_succ]) (hCont (gb1044, gb1045) _ ⟨hHeld, (by (with_reducible repeat (first | refine blk_drewN ?_ _ | refine blk_drew ?_ | refine blk_alloc ?_ _)); exact BK1044.out), (by (with_reducible repeat (first | refine blk_drewN ?_ _ | refine blk_drew ?_ | refine blk_alloc ?_ _)); exact BK1045.out), GW1044.out, GE1044.out, NB1045_1044.out, NB1044_1045.out, GW1045.out, GE1045.out, (by repeat (first | (with_reducible first | exact HB.out | apply below_alloc | apply pw_below_drewN | apply below_drew1 | refine below_set ?_ GE1045.out | refine below_set ?_ GE1044.out) | exact HB.out))⟩)
      rintro ⟨gb1044, gb1045⟩ w13 ⟨hS_, h0_, h1_, h2_, h3_, h4_, h5_, h6_, h7_, h8_⟩
      have n0_ : Aside0 (w13.heap[gb1044]? = some (.cells #[.int .i64 0, .int .i64 0, .int .i64 0, .int .i64 0] 127 (0, 0))) := ⟨h0_⟩
      have n1_ : Aside0 (w13.heap[gb1045]? = some (.cells #[.int .i64 0, .int .i64 0, .int .i64 0, .int .i64 0] 127 (0, 0))) := ⟨h1_⟩
      have n2_ : Aside0 (w.heap.size ≤ gb1044) := ⟨h2_⟩
      have n3_ : Aside0 (w.heap.size ≤ gb1044) := ⟨h3_⟩
      have n4_ : Aside0 (gb1045 ≠ gb1044) := ⟨h4_⟩
      have n5_ : Aside0 (gb1044 ≠ gb1045) := ⟨h5_⟩
      have n6_ : Aside0 (w.heap.size ≤ gb1045) := ⟨h6_⟩
      have n7_ : Aside0 (w.heap.size ≤ gb1045) := ⟨h7_⟩
      have n8_ : Aside0 (Below w.heap.size w w13) := ⟨h8_⟩
      clear HB
      clear h0_ h1_ h2_ h3_ h4_ h5_ h6_ h7_ h8_
      have BK1044 := n0_
      have BK1045 := n1_
      have GW1044 := n2_
      have GE1044 := n3_
      have NB1045_1044 := n4_
      have NB1044_1045 := n5_
      have GW1045 := n6_
      have GE1045 := n7_
      have HB := n8_
      clear n0_ n1_ n2_ n3_ n4_ n5_ n6_ n7_ n8_
      have hHeld : w13.cell? (ad1042.add ((a2).toNat * 4)) = some (.int .i64 ((rd_T127 l0 a2).f0)) ∧ w13.cell? ⟨(ad1042.add ((a2).toNat * 4)).block, (ad1042.add ((a2).toNat * 4)).off + 1, none⟩ = some (.int .i64 ((rd_T127 l0 a2).f1)) ∧ w13.cell? ⟨(ad1042.add ((a2).toNat * 4)).block, (ad1042.add ((a2).toNat * 4)).off + 2, none⟩ = some (.int .i64 ((rd_T127 l0 a2).f2)) ∧ w13.cell? ⟨(ad1042.add ((a2).toNat * 4)).block, (ad1042.add ((a2).toNat * 4)).off + 3, none⟩ = some (.int .i64 ((rd_T127 l0 a2).f3)) ∧ w13.cell? (ad1042.add ((a3).toNat * 4)) = some (.int .i64 ((rd_T127 l0 a3).f0)) ∧ w13.cell? ⟨(ad1042.add ((a3).toNat * 4)).block, (ad1042.add ((a3).toNat * 4)).off + 1, none⟩ = some (.int .i64 ((rd_T127 l0 a3).f1)) ∧ w13.cell? ⟨(ad1042.add ((a3).toNat * 4)).block, (ad1042.add ((a3).toNat * 4)).off + 2, none⟩ = some (.int .i64 ((rd_T127 l0 a3).f2)) ∧ w13.cell? ⟨(ad1042.add ((a3).toNat * 4)).block, (ad1042.add ((a3).toNat * 4)).off + 3, none⟩ = some (.int .i64 ((rd_T127 l0 a3).f3)) := hS_
      refine norm_ (a' := ?_) ?_ ?_
      rotate_left
      ·simp only [putAll, Act.put, List.setIfInBounds_toArray, List.set_cons_zero, List.set_cons_succ]
       rfl
      refine one_ (i := 10) (N := none) q209_12 rfl rfl (one_of HT_.out (by kernel_rfl)) (by decide) (fun K hK => ?_)
      have hs14 : w13.cell? ⟨gb1044, 0, none⟩ = some (.int .i64 0) := (blk_cell BK1044.out 0).trans rfl
      have hfs14 := blk_frozen BK1044.out 0
      have hns14_1 := NB1045_1044.out
      have hms14_1 := NB1044_1045.out
      have hs15 : w13.cell? ⟨gb1044, 1, none⟩ = some (.int .i64 0) := (blk_cell BK1044.out 1).trans rfl
      have hfs15 := blk_frozen BK1044.out 1
      have hns15_1 := NB1045_1044.out
      have hms15_1 := NB1044_1045.out
      have hs16 : w13.cell? ⟨gb1044, 2, none⟩ = some (.int .i64 0) := (blk_cell BK1044.out 2).trans rfl
      have hfs16 := blk_frozen BK1044.out 2
      have hns16_1 := NB1045_1044.out
      have hms16_1 := NB1044_1045.out
      have hs17 : w13.cell? ⟨gb1044, 3, none⟩ = some (.int .i64 0) := (blk_cell BK1044.out 3).trans rfl
      have hfs17 := blk_frozen BK1044.out 3
      have hns17_1 := NB1045_1044.out
      have hms17_1 := NB1044_1045.out
      refine skip_ (w1 := ?_) (by rfl) rfl ?_ ?_
      rotate_left
      ·go_simp
       rfl
      refine hK.out _ _ ⟨((cell_far (p := ⟨gb1044, _, none⟩) (bne_ hw1042_0 GW1044.out) _).trans (((cell_far (p := ⟨gb1044, _, none⟩) (bne_ hw1042_0 GW1044.out) _).trans (((cell_far (p := ⟨gb1044, _, none⟩) (bne_ hw1042_0 GW1044.out) _).trans (((cell_far (p := ⟨gb1044, _, none⟩) (bne_ hw1042_0 GW1044.out) _).trans (hHeld.1)))))))), ((cell_far (p := ⟨gb1044, _, none⟩) (bne_ hw1042_1 GW1044.out) _).trans (((cell_far (p := ⟨gb1044, _, none⟩) (bne_ hw1042_1 GW1044.out) _).trans (((cell_far (p := ⟨gb1044, _, none⟩) (bne_ hw1042_1 GW1044.out) _).trans (((cell_far (p := ⟨gb1044, _, none⟩) (bne_ hw1042_1 GW1044.out) _).trans (hHeld.2.1)))))))), ((cell_far (p := ⟨gb1044, _, none⟩) (bne_ hw1042_2 GW1044.out) _).trans (((cell_far (p := ⟨gb1044, _, none⟩) (bne_ hw1042_2 GW1044.out) _).trans (((cell_far (p := ⟨gb1044, _, none⟩) (bne_ hw1042_2 GW1044.out) _).trans (((cell_far (p := ⟨gb1044, _, none⟩) (bne_ hw1042_2 GW1044.out) _).trans (hHeld.2.2.1)))))))), ((cell_far (p := ⟨gb1044, _, none⟩) (bne_ hw1042_3 GW1044.out) _).trans (((cell_far (p := ⟨gb1044, _, none⟩) (bne_ hw1042_3 GW1044.out) _).trans (((cell_far (p := ⟨gb1044, _, none⟩) (bne_ hw1042_3 GW1044.out) _).trans (((cell_far (p := ⟨gb1044, _, none⟩) (bne_ hw1042_3 GW1044.out) _).trans (hHeld.2.2.2.1)))))))), ((cell_far (p := ⟨gb1044, _, none⟩) (bne_ hw1043_0 GW1044.out) _).trans (((cell_far (p := ⟨gb1044, _, none⟩) (bne_ hw1043_0 GW1044.out) _).trans (((cell_far (p := ⟨gb1044, _, none⟩) (bne_ hw1043_0 GW1044.out) _).trans (((cell_far (p := ⟨gb1044, _, none⟩) (bne_ hw1043_0 GW1044.out) _).trans (hHeld.2.2.2.2.1)))))))), ((cell_far (p := ⟨gb1044, _, none⟩) (bne_ hw1043_1 GW1044.out) _).trans (((cell_far (p := ⟨gb1044, _, none⟩) (bne_ hw1043_1 GW1044.out) _).trans (((cell_far (p := ⟨gb1044, _, none⟩) (bne_ hw1043_1 GW1044.out) _).trans (((cell_far (p := ⟨gb1044, _, none⟩) (bne_ hw1043_1 GW1044.out) _).trans (hHeld.2.2.2.2.2.1)))))))), ((cell_far (p := ⟨gb1044, _, none⟩) (bne_ hw1043_2 GW1044.out) _).trans (((cell_far (p := ⟨gb1044, _, none⟩) (bne_ hw1043_2 GW1044.out) _).trans (((cell_far (p := ⟨gb1044, _, none⟩) (bne_ hw1043_2 GW1044.out) _).trans (((cell_far (p := ⟨gb1044, _, none⟩) (bne_ hw1043_2 GW1044.out) _).trans (hHeld.2.2.2.2.2.2.1)))))))), ((cell_far (p := ⟨gb1044, _, none⟩) (bne_ hw1043_3 GW1044.out) _).trans (((cell_far (p := ⟨gb1044, _, none⟩) (bne_ hw1043_3 GW1044.out) _).trans (((cell_far (p := ⟨gb1044, _, none⟩) (bne_ hw1043_3 GW1044.out) _).trans (((cell_far (p := ⟨gb1044, _, none⟩) (bne_ hw1043_3 GW1044.out) _).trans (hHeld.2.2.2.2.2.2.2))))))))⟩ (fun hHeld => ?_)
      clear hK K
      refine one_ (i := 11) (N := none) q209_13 rfl rfl (one_of HT_.out (by kernel_rfl)) (by decide) (fun K hK => ?_)
      have hs18 : w13.cell? ⟨gb1045, 0, none⟩ = some (.int .i64 0) := (blk_cell BK1045.out 0).trans rfl
      have hfs18 := blk_frozen BK1045.out 0
      have hns18_0 := NB1044_1045.out
      have hms18_0 := NB1045_1044.out
      have hs19 : w13.cell? ⟨gb1045, 1, none⟩ = some (.int .i64 0) := (blk_cell BK1045.out 1).trans rfl
      have hfs19 := blk_frozen BK1045.out 1
      have hns19_0 := NB1044_1045.out
      have hms19_0 := NB1045_1044.out
      have hs20 : w13.cell? ⟨gb1045, 2, none⟩ = some (.int .i64 0) := (blk_cell BK1045.out 2).trans rfl
      have hfs20 := blk_frozen BK1045.out 2
      have hns20_0 := NB1044_1045.out
      have hms20_0 := NB1045_1044.out
      have hs21 : w13.cell? ⟨gb1045, 3, none⟩ = some (.int .i64 0) := (blk_cell BK1045.out 3).trans rfl
      have hfs21 := blk_frozen BK1045.out 3
      have hns21_0 := NB1044_1045.out
      have hms21_0 := NB1045_1044.out
      refine skip_ (w1 := ?_) (by rfl) rfl ?_ ?_
      rotate_left
      ·go_simp
       rfl
      refine hK.out _ _ ⟨((cell_far (p := ⟨gb1045, _, none⟩) (bne_ hw1042_0 GW1045.out) _).trans (((cell_far (p := ⟨gb1045, _, none⟩) (bne_ hw1042_0 GW1045.out) _).trans (((cell_far (p := ⟨gb1045, _, none⟩) (bne_ hw1042_0 GW1045.out) _).trans (((cell_far (p := ⟨gb1045, _, none⟩) (bne_ hw1042_0 GW1045.out) _).trans (hHeld.1)))))))), ((cell_far (p := ⟨gb1045, _, none⟩) (bne_ hw1042_1 GW1045.out) _).trans (((cell_far (p := ⟨gb1045, _, none⟩) (bne_ hw1042_1 GW1045.out) _).trans (((cell_far (p := ⟨gb1045, _, none⟩) (bne_ hw1042_1 GW1045.out) _).trans (((cell_far (p := ⟨gb1045, _, none⟩) (bne_ hw1042_1 GW1045.out) _).trans (hHeld.2.1)))))))), ((cell_far (p := ⟨gb1045, _, none⟩) (bne_ hw1042_2 GW1045.out) _).trans (((cell_far (p := ⟨gb1045, _, none⟩) (bne_ hw1042_2 GW1045.out) _).trans (((cell_far (p := ⟨gb1045, _, none⟩) (bne_ hw1042_2 GW1045.out) _).trans (((cell_far (p := ⟨gb1045, _, none⟩) (bne_ hw1042_2 GW1045.out) _).trans (hHeld.2.2.1)))))))), ((cell_far (p := ⟨gb1045, _, none⟩) (bne_ hw1042_3 GW1045.out) _).trans (((cell_far (p := ⟨gb1045, _, none⟩) (bne_ hw1042_3 GW1045.out) _).trans (((cell_far (p := ⟨gb1045, _, none⟩) (bne_ hw1042_3 GW1045.out) _).trans (((cell_far (p := ⟨gb1045, _, none⟩) (bne_ hw1042_3 GW1045.out) _).trans (hHeld.2.2.2.1)))))))), ((cell_far (p := ⟨gb1045, _, none⟩) (bne_ hw1043_0 GW1045.out) _).trans (((cell_far (p := ⟨gb1045, _, none⟩) (bne_ hw1043_0 GW1045.out) _).trans (((cell_far (p := ⟨gb1045, _, none⟩) (bne_ hw1043_0 GW1045.out) _).trans (((cell_far (p := ⟨gb1045, _, none⟩) (bne_ hw1043_0 GW1045.out) _).trans (hHeld.2.2.2.2.1)))))))), ((cell_far (p := ⟨gb1045, _, none⟩) (bne_ hw1043_1 GW1045.out) _).trans (((cell_far (p := ⟨gb1045, _, none⟩) (bne_ hw1043_1 GW1045.out) _).trans (((cell_far (p := ⟨gb1045, _, none⟩) (bne_ hw1043_1 GW1045.out) _).trans (((cell_far (p := ⟨gb1045, _, none⟩) (bne_ hw1043_1 GW1045.out) _).trans (hHeld.2.2.2.2.2.1)))))))), ((cell_far (p := ⟨gb1045, _, none⟩) (bne_ hw1043_2 GW1045.out) _).trans (((cell_far (p := ⟨gb1045, _, none⟩) (bne_ hw1043_2 GW1045.out) _).trans (((cell_far (p := ⟨gb1045, _, none⟩) (bne_ hw1043_2 GW1045.out) _).trans (((cell_far (p := ⟨gb1045, _, none⟩) (bne_ hw1043_2 GW1045.out) _).trans (hHeld.2.2.2.2.2.2.1)))))))), ((cell_far (p := ⟨gb1045, _, none⟩) (bne_ hw1043_3 GW1045.out) _).trans (((cell_far (p := ⟨gb1045, _, none⟩) (bne_ hw1043_3 GW1045.out) _).trans (((cell_far (p := ⟨gb1045, _, none⟩) (bne_ hw1043_3 GW1045.out) _).trans (((cell_far (p := ⟨gb1045, _, none⟩) (bne_ hw1043_3 GW1045.out) _).trans (hHeld.2.2.2.2.2.2.2))))))))⟩ (fun hHeld => ?_)
      clear hK K
      refine done_ (done_of HT_.out (by kernel_rfl)) ?_
      have hnb22 := NB1044_1045.out
      have hnc22 := NB1045_1044.out
      have hcz23_0 : w13.cell? ⟨gb1044, 0, none⟩ = some (.int .i64 0) := (blk_cell BK1044.out 0).trans rfl
      have hcz23_1 : w13.cell? ⟨gb1044, 1, none⟩ = some (.int .i64 0) := (blk_cell BK1044.out 1).trans rfl
      have hcz23_2 : w13.cell? ⟨gb1044, 2, none⟩ = some (.int .i64 0) := (blk_cell BK1044.out 2).trans rfl
      have hcz23_3 : w13.cell? ⟨gb1044, 3, none⟩ = some (.int .i64 0) := (blk_cell BK1044.out 3).trans rfl
      have hfz23_0 := blk_frozen BK1044.out 0
      have hfz23_1 := blk_frozen BK1044.out 1
      have hfz23_2 := blk_frozen BK1044.out 2
      have hfz23_3 := blk_frozen BK1044.out 3
      have hcz24_0 : w13.cell? ⟨gb1045, 0, none⟩ = some (.int .i64 0) := (blk_cell BK1045.out 0).trans rfl
      have hcz24_1 : w13.cell? ⟨gb1045, 1, none⟩ = some (.int .i64 0) := (blk_cell BK1045.out 1).trans rfl
      have hcz24_2 : w13.cell? ⟨gb1045, 2, none⟩ = some (.int .i64 0) := (blk_cell BK1045.out 2).trans rfl
      have hcz24_3 : w13.cell? ⟨gb1045, 3, none⟩ = some (.int .i64 0) := (blk_cell BK1045.out 3).trans rfl
      have hfz24_0 := blk_frozen BK1045.out 0
      have hfz24_1 := blk_frozen BK1045.out 1
      have hfz24_2 := blk_frozen BK1045.out 2
      have hfz24_3 := blk_frozen BK1045.out 3
      try go_wp2
      go_ret
      exact ⟨by first | rfl | (simp [errW_none, errW_some] <;> rfl) | (simp [*, errW_none, errW_some] <;> rfl), by repeat (first | (with_reducible first | exact HB.out | apply below_alloc | apply pw_below_drewN | apply below_drew1 | refine below_set ?_ GE1044.out | refine below_set ?_ GE1045.out) | exact HB.out)⟩
     ·rw [if_neg c9] at H
      have c9b0 : (a1 == 1) = false := beq_eq_false_iff_ne.mpr c9
      have c9b1 : (a1 != 1) = true := bne_iff_ne.mpr c9
      by_cases c25 : a1 = 2
      ·rw [if_pos c25] at H
       have c25b0 : (a1 == 2) = true := beq_iff_eq.mpr c25
       have c25b1 : (a1 != 2) = false := bne_eq_false_iff_eq.mpr c25
       clear c25
       obtain rfl := Option.some.inj H
       go_enter Try.func209, Try.ntmps209
       try go_wp2
       have n0_ := Aside0.mk (below_drew1 HB.out)
       clear HB
       have HB := n0_
       clear n0_
       have p1042 : 0 ≤ (a2 : Int) := of_decide_eq_true (by first | (with_reducible assumption) | assumption)
       have q1042 : a2 < (l0.length : Int) := of_decide_eq_true (by first | (with_reducible assumption) | assumption)
       obtain ⟨ad1042, e1042, hx1042_0, hx1042_1, hx1042_2, hx1042_3⟩ := at_T127 HR0.out a2 p1042 q1042
       have hw1042_3 := hx1042_3
       have hw1042_2 := hx1042_2
       have hw1042_1 := hx1042_1
       have hw1042_0 := hx1042_0
       cases e1042
       replace hx1042_0 := (HB.out.cell (World.block_lt_of_cell? w _ hx1042_0)).trans hx1042_0
       replace hx1042_1 := (HB.out.cell (World.block_lt_of_cell? w _ hx1042_1)).trans hx1042_1
       replace hx1042_2 := (HB.out.cell (World.block_lt_of_cell? w _ hx1042_2)).trans hx1042_2
       replace hx1042_3 := (HB.out.cell (World.block_lt_of_cell? w _ hx1042_3)).trans hx1042_3
       replace p1042 := eq_true p1042
       replace q1042 := eq_true q1042
       have p1043 : 0 ≤ (a3 : Int) := of_decide_eq_true (by first | (with_reducible assumption) | assumption)
       have q1043 : a3 < (l0.length : Int) := of_decide_eq_true (by first | (with_reducible assumption) | assumption)
       obtain ⟨ad1043, e1043, hx1043_0, hx1043_1, hx1043_2, hx1043_3⟩ := at_T127 HR0.out a3 p1043 q1043
       have hw1043_3 := hx1043_3
       have hw1043_2 := hx1043_2
       have hw1043_1 := hx1043_1
       have hw1043_0 := hx1043_0
       obtain rfl : ad1042 = ad1043 := (by injection e1043)
       replace hx1043_0 := (HB.out.cell (World.block_lt_of_cell? w _ hx1043_0)).trans hx1043_0
       replace hx1043_1 := (HB.out.cell (World.block_lt_of_cell? w _ hx1043_1)).trans hx1043_1
       replace hx1043_2 := (HB.out.cell (World.block_lt_of_cell? w _ hx1043_2)).trans hx1043_2
       replace hx1043_3 := (HB.out.cell (World.block_lt_of_cell? w _ hx1043_3)).trans hx1043_3
       replace p1043 := eq_true p1043
       replace q1043 := eq_true q1043
       refine start_ (n := 12) (S := fun w' => w'.cell? (ad1042.add ((a2).toNat * 4)) = some (.int .i64 ((rd_T127 l0 a2).f0)) ∧ w'.cell? ⟨(ad1042.add ((a2).toNat * 4)).block, (ad1042.add ((a2).toNat * 4)).off + 1, none⟩ = some (.int .i64 ((rd_T127 l0 a2).f1)) ∧ w'.cell? ⟨(ad1042.add ((a2).toNat * 4)).block, (ad1042.add ((a2).toNat * 4)).off + 2, none⟩ = some (.int .i64 ((rd_T127 l0 a2).f2)) ∧ w'.cell? ⟨(ad1042.add ((a2).toNat * 4)).block, (ad1042.add ((a2).toNat * 4)).off + 3, none⟩ = some (.int .i64 ((rd_T127 l0 a2).f3)) ∧ w'.cell? (ad1042.add ((a3).toNat * 4)) = some (.int .i64 ((rd_T127 l0 a3).f0)) ∧ w'.cell? ⟨(ad1042.add ((a3).toNat * 4)).block, (ad1042.add ((a3).toNat * 4)).off + 1, none⟩ = some (.int .i64 ((rd_T127 l0 a3).f1)) ∧ w'.cell? ⟨(ad1042.add ((a3).toNat * 4)).block, (ad1042.add ((a3).toNat * 4)).off + 2, none⟩ = some (.int .i64 ((rd_T127 l0 a3).f2)) ∧ w'.cell? ⟨(ad1042.add ((a3).toNat * 4)).block, (ad1042.add ((a3).toNat * 4)).off + 3, none⟩ = some (.int .i64 ((rd_T127 l0 a3).f3))) (ds := []) q209_0 (by kernel_rfl) rfl rfl ⟨(bcl_ HB.out hw1042_0), (bcl_ HB.out hw1042_1), (bcl_ HB.out hw1042_2), (bcl_ HB.out hw1042_3), (bcl_ HB.out hw1043_0), (bcl_ HB.out hw1043_1), (bcl_ HB.out hw1043_2), (bcl_ HB.out hw1043_3)⟩ (fun hHeld => ?_); refine with_tabW spec_l3Gap.tab1 spec_l3Gap.bits1 (fun HT_ HW_ => ?_)
       generalize w.drew = w26 at HB hx1042_0 hx1042_1 hx1042_2 hx1042_3 hx1043_0 hx1043_1 hx1043_2 hx1043_3 hHeld ⊢
       refine pure_ (i := 0) (N := some 11) (v := ?_) (a' := ?_) q209_1 rfl rfl (any_of HT_.out (by kernel_rfl)) (fun _ _ _ h => h) (Or.inl ⟨by rfl, ?_⟩) ?_ ?_
       rotate_left
       ·intro w'
        go_simp
        with_reducible rfl
       rotate_left
       ·simp only [aq_]
        rfl
       refine pure_ (i := 1) (N := some 12) (v := ?_) (a' := ?_) q209_2 rfl rfl (any_of HT_.out (by kernel_rfl)) (fun _ _ _ h => h) (Or.inl ⟨by rfl, ?_⟩) ?_ ?_
       rotate_left
       ·intro w'
        go_simp
        with_reducible rfl
       rotate_left
       ·simp only [aq_]
        rfl
       refine pure_ (i := 2) (N := some 13) (v := ?_) (a' := ?_) q209_3 rfl rfl (any_of HT_.out (by kernel_rfl)) (fun _ _ _ h => h) (Or.inl ⟨by rfl, ?_⟩) ?_ ?_
       rotate_left
       ·intro w'
        go_simp
        with_reducible rfl
       rotate_left
       ·simp only [aq_]
        rfl
       refine pure_ (i := 4) (N := some 15) (v := ?_) (a' := ?_) q209_4 rfl rfl (any_of HT_.out (by kernel_rfl)) (fun _ _ _ h => h) (Or.inl ⟨by rfl, ?_⟩) ?_ ?_
       rotate_left
       ·intro w'
        go_simp
        with_reducible rfl
       rotate_left
       ·simp only [aq_]
        rfl
       refine pure_ (i := 5) (N := some 16) (v := ?_) (a' := ?_) q209_5 rfl rfl (any_of HT_.out (by kernel_rfl)) (fun _ _ _ h => h) (Or.inl ⟨by rfl, ?_⟩) ?_ ?_
       rotate_left
       ·intro w'
        go_simp
        with_reducible rfl
       rotate_left
       ·simp only [aq_]
        rfl
       refine pure_ (i := 6) (N := some 17) (v := ?_) (a' := ?_) q209_6 rfl rfl (any_of HT_.out (by kernel_rfl)) (fun _ _ _ h => h) (Or.inl ⟨by rfl, ?_⟩) ?_ ?_
       rotate_left
       ·intro w'
        go_simp
        with_reducible rfl
       rotate_left
       ·simp only [aq_]
        rfl
       refine take_ (i := 3) (N := some 14) (v := ?_) (a' := ?_) q209_7 rfl rfl (take_ofW HT_.out HW_.out (by kernel_rfl)) (fun _ _ _ h => h) (Or.inl ⟨by rfl, ?_⟩) hHeld ?_ ?_
       rotate_left
       ·rintro w' ⟨s0, s1, s2, s3, s4, s5, s6, s7⟩
        go_simp
        with_reducible rfl
       rotate_left
       ·simp only [aq_]
        rfl
       refine take_ (i := 7) (N := some 18) (v := ?_) (a' := ?_) q209_8 rfl rfl (take_ofW HT_.out HW_.out (by kernel_rfl)) (fun _ _ _ h => h) (Or.inl ⟨by rfl, ?_⟩) hHeld ?_ ?_
       rotate_left
       ·rintro w' ⟨s0, s1, s2, s3, s4, s5, s6, s7⟩
        go_simp
        with_reducible rfl
       rotate_left
       ·simp only [aq_]
        rfl
       refine join_ (σ := Nat × Nat) 2 q209_9 (fun s_ => [(9, .pointer (some ⟨s_.1, 0, none⟩)), (10, .pointer (some ⟨s_.2, 0, none⟩))]) (fun s_ w' => (w'.cell? (ad1042.add ((a2).toNat * 4)) = some (.int .i64 ((rd_T127 l0 a2).f0)) ∧ w'.cell? ⟨(ad1042.add ((a2).toNat * 4)).block, (ad1042.add ((a2).toNat * 4)).off + 1, none⟩ = some (.int .i64 ((rd_T127 l0 a2).f1)) ∧ w'.cell? ⟨(ad1042.add ((a2).toNat * 4)).block, (ad1042.add ((a2).toNat * 4)).off + 2, none⟩ = some (.int .i64 ((rd_T127 l0 a2).f2)) ∧ w'.cell? ⟨(ad1042.add ((a2).toNat * 4)).block, (ad1042.add ((a2).toNat * 4)).off + 3, none⟩ = some (.int .i64 ((rd_T127 l0 a2).f3)) ∧ w'.cell? (ad1042.add ((a3).toNat * 4)) = some (.int .i64 ((rd_T127 l0 a3).f0)) ∧ w'.cell? ⟨(ad1042.add ((a3).toNat * 4)).block, (ad1042.add ((a3).toNat * 4)).off + 1, none⟩ = some (.int .i64 ((rd_T127 l0 a3).f1)) ∧ w'.cell? ⟨(ad1042.add ((a3).toNat * 4)).block, (ad1042.add ((a3).toNat * 4)).off + 2, none⟩ = some (.int .i64 ((rd_T127 l0 a3).f2)) ∧ w'.cell? ⟨(ad1042.add ((a3).toNat * 4)).block, (ad1042.add ((a3).toNat * 4)).off + 3, none⟩ = some (.int .i64 ((rd_T127 l0 a3).f3))) ∧ (w'.heap[s_.1]? = some (.cells #[.int .i64 0, .int .i64 0, .int .i64 0, .int .i64 0] 127 (0, 0))) ∧ (w'.heap[s_.2]? = some (.cells #[.int .i64 0, .int .i64 0, .int .i64 0, .int .i64 0] 127 (0, 0))) ∧ (w.heap.size ≤ s_.1) ∧ (w.heap.size ≤ s_.1) ∧ (s_.2 ≠ s_.1) ∧ (s_.1 ≠ s_.2) ∧ (w.heap.size ≤ s_.2) ∧ (w.heap.size ≤ s_.2) ∧ (Below w.heap.size w w')) ?_ ?_
       rotate_left
       ·intro hCont
        refine two_ (i := 8) (j := 9) (Ni := some 9) (Nj := some 10) q209_10 q209_11 rfl rfl rfl rfl (two_of HT_.out (by kernel_rfl)) (by decide) (by decide) (fun K hK => ?_) (fun K hK => ?_)
        ·skip
         refine box_step ?hg (N := 9) ?hd (cs := #[.int .i64 0, .int .i64 0, .int .i64 0, .int .i64 0]) (t := 127) ?hr ?_; (case hd => rfl); (case hg => rfl); (case hr => first | (go_simp; done) | (go_simp; rfl))
         intro gb1044 hg w27 hbox hb
         have n0_ := Aside0.mk (below_step (by repeat (first | (with_reducible first | exact HB.out | apply below_alloc | apply pw_below_drewN | apply below_drew1) | exact HB.out)) hb)
         have n1_ := Aside0.mk (hbox)
         have n2_ := Aside0.mk ((by rw [hg]; exact (below_size (by repeat (first | (with_reducible first | exact HB.out | apply below_alloc | apply pw_below_drewN | apply below_drew1) | exact HB.out))) : w.heap.size ≤ gb1044))
         have n3_ := Aside0.mk ((by rw [hg]; exact (below_size (by repeat (first | (with_reducible first | exact HB.out | apply below_alloc | apply pw_below_drewN | apply below_drew1) | exact HB.out))) : w.heap.size ≤ gb1044))
         clear HB
         have HB := n0_
         have BK1044 := n1_
         have GW1044 := n2_
         have GE1044 := n3_
         clear n0_ n1_ n2_ n3_
         clear hb hbox hg
         refine hK.out _ _ ⟨(bcl_ HB.out hw1042_0), (bcl_ HB.out hw1042_1), (bcl_ HB.out hw1042_2), (bcl_ HB.out hw1042_3), (bcl_ HB.out hw1043_0), (bcl_ HB.out hw1043_1), (bcl_ HB.out hw1043_2), (bcl_ HB.out hw1043_3)⟩ (fun hHeld => ?_)
         clear hK K
         refine norm_ (a' := ?_) ?_ ?_
         rotate_left
         ·show Act.put _ (some 9) _ = _
          simp only [aq_]
          rfl
         refine one_ (i := 9) (N := some 10) q209_9 rfl rfl (one_of HT_.out (by kernel_rfl)) (by decide) (fun K hK => ?_)
         refine box_step ?hg (N := 10) ?hd (cs := #[.int .i64 0, .int .i64 0, .int .i64 0, .int .i64 0]) (t := 127) ?hr ?_; (case hd => rfl); (case hg => rfl); (case hr => first | (go_simp; done) | (go_simp; rfl))
         intro gb1045 hg w28 hbox hb
         have n0_ := Aside0.mk (blk_below (g := gb1044) (o := .cells #[.int .i64 0, .int .i64 0, .int .i64 0, .int .i64 0] 127 (0, 0)) (by (with_reducible repeat (first | refine blk_drewN ?_ _ | refine blk_drew ?_ | refine blk_alloc ?_ _)); exact BK1044.out) hb)
         have n1_ := Aside0.mk (below_step (by repeat (first | (with_reducible first | exact HB.out | apply below_alloc | apply pw_below_drewN | apply below_drew1 | refine below_set ?_ GE1044.out) | exact HB.out)) hb)
         have n2_ := Aside0.mk (hbox)
         have n3_ := Aside0.mk ((by rw [hg]; exact (below_size (by repeat (first | (with_reducible first | exact HB.out | apply below_alloc | apply pw_below_drewN | apply below_drew1 | refine below_set ?_ GE1044.out) | exact HB.out))) : w.heap.size ≤ gb1045))
         have n4_ := Aside0.mk ((by rw [hg]; exact (below_size (by repeat (first | (with_reducible first | exact HB.out | apply below_alloc | apply pw_below_drewN | apply below_drew1 | refine below_set ?_ GE1044.out) | exact HB.out))) : w.heap.size ≤ gb1045))
         have n5_ := Aside0.mk ((by rw [hg]; exact Nat.ne_of_lt (blk_lt (g := gb1044) (o := .cells #[.int .i64 0, .int .i64 0, .int .i64 0, .int .i64 0] 127 (0, 0)) (by (with_reducible repeat (first | refine blk_drewN ?_ _ | refine blk_drew ?_ | refine blk_alloc ?_ _)); exact BK1044.out)) : gb1044 ≠ gb1045))
         have n6_ := Aside0.mk ((by rw [hg]; exact Nat.ne_of_gt (blk_lt (g := gb1044) (o := .cells #[.int .i64 0, .int .i64 0, .int .i64 0, .int .i64 0] 127 (0, 0)) (by (with_reducible repeat (first | refine blk_drewN ?_ _ | refine blk_drew ?_ | refine blk_alloc ?_ _)); exact BK1044.out)) : gb1045 ≠ gb1044))
         clear BK1044
         clear HB
         have BK1044 := n0_
         have HB := n1_
         have BK1045 := n2_
         have GW1045 := n3_
         have GE1045 := n4_
         have NB1044_1045 := n5_
         have NB1045_1044 := n6_
         clear n0_ n1_ n2_ n3_ n4_ n5_ n6_
         clear hb hbox hg
         refine hK.out _ _ ⟨(bcl_ HB.out hw1042_0), (bcl_ HB.out hw1042_1), (bcl_ HB.out hw1042_2), (bcl_ HB.out hw1042_3), (bcl_ HB.out hw1043_0), (bcl_ HB.out hw1043_1), (bcl_ HB.out hw1043_2), (bcl_ HB.out hw1043_3)⟩ (fun hHeld => ?_)
         clear hK K
         refine norm_ (a' := ?_) ?_ ?_
         rotate_left
         ·show Act.put _ (some 10) _ = _
          simp only [aq_]
          rfl
         exact norm_ (by simp only [putAll, Act.put, List.setIfInBounds_toArray, List.set_cons_zero, List.set_cons_succ]) (hCont (gb1044, gb1045) _ ⟨hHeld, (by (with_reducible repeat (first | refine blk_drewN ?_ _ | refine blk_drew ?_ | refine blk_alloc ?_ _)); exact BK1044.out), (by (with_reducible repeat (first | refine blk_drewN ?_ _ | refine blk_drew ?_ | refine blk_alloc ?_ _)); exact BK1045.out), GW1044.out, GE1044.out, NB1045_1044.out, NB1044_1045.out, GW1045.out, GE1045.out, (by repeat (first | (with_reducible first | exact HB.out | apply below_alloc | apply pw_below_drewN | apply below_drew1 | refine below_set ?_ GE1044.out | refine below_set ?_ GE1045.out) | exact HB.out))⟩)
        ·skip
         refine box_step ?hg (N := 10) ?hd (cs := #[.int .i64 0, .int .i64 0, .int .i64 0, .int .i64 0]) (t := 127) ?hr ?_; (case hd => rfl); (case hg => rfl); (case hr => first | (go_simp; done) | (go_simp; rfl))
         intro gb1045 hg w27 hbox hb
         have n0_ := Aside0.mk (below_step (by repeat (first | (with_reducible first | exact HB.out | apply below_alloc | apply pw_below_drewN | apply below_drew1) | exact HB.out)) hb)
         have n1_ := Aside0.mk (hbox)
         have n2_ := Aside0.mk ((by rw [hg]; exact (below_size (by repeat (first | (with_reducible first | exact HB.out | apply below_alloc | apply pw_below_drewN | apply below_drew1) | exact HB.out))) : w.heap.size ≤ gb1045))
         have n3_ := Aside0.mk ((by rw [hg]; exact (below_size (by repeat (first | (with_reducible first | exact HB.out | apply below_alloc | apply pw_below_drewN | apply below_drew1) | exact HB.out))) : w.heap.size ≤ gb1045))
         clear HB
         have HB := n0_
         have BK1045 := n1_
         have GW1045 := n2_
         have GE1045 := n3_
         clear n0_ n1_ n2_ n3_
         clear hb hbox hg
         refine hK.out _ _ ⟨(bcl_ HB.out hw1042_0), (bcl_ HB.out hw1042_1), (bcl_ HB.out hw1042_2), (bcl_ HB.out hw1042_3), (bcl_ HB.out hw1043_0), (bcl_ HB.out hw1043_1), (bcl_ HB.out hw1043_2), (bcl_ HB.out hw1043_3)⟩ (fun hHeld => ?_)
         clear hK K
         refine norm_ (a' := ?_) ?_ ?_
         rotate_left
         ·show Act.put _ (some 10) _ = _
          simp only [aq_]
          rfl
         refine one_ (i := 8) (N := some 9) q209_9 rfl rfl (one_of HT_.out (by kernel_rfl)) (by decide) (fun K hK => ?_)
         refine box_step ?hg (N := 9) ?hd (cs := #[.int .i64 0, .int .i64 0, .int .i64 0, .int .i64 0]) (t := 127) ?hr ?_; (case hd => rfl); (case hg => rfl); (case hr => first | (go_simp; done) | (go_simp; rfl))
         intro gb1044 hg w28 hbox hb
         have n0_ := Aside0.mk (blk_below (g := gb1045) (o := .cells #[.int .i64 0, .int .i64 0, .int .i64 0, .int .i64 0] 127 (0, 0)) (by (with_reducible repeat (first | refine blk_drewN ?_ _ | refine blk_drew ?_ | refine blk_alloc ?_ _)); exact BK1045.out) hb)
         have n1_ := Aside0.mk (below_step (by repeat (first | (with_reducible first | exact HB.out | apply below_alloc | apply pw_below_drewN | apply below_drew1 | refine below_set ?_ GE1045.out) | exact HB.out)) hb)
         have n2_ := Aside0.mk (hbox)
         have n3_ := Aside0.mk ((by rw [hg]; exact (below_size (by repeat (first | (with_reducible first | exact HB.out | apply below_alloc | apply pw_below_drewN | apply below_drew1 | refine below_set ?_ GE1045.out) | exact HB.out))) : w.heap.size ≤ gb1044))
         have n4_ := Aside0.mk ((by rw [hg]; exact (below_size (by repeat (first | (with_reducible first | exact HB.out | apply below_alloc | apply pw_below_drewN | apply below_drew1 | refine below_set ?_ GE1045.out) | exact HB.out))) : w.heap.size ≤ gb1044))
         have n5_ := Aside0.mk ((by rw [hg]; exact Nat.ne_of_lt (blk_lt (g := gb1045) (o := .cells #[.int .i64 0, .int .i64 0, .int .i64 0, .int .i64 0] 127 (0, 0)) (by (with_reducible repeat (first | refine blk_drewN ?_ _ | refine blk_drew ?_ | refine blk_alloc ?_ _)); exact BK1045.out)) : gb1045 ≠ gb1044))
         have n6_ := Aside0.mk ((by rw [hg]; exact Nat.ne_of_gt (blk_lt (g := gb1045) (o := .cells #[.int .i64 0, .int .i64 0, .int .i64 0, .int .i64 0] 127 (0, 0)) (by (with_reducible repeat (first | refine blk_drewN ?_ _ | refine blk_drew ?_ | refine blk_alloc ?_ _)); exact BK1045.out)) : gb1044 ≠ gb1045))
         clear BK1045
         clear HB
         have BK1045 := n0_
         have HB := n1_
         have BK1044 := n2_
         have GW1044 := n3_
         have GE1044 := n4_
         have NB1045_1044 := n5_
         have NB1044_1045 := n6_
         clear n0_ n1_ n2_ n3_ n4_ n5_ n6_
         clear hb hbox hg
         refine hK.out _ _ ⟨(bcl_ HB.out hw1042_0), (bcl_ HB.out hw1042_1), (bcl_ HB.out hw1042_2), (bcl_ HB.out hw1042_3), (bcl_ HB.out hw1043_0), (bcl_ HB.out hw1043_1), (bcl_ HB.out hw1043_2), (bcl_ HB.out hw1043_3)⟩ (fun hHeld => ?_)
         clear hK K
         refine norm_ (a' := ?_) ?_ ?_
         rotate_left
         ·show Act.put _ (some 9) _ = _
          simp only [aq_]
          rfl
         exact norm_ (by simp only [putAll, Act.put, List.setIfInBounds_toArray, List.set_cons_zero, List.set_cons_succ]) (hCont (gb1044, gb1045) _ ⟨hHeld, (by (with_reducible repeat (first | refine blk_drewN ?_ _ | refine blk_drew ?_ | refine blk_alloc ?_ _)); exact BK1044.out), (by (with_reducible repeat (first | refine blk_drewN ?_ _ | refine blk_drew ?_ | refine blk_alloc ?_ _)); exact BK1045.out), GW1044.out, GE1044.out, NB1045_1044.out, NB1044_1045.out, GW1045.out, GE1045.out, (by repeat (first | (with_reducible first | exact HB.out | apply below_alloc | apply pw_below_drewN | apply below_drew1 | refine below_set ?_ GE1045.out | refine below_set ?_ GE1044.out) | exact HB.out))⟩)
       rintro ⟨gb1044, gb1045⟩ w29 ⟨hS_, h0_, h1_, h2_, h3_, h4_, h5_, h6_, h7_, h8_⟩
       have n0_ : Aside0 (w29.heap[gb1044]? = some (.cells #[.int .i64 0, .int .i64 0, .int .i64 0, .int .i64 0] 127 (0, 0))) := ⟨h0_⟩
       have n1_ : Aside0 (w29.heap[gb1045]? = some (.cells #[.int .i64 0, .int .i64 0, .int .i64 0, .int .i64 0] 127 (0, 0))) := ⟨h1_⟩
       have n2_ : Aside0 (w.heap.size ≤ gb1044) := ⟨h2_⟩
       have n3_ : Aside0 (w.heap.size ≤ gb1044) := ⟨h3_⟩
       have n4_ : Aside0 (gb1045 ≠ gb1044) := ⟨h4_⟩
       have n5_ : Aside0 (gb1044 ≠ gb1045) := ⟨h5_⟩
       have n6_ : Aside0 (w.heap.size ≤ gb1045) := ⟨h6_⟩
       have n7_ : Aside0 (w.heap.size ≤ gb1045) := ⟨h7_⟩
       have n8_ : Aside0 (Below w.heap.size w w29) := ⟨h8_⟩
       clear HB
       clear h0_ h1_ h2_ h3_ h4_ h5_ h6_ h7_ h8_
       have BK1044 := n0_
       have BK1045 := n1_
       have GW1044 := n2_
       have GE1044 := n3_
       have NB1045_1044 := n4_
       have NB1044_1045 := n5_
       have GW1045 := n6_
       have GE1045 := n7_
       have HB := n8_
       clear n0_ n1_ n2_ n3_ n4_ n5_ n6_ n7_ n8_
       have hHeld : w29.cell? (ad1042.add ((a2).toNat * 4)) = some (.int .i64 ((rd_T127 l0 a2).f0)) ∧ w29.cell? ⟨(ad1042.add ((a2).toNat * 4)).block, (ad1042.add ((a2).toNat * 4)).off + 1, none⟩ = some (.int .i64 ((rd_T127 l0 a2).f1)) ∧ w29.cell? ⟨(ad1042.add ((a2).toNat * 4)).block, (ad1042.add ((a2).toNat * 4)).off + 2, none⟩ = some (.int .i64 ((rd_T127 l0 a2).f2)) ∧ w29.cell? ⟨(ad1042.add ((a2).toNat * 4)).block, (ad1042.add ((a2).toNat * 4)).off + 3, none⟩ = some (.int .i64 ((rd_T127 l0 a2).f3)) ∧ w29.cell? (ad1042.add ((a3).toNat * 4)) = some (.int .i64 ((rd_T127 l0 a3).f0)) ∧ w29.cell? ⟨(ad1042.add ((a3).toNat * 4)).block, (ad1042.add ((a3).toNat * 4)).off + 1, none⟩ = some (.int .i64 ((rd_T127 l0 a3).f1)) ∧ w29.cell? ⟨(ad1042.add ((a3).toNat * 4)).block, (ad1042.add ((a3).toNat * 4)).off + 2, none⟩ = some (.int .i64 ((rd_T127 l0 a3).f2)) ∧ w29.cell? ⟨(ad1042.add ((a3).toNat * 4)).block, (ad1042.add ((a3).toNat * 4)).off + 3, none⟩ = some (.int .i64 ((rd_T127 l0 a3).f3)) := hS_
       refine norm_ (a' := ?_) ?_ ?_
       rotate_left
       ·simp only [putAll, Act.put, List.setIfInBounds_toArray, List.set_cons_zero, List.set_cons_succ]
        rfl
       refine one_ (i := 10) (N := none) q209_12 rfl rfl (one_of HT_.out (by kernel_rfl)) (by decide) (fun K hK => ?_)
       have hs30 : w29.cell? ⟨gb1044, 0, none⟩ = some (.int .i64 0) := (blk_cell BK1044.out 0).trans rfl
       have hfs30 := blk_frozen BK1044.out 0
       have hns30_1 := NB1045_1044.out
       have hms30_1 := NB1044_1045.out
       have hs31 : w29.cell? ⟨gb1044, 1, none⟩ = some (.int .i64 0) := (blk_cell BK1044.out 1).trans rfl
       have hfs31 := blk_frozen BK1044.out 1
       have hns31_1 := NB1045_1044.out
       have hms31_1 := NB1044_1045.out
       have hs32 : w29.cell? ⟨gb1044, 2, none⟩ = some (.int .i64 0) := (blk_cell BK1044.out 2).trans rfl
       have hfs32 := blk_frozen BK1044.out 2
       have hns32_1 := NB1045_1044.out
       have hms32_1 := NB1044_1045.out
       have hs33 : w29.cell? ⟨gb1044, 3, none⟩ = some (.int .i64 0) := (blk_cell BK1044.out 3).trans rfl
       have hfs33 := blk_frozen BK1044.out 3
       have hns33_1 := NB1045_1044.out
       have hms33_1 := NB1044_1045.out
       refine skip_ (w1 := ?_) (by rfl) rfl ?_ ?_
       rotate_left
       ·go_simp
        rfl
       refine hK.out _ _ ⟨((cell_far (p := ⟨gb1044, _, none⟩) (bne_ hw1042_0 GW1044.out) _).trans (((cell_far (p := ⟨gb1044, _, none⟩) (bne_ hw1042_0 GW1044.out) _).trans (((cell_far (p := ⟨gb1044, _, none⟩) (bne_ hw1042_0 GW1044.out) _).trans (((cell_far (p := ⟨gb1044, _, none⟩) (bne_ hw1042_0 GW1044.out) _).trans (hHeld.1)))))))), ((cell_far (p := ⟨gb1044, _, none⟩) (bne_ hw1042_1 GW1044.out) _).trans (((cell_far (p := ⟨gb1044, _, none⟩) (bne_ hw1042_1 GW1044.out) _).trans (((cell_far (p := ⟨gb1044, _, none⟩) (bne_ hw1042_1 GW1044.out) _).trans (((cell_far (p := ⟨gb1044, _, none⟩) (bne_ hw1042_1 GW1044.out) _).trans (hHeld.2.1)))))))), ((cell_far (p := ⟨gb1044, _, none⟩) (bne_ hw1042_2 GW1044.out) _).trans (((cell_far (p := ⟨gb1044, _, none⟩) (bne_ hw1042_2 GW1044.out) _).trans (((cell_far (p := ⟨gb1044, _, none⟩) (bne_ hw1042_2 GW1044.out) _).trans (((cell_far (p := ⟨gb1044, _, none⟩) (bne_ hw1042_2 GW1044.out) _).trans (hHeld.2.2.1)))))))), ((cell_far (p := ⟨gb1044, _, none⟩) (bne_ hw1042_3 GW1044.out) _).trans (((cell_far (p := ⟨gb1044, _, none⟩) (bne_ hw1042_3 GW1044.out) _).trans (((cell_far (p := ⟨gb1044, _, none⟩) (bne_ hw1042_3 GW1044.out) _).trans (((cell_far (p := ⟨gb1044, _, none⟩) (bne_ hw1042_3 GW1044.out) _).trans (hHeld.2.2.2.1)))))))), ((cell_far (p := ⟨gb1044, _, none⟩) (bne_ hw1043_0 GW1044.out) _).trans (((cell_far (p := ⟨gb1044, _, none⟩) (bne_ hw1043_0 GW1044.out) _).trans (((cell_far (p := ⟨gb1044, _, none⟩) (bne_ hw1043_0 GW1044.out) _).trans (((cell_far (p := ⟨gb1044, _, none⟩) (bne_ hw1043_0 GW1044.out) _).trans (hHeld.2.2.2.2.1)))))))), ((cell_far (p := ⟨gb1044, _, none⟩) (bne_ hw1043_1 GW1044.out) _).trans (((cell_far (p := ⟨gb1044, _, none⟩) (bne_ hw1043_1 GW1044.out) _).trans (((cell_far (p := ⟨gb1044, _, none⟩) (bne_ hw1043_1 GW1044.out) _).trans (((cell_far (p := ⟨gb1044, _, none⟩) (bne_ hw1043_1 GW1044.out) _).trans (hHeld.2.2.2.2.2.1)))))))), ((cell_far (p := ⟨gb1044, _, none⟩) (bne_ hw1043_2 GW1044.out) _).trans (((cell_far (p := ⟨gb1044, _, none⟩) (bne_ hw1043_2 GW1044.out) _).trans (((cell_far (p := ⟨gb1044, _, none⟩) (bne_ hw1043_2 GW1044.out) _).trans (((cell_far (p := ⟨gb1044, _, none⟩) (bne_ hw1043_2 GW1044.out) _).trans (hHeld.2.2.2.2.2.2.1)))))))), ((cell_far (p := ⟨gb1044, _, none⟩) (bne_ hw1043_3 GW1044.out) _).trans (((cell_far (p := ⟨gb1044, _, none⟩) (bne_ hw1043_3 GW1044.out) _).trans (((cell_far (p := ⟨gb1044, _, none⟩) (bne_ hw1043_3 GW1044.out) _).trans (((cell_far (p := ⟨gb1044, _, none⟩) (bne_ hw1043_3 GW1044.out) _).trans (hHeld.2.2.2.2.2.2.2))))))))⟩ (fun hHeld => ?_)
       clear hK K
       refine one_ (i := 11) (N := none) q209_13 rfl rfl (one_of HT_.out (by kernel_rfl)) (by decide) (fun K hK => ?_)
       have hs34 : w29.cell? ⟨gb1045, 0, none⟩ = some (.int .i64 0) := (blk_cell BK1045.out 0).trans rfl
       have hfs34 := blk_frozen BK1045.out 0
       have hns34_0 := NB1044_1045.out
       have hms34_0 := NB1045_1044.out
       have hs35 : w29.cell? ⟨gb1045, 1, none⟩ = some (.int .i64 0) := (blk_cell BK1045.out 1).trans rfl
       have hfs35 := blk_frozen BK1045.out 1
       have hns35_0 := NB1044_1045.out
       have hms35_0 := NB1045_1044.out
       have hs36 : w29.cell? ⟨gb1045, 2, none⟩ = some (.int .i64 0) := (blk_cell BK1045.out 2).trans rfl
       have hfs36 := blk_frozen BK1045.out 2
       have hns36_0 := NB1044_1045.out
       have hms36_0 := NB1045_1044.out
       have hs37 : w29.cell? ⟨gb1045, 3, none⟩ = some (.int .i64 0) := (blk_cell BK1045.out 3).trans rfl
       have hfs37 := blk_frozen BK1045.out 3
       have hns37_0 := NB1044_1045.out
       have hms37_0 := NB1045_1044.out
       refine skip_ (w1 := ?_) (by rfl) rfl ?_ ?_
       rotate_left
       ·go_simp
        rfl
       refine hK.out _ _ ⟨((cell_far (p := ⟨gb1045, _, none⟩) (bne_ hw1042_0 GW1045.out) _).trans (((cell_far (p := ⟨gb1045, _, none⟩) (bne_ hw1042_0 GW1045.out) _).trans (((cell_far (p := ⟨gb1045, _, none⟩) (bne_ hw1042_0 GW1045.out) _).trans (((cell_far (p := ⟨gb1045, _, none⟩) (bne_ hw1042_0 GW1045.out) _).trans (hHeld.1)))))))), ((cell_far (p := ⟨gb1045, _, none⟩) (bne_ hw1042_1 GW1045.out) _).trans (((cell_far (p := ⟨gb1045, _, none⟩) (bne_ hw1042_1 GW1045.out) _).trans (((cell_far (p := ⟨gb1045, _, none⟩) (bne_ hw1042_1 GW1045.out) _).trans (((cell_far (p := ⟨gb1045, _, none⟩) (bne_ hw1042_1 GW1045.out) _).trans (hHeld.2.1)))))))), ((cell_far (p := ⟨gb1045, _, none⟩) (bne_ hw1042_2 GW1045.out) _).trans (((cell_far (p := ⟨gb1045, _, none⟩) (bne_ hw1042_2 GW1045.out) _).trans (((cell_far (p := ⟨gb1045, _, none⟩) (bne_ hw1042_2 GW1045.out) _).trans (((cell_far (p := ⟨gb1045, _, none⟩) (bne_ hw1042_2 GW1045.out) _).trans (hHeld.2.2.1)))))))), ((cell_far (p := ⟨gb1045, _, none⟩) (bne_ hw1042_3 GW1045.out) _).trans (((cell_far (p := ⟨gb1045, _, none⟩) (bne_ hw1042_3 GW1045.out) _).trans (((cell_far (p := ⟨gb1045, _, none⟩) (bne_ hw1042_3 GW1045.out) _).trans (((cell_far (p := ⟨gb1045, _, none⟩) (bne_ hw1042_3 GW1045.out) _).trans (hHeld.2.2.2.1)))))))), ((cell_far (p := ⟨gb1045, _, none⟩) (bne_ hw1043_0 GW1045.out) _).trans (((cell_far (p := ⟨gb1045, _, none⟩) (bne_ hw1043_0 GW1045.out) _).trans (((cell_far (p := ⟨gb1045, _, none⟩) (bne_ hw1043_0 GW1045.out) _).trans (((cell_far (p := ⟨gb1045, _, none⟩) (bne_ hw1043_0 GW1045.out) _).trans (hHeld.2.2.2.2.1)))))))), ((cell_far (p := ⟨gb1045, _, none⟩) (bne_ hw1043_1 GW1045.out) _).trans (((cell_far (p := ⟨gb1045, _, none⟩) (bne_ hw1043_1 GW1045.out) _).trans (((cell_far (p := ⟨gb1045, _, none⟩) (bne_ hw1043_1 GW1045.out) _).trans (((cell_far (p := ⟨gb1045, _, none⟩) (bne_ hw1043_1 GW1045.out) _).trans (hHeld.2.2.2.2.2.1)))))))), ((cell_far (p := ⟨gb1045, _, none⟩) (bne_ hw1043_2 GW1045.out) _).trans (((cell_far (p := ⟨gb1045, _, none⟩) (bne_ hw1043_2 GW1045.out) _).trans (((cell_far (p := ⟨gb1045, _, none⟩) (bne_ hw1043_2 GW1045.out) _).trans (((cell_far (p := ⟨gb1045, _, none⟩) (bne_ hw1043_2 GW1045.out) _).trans (hHeld.2.2.2.2.2.2.1)))))))), ((cell_far (p := ⟨gb1045, _, none⟩) (bne_ hw1043_3 GW1045.out) _).trans (((cell_far (p := ⟨gb1045, _, none⟩) (bne_ hw1043_3 GW1045.out) _).trans (((cell_far (p := ⟨gb1045, _, none⟩) (bne_ hw1043_3 GW1045.out) _).trans (((cell_far (p := ⟨gb1045, _, none⟩) (bne_ hw1043_3 GW1045.out) _).trans (hHeld.2.2.2.2.2.2.2))))))))⟩ (fun hHeld => ?_)
       clear hK K
       refine done_ (done_of HT_.out (by kernel_rfl)) ?_
       have hnb38 := NB1044_1045.out
       have hnc38 := NB1045_1044.out
       have hcz39_0 : w29.cell? ⟨gb1044, 0, none⟩ = some (.int .i64 0) := (blk_cell BK1044.out 0).trans rfl
       have hcz39_1 : w29.cell? ⟨gb1044, 1, none⟩ = some (.int .i64 0) := (blk_cell BK1044.out 1).trans rfl
       have hcz39_2 : w29.cell? ⟨gb1044, 2, none⟩ = some (.int .i64 0) := (blk_cell BK1044.out 2).trans rfl
       have hcz39_3 : w29.cell? ⟨gb1044, 3, none⟩ = some (.int .i64 0) := (blk_cell BK1044.out 3).trans rfl
       have hfz39_0 := blk_frozen BK1044.out 0
       have hfz39_1 := blk_frozen BK1044.out 1
       have hfz39_2 := blk_frozen BK1044.out 2
       have hfz39_3 := blk_frozen BK1044.out 3
       have hcz40_0 : w29.cell? ⟨gb1045, 0, none⟩ = some (.int .i64 0) := (blk_cell BK1045.out 0).trans rfl
       have hcz40_1 : w29.cell? ⟨gb1045, 1, none⟩ = some (.int .i64 0) := (blk_cell BK1045.out 1).trans rfl
       have hcz40_2 : w29.cell? ⟨gb1045, 2, none⟩ = some (.int .i64 0) := (blk_cell BK1045.out 2).trans rfl
       have hcz40_3 : w29.cell? ⟨gb1045, 3, none⟩ = some (.int .i64 0) := (blk_cell BK1045.out 3).trans rfl
       have hfz40_0 := blk_frozen BK1045.out 0
       have hfz40_1 := blk_frozen BK1045.out 1
       have hfz40_2 := blk_frozen BK1045.out 2
       have hfz40_3 := blk_frozen BK1045.out 3
       try go_wp2
       go_ret
       exact ⟨by first | rfl | (simp [errW_none, errW_some] <;> rfl) | (simp [*, errW_none, errW_some] <;> rfl), by repeat (first | (with_reducible first | exact HB.out | apply below_alloc | apply pw_below_drewN | apply below_drew1 | refine below_set ?_ GE1044.out | refine below_set ?_ GE1045.out) | exact HB.out)⟩
      ·rw [if_neg c25] at H
       have c25b0 : (a1 == 2) = false := beq_eq_false_iff_ne.mpr c25
       have c25b1 : (a1 != 2) = true := bne_iff_ne.mpr c25
       by_cases c41 : a1 = 3
       ·rw [if_pos c41] at H
        have c41b0 : (a1 == 3) = true := beq_iff_eq.mpr c41
        have c41b1 : (a1 != 3) = false := bne_eq_false_iff_eq.mpr c41
        clear c41
        obtain rfl := Option.some.inj H
        go_enter Try.func209, Try.ntmps209
        try go_wp2
        have n0_ := Aside0.mk (below_drew1 HB.out)
        clear HB
        have HB := n0_
        clear n0_
        have p1042 : 0 ≤ (a2 : Int) := of_decide_eq_true (by first | (with_reducible assumption) | assumption)
        have q1042 : a2 < (l0.length : Int) := of_decide_eq_true (by first | (with_reducible assumption) | assumption)
        obtain ⟨ad1042, e1042, hx1042_0, hx1042_1, hx1042_2, hx1042_3⟩ := at_T127 HR0.out a2 p1042 q1042
        have hw1042_3 := hx1042_3
        have hw1042_2 := hx1042_2
        have hw1042_1 := hx1042_1
        have hw1042_0 := hx1042_0
        cases e1042
        replace hx1042_0 := (HB.out.cell (World.block_lt_of_cell? w _ hx1042_0)).trans hx1042_0
        replace hx1042_1 := (HB.out.cell (World.block_lt_of_cell? w _ hx1042_1)).trans hx1042_1
        replace hx1042_2 := (HB.out.cell (World.block_lt_of_cell? w _ hx1042_2)).trans hx1042_2
        replace hx1042_3 := (HB.out.cell (World.block_lt_of_cell? w _ hx1042_3)).trans hx1042_3
        replace p1042 := eq_true p1042
        replace q1042 := eq_true q1042
        have p1043 : 0 ≤ (a3 : Int) := of_decide_eq_true (by first | (with_reducible assumption) | assumption)
        have q1043 : a3 < (l0.length : Int) := of_decide_eq_true (by first | (with_reducible assumption) | assumption)
        obtain ⟨ad1043, e1043, hx1043_0, hx1043_1, hx1043_2, hx1043_3⟩ := at_T127 HR0.out a3 p1043 q1043
        have hw1043_3 := hx1043_3
        have hw1043_2 := hx1043_2
        have hw1043_1 := hx1043_1
        have hw1043_0 := hx1043_0
        obtain rfl : ad1042 = ad1043 := (by injection e1043)
        replace hx1043_0 := (HB.out.cell (World.block_lt_of_cell? w _ hx1043_0)).trans hx1043_0
        replace hx1043_1 := (HB.out.cell (World.block_lt_of_cell? w _ hx1043_1)).trans hx1043_1
        replace hx1043_2 := (HB.out.cell (World.block_lt_of_cell? w _ hx1043_2)).trans hx1043_2
        replace hx1043_3 := (HB.out.cell (World.block_lt_of_cell? w _ hx1043_3)).trans hx1043_3
        replace p1043 := eq_true p1043
        replace q1043 := eq_true q1043
        refine start_ (n := 12) (S := fun w' => w'.cell? (ad1042.add ((a2).toNat * 4)) = some (.int .i64 ((rd_T127 l0 a2).f0)) ∧ w'.cell? ⟨(ad1042.add ((a2).toNat * 4)).block, (ad1042.add ((a2).toNat * 4)).off + 1, none⟩ = some (.int .i64 ((rd_T127 l0 a2).f1)) ∧ w'.cell? ⟨(ad1042.add ((a2).toNat * 4)).block, (ad1042.add ((a2).toNat * 4)).off + 2, none⟩ = some (.int .i64 ((rd_T127 l0 a2).f2)) ∧ w'.cell? ⟨(ad1042.add ((a2).toNat * 4)).block, (ad1042.add ((a2).toNat * 4)).off + 3, none⟩ = some (.int .i64 ((rd_T127 l0 a2).f3)) ∧ w'.cell? (ad1042.add ((a3).toNat * 4)) = some (.int .i64 ((rd_T127 l0 a3).f0)) ∧ w'.cell? ⟨(ad1042.add ((a3).toNat * 4)).block, (ad1042.add ((a3).toNat * 4)).off + 1, none⟩ = some (.int .i64 ((rd_T127 l0 a3).f1)) ∧ w'.cell? ⟨(ad1042.add ((a3).toNat * 4)).block, (ad1042.add ((a3).toNat * 4)).off + 2, none⟩ = some (.int .i64 ((rd_T127 l0 a3).f2)) ∧ w'.cell? ⟨(ad1042.add ((a3).toNat * 4)).block, (ad1042.add ((a3).toNat * 4)).off + 3, none⟩ = some (.int .i64 ((rd_T127 l0 a3).f3))) (ds := []) q209_0 (by kernel_rfl) rfl rfl ⟨(bcl_ HB.out hw1042_0), (bcl_ HB.out hw1042_1), (bcl_ HB.out hw1042_2), (bcl_ HB.out hw1042_3), (bcl_ HB.out hw1043_0), (bcl_ HB.out hw1043_1), (bcl_ HB.out hw1043_2), (bcl_ HB.out hw1043_3)⟩ (fun hHeld => ?_); refine with_tabW spec_l3Gap.tab1 spec_l3Gap.bits1 (fun HT_ HW_ => ?_)
        generalize w.drew = w42 at HB hx1042_0 hx1042_1 hx1042_2 hx1042_3 hx1043_0 hx1043_1 hx1043_2 hx1043_3 hHeld ⊢
        refine pure_ (i := 0) (N := some 11) (v := ?_) (a' := ?_) q209_1 rfl rfl (any_of HT_.out (by kernel_rfl)) (fun _ _ _ h => h) (Or.inl ⟨by rfl, ?_⟩) ?_ ?_
        rotate_left
        ·intro w'
         go_simp
         with_reducible rfl
        rotate_left
        ·simp only [aq_]
         rfl
        refine pure_ (i := 1) (N := some 12) (v := ?_) (a' := ?_) q209_2 rfl rfl (any_of HT_.out (by kernel_rfl)) (fun _ _ _ h => h) (Or.inl ⟨by rfl, ?_⟩) ?_ ?_
        rotate_left
        ·intro w'
         go_simp
         with_reducible rfl
        rotate_left
        ·simp only [aq_]
         rfl
        refine pure_ (i := 2) (N := some 13) (v := ?_) (a' := ?_) q209_3 rfl rfl (any_of HT_.out (by kernel_rfl)) (fun _ _ _ h => h) (Or.inl ⟨by rfl, ?_⟩) ?_ ?_
        rotate_left
        ·intro w'
         go_simp
         with_reducible rfl
        rotate_left
        ·simp only [aq_]
         rfl
        refine pure_ (i := 4) (N := some 15) (v := ?_) (a' := ?_) q209_4 rfl rfl (any_of HT_.out (by kernel_rfl)) (fun _ _ _ h => h) (Or.inl ⟨by rfl, ?_⟩) ?_ ?_
        rotate_left
        ·intro w'
         go_simp
         with_reducible rfl
        rotate_left
        ·simp only [aq_]
         rfl
        refine pure_ (i := 5) (N := some 16) (v := ?_) (a' := ?_) q209_5 rfl rfl (any_of HT_.out (by kernel_rfl)) (fun _ _ _ h => h) (Or.inl ⟨by rfl, ?_⟩) ?_ ?_
        rotate_left
        ·intro w'
         go_simp
         with_reducible rfl
        rotate_left
        ·simp only [aq_]
         rfl
        refine pure_ (i := 6) (N := some 17) (v := ?_) (a' := ?_) q209_6 rfl rfl (any_of HT_.out (by kernel_rfl)) (fun _ _ _ h => h) (Or.inl ⟨by rfl, ?_⟩) ?_ ?_
        rotate_left
        ·intro w'
         go_simp
         with_reducible rfl
        rotate_left
        ·simp only [aq_]
         rfl
        refine take_ (i := 3) (N := some 14) (v := ?_) (a' := ?_) q209_7 rfl rfl (take_ofW HT_.out HW_.out (by kernel_rfl)) (fun _ _ _ h => h) (Or.inl ⟨by rfl, ?_⟩) hHeld ?_ ?_
        rotate_left
        ·rintro w' ⟨s0, s1, s2, s3, s4, s5, s6, s7⟩
         go_simp
         with_reducible rfl
        rotate_left
        ·simp only [aq_]
         rfl
        refine take_ (i := 7) (N := some 18) (v := ?_) (a' := ?_) q209_8 rfl rfl (take_ofW HT_.out HW_.out (by kernel_rfl)) (fun _ _ _ h => h) (Or.inl ⟨by rfl, ?_⟩) hHeld ?_ ?_
        rotate_left
        ·rintro w' ⟨s0, s1, s2, s3, s4, s5, s6, s7⟩
         go_simp
         with_reducible rfl
        rotate_left
        ·simp only [aq_]
         rfl
        refine join_ (σ := Nat × Nat) 2 q209_9 (fun s_ => [(9, .pointer (some ⟨s_.1, 0, none⟩)), (10, .pointer (some ⟨s_.2, 0, none⟩))]) (fun s_ w' => (w'.cell? (ad1042.add ((a2).toNat * 4)) = some (.int .i64 ((rd_T127 l0 a2).f0)) ∧ w'.cell? ⟨(ad1042.add ((a2).toNat * 4)).block, (ad1042.add ((a2).toNat * 4)).off + 1, none⟩ = some (.int .i64 ((rd_T127 l0 a2).f1)) ∧ w'.cell? ⟨(ad1042.add ((a2).toNat * 4)).block, (ad1042.add ((a2).toNat * 4)).off + 2, none⟩ = some (.int .i64 ((rd_T127 l0 a2).f2)) ∧ w'.cell? ⟨(ad1042.add ((a2).toNat * 4)).block, (ad1042.add ((a2).toNat * 4)).off + 3, none⟩ = some (.int .i64 ((rd_T127 l0 a2).f3)) ∧ w'.cell? (ad1042.add ((a3).toNat * 4)) = some (.int .i64 ((rd_T127 l0 a3).f0)) ∧ w'.cell? ⟨(ad1042.add ((a3).toNat * 4)).block, (ad1042.add ((a3).toNat * 4)).off + 1, none⟩ = some (.int .i64 ((rd_T127 l0 a3).f1)) ∧ w'.cell? ⟨(ad1042.add ((a3).toNat * 4)).block, (ad1042.add ((a3).toNat * 4)).off + 2, none⟩ = some (.int .i64 ((rd_T127 l0 a3).f2)) ∧ w'.cell? ⟨(ad1042.add ((a3).toNat * 4)).block, (ad1042.add ((a3).toNat * 4)).off + 3, none⟩ = some (.int .i64 ((rd_T127 l0 a3).f3))) ∧ (w'.heap[s_.1]? = some (.cells #[.int .i64 0, .int .i64 0, .int .i64 0, .int .i64 0] 127 (0, 0))) ∧ (w'.heap[s_.2]? = some (.cells #[.int .i64 0, .int .i64 0, .int .i64 0, .int .i64 0] 127 (0, 0))) ∧ (w.heap.size ≤ s_.1) ∧ (w.heap.size ≤ s_.1) ∧ (s_.2 ≠ s_.1) ∧ (s_.1 ≠ s_.2) ∧ (w.heap.size ≤ s_.2) ∧ (w.heap.size ≤ s_.2) ∧ (Below w.heap.size w w')) ?_ ?_
        rotate_left
        ·intro hCont
         refine two_ (i := 8) (j := 9) (Ni := some 9) (Nj := some 10) q209_10 q209_11 rfl rfl rfl rfl (two_of HT_.out (by kernel_rfl)) (by decide) (by decide) (fun K hK => ?_) (fun K hK => ?_)
         ·skip
          refine box_step ?hg (N := 9) ?hd (cs := #[.int .i64 0, .int .i64 0, .int .i64 0, .int .i64 0]) (t := 127) ?hr ?_; (case hd => rfl); (case hg => rfl); (case hr => first | (go_simp; done) | (go_simp; rfl))
          intro gb1044 hg w43 hbox hb
          have n0_ := Aside0.mk (below_step (by repeat (first | (with_reducible first | exact HB.out | apply below_alloc | apply pw_below_drewN | apply below_drew1) | exact HB.out)) hb)
          have n1_ := Aside0.mk (hbox)
          have n2_ := Aside0.mk ((by rw [hg]; exact (below_size (by repeat (first | (with_reducible first | exact HB.out | apply below_alloc | apply pw_below_drewN | apply below_drew1) | exact HB.out))) : w.heap.size ≤ gb1044))
          have n3_ := Aside0.mk ((by rw [hg]; exact (below_size (by repeat (first | (with_reducible first | exact HB.out | apply below_alloc | apply pw_below_drewN | apply below_drew1) | exact HB.out))) : w.heap.size ≤ gb1044))
          clear HB
          have HB := n0_
          have BK1044 := n1_
          have GW1044 := n2_
          have GE1044 := n3_
          clear n0_ n1_ n2_ n3_
          clear hb hbox hg
          refine hK.out _ _ ⟨(bcl_ HB.out hw1042_0), (bcl_ HB.out hw1042_1), (bcl_ HB.out hw1042_2), (bcl_ HB.out hw1042_3), (bcl_ HB.out hw1043_0), (bcl_ HB.out hw1043_1), (bcl_ HB.out hw1043_2), (bcl_ HB.out hw1043_3)⟩ (fun hHeld => ?_)
          clear hK K
          refine norm_ (a' := ?_) ?_ ?_
          rotate_left
          ·show Act.put _ (some 9) _ = _
           simp only [aq_]
           rfl
          refine one_ (i := 9) (N := some 10) q209_9 rfl rfl (one_of HT_.out (by kernel_rfl)) (by decide) (fun K hK => ?_)
          refine box_step ?hg (N := 10) ?hd (cs := #[.int .i64 0, .int .i64 0, .int .i64 0, .int .i64 0]) (t := 127) ?hr ?_; (case hd => rfl); (case hg => rfl); (case hr => first | (go_simp; done) | (go_simp; rfl))
          intro gb1045 hg w44 hbox hb
          have n0_ := Aside0.mk (blk_below (g := gb1044) (o := .cells #[.int .i64 0, .int .i64 0, .int .i64 0, .int .i64 0] 127 (0, 0)) (by (with_reducible repeat (first | refine blk_drewN ?_ _ | refine blk_drew ?_ | refine blk_alloc ?_ _)); exact BK1044.out) hb)
          have n1_ := Aside0.mk (below_step (by repeat (first | (with_reducible first | exact HB.out | apply below_alloc | apply pw_below_drewN | apply below_drew1 | refine below_set ?_ GE1044.out) | exact HB.out)) hb)
          have n2_ := Aside0.mk (hbox)
          have n3_ := Aside0.mk ((by rw [hg]; exact (below_size (by repeat (first | (with_reducible first | exact HB.out | apply below_alloc | apply pw_below_drewN | apply below_drew1 | refine below_set ?_ GE1044.out) | exact HB.out))) : w.heap.size ≤ gb1045))
          have n4_ := Aside0.mk ((by rw [hg]; exact (below_size (by repeat (first | (with_reducible first | exact HB.out | apply below_alloc | apply pw_below_drewN | apply below_drew1 | refine below_set ?_ GE1044.out) | exact HB.out))) : w.heap.size ≤ gb1045))
          have n5_ := Aside0.mk ((by rw [hg]; exact Nat.ne_of_lt (blk_lt (g := gb1044) (o := .cells #[.int .i64 0, .int .i64 0, .int .i64 0, .int .i64 0] 127 (0, 0)) (by (with_reducible repeat (first | refine blk_drewN ?_ _ | refine blk_drew ?_ | refine blk_alloc ?_ _)); exact BK1044.out)) : gb1044 ≠ gb1045))
          have n6_ := Aside0.mk ((by rw [hg]; exact Nat.ne_of_gt (blk_lt (g := gb1044) (o := .cells #[.int .i64 0, .int .i64 0, .int .i64 0, .int .i64 0] 127 (0, 0)) (by (with_reducible repeat (first | refine blk_drewN ?_ _ | refine blk_drew ?_ | refine blk_alloc ?_ _)); exact BK1044.out)) : gb1045 ≠ gb1044))
          clear BK1044
          clear HB
          have BK1044 := n0_
          have HB := n1_
          have BK1045 := n2_
          have GW1045 := n3_
          have GE1045 := n4_
          have NB1044_1045 := n5_
          have NB1045_1044 := n6_
          clear n0_ n1_ n2_ n3_ n4_ n5_ n6_
          clear hb hbox hg
          refine hK.out _ _ ⟨(bcl_ HB.out hw1042_0), (bcl_ HB.out hw1042_1), (bcl_ HB.out hw1042_2), (bcl_ HB.out hw1042_3), (bcl_ HB.out hw1043_0), (bcl_ HB.out hw1043_1), (bcl_ HB.out hw1043_2), (bcl_ HB.out hw1043_3)⟩ (fun hHeld => ?_)
          clear hK K
          refine norm_ (a' := ?_) ?_ ?_
          rotate_left
          ·show Act.put _ (some 10) _ = _
           simp only [aq_]
           rfl
          exact norm_ (by simp only [putAll, Act.put, List.setIfInBounds_toArray, List.set_cons_zero, List.set_cons_succ]) (hCont (gb1044, gb1045) _ ⟨hHeld, (by (with_reducible repeat (first | refine blk_drewN ?_ _ | refine blk_drew ?_ | refine blk_alloc ?_ _)); exact BK1044.out), (by (with_reducible repeat (first | refine blk_drewN ?_ _ | refine blk_drew ?_ | refine blk_alloc ?_ _)); exact BK1045.out), GW1044.out, GE1044.out, NB1045_1044.out, NB1044_1045.out, GW1045.out, GE1045.out, (by repeat (first | (with_reducible first | exact HB.out | apply below_alloc | apply pw_below_drewN | apply below_drew1 | refine below_set ?_ GE1044.out | refine below_set ?_ GE1045.out) | exact HB.out))⟩)
         ·skip
          refine box_step ?hg (N := 10) ?hd (cs := #[.int .i64 0, .int .i64 0, .int .i64 0, .int .i64 0]) (t := 127) ?hr ?_; (case hd => rfl); (case hg => rfl); (case hr => first | (go_simp; done) | (go_simp; rfl))
          intro gb1045 hg w43 hbox hb
          have n0_ := Aside0.mk (below_step (by repeat (first | (with_reducible first | exact HB.out | apply below_alloc | apply pw_below_drewN | apply below_drew1) | exact HB.out)) hb)
          have n1_ := Aside0.mk (hbox)
          have n2_ := Aside0.mk ((by rw [hg]; exact (below_size (by repeat (first | (with_reducible first | exact HB.out | apply below_alloc | apply pw_below_drewN | apply below_drew1) | exact HB.out))) : w.heap.size ≤ gb1045))
          have n3_ := Aside0.mk ((by rw [hg]; exact (below_size (by repeat (first | (with_reducible first | exact HB.out | apply below_alloc | apply pw_below_drewN | apply below_drew1) | exact HB.out))) : w.heap.size ≤ gb1045))
          clear HB
          have HB := n0_
          have BK1045 := n1_
          have GW1045 := n2_
          have GE1045 := n3_
          clear n0_ n1_ n2_ n3_
          clear hb hbox hg
          refine hK.out _ _ ⟨(bcl_ HB.out hw1042_0), (bcl_ HB.out hw1042_1), (bcl_ HB.out hw1042_2), (bcl_ HB.out hw1042_3), (bcl_ HB.out hw1043_0), (bcl_ HB.out hw1043_1), (bcl_ HB.out hw1043_2), (bcl_ HB.out hw1043_3)⟩ (fun hHeld => ?_)
          clear hK K
          refine norm_ (a' := ?_) ?_ ?_
          rotate_left
          ·show Act.put _ (some 10) _ = _
           simp only [aq_]
           rfl
          refine one_ (i := 8) (N := some 9) q209_9 rfl rfl (one_of HT_.out (by kernel_rfl)) (by decide) (fun K hK => ?_)
          refine box_step ?hg (N := 9) ?hd (cs := #[.int .i64 0, .int .i64 0, .int .i64 0, .int .i64 0]) (t := 127) ?hr ?_; (case hd => rfl); (case hg => rfl); (case hr => first | (go_simp; done) | (go_simp; rfl))
          intro gb1044 hg w44 hbox hb
          have n0_ := Aside0.mk (blk_below (g := gb1045) (o := .cells #[.int .i64 0, .int .i64 0, .int .i64 0, .int .i64 0] 127 (0, 0)) (by (with_reducible repeat (first | refine blk_drewN ?_ _ | refine blk_drew ?_ | refine blk_alloc ?_ _)); exact BK1045.out) hb)
          have n1_ := Aside0.mk (below_step (by repeat (first | (with_reducible first | exact HB.out | apply below_alloc | apply pw_below_drewN | apply below_drew1 | refine below_set ?_ GE1045.out) | exact HB.out)) hb)
          have n2_ := Aside0.mk (hbox)
          have n3_ := Aside0.mk ((by rw [hg]; exact (below_size (by repeat (first | (with_reducible first | exact HB.out | apply below_alloc | apply pw_below_drewN | apply below_drew1 | refine below_set ?_ GE1045.out) | exact HB.out))) : w.heap.size ≤ gb1044))
          have n4_ := Aside0.mk ((by rw [hg]; exact (below_size (by repeat (first | (with_reducible first | exact HB.out | apply below_alloc | apply pw_below_drewN | apply below_drew1 | refine below_set ?_ GE1045.out) | exact HB.out))) : w.heap.size ≤ gb1044))
          have n5_ := Aside0.mk ((by rw [hg]; exact Nat.ne_of_lt (blk_lt (g := gb1045) (o := .cells #[.int .i64 0, .int .i64 0, .int .i64 0, .int .i64 0] 127 (0, 0)) (by (with_reducible repeat (first | refine blk_drewN ?_ _ | refine blk_drew ?_ | refine blk_alloc ?_ _)); exact BK1045.out)) : gb1045 ≠ gb1044))
          have n6_ := Aside0.mk ((by rw [hg]; exact Nat.ne_of_gt (blk_lt (g := gb1045) (o := .cells #[.int .i64 0, .int .i64 0, .int .i64 0, .int .i64 0] 127 (0, 0)) (by (with_reducible repeat (first | refine blk_drewN ?_ _ | refine blk_drew ?_ | refine blk_alloc ?_ _)); exact BK1045.out)) : gb1044 ≠ gb1045))
          clear BK1045
          clear HB
          have BK1045 := n0_
          have HB := n1_
          have BK1044 := n2_
          have GW1044 := n3_
          have GE1044 := n4_
          have NB1045_1044 := n5_
          have NB1044_1045 := n6_
          clear n0_ n1_ n2_ n3_ n4_ n5_ n6_
          clear hb hbox hg
          refine hK.out _ _ ⟨(bcl_ HB.out hw1042_0), (bcl_ HB.out hw1042_1), (bcl_ HB.out hw1042_2), (bcl_ HB.out hw1042_3), (bcl_ HB.out hw1043_0), (bcl_ HB.out hw1043_1), (bcl_ HB.out hw1043_2), (bcl_ HB.out hw1043_3)⟩ (fun hHeld => ?_)
          clear hK K
          refine norm_ (a' := ?_) ?_ ?_
          rotate_left
          ·show Act.put _ (some 9) _ = _
           simp only [aq_]
           rfl
          exact norm_ (by simp only [putAll, Act.put, List.setIfInBounds_toArray, List.set_cons_zero, List.set_cons_succ]) (hCont (gb1044, gb1045) _ ⟨hHeld, (by (with_reducible repeat (first | refine blk_drewN ?_ _ | refine blk_drew ?_ | refine blk_alloc ?_ _)); exact BK1044.out), (by (with_reducible repeat (first | refine blk_drewN ?_ _ | refine blk_drew ?_ | refine blk_alloc ?_ _)); exact BK1045.out), GW1044.out, GE1044.out, NB1045_1044.out, NB1044_1045.out, GW1045.out, GE1045.out, (by repeat (first | (with_reducible first | exact HB.out | apply below_alloc | apply pw_below_drewN | apply below_drew1 | refine below_set ?_ GE1045.out | refine below_set ?_ GE1044.out) | exact HB.out))⟩)
        rintro ⟨gb1044, gb1045⟩ w45 ⟨hS_, h0_, h1_, h2_, h3_, h4_, h5_, h6_, h7_, h8_⟩
        have n0_ : Aside0 (w45.heap[gb1044]? = some (.cells #[.int .i64 0, .int .i64 0, .int .i64 0, .int .i64 0] 127 (0, 0))) := ⟨h0_⟩
        have n1_ : Aside0 (w45.heap[gb1045]? = some (.cells #[.int .i64 0, .int .i64 0, .int .i64 0, .int .i64 0] 127 (0, 0))) := ⟨h1_⟩
        have n2_ : Aside0 (w.heap.size ≤ gb1044) := ⟨h2_⟩
        have n3_ : Aside0 (w.heap.size ≤ gb1044) := ⟨h3_⟩
        have n4_ : Aside0 (gb1045 ≠ gb1044) := ⟨h4_⟩
        have n5_ : Aside0 (gb1044 ≠ gb1045) := ⟨h5_⟩
        have n6_ : Aside0 (w.heap.size ≤ gb1045) := ⟨h6_⟩
        have n7_ : Aside0 (w.heap.size ≤ gb1045) := ⟨h7_⟩
        have n8_ : Aside0 (Below w.heap.size w w45) := ⟨h8_⟩
        clear HB
        clear h0_ h1_ h2_ h3_ h4_ h5_ h6_ h7_ h8_
        have BK1044 := n0_
        have BK1045 := n1_
        have GW1044 := n2_
        have GE1044 := n3_
        have NB1045_1044 := n4_
        have NB1044_1045 := n5_
        have GW1045 := n6_
        have GE1045 := n7_
        have HB := n8_
        clear n0_ n1_ n2_ n3_ n4_ n5_ n6_ n7_ n8_
        have hHeld : w45.cell? (ad1042.add ((a2).toNat * 4)) = some (.int .i64 ((rd_T127 l0 a2).f0)) ∧ w45.cell? ⟨(ad1042.add ((a2).toNat * 4)).block, (ad1042.add ((a2).toNat * 4)).off + 1, none⟩ = some (.int .i64 ((rd_T127 l0 a2).f1)) ∧ w45.cell? ⟨(ad1042.add ((a2).toNat * 4)).block, (ad1042.add ((a2).toNat * 4)).off + 2, none⟩ = some (.int .i64 ((rd_T127 l0 a2).f2)) ∧ w45.cell? ⟨(ad1042.add ((a2).toNat * 4)).block, (ad1042.add ((a2).toNat * 4)).off + 3, none⟩ = some (.int .i64 ((rd_T127 l0 a2).f3)) ∧ w45.cell? (ad1042.add ((a3).toNat * 4)) = some (.int .i64 ((rd_T127 l0 a3).f0)) ∧ w45.cell? ⟨(ad1042.add ((a3).toNat * 4)).block, (ad1042.add ((a3).toNat * 4)).off + 1, none⟩ = some (.int .i64 ((rd_T127 l0 a3).f1)) ∧ w45.cell? ⟨(ad1042.add ((a3).toNat * 4)).block, (ad1042.add ((a3).toNat * 4)).off + 2, none⟩ = some (.int .i64 ((rd_T127 l0 a3).f2)) ∧ w45.cell? ⟨(ad1042.add ((a3).toNat * 4)).block, (ad1042.add ((a3).toNat * 4)).off + 3, none⟩ = some (.int .i64 ((rd_T127 l0 a3).f3)) := hS_
        refine norm_ (a' := ?_) ?_ ?_
        rotate_left
        ·simp only [putAll, Act.put, List.setIfInBounds_toArray, List.set_cons_zero, List.set_cons_succ]
         rfl
        refine one_ (i := 10) (N := none) q209_12 rfl rfl (one_of HT_.out (by kernel_rfl)) (by decide) (fun K hK => ?_)
        have hs46 : w45.cell? ⟨gb1044, 0, none⟩ = some (.int .i64 0) := (blk_cell BK1044.out 0).trans rfl
        have hfs46 := blk_frozen BK1044.out 0
        have hns46_1 := NB1045_1044.out
        have hms46_1 := NB1044_1045.out
        have hs47 : w45.cell? ⟨gb1044, 1, none⟩ = some (.int .i64 0) := (blk_cell BK1044.out 1).trans rfl
        have hfs47 := blk_frozen BK1044.out 1
        have hns47_1 := NB1045_1044.out
        have hms47_1 := NB1044_1045.out
        have hs48 : w45.cell? ⟨gb1044, 2, none⟩ = some (.int .i64 0) := (blk_cell BK1044.out 2).trans rfl
        have hfs48 := blk_frozen BK1044.out 2
        have hns48_1 := NB1045_1044.out
        have hms48_1 := NB1044_1045.out
        have hs49 : w45.cell? ⟨gb1044, 3, none⟩ = some (.int .i64 0) := (blk_cell BK1044.out 3).trans rfl
        have hfs49 := blk_frozen BK1044.out 3
        have hns49_1 := NB1045_1044.out
        have hms49_1 := NB1044_1045.out
        refine skip_ (w1 := ?_) (by rfl) rfl ?_ ?_
        rotate_left
        ·go_simp
         rfl
        refine hK.out _ _ ⟨((cell_far (p := ⟨gb1044, _, none⟩) (bne_ hw1042_0 GW1044.out) _).trans (((cell_far (p := ⟨gb1044, _, none⟩) (bne_ hw1042_0 GW1044.out) _).trans (((cell_far (p := ⟨gb1044, _, none⟩) (bne_ hw1042_0 GW1044.out) _).trans (((cell_far (p := ⟨gb1044, _, none⟩) (bne_ hw1042_0 GW1044.out) _).trans (hHeld.1)))))))), ((cell_far (p := ⟨gb1044, _, none⟩) (bne_ hw1042_1 GW1044.out) _).trans (((cell_far (p := ⟨gb1044, _, none⟩) (bne_ hw1042_1 GW1044.out) _).trans (((cell_far (p := ⟨gb1044, _, none⟩) (bne_ hw1042_1 GW1044.out) _).trans (((cell_far (p := ⟨gb1044, _, none⟩) (bne_ hw1042_1 GW1044.out) _).trans (hHeld.2.1)))))))), ((cell_far (p := ⟨gb1044, _, none⟩) (bne_ hw1042_2 GW1044.out) _).trans (((cell_far (p := ⟨gb1044, _, none⟩) (bne_ hw1042_2 GW1044.out) _).trans (((cell_far (p := ⟨gb1044, _, none⟩) (bne_ hw1042_2 GW1044.out) _).trans (((cell_far (p := ⟨gb1044, _, none⟩) (bne_ hw1042_2 GW1044.out) _).trans (hHeld.2.2.1)))))))), ((cell_far (p := ⟨gb1044, _, none⟩) (bne_ hw1042_3 GW1044.out) _).trans (((cell_far (p := ⟨gb1044, _, none⟩) (bne_ hw1042_3 GW1044.out) _).trans (((cell_far (p := ⟨gb1044, _, none⟩) (bne_ hw1042_3 GW1044.out) _).trans (((cell_far (p := ⟨gb1044, _, none⟩) (bne_ hw1042_3 GW1044.out) _).trans (hHeld.2.2.2.1)))))))), ((cell_far (p := ⟨gb1044, _, none⟩) (bne_ hw1043_0 GW1044.out) _).trans (((cell_far (p := ⟨gb1044, _, none⟩) (bne_ hw1043_0 GW1044.out) _).trans (((cell_far (p := ⟨gb1044, _, none⟩) (bne_ hw1043_0 GW1044.out) _).trans (((cell_far (p := ⟨gb1044, _, none⟩) (bne_ hw1043_0 GW1044.out) _).trans (hHeld.2.2.2.2.1)))))))), ((cell_far (p := ⟨gb1044, _, none⟩) (bne_ hw1043_1 GW1044.out) _).trans (((cell_far (p := ⟨gb1044, _, none⟩) (bne_ hw1043_1 GW1044.out) _).trans (((cell_far (p := ⟨gb1044, _, none⟩) (bne_ hw1043_1 GW1044.out) _).trans (((cell_far (p := ⟨gb1044, _, none⟩) (bne_ hw1043_1 GW1044.out) _).trans (hHeld.2.2.2.2.2.1)))))))), ((cell_far (p := ⟨gb1044, _, none⟩) (bne_ hw1043_2 GW1044.out) _).trans (((cell_far (p := ⟨gb1044, _, none⟩) (bne_ hw1043_2 GW1044.out) _).trans (((cell_far (p := ⟨gb1044, _, none⟩) (bne_ hw1043_2 GW1044.out) _).trans (((cell_far (p := ⟨gb1044, _, none⟩) (bne_ hw1043_2 GW1044.out) _).trans (hHeld.2.2.2.2.2.2.1)))))))), ((cell_far (p := ⟨gb1044, _, none⟩) (bne_ hw1043_3 GW1044.out) _).trans (((cell_far (p := ⟨gb1044, _, none⟩) (bne_ hw1043_3 GW1044.out) _).trans (((cell_far (p := ⟨gb1044, _, none⟩) (bne_ hw1043_3 GW1044.out) _).trans (((cell_far (p := ⟨gb1044, _, none⟩) (bne_ hw1043_3 GW1044.out) _).trans (hHeld.2.2.2.2.2.2.2))))))))⟩ (fun hHeld => ?_)
        clear hK K
        refine one_ (i := 11) (N := none) q209_13 rfl rfl (one_of HT_.out (by kernel_rfl)) (by decide) (fun K hK => ?_)
        have hs50 : w45.cell? ⟨gb1045, 0, none⟩ = some (.int .i64 0) := (blk_cell BK1045.out 0).trans rfl
        have hfs50 := blk_frozen BK1045.out 0
        have hns50_0 := NB1044_1045.out
        have hms50_0 := NB1045_1044.out
        have hs51 : w45.cell? ⟨gb1045, 1, none⟩ = some (.int .i64 0) := (blk_cell BK1045.out 1).trans rfl
        have hfs51 := blk_frozen BK1045.out 1
        have hns51_0 := NB1044_1045.out
        have hms51_0 := NB1045_1044.out
        have hs52 : w45.cell? ⟨gb1045, 2, none⟩ = some (.int .i64 0) := (blk_cell BK1045.out 2).trans rfl
        have hfs52 := blk_frozen BK1045.out 2
        have hns52_0 := NB1044_1045.out
        have hms52_0 := NB1045_1044.out
        have hs53 : w45.cell? ⟨gb1045, 3, none⟩ = some (.int .i64 0) := (blk_cell BK1045.out 3).trans rfl
        have hfs53 := blk_frozen BK1045.out 3
        have hns53_0 := NB1044_1045.out
        have hms53_0 := NB1045_1044.out
        refine skip_ (w1 := ?_) (by rfl) rfl ?_ ?_
        rotate_left
        ·go_simp
         rfl
        refine hK.out _ _ ⟨((cell_far (p := ⟨gb1045, _, none⟩) (bne_ hw1042_0 GW1045.out) _).trans (((cell_far (p := ⟨gb1045, _, none⟩) (bne_ hw1042_0 GW1045.out) _).trans (((cell_far (p := ⟨gb1045, _, none⟩) (bne_ hw1042_0 GW1045.out) _).trans (((cell_far (p := ⟨gb1045, _, none⟩) (bne_ hw1042_0 GW1045.out) _).trans (hHeld.1)))))))), ((cell_far (p := ⟨gb1045, _, none⟩) (bne_ hw1042_1 GW1045.out) _).trans (((cell_far (p := ⟨gb1045, _, none⟩) (bne_ hw1042_1 GW1045.out) _).trans (((cell_far (p := ⟨gb1045, _, none⟩) (bne_ hw1042_1 GW1045.out) _).trans (((cell_far (p := ⟨gb1045, _, none⟩) (bne_ hw1042_1 GW1045.out) _).trans (hHeld.2.1)))))))), ((cell_far (p := ⟨gb1045, _, none⟩) (bne_ hw1042_2 GW1045.out) _).trans (((cell_far (p := ⟨gb1045, _, none⟩) (bne_ hw1042_2 GW1045.out) _).trans (((cell_far (p := ⟨gb1045, _, none⟩) (bne_ hw1042_2 GW1045.out) _).trans (((cell_far (p := ⟨gb1045, _, none⟩) (bne_ hw1042_2 GW1045.out) _).trans (hHeld.2.2.1)))))))), ((cell_far (p := ⟨gb1045, _, none⟩) (bne_ hw1042_3 GW1045.out) _).trans (((cell_far (p := ⟨gb1045, _, none⟩) (bne_ hw1042_3 GW1045.out) _).trans (((cell_far (p := ⟨gb1045, _, none⟩) (bne_ hw1042_3 GW1045.out) _).trans (((cell_far (p := ⟨gb1045, _, none⟩) (bne_ hw1042_3 GW1045.out) _).trans (hHeld.2.2.2.1)))))))), ((cell_far (p := ⟨gb1045, _, none⟩) (bne_ hw1043_0 GW1045.out) _).trans (((cell_far (p := ⟨gb1045, _, none⟩) (bne_ hw1043_0 GW1045.out) _).trans (((cell_far (p := ⟨gb1045, _, none⟩) (bne_ hw1043_0 GW1045.out) _).trans (((cell_far (p := ⟨gb1045, _, none⟩) (bne_ hw1043_0 GW1045.out) _).trans (hHeld.2.2.2.2.1)))))))), ((cell_far (p := ⟨gb1045, _, none⟩) (bne_ hw1043_1 GW1045.out) _).trans (((cell_far (p := ⟨gb1045, _, none⟩) (bne_ hw1043_1 GW1045.out) _).trans (((cell_far (p := ⟨gb1045, _, none⟩) (bne_ hw1043_1 GW1045.out) _).trans (((cell_far (p := ⟨gb1045, _, none⟩) (bne_ hw1043_1 GW1045.out) _).trans (hHeld.2.2.2.2.2.1)))))))), ((cell_far (p := ⟨gb1045, _, none⟩) (bne_ hw1043_2 GW1045.out) _).trans (((cell_far (p := ⟨gb1045, _, none⟩) (bne_ hw1043_2 GW1045.out) _).trans (((cell_far (p := ⟨gb1045, _, none⟩) (bne_ hw1043_2 GW1045.out) _).trans (((cell_far (p := ⟨gb1045, _, none⟩) (bne_ hw1043_2 GW1045.out) _).trans (hHeld.2.2.2.2.2.2.1)))))))), ((cell_far (p := ⟨gb1045, _, none⟩) (bne_ hw1043_3 GW1045.out) _).trans (((cell_far (p := ⟨gb1045, _, none⟩) (bne_ hw1043_3 GW1045.out) _).trans (((cell_far (p := ⟨gb1045, _, none⟩) (bne_ hw1043_3 GW1045.out) _).trans (((cell_far (p := ⟨gb1045, _, none⟩) (bne_ hw1043_3 GW1045.out) _).trans (hHeld.2.2.2.2.2.2.2))))))))⟩ (fun hHeld => ?_)
        clear hK K
        refine done_ (done_of HT_.out (by kernel_rfl)) ?_
        have hnb54 := NB1044_1045.out
        have hnc54 := NB1045_1044.out
        have hcz55_0 : w45.cell? ⟨gb1044, 0, none⟩ = some (.int .i64 0) := (blk_cell BK1044.out 0).trans rfl
        have hcz55_1 : w45.cell? ⟨gb1044, 1, none⟩ = some (.int .i64 0) := (blk_cell BK1044.out 1).trans rfl
        have hcz55_2 : w45.cell? ⟨gb1044, 2, none⟩ = some (.int .i64 0) := (blk_cell BK1044.out 2).trans rfl
        have hcz55_3 : w45.cell? ⟨gb1044, 3, none⟩ = some (.int .i64 0) := (blk_cell BK1044.out 3).trans rfl
        have hfz55_0 := blk_frozen BK1044.out 0
        have hfz55_1 := blk_frozen BK1044.out 1
        have hfz55_2 := blk_frozen BK1044.out 2
        have hfz55_3 := blk_frozen BK1044.out 3
        have hcz56_0 : w45.cell? ⟨gb1045, 0, none⟩ = some (.int .i64 0) := (blk_cell BK1045.out 0).trans rfl
        have hcz56_1 : w45.cell? ⟨gb1045, 1, none⟩ = some (.int .i64 0) := (blk_cell BK1045.out 1).trans rfl
        have hcz56_2 : w45.cell? ⟨gb1045, 2, none⟩ = some (.int .i64 0) := (blk_cell BK1045.out 2).trans rfl
        have hcz56_3 : w45.cell? ⟨gb1045, 3, none⟩ = some (.int .i64 0) := (blk_cell BK1045.out 3).trans rfl
        have hfz56_0 := blk_frozen BK1045.out 0
        have hfz56_1 := blk_frozen BK1045.out 1
        have hfz56_2 := blk_frozen BK1045.out 2
        have hfz56_3 := blk_frozen BK1045.out 3
        try go_wp2
        go_ret
        exact ⟨by first | rfl | (simp [errW_none, errW_some] <;> rfl) | (simp [*, errW_none, errW_some] <;> rfl), by repeat (first | (with_reducible first | exact HB.out | apply below_alloc | apply pw_below_drewN | apply below_drew1 | refine below_set ?_ GE1044.out | refine below_set ?_ GE1045.out) | exact HB.out)⟩
       ·rw [if_neg c41] at H
        have c41b0 : (a1 == 3) = false := beq_eq_false_iff_ne.mpr c41
        have c41b1 : (a1 != 3) = true := bne_iff_ne.mpr c41
        obtain rfl := Option.some.inj H
        go_enter Try.func209, Try.ntmps209
        try go_wp2
        have n0_ := Aside0.mk (below_drew1 HB.out)
        clear HB
        have HB := n0_
        clear n0_
        have p1042 : 0 ≤ (a2 : Int) := of_decide_eq_true (by first | (with_reducible assumption) | assumption)
        have q1042 : a2 < (l0.length : Int) := of_decide_eq_true (by first | (with_reducible assumption) | assumption)
        obtain ⟨ad1042, e1042, hx1042_0, hx1042_1, hx1042_2, hx1042_3⟩ := at_T127 HR0.out a2 p1042 q1042
        have hw1042_3 := hx1042_3
        have hw1042_2 := hx1042_2
        have hw1042_1 := hx1042_1
        have hw1042_0 := hx1042_0
        cases e1042
        replace hx1042_0 := (HB.out.cell (World.block_lt_of_cell? w _ hx1042_0)).trans hx1042_0
        replace hx1042_1 := (HB.out.cell (World.block_lt_of_cell? w _ hx1042_1)).trans hx1042_1
        replace hx1042_2 := (HB.out.cell (World.block_lt_of_cell? w _ hx1042_2)).trans hx1042_2
        replace hx1042_3 := (HB.out.cell (World.block_lt_of_cell? w _ hx1042_3)).trans hx1042_3
        replace p1042 := eq_true p1042
        replace q1042 := eq_true q1042
        have p1043 : 0 ≤ (a3 : Int) := of_decide_eq_true (by first | (with_reducible assumption) | assumption)
        have q1043 : a3 < (l0.length : Int) := of_decide_eq_true (by first | (with_reducible assumption) | assumption)
        obtain ⟨ad1043, e1043, hx1043_0, hx1043_1, hx1043_2, hx1043_3⟩ := at_T127 HR0.out a3 p1043 q1043
        have hw1043_3 := hx1043_3
        have hw1043_2 := hx1043_2
        have hw1043_1 := hx1043_1
        have hw1043_0 := hx1043_0
        obtain rfl : ad1042 = ad1043 := (by injection e1043)
        replace hx1043_0 := (HB.out.cell (World.block_lt_of_cell? w _ hx1043_0)).trans hx1043_0
        replace hx1043_1 := (HB.out.cell (World.block_lt_of_cell? w _ hx1043_1)).trans hx1043_1
        replace hx1043_2 := (HB.out.cell (World.block_lt_of_cell? w _ hx1043_2)).trans hx1043_2
        replace hx1043_3 := (HB.out.cell (World.block_lt_of_cell? w _ hx1043_3)).trans hx1043_3
        replace p1043 := eq_true p1043
        replace q1043 := eq_true q1043
        refine start_ (n := 12) (S := fun w' => w'.cell? (ad1042.add ((a2).toNat * 4)) = some (.int .i64 ((rd_T127 l0 a2).f0)) ∧ w'.cell? ⟨(ad1042.add ((a2).toNat * 4)).block, (ad1042.add ((a2).toNat * 4)).off + 1, none⟩ = some (.int .i64 ((rd_T127 l0 a2).f1)) ∧ w'.cell? ⟨(ad1042.add ((a2).toNat * 4)).block, (ad1042.add ((a2).toNat * 4)).off + 2, none⟩ = some (.int .i64 ((rd_T127 l0 a2).f2)) ∧ w'.cell? ⟨(ad1042.add ((a2).toNat * 4)).block, (ad1042.add ((a2).toNat * 4)).off + 3, none⟩ = some (.int .i64 ((rd_T127 l0 a2).f3)) ∧ w'.cell? (ad1042.add ((a3).toNat * 4)) = some (.int .i64 ((rd_T127 l0 a3).f0)) ∧ w'.cell? ⟨(ad1042.add ((a3).toNat * 4)).block, (ad1042.add ((a3).toNat * 4)).off + 1, none⟩ = some (.int .i64 ((rd_T127 l0 a3).f1)) ∧ w'.cell? ⟨(ad1042.add ((a3).toNat * 4)).block, (ad1042.add ((a3).toNat * 4)).off + 2, none⟩ = some (.int .i64 ((rd_T127 l0 a3).f2)) ∧ w'.cell? ⟨(ad1042.add ((a3).toNat * 4)).block, (ad1042.add ((a3).toNat * 4)).off + 3, none⟩ = some (.int .i64 ((rd_T127 l0 a3).f3))) (ds := []) q209_0 (by kernel_rfl) rfl rfl ⟨(bcl_ HB.out hw1042_0), (bcl_ HB.out hw1042_1), (bcl_ HB.out hw1042_2), (bcl_ HB.out hw1042_3), (bcl_ HB.out hw1043_0), (bcl_ HB.out hw1043_1), (bcl_ HB.out hw1043_2), (bcl_ HB.out hw1043_3)⟩ (fun hHeld => ?_); refine with_tabW spec_l3Gap.tab1 spec_l3Gap.bits1 (fun HT_ HW_ => ?_)
        generalize w.drew = w57 at HB hx1042_0 hx1042_1 hx1042_2 hx1042_3 hx1043_0 hx1043_1 hx1043_2 hx1043_3 hHeld ⊢
        refine pure_ (i := 0) (N := some 11) (v := ?_) (a' := ?_) q209_1 rfl rfl (any_of HT_.out (by kernel_rfl)) (fun _ _ _ h => h) (Or.inl ⟨by rfl, ?_⟩) ?_ ?_
        rotate_left
        ·intro w'
         go_simp
         with_reducible rfl
        rotate_left
        ·simp only [aq_]
         rfl
        refine pure_ (i := 1) (N := some 12) (v := ?_) (a' := ?_) q209_2 rfl rfl (any_of HT_.out (by kernel_rfl)) (fun _ _ _ h => h) (Or.inl ⟨by rfl, ?_⟩) ?_ ?_
        rotate_left
        ·intro w'
         go_simp
         with_reducible rfl
        rotate_left
        ·simp only [aq_]
         rfl
        refine pure_ (i := 2) (N := some 13) (v := ?_) (a' := ?_) q209_3 rfl rfl (any_of HT_.out (by kernel_rfl)) (fun _ _ _ h => h) (Or.inl ⟨by rfl, ?_⟩) ?_ ?_
        rotate_left
        ·intro w'
         go_simp
         with_reducible rfl
        rotate_left
        ·simp only [aq_]
         rfl
        refine pure_ (i := 4) (N := some 15) (v := ?_) (a' := ?_) q209_4 rfl rfl (any_of HT_.out (by kernel_rfl)) (fun _ _ _ h => h) (Or.inl ⟨by rfl, ?_⟩) ?_ ?_
        rotate_left
        ·intro w'
         go_simp
         with_reducible rfl
        rotate_left
        ·simp only [aq_]
         rfl
        refine pure_ (i := 5) (N := some 16) (v := ?_) (a' := ?_) q209_5 rfl rfl (any_of HT_.out (by kernel_rfl)) (fun _ _ _ h => h) (Or.inl ⟨by rfl, ?_⟩) ?_ ?_
        rotate_left
        ·intro w'
         go_simp
         with_reducible rfl
        rotate_left
        ·simp only [aq_]
         rfl
        refine pure_ (i := 6) (N := some 17) (v := ?_) (a' := ?_) q209_6 rfl rfl (any_of HT_.out (by kernel_rfl)) (fun _ _ _ h => h) (Or.inl ⟨by rfl, ?_⟩) ?_ ?_
        rotate_left
        ·intro w'
         go_simp
         with_reducible rfl
        rotate_left
        ·simp only [aq_]
         rfl
        refine take_ (i := 3) (N := some 14) (v := ?_) (a' := ?_) q209_7 rfl rfl (take_ofW HT_.out HW_.out (by kernel_rfl)) (fun _ _ _ h => h) (Or.inl ⟨by rfl, ?_⟩) hHeld ?_ ?_
        rotate_left
        ·rintro w' ⟨s0, s1, s2, s3, s4, s5, s6, s7⟩
         go_simp
         with_reducible rfl
        rotate_left
        ·simp only [aq_]
         rfl
        refine take_ (i := 7) (N := some 18) (v := ?_) (a' := ?_) q209_8 rfl rfl (take_ofW HT_.out HW_.out (by kernel_rfl)) (fun _ _ _ h => h) (Or.inl ⟨by rfl, ?_⟩) hHeld ?_ ?_
        rotate_left
        ·rintro w' ⟨s0, s1, s2, s3, s4, s5, s6, s7⟩
         go_simp
         with_reducible rfl
        rotate_left
        ·simp only [aq_]
         rfl
        refine join_ (σ := Nat × Nat) 2 q209_9 (fun s_ => [(9, .pointer (some ⟨s_.1, 0, none⟩)), (10, .pointer (some ⟨s_.2, 0, none⟩))]) (fun s_ w' => (w'.cell? (ad1042.add ((a2).toNat * 4)) = some (.int .i64 ((rd_T127 l0 a2).f0)) ∧ w'.cell? ⟨(ad1042.add ((a2).toNat * 4)).block, (ad1042.add ((a2).toNat * 4)).off + 1, none⟩ = some (.int .i64 ((rd_T127 l0 a2).f1)) ∧ w'.cell? ⟨(ad1042.add ((a2).toNat * 4)).block, (ad1042.add ((a2).toNat * 4)).off + 2, none⟩ = some (.int .i64 ((rd_T127 l0 a2).f2)) ∧ w'.cell? ⟨(ad1042.add ((a2).toNat * 4)).block, (ad1042.add ((a2).toNat * 4)).off + 3, none⟩ = some (.int .i64 ((rd_T127 l0 a2).f3)) ∧ w'.cell? (ad1042.add ((a3).toNat * 4)) = some (.int .i64 ((rd_T127 l0 a3).f0)) ∧ w'.cell? ⟨(ad1042.add ((a3).toNat * 4)).block, (ad1042.add ((a3).toNat * 4)).off + 1, none⟩ = some (.int .i64 ((rd_T127 l0 a3).f1)) ∧ w'.cell? ⟨(ad1042.add ((a3).toNat * 4)).block, (ad1042.add ((a3).toNat * 4)).off + 2, none⟩ = some (.int .i64 ((rd_T127 l0 a3).f2)) ∧ w'.cell? ⟨(ad1042.add ((a3).toNat * 4)).block, (ad1042.add ((a3).toNat * 4)).off + 3, none⟩ = some (.int .i64 ((rd_T127 l0 a3).f3))) ∧ (w'.heap[s_.1]? = some (.cells #[.int .i64 0, .int .i64 0, .int .i64 0, .int .i64 0] 127 (0, 0))) ∧ (w'.heap[s_.2]? = some (.cells #[.int .i64 0, .int .i64 0, .int .i64 0, .int .i64 0] 127 (0, 0))) ∧ (w.heap.size ≤ s_.1) ∧ (w.heap.size ≤ s_.1) ∧ (s_.2 ≠ s_.1) ∧ (s_.1 ≠ s_.2) ∧ (w.heap.size ≤ s_.2) ∧ (w.heap.size ≤ s_.2) ∧ (Below w.heap.size w w')) ?_ ?_
        rotate_left
        ·intro hCont
         refine two_ (i := 8) (j := 9) (Ni := some 9) (Nj := some 10) q209_10 q209_11 rfl rfl rfl rfl (two_of HT_.out (by kernel_rfl)) (by decide) (by decide) (fun K hK => ?_) (fun K hK => ?_)
         ·skip
          refine box_step ?hg (N := 9) ?hd (cs := #[.int .i64 0, .int .i64 0, .int .i64 0, .int .i64 0]) (t := 127) ?hr ?_; (case hd => rfl); (case hg => rfl); (case hr => first | (go_simp; done) | (go_simp; rfl))
          intro gb1044 hg w58 hbox hb
          have n0_ := Aside0.mk (below_step (by repeat (first | (with_reducible first | exact HB.out | apply below_alloc | apply pw_below_drewN | apply below_drew1) | exact HB.out)) hb)
          have n1_ := Aside0.mk (hbox)
          have n2_ := Aside0.mk ((by rw [hg]; exact (below_size (by repeat (first | (with_reducible first | exact HB.out | apply below_alloc | apply pw_below_drewN | apply below_drew1) | exact HB.out))) : w.heap.size ≤ gb1044))
          have n3_ := Aside0.mk ((by rw [hg]; exact (below_size (by repeat (first | (with_reducible first | exact HB.out | apply below_alloc | apply pw_below_drewN | apply below_drew1) | exact HB.out))) : w.heap.size ≤ gb1044))
          clear HB
          have HB := n0_
          have BK1044 := n1_
          have GW1044 := n2_
          have GE1044 := n3_
          clear n0_ n1_ n2_ n3_
          clear hb hbox hg
          refine hK.out _ _ ⟨(bcl_ HB.out hw1042_0), (bcl_ HB.out hw1042_1), (bcl_ HB.out hw1042_2), (bcl_ HB.out hw1042_3), (bcl_ HB.out hw1043_0), (bcl_ HB.out hw1043_1), (bcl_ HB.out hw1043_2), (bcl_ HB.out hw1043_3)⟩ (fun hHeld => ?_)
          clear hK K
          refine norm_ (a' := ?_) ?_ ?_
          rotate_left
          ·show Act.put _ (some 9) _ = _
           simp only [aq_]
           rfl
          refine one_ (i := 9) (N := some 10) q209_9 rfl rfl (one_of HT_.out (by kernel_rfl)) (by decide) (fun K hK => ?_)
          refine box_step ?hg (N := 10) ?hd (cs := #[.int .i64 0, .int .i64 0, .int .i64 0, .int .i64 0]) (t := 127) ?hr ?_; (case hd => rfl); (case hg => rfl); (case hr => first | (go_simp; done) | (go_simp; rfl))
          intro gb1045 hg w59 hbox hb
          have n0_ := Aside0.mk (blk_below (g := gb1044) (o := .cells #[.int .i64 0, .int .i64 0, .int .i64 0, .int .i64 0] 127 (0, 0)) (by (with_reducible repeat (first | refine blk_drewN ?_ _ | refine blk_drew ?_ | refine blk_alloc ?_ _)); exact BK1044.out) hb)
          have n1_ := Aside0.mk (below_step (by repeat (first | (with_reducible first | exact HB.out | apply below_alloc | apply pw_below_drewN | apply below_drew1 | refine below_set ?_ GE1044.out) | exact HB.out)) hb)
          have n2_ := Aside0.mk (hbox)
          have n3_ := Aside0.mk ((by rw [hg]; exact (below_size (by repeat (first | (with_reducible first | exact HB.out | apply below_alloc | apply pw_below_drewN | apply below_drew1 | refine below_set ?_ GE1044.out) | exact HB.out))) : w.heap.size ≤ gb1045))
          have n4_ := Aside0.mk ((by rw [hg]; exact (below_size (by repeat (first | (with_reducible first | exact HB.out | apply below_alloc | apply pw_below_drewN | apply below_drew1 | refine below_set ?_ GE1044.out) | exact HB.out))) : w.heap.size ≤ gb1045))
          have n5_ := Aside0.mk ((by rw [hg]; exact Nat.ne_of_lt (blk_lt (g := gb1044) (o := .cells #[.int .i64 0, .int .i64 0, .int .i64 0, .int .i64 0] 127 (0, 0)) (by (with_reducible repeat (first | refine blk_drewN ?_ _ | refine blk_drew ?_ | refine blk_alloc ?_ _)); exact BK1044.out)) : gb1044 ≠ gb1045))
          have n6_ := Aside0.mk ((by rw [hg]; exact Nat.ne_of_gt (blk_lt (g := gb1044) (o := .cells #[.int .i64 0, .int .i64 0, .int .i64 0, .int .i64 0] 127 (0, 0)) (by (with_reducible repeat (first | refine blk_drewN ?_ _ | refine blk_drew ?_ | refine blk_alloc ?_ _)); exact BK1044.out)) : gb1045 ≠ gb1044))
          clear BK1044
          clear HB
          have BK1044 := n0_
          have HB := n1_
          have BK1045 := n2_
          have GW1045 := n3_
          have GE1045 := n4_
          have NB1044_1045 := n5_
          have NB1045_1044 := n6_
          clear n0_ n1_ n2_ n3_ n4_ n5_ n6_
          clear hb hbox hg
          refine hK.out _ _ ⟨(bcl_ HB.out hw1042_0), (bcl_ HB.out hw1042_1), (bcl_ HB.out hw1042_2), (bcl_ HB.out hw1042_3), (bcl_ HB.out hw1043_0), (bcl_ HB.out hw1043_1), (bcl_ HB.out hw1043_2), (bcl_ HB.out hw1043_3)⟩ (fun hHeld => ?_)
          clear hK K
          refine norm_ (a' := ?_) ?_ ?_
          rotate_left
          ·show Act.put _ (some 10) _ = _
           simp only [aq_]
           rfl
          exact norm_ (by simp only [putAll, Act.put, List.setIfInBounds_toArray, List.set_cons_zero, List.set_cons_succ]) (hCont (gb1044, gb1045) _ ⟨hHeld, (by (with_reducible repeat (first | refine blk_drewN ?_ _ | refine blk_drew ?_ | refine blk_alloc ?_ _)); exact BK1044.out), (by (with_reducible repeat (first | refine blk_drewN ?_ _ | refine blk_drew ?_ | refine blk_alloc ?_ _)); exact BK1045.out), GW1044.out, GE1044.out, NB1045_1044.out, NB1044_1045.out, GW1045.out, GE1045.out, (by repeat (first | (with_reducible first | exact HB.out | apply below_alloc | apply pw_below_drewN | apply below_drew1 | refine below_set ?_ GE1044.out | refine below_set ?_ GE1045.out) | exact HB.out))⟩)
         ·skip
          refine box_step ?hg (N := 10) ?hd (cs := #[.int .i64 0, .int .i64 0, .int .i64 0, .int .i64 0]) (t := 127) ?hr ?_; (case hd => rfl); (case hg => rfl); (case hr => first | (go_simp; done) | (go_simp; rfl))
          intro gb1045 hg w58 hbox hb
          have n0_ := Aside0.mk (below_step (by repeat (first | (with_reducible first | exact HB.out | apply below_alloc | apply pw_below_drewN | apply below_drew1) | exact HB.out)) hb)
          have n1_ := Aside0.mk (hbox)
          have n2_ := Aside0.mk ((by rw [hg]; exact (below_size (by repeat (first | (with_reducible first | exact HB.out | apply below_alloc | apply pw_below_drewN | apply below_drew1) | exact HB.out))) : w.heap.size ≤ gb1045))
          have n3_ := Aside0.mk ((by rw [hg]; exact (below_size (by repeat (first | (with_reducible first | exact HB.out | apply below_alloc | apply pw_below_drewN | apply below_drew1) | exact HB.out))) : w.heap.size ≤ gb1045))
          clear HB
          have HB := n0_
          have BK1045 := n1_
          have GW1045 := n2_
          have GE1045 := n3_
          clear n0_ n1_ n2_ n3_
          clear hb hbox hg
          refine hK.out _ _ ⟨(bcl_ HB.out hw1042_0), (bcl_ HB.out hw1042_1), (bcl_ HB.out hw1042_2), (bcl_ HB.out hw1042_3), (bcl_ HB.out hw1043_0), (bcl_ HB.out hw1043_1), (bcl_ HB.out hw1043_2), (bcl_ HB.out hw1043_3)⟩ (fun hHeld => ?_)
          clear hK K
          refine norm_ (a' := ?_) ?_ ?_
          rotate_left
          ·show Act.put _ (some 10) _ = _
           simp only [aq_]
           rfl
          refine one_ (i := 8) (N := some 9) q209_9 rfl rfl (one_of HT_.out (by kernel_rfl)) (by decide) (fun K hK => ?_)
          refine box_step ?hg (N := 9) ?hd (cs := #[.int .i64 0, .int .i64 0, .int .i64 0, .int .i64 0]) (t := 127) ?hr ?_; (case hd => rfl); (case hg => rfl); (case hr => first | (go_simp; done) | (go_simp; rfl))
          intro gb1044 hg w59 hbox hb
          have n0_ := Aside0.mk (blk_below (g := gb1045) (o := .cells #[.int .i64 0, .int .i64 0, .int .i64 0, .int .i64 0] 127 (0, 0)) (by (with_reducible repeat (first | refine blk_drewN ?_ _ | refine blk_drew ?_ | refine blk_alloc ?_ _)); exact BK1045.out) hb)
          have n1_ := Aside0.mk (below_step (by repeat (first | (with_reducible first | exact HB.out | apply below_alloc | apply pw_below_drewN | apply below_drew1 | refine below_set ?_ GE1045.out) | exact HB.out)) hb)
          have n2_ := Aside0.mk (hbox)
          have n3_ := Aside0.mk ((by rw [hg]; exact (below_size (by repeat (first | (with_reducible first | exact HB.out | apply below_alloc | apply pw_below_drewN | apply below_drew1 | refine below_set ?_ GE1045.out) | exact HB.out))) : w.heap.size ≤ gb1044))
          have n4_ := Aside0.mk ((by rw [hg]; exact (below_size (by repeat (first | (with_reducible first | exact HB.out | apply below_alloc | apply pw_below_drewN | apply below_drew1 | refine below_set ?_ GE1045.out) | exact HB.out))) : w.heap.size ≤ gb1044))
          have n5_ := Aside0.mk ((by rw [hg]; exact Nat.ne_of_lt (blk_lt (g := gb1045) (o := .cells #[.int .i64 0, .int .i64 0, .int .i64 0, .int .i64 0] 127 (0, 0)) (by (with_reducible repeat (first | refine blk_drewN ?_ _ | refine blk_drew ?_ | refine blk_alloc ?_ _)); exact BK1045.out)) : gb1045 ≠ gb1044))
          have n6_ := Aside0.mk ((by rw [hg]; exact Nat.ne_of_gt (blk_lt (g := gb1045) (o := .cells #[.int .i64 0, .int .i64 0, .int .i64 0, .int .i64 0] 127 (0, 0)) (by (with_reducible repeat (first | refine blk_drewN ?_ _ | refine blk_drew ?_ | refine blk_alloc ?_ _)); exact BK1045.out)) : gb1044 ≠ gb1045))
          clear BK1045
          clear HB
          have BK1045 := n0_
          have HB := n1_
          have BK1044 := n2_
          have GW1044 := n3_
          have GE1044 := n4_
          have NB1045_1044 := n5_
          have NB1044_1045 := n6_
          clear n0_ n1_ n2_ n3_ n4_ n5_ n6_
          clear hb hbox hg
          refine hK.out _ _ ⟨(bcl_ HB.out hw1042_0), (bcl_ HB.out hw1042_1), (bcl_ HB.out hw1042_2), (bcl_ HB.out hw1042_3), (bcl_ HB.out hw1043_0), (bcl_ HB.out hw1043_1), (bcl_ HB.out hw1043_2), (bcl_ HB.out hw1043_3)⟩ (fun hHeld => ?_)
          clear hK K
          refine norm_ (a' := ?_) ?_ ?_
          rotate_left
          ·show Act.put _ (some 9) _ = _
           simp only [aq_]
           rfl
          exact norm_ (by simp only [putAll, Act.put, List.setIfInBounds_toArray, List.set_cons_zero, List.set_cons_succ]) (hCont (gb1044, gb1045) _ ⟨hHeld, (by (with_reducible repeat (first | refine blk_drewN ?_ _ | refine blk_drew ?_ | refine blk_alloc ?_ _)); exact BK1044.out), (by (with_reducible repeat (first | refine blk_drewN ?_ _ | refine blk_drew ?_ | refine blk_alloc ?_ _)); exact BK1045.out), GW1044.out, GE1044.out, NB1045_1044.out, NB1044_1045.out, GW1045.out, GE1045.out, (by repeat (first | (with_reducible first | exact HB.out | apply below_alloc | apply pw_below_drewN | apply below_drew1 | refine below_set ?_ GE1045.out | refine below_set ?_ GE1044.out) | exact HB.out))⟩)
        rintro ⟨gb1044, gb1045⟩ w60 ⟨hS_, h0_, h1_, h2_, h3_, h4_, h5_, h6_, h7_, h8_⟩
        have n0_ : Aside0 (w60.heap[gb1044]? = some (.cells #[.int .i64 0, .int .i64 0, .int .i64 0, .int .i64 0] 127 (0, 0))) := ⟨h0_⟩
        have n1_ : Aside0 (w60.heap[gb1045]? = some (.cells #[.int .i64 0, .int .i64 0, .int .i64 0, .int .i64 0] 127 (0, 0))) := ⟨h1_⟩
        have n2_ : Aside0 (w.heap.size ≤ gb1044) := ⟨h2_⟩
        have n3_ : Aside0 (w.heap.size ≤ gb1044) := ⟨h3_⟩
        have n4_ : Aside0 (gb1045 ≠ gb1044) := ⟨h4_⟩
        have n5_ : Aside0 (gb1044 ≠ gb1045) := ⟨h5_⟩
        have n6_ : Aside0 (w.heap.size ≤ gb1045) := ⟨h6_⟩
        have n7_ : Aside0 (w.heap.size ≤ gb1045) := ⟨h7_⟩
        have n8_ : Aside0 (Below w.heap.size w w60) := ⟨h8_⟩
        clear HB
        clear h0_ h1_ h2_ h3_ h4_ h5_ h6_ h7_ h8_
        have BK1044 := n0_
        have BK1045 := n1_
        have GW1044 := n2_
        have GE1044 := n3_
        have NB1045_1044 := n4_
        have NB1044_1045 := n5_
        have GW1045 := n6_
        have GE1045 := n7_
        have HB := n8_
        clear n0_ n1_ n2_ n3_ n4_ n5_ n6_ n7_ n8_
        have hHeld : w60.cell? (ad1042.add ((a2).toNat * 4)) = some (.int .i64 ((rd_T127 l0 a2).f0)) ∧ w60.cell? ⟨(ad1042.add ((a2).toNat * 4)).block, (ad1042.add ((a2).toNat * 4)).off + 1, none⟩ = some (.int .i64 ((rd_T127 l0 a2).f1)) ∧ w60.cell? ⟨(ad1042.add ((a2).toNat * 4)).block, (ad1042.add ((a2).toNat * 4)).off + 2, none⟩ = some (.int .i64 ((rd_T127 l0 a2).f2)) ∧ w60.cell? ⟨(ad1042.add ((a2).toNat * 4)).block, (ad1042.add ((a2).toNat * 4)).off + 3, none⟩ = some (.int .i64 ((rd_T127 l0 a2).f3)) ∧ w60.cell? (ad1042.add ((a3).toNat * 4)) = some (.int .i64 ((rd_T127 l0 a3).f0)) ∧ w60.cell? ⟨(ad1042.add ((a3).toNat * 4)).block, (ad1042.add ((a3).toNat * 4)).off + 1, none⟩ = some (.int .i64 ((rd_T127 l0 a3).f1)) ∧ w60.cell? ⟨(ad1042.add ((a3).toNat * 4)).block, (ad1042.add ((a3).toNat * 4)).off + 2, none⟩ = some (.int .i64 ((rd_T127 l0 a3).f2)) ∧ w60.cell? ⟨(ad1042.add ((a3).toNat * 4)).block, (ad1042.add ((a3).toNat * 4)).off + 3, none⟩ = some (.int .i64 ((rd_T127 l0 a3).f3)) := hS_
        refine norm_ (a' := ?_) ?_ ?_
        rotate_left
        ·simp only [putAll, Act.put, List.setIfInBounds_toArray, List.set_cons_zero, List.set_cons_succ]
         rfl
        refine one_ (i := 10) (N := none) q209_12 rfl rfl (one_of HT_.out (by kernel_rfl)) (by decide) (fun K hK => ?_)
        have hs61 : w60.cell? ⟨gb1044, 0, none⟩ = some (.int .i64 0) := (blk_cell BK1044.out 0).trans rfl
        have hfs61 := blk_frozen BK1044.out 0
        have hns61_1 := NB1045_1044.out
        have hms61_1 := NB1044_1045.out
        have hs62 : w60.cell? ⟨gb1044, 1, none⟩ = some (.int .i64 0) := (blk_cell BK1044.out 1).trans rfl
        have hfs62 := blk_frozen BK1044.out 1
        have hns62_1 := NB1045_1044.out
        have hms62_1 := NB1044_1045.out
        have hs63 : w60.cell? ⟨gb1044, 2, none⟩ = some (.int .i64 0) := (blk_cell BK1044.out 2).trans rfl
        have hfs63 := blk_frozen BK1044.out 2
        have hns63_1 := NB1045_1044.out
        have hms63_1 := NB1044_1045.out
        have hs64 : w60.cell? ⟨gb1044, 3, none⟩ = some (.int .i64 0) := (blk_cell BK1044.out 3).trans rfl
        have hfs64 := blk_frozen BK1044.out 3
        have hns64_1 := NB1045_1044.out
        have hms64_1 := NB1044_1045.out
        refine skip_ (w1 := ?_) (by rfl) rfl ?_ ?_
        rotate_left
        ·go_simp
         rfl
        refine hK.out _ _ ⟨((cell_far (p := ⟨gb1044, _, none⟩) (bne_ hw1042_0 GW1044.out) _).trans (((cell_far (p := ⟨gb1044, _, none⟩) (bne_ hw1042_0 GW1044.out) _).trans (((cell_far (p := ⟨gb1044, _, none⟩) (bne_ hw1042_0 GW1044.out) _).trans (((cell_far (p := ⟨gb1044, _, none⟩) (bne_ hw1042_0 GW1044.out) _).trans (hHeld.1)))))))), ((cell_far (p := ⟨gb1044, _, none⟩) (bne_ hw1042_1 GW1044.out) _).trans (((cell_far (p := ⟨gb1044, _, none⟩) (bne_ hw1042_1 GW1044.out) _).trans (((cell_far (p := ⟨gb1044, _, none⟩) (bne_ hw1042_1 GW1044.out) _).trans (((cell_far (p := ⟨gb1044, _, none⟩) (bne_ hw1042_1 GW1044.out) _).trans (hHeld.2.1)))))))), ((cell_far (p := ⟨gb1044, _, none⟩) (bne_ hw1042_2 GW1044.out) _).trans (((cell_far (p := ⟨gb1044, _, none⟩) (bne_ hw1042_2 GW1044.out) _).trans (((cell_far (p := ⟨gb1044, _, none⟩) (bne_ hw1042_2 GW1044.out) _).trans (((cell_far (p := ⟨gb1044, _, none⟩) (bne_ hw1042_2 GW1044.out) _).trans (hHeld.2.2.1)))))))), ((cell_far (p := ⟨gb1044, _, none⟩) (bne_ hw1042_3 GW1044.out) _).trans (((cell_far (p := ⟨gb1044, _, none⟩) (bne_ hw1042_3 GW1044.out) _).trans (((cell_far (p := ⟨gb1044, _, none⟩) (bne_ hw1042_3 GW1044.out) _).trans (((cell_far (p := ⟨gb1044, _, none⟩) (bne_ hw1042_3 GW1044.out) _).trans (hHeld.2.2.2.1)))))))), ((cell_far (p := ⟨gb1044, _, none⟩) (bne_ hw1043_0 GW1044.out) _).trans (((cell_far (p := ⟨gb1044, _, none⟩) (bne_ hw1043_0 GW1044.out) _).trans (((cell_far (p := ⟨gb1044, _, none⟩) (bne_ hw1043_0 GW1044.out) _).trans (((cell_far (p := ⟨gb1044, _, none⟩) (bne_ hw1043_0 GW1044.out) _).trans (hHeld.2.2.2.2.1)))))))), ((cell_far (p := ⟨gb1044, _, none⟩) (bne_ hw1043_1 GW1044.out) _).trans (((cell_far (p := ⟨gb1044, _, none⟩) (bne_ hw1043_1 GW1044.out) _).trans (((cell_far (p := ⟨gb1044, _, none⟩) (bne_ hw1043_1 GW1044.out) _).trans (((cell_far (p := ⟨gb1044, _, none⟩) (bne_ hw1043_1 GW1044.out) _).trans (hHeld.2.2.2.2.2.1)))))))), ((cell_far (p := ⟨gb1044, _, none⟩) (bne_ hw1043_2 GW1044.out) _).trans (((cell_far (p := ⟨gb1044, _, none⟩) (bne_ hw1043_2 GW1044.out) _).trans (((cell_far (p := ⟨gb1044, _, none⟩) (bne_ hw1043_2 GW1044.out) _).trans (((cell_far (p := ⟨gb1044, _, none⟩) (bne_ hw1043_2 GW1044.out) _).trans (hHeld.2.2.2.2.2.2.1)))))))), ((cell_far (p := ⟨gb1044, _, none⟩) (bne_ hw1043_3 GW1044.out) _).trans (((cell_far (p := ⟨gb1044, _, none⟩) (bne_ hw1043_3 GW1044.out) _).trans (((cell_far (p := ⟨gb1044, _, none⟩) (bne_ hw1043_3 GW1044.out) _).trans (((cell_far (p := ⟨gb1044, _, none⟩) (bne_ hw1043_3 GW1044.out) _).trans (hHeld.2.2.2.2.2.2.2))))))))⟩ (fun hHeld => ?_)
        clear hK K
        refine one_ (i := 11) (N := none) q209_13 rfl rfl (one_of HT_.out (by kernel_rfl)) (by decide) (fun K hK => ?_)
        have hs65 : w60.cell? ⟨gb1045, 0, none⟩ = some (.int .i64 0) := (blk_cell BK1045.out 0).trans rfl
        have hfs65 := blk_frozen BK1045.out 0
        have hns65_0 := NB1044_1045.out
        have hms65_0 := NB1045_1044.out
        have hs66 : w60.cell? ⟨gb1045, 1, none⟩ = some (.int .i64 0) := (blk_cell BK1045.out 1).trans rfl
        have hfs66 := blk_frozen BK1045.out 1
        have hns66_0 := NB1044_1045.out
        have hms66_0 := NB1045_1044.out
        have hs67 : w60.cell? ⟨gb1045, 2, none⟩ = some (.int .i64 0) := (blk_cell BK1045.out 2).trans rfl
        have hfs67 := blk_frozen BK1045.out 2
        have hns67_0 := NB1044_1045.out
        have hms67_0 := NB1045_1044.out
        have hs68 : w60.cell? ⟨gb1045, 3, none⟩ = some (.int .i64 0) := (blk_cell BK1045.out 3).trans rfl
        have hfs68 := blk_frozen BK1045.out 3
        have hns68_0 := NB1044_1045.out
        have hms68_0 := NB1045_1044.out
        refine skip_ (w1 := ?_) (by rfl) rfl ?_ ?_
        rotate_left
        ·go_simp
         rfl
        refine hK.out _ _ ⟨((cell_far (p := ⟨gb1045, _, none⟩) (bne_ hw1042_0 GW1045.out) _).trans (((cell_far (p := ⟨gb1045, _, none⟩) (bne_ hw1042_0 GW1045.out) _).trans (((cell_far (p := ⟨gb1045, _, none⟩) (bne_ hw1042_0 GW1045.out) _).trans (((cell_far (p := ⟨gb1045, _, none⟩) (bne_ hw1042_0 GW1045.out) _).trans (hHeld.1)))))))), ((cell_far (p := ⟨gb1045, _, none⟩) (bne_ hw1042_1 GW1045.out) _).trans (((cell_far (p := ⟨gb1045, _, none⟩) (bne_ hw1042_1 GW1045.out) _).trans (((cell_far (p := ⟨gb1045, _, none⟩) (bne_ hw1042_1 GW1045.out) _).trans (((cell_far (p := ⟨gb1045, _, none⟩) (bne_ hw1042_1 GW1045.out) _).trans (hHeld.2.1)))))))), ((cell_far (p := ⟨gb1045, _, none⟩) (bne_ hw1042_2 GW1045.out) _).trans (((cell_far (p := ⟨gb1045, _, none⟩) (bne_ hw1042_2 GW1045.out) _).trans (((cell_far (p := ⟨gb1045, _, none⟩) (bne_ hw1042_2 GW1045.out) _).trans (((cell_far (p := ⟨gb1045, _, none⟩) (bne_ hw1042_2 GW1045.out) _).trans (hHeld.2.2.1)))))))), ((cell_far (p := ⟨gb1045, _, none⟩) (bne_ hw1042_3 GW1045.out) _).trans (((cell_far (p := ⟨gb1045, _, none⟩) (bne_ hw1042_3 GW1045.out) _).trans (((cell_far (p := ⟨gb1045, _, none⟩) (bne_ hw1042_3 GW1045.out) _).trans (((cell_far (p := ⟨gb1045, _, none⟩) (bne_ hw1042_3 GW1045.out) _).trans (hHeld.2.2.2.1)))))))), ((cell_far (p := ⟨gb1045, _, none⟩) (bne_ hw1043_0 GW1045.out) _).trans (((cell_far (p := ⟨gb1045, _, none⟩) (bne_ hw1043_0 GW1045.out) _).trans (((cell_far (p := ⟨gb1045, _, none⟩) (bne_ hw1043_0 GW1045.out) _).trans (((cell_far (p := ⟨gb1045, _, none⟩) (bne_ hw1043_0 GW1045.out) _).trans (hHeld.2.2.2.2.1)))))))), ((cell_far (p := ⟨gb1045, _, none⟩) (bne_ hw1043_1 GW1045.out) _).trans (((cell_far (p := ⟨gb1045, _, none⟩) (bne_ hw1043_1 GW1045.out) _).trans (((cell_far (p := ⟨gb1045, _, none⟩) (bne_ hw1043_1 GW1045.out) _).trans (((cell_far (p := ⟨gb1045, _, none⟩) (bne_ hw1043_1 GW1045.out) _).trans (hHeld.2.2.2.2.2.1)))))))), ((cell_far (p := ⟨gb1045, _, none⟩) (bne_ hw1043_2 GW1045.out) _).trans (((cell_far (p := ⟨gb1045, _, none⟩) (bne_ hw1043_2 GW1045.out) _).trans (((cell_far (p := ⟨gb1045, _, none⟩) (bne_ hw1043_2 GW1045.out) _).trans (((cell_far (p := ⟨gb1045, _, none⟩) (bne_ hw1043_2 GW1045.out) _).trans (hHeld.2.2.2.2.2.2.1)))))))), ((cell_far (p := ⟨gb1045, _, none⟩) (bne_ hw1043_3 GW1045.out) _).trans (((cell_far (p := ⟨gb1045, _, none⟩) (bne_ hw1043_3 GW1045.out) _).trans (((cell_far (p := ⟨gb1045, _, none⟩) (bne_ hw1043_3 GW1045.out) _).trans (((cell_far (p := ⟨gb1045, _, none⟩) (bne_ hw1043_3 GW1045.out) _).trans (hHeld.2.2.2.2.2.2.2))))))))⟩ (fun hHeld => ?_)
        clear hK K
        refine done_ (done_of HT_.out (by kernel_rfl)) ?_
        have hnb69 := NB1044_1045.out
        have hnc69 := NB1045_1044.out
        have hcz70_0 : w60.cell? ⟨gb1044, 0, none⟩ = some (.int .i64 0) := (blk_cell BK1044.out 0).trans rfl
        have hcz70_1 : w60.cell? ⟨gb1044, 1, none⟩ = some (.int .i64 0) := (blk_cell BK1044.out 1).trans rfl
        have hcz70_2 : w60.cell? ⟨gb1044, 2, none⟩ = some (.int .i64 0) := (blk_cell BK1044.out 2).trans rfl
        have hcz70_3 : w60.cell? ⟨gb1044, 3, none⟩ = some (.int .i64 0) := (blk_cell BK1044.out 3).trans rfl
        have hfz70_0 := blk_frozen BK1044.out 0
        have hfz70_1 := blk_frozen BK1044.out 1
        have hfz70_2 := blk_frozen BK1044.out 2
        have hfz70_3 := blk_frozen BK1044.out 3
        have hcz71_0 : w60.cell? ⟨gb1045, 0, none⟩ = some (.int .i64 0) := (blk_cell BK1045.out 0).trans rfl
        have hcz71_1 : w60.cell? ⟨gb1045, 1, none⟩ = some (.int .i64 0) := (blk_cell BK1045.out 1).trans rfl
        have hcz71_2 : w60.cell? ⟨gb1045, 2, none⟩ = some (.int .i64 0) := (blk_cell BK1045.out 2).trans rfl
        have hcz71_3 : w60.cell? ⟨gb1045, 3, none⟩ = some (.int .i64 0) := (blk_cell BK1045.out 3).trans rfl
        have hfz71_0 := blk_frozen BK1045.out 0
        have hfz71_1 := blk_frozen BK1045.out 1
        have hfz71_2 := blk_frozen BK1045.out 2
        have hfz71_3 := blk_frozen BK1045.out 3
        try go_wp2
        go_ret
        exact ⟨by first | rfl | (simp [errW_none, errW_some] <;> rfl) | (simp [*, errW_none, errW_some] <;> rfl), by repeat (first | (with_reducible first | exact HB.out | apply below_alloc | apply pw_below_drewN | apply below_drew1 | refine below_set ?_ GE1044.out | refine below_set ?_ GE1045.out) | exact HB.out)⟩
    ·rw [if_neg c8] at H
     exact absurd H (by simp)
   ·rw [if_neg c7] at H
    exact absurd H (by simp)
  ·rw [if_neg c6] at H
   exact absurd H (by simp)
 ·rw [if_neg c5] at H
  exact absurd H (by simp)

/-! ### spec_l3Wrong: function 130 -/
abbrev q130_0 : Array Bool := #[false, false, false, false, false, false, false, false, false, false, false, false, false]
abbrev q130_1 : Array Bool := #[true, false, false, false, false, false, false, false, false, false, false, false, false]
abbrev q130_2 : Array Bool := #[true, true, false, false, false, false, false, false, false, false, false, false, false]
abbrev q130_3 : Array Bool := #[true, true, true, false, false, false, false, false, false, false, false, false, false]
abbrev q130_4 : Array Bool := #[true, true, true, true, false, false, false, false, false, false, false, false, false]
abbrev q130_5 : Array Bool := #[true, true, true, true, true, false, false, false, false, false, false, false, false]
abbrev q130_6 : Array Bool := #[true, true, true, true, true, false, true, false, false, false, false, false, false]
abbrev q130_7 : Array Bool := #[true, true, true, true, true, false, true, true, false, false, false, false, false]
abbrev q130_8 : Array Bool := #[true, true, true, true, true, false, true, true, true, false, false, false, false]
abbrev q130_9 : Array Bool := #[true, true, true, true, true, false, true, true, true, true, false, false, false]
abbrev q130_10 : Array Bool := #[true, true, true, true, true, true, true, true, true, true, false, false, false]
abbrev q130_11 : Array Bool := #[true, true, true, true, true, true, true, true, true, true, true, false, false]
abbrev q130_12 : Array Bool := #[true, true, true, true, true, true, true, true, true, true, true, true, false]
abbrev q130_13 : Array Bool := #[true, true, true, true, true, true, true, true, true, true, true, true, true]
def spec_l3Wrong.l0 : Nat → List (S127) → List Int → Int → Int → Option (Int)
 | 0, _, _, _, _ => none
 | k + 1, x0, x1, x2, x7 => if (wrap64 (x7 + 1)) < (x1.length : Int) then (if 0 ≤ x7 then (if x7 < (x1.length : Int) then (if 0 ≤ (wrap64 (x7 + 1)) then ((spec_l3Gap.f x0 x2 (rd x1 x7) (rd x1 (wrap64 (x7 + 1)))).bind fun t1048 => (if t1048 > 0 then (some x7) else (spec_l3Wrong.l0 k x0 x1 x2 (wrap64 (x7 + 1))))) else (none)) else (none)) else (none)) else (some (-1))
def spec_l3Wrong.f (k : Nat) (l0 : List (S127)) (l1 : List Int) (a2 : Int) : Option (Int) := spec_l3Wrong.l0 k l0 l1 a2 0
theorem spec_l3Wrong.mono_l : ∀ k, (∀ y0 y1 y2 y3, LeO (spec_l3Wrong.l0 k y0 y1 y2 y3) (spec_l3Wrong.l0 (k + 1) y0 y1 y2 y3))
 | 0 => fun _ _ _ _ r h => by simp [spec_l3Wrong.l0] at h
 | k + 1 => by
  have ih0 := spec_l3Wrong.mono_l k
  ·intro y0 y1 y2 y3
   unfold spec_l3Wrong.l0
   repeat' first
   | (with_reducible exact ih0 _ _ _ _)
   | (with_reducible exact LeO.refl _)
   | (with_reducible exact LeO.none _)
   | (with_reducible refine LeO.ite ?_ ?_)
   | (with_reducible refine LeO.bind ?_ (fun _ => ?_))
   | exact ih0 _ _ _ _
   | exact LeO.none _
   | refine LeO.ite ?_ ?_
   | refine LeO.bind ?_ (fun _ => ?_)
theorem spec_l3Wrong.mono : ∀ a0 a1 a2 k, LeO (spec_l3Wrong.f k a0 a1 a2) (spec_l3Wrong.f (k + 1) a0 a1 a2) := by
 intro a0 a1 a2 k
 have ih0 := spec_l3Wrong.mono_l k
 unfold spec_l3Wrong.f
 repeat' first
   | (with_reducible exact ih0 _ _ _ _)
   | (with_reducible exact LeO.refl _)
   | (with_reducible exact LeO.none _)
   | (with_reducible refine LeO.ite ?_ ?_)
   | (with_reducible refine LeO.bind ?_ (fun _ => ?_))
   | exact ih0 _ _ _ _
   | exact LeO.none _
   | refine LeO.ite ?_ ?_
   | refine LeO.bind ?_ (fun _ => ?_)
def spec_l3Wrong.T4 : Bool × List (List Nat × List Nat) := (true, [([], []), ([], []), ([], []), ([], []), ([2, 3], [2, 3]), ([4], [4]), ([], []), ([], []), ([7], [7]), ([6, 8], [6, 8]), ([9], [9]), ([0, 1, 5, 10], [0, 1, 5, 10]), ([11], [11])])
def spec_l3Wrong.B4 : List Nat := [0, 0, 0, 0, 12, 28, 0, 0, 128, 448, 960, 2047, 4095]
theorem spec_l3Wrong.tab4 : rtab .any (opsOf Try.f130 4) = spec_l3Wrong.T4 := by kernel_rfl
theorem spec_l3Wrong.bits4 : waitsOk spec_l3Wrong.T4.2 spec_l3Wrong.B4 = true := by kernel_rfl
set_option maxHeartbeats 8000000 in
set_option maxRecDepth 100000 in
theorem spec_l3Wrong.calls (k : Nat) (A0 : Option Addr) (c0 : Nat) (l0 : List (S127)) (A1 : Option Addr) (c1 : Nat) (l1 : List Int) (a2 : Int) (r : Int) (w : World) (hr0 : Kd.C k127 w A0 l0.length l0) (hc0 : l0.length ≤ c0) (hr1 : Kd.C (Kd.int .i64) w A1 l1.length l1) (hc1 : l1.length ≤ c1) (h : spec_l3Wrong.f k l0 l1 a2 = some r) :
  Calls Try.prog 130 #[.slice A0 l0.length c0, .slice A1 l1.length c1, .int .i64 a2] w fun e w' => e = .returned (.int .i64 r) ∧ Below w.heap.size w w' := by
 have HR0 := Aside0.mk hr0
 have HC0 := Aside0.mk hc0
 clear hr0 hc0
 have HR1 := Aside0.mk hr1
 have HC1 := Aside0.mk hc1
 clear hr1 hc1
 have HB := Aside0.mk (Below.refl w.heap.size w)
 have H : (spec_l3Wrong.l0 k l0 l1 a2 0) = some r := h
 clear h
 have H' := Aside0.mk H
 clear H
 go_enter Try.func130, Try.ntmps130
 go_wp2
 go_loopg [7] k (fun kq v7 w' => ∃ (x7_1 : Int), v7 = .int .i64 x7_1 ∧ Aside0 (spec_l3Wrong.l0 kq l0 l1 a2 x7_1 = some r) ∧ Aside0 (kq ≤ k) ∧ Aside0 (Below w.heap.size w w'))
 case atStart => exact ⟨(0), (by first | rfl | (simp; done) | (simp [*]; done)), H', ⟨Nat.le_refl _⟩, ⟨by repeat (first | (with_reducible first | exact HB.out | apply below_alloc | apply pw_below_drewN | apply below_drew1) | exact HB.out)⟩⟩
 case round =>
  clear H'
  try clear c1
  try clear p2
  obtain ⟨x7_1, rfl, HA, HK1, HB⟩ := hrel
  cases gk with
  | zero => exact absurd HA.out (by simp [spec_l3Wrong.l0])
  | succ k1 =>
   have H := HA.out
   clear HA
   simp only [spec_l3Wrong.l0] at H
   by_cases c4 : (wrap64 (x7_1 + 1)) < (l1.length : Int)
   ·rw [if_pos c4] at H
    have c4b0 : decide ((wrap64 (x7_1 + 1)) < (l1.length : Int)) = true := decide_eq_true c4
    clear c4
    by_cases c5 : 0 ≤ x7_1
    ·rw [if_pos c5] at H
     have c5b0 : decide (0 ≤ x7_1) = true := decide_eq_true c5
     clear c5
     by_cases c6 : x7_1 < (l1.length : Int)
     ·rw [if_pos c6] at H
      have c6b0 : decide (x7_1 < (l1.length : Int)) = true := decide_eq_true c6
      clear c6
      obtain ⟨ji7, hji7⟩ : ∃ j_ : Int, (wrap64 (x7_1 + 1)) = j_ := ⟨_, rfl⟩
      replace H : (if 0 ≤ (ji7) then ((spec_l3Gap.f l0 a2 (rd l1 x7_1) (rd l1 (ji7))).bind fun t1048 => (if t1048 > 0 then (some x7_1) else (spec_l3Wrong.l0 k1 l0 l1 a2 ji7))) else (none)) = some r := by first | (rw [hji7] at H; exact H) | (simp only [hji7] at H ⊢; exact H)
      (try rw [hji7] at c4b0)
      have hji7w : (IntKind.i64.wrap (x7_1 + 1)) = ji7 := (i64_w _).trans hji7
      by_cases c8 : 0 ≤ (ji7)
      ·rw [if_pos c8] at H
       have c8b0 : decide (0 ≤ (ji7)) = true := decide_eq_true c8
       clear c8
       replace H := Option.bind_eq_some_iff.mp H
       obtain ⟨t1048, A90, H⟩ := H
       replace H : (if t1048 > 0 then (some x7_1) else (spec_l3Wrong.l0 k1 l0 l1 a2 ji7)) = some r := H
       have A9 := Aside0.mk A90
       clear A90
       by_cases c10 : t1048 > 0
       ·rw [if_pos c10] at H
        have c10b0 : decide (0 < t1048) = true := decide_eq_true c10
        clear c10
        obtain rfl := Option.some.inj H
        try go_wp2
        have n0_ := Aside0.mk (below_drew1 HB.out)
        clear HB
        have HB := n0_
        clear n0_
        have p1046 : 0 ≤ (x7_1 : Int) := of_decide_eq_true (by first | (with_reducible assumption) | assumption)
        have q1046 : x7_1 < (l1.length : Int) := of_decide_eq_true (by first | (with_reducible assumption) | assumption)
        obtain ⟨ad1046, e1046, hx1046_0⟩ := Kd.at_int HR1.out x7_1 p1046 q1046
        have hw1046_0 := hx1046_0
        cases e1046
        replace hx1046_0 := (HB.out.cell (World.block_lt_of_cell? w _ hx1046_0)).trans hx1046_0
        replace p1046 := eq_true p1046
        replace q1046 := eq_true q1046
        have p1047 : 0 ≤ ((ji7) : Int) := of_decide_eq_true (by first | (with_reducible assumption) | assumption)
        have q1047 : (ji7) < (l1.length : Int) := of_decide_eq_true (by first | (with_reducible assumption) | assumption)
        obtain ⟨ad1047, e1047, hx1047_0⟩ := Kd.at_int HR1.out (ji7) p1047 q1047
        have hw1047_0 := hx1047_0
        obtain rfl : ad1046 = ad1047 := (by injection e1047)
        replace hx1047_0 := (HB.out.cell (World.block_lt_of_cell? w _ hx1047_0)).trans hx1047_0
        replace p1047 := eq_true p1047
        replace q1047 := eq_true q1047
        refine start_ (n := 13) (S := fun w' => w'.cell? (ad1046.add (x7_1).toNat) = some (.int .i64 (rd l1 x7_1)) ∧ w'.cell? (ad1046.add ((ji7)).toNat) = some (.int .i64 (rd l1 (ji7)))) (ds := []) q130_0 (by kernel_rfl) rfl rfl ⟨(bcl_ HB.out hw1046_0), (bcl_ HB.out hw1047_0)⟩ (fun hHeld => ?_); refine with_tabW spec_l3Wrong.tab4 spec_l3Wrong.bits4 (fun HT_ HW_ => ?_)
        generalize wr.drew = w11 at HB hx1046_0 hx1047_0 hHeld ⊢
        refine pure_ (i := 0) (N := some 15) (v := ?_) (a' := ?_) q130_1 rfl rfl (any_of HT_.out (by kernel_rfl)) (fun _ _ _ h => h) (Or.inl ⟨by rfl, ?_⟩) ?_ ?_
        rotate_left
        ·intro w'
         go_simp
         with_reducible rfl
        rotate_left
        ·simp only [aq_]
         rfl
        refine pure_ (i := 1) (N := some 16) (v := ?_) (a' := ?_) q130_2 rfl rfl (any_of HT_.out (by kernel_rfl)) (fun _ _ _ h => h) (Or.inl ⟨by rfl, ?_⟩) ?_ ?_
        rotate_left
        ·intro w'
         go_simp
         with_reducible rfl
        rotate_left
        ·simp only [aq_]
         rfl
        refine pure_ (i := 2) (N := some 17) (v := ?_) (a' := ?_) q130_3 rfl rfl (any_of HT_.out (by kernel_rfl)) (fun _ _ _ h => h) (Or.inl ⟨by rfl, ?_⟩) ?_ ?_
        rotate_left
        ·intro w'
         go_simp
         with_reducible rfl
        rotate_left
        ·simp only [aq_]
         rfl
        refine pure_ (i := 3) (N := some 18) (v := ?_) (a' := ?_) q130_4 rfl rfl (any_of HT_.out (by kernel_rfl)) (fun _ _ _ h => h) (Or.inl ⟨by rfl, ?_⟩) ?_ ?_
        rotate_left
        ·intro w'
         go_simp
         with_reducible rfl
        rotate_left
        ·simp only [aq_]
         rfl
        refine pure_ (i := 4) (N := some 19) (v := ?_) (a' := ?_) q130_5 rfl rfl (any_of HT_.out (by kernel_rfl)) (fun _ _ _ h => h) (Or.inl ⟨by rfl, ?_⟩) ?_ ?_
        rotate_left
        ·intro w'
         go_simp
         with_reducible rfl
        rotate_left
        ·simp only [aq_]
         rfl
        refine pure_ (i := 6) (N := some 21) (v := ?_) (a' := ?_) q130_6 rfl rfl (any_of HT_.out (by kernel_rfl)) (fun _ _ _ h => h) (Or.inl ⟨by rfl, ?_⟩) ?_ ?_
        rotate_left
        ·intro w'
         go_simp
         with_reducible rfl
        rotate_left
        ·simp only [aq_]
         rfl
        refine pure_ (i := 7) (N := some 22) (v := ?_) (a' := ?_) q130_7 rfl rfl (any_of HT_.out (by kernel_rfl)) (fun _ _ _ h => h) (Or.inl ⟨by rfl, ?_⟩) ?_ ?_
        rotate_left
        ·intro w'
         go_simp
         with_reducible rfl
        rotate_left
        ·simp only [aq_]
         rfl
        refine pure_ (i := 8) (N := some 23) (v := ?_) (a' := ?_) q130_8 rfl rfl (any_of HT_.out (by kernel_rfl)) (fun _ _ _ h => h) (Or.inl ⟨by rfl, ?_⟩) ?_ ?_
        rotate_left
        ·intro w'
         go_simp
         with_reducible rfl
        rotate_left
        ·simp only [aq_]
         rfl
        refine pure_ (i := 9) (N := some 24) (v := ?_) (a' := ?_) q130_9 rfl rfl (any_of HT_.out (by kernel_rfl)) (fun _ _ _ h => h) (Or.inl ⟨by rfl, ?_⟩) ?_ ?_
        rotate_left
        ·intro w'
         go_simp
         with_reducible rfl
        rotate_left
        ·simp only [aq_]
         rfl
        refine take_ (i := 5) (N := some 20) (v := ?_) (a' := ?_) q130_10 rfl rfl (take_ofW HT_.out HW_.out (by kernel_rfl)) (fun _ _ _ h => h) (Or.inl ⟨by rfl, ?_⟩) hHeld ?_ ?_
        rotate_left
        ·rintro w' ⟨s0, s1⟩
         go_simp
         with_reducible rfl
        rotate_left
        ·simp only [aq_]
         rfl
        refine take_ (i := 10) (N := some 25) (v := ?_) (a' := ?_) q130_11 rfl rfl (take_ofW HT_.out HW_.out (by kernel_rfl)) (fun _ _ _ h => h) (Or.inl ⟨by rfl, ?_⟩) hHeld ?_ ?_
        rotate_left
        ·rintro w' ⟨s0, s1⟩
         go_simp
         with_reducible rfl
        rotate_left
        ·simp only [aq_]
         rfl
        refine one_ (i := 11) (N := some 26) q130_12 rfl rfl (one_of HT_.out (by kernel_rfl)) (by decide) (fun K hK => ?_)
        refine goes_ Try.func209 (by kernel_rfl) rfl #[.slice A0 l0.length c0, .int .i64 a2, .int .i64 (rd l1 x7_1), .int .i64 (rd l1 (ji7))] (by rfl) rfl rfl (by (try simp only [List.map_toArray, List.map_cons, List.map_nil]); first | done | (simp only [hji7]; rfl) | rfl | (simp only [List.length_drop, List.length_take]; rfl)) ?_
        with_reducible refine (spec_l3Gap.calls _ _ l0 a2 (rd l1 x7_1) (rd l1 (ji7)) t1048 _ ?side1 ?side2 A9.out).mono ?_
        (case side1 => repeat (first | exact (Kd.C_below HR0.out HB.out) | (with_reducible refine Kd.C_alloc ?_ _) | (with_reducible refine Kd.C_drewN ?_ _) | (with_reducible refine Kd.C_drew ?_)))
        (case side2 => exact HC0.out)
        rintro e w12 ⟨rfl, hb⟩
        refine ⟨_, rfl, ?_⟩
        have n0_ := Aside0.mk (below_step (by repeat (first | (with_reducible first | exact HB.out | apply below_alloc | apply pw_below_drewN | apply below_drew1) | exact HB.out)) hb)
        clear HB
        have HB := n0_
        clear n0_
        (try clear hb)
        (try clear hb2)
        (try clear hk)
        (try clear hi)
        refine hK.out _ _ ⟨(bcl_ HB.out hw1046_0), (bcl_ HB.out hw1047_0)⟩ (fun hHeld => ?_)
        clear hK K
        refine norm_ (a' := ?_) ?_ ?_
        rotate_left
        ·show Act.put _ (some 26) _ = _
         simp only [aq_]
         rfl
        refine pure_ (i := 12) (N := some 27) (v := ?_) (a' := ?_) q130_13 rfl rfl (any_of HT_.out (by kernel_rfl)) (fun _ _ _ h => h) (Or.inl ⟨by rfl, ?_⟩) ?_ ?_
        rotate_left
        ·intro w'
         go_simp
         with_reducible rfl
        rotate_left
        ·simp only [aq_]
         rfl
        refine done_ (done_of HT_.out (by kernel_rfl)) ?_
        try go_wp2
        go_ret
        exact ⟨by first | rfl | (simp [errW_none, errW_some] <;> rfl) | (simp only [← hji7]; first | rfl | (simp [errW_none, errW_some] <;> rfl)) | (simp [*, errW_none, errW_some] <;> rfl), by repeat (first | (with_reducible first | exact HB.out | apply below_alloc | apply pw_below_drewN | apply below_drew1) | exact HB.out)⟩
       ·rw [if_neg c10] at H
        have c10b0 : decide (0 < t1048) = false := decide_eq_false c10
        clear c10
        have H' := Aside0.mk H
        clear H
        try go_wp2
        have n0_ := Aside0.mk (below_drew1 HB.out)
        clear HB
        have HB := n0_
        clear n0_
        have p1046 : 0 ≤ (x7_1 : Int) := of_decide_eq_true (by first | (with_reducible assumption) | assumption)
        have q1046 : x7_1 < (l1.length : Int) := of_decide_eq_true (by first | (with_reducible assumption) | assumption)
        obtain ⟨ad1046, e1046, hx1046_0⟩ := Kd.at_int HR1.out x7_1 p1046 q1046
        have hw1046_0 := hx1046_0
        cases e1046
        replace hx1046_0 := (HB.out.cell (World.block_lt_of_cell? w _ hx1046_0)).trans hx1046_0
        replace p1046 := eq_true p1046
        replace q1046 := eq_true q1046
        have p1047 : 0 ≤ ((ji7) : Int) := of_decide_eq_true (by first | (with_reducible assumption) | assumption)
        have q1047 : (ji7) < (l1.length : Int) := of_decide_eq_true (by first | (with_reducible assumption) | assumption)
        obtain ⟨ad1047, e1047, hx1047_0⟩ := Kd.at_int HR1.out (ji7) p1047 q1047
        have hw1047_0 := hx1047_0
        obtain rfl : ad1046 = ad1047 := (by injection e1047)
        replace hx1047_0 := (HB.out.cell (World.block_lt_of_cell? w _ hx1047_0)).trans hx1047_0
        replace p1047 := eq_true p1047
        replace q1047 := eq_true q1047
        refine start_ (n := 13) (S := fun w' => w'.cell? (ad1046.add (x7_1).toNat) = some (.int .i64 (rd l1 x7_1)) ∧ w'.cell? (ad1046.add ((ji7)).toNat) = some (.int .i64 (rd l1 (ji7)))) (ds := []) q130_0 (by kernel_rfl) rfl rfl ⟨(bcl_ HB.out hw1046_0), (bcl_ HB.out hw1047_0)⟩ (fun hHeld => ?_); refine with_tabW spec_l3Wrong.tab4 spec_l3Wrong.bits4 (fun HT_ HW_ => ?_)
        generalize wr.drew = w13 at HB hx1046_0 hx1047_0 hHeld ⊢
        refine pure_ (i := 0) (N := some 15) (v := ?_) (a' := ?_) q130_1 rfl rfl (any_of HT_.out (by kernel_rfl)) (fun _ _ _ h => h) (Or.inl ⟨by rfl, ?_⟩) ?_ ?_
        rotate_left
        ·intro w'
         go_simp
         with_reducible rfl
        rotate_left
        ·simp only [aq_]
         rfl
        refine pure_ (i := 1) (N := some 16) (v := ?_) (a' := ?_) q130_2 rfl rfl (any_of HT_.out (by kernel_rfl)) (fun _ _ _ h => h) (Or.inl ⟨by rfl, ?_⟩) ?_ ?_
        rotate_left
        ·intro w'
         go_simp
         with_reducible rfl
        rotate_left
        ·simp only [aq_]
         rfl
        refine pure_ (i := 2) (N := some 17) (v := ?_) (a' := ?_) q130_3 rfl rfl (any_of HT_.out (by kernel_rfl)) (fun _ _ _ h => h) (Or.inl ⟨by rfl, ?_⟩) ?_ ?_
        rotate_left
        ·intro w'
         go_simp
         with_reducible rfl
        rotate_left
        ·simp only [aq_]
         rfl
        refine pure_ (i := 3) (N := some 18) (v := ?_) (a' := ?_) q130_4 rfl rfl (any_of HT_.out (by kernel_rfl)) (fun _ _ _ h => h) (Or.inl ⟨by rfl, ?_⟩) ?_ ?_
        rotate_left
        ·intro w'
         go_simp
         with_reducible rfl
        rotate_left
        ·simp only [aq_]
         rfl
        refine pure_ (i := 4) (N := some 19) (v := ?_) (a' := ?_) q130_5 rfl rfl (any_of HT_.out (by kernel_rfl)) (fun _ _ _ h => h) (Or.inl ⟨by rfl, ?_⟩) ?_ ?_
        rotate_left
        ·intro w'
         go_simp
         with_reducible rfl
        rotate_left
        ·simp only [aq_]
         rfl
        refine pure_ (i := 6) (N := some 21) (v := ?_) (a' := ?_) q130_6 rfl rfl (any_of HT_.out (by kernel_rfl)) (fun _ _ _ h => h) (Or.inl ⟨by rfl, ?_⟩) ?_ ?_
        rotate_left
        ·intro w'
         go_simp
         with_reducible rfl
        rotate_left
        ·simp only [aq_]
         rfl
        refine pure_ (i := 7) (N := some 22) (v := ?_) (a' := ?_) q130_7 rfl rfl (any_of HT_.out (by kernel_rfl)) (fun _ _ _ h => h) (Or.inl ⟨by rfl, ?_⟩) ?_ ?_
        rotate_left
        ·intro w'
         go_simp
         with_reducible rfl
        rotate_left
        ·simp only [aq_]
         rfl
        refine pure_ (i := 8) (N := some 23) (v := ?_) (a' := ?_) q130_8 rfl rfl (any_of HT_.out (by kernel_rfl)) (fun _ _ _ h => h) (Or.inl ⟨by rfl, ?_⟩) ?_ ?_
        rotate_left
        ·intro w'
         go_simp
         with_reducible rfl
        rotate_left
        ·simp only [aq_]
         rfl
        refine pure_ (i := 9) (N := some 24) (v := ?_) (a' := ?_) q130_9 rfl rfl (any_of HT_.out (by kernel_rfl)) (fun _ _ _ h => h) (Or.inl ⟨by rfl, ?_⟩) ?_ ?_
        rotate_left
        ·intro w'
         go_simp
         with_reducible rfl
        rotate_left
        ·simp only [aq_]
         rfl
        refine take_ (i := 5) (N := some 20) (v := ?_) (a' := ?_) q130_10 rfl rfl (take_ofW HT_.out HW_.out (by kernel_rfl)) (fun _ _ _ h => h) (Or.inl ⟨by rfl, ?_⟩) hHeld ?_ ?_
        rotate_left
        ·rintro w' ⟨s0, s1⟩
         go_simp
         with_reducible rfl
        rotate_left
        ·simp only [aq_]
         rfl
        refine take_ (i := 10) (N := some 25) (v := ?_) (a' := ?_) q130_11 rfl rfl (take_ofW HT_.out HW_.out (by kernel_rfl)) (fun _ _ _ h => h) (Or.inl ⟨by rfl, ?_⟩) hHeld ?_ ?_
        rotate_left
        ·rintro w' ⟨s0, s1⟩
         go_simp
         with_reducible rfl
        rotate_left
        ·simp only [aq_]
         rfl
        refine one_ (i := 11) (N := some 26) q130_12 rfl rfl (one_of HT_.out (by kernel_rfl)) (by decide) (fun K hK => ?_)
        refine goes_ Try.func209 (by kernel_rfl) rfl #[.slice A0 l0.length c0, .int .i64 a2, .int .i64 (rd l1 x7_1), .int .i64 (rd l1 (ji7))] (by rfl) rfl rfl (by (try simp only [List.map_toArray, List.map_cons, List.map_nil]); first | done | (simp only [hji7]; rfl) | rfl | (simp only [List.length_drop, List.length_take]; rfl)) ?_
        with_reducible refine (spec_l3Gap.calls _ _ l0 a2 (rd l1 x7_1) (rd l1 (ji7)) t1048 _ ?side1 ?side2 A9.out).mono ?_
        (case side1 => repeat (first | exact (Kd.C_below HR0.out HB.out) | (with_reducible refine Kd.C_alloc ?_ _) | (with_reducible refine Kd.C_drewN ?_ _) | (with_reducible refine Kd.C_drew ?_)))
        (case side2 => exact HC0.out)
        rintro e w14 ⟨rfl, hb⟩
        refine ⟨_, rfl, ?_⟩
        have n0_ := Aside0.mk (below_step (by repeat (first | (with_reducible first | exact HB.out | apply below_alloc | apply pw_below_drewN | apply below_drew1) | exact HB.out)) hb)
        clear HB
        have HB := n0_
        clear n0_
        (try clear hb)
        (try clear hb2)
        (try clear hk)
        (try clear hi)
        refine hK.out _ _ ⟨(bcl_ HB.out hw1046_0), (bcl_ HB.out hw1047_0)⟩ (fun hHeld => ?_)
        clear hK K
        refine norm_ (a' := ?_) ?_ ?_
        rotate_left
        ·show Act.put _ (some 26) _ = _
         simp only [aq_]
         rfl
        refine pure_ (i := 12) (N := some 27) (v := ?_) (a' := ?_) q130_13 rfl rfl (any_of HT_.out (by kernel_rfl)) (fun _ _ _ h => h) (Or.inl ⟨by rfl, ?_⟩) ?_ ?_
        rotate_left
        ·intro w'
         go_simp
         with_reducible rfl
        rotate_left
        ·simp only [aq_]
         rfl
        refine done_ (done_of HT_.out (by kernel_rfl)) ?_
        try go_wp2
        go_roundg k1
        case measure => have := HK1.out; omega
        case rel => exact ⟨(ji7), (by first | rfl | (simp; done) | (simp only [← hji7] <;> (first | rfl | simp)) | (simp [*]; done)), H', ⟨by have := HK1.out; omega⟩, ⟨by repeat (first | (with_reducible first | exact HB.out | apply below_alloc | apply pw_below_drewN | apply below_drew1) | exact HB.out)⟩⟩
      ·rw [if_neg c8] at H
       exact absurd H (by simp)
     ·rw [if_neg c6] at H
      exact absurd H (by simp)
    ·rw [if_neg c5] at H
     exact absurd H (by simp)
   ·rw [if_neg c4] at H
    have c4b0 : decide ((wrap64 (x7_1 + 1)) < (l1.length : Int)) = false := decide_eq_false c4
    clear c4
    obtain rfl := Option.some.inj H
    go_wp2
    go_ret
    exact ⟨by first | rfl | (simp [errW_none, errW_some] <;> rfl) | (simp [*, errW_none, errW_some] <;> rfl), by repeat (first | (with_reducible first | exact HB.out | apply below_alloc | apply pw_below_drewN | apply below_drew1) | exact HB.out)⟩

/-! ### spec_SortingExchanges: function 55 -/
def spec_SortingExchanges.l0 : Nat → List (S127) → Int → List Int → List Int → Int → Option (List Int × List Int × Bool)
 | 0, _, _, _, _, _ => none
 | k + 1, x0, x2, x9, x10, x11 => if x11 ≥ 0 then (if x9.length < 17592186044416 then ((spec_l2Swap.f x10 x11).bind fun t1070 => ((spec_l3Wrong.f k x0 t1070 x2).bind fun t1073 => (spec_SortingExchanges.l0 k x0 x2 (x9 ++ [x11]) t1070 t1073))) else (none)) else (some (x9, x10, true))
def spec_SortingExchanges.f (k : Nat) (l0 : List (S127)) (l1 : List Int) (a2 : Int) : Option (List Int × List Int × Bool) := (some (([] : List Int) : List Int)).bind fun y1056 => ((spec_l3Both.f k l0 l1 a2).bind fun t1059 => (if t1059 = true then ((spec_l1Own.f l1).bind fun t1063 => ((spec_l3Wrong.f k l0 t1063 a2).bind fun t1066 => (spec_SortingExchanges.l0 k l0 a2 y1056 t1063 t1066))) else (some (y1056, (([] : List Int)), false))))
theorem spec_SortingExchanges.mono_l : ∀ k, (∀ y0 y1 y2 y3 y4, LeO (spec_SortingExchanges.l0 k y0 y1 y2 y3 y4) (spec_SortingExchanges.l0 (k + 1) y0 y1 y2 y3 y4))
 | 0 => fun _ _ _ _ _ r h => by simp [spec_SortingExchanges.l0] at h
 | k + 1 => by
  have ih0 := spec_SortingExchanges.mono_l k
  ·intro y0 y1 y2 y3 y4
   unfold spec_SortingExchanges.l0
   repeat' first
   | (with_reducible exact ih0 _ _ _ _ _)
   | (with_reducible exact spec_l3Both.mono _ _ _ _)
   | (with_reducible exact spec_l3Wrong.mono _ _ _ _)
   | (with_reducible exact LeO.refl _)
   | (with_reducible exact LeO.none _)
   | (with_reducible refine LeO.ite ?_ ?_)
   | (with_reducible refine LeO.bind ?_ (fun _ => ?_))
   | exact ih0 _ _ _ _ _
   | exact spec_l3Both.mono _ _ _ _
   | exact spec_l3Wrong.mono _ _ _ _
   | exact LeO.none _
   | refine LeO.ite ?_ ?_
   | refine LeO.bind ?_ (fun _ => ?_)
theorem spec_SortingExchanges.mono : ∀ a0 a1 a2 k, LeO (spec_SortingExchanges.f k a0 a1 a2) (spec_SortingExchanges.f (k + 1) a0 a1 a2) := by
 intro a0 a1 a2 k
 have ih0 := spec_SortingExchanges.mono_l k
 unfold spec_SortingExchanges.f
 repeat' first
   | (with_reducible exact ih0 _ _ _ _ _)
   | (with_reducible exact spec_l3Both.mono _ _ _ _)
   | (with_reducible exact spec_l3Wrong.mono _ _ _ _)
   | (with_reducible exact LeO.refl _)
   | (with_reducible exact LeO.none _)
   | (with_reducible refine LeO.ite ?_ ?_)
   | (with_reducible refine LeO.bind ?_ (fun _ => ?_))
   | exact ih0 _ _ _ _ _
   | exact spec_l3Both.mono _ _ _ _
   | exact spec_l3Wrong.mono _ _ _ _
   | exact LeO.none _
   | refine LeO.ite ?_ ?_
   | refine LeO.bind ?_ (fun _ => ?_)
set_option maxHeartbeats 8000000 in
set_option maxRecDepth 100000 in
theorem spec_SortingExchanges.calls (k : Nat) (A0 : Option Addr) (c0 : Nat) (l0 : List (S127)) (A1 : Option Addr) (c1 : Nat) (l1 : List Int) (a2 : Int) (r1 : List Int) (r2 : List Int) (r3 : Bool) (w : World) (hr0 : Kd.C k127 w A0 l0.length l0) (hc0 : l0.length ≤ c0) (hr1 : Kd.C (Kd.int .i64) w A1 l1.length l1) (hc1 : l1.length ≤ c1) (h : spec_SortingExchanges.f k l0 l1 a2 = some (r1, r2, r3)) :
  Calls Try.prog 55 #[.slice A0 l0.length c0, .slice A1 l1.length c1, .int .i64 a2] w fun e w' => ∃ v0_ v1_ : Value, e = .returned (.tuple #[v0_, v1_, .bool r3]) ∧ Kd.R (Kd.int .i64) 3 w' w.heap.size (fun k_ => some k_ ≠ (v1_ : Value).ownBlock) v0_ r1 ∧ Kd.R (Kd.int .i64) 3 w' w.heap.size (fun k_ => some k_ ≠ (v0_ : Value).ownBlock) v1_ r2 ∧ Below w.heap.size w w' := by
 have HR0 := Aside0.mk hr0
 have HC0 := Aside0.mk hc0
 clear hr0 hc0
 have HR1 := Aside0.mk hr1
 have HC1 := Aside0.mk hc1
 clear hr1 hc1
 have HB := Aside0.mk (Below.refl w.heap.size w)
 have H : ((some (([] : List Int) : List Int)).bind fun y1056 => ((spec_l3Both.f k l0 l1 a2).bind fun t1059 => (if t1059 = true then ((spec_l1Own.f l1).bind fun t1063 => ((spec_l3Wrong.f k l0 t1063 a2).bind fun t1066 => (spec_SortingExchanges.l0 k l0 a2 y1056 t1063 t1066))) else (some (y1056, (([] : List Int)), false))))) = some (r1, r2, r3) := h
 clear h
 obtain ⟨y1056, hy1056⟩ : ∃ y_ : List Int, y_ = (([] : List Int)) := ⟨_, rfl⟩
 replace H : ((spec_l3Both.f k l0 l1 a2).bind fun t1059 => (if t1059 = true then ((spec_l1Own.f l1).bind fun t1063 => ((spec_l3Wrong.f k l0 t1063 a2).bind fun t1066 => (spec_SortingExchanges.l0 k l0 a2 y1056 t1063 t1066))) else (some (y1056, (([] : List Int)), false)))) = some (r1, r2, r3) := by first | (rw [hy1056]; with_reducible exact H) | (have H2_ := (Option.bind_some _ _).symm.trans H; rw [hy1056]; with_reducible exact H2_) | (have H2_ := (Option.bind_some _ _).symm.trans H; with_reducible exact H2_) | with_reducible exact H | (rw [hy1056]; exact H) | exact H
 have Ny1056 := Aside0.mk hy1056
 clear hy1056
 replace H := Option.bind_eq_some_iff.mp H
 obtain ⟨t1059, A40, H⟩ := H
 replace H : (if t1059 = true then ((spec_l1Own.f l1).bind fun t1063 => ((spec_l3Wrong.f k l0 t1063 a2).bind fun t1066 => (spec_SortingExchanges.l0 k l0 a2 y1056 t1063 t1066))) else (some (y1056, (([] : List Int)), false))) = some (r1, r2, r3) := H
 have A4 := Aside0.mk A40
 clear A40
 by_cases c5 : t1059 = true
 ·subst c5
  have H1 : ((spec_l1Own.f l1).bind fun t1063 => ((spec_l3Wrong.f k l0 t1063 a2).bind fun t1066 => (spec_SortingExchanges.l0 k l0 a2 y1056 t1063 t1066))) = some (r1, r2, r3) := by rw [if_pos rfl] at H; exact H
  clear H
  have H := H1
  clear H1
  replace H := Option.bind_eq_some_iff.mp H
  obtain ⟨t1063, A60, H⟩ := H
  replace H : ((spec_l3Wrong.f k l0 t1063 a2).bind fun t1066 => (spec_SortingExchanges.l0 k l0 a2 y1056 t1063 t1066)) = some (r1, r2, r3) := H
  have A6 := Aside0.mk A60
  clear A60
  replace H := Option.bind_eq_some_iff.mp H
  obtain ⟨t1066, A70, H⟩ := H
  replace H : (spec_SortingExchanges.l0 k l0 a2 y1056 t1063 t1066) = some (r1, r2, r3) := H
  have A7 := Aside0.mk A70
  clear A70
  have H' := Aside0.mk H
  clear H
  go_enter Try.func55, Try.ntmps55
  go_wp2_with (first | ((with_reducible refine gate_dst (N := 12) rfl ?_); refine Kd.R_lit (Kd.int .i64) _ 3 ?hg (N := 12) ?hd (xs := ([] : List Int)) (inner := []) (ok := fun _ => True) (okp := fun _ => True) ?hr ?hp (fun _ hk => hk) trivial (Below.refl _ _) (Nat.le_refl _) (by simp) ?_; (case hd => rfl); (case hg => rfl); (case hr => first | (go_simp; done) | (go_simp; rfl)); (case hp => exact (Reps.none _ _)); intro v1057 w8 ho9 hb hg_ hnew_; clear hg_ hnew_; (first | rw [← Ny1056.out] at ho9 | (simp only [Int.reduceToNat] at ho9; rw [← Ny1056.out] at ho9)); have n0_ := Aside0.mk (Kd.R_lower ho9 (below_size (by repeat (first | (with_reducible first | exact HB.out | apply below_alloc | apply pw_below_drewN | apply below_drew1) | exact HB.out)))); have n1_ := Aside0.mk (below_step (by repeat (first | (with_reducible first | exact HB.out | apply below_alloc | apply pw_below_drewN | apply below_drew1) | exact HB.out)) hb); clear HB; have HO1058 := n0_; have HB := n1_; clear n0_ n1_; clear hb ho9) | ((with_reducible refine gate_callee (f := 128) rfl ?_); refine goesL_ (some 16) rfl rfl Try.func128 (by kernel_rfl) rfl #[.slice A0 l0.length c0, .slice A1 l1.length c1, .int .i64 a2] rfl (by (try simp only [List.map_toArray, List.map_cons, List.map_nil]); first | done | rfl | (simp only [List.length_drop, List.length_take]; rfl)) ?_; (with_reducible refine (spec_l3Both.calls k _ _ l0 _ _ l1 a2 true _ ?side1 ?side2 ?side3 ?side4 A4.out).mono ?_); (case side1 => repeat (first | exact (Kd.C_below HR0.out HB.out) | (with_reducible refine Kd.C_alloc ?_ _) | (with_reducible refine Kd.C_drewN ?_ _) | (with_reducible refine Kd.C_drew ?_))); (case side2 => exact HC0.out); (case side3 => repeat (first | exact (Kd.C_below HR1.out HB.out) | (with_reducible refine Kd.C_alloc ?_ _) | (with_reducible refine Kd.C_drewN ?_ _) | (with_reducible refine Kd.C_drew ?_))); (case side4 => exact HC1.out); rintro e w10 ⟨rfl, hb⟩; refine ⟨_, rfl, ?_⟩; have n0_ := Aside0.mk (Kd.R_below (by (with_reducible repeat (first | apply Kd.R_alloc | apply Kd.R_drewN | apply Kd.R_drew)); exact HO1058.out) hb); have n1_ := Aside0.mk (below_step (by repeat (first | (with_reducible first | exact HB.out | apply below_alloc | apply pw_below_drewN | apply below_drew1) | exact HB.out)) hb); clear HO1058; clear HB; have HO1058 := n0_; have HB := n1_; clear n0_ n1_; (try clear hb); (try clear hb2); (try clear hk); (try clear hi)) | ((with_reducible refine gate_callee (f := 129) rfl ?_); refine goesL_ (some 21) rfl rfl Try.func129 (by kernel_rfl) rfl #[.slice A1 l1.length c1] rfl (by (try simp only [List.map_toArray, List.map_cons, List.map_nil]); first | done | rfl | (simp only [List.length_drop, List.length_take]; rfl)) ?_; (with_reducible refine (spec_l1Own.calls _ _ l1 t1063 _ ?side1 ?side2 A6.out).mono ?_); (case side1 => repeat (first | exact (Kd.C_below HR1.out HB.out) | (with_reducible refine Kd.C_alloc ?_ _) | (with_reducible refine Kd.C_drewN ?_ _) | (with_reducible refine Kd.C_drew ?_))); (case side2 => exact HC1.out); rintro e w11 ⟨v1064, rfl, ho0, hb⟩; refine ⟨_, rfl, ?_⟩; have n0_ := Aside0.mk (Kd.R_elder' (by (with_reducible repeat (first | apply Kd.R_alloc | apply Kd.R_drewN | apply Kd.R_drew)); exact HO1058.out) (Kd.R_base ho0) hb); have n1_ := Aside0.mk (Kd.R_lower (Kd.R_new' ho0 (Kd.R_lt (by (with_reducible repeat (first | apply Kd.R_alloc | apply Kd.R_drewN | apply Kd.R_drew)); exact HO1058.out))) (below_size (by repeat (first | (with_reducible first | exact HB.out | apply below_alloc | apply pw_below_drewN | apply below_drew1) | exact HB.out)))); have n2_ := Aside0.mk (below_step (by repeat (first | (with_reducible first | exact HB.out | apply below_alloc | apply pw_below_drewN | apply below_drew1) | exact HB.out)) hb); clear HO1058; clear HB; have HO1058 := n0_; have HO1065 := n1_; have HB := n2_; clear n0_ n1_ n2_; (try clear hb); (try clear hb2); (try clear hk); (try clear hi); (try clear ho0); obtain ⟨Ao12, co12, eo12⟩ := Kd.R_slice HO1065.out; subst eo12) | ((with_reducible refine gate_callee (f := 130) rfl ?_); refine goesL_ (some 25) rfl rfl Try.func130 (by kernel_rfl) rfl #[.slice A0 l0.length c0, .slice Ao12 t1063.length co12, .int .i64 a2] rfl (by (try simp only [List.map_toArray, List.map_cons, List.map_nil]); first | done | rfl | (simp only [List.length_drop, List.length_take]; rfl)) ?_; (with_reducible refine (spec_l3Wrong.calls k _ _ l0 _ _ t1063 a2 t1066 _ ?side1 ?side2 ?side3 ?side4 A7.out).mono ?_); (case side1 => repeat (first | exact (Kd.C_below HR0.out HB.out) | (with_reducible refine Kd.C_alloc ?_ _) | (with_reducible refine Kd.C_drewN ?_ _) | (with_reducible refine Kd.C_drew ?_))); (case side2 => exact HC0.out); (case side3 => repeat (first | exact (Kd.R_reads' HO1065.out).2.2 | (with_reducible refine Kd.C_alloc ?_ _) | (with_reducible refine Kd.C_drewN ?_ _) | (with_reducible refine Kd.C_drew ?_))); (case side4 => exact (Kd.R_reads' HO1065.out).2.1); rintro e w13 ⟨rfl, hb⟩; refine ⟨_, rfl, ?_⟩; have n0_ := Aside0.mk (Kd.R_below (by (with_reducible repeat (first | apply Kd.R_alloc | apply Kd.R_drewN | apply Kd.R_drew)); exact HO1058.out) hb); have n1_ := Aside0.mk (Kd.R_below (by (with_reducible repeat (first | apply Kd.R_alloc | apply Kd.R_drewN | apply Kd.R_drew)); exact HO1065.out) hb); have n2_ := Aside0.mk (below_step (by repeat (first | (with_reducible first | exact HB.out | apply below_alloc | apply pw_below_drewN | apply below_drew1) | exact HB.out)) hb); clear HO1058; clear HO1065; clear HB; have HO1058 := n0_; have HO1065 := n1_; have HB := n2_; clear n0_ n1_ n2_; (try clear hb); (try clear hb2); (try clear hk); (try clear hi)))
  go_loopg [9, 10, 11] k (fun kq v9 v10 v11 w' => ∃ (x9_1 : List Int) (x10_1 : List Int) (x11_1 : Int), v11 = .int .i64 x11_1 ∧ Aside0 (spec_SortingExchanges.l0 kq l0 a2 x9_1 x10_1 x11_1 = some (r1, r2, r3)) ∧ Aside0 (kq ≤ k) ∧ Aside0 (Kd.R (Kd.int .i64) 3 w' w.heap.size (fun k_ => some k_ ≠ (v10 : Value).ownBlock) v9 x9_1) ∧ Aside0 (Kd.R (Kd.int .i64) 3 w' w.heap.size (fun k_ => some k_ ≠ (v9 : Value).ownBlock) v10 x10_1) ∧ Aside0 (Below w.heap.size w w'))
  case atStart => exact ⟨(y1056), (t1063), (t1066), (by first | rfl | (simp; done) | (simp [*]; done)), H', ⟨Nat.le_refl _⟩, ⟨by (with_reducible repeat (first | apply Kd.R_alloc | apply Kd.R_drewN | apply Kd.R_drew)); exact Kd.R_mono HO1058.out (fun _ hk => hk.2)⟩, ⟨by (with_reducible repeat (first | apply Kd.R_alloc | apply Kd.R_drewN | apply Kd.R_drew)); exact Kd.R_mono HO1065.out (fun _ hk => hk.2)⟩, ⟨by repeat (first | (with_reducible first | exact HB.out | apply below_alloc | apply pw_below_drewN | apply below_drew1) | exact HB.out)⟩⟩
  case round =>
   clear H'
   try clear c1
   try clear p2
   try clear c5
   try clear c12
   try clear c13
   obtain ⟨x9_1, x10_1, x11_1, rfl, HA, HK1, HO_9, HO_10, HB⟩ := hrel
   cases gk with
   | zero => exact absurd HA.out (by simp [spec_SortingExchanges.l0])
   | succ k1 =>
    have H := HA.out
    clear HA
    simp only [spec_SortingExchanges.l0] at H
    by_cases c14 : x11_1 ≥ 0
    ·rw [if_pos c14] at H
     have c14b0 : decide (0 ≤ x11_1) = true := decide_eq_true c14
     clear c14
     by_cases c15 : x9_1.length < 17592186044416
     ·rw [if_pos c15] at H
      have LMc15 := Aside0.mk c15
      clear c15
      obtain ⟨y1067, hy1067⟩ : ∃ y_ : List Int, y_ = (x9_1 ++ [x11_1]) := ⟨_, rfl⟩
      replace H : ((spec_l2Swap.f x10_1 x11_1).bind fun t1070 => ((spec_l3Wrong.f k1 l0 t1070 a2).bind fun t1073 => (spec_SortingExchanges.l0 k1 l0 a2 y1067 t1070 t1073))) = some (r1, r2, r3) := by first | (rw [hy1067]; with_reducible exact H) | (have H2_ := (Option.bind_some _ _).symm.trans H; rw [hy1067]; with_reducible exact H2_) | (have H2_ := (Option.bind_some _ _).symm.trans H; with_reducible exact H2_) | with_reducible exact H | (rw [hy1067]; exact H) | exact H
      have Ny1067 := Aside0.mk hy1067
      clear hy1067
      replace H := Option.bind_eq_some_iff.mp H
      obtain ⟨t1070, A160, H⟩ := H
      replace H : ((spec_l3Wrong.f k1 l0 t1070 a2).bind fun t1073 => (spec_SortingExchanges.l0 k1 l0 a2 y1067 t1070 t1073)) = some (r1, r2, r3) := H
      have A16 := Aside0.mk A160
      clear A160
      replace H := Option.bind_eq_some_iff.mp H
      obtain ⟨t1073, A170, H⟩ := H
      replace H : (spec_SortingExchanges.l0 k1 l0 a2 y1067 t1070 t1073) = some (r1, r2, r3) := H
      have A17 := Aside0.mk A170
      clear A170
      have H' := Aside0.mk H
      clear H
      go_wp2_with (first | ((with_reducible refine gate_builtin (b := .append) (xs := #[.tmp 32, .tmp 34]) rfl ?_); at_builtin; refine Kd.R_append (Kd.int .i64) (w0 := w) w.heap.size rfl (.tmp 32) (.tmp 34) 26 3 (.int .i64 0) 8 rfl Try.underlying26 info3 rfl (by decide) (by omega) u9 x9_1 x11_1 [.int .i64 x11_1] (fun k_ => some k_ ≠ (u10 : Value).ownBlock) (fun _ => False) rfl rfl ?aP (fun _ hk => hk.elim) ?aF ?aO ?aB ?aS ?aL ?_; (case aP => exact rfl); (case aB => exact (by repeat (first | (with_reducible first | exact HB.out | apply below_alloc | apply pw_below_drewN | apply below_drew1) | exact HB.out))); (case aF => exact (fun k_ hk => Kd.fresh' (Kd.R_lt (by (with_reducible repeat (first | apply Kd.R_alloc | apply Kd.R_drewN | apply Kd.R_drew)); exact HO_10.out)) k_ hk)); (case aO => exact (by (with_reducible repeat (first | apply Kd.R_alloc | apply Kd.R_drewN | apply Kd.R_drew)); exact HO_9.out)); (case aS => exact (below_size (by repeat (first | (with_reducible first | exact HB.out | apply below_alloc | apply pw_below_drewN | apply below_drew1) | exact HB.out)))); (case aL => have := LMc15.out; omega); intro v1068 w18 ho hb hg hat; rw [← Ny1067.out] at ho; have n0_ := Aside0.mk (Kd.R_after (ok := (fun _ => True)) (by (with_reducible repeat (first | apply Kd.R_alloc | apply Kd.R_drewN | apply Kd.R_drew)); exact Kd.R_mono HO_10.out (fun _ hk => ⟨trivial, hk⟩)) hg hat); have n1_ := Aside0.mk (hb); have n2_ := Aside0.mk (ho); clear HO_10; clear HB; clear HO_9; have HO_10 := n0_; have HB := n1_; have HO1069 := n2_; clear n0_ n1_ n2_; clear ho hb hg hat; obtain ⟨Ao19, co19, eo19⟩ := Kd.R_slice HO_10.out; subst eo19) | ((with_reducible refine gate_callee (f := 131) rfl ?_); refine goesL_ (some 38) rfl rfl Try.func131 (by kernel_rfl) rfl #[.slice Ao19 x10_1.length co19, .int .i64 x11_1] rfl (by (try simp only [List.map_toArray, List.map_cons, List.map_nil]); first | done | rfl | (simp only [List.length_drop, List.length_take]; rfl)) ?_; (with_reducible refine (spec_l2Swap.calls _ _ x10_1 x11_1 t1070 _ ?side1 ?side2 A16.out).mono ?_); (case side1 => repeat (first | exact (Kd.R_reads' HO_10.out).2.2 | (with_reducible refine Kd.C_alloc ?_ _) | (with_reducible refine Kd.C_drewN ?_ _) | (with_reducible refine Kd.C_drew ?_))); (case side2 => exact (Kd.R_reads' HO_10.out).2.1); rintro e w20 ⟨v1071, rfl, ho0, hb⟩; refine ⟨_, rfl, ?_⟩; have n0_ := Aside0.mk (Kd.R_elder' (by (with_reducible repeat (first | apply Kd.R_alloc | apply Kd.R_drewN | apply Kd.R_drew)); exact HO_10.out) (Kd.R_base ho0) hb); have n1_ := Aside0.mk (Kd.R_elder' (by (with_reducible repeat (first | apply Kd.R_alloc | apply Kd.R_drewN | apply Kd.R_drew)); exact HO1069.out) (Kd.R_base ho0) hb); have n2_ := Aside0.mk (Kd.R_lower (Kd.R_new' (Kd.R_new' ho0 (Kd.R_lt (by (with_reducible repeat (first | apply Kd.R_alloc | apply Kd.R_drewN | apply Kd.R_drew)); exact HO_10.out))) (Kd.R_lt (by (with_reducible repeat (first | apply Kd.R_alloc | apply Kd.R_drewN | apply Kd.R_drew)); exact HO1069.out))) (below_size (by repeat (first | (with_reducible first | exact HB.out | apply below_alloc | apply pw_below_drewN | apply below_drew1) | exact HB.out)))); have n3_ := Aside0.mk (below_step (by repeat (first | (with_reducible first | exact HB.out | apply below_alloc | apply pw_below_drewN | apply below_drew1) | exact HB.out)) hb); clear HO_10; clear HO1069; clear HB; have HO_10 := n0_; have HO1069 := n1_; have HO1072 := n2_; have HB := n3_; clear n0_ n1_ n2_ n3_; (try clear hb); (try clear hb2); (try clear hk); (try clear hi); (try clear ho0); obtain ⟨Ao21, co21, eo21⟩ := Kd.R_slice HO1072.out; subst eo21) | ((with_reducible refine gate_callee (f := 130) rfl ?_); refine goesL_ (some 31) rfl rfl Try.func130 (by kernel_rfl) rfl #[.slice A0 l0.length c0, .slice Ao21 t1070.length co21, .int .i64 a2] rfl (by (try simp only [List.map_toArray, List.map_cons, List.map_nil]); first | done | rfl | (simp only [List.length_drop, List.length_take]; rfl)) ?_; (with_reducible refine (spec_l3Wrong.calls k1 _ _ l0 _ _ t1070 a2 t1073 _ ?side1 ?side2 ?side3 ?side4 A17.out).mono ?_); (case side1 => repeat (first | exact (Kd.C_below HR0.out HB.out) | (with_reducible refine Kd.C_alloc ?_ _) | (with_reducible refine Kd.C_drewN ?_ _) | (with_reducible refine Kd.C_drew ?_))); (case side2 => exact HC0.out); (case side3 => repeat (first | exact (Kd.R_reads' HO1072.out).2.2 | (with_reducible refine Kd.C_alloc ?_ _) | (with_reducible refine Kd.C_drewN ?_ _) | (with_reducible refine Kd.C_drew ?_))); (case side4 => exact (Kd.R_reads' HO1072.out).2.1); rintro e w22 ⟨rfl, hb⟩; refine ⟨_, rfl, ?_⟩; have n0_ := Aside0.mk (Kd.R_below (by (with_reducible repeat (first | apply Kd.R_alloc | apply Kd.R_drewN | apply Kd.R_drew)); exact HO_10.out) hb); have n1_ := Aside0.mk (Kd.R_below (by (with_reducible repeat (first | apply Kd.R_alloc | apply Kd.R_drewN | apply Kd.R_drew)); exact HO1069.out) hb); have n2_ := Aside0.mk (Kd.R_below (by (with_reducible repeat (first | apply Kd.R_alloc | apply Kd.R_drewN | apply Kd.R_drew)); exact HO1072.out) hb); have n3_ := Aside0.mk (below_step (by repeat (first | (with_reducible first | exact HB.out | apply below_alloc | apply pw_below_drewN | apply below_drew1) | exact HB.out)) hb); clear HO_10; clear HO1069; clear HO1072; clear HB; have HO_10 := n0_; have HO1069 := n1_; have HO1072 := n2_; have HB := n3_; clear n0_ n1_ n2_ n3_; (try clear hb); (try clear hb2); (try clear hk); (try clear hi)))
      go_roundg k1
      case measure => have := HK1.out; omega
      case rel => exact ⟨(y1067), (t1070), (t1073), (by first | rfl | (simp; done) | (simp [*]; done)), H', ⟨by have := HK1.out; omega⟩, ⟨by (with_reducible repeat (first | apply Kd.R_alloc | apply Kd.R_drewN | apply Kd.R_drew)); exact Kd.R_mono HO1069.out (fun _ hk => hk.2)⟩, ⟨by (with_reducible repeat (first | apply Kd.R_alloc | apply Kd.R_drewN | apply Kd.R_drew)); exact Kd.R_mono HO1072.out (fun _ hk => hk.2)⟩, ⟨by repeat (first | (with_reducible first | exact HB.out | apply below_alloc | apply pw_below_drewN | apply below_drew1) | exact HB.out)⟩⟩
     ·rw [if_neg c15] at H
      exact absurd H (by simp)
    ·rw [if_neg c14] at H
     have c14b0 : decide (0 ≤ x11_1) = false := decide_eq_false c14
     clear c14
     simp only [Option.some.injEq, Prod.mk.injEq] at H
     obtain ⟨rfl, rfl, rfl⟩ := H
     go_wp2
     go_ret3
     exact ⟨_, _, by first | rfl | (simp [errW_none, errW_some] <;> rfl) | (simp [*, errW_none, errW_some] <;> rfl), by (with_reducible repeat (first | apply Kd.R_alloc | apply Kd.R_drewN | apply Kd.R_drew)); exact HO_9.out, by (with_reducible repeat (first | apply Kd.R_alloc | apply Kd.R_drewN | apply Kd.R_drew)); exact HO_10.out, by repeat (first | (with_reducible first | exact HB.out | apply below_alloc | apply pw_below_drewN | apply below_drew1) | exact HB.out)⟩
 ·replace c5 := Bool.eq_false_iff.mpr c5
  subst c5
  have H1 : (some (y1056, (([] : List Int)), false)) = some (r1, r2, r3) := by rw [if_neg (show ¬ (false = true) by decide)] at H; exact H
  clear H
  have H := H1
  clear H1
  obtain ⟨y1060, hy1060⟩ : ∃ y_ : List Int, y_ = (([] : List Int)) := ⟨_, rfl⟩
  replace H : (some (y1056, y1060, false)) = some (r1, r2, r3) := by first | (rw [hy1060]; with_reducible exact H) | (have H2_ := (Option.bind_some _ _).symm.trans H; rw [hy1060]; with_reducible exact H2_) | (have H2_ := (Option.bind_some _ _).symm.trans H; with_reducible exact H2_) | with_reducible exact H | (rw [hy1060]; exact H) | exact H
  have Ny1060 := Aside0.mk hy1060
  clear hy1060
  simp only [Option.some.injEq, Prod.mk.injEq] at H
  obtain ⟨rfl, rfl, rfl⟩ := H
  go_enter Try.func55, Try.ntmps55
  go_wp2_with (first | ((with_reducible refine gate_dst (N := 12) rfl ?_); refine Kd.R_lit (Kd.int .i64) _ 3 ?hg (N := 12) ?hd (xs := ([] : List Int)) (inner := []) (ok := fun _ => True) (okp := fun _ => True) ?hr ?hp (fun _ hk => hk) trivial (Below.refl _ _) (Nat.le_refl _) (by simp) ?_; (case hd => rfl); (case hg => rfl); (case hr => first | (go_simp; done) | (go_simp; rfl)); (case hp => exact (Reps.none _ _)); intro v1057 w23 ho24 hb hg_ hnew_; clear hg_ hnew_; (first | rw [← Ny1056.out] at ho24 | (simp only [Int.reduceToNat] at ho24; rw [← Ny1056.out] at ho24)); have n0_ := Aside0.mk (Kd.R_lower ho24 (below_size (by repeat (first | (with_reducible first | exact HB.out | apply below_alloc | apply pw_below_drewN | apply below_drew1) | exact HB.out)))); have n1_ := Aside0.mk (below_step (by repeat (first | (with_reducible first | exact HB.out | apply below_alloc | apply pw_below_drewN | apply below_drew1) | exact HB.out)) hb); clear HB; have HO1058 := n0_; have HB := n1_; clear n0_ n1_; clear hb ho24) | ((with_reducible refine gate_callee (f := 128) rfl ?_); refine goesL_ (some 16) rfl rfl Try.func128 (by kernel_rfl) rfl #[.slice A0 l0.length c0, .slice A1 l1.length c1, .int .i64 a2] rfl (by (try simp only [List.map_toArray, List.map_cons, List.map_nil]); first | done | rfl | (simp only [List.length_drop, List.length_take]; rfl)) ?_; (with_reducible refine (spec_l3Both.calls k _ _ l0 _ _ l1 a2 false _ ?side1 ?side2 ?side3 ?side4 A4.out).mono ?_); (case side1 => repeat (first | exact (Kd.C_below HR0.out HB.out) | (with_reducible refine Kd.C_alloc ?_ _) | (with_reducible refine Kd.C_drewN ?_ _) | (with_reducible refine Kd.C_drew ?_))); (case side2 => exact HC0.out); (case side3 => repeat (first | exact (Kd.C_below HR1.out HB.out) | (with_reducible refine Kd.C_alloc ?_ _) | (with_reducible refine Kd.C_drewN ?_ _) | (with_reducible refine Kd.C_drew ?_))); (case side4 => exact HC1.out); rintro e w25 ⟨rfl, hb⟩; refine ⟨_, rfl, ?_⟩; have n0_ := Aside0.mk (Kd.R_below (by (with_reducible repeat (first | apply Kd.R_alloc | apply Kd.R_drewN | apply Kd.R_drew)); exact HO1058.out) hb); have n1_ := Aside0.mk (below_step (by repeat (first | (with_reducible first | exact HB.out | apply below_alloc | apply pw_below_drewN | apply below_drew1) | exact HB.out)) hb); clear HO1058; clear HB; have HO1058 := n0_; have HB := n1_; clear n0_ n1_; (try clear hb); (try clear hb2); (try clear hk); (try clear hi)) | ((with_reducible refine gate_dst (N := 19) rfl ?_); refine Kd.R_lit (Kd.int .i64) _ 3 ?hg (N := 19) ?hd (xs := ([] : List Int)) (inner := []) (ok := fun _ => True) (okp := fun _ => True) ?hr ?hp (fun _ hk => hk) trivial (Below.refl _ _) (Nat.le_refl _) (by simp) ?_; (case hd => rfl); (case hg => rfl); (case hr => first | (go_simp; done) | (go_simp; rfl)); (case hp => exact (Reps.none _ _)); intro v1061 w26 ho27 hb hg_ hnew_; clear hg_ hnew_; (first | rw [← Ny1060.out] at ho27 | (simp only [Int.reduceToNat] at ho27; rw [← Ny1060.out] at ho27)); have n0_ := Aside0.mk (Kd.R_elder' (by (with_reducible repeat (first | apply Kd.R_alloc | apply Kd.R_drewN | apply Kd.R_drew)); exact HO1058.out) (Kd.R_base ho27) hb); have n1_ := Aside0.mk (Kd.R_lower (Kd.R_new' ho27 (Kd.R_lt (by (with_reducible repeat (first | apply Kd.R_alloc | apply Kd.R_drewN | apply Kd.R_drew)); exact HO1058.out))) (below_size (by repeat (first | (with_reducible first | exact HB.out | apply below_alloc | apply pw_below_drewN | apply below_drew1) | exact HB.out)))); have n2_ := Aside0.mk (below_step (by repeat (first | (with_reducible first | exact HB.out | apply below_alloc | apply pw_below_drewN | apply below_drew1) | exact HB.out)) hb); clear HO1058; clear HB; have HO1058 := n0_; have HO1062 := n1_; have HB := n2_; clear n0_ n1_ n2_; clear hb ho27))
  go_ret3
  exact ⟨_, _, by first | rfl | (simp [errW_none, errW_some] <;> rfl) | (simp [*, errW_none, errW_some] <;> rfl), by (with_reducible repeat (first | apply Kd.R_alloc | apply Kd.R_drewN | apply Kd.R_drew)); exact Kd.R_mono HO1058.out (fun _ hk => hk.2), by (with_reducible repeat (first | apply Kd.R_alloc | apply Kd.R_drewN | apply Kd.R_drew)); exact Kd.R_mono HO1062.out (fun _ hk => hk.2), by repeat (first | (with_reducible first | exact HB.out | apply below_alloc | apply pw_below_drewN | apply below_drew1) | exact HB.out)⟩

/-! ### impl_isRuled: function 210 -/
def impl_isRuled.f (k : Nat) (l0 : List (S127)) (a1 : Int) : Option (Bool) := (impl_IsJobs.f k l0).bind fun t1076 => (if t1076 = true then (if a1 = 1 then (some true) else ((impl_within.f a1 2 4).bind fun t1077 => (if t1077 = true then ((impl_isPlain.f k l0).bind fun t1078 => (some t1078)) else (some false)))) else (some false))
theorem impl_isRuled.mono : ∀ a0 a1 k, LeO (impl_isRuled.f k a0 a1) (impl_isRuled.f (k + 1) a0 a1) := by
 intro a0 a1 k
 unfold impl_isRuled.f
 repeat' first
   | (with_reducible exact impl_IsJobs.mono _ _)
   | (with_reducible exact impl_isPlain.mono _ _)
   | (with_reducible exact LeO.refl _)
   | (with_reducible exact LeO.none _)
   | (with_reducible refine LeO.ite ?_ ?_)
   | (with_reducible refine LeO.bind ?_ (fun _ => ?_))
   | exact impl_IsJobs.mono _ _
   | exact impl_isPlain.mono _ _
   | exact LeO.none _
   | refine LeO.ite ?_ ?_
   | refine LeO.bind ?_ (fun _ => ?_)
set_option maxHeartbeats 8000000 in
set_option maxRecDepth 100000 in
theorem impl_isRuled.calls (k : Nat) (A0 : Option Addr) (c0 : Nat) (l0 : List (S127)) (a1 : Int) (r : Bool) (w : World) (hr0 : Kd.C k127 w A0 l0.length l0) (hc0 : l0.length ≤ c0) (h : impl_isRuled.f k l0 a1 = some r) :
  Calls Try.prog 210 #[.slice A0 l0.length c0, .int .i64 a1] w fun e w' => e = .returned (.bool r) ∧ Below w.heap.size w w' := by
 have HR0 := Aside0.mk hr0
 have HC0 := Aside0.mk hc0
 clear hr0 hc0
 have HB := Aside0.mk (Below.refl w.heap.size w)
 have H : ((impl_IsJobs.f k l0).bind fun t1076 => (if t1076 = true then (if a1 = 1 then (some true) else ((impl_within.f a1 2 4).bind fun t1077 => (if t1077 = true then ((impl_isPlain.f k l0).bind fun t1078 => (some t1078)) else (some false)))) else (some false))) = some r := h
 clear h
 replace H := Option.bind_eq_some_iff.mp H
 obtain ⟨t1076, A30, H⟩ := H
 replace H : (if t1076 = true then (if a1 = 1 then (some true) else ((impl_within.f a1 2 4).bind fun t1077 => (if t1077 = true then ((impl_isPlain.f k l0).bind fun t1078 => (some t1078)) else (some false)))) else (some false)) = some r := H
 have A3 := Aside0.mk A30
 clear A30
 by_cases c4 : t1076 = true
 ·subst c4
  have H1 : (if a1 = 1 then (some true) else ((impl_within.f a1 2 4).bind fun t1077 => (if t1077 = true then ((impl_isPlain.f k l0).bind fun t1078 => (some t1078)) else (some false)))) = some r := by rw [if_pos rfl] at H; exact H
  clear H
  have H := H1
  clear H1
  by_cases c5 : a1 = 1
  ·rw [if_pos c5] at H
   have c5b0 : (a1 == 1) = true := beq_iff_eq.mpr c5
   have c5b1 : (a1 != 1) = false := bne_eq_false_iff_eq.mpr c5
   clear c5
   obtain rfl := Option.some.inj H
   go_enter Try.func210, Try.ntmps210
   go_wp2_with (first | ((with_reducible refine gate_callee (f := 116) rfl ?_); refine goesL_ (some 6) rfl rfl Try.func116 (by kernel_rfl) rfl #[.slice A0 l0.length c0] rfl (by (try simp only [List.map_toArray, List.map_cons, List.map_nil]); first | done | rfl | (simp only [List.length_drop, List.length_take]; rfl)) ?_; (with_reducible refine (impl_IsJobs.calls k _ _ l0 true _ ?side1 ?side2 A3.out).mono ?_); (case side1 => repeat (first | exact HR0.out | (with_reducible refine Kd.C_alloc ?_ _) | (with_reducible refine Kd.C_drewN ?_ _) | (with_reducible refine Kd.C_drew ?_))); (case side2 => exact HC0.out); rintro e w6 ⟨rfl, hb⟩; refine ⟨_, rfl, ?_⟩; have n0_ := Aside0.mk (below_step (by repeat (first | (with_reducible first | exact HB.out | apply below_alloc | apply pw_below_drewN | apply below_drew1) | exact HB.out)) hb); clear HB; have HB := n0_; clear n0_; (try clear hb); (try clear hb2); (try clear hk); (try clear hi)))
   go_ret
   exact ⟨by first | rfl | (simp [errW_none, errW_some] <;> rfl) | (simp [*, errW_none, errW_some] <;> rfl), by repeat (first | (with_reducible first | exact HB.out | apply below_alloc | apply pw_below_drewN | apply below_drew1) | exact HB.out)⟩
  ·rw [if_neg c5] at H
   have c5b0 : (a1 == 1) = false := beq_eq_false_iff_ne.mpr c5
   have c5b1 : (a1 != 1) = true := bne_iff_ne.mpr c5
   replace H := Option.bind_eq_some_iff.mp H
   obtain ⟨t1077, A70, H⟩ := H
   replace H : (if t1077 = true then ((impl_isPlain.f k l0).bind fun t1078 => (some t1078)) else (some false)) = some r := H
   have A7 := Aside0.mk A70
   clear A70
   by_cases c8 : t1077 = true
   ·subst c8
    have H1 : ((impl_isPlain.f k l0).bind fun t1078 => (some t1078)) = some r := by rw [if_pos rfl] at H; exact H
    clear H
    have H := H1
    clear H1
    replace H := Option.bind_eq_some_iff.mp H
    obtain ⟨t1078, A90, H⟩ := H
    replace H : (some t1078) = some r := H
    have A9 := Aside0.mk A90
    clear A90
    obtain rfl := Option.some.inj H
    go_enter Try.func210, Try.ntmps210
    go_wp2_with (first | ((with_reducible refine gate_callee (f := 116) rfl ?_); refine goesL_ (some 6) rfl rfl Try.func116 (by kernel_rfl) rfl #[.slice A0 l0.length c0] rfl (by (try simp only [List.map_toArray, List.map_cons, List.map_nil]); first | done | rfl | (simp only [List.length_drop, List.length_take]; rfl)) ?_; (with_reducible refine (impl_IsJobs.calls k _ _ l0 true _ ?side1 ?side2 A3.out).mono ?_); (case side1 => repeat (first | exact HR0.out | (with_reducible refine Kd.C_alloc ?_ _) | (with_reducible refine Kd.C_drewN ?_ _) | (with_reducible refine Kd.C_drew ?_))); (case side2 => exact HC0.out); rintro e w10 ⟨rfl, hb⟩; refine ⟨_, rfl, ?_⟩; have n0_ := Aside0.mk (below_step (by repeat (first | (with_reducible first | exact HB.out | apply below_alloc | apply pw_below_drewN | apply below_drew1) | exact HB.out)) hb); clear HB; have HB := n0_; clear n0_; (try clear hb); (try clear hb2); (try clear hk); (try clear hi)) | (go_at_call 176; (with_reducible refine (impl_within.calls a1 2 4 true _ A7.out).mono ?_); rintro e w' ⟨rfl, ⟨nd, rfl⟩⟩) | (go_at_call 241; (with_reducible refine (impl_isPlain.calls k _ _ l0 t1078 _ ?side1 ?side2 A9.out).mono ?_); (case side1 => repeat (first | exact (Kd.C_below HR0.out (by repeat (first | (with_reducible first | exact HB.out | apply below_alloc | apply pw_below_drewN | apply below_drew1) | exact HB.out))) | (with_reducible refine Kd.C_alloc ?_ _) | (with_reducible refine Kd.C_drewN ?_ _) | (with_reducible refine Kd.C_drew ?_))); (case side2 => exact HC0.out); rintro e w11 ⟨rfl, hb⟩; have n0_ := Aside0.mk (below_step (by repeat (first | (with_reducible first | exact HB.out | apply below_alloc | apply pw_below_drewN | apply below_drew1) | exact HB.out)) hb); clear HB; have HB := n0_; clear n0_; (try clear hb); (try clear hb2); (try clear hk); (try clear hi)))
    go_ret
    exact ⟨by first | rfl | (simp [errW_none, errW_some] <;> rfl) | (simp [*, errW_none, errW_some] <;> rfl), by repeat (first | (with_reducible first | exact HB.out | apply below_alloc | apply pw_below_drewN | apply below_drew1) | exact HB.out)⟩
   ·replace c8 := Bool.eq_false_iff.mpr c8
    subst c8
    have H1 : (some false) = some r := by rw [if_neg (show ¬ (false = true) by decide)] at H; exact H
    clear H
    have H := H1
    clear H1
    obtain rfl := Option.some.inj H
    go_enter Try.func210, Try.ntmps210
    go_wp2_with (first | ((with_reducible refine gate_callee (f := 116) rfl ?_); refine goesL_ (some 6) rfl rfl Try.func116 (by kernel_rfl) rfl #[.slice A0 l0.length c0] rfl (by (try simp only [List.map_toArray, List.map_cons, List.map_nil]); first | done | rfl | (simp only [List.length_drop, List.length_take]; rfl)) ?_; (with_reducible refine (impl_IsJobs.calls k _ _ l0 true _ ?side1 ?side2 A3.out).mono ?_); (case side1 => repeat (first | exact HR0.out | (with_reducible refine Kd.C_alloc ?_ _) | (with_reducible refine Kd.C_drewN ?_ _) | (with_reducible refine Kd.C_drew ?_))); (case side2 => exact HC0.out); rintro e w12 ⟨rfl, hb⟩; refine ⟨_, rfl, ?_⟩; have n0_ := Aside0.mk (below_step (by repeat (first | (with_reducible first | exact HB.out | apply below_alloc | apply pw_below_drewN | apply below_drew1) | exact HB.out)) hb); clear HB; have HB := n0_; clear n0_; (try clear hb); (try clear hb2); (try clear hk); (try clear hi)) | (go_at_call 176; (with_reducible refine (impl_within.calls a1 2 4 false _ A7.out).mono ?_); rintro e w' ⟨rfl, ⟨nd, rfl⟩⟩))
    go_ret
    exact ⟨by first | rfl | (simp [errW_none, errW_some] <;> rfl) | (simp [*, errW_none, errW_some] <;> rfl), by repeat (first | (with_reducible first | exact HB.out | apply below_alloc | apply pw_below_drewN | apply below_drew1) | exact HB.out)⟩
 ·replace c4 := Bool.eq_false_iff.mpr c4
  subst c4
  have H1 : (some false) = some r := by rw [if_neg (show ¬ (false = true) by decide)] at H; exact H
  clear H
  have H := H1
  clear H1
  obtain rfl := Option.some.inj H
  go_enter Try.func210, Try.ntmps210
  go_wp2_with (first | ((with_reducible refine gate_callee (f := 116) rfl ?_); refine goesL_ (some 6) rfl rfl Try.func116 (by kernel_rfl) rfl #[.slice A0 l0.length c0] rfl (by (try simp only [List.map_toArray, List.map_cons, List.map_nil]); first | done | rfl | (simp only [List.length_drop, List.length_take]; rfl)) ?_; (with_reducible refine (impl_IsJobs.calls k _ _ l0 false _ ?side1 ?side2 A3.out).mono ?_); (case side1 => repeat (first | exact HR0.out | (with_reducible refine Kd.C_alloc ?_ _) | (with_reducible refine Kd.C_drewN ?_ _) | (with_reducible refine Kd.C_drew ?_))); (case side2 => exact HC0.out); rintro e w13 ⟨rfl, hb⟩; refine ⟨_, rfl, ?_⟩; have n0_ := Aside0.mk (below_step (by repeat (first | (with_reducible first | exact HB.out | apply below_alloc | apply pw_below_drewN | apply below_drew1) | exact HB.out)) hb); clear HB; have HB := n0_; clear n0_; (try clear hb); (try clear hb2); (try clear hk); (try clear hi)))
  go_ret
  exact ⟨by first | rfl | (simp [errW_none, errW_some] <;> rfl) | (simp [*, errW_none, errW_some] <;> rfl), by repeat (first | (with_reducible first | exact HB.out | apply below_alloc | apply pw_below_drewN | apply below_drew1) | exact HB.out)⟩

/-! ### impl_isRuledAndOrdered: function 132 -/
def impl_isRuledAndOrdered.f (k : Nat) (l0 : List (S127)) (l1 : List Int) (a2 : Int) : Option (Bool) := (impl_isRuled.f k l0 a2).bind fun t1079 => (if t1079 = true then ((impl_isOrder.f k (l0.length : Int) l1).bind fun t1080 => (some t1080)) else (some false))
theorem impl_isRuledAndOrdered.mono : ∀ a0 a1 a2 k, LeO (impl_isRuledAndOrdered.f k a0 a1 a2) (impl_isRuledAndOrdered.f (k + 1) a0 a1 a2) := by
 intro a0 a1 a2 k
 unfold impl_isRuledAndOrdered.f
 repeat' first
   | (with_reducible exact impl_isOrder.mono _ _ _)
   | (with_reducible exact impl_isRuled.mono _ _ _)
   | (with_reducible exact LeO.refl _)
   | (with_reducible exact LeO.none _)
   | (with_reducible refine LeO.ite ?_ ?_)
   | (with_reducible refine LeO.bind ?_ (fun _ => ?_))
   | exact impl_isOrder.mono _ _ _
   | exact impl_isRuled.mono _ _ _
   | exact LeO.none _
   | refine LeO.ite ?_ ?_
   | refine LeO.bind ?_ (fun _ => ?_)
set_option maxHeartbeats 8000000 in
set_option maxRecDepth 100000 in
theorem impl_isRuledAndOrdered.calls (k : Nat) (A0 : Option Addr) (c0 : Nat) (l0 : List (S127)) (A1 : Option Addr) (c1 : Nat) (l1 : List Int) (a2 : Int) (r : Bool) (w : World) (hr0 : Kd.C k127 w A0 l0.length l0) (hc0 : l0.length ≤ c0) (hr1 : Kd.C (Kd.int .i64) w A1 l1.length l1) (hc1 : l1.length ≤ c1) (h : impl_isRuledAndOrdered.f k l0 l1 a2 = some r) :
  Calls Try.prog 132 #[.slice A0 l0.length c0, .slice A1 l1.length c1, .int .i64 a2] w fun e w' => e = .returned (.bool r) ∧ Below w.heap.size w w' := by
 have HR0 := Aside0.mk hr0
 have HC0 := Aside0.mk hc0
 clear hr0 hc0
 have HR1 := Aside0.mk hr1
 have HC1 := Aside0.mk hc1
 clear hr1 hc1
 have HB := Aside0.mk (Below.refl w.heap.size w)
 have H : ((impl_isRuled.f k l0 a2).bind fun t1079 => (if t1079 = true then ((impl_isOrder.f k (l0.length : Int) l1).bind fun t1080 => (some t1080)) else (some false))) = some r := h
 clear h
 replace H := Option.bind_eq_some_iff.mp H
 obtain ⟨t1079, A40, H⟩ := H
 replace H : (if t1079 = true then ((impl_isOrder.f k (l0.length : Int) l1).bind fun t1080 => (some t1080)) else (some false)) = some r := H
 have A4 := Aside0.mk A40
 clear A40
 by_cases c5 : t1079 = true
 ·subst c5
  have H1 : ((impl_isOrder.f k (l0.length : Int) l1).bind fun t1080 => (some t1080)) = some r := by rw [if_pos rfl] at H; exact H
  clear H
  have H := H1
  clear H1
  replace H := Option.bind_eq_some_iff.mp H
  obtain ⟨t1080, A60, H⟩ := H
  replace H : (some t1080) = some r := H
  have A6 := Aside0.mk A60
  clear A60
  obtain rfl := Option.some.inj H
  go_enter Try.func132, Try.ntmps132
  go_wp2_with (first | ((with_reducible refine gate_callee (f := 210) rfl ?_); refine goesL_ (some 9) rfl rfl Try.func210 (by kernel_rfl) rfl #[.slice A0 l0.length c0, .int .i64 a2] rfl (by (try simp only [List.map_toArray, List.map_cons, List.map_nil]); first | done | rfl | (simp only [List.length_drop, List.length_take]; rfl)) ?_; (with_reducible refine (impl_isRuled.calls k _ _ l0 a2 true _ ?side1 ?side2 A4.out).mono ?_); (case side1 => repeat (first | exact HR0.out | (with_reducible refine Kd.C_alloc ?_ _) | (with_reducible refine Kd.C_drewN ?_ _) | (with_reducible refine Kd.C_drew ?_))); (case side2 => exact HC0.out); rintro e w7 ⟨rfl, hb⟩; refine ⟨_, rfl, ?_⟩; have n0_ := Aside0.mk (below_step (by repeat (first | (with_reducible first | exact HB.out | apply below_alloc | apply pw_below_drewN | apply below_drew1) | exact HB.out)) hb); clear HB; have HB := n0_; clear n0_; (try clear hb); (try clear hb2); (try clear hk); (try clear hi)) | (go_at_call 139; (with_reducible refine (impl_isOrder.calls k (l0.length : Int) _ _ l1 t1080 _ ?side1 ?side2 A6.out).mono ?_); (case side1 => repeat (first | exact (Kd.C_below HR1.out HB.out) | (with_reducible refine Kd.C_alloc ?_ _) | (with_reducible refine Kd.C_drewN ?_ _) | (with_reducible refine Kd.C_drew ?_))); (case side2 => exact HC1.out); rintro e w' ⟨rfl, ⟨nd, rfl⟩⟩))
  go_ret
  exact ⟨by first | rfl | (simp [errW_none, errW_some] <;> rfl) | (simp [*, errW_none, errW_some] <;> rfl), by repeat (first | (with_reducible first | exact HB.out | apply below_alloc | apply pw_below_drewN | apply below_drew1) | exact HB.out)⟩
 ·replace c5 := Bool.eq_false_iff.mpr c5
  subst c5
  have H1 : (some false) = some r := by rw [if_neg (show ¬ (false = true) by decide)] at H; exact H
  clear H
  have H := H1
  clear H1
  obtain rfl := Option.some.inj H
  go_enter Try.func132, Try.ntmps132
  go_wp2_with (first | ((with_reducible refine gate_callee (f := 210) rfl ?_); refine goesL_ (some 9) rfl rfl Try.func210 (by kernel_rfl) rfl #[.slice A0 l0.length c0, .int .i64 a2] rfl (by (try simp only [List.map_toArray, List.map_cons, List.map_nil]); first | done | rfl | (simp only [List.length_drop, List.length_take]; rfl)) ?_; (with_reducible refine (impl_isRuled.calls k _ _ l0 a2 false _ ?side1 ?side2 A4.out).mono ?_); (case side1 => repeat (first | exact HR0.out | (with_reducible refine Kd.C_alloc ?_ _) | (with_reducible refine Kd.C_drewN ?_ _) | (with_reducible refine Kd.C_drew ?_))); (case side2 => exact HC0.out); rintro e w8 ⟨rfl, hb⟩; refine ⟨_, rfl, ?_⟩; have n0_ := Aside0.mk (below_step (by repeat (first | (with_reducible first | exact HB.out | apply below_alloc | apply pw_below_drewN | apply below_drew1) | exact HB.out)) hb); clear HB; have HB := n0_; clear n0_; (try clear hb); (try clear hb2); (try clear hk); (try clear hi)))
  go_ret
  exact ⟨by first | rfl | (simp [errW_none, errW_some] <;> rfl) | (simp [*, errW_none, errW_some] <;> rfl), by repeat (first | (with_reducible first | exact HB.out | apply below_alloc | apply pw_below_drewN | apply below_drew1) | exact HB.out)⟩

end Go.Proofs.Ytkcnedkgpinabaa.X
