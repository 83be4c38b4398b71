-- Written by a program of this session (wip/gen/xp.py, over the kit's printer). Not trusted: Lean checks it.
import Derived.Test.YtgpnophjbibhhaaX0
import Derived.Test.YtgpnophjbibhhaaXf101
import Derived.Test.YtgpnophjbibhhaaXf118
import Derived.Test.YtgpnophjbibhhaaXf66
namespace Go.Proofs.Ytgpnophjbibhhaa.X
open Go.RowKit Go.Proofs.YtgpnophjbibhhaaW.PrintWords Go.Proofs.YtgpnophjbibhhaaW.PrintLast Go.Proofs.YtgpnophjbibhhaaW.PrintMore
attribute [local go_sem] max2_int min2_int max_two min_two max_three min_three max_four min_four   -- for this text's walks alone
set_option linter.unusedVariables false
set_option linter.unusedSimpArgs false

/-! ### spec_l3Plain: function 175 -/
def spec_l3Plain.l0 : Nat → List (S89) → Int → Option (Bool)
 | 0, _, _ => none
 | k + 1, x0, x3 => if x3 < (x0.length : Int) then (if 0 ≤ x3 then (if ((rd_T89 x0 x3).f2) = 0 then (spec_l3Plain.l0 k x0 (wrap64 (x3 + 1))) else (some false)) else (none)) else (some true)
def spec_l3Plain.f (k : Nat) (l0 : List (S89)) : Option (Bool) := spec_l3Plain.l0 k l0 0
theorem spec_l3Plain.mono_l : ∀ k, (∀ y0 y1, LeO (spec_l3Plain.l0 k y0 y1) (spec_l3Plain.l0 (k + 1) y0 y1))
 | 0 => fun _ _ r h => by simp [spec_l3Plain.l0] at h
 | k + 1 => by
  have ih0 := spec_l3Plain.mono_l k
  ·intro y0 y1
   unfold spec_l3Plain.l0
   repeat' first
   | (with_reducible exact ih0 _ _)
   | (with_reducible exact LeO.refl _)
   | (with_reducible exact LeO.none _)
   | (with_reducible refine LeO.ite ?_ ?_)
   | (with_reducible refine LeO.bind ?_ (fun _ => ?_))
   | exact ih0 _ _
   | exact LeO.none _
   | refine LeO.ite ?_ ?_
   | refine LeO.bind ?_ (fun _ => ?_)
theorem spec_l3Plain.mono : ∀ a0 k, LeO (spec_l3Plain.f k a0) (spec_l3Plain.f (k + 1) a0) := by
 intro a0 k
 have ih0 := spec_l3Plain.mono_l k
 unfold spec_l3Plain.f
 repeat' first
   | (with_reducible exact ih0 _ _)
   | (with_reducible exact LeO.refl _)
   | (with_reducible exact LeO.none _)
   | (with_reducible refine LeO.ite ?_ ?_)
   | (with_reducible refine LeO.bind ?_ (fun _ => ?_))
   | exact ih0 _ _
   | exact LeO.none _
   | refine LeO.ite ?_ ?_
   | refine LeO.bind ?_ (fun _ => ?_)
set_option maxHeartbeats 8000000 in
set_option maxRecDepth 100000 in
theorem spec_l3Plain.calls (k : Nat) (A0 : Option Addr) (c0 : Nat) (l0 : List (S89)) (r : Bool) (w : World) (hr0 : Kd.C k89 w A0 l0.length l0) (hc0 : l0.length ≤ c0) (h : spec_l3Plain.f k l0 = some r) :
  Calls Try.prog 175 #[.slice A0 l0.length c0] w fun e w' => e = .returned (.bool r) ∧ Drawn0 w w' := by
 have HR0 := Aside0.mk hr0
 have HC0 := Aside0.mk hc0
 clear hr0 hc0
 have H : (spec_l3Plain.l0 k l0 0) = some r := h
 clear h
 have H' := Aside0.mk H
 clear H
 go_enter Try.func175, Try.ntmps175
 go_wp2
 go_loopg [3] k (fun kq v3 w' => ∃ (x3_1 : Int), v3 = .int .i64 x3_1 ∧ Aside0 (spec_l3Plain.l0 kq l0 x3_1 = some r) ∧ Aside0 (kq ≤ k) ∧ Drawn0 w w')
 case atStart => exact ⟨(0), (by first | rfl | (simp; done) | (simp [*]; done)), H', ⟨Nat.le_refl _⟩, by repeat (first | exact Drawn0.refl _ | apply Drawn0.step)⟩
 case round =>
  clear H'
  try clear c1
  obtain ⟨x3_1, rfl, HA, HK1, ⟨m1, rfl⟩⟩ := hrel
  cases gk with
  | zero => exact absurd HA.out (by simp [spec_l3Plain.l0])
  | succ k1 =>
   have H := HA.out
   clear HA
   simp only [spec_l3Plain.l0] at H
   by_cases c2 : x3_1 < (l0.length : Int)
   rotate_left
   ·rw [if_neg c2] at H
    have c2b0 : decide (x3_1 < (l0.length : Int)) = false := decide_eq_false c2
    clear c2
    obtain rfl := Option.some.inj H
    go_wp2
    go_ret
    exact ⟨by first | rfl | (simp; done) | (simp [*]; done), by repeat (first | exact Drawn0.refl _ | apply Drawn0.step)⟩
   rw [if_pos c2] at H
   have c2b0 : decide (x3_1 < (l0.length : Int)) = true := decide_eq_true c2
   clear c2
   by_cases c3 : 0 ≤ x3_1
   rotate_left
   ·rw [if_neg c3] at H
    exact absurd H (by simp)
   rw [if_pos c3] at H
   have c3b0 : decide (0 ≤ x3_1) = true := decide_eq_true c3
   clear c3
   by_cases c4 : ((rd_T89 l0 x3_1).f2) = 0
   rotate_left
   ·rw [if_neg c4] at H
    have c4b0 : (((rd_T89 l0 x3_1).f2) == 0) = false := beq_eq_false_iff_ne.mpr c4
    have c4b1 : (((rd_T89 l0 x3_1).f2) != 0) = true := bne_iff_ne.mpr c4
    obtain rfl := Option.some.inj H
    have p108 : 0 ≤ (x3_1 : Int) := of_decide_eq_true (by first | (with_reducible assumption) | assumption)
    have q108 : x3_1 < (l0.length : Int) := of_decide_eq_true (by first | (with_reducible assumption) | assumption)
    obtain ⟨ad108, e108, hx108_0, hx108_1, hx108_2, hx108_3⟩ := at_T89 HR0.out x3_1 p108 q108
    cases e108
    replace p108 := eq_true p108
    replace q108 := eq_true q108
    go_wp2
    go_ret
    exact ⟨by first | rfl | (simp; done) | (simp [*]; done), by repeat (first | exact Drawn0.refl _ | apply Drawn0.step)⟩
   rw [if_pos c4] at H
   have c4b0 : (((rd_T89 l0 x3_1).f2) == 0) = true := beq_iff_eq.mpr c4
   have c4b1 : (((rd_T89 l0 x3_1).f2) != 0) = false := bne_eq_false_iff_eq.mpr c4
   clear c4
   have H' := Aside0.mk H
   clear H
   have p108 : 0 ≤ (x3_1 : Int) := of_decide_eq_true (by first | (with_reducible assumption) | assumption)
   have q108 : x3_1 < (l0.length : Int) := of_decide_eq_true (by first | (with_reducible assumption) | assumption)
   obtain ⟨ad108, e108, hx108_0, hx108_1, hx108_2, hx108_3⟩ := at_T89 HR0.out x3_1 p108 q108
   cases e108
   replace p108 := eq_true p108
   replace q108 := eq_true q108
   go_wp2
   go_roundg k1
   case measure => have := HK1.out; omega
   case rel => exact ⟨(wrap64 (x3_1 + 1)), (by first | rfl | (simp; done) | (simp [*]; done)), H', ⟨by have := HK1.out; omega⟩, by repeat (first | exact Drawn0.refl _ | apply Drawn0.step)⟩

/-! ### spec_l3Ruled: function 140 -/
def spec_l3Ruled.f (k : Nat) (l0 : List (S89)) (a1 : Int) : Option (Bool) := (spec_l2Good.f k l0).bind fun t109 => (if t109 = true then ((spec_l1In.f a1 1 4).bind fun t110 => (if t110 = true then (if a1 = 1 then (some true) else ((spec_l3Plain.f k l0).bind fun t111 => (some t111))) else (some false))) else (some false))
theorem spec_l3Ruled.mono : ∀ a0 a1 k, LeO (spec_l3Ruled.f k a0 a1) (spec_l3Ruled.f (k + 1) a0 a1) := by
 intro a0 a1 k
 unfold spec_l3Ruled.f
 repeat' first
   | (with_reducible exact spec_l2Good.mono _ _)
   | (with_reducible exact spec_l3Plain.mono _ _)
   | (with_reducible exact LeO.refl _)
   | (with_reducible exact LeO.none _)
   | (with_reducible refine LeO.ite ?_ ?_)
   | (with_reducible refine LeO.bind ?_ (fun _ => ?_))
   | exact spec_l2Good.mono _ _
   | exact spec_l3Plain.mono _ _
   | exact LeO.none _
   | refine LeO.ite ?_ ?_
   | refine LeO.bind ?_ (fun _ => ?_)
set_option maxHeartbeats 8000000 in
set_option maxRecDepth 100000 in
theorem spec_l3Ruled.calls (k : Nat) (A0 : Option Addr) (c0 : Nat) (l0 : List (S89)) (a1 : Int) (r : Bool) (w : World) (hr0 : Kd.C k89 w A0 l0.length l0) (hc0 : l0.length ≤ c0) (h : spec_l3Ruled.f k l0 a1 = some r) :
  Calls Try.prog 140 #[.slice A0 l0.length c0, .int .i64 a1] w fun e w' => e = .returned (.bool r) ∧ Below w.heap.size w w' := by
 have HR0 := Aside0.mk hr0
 have HC0 := Aside0.mk hc0
 clear hr0 hc0
 have HB := Aside0.mk (Below.refl w.heap.size w)
 have H : ((spec_l2Good.f k l0).bind fun t109 => (if t109 = true then ((spec_l1In.f a1 1 4).bind fun t110 => (if t110 = true then (if a1 = 1 then (some true) else ((spec_l3Plain.f k l0).bind fun t111 => (some t111))) else (some false))) else (some false))) = some r := h
 clear h
 replace H := Option.bind_eq_some_iff.mp H
 obtain ⟨t109, A30, H⟩ := H
 replace H : (if t109 = true then ((spec_l1In.f a1 1 4).bind fun t110 => (if t110 = true then (if a1 = 1 then (some true) else ((spec_l3Plain.f k l0).bind fun t111 => (some t111))) else (some false))) else (some false)) = some r := H
 have A3 := Aside0.mk A30
 clear A30
 by_cases c4 : t109 = true
 rotate_left
 ·replace c4 := Bool.eq_false_iff.mpr c4
  subst c4
  have H1 : (some false) = some r := by rw [if_neg (show ¬ (false = true) by decide)] at H; exact H
  clear H
  have H := H1
  clear H1
  obtain rfl := Option.some.inj H
  go_enter Try.func140, Try.ntmps140
  go_wp2_with (first | ((with_reducible refine gate_callee (f := 85) rfl ?_); refine goesL_ (some 6) rfl rfl Try.func85 (by kernel_rfl) rfl #[.slice A0 l0.length c0] rfl (by (try simp only [mA_]); first | done | rfl | (simp only [List.length_drop, List.length_take]; rfl)) ?_; (with_reducible refine (spec_l2Good.calls k _ _ l0 false _ ?side1 ?side2 A3.out).mono ?_); (case side1 => repeat (first | exact HR0.out | (with_reducible refine Kd.C_alloc ?_ _) | (with_reducible refine Kd.C_drewN ?_ _) | (with_reducible refine Kd.C_drew ?_))); (case side2 => exact HC0.out); rintro e w12 ⟨rfl, hb⟩; refine ⟨_, rfl, ?_⟩; have n0_ := Aside0.mk (below_step (bw HB.out) hb); replace HB := n0_; clear n0_; (try clear hb); (try clear hb2); (try clear hk); (try clear hi)))
  go_ret
  exact ⟨by first | rfl | (simp [errW_none, errW_some] <;> rfl) | (simp [*, errW_none, errW_some] <;> rfl), bw HB.out⟩
 subst c4
 have H1 : ((spec_l1In.f a1 1 4).bind fun t110 => (if t110 = true then (if a1 = 1 then (some true) else ((spec_l3Plain.f k l0).bind fun t111 => (some t111))) else (some false))) = some r := by rw [if_pos rfl] at H; exact H
 clear H
 have H := H1
 clear H1
 replace H := Option.bind_eq_some_iff.mp H
 obtain ⟨t110, A50, H⟩ := H
 replace H : (if t110 = true then (if a1 = 1 then (some true) else ((spec_l3Plain.f k l0).bind fun t111 => (some t111))) else (some false)) = some r := H
 have A5 := Aside0.mk A50
 clear A50
 by_cases c6 : t110 = true
 rotate_left
 ·replace c6 := Bool.eq_false_iff.mpr c6
  subst c6
  have H1 : (some false) = some r := by rw [if_neg (show ¬ (false = true) by decide)] at H; exact H
  clear H
  have H := H1
  clear H1
  obtain rfl := Option.some.inj H
  go_enter Try.func140, Try.ntmps140
  go_wp2_with (first | ((with_reducible refine gate_callee (f := 85) rfl ?_); refine goesL_ (some 6) rfl rfl Try.func85 (by kernel_rfl) rfl #[.slice A0 l0.length c0] rfl (by (try simp only [mA_]); first | done | rfl | (simp only [List.length_drop, List.length_take]; rfl)) ?_; (with_reducible refine (spec_l2Good.calls k _ _ l0 true _ ?side1 ?side2 A3.out).mono ?_); (case side1 => repeat (first | exact HR0.out | (with_reducible refine Kd.C_alloc ?_ _) | (with_reducible refine Kd.C_drewN ?_ _) | (with_reducible refine Kd.C_drew ?_))); (case side2 => exact HC0.out); rintro e w11 ⟨rfl, hb⟩; refine ⟨_, rfl, ?_⟩; have n0_ := Aside0.mk (below_step (bw HB.out) hb); replace HB := n0_; clear n0_; (try clear hb); (try clear hb2); (try clear hk); (try clear hi)) | (go_at_call 101; (with_reducible refine (spec_l1In.calls a1 1 4 false _ A5.out).mono ?_); rintro e w' ⟨rfl, ⟨nd, rfl⟩⟩))
  go_ret
  exact ⟨by first | rfl | (simp [errW_none, errW_some] <;> rfl) | (simp [*, errW_none, errW_some] <;> rfl), bw HB.out⟩
 subst c6
 have H1 : (if a1 = 1 then (some true) else ((spec_l3Plain.f k l0).bind fun t111 => (some t111))) = some r := by rw [if_pos rfl] at H; exact H
 clear H
 have H := H1
 clear H1
 by_cases c7 : a1 = 1
 ·rw [if_pos c7] at H
  have c7b0 : (a1 == 1) = true := beq_iff_eq.mpr c7
  have c7b1 : (a1 != 1) = false := bne_eq_false_iff_eq.mpr c7
  clear c7
  obtain rfl := Option.some.inj H
  go_enter Try.func140, Try.ntmps140
  go_wp2_with (first | ((with_reducible refine gate_callee (f := 85) rfl ?_); refine goesL_ (some 6) rfl rfl Try.func85 (by kernel_rfl) rfl #[.slice A0 l0.length c0] rfl (by (try simp only [mA_]); first | done | rfl | (simp only [List.length_drop, List.length_take]; rfl)) ?_; (with_reducible refine (spec_l2Good.calls k _ _ l0 true _ ?side1 ?side2 A3.out).mono ?_); (case side1 => repeat (first | exact HR0.out | (with_reducible refine Kd.C_alloc ?_ _) | (with_reducible refine Kd.C_drewN ?_ _) | (with_reducible refine Kd.C_drew ?_))); (case side2 => exact HC0.out); rintro e w8 ⟨rfl, hb⟩; refine ⟨_, rfl, ?_⟩; have n0_ := Aside0.mk (below_step (bw HB.out) hb); replace HB := n0_; clear n0_; (try clear hb); (try clear hb2); (try clear hk); (try clear hi)) | (go_at_call 101; (with_reducible refine (spec_l1In.calls a1 1 4 true _ A5.out).mono ?_); rintro e w' ⟨rfl, ⟨nd, rfl⟩⟩))
  go_ret
  exact ⟨by first | rfl | (simp [errW_none, errW_some] <;> rfl) | (simp [*, errW_none, errW_some] <;> rfl), bw HB.out⟩
 rw [if_neg c7] at H
 have c7b0 : (a1 == 1) = false := beq_eq_false_iff_ne.mpr c7
 have c7b1 : (a1 != 1) = true := bne_iff_ne.mpr c7
 replace H := Option.bind_eq_some_iff.mp H
 obtain ⟨t111, A90, H⟩ := H
 replace H : (some t111) = some r := H
 have A9 := Aside0.mk A90
 clear A90
 obtain rfl := Option.some.inj H
 go_enter Try.func140, Try.ntmps140
 go_wp2_with (first | ((with_reducible refine gate_callee (f := 85) rfl ?_); refine goesL_ (some 6) rfl rfl Try.func85 (by kernel_rfl) rfl #[.slice A0 l0.length c0] rfl (by (try simp only [mA_]); first | done | rfl | (simp only [List.length_drop, List.length_take]; rfl)) ?_; (with_reducible refine (spec_l2Good.calls k _ _ l0 true _ ?side1 ?side2 A3.out).mono ?_); (case side1 => repeat (first | exact HR0.out | (with_reducible refine Kd.C_alloc ?_ _) | (with_reducible refine Kd.C_drewN ?_ _) | (with_reducible refine Kd.C_drew ?_))); (case side2 => exact HC0.out); rintro e w10 ⟨rfl, hb⟩; refine ⟨_, rfl, ?_⟩; have n0_ := Aside0.mk (below_step (bw HB.out) hb); replace HB := n0_; clear n0_; (try clear hb); (try clear hb2); (try clear hk); (try clear hi)) | (go_at_call 101; (with_reducible refine (spec_l1In.calls a1 1 4 true _ A5.out).mono ?_); rintro e w' ⟨rfl, ⟨nd, rfl⟩⟩) | (go_at_call 175; (with_reducible refine (spec_l3Plain.calls k _ _ l0 t111 _ ?side1 ?side2 A9.out).mono ?_); (case side1 => repeat (first | exact (Kd.C_below HR0.out (bw HB.out)) | (with_reducible refine Kd.C_alloc ?_ _) | (with_reducible refine Kd.C_drewN ?_ _) | (with_reducible refine Kd.C_drew ?_))); (case side2 => exact HC0.out); rintro e w' ⟨rfl, ⟨nd, rfl⟩⟩))
 go_ret
 exact ⟨by first | rfl | (simp [errW_none, errW_some] <;> rfl) | (simp [*, errW_none, errW_some] <;> rfl), bw HB.out⟩

/-! ### spec_l3Both: function 77 -/
def spec_l3Both.f (k : Nat) (l0 : List (S89)) (l1 : List Int) (a2 : Int) : Option (Bool) := (spec_l3Ruled.f k l0 a2).bind fun t115 => (if t115 = true then ((spec_l2Order.f k (l0.length : Int) l1).bind fun t116 => (some t116)) else (some false))
theorem spec_l3Both.mono : ∀ a0 a1 a2 k, LeO (spec_l3Both.f k a0 a1 a2) (spec_l3Both.f (k + 1) a0 a1 a2) := by
 intro a0 a1 a2 k
 unfold spec_l3Both.f
 repeat' first
   | (with_reducible exact spec_l2Order.mono _ _ _)
   | (with_reducible exact spec_l3Ruled.mono _ _ _)
   | (with_reducible exact LeO.refl _)
   | (with_reducible exact LeO.none _)
   | (with_reducible refine LeO.ite ?_ ?_)
   | (with_reducible refine LeO.bind ?_ (fun _ => ?_))
   | exact spec_l2Order.mono _ _ _
   | exact spec_l3Ruled.mono _ _ _
   | exact LeO.none _
   | refine LeO.ite ?_ ?_
   | refine LeO.bind ?_ (fun _ => ?_)
set_option maxHeartbeats 8000000 in
set_option maxRecDepth 100000 in
theorem spec_l3Both.calls (k : Nat) (A0 : Option Addr) (c0 : Nat) (l0 : List (S89)) (A1 : Option Addr) (c1 : Nat) (l1 : List Int) (a2 : Int) (r : Bool) (w : World) (hr0 : Kd.C k89 w A0 l0.length l0) (hc0 : l0.length ≤ c0) (hr1 : Kd.C (Kd.int .i64) w A1 l1.length l1) (hc1 : l1.length ≤ c1) (h : spec_l3Both.f k l0 l1 a2 = some r) :
  Calls Try.prog 77 #[.slice A0 l0.length c0, .slice A1 l1.length c1, .int .i64 a2] w fun e w' => e = .returned (.bool r) ∧ Below w.heap.size w w' := by
 have HR0 := Aside0.mk hr0
 have HC0 := Aside0.mk hc0
 clear hr0 hc0
 have HR1 := Aside0.mk hr1
 have HC1 := Aside0.mk hc1
 clear hr1 hc1
 have HB := Aside0.mk (Below.refl w.heap.size w)
 have H : ((spec_l3Ruled.f k l0 a2).bind fun t115 => (if t115 = true then ((spec_l2Order.f k (l0.length : Int) l1).bind fun t116 => (some t116)) else (some false))) = some r := h
 clear h
 replace H := Option.bind_eq_some_iff.mp H
 obtain ⟨t115, A40, H⟩ := H
 replace H : (if t115 = true then ((spec_l2Order.f k (l0.length : Int) l1).bind fun t116 => (some t116)) else (some false)) = some r := H
 have A4 := Aside0.mk A40
 clear A40
 by_cases c5 : t115 = true
 rotate_left
 ·replace c5 := Bool.eq_false_iff.mpr c5
  subst c5
  have H1 : (some false) = some r := by rw [if_neg (show ¬ (false = true) by decide)] at H; exact H
  clear H
  have H := H1
  clear H1
  obtain rfl := Option.some.inj H
  go_enter Try.func77, Try.ntmps77
  go_wp2_with (first | ((with_reducible refine gate_callee (f := 140) rfl ?_); refine goesL_ (some 9) rfl rfl Try.func140 (by kernel_rfl) rfl #[.slice A0 l0.length c0, .int .i64 a2] rfl (by (try simp only [mA_]); first | done | rfl | (simp only [List.length_drop, List.length_take]; rfl)) ?_; (with_reducible refine (spec_l3Ruled.calls k _ _ l0 a2 false _ ?side1 ?side2 A4.out).mono ?_); (case side1 => repeat (first | exact HR0.out | (with_reducible refine Kd.C_alloc ?_ _) | (with_reducible refine Kd.C_drewN ?_ _) | (with_reducible refine Kd.C_drew ?_))); (case side2 => exact HC0.out); rintro e w8 ⟨rfl, hb⟩; refine ⟨_, rfl, ?_⟩; have n0_ := Aside0.mk (below_step (bw HB.out) hb); replace HB := n0_; clear n0_; (try clear hb); (try clear hb2); (try clear hk); (try clear hi)))
  go_ret
  exact ⟨by first | rfl | (simp [errW_none, errW_some] <;> rfl) | (simp [*, errW_none, errW_some] <;> rfl), bw HB.out⟩
 subst c5
 have H1 : ((spec_l2Order.f k (l0.length : Int) l1).bind fun t116 => (some t116)) = some r := by rw [if_pos rfl] at H; exact H
 clear H
 have H := H1
 clear H1
 replace H := Option.bind_eq_some_iff.mp H
 obtain ⟨t116, A60, H⟩ := H
 replace H : (some t116) = some r := H
 have A6 := Aside0.mk A60
 clear A60
 obtain rfl := Option.some.inj H
 go_enter Try.func77, Try.ntmps77
 go_wp2_with (first | ((with_reducible refine gate_callee (f := 140) rfl ?_); refine goesL_ (some 9) rfl rfl Try.func140 (by kernel_rfl) rfl #[.slice A0 l0.length c0, .int .i64 a2] rfl (by (try simp only [mA_]); first | done | rfl | (simp only [List.length_drop, List.length_take]; rfl)) ?_; (with_reducible refine (spec_l3Ruled.calls k _ _ l0 a2 true _ ?side1 ?side2 A4.out).mono ?_); (case side1 => repeat (first | exact HR0.out | (with_reducible refine Kd.C_alloc ?_ _) | (with_reducible refine Kd.C_drewN ?_ _) | (with_reducible refine Kd.C_drew ?_))); (case side2 => exact HC0.out); rintro e w7 ⟨rfl, hb⟩; refine ⟨_, rfl, ?_⟩; have n0_ := Aside0.mk (below_step (bw HB.out) hb); replace HB := n0_; clear n0_; (try clear hb); (try clear hb2); (try clear hk); (try clear hi)) | (go_at_call 141; (with_reducible refine (spec_l2Order.calls k (l0.length : Int) _ _ l1 t116 _ ?side1 ?side2 A6.out).mono ?_); (case side1 => first | exact bC HR1.out HB.out | exact Kd.C_below HR1.out HB.out); (case side2 => exact HC1.out); rintro e w' ⟨rfl, ⟨nd, rfl⟩⟩))
 go_ret
 exact ⟨by first | rfl | (simp [errW_none, errW_some] <;> rfl) | (simp [*, errW_none, errW_some] <;> rfl), bw HB.out⟩

/-! ### spec_l3Gap: function 79 -/
abbrev q79_0 : Array Bool := ⟨rl_ [12] false⟩
abbrev q79_7 : Array Bool := ⟨rl_ [7, 5] true⟩
abbrev q79_8 : Array Bool := ⟨rl_ [8, 4] true⟩
abbrev q79_9 : Array Bool := ⟨rl_ [10, 2] true⟩
abbrev q79_10 : Array Bool := ⟨rl_ [9, 3] true⟩
abbrev q79_11 : Array Bool := ⟨rl_ [8, 1, 1, 2] true⟩
abbrev q79_12 : Array Bool := ⟨rl_ [11, 1] true⟩
abbrev q79_13 : Array Bool := ⟨rl_ [12] true⟩
def spec_l3Gap.f (l0 : List (S89)) (a1 : Int) (a2 : Int) (a3 : Int) : Option (Int) := if 0 ≤ a2 then (if a2 < (l0.length : Int) then (if 0 ≤ a3 then (if a3 < (l0.length : Int) then (if a1 = 1 then (some (wrap64 (((rd_T89 l0 a2).f2) - ((rd_T89 l0 a3).f2)))) else (if a1 = 2 then (some (wrap64 (((rd_T89 l0 a2).f0) - ((rd_T89 l0 a3).f0)))) else (if a1 = 3 then (some (wrap64 ((wrap64 (((rd_T89 l0 a2).f0) * ((rd_T89 l0 a3).f1))) - (wrap64 (((rd_T89 l0 a3).f0) * ((rd_T89 l0 a2).f1)))))) else (some (wrap64 (((rd_T89 l0 a2).f3) - ((rd_T89 l0 a3).f3))))))) else (none)) else (none)) else (none)) else (none)
def spec_l3Gap.T1 : Bool × List (List Nat × List Nat) := (true, [([], []), ([], []), ([0, 1], [0, 1]), ([2], [2]), ([], []), ([], []), ([4, 5], [4, 5]), ([6], [6]), ([], []), ([], []), ([8, 3, 0, 1, 2, 3, 8, 9], [3, 8]), ([9, 7, 10, 0, 1, 2, 3, 4, 5, 6, 7, 8, 9, 10], [7, 9])])
def spec_l3Gap.B1 : List Nat := [0, 0, 3, 7, 0, 0, 48, 112, 0, 0, 783, 2047]
theorem spec_l3Gap.tab1 : rtab .any (opsOf Try.f79 1) = spec_l3Gap.T1 := by kernel_rfl
theorem spec_l3Gap.bits1 : waitsOk spec_l3Gap.T1.2 spec_l3Gap.B1 = true := by kernel_rfl
set_option maxHeartbeats 8000000 in
set_option maxRecDepth 100000 in
theorem spec_l3Gap.calls (A0 : Option Addr) (c0 : Nat) (l0 : List (S89)) (a1 : Int) (a2 : Int) (a3 : Int) (r : Int) (w : World) (hr0 : Kd.C k89 w A0 l0.length l0) (hc0 : l0.length ≤ c0) (h : spec_l3Gap.f l0 a1 a2 a3 = some r) :
  Calls Try.prog 79 #[.slice A0 l0.length c0, .int .i64 a1, .int .i64 a2, .int .i64 a3] w fun e w' => e = .returned (.int .i64 r) ∧ Below w.heap.size w w' := by
 have hu89 := Try.underlying89
 have HR0 := Aside0.mk hr0
 have HC0 := Aside0.mk hc0
 clear hr0 hc0
 have HB := Aside0.mk (Below.refl w.heap.size w)
 have H : (if 0 ≤ a2 then (if a2 < (l0.length : Int) then (if 0 ≤ a3 then (if a3 < (l0.length : Int) then (if a1 = 1 then (some (wrap64 (((rd_T89 l0 a2).f2) - ((rd_T89 l0 a3).f2)))) else (if a1 = 2 then (some (wrap64 (((rd_T89 l0 a2).f0) - ((rd_T89 l0 a3).f0)))) else (if a1 = 3 then (some (wrap64 ((wrap64 (((rd_T89 l0 a2).f0) * ((rd_T89 l0 a3).f1))) - (wrap64 (((rd_T89 l0 a3).f0) * ((rd_T89 l0 a2).f1)))))) else (some (wrap64 (((rd_T89 l0 a2).f3) - ((rd_T89 l0 a3).f3))))))) else (none)) else (none)) else (none)) else (none)) = some r := h
 clear h
 by_cases c5 : 0 ≤ a2
 rotate_left
 ·rw [if_neg c5] at H
  exact absurd H (by simp)
 rw [if_pos c5] at H
 have c5b0 : decide (0 ≤ a2) = true := decide_eq_true c5
 clear c5
 by_cases c6 : a2 < (l0.length : Int)
 rotate_left
 ·rw [if_neg c6] at H
  exact absurd H (by simp)
 rw [if_pos c6] at H
 have c6b0 : decide (a2 < (l0.length : Int)) = true := decide_eq_true c6
 clear c6
 by_cases c7 : 0 ≤ a3
 rotate_left
 ·rw [if_neg c7] at H
  exact absurd H (by simp)
 rw [if_pos c7] at H
 have c7b0 : decide (0 ≤ a3) = true := decide_eq_true c7
 clear c7
 by_cases c8 : a3 < (l0.length : Int)
 rotate_left
 ·rw [if_neg c8] at H
  exact absurd H (by simp)
 rw [if_pos c8] at H
 have c8b0 : decide (a3 < (l0.length : Int)) = true := decide_eq_true c8
 clear c8
 by_cases c9 : a1 = 1
 ·rw [if_pos c9] at H
  have c9b0 : (a1 == 1) = true := beq_iff_eq.mpr c9
  have c9b1 : (a1 != 1) = false := bne_eq_false_iff_eq.mpr c9
  clear c9
  obtain rfl := Option.some.inj H
  go_enter Try.func79, Try.ntmps79
  try go_wp2
  have n0_ := Aside0.mk (below_drew1 HB.out)
  replace HB := n0_
  clear n0_
  have p117 : 0 ≤ (a2 : Int) := of_decide_eq_true (by first | (with_reducible assumption) | assumption)
  have q117 : a2 < (l0.length : Int) := of_decide_eq_true (by first | (with_reducible assumption) | assumption)
  obtain ⟨ad117, e117, hx117_0, hx117_1, hx117_2, hx117_3⟩ := at_T89 HR0.out a2 p117 q117
  have hw117_3 := hx117_3
  have hw117_2 := hx117_2
  have hw117_1 := hx117_1
  have hw117_0 := hx117_0
  cases e117
  replace hx117_0 := (HB.out.cell (World.block_lt_of_cell? w _ hx117_0)).trans hx117_0
  replace hx117_1 := (HB.out.cell (World.block_lt_of_cell? w _ hx117_1)).trans hx117_1
  replace hx117_2 := (HB.out.cell (World.block_lt_of_cell? w _ hx117_2)).trans hx117_2
  replace hx117_3 := (HB.out.cell (World.block_lt_of_cell? w _ hx117_3)).trans hx117_3
  replace p117 := eq_true p117
  replace q117 := eq_true q117
  have p118 : 0 ≤ (a3 : Int) := of_decide_eq_true (by first | (with_reducible assumption) | assumption)
  have q118 : a3 < (l0.length : Int) := of_decide_eq_true (by first | (with_reducible assumption) | assumption)
  obtain ⟨ad118, e118, hx118_0, hx118_1, hx118_2, hx118_3⟩ := at_T89 HR0.out a3 p118 q118
  have hw118_3 := hx118_3
  have hw118_2 := hx118_2
  have hw118_1 := hx118_1
  have hw118_0 := hx118_0
  obtain rfl : ad117 = ad118 := (by injection e118)
  replace hx118_0 := (HB.out.cell (World.block_lt_of_cell? w _ hx118_0)).trans hx118_0
  replace hx118_1 := (HB.out.cell (World.block_lt_of_cell? w _ hx118_1)).trans hx118_1
  replace hx118_2 := (HB.out.cell (World.block_lt_of_cell? w _ hx118_2)).trans hx118_2
  replace hx118_3 := (HB.out.cell (World.block_lt_of_cell? w _ hx118_3)).trans hx118_3
  replace p118 := eq_true p118
  replace q118 := eq_true q118
  refine start_ (n := 12) (S := fun w' => w'.cell? (ad117.add ((a2).toNat * 4)) = some (.int .i64 ((rd_T89 l0 a2).f0)) ∧ w'.cell? ⟨(ad117.add ((a2).toNat * 4)).block, (ad117.add ((a2).toNat * 4)).off + 1, none⟩ = some (.int .i64 ((rd_T89 l0 a2).f1)) ∧ w'.cell? ⟨(ad117.add ((a2).toNat * 4)).block, (ad117.add ((a2).toNat * 4)).off + 2, none⟩ = some (.int .i64 ((rd_T89 l0 a2).f2)) ∧ w'.cell? ⟨(ad117.add ((a2).toNat * 4)).block, (ad117.add ((a2).toNat * 4)).off + 3, none⟩ = some (.int .i64 ((rd_T89 l0 a2).f3)) ∧ w'.cell? (ad117.add ((a3).toNat * 4)) = some (.int .i64 ((rd_T89 l0 a3).f0)) ∧ w'.cell? ⟨(ad117.add ((a3).toNat * 4)).block, (ad117.add ((a3).toNat * 4)).off + 1, none⟩ = some (.int .i64 ((rd_T89 l0 a3).f1)) ∧ w'.cell? ⟨(ad117.add ((a3).toNat * 4)).block, (ad117.add ((a3).toNat * 4)).off + 2, none⟩ = some (.int .i64 ((rd_T89 l0 a3).f2)) ∧ w'.cell? ⟨(ad117.add ((a3).toNat * 4)).block, (ad117.add ((a3).toNat * 4)).off + 3, none⟩ = some (.int .i64 ((rd_T89 l0 a3).f3))) (ds := []) q79_0 (by kernel_rfl) rfl rfl ⟨(bcl_ HB.out hw117_0 :), (bcl_ HB.out hw117_1 :), (bcl_ HB.out hw117_2 :), (bcl_ HB.out hw117_3 :), (bcl_ HB.out hw118_0 :), (bcl_ HB.out hw118_1 :), (bcl_ HB.out hw118_2 :), (bcl_ HB.out hw118_3 :)⟩ (fun hHeld => ?_); refine with_tabW spec_l3Gap.tab1 spec_l3Gap.bits1 (fun HT_ HW_ => ?_)
  generalize w.drew = w10 at HB hx117_0 hx117_1 hx117_2 hx117_3 hx118_0 hx118_1 hx118_2 hx118_3 hHeld ⊢
  refine pup_ (i := 0) (N := some 11) HT_ rfl rfl (by kernel_rfl) (fun _ _ _ h => h) (Or.inl ⟨by rfl, by intro w'; go_simp; with_reducible rfl⟩) (by simp only [aq_]; rfl) ?_
  refine pup_ (i := 1) (N := some 12) HT_ rfl rfl (by kernel_rfl) (fun _ _ _ h => h) (Or.inl ⟨by rfl, by intro w'; go_simp; with_reducible rfl⟩) (by simp only [aq_]; rfl) ?_
  refine pup_ (i := 2) (N := some 13) HT_ rfl rfl (by kernel_rfl) (fun _ _ _ h => h) (Or.inl ⟨by rfl, by intro w'; go_simp; with_reducible rfl⟩) (by simp only [aq_]; rfl) ?_
  refine pup_ (i := 4) (N := some 15) HT_ rfl rfl (by kernel_rfl) (fun _ _ _ h => h) (Or.inl ⟨by rfl, by intro w'; go_simp; with_reducible rfl⟩) (by simp only [aq_]; rfl) ?_
  refine pup_ (i := 5) (N := some 16) HT_ rfl rfl (by kernel_rfl) (fun _ _ _ h => h) (Or.inl ⟨by rfl, by intro w'; go_simp; with_reducible rfl⟩) (by simp only [aq_]; rfl) ?_
  refine pup_ (i := 6) (N := some 17) HT_ rfl rfl (by kernel_rfl) (fun _ _ _ h => h) (Or.inl ⟨by rfl, by intro w'; go_simp; with_reducible rfl⟩) (by simp only [aq_]; rfl) ?_
  refine take_ (i := 3) (N := some 14) (v := ?_) (a' := ?_) q79_7 rfl rfl (take_ofW HT_.out HW_.out (by kernel_rfl)) (fun _ _ _ h => h) (Or.inl ⟨by rfl, ?_⟩) hHeld ?_ ?_
  rotate_left
  ·rintro w' ⟨s0, s1, s2, s3, s4, s5, s6, s7⟩
   go_simp
   with_reducible rfl
  rotate_left
  ·simp only [aq_]
   rfl
  refine take_ (i := 7) (N := some 18) (v := ?_) (a' := ?_) q79_8 rfl rfl (take_ofW HT_.out HW_.out (by kernel_rfl)) (fun _ _ _ h => h) (Or.inl ⟨by rfl, ?_⟩) hHeld ?_ ?_
  rotate_left
  ·rintro w' ⟨s0, s1, s2, s3, s4, s5, s6, s7⟩
   go_simp
   with_reducible rfl
  rotate_left
  ·simp only [aq_]
   rfl
  refine join_ (σ := Nat × Nat) 2 q79_9 (fun s_ => [(9, .pointer (some ⟨s_.1, 0, none⟩)), (10, .pointer (some ⟨s_.2, 0, none⟩))]) (fun s_ w' => (w'.cell? (ad117.add ((a2).toNat * 4)) = some (.int .i64 ((rd_T89 l0 a2).f0)) ∧ w'.cell? ⟨(ad117.add ((a2).toNat * 4)).block, (ad117.add ((a2).toNat * 4)).off + 1, none⟩ = some (.int .i64 ((rd_T89 l0 a2).f1)) ∧ w'.cell? ⟨(ad117.add ((a2).toNat * 4)).block, (ad117.add ((a2).toNat * 4)).off + 2, none⟩ = some (.int .i64 ((rd_T89 l0 a2).f2)) ∧ w'.cell? ⟨(ad117.add ((a2).toNat * 4)).block, (ad117.add ((a2).toNat * 4)).off + 3, none⟩ = some (.int .i64 ((rd_T89 l0 a2).f3)) ∧ w'.cell? (ad117.add ((a3).toNat * 4)) = some (.int .i64 ((rd_T89 l0 a3).f0)) ∧ w'.cell? ⟨(ad117.add ((a3).toNat * 4)).block, (ad117.add ((a3).toNat * 4)).off + 1, none⟩ = some (.int .i64 ((rd_T89 l0 a3).f1)) ∧ w'.cell? ⟨(ad117.add ((a3).toNat * 4)).block, (ad117.add ((a3).toNat * 4)).off + 2, none⟩ = some (.int .i64 ((rd_T89 l0 a3).f2)) ∧ w'.cell? ⟨(ad117.add ((a3).toNat * 4)).block, (ad117.add ((a3).toNat * 4)).off + 3, none⟩ = some (.int .i64 ((rd_T89 l0 a3).f3))) ∧ (w'.heap[s_.1]? = some (.cells #[.int .i64 0, .int .i64 0, .int .i64 0, .int .i64 0] 89 (0, 0))) ∧ (w'.heap[s_.2]? = some (.cells #[.int .i64 0, .int .i64 0, .int .i64 0, .int .i64 0] 89 (0, 0))) ∧ (w.heap.size ≤ s_.1) ∧ (w.heap.size ≤ s_.1) ∧ (s_.2 ≠ s_.1) ∧ (s_.1 ≠ s_.2) ∧ (w.heap.size ≤ s_.2) ∧ (w.heap.size ≤ s_.2) ∧ (Below w.heap.size w w')) ?_ ?_
  rotate_left
  ·intro hCont
   refine two_ (i := 8) (j := 9) (Ni := some 9) (Nj := some 10) q79_10 q79_11 rfl rfl rfl rfl (two_of HT_.out (by kernel_rfl)) (by decide) (by decide) (fun K hK => ?_) (fun K hK => ?_)
   ·skip
    refine box_step ?hg (N := 9) ?hd (cs := #[.int .i64 0, .int .i64 0, .int .i64 0, .int .i64 0]) (t := 89) ?hr ?_; (case hd => rfl); (case hg => rfl); (case hr => first | (go_simp; done) | (go_simp; rfl))
    intro gb119 hg w11 hbox hb
    have n0_ := Aside0.mk (below_step (bw HB.out) hb)
    have n1_ := Aside0.mk (hbox)
    have n2_ := ge_ hg HB.out
    have n3_ := ge_ hg HB.out
    replace HB := n0_
    have BK119 := n1_
    have GW119 := n2_
    have GE119 := n3_
    clear n0_ n1_ n2_ n3_
    clear hb hbox hg
    refine hK.out _ _ ⟨(bcl_ HB.out hw117_0 :), (bcl_ HB.out hw117_1 :), (bcl_ HB.out hw117_2 :), (bcl_ HB.out hw117_3 :), (bcl_ HB.out hw118_0 :), (bcl_ HB.out hw118_1 :), (bcl_ HB.out hw118_2 :), (bcl_ HB.out hw118_3 :)⟩ (fun hHeld => ?_)
    clear hK K
    refine norm_ (a' := ?_) ?_ ?_
    rotate_left
    ·show Act.put _ (some 9) _ = _
     simp only [aq_]
     rfl
    refine one_ (i := 9) (N := some 10) q79_9 rfl rfl (one_of HT_.out (by kernel_rfl)) (by decide) (fun K hK => ?_)
    refine box_step ?hg (N := 10) ?hd (cs := #[.int .i64 0, .int .i64 0, .int .i64 0, .int .i64 0]) (t := 89) ?hr ?_; (case hd => rfl); (case hg => rfl); (case hr => first | (go_simp; done) | (go_simp; rfl))
    intro gb120 hg w12 hbox hb
    have n0_ := Aside0.mk (blk_below (bs BK119.out) hb)
    have n1_ := Aside0.mk (below_step (by repeat (first | (with_reducible first | exact bw HB.out | refine bset ?_ | apply bA | apply bN | apply bD) | exact HB.out)) hb)
    have n2_ := Aside0.mk (hbox)
    have n3_ := Aside0.mk ((by rw [hg]; exact (below_size (by repeat (first | (with_reducible first | exact bw HB.out | refine bset ?_ | apply bA | apply bN | apply bD) | exact HB.out))) : w.heap.size ≤ gb120))
    have n4_ := Aside0.mk ((by rw [hg]; exact (below_size (by repeat (first | (with_reducible first | exact bw HB.out | refine bset ?_ | apply bA | apply bN | apply bD) | exact HB.out))) : w.heap.size ≤ gb120))
    have n5_ := ne_ hg BK119.out
    have n6_ := en_ hg BK119.out
    replace BK119 := n0_
    replace HB := n1_
    have BK120 := n2_
    have GW120 := n3_
    have GE120 := n4_
    have NB119_120 := n5_
    have NB120_119 := n6_
    clear n0_ n1_ n2_ n3_ n4_ n5_ n6_
    clear hb hbox hg
    refine hK.out _ _ ⟨(bcl_ HB.out hw117_0 :), (bcl_ HB.out hw117_1 :), (bcl_ HB.out hw117_2 :), (bcl_ HB.out hw117_3 :), (bcl_ HB.out hw118_0 :), (bcl_ HB.out hw118_1 :), (bcl_ HB.out hw118_2 :), (bcl_ HB.out hw118_3 :)⟩ (fun hHeld => ?_)
    clear hK K
    refine norm_ (a' := ?_) ?_ ?_
    rotate_left
    ·show Act.put _ (some 10) _ = _
     simp only [aq_]
     rfl
    exact norm_ (by simp only [putAll, Act.put, List.setIfInBounds_toArray, List.set_cons_zero, List.set_cons_succ]) (hCont (gb119, gb120) _ ⟨hHeld, (bs BK119.out), (bs BK120.out), GW119.out, GE119.out, NB120_119.out, NB119_120.out, GW120.out, GE120.out, (by repeat (first | (with_reducible first | exact bw HB.out | refine bset ?_ | apply bA | apply bN | apply bD) | exact HB.out))⟩)
   ·skip
    refine box_step ?hg (N := 10) ?hd (cs := #[.int .i64 0, .int .i64 0, .int .i64 0, .int .i64 0]) (t := 89) ?hr ?_; (case hd => rfl); (case hg => rfl); (case hr => first | (go_simp; done) | (go_simp; rfl))
    intro gb120 hg w11 hbox hb
    have n0_ := Aside0.mk (below_step (bw HB.out) hb)
    have n1_ := Aside0.mk (hbox)
    have n2_ := ge_ hg HB.out
    have n3_ := ge_ hg HB.out
    replace HB := n0_
    have BK120 := n1_
    have GW120 := n2_
    have GE120 := n3_
    clear n0_ n1_ n2_ n3_
    clear hb hbox hg
    refine hK.out _ _ ⟨(bcl_ HB.out hw117_0 :), (bcl_ HB.out hw117_1 :), (bcl_ HB.out hw117_2 :), (bcl_ HB.out hw117_3 :), (bcl_ HB.out hw118_0 :), (bcl_ HB.out hw118_1 :), (bcl_ HB.out hw118_2 :), (bcl_ HB.out hw118_3 :)⟩ (fun hHeld => ?_)
    clear hK K
    refine norm_ (a' := ?_) ?_ ?_
    rotate_left
    ·show Act.put _ (some 10) _ = _
     simp only [aq_]
     rfl
    refine one_ (i := 8) (N := some 9) q79_9 rfl rfl (one_of HT_.out (by kernel_rfl)) (by decide) (fun K hK => ?_)
    refine box_step ?hg (N := 9) ?hd (cs := #[.int .i64 0, .int .i64 0, .int .i64 0, .int .i64 0]) (t := 89) ?hr ?_; (case hd => rfl); (case hg => rfl); (case hr => first | (go_simp; done) | (go_simp; rfl))
    intro gb119 hg w12 hbox hb
    have n0_ := Aside0.mk (blk_below (bs BK120.out) hb)
    have n1_ := Aside0.mk (below_step (by repeat (first | (with_reducible first | exact bw HB.out | refine bset ?_ | apply bA | apply bN | apply bD) | exact HB.out)) hb)
    have n2_ := Aside0.mk (hbox)
    have n3_ := Aside0.mk ((by rw [hg]; exact (below_size (by repeat (first | (with_reducible first | exact bw HB.out | refine bset ?_ | apply bA | apply bN | apply bD) | exact HB.out))) : w.heap.size ≤ gb119))
    have n4_ := Aside0.mk ((by rw [hg]; exact (below_size (by repeat (first | (with_reducible first | exact bw HB.out | refine bset ?_ | apply bA | apply bN | apply bD) | exact HB.out))) : w.heap.size ≤ gb119))
    have n5_ := ne_ hg BK120.out
    have n6_ := en_ hg BK120.out
    replace BK120 := n0_
    replace HB := n1_
    have BK119 := n2_
    have GW119 := n3_
    have GE119 := n4_
    have NB120_119 := n5_
    have NB119_120 := n6_
    clear n0_ n1_ n2_ n3_ n4_ n5_ n6_
    clear hb hbox hg
    refine hK.out _ _ ⟨(bcl_ HB.out hw117_0 :), (bcl_ HB.out hw117_1 :), (bcl_ HB.out hw117_2 :), (bcl_ HB.out hw117_3 :), (bcl_ HB.out hw118_0 :), (bcl_ HB.out hw118_1 :), (bcl_ HB.out hw118_2 :), (bcl_ HB.out hw118_3 :)⟩ (fun hHeld => ?_)
    clear hK K
    refine norm_ (a' := ?_) ?_ ?_
    rotate_left
    ·show Act.put _ (some 9) _ = _
     simp only [aq_]
     rfl
    exact norm_ (by simp only [putAll, Act.put, List.setIfInBounds_toArray, List.set_cons_zero, List.set_cons_succ]) (hCont (gb119, gb120) _ ⟨hHeld, (bs BK119.out), (bs BK120.out), GW119.out, GE119.out, NB120_119.out, NB119_120.out, GW120.out, GE120.out, (by repeat (first | (with_reducible first | exact bw HB.out | refine bset ?_ | apply bA | apply bN | apply bD) | exact HB.out))⟩)
  rintro ⟨gb119, gb120⟩ w13 ⟨hS_, h0_, h1_, h2_, h3_, h4_, h5_, h6_, h7_, h8_⟩
  have n0_ : Aside0 (w13.heap[gb119]? = some (.cells #[.int .i64 0, .int .i64 0, .int .i64 0, .int .i64 0] 89 (0, 0))) := ⟨h0_⟩
  have n1_ : Aside0 (w13.heap[gb120]? = some (.cells #[.int .i64 0, .int .i64 0, .int .i64 0, .int .i64 0] 89 (0, 0))) := ⟨h1_⟩
  have n2_ : Aside0 (w.heap.size ≤ gb119) := ⟨h2_⟩
  have n3_ : Aside0 (w.heap.size ≤ gb119) := ⟨h3_⟩
  have n4_ : Aside0 (gb120 ≠ gb119) := ⟨h4_⟩
  have n5_ : Aside0 (gb119 ≠ gb120) := ⟨h5_⟩
  have n6_ : Aside0 (w.heap.size ≤ gb120) := ⟨h6_⟩
  have n7_ : Aside0 (w.heap.size ≤ gb120) := ⟨h7_⟩
  have n8_ : Aside0 (Below w.heap.size w w13) := ⟨h8_⟩
  clear HB
  clear h0_ h1_ h2_ h3_ h4_ h5_ h6_ h7_ h8_
  have BK119 := n0_
  have BK120 := n1_
  have GW119 := n2_
  have GE119 := n3_
  have NB120_119 := n4_
  have NB119_120 := n5_
  have GW120 := n6_
  have GE120 := n7_
  have HB := n8_
  clear n0_ n1_ n2_ n3_ n4_ n5_ n6_ n7_ n8_
  have hHeld : w13.cell? (ad117.add ((a2).toNat * 4)) = some (.int .i64 ((rd_T89 l0 a2).f0)) ∧ w13.cell? ⟨(ad117.add ((a2).toNat * 4)).block, (ad117.add ((a2).toNat * 4)).off + 1, none⟩ = some (.int .i64 ((rd_T89 l0 a2).f1)) ∧ w13.cell? ⟨(ad117.add ((a2).toNat * 4)).block, (ad117.add ((a2).toNat * 4)).off + 2, none⟩ = some (.int .i64 ((rd_T89 l0 a2).f2)) ∧ w13.cell? ⟨(ad117.add ((a2).toNat * 4)).block, (ad117.add ((a2).toNat * 4)).off + 3, none⟩ = some (.int .i64 ((rd_T89 l0 a2).f3)) ∧ w13.cell? (ad117.add ((a3).toNat * 4)) = some (.int .i64 ((rd_T89 l0 a3).f0)) ∧ w13.cell? ⟨(ad117.add ((a3).toNat * 4)).block, (ad117.add ((a3).toNat * 4)).off + 1, none⟩ = some (.int .i64 ((rd_T89 l0 a3).f1)) ∧ w13.cell? ⟨(ad117.add ((a3).toNat * 4)).block, (ad117.add ((a3).toNat * 4)).off + 2, none⟩ = some (.int .i64 ((rd_T89 l0 a3).f2)) ∧ w13.cell? ⟨(ad117.add ((a3).toNat * 4)).block, (ad117.add ((a3).toNat * 4)).off + 3, none⟩ = some (.int .i64 ((rd_T89 l0 a3).f3)) := hS_
  refine norm_ (a' := ?_) ?_ ?_
  rotate_left
  ·simp only [putAll, Act.put, List.setIfInBounds_toArray, List.set_cons_zero, List.set_cons_succ]
   rfl
  refine one_ (i := 10) (N := none) q79_12 rfl rfl (one_of HT_.out (by kernel_rfl)) (by decide) (fun K hK => ?_)
  have hs14 : w13.cell? ⟨gb119, 0, none⟩ = some (.int .i64 0) := (blk_cell BK119.out 0).trans rfl
  have hfs14 := blk_frozen BK119.out 0
  have hns14_1 := NB120_119.out
  have hms14_1 := NB119_120.out
  have hs15 : w13.cell? ⟨gb119, 1, none⟩ = some (.int .i64 0) := (blk_cell BK119.out 1).trans rfl
  have hfs15 := blk_frozen BK119.out 1
  have hns15_1 := NB120_119.out
  have hms15_1 := NB119_120.out
  have hs16 : w13.cell? ⟨gb119, 2, none⟩ = some (.int .i64 0) := (blk_cell BK119.out 2).trans rfl
  have hfs16 := blk_frozen BK119.out 2
  have hns16_1 := NB120_119.out
  have hms16_1 := NB119_120.out
  have hs17 : w13.cell? ⟨gb119, 3, none⟩ = some (.int .i64 0) := (blk_cell BK119.out 3).trans rfl
  have hfs17 := blk_frozen BK119.out 3
  have hns17_1 := NB120_119.out
  have hms17_1 := NB119_120.out
  refine skip_ (w1 := ?_) (by rfl) rfl ?_ ?_
  rotate_left
  ·go_simp
   rfl
  refine hK.out _ _ ⟨((cell_far (p := ⟨gb119, _, none⟩) (bne_ hw117_0 GW119.out) _).trans (((cell_far (p := ⟨gb119, _, none⟩) (bne_ hw117_0 GW119.out) _).trans (((cell_far (p := ⟨gb119, _, none⟩) (bne_ hw117_0 GW119.out) _).trans (((cell_far (p := ⟨gb119, _, none⟩) (bne_ hw117_0 GW119.out) _).trans (hHeld.1)))))))), ((cell_far (p := ⟨gb119, _, none⟩) (bne_ hw117_1 GW119.out) _).trans (((cell_far (p := ⟨gb119, _, none⟩) (bne_ hw117_1 GW119.out) _).trans (((cell_far (p := ⟨gb119, _, none⟩) (bne_ hw117_1 GW119.out) _).trans (((cell_far (p := ⟨gb119, _, none⟩) (bne_ hw117_1 GW119.out) _).trans (hHeld.2.1)))))))), ((cell_far (p := ⟨gb119, _, none⟩) (bne_ hw117_2 GW119.out) _).trans (((cell_far (p := ⟨gb119, _, none⟩) (bne_ hw117_2 GW119.out) _).trans (((cell_far (p := ⟨gb119, _, none⟩) (bne_ hw117_2 GW119.out) _).trans (((cell_far (p := ⟨gb119, _, none⟩) (bne_ hw117_2 GW119.out) _).trans (hHeld.2.2.1)))))))), ((cell_far (p := ⟨gb119, _, none⟩) (bne_ hw117_3 GW119.out) _).trans (((cell_far (p := ⟨gb119, _, none⟩) (bne_ hw117_3 GW119.out) _).trans (((cell_far (p := ⟨gb119, _, none⟩) (bne_ hw117_3 GW119.out) _).trans (((cell_far (p := ⟨gb119, _, none⟩) (bne_ hw117_3 GW119.out) _).trans (hHeld.2.2.2.1)))))))), ((cell_far (p := ⟨gb119, _, none⟩) (bne_ hw118_0 GW119.out) _).trans (((cell_far (p := ⟨gb119, _, none⟩) (bne_ hw118_0 GW119.out) _).trans (((cell_far (p := ⟨gb119, _, none⟩) (bne_ hw118_0 GW119.out) _).trans (((cell_far (p := ⟨gb119, _, none⟩) (bne_ hw118_0 GW119.out) _).trans (hHeld.2.2.2.2.1)))))))), ((cell_far (p := ⟨gb119, _, none⟩) (bne_ hw118_1 GW119.out) _).trans (((cell_far (p := ⟨gb119, _, none⟩) (bne_ hw118_1 GW119.out) _).trans (((cell_far (p := ⟨gb119, _, none⟩) (bne_ hw118_1 GW119.out) _).trans (((cell_far (p := ⟨gb119, _, none⟩) (bne_ hw118_1 GW119.out) _).trans (hHeld.2.2.2.2.2.1)))))))), ((cell_far (p := ⟨gb119, _, none⟩) (bne_ hw118_2 GW119.out) _).trans (((cell_far (p := ⟨gb119, _, none⟩) (bne_ hw118_2 GW119.out) _).trans (((cell_far (p := ⟨gb119, _, none⟩) (bne_ hw118_2 GW119.out) _).trans (((cell_far (p := ⟨gb119, _, none⟩) (bne_ hw118_2 GW119.out) _).trans (hHeld.2.2.2.2.2.2.1)))))))), ((cell_far (p := ⟨gb119, _, none⟩) (bne_ hw118_3 GW119.out) _).trans (((cell_far (p := ⟨gb119, _, none⟩) (bne_ hw118_3 GW119.out) _).trans (((cell_far (p := ⟨gb119, _, none⟩) (bne_ hw118_3 GW119.out) _).trans (((cell_far (p := ⟨gb119, _, none⟩) (bne_ hw118_3 GW119.out) _).trans (hHeld.2.2.2.2.2.2.2))))))))⟩ (fun hHeld => ?_)
  clear hK K
  refine one_ (i := 11) (N := none) q79_13 rfl rfl (one_of HT_.out (by kernel_rfl)) (by decide) (fun K hK => ?_)
  have hs18 : w13.cell? ⟨gb120, 0, none⟩ = some (.int .i64 0) := (blk_cell BK120.out 0).trans rfl
  have hfs18 := blk_frozen BK120.out 0
  have hns18_0 := NB119_120.out
  have hms18_0 := NB120_119.out
  have hs19 : w13.cell? ⟨gb120, 1, none⟩ = some (.int .i64 0) := (blk_cell BK120.out 1).trans rfl
  have hfs19 := blk_frozen BK120.out 1
  have hns19_0 := NB119_120.out
  have hms19_0 := NB120_119.out
  have hs20 : w13.cell? ⟨gb120, 2, none⟩ = some (.int .i64 0) := (blk_cell BK120.out 2).trans rfl
  have hfs20 := blk_frozen BK120.out 2
  have hns20_0 := NB119_120.out
  have hms20_0 := NB120_119.out
  have hs21 : w13.cell? ⟨gb120, 3, none⟩ = some (.int .i64 0) := (blk_cell BK120.out 3).trans rfl
  have hfs21 := blk_frozen BK120.out 3
  have hns21_0 := NB119_120.out
  have hms21_0 := NB120_119.out
  refine skip_ (w1 := ?_) (by rfl) rfl ?_ ?_
  rotate_left
  ·go_simp
   rfl
  refine hK.out _ _ ⟨((cell_far (p := ⟨gb120, _, none⟩) (bne_ hw117_0 GW120.out) _).trans (((cell_far (p := ⟨gb120, _, none⟩) (bne_ hw117_0 GW120.out) _).trans (((cell_far (p := ⟨gb120, _, none⟩) (bne_ hw117_0 GW120.out) _).trans (((cell_far (p := ⟨gb120, _, none⟩) (bne_ hw117_0 GW120.out) _).trans (hHeld.1)))))))), ((cell_far (p := ⟨gb120, _, none⟩) (bne_ hw117_1 GW120.out) _).trans (((cell_far (p := ⟨gb120, _, none⟩) (bne_ hw117_1 GW120.out) _).trans (((cell_far (p := ⟨gb120, _, none⟩) (bne_ hw117_1 GW120.out) _).trans (((cell_far (p := ⟨gb120, _, none⟩) (bne_ hw117_1 GW120.out) _).trans (hHeld.2.1)))))))), ((cell_far (p := ⟨gb120, _, none⟩) (bne_ hw117_2 GW120.out) _).trans (((cell_far (p := ⟨gb120, _, none⟩) (bne_ hw117_2 GW120.out) _).trans (((cell_far (p := ⟨gb120, _, none⟩) (bne_ hw117_2 GW120.out) _).trans (((cell_far (p := ⟨gb120, _, none⟩) (bne_ hw117_2 GW120.out) _).trans (hHeld.2.2.1)))))))), ((cell_far (p := ⟨gb120, _, none⟩) (bne_ hw117_3 GW120.out) _).trans (((cell_far (p := ⟨gb120, _, none⟩) (bne_ hw117_3 GW120.out) _).trans (((cell_far (p := ⟨gb120, _, none⟩) (bne_ hw117_3 GW120.out) _).trans (((cell_far (p := ⟨gb120, _, none⟩) (bne_ hw117_3 GW120.out) _).trans (hHeld.2.2.2.1)))))))), ((cell_far (p := ⟨gb120, _, none⟩) (bne_ hw118_0 GW120.out) _).trans (((cell_far (p := ⟨gb120, _, none⟩) (bne_ hw118_0 GW120.out) _).trans (((cell_far (p := ⟨gb120, _, none⟩) (bne_ hw118_0 GW120.out) _).trans (((cell_far (p := ⟨gb120, _, none⟩) (bne_ hw118_0 GW120.out) _).trans (hHeld.2.2.2.2.1)))))))), ((cell_far (p := ⟨gb120, _, none⟩) (bne_ hw118_1 GW120.out) _).trans (((cell_far (p := ⟨gb120, _, none⟩) (bne_ hw118_1 GW120.out) _).trans (((cell_far (p := ⟨gb120, _, none⟩) (bne_ hw118_1 GW120.out) _).trans (((cell_far (p := ⟨gb120, _, none⟩) (bne_ hw118_1 GW120.out) _).trans (hHeld.2.2.2.2.2.1)))))))), ((cell_far (p := ⟨gb120, _, none⟩) (bne_ hw118_2 GW120.out) _).trans (((cell_far (p := ⟨gb120, _, none⟩) (bne_ hw118_2 GW120.out) _).trans (((cell_far (p := ⟨gb120, _, none⟩) (bne_ hw118_2 GW120.out) _).trans (((cell_far (p := ⟨gb120, _, none⟩) (bne_ hw118_2 GW120.out) _).trans (hHeld.2.2.2.2.2.2.1)))))))), ((cell_far (p := ⟨gb120, _, none⟩) (bne_ hw118_3 GW120.out) _).trans (((cell_far (p := ⟨gb120, _, none⟩) (bne_ hw118_3 GW120.out) _).trans (((cell_far (p := ⟨gb120, _, none⟩) (bne_ hw118_3 GW120.out) _).trans (((cell_far (p := ⟨gb120, _, none⟩) (bne_ hw118_3 GW120.out) _).trans (hHeld.2.2.2.2.2.2.2))))))))⟩ (fun hHeld => ?_)
  clear hK K
  refine done_ (done_of HT_.out (by kernel_rfl)) ?_
  have hnb22 := NB119_120.out
  have hnc22 := NB120_119.out
  obtain ⟨hcz23_0, hcz23_1, hcz23_2, hcz23_3, hfz23_0, hfz23_1, hfz23_2, hfz23_3⟩ := bz4 BK119.out
  obtain ⟨hcz24_0, hcz24_1, hcz24_2, hcz24_3, hfz24_0, hfz24_1, hfz24_2, hfz24_3⟩ := bz4 BK120.out
  try go_wp2
  go_ret
  exact ⟨by first | rfl | (simp [errW_none, errW_some] <;> rfl) | (simp [*, errW_none, errW_some] <;> rfl), by repeat (first | (with_reducible first | exact bw HB.out | refine bset ?_ | apply bA | apply bN | apply bD) | exact HB.out)⟩
 rw [if_neg c9] at H
 have c9b0 : (a1 == 1) = false := beq_eq_false_iff_ne.mpr c9
 have c9b1 : (a1 != 1) = true := bne_iff_ne.mpr c9
 by_cases c25 : a1 = 2
 ·rw [if_pos c25] at H
  have c25b0 : (a1 == 2) = true := beq_iff_eq.mpr c25
  have c25b1 : (a1 != 2) = false := bne_eq_false_iff_eq.mpr c25
  clear c25
  obtain rfl := Option.some.inj H
  go_enter Try.func79, Try.ntmps79
  try go_wp2
  have n0_ := Aside0.mk (below_drew1 HB.out)
  replace HB := n0_
  clear n0_
  have p117 : 0 ≤ (a2 : Int) := of_decide_eq_true (by first | (with_reducible assumption) | assumption)
  have q117 : a2 < (l0.length : Int) := of_decide_eq_true (by first | (with_reducible assumption) | assumption)
  obtain ⟨ad117, e117, hx117_0, hx117_1, hx117_2, hx117_3⟩ := at_T89 HR0.out a2 p117 q117
  have hw117_3 := hx117_3
  have hw117_2 := hx117_2
  have hw117_1 := hx117_1
  have hw117_0 := hx117_0
  cases e117
  replace hx117_0 := (HB.out.cell (World.block_lt_of_cell? w _ hx117_0)).trans hx117_0
  replace hx117_1 := (HB.out.cell (World.block_lt_of_cell? w _ hx117_1)).trans hx117_1
  replace hx117_2 := (HB.out.cell (World.block_lt_of_cell? w _ hx117_2)).trans hx117_2
  replace hx117_3 := (HB.out.cell (World.block_lt_of_cell? w _ hx117_3)).trans hx117_3
  replace p117 := eq_true p117
  replace q117 := eq_true q117
  have p118 : 0 ≤ (a3 : Int) := of_decide_eq_true (by first | (with_reducible assumption) | assumption)
  have q118 : a3 < (l0.length : Int) := of_decide_eq_true (by first | (with_reducible assumption) | assumption)
  obtain ⟨ad118, e118, hx118_0, hx118_1, hx118_2, hx118_3⟩ := at_T89 HR0.out a3 p118 q118
  have hw118_3 := hx118_3
  have hw118_2 := hx118_2
  have hw118_1 := hx118_1
  have hw118_0 := hx118_0
  obtain rfl : ad117 = ad118 := (by injection e118)
  replace hx118_0 := (HB.out.cell (World.block_lt_of_cell? w _ hx118_0)).trans hx118_0
  replace hx118_1 := (HB.out.cell (World.block_lt_of_cell? w _ hx118_1)).trans hx118_1
  replace hx118_2 := (HB.out.cell (World.block_lt_of_cell? w _ hx118_2)).trans hx118_2
  replace hx118_3 := (HB.out.cell (World.block_lt_of_cell? w _ hx118_3)).trans hx118_3
  replace p118 := eq_true p118
  replace q118 := eq_true q118
  refine start_ (n := 12) (S := fun w' => w'.cell? (ad117.add ((a2).toNat * 4)) = some (.int .i64 ((rd_T89 l0 a2).f0)) ∧ w'.cell? ⟨(ad117.add ((a2).toNat * 4)).block, (ad117.add ((a2).toNat * 4)).off + 1, none⟩ = some (.int .i64 ((rd_T89 l0 a2).f1)) ∧ w'.cell? ⟨(ad117.add ((a2).toNat * 4)).block, (ad117.add ((a2).toNat * 4)).off + 2, none⟩ = some (.int .i64 ((rd_T89 l0 a2).f2)) ∧ w'.cell? ⟨(ad117.add ((a2).toNat * 4)).block, (ad117.add ((a2).toNat * 4)).off + 3, none⟩ = some (.int .i64 ((rd_T89 l0 a2).f3)) ∧ w'.cell? (ad117.add ((a3).toNat * 4)) = some (.int .i64 ((rd_T89 l0 a3).f0)) ∧ w'.cell? ⟨(ad117.add ((a3).toNat * 4)).block, (ad117.add ((a3).toNat * 4)).off + 1, none⟩ = some (.int .i64 ((rd_T89 l0 a3).f1)) ∧ w'.cell? ⟨(ad117.add ((a3).toNat * 4)).block, (ad117.add ((a3).toNat * 4)).off + 2, none⟩ = some (.int .i64 ((rd_T89 l0 a3).f2)) ∧ w'.cell? ⟨(ad117.add ((a3).toNat * 4)).block, (ad117.add ((a3).toNat * 4)).off + 3, none⟩ = some (.int .i64 ((rd_T89 l0 a3).f3))) (ds := []) q79_0 (by kernel_rfl) rfl rfl ⟨(bcl_ HB.out hw117_0 :), (bcl_ HB.out hw117_1 :), (bcl_ HB.out hw117_2 :), (bcl_ HB.out hw117_3 :), (bcl_ HB.out hw118_0 :), (bcl_ HB.out hw118_1 :), (bcl_ HB.out hw118_2 :), (bcl_ HB.out hw118_3 :)⟩ (fun hHeld => ?_); refine with_tabW spec_l3Gap.tab1 spec_l3Gap.bits1 (fun HT_ HW_ => ?_)
  generalize w.drew = w26 at HB hx117_0 hx117_1 hx117_2 hx117_3 hx118_0 hx118_1 hx118_2 hx118_3 hHeld ⊢
  refine pup_ (i := 0) (N := some 11) HT_ rfl rfl (by kernel_rfl) (fun _ _ _ h => h) (Or.inl ⟨by rfl, by intro w'; go_simp; with_reducible rfl⟩) (by simp only [aq_]; rfl) ?_
  refine pup_ (i := 1) (N := some 12) HT_ rfl rfl (by kernel_rfl) (fun _ _ _ h => h) (Or.inl ⟨by rfl, by intro w'; go_simp; with_reducible rfl⟩) (by simp only [aq_]; rfl) ?_
  refine pup_ (i := 2) (N := some 13) HT_ rfl rfl (by kernel_rfl) (fun _ _ _ h => h) (Or.inl ⟨by rfl, by intro w'; go_simp; with_reducible rfl⟩) (by simp only [aq_]; rfl) ?_
  refine pup_ (i := 4) (N := some 15) HT_ rfl rfl (by kernel_rfl) (fun _ _ _ h => h) (Or.inl ⟨by rfl, by intro w'; go_simp; with_reducible rfl⟩) (by simp only [aq_]; rfl) ?_
  refine pup_ (i := 5) (N := some 16) HT_ rfl rfl (by kernel_rfl) (fun _ _ _ h => h) (Or.inl ⟨by rfl, by intro w'; go_simp; with_reducible rfl⟩) (by simp only [aq_]; rfl) ?_
  refine pup_ (i := 6) (N := some 17) HT_ rfl rfl (by kernel_rfl) (fun _ _ _ h => h) (Or.inl ⟨by rfl, by intro w'; go_simp; with_reducible rfl⟩) (by simp only [aq_]; rfl) ?_
  refine take_ (i := 3) (N := some 14) (v := ?_) (a' := ?_) q79_7 rfl rfl (take_ofW HT_.out HW_.out (by kernel_rfl)) (fun _ _ _ h => h) (Or.inl ⟨by rfl, ?_⟩) hHeld ?_ ?_
  rotate_left
  ·rintro w' ⟨s0, s1, s2, s3, s4, s5, s6, s7⟩
   go_simp
   with_reducible rfl
  rotate_left
  ·simp only [aq_]
   rfl
  refine take_ (i := 7) (N := some 18) (v := ?_) (a' := ?_) q79_8 rfl rfl (take_ofW HT_.out HW_.out (by kernel_rfl)) (fun _ _ _ h => h) (Or.inl ⟨by rfl, ?_⟩) hHeld ?_ ?_
  rotate_left
  ·rintro w' ⟨s0, s1, s2, s3, s4, s5, s6, s7⟩
   go_simp
   with_reducible rfl
  rotate_left
  ·simp only [aq_]
   rfl
  refine join_ (σ := Nat × Nat) 2 q79_9 (fun s_ => [(9, .pointer (some ⟨s_.1, 0, none⟩)), (10, .pointer (some ⟨s_.2, 0, none⟩))]) (fun s_ w' => (w'.cell? (ad117.add ((a2).toNat * 4)) = some (.int .i64 ((rd_T89 l0 a2).f0)) ∧ w'.cell? ⟨(ad117.add ((a2).toNat * 4)).block, (ad117.add ((a2).toNat * 4)).off + 1, none⟩ = some (.int .i64 ((rd_T89 l0 a2).f1)) ∧ w'.cell? ⟨(ad117.add ((a2).toNat * 4)).block, (ad117.add ((a2).toNat * 4)).off + 2, none⟩ = some (.int .i64 ((rd_T89 l0 a2).f2)) ∧ w'.cell? ⟨(ad117.add ((a2).toNat * 4)).block, (ad117.add ((a2).toNat * 4)).off + 3, none⟩ = some (.int .i64 ((rd_T89 l0 a2).f3)) ∧ w'.cell? (ad117.add ((a3).toNat * 4)) = some (.int .i64 ((rd_T89 l0 a3).f0)) ∧ w'.cell? ⟨(ad117.add ((a3).toNat * 4)).block, (ad117.add ((a3).toNat * 4)).off + 1, none⟩ = some (.int .i64 ((rd_T89 l0 a3).f1)) ∧ w'.cell? ⟨(ad117.add ((a3).toNat * 4)).block, (ad117.add ((a3).toNat * 4)).off + 2, none⟩ = some (.int .i64 ((rd_T89 l0 a3).f2)) ∧ w'.cell? ⟨(ad117.add ((a3).toNat * 4)).block, (ad117.add ((a3).toNat * 4)).off + 3, none⟩ = some (.int .i64 ((rd_T89 l0 a3).f3))) ∧ (w'.heap[s_.1]? = some (.cells #[.int .i64 0, .int .i64 0, .int .i64 0, .int .i64 0] 89 (0, 0))) ∧ (w'.heap[s_.2]? = some (.cells #[.int .i64 0, .int .i64 0, .int .i64 0, .int .i64 0] 89 (0, 0))) ∧ (w.heap.size ≤ s_.1) ∧ (w.heap.size ≤ s_.1) ∧ (s_.2 ≠ s_.1) ∧ (s_.1 ≠ s_.2) ∧ (w.heap.size ≤ s_.2) ∧ (w.heap.size ≤ s_.2) ∧ (Below w.heap.size w w')) ?_ ?_
  rotate_left
  ·intro hCont
   refine two_ (i := 8) (j := 9) (Ni := some 9) (Nj := some 10) q79_10 q79_11 rfl rfl rfl rfl (two_of HT_.out (by kernel_rfl)) (by decide) (by decide) (fun K hK => ?_) (fun K hK => ?_)
   ·skip
    refine box_step ?hg (N := 9) ?hd (cs := #[.int .i64 0, .int .i64 0, .int .i64 0, .int .i64 0]) (t := 89) ?hr ?_; (case hd => rfl); (case hg => rfl); (case hr => first | (go_simp; done) | (go_simp; rfl))
    intro gb119 hg w27 hbox hb
    have n0_ := Aside0.mk (below_step (bw HB.out) hb)
    have n1_ := Aside0.mk (hbox)
    have n2_ := ge_ hg HB.out
    have n3_ := ge_ hg HB.out
    replace HB := n0_
    have BK119 := n1_
    have GW119 := n2_
    have GE119 := n3_
    clear n0_ n1_ n2_ n3_
    clear hb hbox hg
    refine hK.out _ _ ⟨(bcl_ HB.out hw117_0 :), (bcl_ HB.out hw117_1 :), (bcl_ HB.out hw117_2 :), (bcl_ HB.out hw117_3 :), (bcl_ HB.out hw118_0 :), (bcl_ HB.out hw118_1 :), (bcl_ HB.out hw118_2 :), (bcl_ HB.out hw118_3 :)⟩ (fun hHeld => ?_)
    clear hK K
    refine norm_ (a' := ?_) ?_ ?_
    rotate_left
    ·show Act.put _ (some 9) _ = _
     simp only [aq_]
     rfl
    refine one_ (i := 9) (N := some 10) q79_9 rfl rfl (one_of HT_.out (by kernel_rfl)) (by decide) (fun K hK => ?_)
    refine box_step ?hg (N := 10) ?hd (cs := #[.int .i64 0, .int .i64 0, .int .i64 0, .int .i64 0]) (t := 89) ?hr ?_; (case hd => rfl); (case hg => rfl); (case hr => first | (go_simp; done) | (go_simp; rfl))
    intro gb120 hg w28 hbox hb
    have n0_ := Aside0.mk (blk_below (bs BK119.out) hb)
    have n1_ := Aside0.mk (below_step (by repeat (first | (with_reducible first | exact bw HB.out | refine bset ?_ | apply bA | apply bN | apply bD) | exact HB.out)) hb)
    have n2_ := Aside0.mk (hbox)
    have n3_ := Aside0.mk ((by rw [hg]; exact (below_size (by repeat (first | (with_reducible first | exact bw HB.out | refine bset ?_ | apply bA | apply bN | apply bD) | exact HB.out))) : w.heap.size ≤ gb120))
    have n4_ := Aside0.mk ((by rw [hg]; exact (below_size (by repeat (first | (with_reducible first | exact bw HB.out | refine bset ?_ | apply bA | apply bN | apply bD) | exact HB.out))) : w.heap.size ≤ gb120))
    have n5_ := ne_ hg BK119.out
    have n6_ := en_ hg BK119.out
    replace BK119 := n0_
    replace HB := n1_
    have BK120 := n2_
    have GW120 := n3_
    have GE120 := n4_
    have NB119_120 := n5_
    have NB120_119 := n6_
    clear n0_ n1_ n2_ n3_ n4_ n5_ n6_
    clear hb hbox hg
    refine hK.out _ _ ⟨(bcl_ HB.out hw117_0 :), (bcl_ HB.out hw117_1 :), (bcl_ HB.out hw117_2 :), (bcl_ HB.out hw117_3 :), (bcl_ HB.out hw118_0 :), (bcl_ HB.out hw118_1 :), (bcl_ HB.out hw118_2 :), (bcl_ HB.out hw118_3 :)⟩ (fun hHeld => ?_)
    clear hK K
    refine norm_ (a' := ?_) ?_ ?_
    rotate_left
    ·show Act.put _ (some 10) _ = _
     simp only [aq_]
     rfl
    exact norm_ (by simp only [putAll, Act.put, List.setIfInBounds_toArray, List.set_cons_zero, List.set_cons_succ]) (hCont (gb119, gb120) _ ⟨hHeld, (bs BK119.out), (bs BK120.out), GW119.out, GE119.out, NB120_119.out, NB119_120.out, GW120.out, GE120.out, (by repeat (first | (with_reducible first | exact bw HB.out | refine bset ?_ | apply bA | apply bN | apply bD) | exact HB.out))⟩)
   ·skip
    refine box_step ?hg (N := 10) ?hd (cs := #[.int .i64 0, .int .i64 0, .int .i64 0, .int .i64 0]) (t := 89) ?hr ?_; (case hd => rfl); (case hg => rfl); (case hr => first | (go_simp; done) | (go_simp; rfl))
    intro gb120 hg w27 hbox hb
    have n0_ := Aside0.mk (below_step (bw HB.out) hb)
    have n1_ := Aside0.mk (hbox)
    have n2_ := ge_ hg HB.out
    have n3_ := ge_ hg HB.out
    replace HB := n0_
    have BK120 := n1_
    have GW120 := n2_
    have GE120 := n3_
    clear n0_ n1_ n2_ n3_
    clear hb hbox hg
    refine hK.out _ _ ⟨(bcl_ HB.out hw117_0 :), (bcl_ HB.out hw117_1 :), (bcl_ HB.out hw117_2 :), (bcl_ HB.out hw117_3 :), (bcl_ HB.out hw118_0 :), (bcl_ HB.out hw118_1 :), (bcl_ HB.out hw118_2 :), (bcl_ HB.out hw118_3 :)⟩ (fun hHeld => ?_)
    clear hK K
    refine norm_ (a' := ?_) ?_ ?_
    rotate_left
    ·show Act.put _ (some 10) _ = _
     simp only [aq_]
     rfl
    refine one_ (i := 8) (N := some 9) q79_9 rfl rfl (one_of HT_.out (by kernel_rfl)) (by decide) (fun K hK => ?_)
    refine box_step ?hg (N := 9) ?hd (cs := #[.int .i64 0, .int .i64 0, .int .i64 0, .int .i64 0]) (t := 89) ?hr ?_; (case hd => rfl); (case hg => rfl); (case hr => first | (go_simp; done) | (go_simp; rfl))
    intro gb119 hg w28 hbox hb
    have n0_ := Aside0.mk (blk_below (bs BK120.out) hb)
    have n1_ := Aside0.mk (below_step (by repeat (first | (with_reducible first | exact bw HB.out | refine bset ?_ | apply bA | apply bN | apply bD) | exact HB.out)) hb)
    have n2_ := Aside0.mk (hbox)
    have n3_ := Aside0.mk ((by rw [hg]; exact (below_size (by repeat (first | (with_reducible first | exact bw HB.out | refine bset ?_ | apply bA | apply bN | apply bD) | exact HB.out))) : w.heap.size ≤ gb119))
    have n4_ := Aside0.mk ((by rw [hg]; exact (below_size (by repeat (first | (with_reducible first | exact bw HB.out | refine bset ?_ | apply bA | apply bN | apply bD) | exact HB.out))) : w.heap.size ≤ gb119))
    have n5_ := ne_ hg BK120.out
    have n6_ := en_ hg BK120.out
    replace BK120 := n0_
    replace HB := n1_
    have BK119 := n2_
    have GW119 := n3_
    have GE119 := n4_
    have NB120_119 := n5_
    have NB119_120 := n6_
    clear n0_ n1_ n2_ n3_ n4_ n5_ n6_
    clear hb hbox hg
    refine hK.out _ _ ⟨(bcl_ HB.out hw117_0 :), (bcl_ HB.out hw117_1 :), (bcl_ HB.out hw117_2 :), (bcl_ HB.out hw117_3 :), (bcl_ HB.out hw118_0 :), (bcl_ HB.out hw118_1 :), (bcl_ HB.out hw118_2 :), (bcl_ HB.out hw118_3 :)⟩ (fun hHeld => ?_)
    clear hK K
    refine norm_ (a' := ?_) ?_ ?_
    rotate_left
    ·show Act.put _ (some 9) _ = _
     simp only [aq_]
     rfl
    exact norm_ (by simp only [putAll, Act.put, List.setIfInBounds_toArray, List.set_cons_zero, List.set_cons_succ]) (hCont (gb119, gb120) _ ⟨hHeld, (bs BK119.out), (bs BK120.out), GW119.out, GE119.out, NB120_119.out, NB119_120.out, GW120.out, GE120.out, (by repeat (first | (with_reducible first | exact bw HB.out | refine bset ?_ | apply bA | apply bN | apply bD) | exact HB.out))⟩)
  rintro ⟨gb119, gb120⟩ w29 ⟨hS_, h0_, h1_, h2_, h3_, h4_, h5_, h6_, h7_, h8_⟩
  have n0_ : Aside0 (w29.heap[gb119]? = some (.cells #[.int .i64 0, .int .i64 0, .int .i64 0, .int .i64 0] 89 (0, 0))) := ⟨h0_⟩
  have n1_ : Aside0 (w29.heap[gb120]? = some (.cells #[.int .i64 0, .int .i64 0, .int .i64 0, .int .i64 0] 89 (0, 0))) := ⟨h1_⟩
  have n2_ : Aside0 (w.heap.size ≤ gb119) := ⟨h2_⟩
  have n3_ : Aside0 (w.heap.size ≤ gb119) := ⟨h3_⟩
  have n4_ : Aside0 (gb120 ≠ gb119) := ⟨h4_⟩
  have n5_ : Aside0 (gb119 ≠ gb120) := ⟨h5_⟩
  have n6_ : Aside0 (w.heap.size ≤ gb120) := ⟨h6_⟩
  have n7_ : Aside0 (w.heap.size ≤ gb120) := ⟨h7_⟩
  have n8_ : Aside0 (Below w.heap.size w w29) := ⟨h8_⟩
  clear HB
  clear h0_ h1_ h2_ h3_ h4_ h5_ h6_ h7_ h8_
  have BK119 := n0_
  have BK120 := n1_
  have GW119 := n2_
  have GE119 := n3_
  have NB120_119 := n4_
  have NB119_120 := n5_
  have GW120 := n6_
  have GE120 := n7_
  have HB := n8_
  clear n0_ n1_ n2_ n3_ n4_ n5_ n6_ n7_ n8_
  have hHeld : w29.cell? (ad117.add ((a2).toNat * 4)) = some (.int .i64 ((rd_T89 l0 a2).f0)) ∧ w29.cell? ⟨(ad117.add ((a2).toNat * 4)).block, (ad117.add ((a2).toNat * 4)).off + 1, none⟩ = some (.int .i64 ((rd_T89 l0 a2).f1)) ∧ w29.cell? ⟨(ad117.add ((a2).toNat * 4)).block, (ad117.add ((a2).toNat * 4)).off + 2, none⟩ = some (.int .i64 ((rd_T89 l0 a2).f2)) ∧ w29.cell? ⟨(ad117.add ((a2).toNat * 4)).block, (ad117.add ((a2).toNat * 4)).off + 3, none⟩ = some (.int .i64 ((rd_T89 l0 a2).f3)) ∧ w29.cell? (ad117.add ((a3).toNat * 4)) = some (.int .i64 ((rd_T89 l0 a3).f0)) ∧ w29.cell? ⟨(ad117.add ((a3).toNat * 4)).block, (ad117.add ((a3).toNat * 4)).off + 1, none⟩ = some (.int .i64 ((rd_T89 l0 a3).f1)) ∧ w29.cell? ⟨(ad117.add ((a3).toNat * 4)).block, (ad117.add ((a3).toNat * 4)).off + 2, none⟩ = some (.int .i64 ((rd_T89 l0 a3).f2)) ∧ w29.cell? ⟨(ad117.add ((a3).toNat * 4)).block, (ad117.add ((a3).toNat * 4)).off + 3, none⟩ = some (.int .i64 ((rd_T89 l0 a3).f3)) := hS_
  refine norm_ (a' := ?_) ?_ ?_
  rotate_left
  ·simp only [putAll, Act.put, List.setIfInBounds_toArray, List.set_cons_zero, List.set_cons_succ]
   rfl
  refine one_ (i := 10) (N := none) q79_12 rfl rfl (one_of HT_.out (by kernel_rfl)) (by decide) (fun K hK => ?_)
  have hs30 : w29.cell? ⟨gb119, 0, none⟩ = some (.int .i64 0) := (blk_cell BK119.out 0).trans rfl
  have hfs30 := blk_frozen BK119.out 0
  have hns30_1 := NB120_119.out
  have hms30_1 := NB119_120.out
  have hs31 : w29.cell? ⟨gb119, 1, none⟩ = some (.int .i64 0) := (blk_cell BK119.out 1).trans rfl
  have hfs31 := blk_frozen BK119.out 1
  have hns31_1 := NB120_119.out
  have hms31_1 := NB119_120.out
  have hs32 : w29.cell? ⟨gb119, 2, none⟩ = some (.int .i64 0) := (blk_cell BK119.out 2).trans rfl
  have hfs32 := blk_frozen BK119.out 2
  have hns32_1 := NB120_119.out
  have hms32_1 := NB119_120.out
  have hs33 : w29.cell? ⟨gb119, 3, none⟩ = some (.int .i64 0) := (blk_cell BK119.out 3).trans rfl
  have hfs33 := blk_frozen BK119.out 3
  have hns33_1 := NB120_119.out
  have hms33_1 := NB119_120.out
  refine skip_ (w1 := ?_) (by rfl) rfl ?_ ?_
  rotate_left
  ·go_simp
   rfl
  refine hK.out _ _ ⟨((cell_far (p := ⟨gb119, _, none⟩) (bne_ hw117_0 GW119.out) _).trans (((cell_far (p := ⟨gb119, _, none⟩) (bne_ hw117_0 GW119.out) _).trans (((cell_far (p := ⟨gb119, _, none⟩) (bne_ hw117_0 GW119.out) _).trans (((cell_far (p := ⟨gb119, _, none⟩) (bne_ hw117_0 GW119.out) _).trans (hHeld.1)))))))), ((cell_far (p := ⟨gb119, _, none⟩) (bne_ hw117_1 GW119.out) _).trans (((cell_far (p := ⟨gb119, _, none⟩) (bne_ hw117_1 GW119.out) _).trans (((cell_far (p := ⟨gb119, _, none⟩) (bne_ hw117_1 GW119.out) _).trans (((cell_far (p := ⟨gb119, _, none⟩) (bne_ hw117_1 GW119.out) _).trans (hHeld.2.1)))))))), ((cell_far (p := ⟨gb119, _, none⟩) (bne_ hw117_2 GW119.out) _).trans (((cell_far (p := ⟨gb119, _, none⟩) (bne_ hw117_2 GW119.out) _).trans (((cell_far (p := ⟨gb119, _, none⟩) (bne_ hw117_2 GW119.out) _).trans (((cell_far (p := ⟨gb119, _, none⟩) (bne_ hw117_2 GW119.out) _).trans (hHeld.2.2.1)))))))), ((cell_far (p := ⟨gb119, _, none⟩) (bne_ hw117_3 GW119.out) _).trans (((cell_far (p := ⟨gb119, _, none⟩) (bne_ hw117_3 GW119.out) _).trans (((cell_far (p := ⟨gb119, _, none⟩) (bne_ hw117_3 GW119.out) _).trans (((cell_far (p := ⟨gb119, _, none⟩) (bne_ hw117_3 GW119.out) _).trans (hHeld.2.2.2.1)))))))), ((cell_far (p := ⟨gb119, _, none⟩) (bne_ hw118_0 GW119.out) _).trans (((cell_far (p := ⟨gb119, _, none⟩) (bne_ hw118_0 GW119.out) _).trans (((cell_far (p := ⟨gb119, _, none⟩) (bne_ hw118_0 GW119.out) _).trans (((cell_far (p := ⟨gb119, _, none⟩) (bne_ hw118_0 GW119.out) _).trans (hHeld.2.2.2.2.1)))))))), ((cell_far (p := ⟨gb119, _, none⟩) (bne_ hw118_1 GW119.out) _).trans (((cell_far (p := ⟨gb119, _, none⟩) (bne_ hw118_1 GW119.out) _).trans (((cell_far (p := ⟨gb119, _, none⟩) (bne_ hw118_1 GW119.out) _).trans (((cell_far (p := ⟨gb119, _, none⟩) (bne_ hw118_1 GW119.out) _).trans (hHeld.2.2.2.2.2.1)))))))), ((cell_far (p := ⟨gb119, _, none⟩) (bne_ hw118_2 GW119.out) _).trans (((cell_far (p := ⟨gb119, _, none⟩) (bne_ hw118_2 GW119.out) _).trans (((cell_far (p := ⟨gb119, _, none⟩) (bne_ hw118_2 GW119.out) _).trans (((cell_far (p := ⟨gb119, _, none⟩) (bne_ hw118_2 GW119.out) _).trans (hHeld.2.2.2.2.2.2.1)))))))), ((cell_far (p := ⟨gb119, _, none⟩) (bne_ hw118_3 GW119.out) _).trans (((cell_far (p := ⟨gb119, _, none⟩) (bne_ hw118_3 GW119.out) _).trans (((cell_far (p := ⟨gb119, _, none⟩) (bne_ hw118_3 GW119.out) _).trans (((cell_far (p := ⟨gb119, _, none⟩) (bne_ hw118_3 GW119.out) _).trans (hHeld.2.2.2.2.2.2.2))))))))⟩ (fun hHeld => ?_)
  clear hK K
  refine one_ (i := 11) (N := none) q79_13 rfl rfl (one_of HT_.out (by kernel_rfl)) (by decide) (fun K hK => ?_)
  have hs34 : w29.cell? ⟨gb120, 0, none⟩ = some (.int .i64 0) := (blk_cell BK120.out 0).trans rfl
  have hfs34 := blk_frozen BK120.out 0
  have hns34_0 := NB119_120.out
  have hms34_0 := NB120_119.out
  have hs35 : w29.cell? ⟨gb120, 1, none⟩ = some (.int .i64 0) := (blk_cell BK120.out 1).trans rfl
  have hfs35 := blk_frozen BK120.out 1
  have hns35_0 := NB119_120.out
  have hms35_0 := NB120_119.out
  have hs36 : w29.cell? ⟨gb120, 2, none⟩ = some (.int .i64 0) := (blk_cell BK120.out 2).trans rfl
  have hfs36 := blk_frozen BK120.out 2
  have hns36_0 := NB119_120.out
  have hms36_0 := NB120_119.out
  have hs37 : w29.cell? ⟨gb120, 3, none⟩ = some (.int .i64 0) := (blk_cell BK120.out 3).trans rfl
  have hfs37 := blk_frozen BK120.out 3
  have hns37_0 := NB119_120.out
  have hms37_0 := NB120_119.out
  refine skip_ (w1 := ?_) (by rfl) rfl ?_ ?_
  rotate_left
  ·go_simp
   rfl
  refine hK.out _ _ ⟨((cell_far (p := ⟨gb120, _, none⟩) (bne_ hw117_0 GW120.out) _).trans (((cell_far (p := ⟨gb120, _, none⟩) (bne_ hw117_0 GW120.out) _).trans (((cell_far (p := ⟨gb120, _, none⟩) (bne_ hw117_0 GW120.out) _).trans (((cell_far (p := ⟨gb120, _, none⟩) (bne_ hw117_0 GW120.out) _).trans (hHeld.1)))))))), ((cell_far (p := ⟨gb120, _, none⟩) (bne_ hw117_1 GW120.out) _).trans (((cell_far (p := ⟨gb120, _, none⟩) (bne_ hw117_1 GW120.out) _).trans (((cell_far (p := ⟨gb120, _, none⟩) (bne_ hw117_1 GW120.out) _).trans (((cell_far (p := ⟨gb120, _, none⟩) (bne_ hw117_1 GW120.out) _).trans (hHeld.2.1)))))))), ((cell_far (p := ⟨gb120, _, none⟩) (bne_ hw117_2 GW120.out) _).trans (((cell_far (p := ⟨gb120, _, none⟩) (bne_ hw117_2 GW120.out) _).trans (((cell_far (p := ⟨gb120, _, none⟩) (bne_ hw117_2 GW120.out) _).trans (((cell_far (p := ⟨gb120, _, none⟩) (bne_ hw117_2 GW120.out) _).trans (hHeld.2.2.1)))))))), ((cell_far (p := ⟨gb120, _, none⟩) (bne_ hw117_3 GW120.out) _).trans (((cell_far (p := ⟨gb120, _, none⟩) (bne_ hw117_3 GW120.out) _).trans (((cell_far (p := ⟨gb120, _, none⟩) (bne_ hw117_3 GW120.out) _).trans (((cell_far (p := ⟨gb120, _, none⟩) (bne_ hw117_3 GW120.out) _).trans (hHeld.2.2.2.1)))))))), ((cell_far (p := ⟨gb120, _, none⟩) (bne_ hw118_0 GW120.out) _).trans (((cell_far (p := ⟨gb120, _, none⟩) (bne_ hw118_0 GW120.out) _).trans (((cell_far (p := ⟨gb120, _, none⟩) (bne_ hw118_0 GW120.out) _).trans (((cell_far (p := ⟨gb120, _, none⟩) (bne_ hw118_0 GW120.out) _).trans (hHeld.2.2.2.2.1)))))))), ((cell_far (p := ⟨gb120, _, none⟩) (bne_ hw118_1 GW120.out) _).trans (((cell_far (p := ⟨gb120, _, none⟩) (bne_ hw118_1 GW120.out) _).trans (((cell_far (p := ⟨gb120, _, none⟩) (bne_ hw118_1 GW120.out) _).trans (((cell_far (p := ⟨gb120, _, none⟩) (bne_ hw118_1 GW120.out) _).trans (hHeld.2.2.2.2.2.1)))))))), ((cell_far (p := ⟨gb120, _, none⟩) (bne_ hw118_2 GW120.out) _).trans (((cell_far (p := ⟨gb120, _, none⟩) (bne_ hw118_2 GW120.out) _).trans (((cell_far (p := ⟨gb120, _, none⟩) (bne_ hw118_2 GW120.out) _).trans (((cell_far (p := ⟨gb120, _, none⟩) (bne_ hw118_2 GW120.out) _).trans (hHeld.2.2.2.2.2.2.1)))))))), ((cell_far (p := ⟨gb120, _, none⟩) (bne_ hw118_3 GW120.out) _).trans (((cell_far (p := ⟨gb120, _, none⟩) (bne_ hw118_3 GW120.out) _).trans (((cell_far (p := ⟨gb120, _, none⟩) (bne_ hw118_3 GW120.out) _).trans (((cell_far (p := ⟨gb120, _, none⟩) (bne_ hw118_3 GW120.out) _).trans (hHeld.2.2.2.2.2.2.2))))))))⟩ (fun hHeld => ?_)
  clear hK K
  refine done_ (done_of HT_.out (by kernel_rfl)) ?_
  have hnb38 := NB119_120.out
  have hnc38 := NB120_119.out
  obtain ⟨hcz39_0, hcz39_1, hcz39_2, hcz39_3, hfz39_0, hfz39_1, hfz39_2, hfz39_3⟩ := bz4 BK119.out
  obtain ⟨hcz40_0, hcz40_1, hcz40_2, hcz40_3, hfz40_0, hfz40_1, hfz40_2, hfz40_3⟩ := bz4 BK120.out
  try go_wp2
  go_ret
  exact ⟨by first | rfl | (simp [errW_none, errW_some] <;> rfl) | (simp [*, errW_none, errW_some] <;> rfl), by repeat (first | (with_reducible first | exact bw HB.out | refine bset ?_ | apply bA | apply bN | apply bD) | exact HB.out)⟩
 rw [if_neg c25] at H
 have c25b0 : (a1 == 2) = false := beq_eq_false_iff_ne.mpr c25
 have c25b1 : (a1 != 2) = true := bne_iff_ne.mpr c25
 by_cases c41 : a1 = 3
 rotate_left
 ·rw [if_neg c41] at H
  have c41b0 : (a1 == 3) = false := beq_eq_false_iff_ne.mpr c41
  have c41b1 : (a1 != 3) = true := bne_iff_ne.mpr c41
  obtain rfl := Option.some.inj H
  go_enter Try.func79, Try.ntmps79
  try go_wp2
  have n0_ := Aside0.mk (below_drew1 HB.out)
  replace HB := n0_
  clear n0_
  have p117 : 0 ≤ (a2 : Int) := of_decide_eq_true (by first | (with_reducible assumption) | assumption)
  have q117 : a2 < (l0.length : Int) := of_decide_eq_true (by first | (with_reducible assumption) | assumption)
  obtain ⟨ad117, e117, hx117_0, hx117_1, hx117_2, hx117_3⟩ := at_T89 HR0.out a2 p117 q117
  have hw117_3 := hx117_3
  have hw117_2 := hx117_2
  have hw117_1 := hx117_1
  have hw117_0 := hx117_0
  cases e117
  replace hx117_0 := (HB.out.cell (World.block_lt_of_cell? w _ hx117_0)).trans hx117_0
  replace hx117_1 := (HB.out.cell (World.block_lt_of_cell? w _ hx117_1)).trans hx117_1
  replace hx117_2 := (HB.out.cell (World.block_lt_of_cell? w _ hx117_2)).trans hx117_2
  replace hx117_3 := (HB.out.cell (World.block_lt_of_cell? w _ hx117_3)).trans hx117_3
  replace p117 := eq_true p117
  replace q117 := eq_true q117
  have p118 : 0 ≤ (a3 : Int) := of_decide_eq_true (by first | (with_reducible assumption) | assumption)
  have q118 : a3 < (l0.length : Int) := of_decide_eq_true (by first | (with_reducible assumption) | assumption)
  obtain ⟨ad118, e118, hx118_0, hx118_1, hx118_2, hx118_3⟩ := at_T89 HR0.out a3 p118 q118
  have hw118_3 := hx118_3
  have hw118_2 := hx118_2
  have hw118_1 := hx118_1
  have hw118_0 := hx118_0
  obtain rfl : ad117 = ad118 := (by injection e118)
  replace hx118_0 := (HB.out.cell (World.block_lt_of_cell? w _ hx118_0)).trans hx118_0
  replace hx118_1 := (HB.out.cell (World.block_lt_of_cell? w _ hx118_1)).trans hx118_1
  replace hx118_2 := (HB.out.cell (World.block_lt_of_cell? w _ hx118_2)).trans hx118_2
  replace hx118_3 := (HB.out.cell (World.block_lt_of_cell? w _ hx118_3)).trans hx118_3
  replace p118 := eq_true p118
  replace q118 := eq_true q118
  refine start_ (n := 12) (S := fun w' => w'.cell? (ad117.add ((a2).toNat * 4)) = some (.int .i64 ((rd_T89 l0 a2).f0)) ∧ w'.cell? ⟨(ad117.add ((a2).toNat * 4)).block, (ad117.add ((a2).toNat * 4)).off + 1, none⟩ = some (.int .i64 ((rd_T89 l0 a2).f1)) ∧ w'.cell? ⟨(ad117.add ((a2).toNat * 4)).block, (ad117.add ((a2).toNat * 4)).off + 2, none⟩ = some (.int .i64 ((rd_T89 l0 a2).f2)) ∧ w'.cell? ⟨(ad117.add ((a2).toNat * 4)).block, (ad117.add ((a2).toNat * 4)).off + 3, none⟩ = some (.int .i64 ((rd_T89 l0 a2).f3)) ∧ w'.cell? (ad117.add ((a3).toNat * 4)) = some (.int .i64 ((rd_T89 l0 a3).f0)) ∧ w'.cell? ⟨(ad117.add ((a3).toNat * 4)).block, (ad117.add ((a3).toNat * 4)).off + 1, none⟩ = some (.int .i64 ((rd_T89 l0 a3).f1)) ∧ w'.cell? ⟨(ad117.add ((a3).toNat * 4)).block, (ad117.add ((a3).toNat * 4)).off + 2, none⟩ = some (.int .i64 ((rd_T89 l0 a3).f2)) ∧ w'.cell? ⟨(ad117.add ((a3).toNat * 4)).block, (ad117.add ((a3).toNat * 4)).off + 3, none⟩ = some (.int .i64 ((rd_T89 l0 a3).f3))) (ds := []) q79_0 (by kernel_rfl) rfl rfl ⟨(bcl_ HB.out hw117_0 :), (bcl_ HB.out hw117_1 :), (bcl_ HB.out hw117_2 :), (bcl_ HB.out hw117_3 :), (bcl_ HB.out hw118_0 :), (bcl_ HB.out hw118_1 :), (bcl_ HB.out hw118_2 :), (bcl_ HB.out hw118_3 :)⟩ (fun hHeld => ?_); refine with_tabW spec_l3Gap.tab1 spec_l3Gap.bits1 (fun HT_ HW_ => ?_)
  generalize w.drew = w57 at HB hx117_0 hx117_1 hx117_2 hx117_3 hx118_0 hx118_1 hx118_2 hx118_3 hHeld ⊢
  refine pup_ (i := 0) (N := some 11) HT_ rfl rfl (by kernel_rfl) (fun _ _ _ h => h) (Or.inl ⟨by rfl, by intro w'; go_simp; with_reducible rfl⟩) (by simp only [aq_]; rfl) ?_
  refine pup_ (i := 1) (N := some 12) HT_ rfl rfl (by kernel_rfl) (fun _ _ _ h => h) (Or.inl ⟨by rfl, by intro w'; go_simp; with_reducible rfl⟩) (by simp only [aq_]; rfl) ?_
  refine pup_ (i := 2) (N := some 13) HT_ rfl rfl (by kernel_rfl) (fun _ _ _ h => h) (Or.inl ⟨by rfl, by intro w'; go_simp; with_reducible rfl⟩) (by simp only [aq_]; rfl) ?_
  refine pup_ (i := 4) (N := some 15) HT_ rfl rfl (by kernel_rfl) (fun _ _ _ h => h) (Or.inl ⟨by rfl, by intro w'; go_simp; with_reducible rfl⟩) (by simp only [aq_]; rfl) ?_
  refine pup_ (i := 5) (N := some 16) HT_ rfl rfl (by kernel_rfl) (fun _ _ _ h => h) (Or.inl ⟨by rfl, by intro w'; go_simp; with_reducible rfl⟩) (by simp only [aq_]; rfl) ?_
  refine pup_ (i := 6) (N := some 17) HT_ rfl rfl (by kernel_rfl) (fun _ _ _ h => h) (Or.inl ⟨by rfl, by intro w'; go_simp; with_reducible rfl⟩) (by simp only [aq_]; rfl) ?_
  refine take_ (i := 3) (N := some 14) (v := ?_) (a' := ?_) q79_7 rfl rfl (take_ofW HT_.out HW_.out (by kernel_rfl)) (fun _ _ _ h => h) (Or.inl ⟨by rfl, ?_⟩) hHeld ?_ ?_
  rotate_left
  ·rintro w' ⟨s0, s1, s2, s3, s4, s5, s6, s7⟩
   go_simp
   with_reducible rfl
  rotate_left
  ·simp only [aq_]
   rfl
  refine take_ (i := 7) (N := some 18) (v := ?_) (a' := ?_) q79_8 rfl rfl (take_ofW HT_.out HW_.out (by kernel_rfl)) (fun _ _ _ h => h) (Or.inl ⟨by rfl, ?_⟩) hHeld ?_ ?_
  rotate_left
  ·rintro w' ⟨s0, s1, s2, s3, s4, s5, s6, s7⟩
   go_simp
   with_reducible rfl
  rotate_left
  ·simp only [aq_]
   rfl
  refine join_ (σ := Nat × Nat) 2 q79_9 (fun s_ => [(9, .pointer (some ⟨s_.1, 0, none⟩)), (10, .pointer (some ⟨s_.2, 0, none⟩))]) (fun s_ w' => (w'.cell? (ad117.add ((a2).toNat * 4)) = some (.int .i64 ((rd_T89 l0 a2).f0)) ∧ w'.cell? ⟨(ad117.add ((a2).toNat * 4)).block, (ad117.add ((a2).toNat * 4)).off + 1, none⟩ = some (.int .i64 ((rd_T89 l0 a2).f1)) ∧ w'.cell? ⟨(ad117.add ((a2).toNat * 4)).block, (ad117.add ((a2).toNat * 4)).off + 2, none⟩ = some (.int .i64 ((rd_T89 l0 a2).f2)) ∧ w'.cell? ⟨(ad117.add ((a2).toNat * 4)).block, (ad117.add ((a2).toNat * 4)).off + 3, none⟩ = some (.int .i64 ((rd_T89 l0 a2).f3)) ∧ w'.cell? (ad117.add ((a3).toNat * 4)) = some (.int .i64 ((rd_T89 l0 a3).f0)) ∧ w'.cell? ⟨(ad117.add ((a3).toNat * 4)).block, (ad117.add ((a3).toNat * 4)).off + 1, none⟩ = some (.int .i64 ((rd_T89 l0 a3).f1)) ∧ w'.cell? ⟨(ad117.add ((a3).toNat * 4)).block, (ad117.add ((a3).toNat * 4)).off + 2, none⟩ = some (.int .i64 ((rd_T89 l0 a3).f2)) ∧ w'.cell? ⟨(ad117.add ((a3).toNat * 4)).block, (ad117.add ((a3).toNat * 4)).off + 3, none⟩ = some (.int .i64 ((rd_T89 l0 a3).f3))) ∧ (w'.heap[s_.1]? = some (.cells #[.int .i64 0, .int .i64 0, .int .i64 0, .int .i64 0] 89 (0, 0))) ∧ (w'.heap[s_.2]? = some (.cells #[.int .i64 0, .int .i64 0, .int .i64 0, .int .i64 0] 89 (0, 0))) ∧ (w.heap.size ≤ s_.1) ∧ (w.heap.size ≤ s_.1) ∧ (s_.2 ≠ s_.1) ∧ (s_.1 ≠ s_.2) ∧ (w.heap.size ≤ s_.2) ∧ (w.heap.size ≤ s_.2) ∧ (Below w.heap.size w w')) ?_ ?_
  rotate_left
  ·intro hCont
   refine two_ (i := 8) (j := 9) (Ni := some 9) (Nj := some 10) q79_10 q79_11 rfl rfl rfl rfl (two_of HT_.out (by kernel_rfl)) (by decide) (by decide) (fun K hK => ?_) (fun K hK => ?_)
   ·skip
    refine box_step ?hg (N := 9) ?hd (cs := #[.int .i64 0, .int .i64 0, .int .i64 0, .int .i64 0]) (t := 89) ?hr ?_; (case hd => rfl); (case hg => rfl); (case hr => first | (go_simp; done) | (go_simp; rfl))
    intro gb119 hg w58 hbox hb
    have n0_ := Aside0.mk (below_step (bw HB.out) hb)
    have n1_ := Aside0.mk (hbox)
    have n2_ := ge_ hg HB.out
    have n3_ := ge_ hg HB.out
    replace HB := n0_
    have BK119 := n1_
    have GW119 := n2_
    have GE119 := n3_
    clear n0_ n1_ n2_ n3_
    clear hb hbox hg
    refine hK.out _ _ ⟨(bcl_ HB.out hw117_0 :), (bcl_ HB.out hw117_1 :), (bcl_ HB.out hw117_2 :), (bcl_ HB.out hw117_3 :), (bcl_ HB.out hw118_0 :), (bcl_ HB.out hw118_1 :), (bcl_ HB.out hw118_2 :), (bcl_ HB.out hw118_3 :)⟩ (fun hHeld => ?_)
    clear hK K
    refine norm_ (a' := ?_) ?_ ?_
    rotate_left
    ·show Act.put _ (some 9) _ = _
     simp only [aq_]
     rfl
    refine one_ (i := 9) (N := some 10) q79_9 rfl rfl (one_of HT_.out (by kernel_rfl)) (by decide) (fun K hK => ?_)
    refine box_step ?hg (N := 10) ?hd (cs := #[.int .i64 0, .int .i64 0, .int .i64 0, .int .i64 0]) (t := 89) ?hr ?_; (case hd => rfl); (case hg => rfl); (case hr => first | (go_simp; done) | (go_simp; rfl))
    intro gb120 hg w59 hbox hb
    have n0_ := Aside0.mk (blk_below (bs BK119.out) hb)
    have n1_ := Aside0.mk (below_step (by repeat (first | (with_reducible first | exact bw HB.out | refine bset ?_ | apply bA | apply bN | apply bD) | exact HB.out)) hb)
    have n2_ := Aside0.mk (hbox)
    have n3_ := Aside0.mk ((by rw [hg]; exact (below_size (by repeat (first | (with_reducible first | exact bw HB.out | refine bset ?_ | apply bA | apply bN | apply bD) | exact HB.out))) : w.heap.size ≤ gb120))
    have n4_ := Aside0.mk ((by rw [hg]; exact (below_size (by repeat (first | (with_reducible first | exact bw HB.out | refine bset ?_ | apply bA | apply bN | apply bD) | exact HB.out))) : w.heap.size ≤ gb120))
    have n5_ := ne_ hg BK119.out
    have n6_ := en_ hg BK119.out
    replace BK119 := n0_
    replace HB := n1_
    have BK120 := n2_
    have GW120 := n3_
    have GE120 := n4_
    have NB119_120 := n5_
    have NB120_119 := n6_
    clear n0_ n1_ n2_ n3_ n4_ n5_ n6_
    clear hb hbox hg
    refine hK.out _ _ ⟨(bcl_ HB.out hw117_0 :), (bcl_ HB.out hw117_1 :), (bcl_ HB.out hw117_2 :), (bcl_ HB.out hw117_3 :), (bcl_ HB.out hw118_0 :), (bcl_ HB.out hw118_1 :), (bcl_ HB.out hw118_2 :), (bcl_ HB.out hw118_3 :)⟩ (fun hHeld => ?_)
    clear hK K
    refine norm_ (a' := ?_) ?_ ?_
    rotate_left
    ·show Act.put _ (some 10) _ = _
     simp only [aq_]
     rfl
    exact norm_ (by simp only [putAll, Act.put, List.setIfInBounds_toArray, List.set_cons_zero, List.set_cons_succ]) (hCont (gb119, gb120) _ ⟨hHeld, (bs BK119.out), (bs BK120.out), GW119.out, GE119.out, NB120_119.out, NB119_120.out, GW120.out, GE120.out, (by repeat (first | (with_reducible first | exact bw HB.out | refine bset ?_ | apply bA | apply bN | apply bD) | exact HB.out))⟩)
   ·skip
    refine box_step ?hg (N := 10) ?hd (cs := #[.int .i64 0, .int .i64 0, .int .i64 0, .int .i64 0]) (t := 89) ?hr ?_; (case hd => rfl); (case hg => rfl); (case hr => first | (go_simp; done) | (go_simp; rfl))
    intro gb120 hg w58 hbox hb
    have n0_ := Aside0.mk (below_step (bw HB.out) hb)
    have n1_ := Aside0.mk (hbox)
    have n2_ := ge_ hg HB.out
    have n3_ := ge_ hg HB.out
    replace HB := n0_
    have BK120 := n1_
    have GW120 := n2_
    have GE120 := n3_
    clear n0_ n1_ n2_ n3_
    clear hb hbox hg
    refine hK.out _ _ ⟨(bcl_ HB.out hw117_0 :), (bcl_ HB.out hw117_1 :), (bcl_ HB.out hw117_2 :), (bcl_ HB.out hw117_3 :), (bcl_ HB.out hw118_0 :), (bcl_ HB.out hw118_1 :), (bcl_ HB.out hw118_2 :), (bcl_ HB.out hw118_3 :)⟩ (fun hHeld => ?_)
    clear hK K
    refine norm_ (a' := ?_) ?_ ?_
    rotate_left
    ·show Act.put _ (some 10) _ = _
     simp only [aq_]
     rfl
    refine one_ (i := 8) (N := some 9) q79_9 rfl rfl (one_of HT_.out (by kernel_rfl)) (by decide) (fun K hK => ?_)
    refine box_step ?hg (N := 9) ?hd (cs := #[.int .i64 0, .int .i64 0, .int .i64 0, .int .i64 0]) (t := 89) ?hr ?_; (case hd => rfl); (case hg => rfl); (case hr => first | (go_simp; done) | (go_simp; rfl))
    intro gb119 hg w59 hbox hb
    have n0_ := Aside0.mk (blk_below (bs BK120.out) hb)
    have n1_ := Aside0.mk (below_step (by repeat (first | (with_reducible first | exact bw HB.out | refine bset ?_ | apply bA | apply bN | apply bD) | exact HB.out)) hb)
    have n2_ := Aside0.mk (hbox)
    have n3_ := Aside0.mk ((by rw [hg]; exact (below_size (by repeat (first | (with_reducible first | exact bw HB.out | refine bset ?_ | apply bA | apply bN | apply bD) | exact HB.out))) : w.heap.size ≤ gb119))
    have n4_ := Aside0.mk ((by rw [hg]; exact (below_size (by repeat (first | (with_reducible first | exact bw HB.out | refine bset ?_ | apply bA | apply bN | apply bD) | exact HB.out))) : w.heap.size ≤ gb119))
    have n5_ := ne_ hg BK120.out
    have n6_ := en_ hg BK120.out
    replace BK120 := n0_
    replace HB := n1_
    have BK119 := n2_
    have GW119 := n3_
    have GE119 := n4_
    have NB120_119 := n5_
    have NB119_120 := n6_
    clear n0_ n1_ n2_ n3_ n4_ n5_ n6_
    clear hb hbox hg
    refine hK.out _ _ ⟨(bcl_ HB.out hw117_0 :), (bcl_ HB.out hw117_1 :), (bcl_ HB.out hw117_2 :), (bcl_ HB.out hw117_3 :), (bcl_ HB.out hw118_0 :), (bcl_ HB.out hw118_1 :), (bcl_ HB.out hw118_2 :), (bcl_ HB.out hw118_3 :)⟩ (fun hHeld => ?_)
    clear hK K
    refine norm_ (a' := ?_) ?_ ?_
    rotate_left
    ·show Act.put _ (some 9) _ = _
     simp only [aq_]
     rfl
    exact norm_ (by simp only [putAll, Act.put, List.setIfInBounds_toArray, List.set_cons_zero, List.set_cons_succ]) (hCont (gb119, gb120) _ ⟨hHeld, (bs BK119.out), (bs BK120.out), GW119.out, GE119.out, NB120_119.out, NB119_120.out, GW120.out, GE120.out, (by repeat (first | (with_reducible first | exact bw HB.out | refine bset ?_ | apply bA | apply bN | apply bD) | exact HB.out))⟩)
  rintro ⟨gb119, gb120⟩ w60 ⟨hS_, h0_, h1_, h2_, h3_, h4_, h5_, h6_, h7_, h8_⟩
  have n0_ : Aside0 (w60.heap[gb119]? = some (.cells #[.int .i64 0, .int .i64 0, .int .i64 0, .int .i64 0] 89 (0, 0))) := ⟨h0_⟩
  have n1_ : Aside0 (w60.heap[gb120]? = some (.cells #[.int .i64 0, .int .i64 0, .int .i64 0, .int .i64 0] 89 (0, 0))) := ⟨h1_⟩
  have n2_ : Aside0 (w.heap.size ≤ gb119) := ⟨h2_⟩
  have n3_ : Aside0 (w.heap.size ≤ gb119) := ⟨h3_⟩
  have n4_ : Aside0 (gb120 ≠ gb119) := ⟨h4_⟩
  have n5_ : Aside0 (gb119 ≠ gb120) := ⟨h5_⟩
  have n6_ : Aside0 (w.heap.size ≤ gb120) := ⟨h6_⟩
  have n7_ : Aside0 (w.heap.size ≤ gb120) := ⟨h7_⟩
  have n8_ : Aside0 (Below w.heap.size w w60) := ⟨h8_⟩
  clear HB
  clear h0_ h1_ h2_ h3_ h4_ h5_ h6_ h7_ h8_
  have BK119 := n0_
  have BK120 := n1_
  have GW119 := n2_
  have GE119 := n3_
  have NB120_119 := n4_
  have NB119_120 := n5_
  have GW120 := n6_
  have GE120 := n7_
  have HB := n8_
  clear n0_ n1_ n2_ n3_ n4_ n5_ n6_ n7_ n8_
  have hHeld : w60.cell? (ad117.add ((a2).toNat * 4)) = some (.int .i64 ((rd_T89 l0 a2).f0)) ∧ w60.cell? ⟨(ad117.add ((a2).toNat * 4)).block, (ad117.add ((a2).toNat * 4)).off + 1, none⟩ = some (.int .i64 ((rd_T89 l0 a2).f1)) ∧ w60.cell? ⟨(ad117.add ((a2).toNat * 4)).block, (ad117.add ((a2).toNat * 4)).off + 2, none⟩ = some (.int .i64 ((rd_T89 l0 a2).f2)) ∧ w60.cell? ⟨(ad117.add ((a2).toNat * 4)).block, (ad117.add ((a2).toNat * 4)).off + 3, none⟩ = some (.int .i64 ((rd_T89 l0 a2).f3)) ∧ w60.cell? (ad117.add ((a3).toNat * 4)) = some (.int .i64 ((rd_T89 l0 a3).f0)) ∧ w60.cell? ⟨(ad117.add ((a3).toNat * 4)).block, (ad117.add ((a3).toNat * 4)).off + 1, none⟩ = some (.int .i64 ((rd_T89 l0 a3).f1)) ∧ w60.cell? ⟨(ad117.add ((a3).toNat * 4)).block, (ad117.add ((a3).toNat * 4)).off + 2, none⟩ = some (.int .i64 ((rd_T89 l0 a3).f2)) ∧ w60.cell? ⟨(ad117.add ((a3).toNat * 4)).block, (ad117.add ((a3).toNat * 4)).off + 3, none⟩ = some (.int .i64 ((rd_T89 l0 a3).f3)) := hS_
  refine norm_ (a' := ?_) ?_ ?_
  rotate_left
  ·simp only [putAll, Act.put, List.setIfInBounds_toArray, List.set_cons_zero, List.set_cons_succ]
   rfl
  refine one_ (i := 10) (N := none) q79_12 rfl rfl (one_of HT_.out (by kernel_rfl)) (by decide) (fun K hK => ?_)
  have hs61 : w60.cell? ⟨gb119, 0, none⟩ = some (.int .i64 0) := (blk_cell BK119.out 0).trans rfl
  have hfs61 := blk_frozen BK119.out 0
  have hns61_1 := NB120_119.out
  have hms61_1 := NB119_120.out
  have hs62 : w60.cell? ⟨gb119, 1, none⟩ = some (.int .i64 0) := (blk_cell BK119.out 1).trans rfl
  have hfs62 := blk_frozen BK119.out 1
  have hns62_1 := NB120_119.out
  have hms62_1 := NB119_120.out
  have hs63 : w60.cell? ⟨gb119, 2, none⟩ = some (.int .i64 0) := (blk_cell BK119.out 2).trans rfl
  have hfs63 := blk_frozen BK119.out 2
  have hns63_1 := NB120_119.out
  have hms63_1 := NB119_120.out
  have hs64 : w60.cell? ⟨gb119, 3, none⟩ = some (.int .i64 0) := (blk_cell BK119.out 3).trans rfl
  have hfs64 := blk_frozen BK119.out 3
  have hns64_1 := NB120_119.out
  have hms64_1 := NB119_120.out
  refine skip_ (w1 := ?_) (by rfl) rfl ?_ ?_
  rotate_left
  ·go_simp
   rfl
  refine hK.out _ _ ⟨((cell_far (p := ⟨gb119, _, none⟩) (bne_ hw117_0 GW119.out) _).trans (((cell_far (p := ⟨gb119, _, none⟩) (bne_ hw117_0 GW119.out) _).trans (((cell_far (p := ⟨gb119, _, none⟩) (bne_ hw117_0 GW119.out) _).trans (((cell_far (p := ⟨gb119, _, none⟩) (bne_ hw117_0 GW119.out) _).trans (hHeld.1)))))))), ((cell_far (p := ⟨gb119, _, none⟩) (bne_ hw117_1 GW119.out) _).trans (((cell_far (p := ⟨gb119, _, none⟩) (bne_ hw117_1 GW119.out) _).trans (((cell_far (p := ⟨gb119, _, none⟩) (bne_ hw117_1 GW119.out) _).trans (((cell_far (p := ⟨gb119, _, none⟩) (bne_ hw117_1 GW119.out) _).trans (hHeld.2.1)))))))), ((cell_far (p := ⟨gb119, _, none⟩) (bne_ hw117_2 GW119.out) _).trans (((cell_far (p := ⟨gb119, _, none⟩) (bne_ hw117_2 GW119.out) _).trans (((cell_far (p := ⟨gb119, _, none⟩) (bne_ hw117_2 GW119.out) _).trans (((cell_far (p := ⟨gb119, _, none⟩) (bne_ hw117_2 GW119.out) _).trans (hHeld.2.2.1)))))))), ((cell_far (p := ⟨gb119, _, none⟩) (bne_ hw117_3 GW119.out) _).trans (((cell_far (p := ⟨gb119, _, none⟩) (bne_ hw117_3 GW119.out) _).trans (((cell_far (p := ⟨gb119, _, none⟩) (bne_ hw117_3 GW119.out) _).trans (((cell_far (p := ⟨gb119, _, none⟩) (bne_ hw117_3 GW119.out) _).trans (hHeld.2.2.2.1)))))))), ((cell_far (p := ⟨gb119, _, none⟩) (bne_ hw118_0 GW119.out) _).trans (((cell_far (p := ⟨gb119, _, none⟩) (bne_ hw118_0 GW119.out) _).trans (((cell_far (p := ⟨gb119, _, none⟩) (bne_ hw118_0 GW119.out) _).trans (((cell_far (p := ⟨gb119, _, none⟩) (bne_ hw118_0 GW119.out) _).trans (hHeld.2.2.2.2.1)))))))), ((cell_far (p := ⟨gb119, _, none⟩) (bne_ hw118_1 GW119.out) _).trans (((cell_far (p := ⟨gb119, _, none⟩) (bne_ hw118_1 GW119.out) _).trans (((cell_far (p := ⟨gb119, _, none⟩) (bne_ hw118_1 GW119.out) _).trans (((cell_far (p := ⟨gb119, _, none⟩) (bne_ hw118_1 GW119.out) _).trans (hHeld.2.2.2.2.2.1)))))))), ((cell_far (p := ⟨gb119, _, none⟩) (bne_ hw118_2 GW119.out) _).trans (((cell_far (p := ⟨gb119, _, none⟩) (bne_ hw118_2 GW119.out) _).trans (((cell_far (p := ⟨gb119, _, none⟩) (bne_ hw118_2 GW119.out) _).trans (((cell_far (p := ⟨gb119, _, none⟩) (bne_ hw118_2 GW119.out) _).trans (hHeld.2.2.2.2.2.2.1)))))))), ((cell_far (p := ⟨gb119, _, none⟩) (bne_ hw118_3 GW119.out) _).trans (((cell_far (p := ⟨gb119, _, none⟩) (bne_ hw118_3 GW119.out) _).trans (((cell_far (p := ⟨gb119, _, none⟩) (bne_ hw118_3 GW119.out) _).trans (((cell_far (p := ⟨gb119, _, none⟩) (bne_ hw118_3 GW119.out) _).trans (hHeld.2.2.2.2.2.2.2))))))))⟩ (fun hHeld => ?_)
  clear hK K
  refine one_ (i := 11) (N := none) q79_13 rfl rfl (one_of HT_.out (by kernel_rfl)) (by decide) (fun K hK => ?_)
  have hs65 : w60.cell? ⟨gb120, 0, none⟩ = some (.int .i64 0) := (blk_cell BK120.out 0).trans rfl
  have hfs65 := blk_frozen BK120.out 0
  have hns65_0 := NB119_120.out
  have hms65_0 := NB120_119.out
  have hs66 : w60.cell? ⟨gb120, 1, none⟩ = some (.int .i64 0) := (blk_cell BK120.out 1).trans rfl
  have hfs66 := blk_frozen BK120.out 1
  have hns66_0 := NB119_120.out
  have hms66_0 := NB120_119.out
  have hs67 : w60.cell? ⟨gb120, 2, none⟩ = some (.int .i64 0) := (blk_cell BK120.out 2).trans rfl
  have hfs67 := blk_frozen BK120.out 2
  have hns67_0 := NB119_120.out
  have hms67_0 := NB120_119.out
  have hs68 : w60.cell? ⟨gb120, 3, none⟩ = some (.int .i64 0) := (blk_cell BK120.out 3).trans rfl
  have hfs68 := blk_frozen BK120.out 3
  have hns68_0 := NB119_120.out
  have hms68_0 := NB120_119.out
  refine skip_ (w1 := ?_) (by rfl) rfl ?_ ?_
  rotate_left
  ·go_simp
   rfl
  refine hK.out _ _ ⟨((cell_far (p := ⟨gb120, _, none⟩) (bne_ hw117_0 GW120.out) _).trans (((cell_far (p := ⟨gb120, _, none⟩) (bne_ hw117_0 GW120.out) _).trans (((cell_far (p := ⟨gb120, _, none⟩) (bne_ hw117_0 GW120.out) _).trans (((cell_far (p := ⟨gb120, _, none⟩) (bne_ hw117_0 GW120.out) _).trans (hHeld.1)))))))), ((cell_far (p := ⟨gb120, _, none⟩) (bne_ hw117_1 GW120.out) _).trans (((cell_far (p := ⟨gb120, _, none⟩) (bne_ hw117_1 GW120.out) _).trans (((cell_far (p := ⟨gb120, _, none⟩) (bne_ hw117_1 GW120.out) _).trans (((cell_far (p := ⟨gb120, _, none⟩) (bne_ hw117_1 GW120.out) _).trans (hHeld.2.1)))))))), ((cell_far (p := ⟨gb120, _, none⟩) (bne_ hw117_2 GW120.out) _).trans (((cell_far (p := ⟨gb120, _, none⟩) (bne_ hw117_2 GW120.out) _).trans (((cell_far (p := ⟨gb120, _, none⟩) (bne_ hw117_2 GW120.out) _).trans (((cell_far (p := ⟨gb120, _, none⟩) (bne_ hw117_2 GW120.out) _).trans (hHeld.2.2.1)))))))), ((cell_far (p := ⟨gb120, _, none⟩) (bne_ hw117_3 GW120.out) _).trans (((cell_far (p := ⟨gb120, _, none⟩) (bne_ hw117_3 GW120.out) _).trans (((cell_far (p := ⟨gb120, _, none⟩) (bne_ hw117_3 GW120.out) _).trans (((cell_far (p := ⟨gb120, _, none⟩) (bne_ hw117_3 GW120.out) _).trans (hHeld.2.2.2.1)))))))), ((cell_far (p := ⟨gb120, _, none⟩) (bne_ hw118_0 GW120.out) _).trans (((cell_far (p := ⟨gb120, _, none⟩) (bne_ hw118_0 GW120.out) _).trans (((cell_far (p := ⟨gb120, _, none⟩) (bne_ hw118_0 GW120.out) _).trans (((cell_far (p := ⟨gb120, _, none⟩) (bne_ hw118_0 GW120.out) _).trans (hHeld.2.2.2.2.1)))))))), ((cell_far (p := ⟨gb120, _, none⟩) (bne_ hw118_1 GW120.out) _).trans (((cell_far (p := ⟨gb120, _, none⟩) (bne_ hw118_1 GW120.out) _).trans (((cell_far (p := ⟨gb120, _, none⟩) (bne_ hw118_1 GW120.out) _).trans (((cell_far (p := ⟨gb120, _, none⟩) (bne_ hw118_1 GW120.out) _).trans (hHeld.2.2.2.2.2.1)))))))), ((cell_far (p := ⟨gb120, _, none⟩) (bne_ hw118_2 GW120.out) _).trans (((cell_far (p := ⟨gb120, _, none⟩) (bne_ hw118_2 GW120.out) _).trans (((cell_far (p := ⟨gb120, _, none⟩) (bne_ hw118_2 GW120.out) _).trans (((cell_far (p := ⟨gb120, _, none⟩) (bne_ hw118_2 GW120.out) _).trans (hHeld.2.2.2.2.2.2.1)))))))), ((cell_far (p := ⟨gb120, _, none⟩) (bne_ hw118_3 GW120.out) _).trans (((cell_far (p := ⟨gb120, _, none⟩) (bne_ hw118_3 GW120.out) _).trans (((cell_far (p := ⟨gb120, _, none⟩) (bne_ hw118_3 GW120.out) _).trans (((cell_far (p := ⟨gb120, _, none⟩) (bne_ hw118_3 GW120.out) _).trans (hHeld.2.2.2.2.2.2.2))))))))⟩ (fun hHeld => ?_)
  clear hK K
  refine done_ (done_of HT_.out (by kernel_rfl)) ?_
  have hnb69 := NB119_120.out
  have hnc69 := NB120_119.out
  obtain ⟨hcz70_0, hcz70_1, hcz70_2, hcz70_3, hfz70_0, hfz70_1, hfz70_2, hfz70_3⟩ := bz4 BK119.out
  obtain ⟨hcz71_0, hcz71_1, hcz71_2, hcz71_3, hfz71_0, hfz71_1, hfz71_2, hfz71_3⟩ := bz4 BK120.out
  try go_wp2
  go_ret
  exact ⟨by first | rfl | (simp [errW_none, errW_some] <;> rfl) | (simp [*, errW_none, errW_some] <;> rfl), by repeat (first | (with_reducible first | exact bw HB.out | refine bset ?_ | apply bA | apply bN | apply bD) | exact HB.out)⟩
 rw [if_pos c41] at H
 have c41b0 : (a1 == 3) = true := beq_iff_eq.mpr c41
 have c41b1 : (a1 != 3) = false := bne_eq_false_iff_eq.mpr c41
 clear c41
 obtain rfl := Option.some.inj H
 go_enter Try.func79, Try.ntmps79
 try go_wp2
 have n0_ := Aside0.mk (below_drew1 HB.out)
 replace HB := n0_
 clear n0_
 have p117 : 0 ≤ (a2 : Int) := of_decide_eq_true (by first | (with_reducible assumption) | assumption)
 have q117 : a2 < (l0.length : Int) := of_decide_eq_true (by first | (with_reducible assumption) | assumption)
 obtain ⟨ad117, e117, hx117_0, hx117_1, hx117_2, hx117_3⟩ := at_T89 HR0.out a2 p117 q117
 have hw117_3 := hx117_3
 have hw117_2 := hx117_2
 have hw117_1 := hx117_1
 have hw117_0 := hx117_0
 cases e117
 replace hx117_0 := (HB.out.cell (World.block_lt_of_cell? w _ hx117_0)).trans hx117_0
 replace hx117_1 := (HB.out.cell (World.block_lt_of_cell? w _ hx117_1)).trans hx117_1
 replace hx117_2 := (HB.out.cell (World.block_lt_of_cell? w _ hx117_2)).trans hx117_2
 replace hx117_3 := (HB.out.cell (World.block_lt_of_cell? w _ hx117_3)).trans hx117_3
 replace p117 := eq_true p117
 replace q117 := eq_true q117
 have p118 : 0 ≤ (a3 : Int) := of_decide_eq_true (by first | (with_reducible assumption) | assumption)
 have q118 : a3 < (l0.length : Int) := of_decide_eq_true (by first | (with_reducible assumption) | assumption)
 obtain ⟨ad118, e118, hx118_0, hx118_1, hx118_2, hx118_3⟩ := at_T89 HR0.out a3 p118 q118
 have hw118_3 := hx118_3
 have hw118_2 := hx118_2
 have hw118_1 := hx118_1
 have hw118_0 := hx118_0
 obtain rfl : ad117 = ad118 := (by injection e118)
 replace hx118_0 := (HB.out.cell (World.block_lt_of_cell? w _ hx118_0)).trans hx118_0
 replace hx118_1 := (HB.out.cell (World.block_lt_of_cell? w _ hx118_1)).trans hx118_1
 replace hx118_2 := (HB.out.cell (World.block_lt_of_cell? w _ hx118_2)).trans hx118_2
 replace hx118_3 := (HB.out.cell (World.block_lt_of_cell? w _ hx118_3)).trans hx118_3
 replace p118 := eq_true p118
 replace q118 := eq_true q118
 refine start_ (n := 12) (S := fun w' => w'.cell? (ad117.add ((a2).toNat * 4)) = some (.int .i64 ((rd_T89 l0 a2).f0)) ∧ w'.cell? ⟨(ad117.add ((a2).toNat * 4)).block, (ad117.add ((a2).toNat * 4)).off + 1, none⟩ = some (.int .i64 ((rd_T89 l0 a2).f1)) ∧ w'.cell? ⟨(ad117.add ((a2).toNat * 4)).block, (ad117.add ((a2).toNat * 4)).off + 2, none⟩ = some (.int .i64 ((rd_T89 l0 a2).f2)) ∧ w'.cell? ⟨(ad117.add ((a2).toNat * 4)).block, (ad117.add ((a2).toNat * 4)).off + 3, none⟩ = some (.int .i64 ((rd_T89 l0 a2).f3)) ∧ w'.cell? (ad117.add ((a3).toNat * 4)) = some (.int .i64 ((rd_T89 l0 a3).f0)) ∧ w'.cell? ⟨(ad117.add ((a3).toNat * 4)).block, (ad117.add ((a3).toNat * 4)).off + 1, none⟩ = some (.int .i64 ((rd_T89 l0 a3).f1)) ∧ w'.cell? ⟨(ad117.add ((a3).toNat * 4)).block, (ad117.add ((a3).toNat * 4)).off + 2, none⟩ = some (.int .i64 ((rd_T89 l0 a3).f2)) ∧ w'.cell? ⟨(ad117.add ((a3).toNat * 4)).block, (ad117.add ((a3).toNat * 4)).off + 3, none⟩ = some (.int .i64 ((rd_T89 l0 a3).f3))) (ds := []) q79_0 (by kernel_rfl) rfl rfl ⟨(bcl_ HB.out hw117_0 :), (bcl_ HB.out hw117_1 :), (bcl_ HB.out hw117_2 :), (bcl_ HB.out hw117_3 :), (bcl_ HB.out hw118_0 :), (bcl_ HB.out hw118_1 :), (bcl_ HB.out hw118_2 :), (bcl_ HB.out hw118_3 :)⟩ (fun hHeld => ?_); refine with_tabW spec_l3Gap.tab1 spec_l3Gap.bits1 (fun HT_ HW_ => ?_)
 generalize w.drew = w42 at HB hx117_0 hx117_1 hx117_2 hx117_3 hx118_0 hx118_1 hx118_2 hx118_3 hHeld ⊢
 refine pup_ (i := 0) (N := some 11) HT_ rfl rfl (by kernel_rfl) (fun _ _ _ h => h) (Or.inl ⟨by rfl, by intro w'; go_simp; with_reducible rfl⟩) (by simp only [aq_]; rfl) ?_
 refine pup_ (i := 1) (N := some 12) HT_ rfl rfl (by kernel_rfl) (fun _ _ _ h => h) (Or.inl ⟨by rfl, by intro w'; go_simp; with_reducible rfl⟩) (by simp only [aq_]; rfl) ?_
 refine pup_ (i := 2) (N := some 13) HT_ rfl rfl (by kernel_rfl) (fun _ _ _ h => h) (Or.inl ⟨by rfl, by intro w'; go_simp; with_reducible rfl⟩) (by simp only [aq_]; rfl) ?_
 refine pup_ (i := 4) (N := some 15) HT_ rfl rfl (by kernel_rfl) (fun _ _ _ h => h) (Or.inl ⟨by rfl, by intro w'; go_simp; with_reducible rfl⟩) (by simp only [aq_]; rfl) ?_
 refine pup_ (i := 5) (N := some 16) HT_ rfl rfl (by kernel_rfl) (fun _ _ _ h => h) (Or.inl ⟨by rfl, by intro w'; go_simp; with_reducible rfl⟩) (by simp only [aq_]; rfl) ?_
 refine pup_ (i := 6) (N := some 17) HT_ rfl rfl (by kernel_rfl) (fun _ _ _ h => h) (Or.inl ⟨by rfl, by intro w'; go_simp; with_reducible rfl⟩) (by simp only [aq_]; rfl) ?_
 refine take_ (i := 3) (N := some 14) (v := ?_) (a' := ?_) q79_7 rfl rfl (take_ofW HT_.out HW_.out (by kernel_rfl)) (fun _ _ _ h => h) (Or.inl ⟨by rfl, ?_⟩) hHeld ?_ ?_
 rotate_left
 ·rintro w' ⟨s0, s1, s2, s3, s4, s5, s6, s7⟩
  go_simp
  with_reducible rfl
 rotate_left
 ·simp only [aq_]
  rfl
 refine take_ (i := 7) (N := some 18) (v := ?_) (a' := ?_) q79_8 rfl rfl (take_ofW HT_.out HW_.out (by kernel_rfl)) (fun _ _ _ h => h) (Or.inl ⟨by rfl, ?_⟩) hHeld ?_ ?_
 rotate_left
 ·rintro w' ⟨s0, s1, s2, s3, s4, s5, s6, s7⟩
  go_simp
  with_reducible rfl
 rotate_left
 ·simp only [aq_]
  rfl
 refine join_ (σ := Nat × Nat) 2 q79_9 (fun s_ => [(9, .pointer (some ⟨s_.1, 0, none⟩)), (10, .pointer (some ⟨s_.2, 0, none⟩))]) (fun s_ w' => (w'.cell? (ad117.add ((a2).toNat * 4)) = some (.int .i64 ((rd_T89 l0 a2).f0)) ∧ w'.cell? ⟨(ad117.add ((a2).toNat * 4)).block, (ad117.add ((a2).toNat * 4)).off + 1, none⟩ = some (.int .i64 ((rd_T89 l0 a2).f1)) ∧ w'.cell? ⟨(ad117.add ((a2).toNat * 4)).block, (ad117.add ((a2).toNat * 4)).off + 2, none⟩ = some (.int .i64 ((rd_T89 l0 a2).f2)) ∧ w'.cell? ⟨(ad117.add ((a2).toNat * 4)).block, (ad117.add ((a2).toNat * 4)).off + 3, none⟩ = some (.int .i64 ((rd_T89 l0 a2).f3)) ∧ w'.cell? (ad117.add ((a3).toNat * 4)) = some (.int .i64 ((rd_T89 l0 a3).f0)) ∧ w'.cell? ⟨(ad117.add ((a3).toNat * 4)).block, (ad117.add ((a3).toNat * 4)).off + 1, none⟩ = some (.int .i64 ((rd_T89 l0 a3).f1)) ∧ w'.cell? ⟨(ad117.add ((a3).toNat * 4)).block, (ad117.add ((a3).toNat * 4)).off + 2, none⟩ = some (.int .i64 ((rd_T89 l0 a3).f2)) ∧ w'.cell? ⟨(ad117.add ((a3).toNat * 4)).block, (ad117.add ((a3).toNat * 4)).off + 3, none⟩ = some (.int .i64 ((rd_T89 l0 a3).f3))) ∧ (w'.heap[s_.1]? = some (.cells #[.int .i64 0, .int .i64 0, .int .i64 0, .int .i64 0] 89 (0, 0))) ∧ (w'.heap[s_.2]? = some (.cells #[.int .i64 0, .int .i64 0, .int .i64 0, .int .i64 0] 89 (0, 0))) ∧ (w.heap.size ≤ s_.1) ∧ (w.heap.size ≤ s_.1) ∧ (s_.2 ≠ s_.1) ∧ (s_.1 ≠ s_.2) ∧ (w.heap.size ≤ s_.2) ∧ (w.heap.size ≤ s_.2) ∧ (Below w.heap.size w w')) ?_ ?_
 rotate_left
 ·intro hCont
  refine two_ (i := 8) (j := 9) (Ni := some 9) (Nj := some 10) q79_10 q79_11 rfl rfl rfl rfl (two_of HT_.out (by kernel_rfl)) (by decide) (by decide) (fun K hK => ?_) (fun K hK => ?_)
  ·skip
   refine box_step ?hg (N := 9) ?hd (cs := #[.int .i64 0, .int .i64 0, .int .i64 0, .int .i64 0]) (t := 89) ?hr ?_; (case hd => rfl); (case hg => rfl); (case hr => first | (go_simp; done) | (go_simp; rfl))
   intro gb119 hg w43 hbox hb
   have n0_ := Aside0.mk (below_step (bw HB.out) hb)
   have n1_ := Aside0.mk (hbox)
   have n2_ := ge_ hg HB.out
   have n3_ := ge_ hg HB.out
   replace HB := n0_
   have BK119 := n1_
   have GW119 := n2_
   have GE119 := n3_
   clear n0_ n1_ n2_ n3_
   clear hb hbox hg
   refine hK.out _ _ ⟨(bcl_ HB.out hw117_0 :), (bcl_ HB.out hw117_1 :), (bcl_ HB.out hw117_2 :), (bcl_ HB.out hw117_3 :), (bcl_ HB.out hw118_0 :), (bcl_ HB.out hw118_1 :), (bcl_ HB.out hw118_2 :), (bcl_ HB.out hw118_3 :)⟩ (fun hHeld => ?_)
   clear hK K
   refine norm_ (a' := ?_) ?_ ?_
   rotate_left
   ·show Act.put _ (some 9) _ = _
    simp only [aq_]
    rfl
   refine one_ (i := 9) (N := some 10) q79_9 rfl rfl (one_of HT_.out (by kernel_rfl)) (by decide) (fun K hK => ?_)
   refine box_step ?hg (N := 10) ?hd (cs := #[.int .i64 0, .int .i64 0, .int .i64 0, .int .i64 0]) (t := 89) ?hr ?_; (case hd => rfl); (case hg => rfl); (case hr => first | (go_simp; done) | (go_simp; rfl))
   intro gb120 hg w44 hbox hb
   have n0_ := Aside0.mk (blk_below (bs BK119.out) hb)
   have n1_ := Aside0.mk (below_step (by repeat (first | (with_reducible first | exact bw HB.out | refine bset ?_ | apply bA | apply bN | apply bD) | exact HB.out)) hb)
   have n2_ := Aside0.mk (hbox)
   have n3_ := Aside0.mk ((by rw [hg]; exact (below_size (by repeat (first | (with_reducible first | exact bw HB.out | refine bset ?_ | apply bA | apply bN | apply bD) | exact HB.out))) : w.heap.size ≤ gb120))
   have n4_ := Aside0.mk ((by rw [hg]; exact (below_size (by repeat (first | (with_reducible first | exact bw HB.out | refine bset ?_ | apply bA | apply bN | apply bD) | exact HB.out))) : w.heap.size ≤ gb120))
   have n5_ := ne_ hg BK119.out
   have n6_ := en_ hg BK119.out
   replace BK119 := n0_
   replace HB := n1_
   have BK120 := n2_
   have GW120 := n3_
   have GE120 := n4_
   have NB119_120 := n5_
   have NB120_119 := n6_
   clear n0_ n1_ n2_ n3_ n4_ n5_ n6_
   clear hb hbox hg
   refine hK.out _ _ ⟨(bcl_ HB.out hw117_0 :), (bcl_ HB.out hw117_1 :), (bcl_ HB.out hw117_2 :), (bcl_ HB.out hw117_3 :), (bcl_ HB.out hw118_0 :), (bcl_ HB.out hw118_1 :), (bcl_ HB.out hw118_2 :), (bcl_ HB.out hw118_3 :)⟩ (fun hHeld => ?_)
   clear hK K
   refine norm_ (a' := ?_) ?_ ?_
   rotate_left
   ·show Act.put _ (some 10) _ = _
    simp only [aq_]
    rfl
   exact norm_ (by simp only [putAll, Act.put, List.setIfInBounds_toArray, List.set_cons_zero, List.set_cons_succ]) (hCont (gb119, gb120) _ ⟨hHeld, (bs BK119.out), (bs BK120.out), GW119.out, GE119.out, NB120_119.out, NB119_120.out, GW120.out, GE120.out, (by repeat (first | (with_reducible first | exact bw HB.out | refine bset ?_ | apply bA | apply bN | apply bD) | exact HB.out))⟩)
  ·skip
   refine box_step ?hg (N := 10) ?hd (cs := #[.int .i64 0, .int .i64 0, .int .i64 0, .int .i64 0]) (t := 89) ?hr ?_; (case hd => rfl); (case hg => rfl); (case hr => first | (go_simp; done) | (go_simp; rfl))
   intro gb120 hg w43 hbox hb
   have n0_ := Aside0.mk (below_step (bw HB.out) hb)
   have n1_ := Aside0.mk (hbox)
   have n2_ := ge_ hg HB.out
   have n3_ := ge_ hg HB.out
   replace HB := n0_
   have BK120 := n1_
   have GW120 := n2_
   have GE120 := n3_
   clear n0_ n1_ n2_ n3_
   clear hb hbox hg
   refine hK.out _ _ ⟨(bcl_ HB.out hw117_0 :), (bcl_ HB.out hw117_1 :), (bcl_ HB.out hw117_2 :), (bcl_ HB.out hw117_3 :), (bcl_ HB.out hw118_0 :), (bcl_ HB.out hw118_1 :), (bcl_ HB.out hw118_2 :), (bcl_ HB.out hw118_3 :)⟩ (fun hHeld => ?_)
   clear hK K
   refine norm_ (a' := ?_) ?_ ?_
   rotate_left
   ·show Act.put _ (some 10) _ = _
    simp only [aq_]
    rfl
   refine one_ (i := 8) (N := some 9) q79_9 rfl rfl (one_of HT_.out (by kernel_rfl)) (by decide) (fun K hK => ?_)
   refine box_step ?hg (N := 9) ?hd (cs := #[.int .i64 0, .int .i64 0, .int .i64 0, .int .i64 0]) (t := 89) ?hr ?_; (case hd => rfl); (case hg => rfl); (case hr => first | (go_simp; done) | (go_simp; rfl))
   intro gb119 hg w44 hbox hb
   have n0_ := Aside0.mk (blk_below (bs BK120.out) hb)
   have n1_ := Aside0.mk (below_step (by repeat (first | (with_reducible first | exact bw HB.out | refine bset ?_ | apply bA | apply bN | apply bD) | exact HB.out)) hb)
   have n2_ := Aside0.mk (hbox)
   have n3_ := Aside0.mk ((by rw [hg]; exact (below_size (by repeat (first | (with_reducible first | exact bw HB.out | refine bset ?_ | apply bA | apply bN | apply bD) | exact HB.out))) : w.heap.size ≤ gb119))
   have n4_ := Aside0.mk ((by rw [hg]; exact (below_size (by repeat (first | (with_reducible first | exact bw HB.out | refine bset ?_ | apply bA | apply bN | apply bD) | exact HB.out))) : w.heap.size ≤ gb119))
   have n5_ := ne_ hg BK120.out
   have n6_ := en_ hg BK120.out
   replace BK120 := n0_
   replace HB := n1_
   have BK119 := n2_
   have GW119 := n3_
   have GE119 := n4_
   have NB120_119 := n5_
   have NB119_120 := n6_
   clear n0_ n1_ n2_ n3_ n4_ n5_ n6_
   clear hb hbox hg
   refine hK.out _ _ ⟨(bcl_ HB.out hw117_0 :), (bcl_ HB.out hw117_1 :), (bcl_ HB.out hw117_2 :), (bcl_ HB.out hw117_3 :), (bcl_ HB.out hw118_0 :), (bcl_ HB.out hw118_1 :), (bcl_ HB.out hw118_2 :), (bcl_ HB.out hw118_3 :)⟩ (fun hHeld => ?_)
   clear hK K
   refine norm_ (a' := ?_) ?_ ?_
   rotate_left
   ·show Act.put _ (some 9) _ = _
    simp only [aq_]
    rfl
   exact norm_ (by simp only [putAll, Act.put, List.setIfInBounds_toArray, List.set_cons_zero, List.set_cons_succ]) (hCont (gb119, gb120) _ ⟨hHeld, (bs BK119.out), (bs BK120.out), GW119.out, GE119.out, NB120_119.out, NB119_120.out, GW120.out, GE120.out, (by repeat (first | (with_reducible first | exact bw HB.out | refine bset ?_ | apply bA | apply bN | apply bD) | exact HB.out))⟩)
 rintro ⟨gb119, gb120⟩ w45 ⟨hS_, h0_, h1_, h2_, h3_, h4_, h5_, h6_, h7_, h8_⟩
 have n0_ : Aside0 (w45.heap[gb119]? = some (.cells #[.int .i64 0, .int .i64 0, .int .i64 0, .int .i64 0] 89 (0, 0))) := ⟨h0_⟩
 have n1_ : Aside0 (w45.heap[gb120]? = some (.cells #[.int .i64 0, .int .i64 0, .int .i64 0, .int .i64 0] 89 (0, 0))) := ⟨h1_⟩
 have n2_ : Aside0 (w.heap.size ≤ gb119) := ⟨h2_⟩
 have n3_ : Aside0 (w.heap.size ≤ gb119) := ⟨h3_⟩
 have n4_ : Aside0 (gb120 ≠ gb119) := ⟨h4_⟩
 have n5_ : Aside0 (gb119 ≠ gb120) := ⟨h5_⟩
 have n6_ : Aside0 (w.heap.size ≤ gb120) := ⟨h6_⟩
 have n7_ : Aside0 (w.heap.size ≤ gb120) := ⟨h7_⟩
 have n8_ : Aside0 (Below w.heap.size w w45) := ⟨h8_⟩
 clear HB
 clear h0_ h1_ h2_ h3_ h4_ h5_ h6_ h7_ h8_
 have BK119 := n0_
 have BK120 := n1_
 have GW119 := n2_
 have GE119 := n3_
 have NB120_119 := n4_
 have NB119_120 := n5_
 have GW120 := n6_
 have GE120 := n7_
 have HB := n8_
 clear n0_ n1_ n2_ n3_ n4_ n5_ n6_ n7_ n8_
 have hHeld : w45.cell? (ad117.add ((a2).toNat * 4)) = some (.int .i64 ((rd_T89 l0 a2).f0)) ∧ w45.cell? ⟨(ad117.add ((a2).toNat * 4)).block, (ad117.add ((a2).toNat * 4)).off + 1, none⟩ = some (.int .i64 ((rd_T89 l0 a2).f1)) ∧ w45.cell? ⟨(ad117.add ((a2).toNat * 4)).block, (ad117.add ((a2).toNat * 4)).off + 2, none⟩ = some (.int .i64 ((rd_T89 l0 a2).f2)) ∧ w45.cell? ⟨(ad117.add ((a2).toNat * 4)).block, (ad117.add ((a2).toNat * 4)).off + 3, none⟩ = some (.int .i64 ((rd_T89 l0 a2).f3)) ∧ w45.cell? (ad117.add ((a3).toNat * 4)) = some (.int .i64 ((rd_T89 l0 a3).f0)) ∧ w45.cell? ⟨(ad117.add ((a3).toNat * 4)).block, (ad117.add ((a3).toNat * 4)).off + 1, none⟩ = some (.int .i64 ((rd_T89 l0 a3).f1)) ∧ w45.cell? ⟨(ad117.add ((a3).toNat * 4)).block, (ad117.add ((a3).toNat * 4)).off + 2, none⟩ = some (.int .i64 ((rd_T89 l0 a3).f2)) ∧ w45.cell? ⟨(ad117.add ((a3).toNat * 4)).block, (ad117.add ((a3).toNat * 4)).off + 3, none⟩ = some (.int .i64 ((rd_T89 l0 a3).f3)) := hS_
 refine norm_ (a' := ?_) ?_ ?_
 rotate_left
 ·simp only [putAll, Act.put, List.setIfInBounds_toArray, List.set_cons_zero, List.set_cons_succ]
  rfl
 refine one_ (i := 10) (N := none) q79_12 rfl rfl (one_of HT_.out (by kernel_rfl)) (by decide) (fun K hK => ?_)
 have hs46 : w45.cell? ⟨gb119, 0, none⟩ = some (.int .i64 0) := (blk_cell BK119.out 0).trans rfl
 have hfs46 := blk_frozen BK119.out 0
 have hns46_1 := NB120_119.out
 have hms46_1 := NB119_120.out
 have hs47 : w45.cell? ⟨gb119, 1, none⟩ = some (.int .i64 0) := (blk_cell BK119.out 1).trans rfl
 have hfs47 := blk_frozen BK119.out 1
 have hns47_1 := NB120_119.out
 have hms47_1 := NB119_120.out
 have hs48 : w45.cell? ⟨gb119, 2, none⟩ = some (.int .i64 0) := (blk_cell BK119.out 2).trans rfl
 have hfs48 := blk_frozen BK119.out 2
 have hns48_1 := NB120_119.out
 have hms48_1 := NB119_120.out
 have hs49 : w45.cell? ⟨gb119, 3, none⟩ = some (.int .i64 0) := (blk_cell BK119.out 3).trans rfl
 have hfs49 := blk_frozen BK119.out 3
 have hns49_1 := NB120_119.out
 have hms49_1 := NB119_120.out
 refine skip_ (w1 := ?_) (by rfl) rfl ?_ ?_
 rotate_left
 ·go_simp
  rfl
 refine hK.out _ _ ⟨((cell_far (p := ⟨gb119, _, none⟩) (bne_ hw117_0 GW119.out) _).trans (((cell_far (p := ⟨gb119, _, none⟩) (bne_ hw117_0 GW119.out) _).trans (((cell_far (p := ⟨gb119, _, none⟩) (bne_ hw117_0 GW119.out) _).trans (((cell_far (p := ⟨gb119, _, none⟩) (bne_ hw117_0 GW119.out) _).trans (hHeld.1)))))))), ((cell_far (p := ⟨gb119, _, none⟩) (bne_ hw117_1 GW119.out) _).trans (((cell_far (p := ⟨gb119, _, none⟩) (bne_ hw117_1 GW119.out) _).trans (((cell_far (p := ⟨gb119, _, none⟩) (bne_ hw117_1 GW119.out) _).trans (((cell_far (p := ⟨gb119, _, none⟩) (bne_ hw117_1 GW119.out) _).trans (hHeld.2.1)))))))), ((cell_far (p := ⟨gb119, _, none⟩) (bne_ hw117_2 GW119.out) _).trans (((cell_far (p := ⟨gb119, _, none⟩) (bne_ hw117_2 GW119.out) _).trans (((cell_far (p := ⟨gb119, _, none⟩) (bne_ hw117_2 GW119.out) _).trans (((cell_far (p := ⟨gb119, _, none⟩) (bne_ hw117_2 GW119.out) _).trans (hHeld.2.2.1)))))))), ((cell_far (p := ⟨gb119, _, none⟩) (bne_ hw117_3 GW119.out) _).trans (((cell_far (p := ⟨gb119, _, none⟩) (bne_ hw117_3 GW119.out) _).trans (((cell_far (p := ⟨gb119, _, none⟩) (bne_ hw117_3 GW119.out) _).trans (((cell_far (p := ⟨gb119, _, none⟩) (bne_ hw117_3 GW119.out) _).trans (hHeld.2.2.2.1)))))))), ((cell_far (p := ⟨gb119, _, none⟩) (bne_ hw118_0 GW119.out) _).trans (((cell_far (p := ⟨gb119, _, none⟩) (bne_ hw118_0 GW119.out) _).trans (((cell_far (p := ⟨gb119, _, none⟩) (bne_ hw118_0 GW119.out) _).trans (((cell_far (p := ⟨gb119, _, none⟩) (bne_ hw118_0 GW119.out) _).trans (hHeld.2.2.2.2.1)))))))), ((cell_far (p := ⟨gb119, _, none⟩) (bne_ hw118_1 GW119.out) _).trans (((cell_far (p := ⟨gb119, _, none⟩) (bne_ hw118_1 GW119.out) _).trans (((cell_far (p := ⟨gb119, _, none⟩) (bne_ hw118_1 GW119.out) _).trans (((cell_far (p := ⟨gb119, _, none⟩) (bne_ hw118_1 GW119.out) _).trans (hHeld.2.2.2.2.2.1)))))))), ((cell_far (p := ⟨gb119, _, none⟩) (bne_ hw118_2 GW119.out) _).trans (((cell_far (p := ⟨gb119, _, none⟩) (bne_ hw118_2 GW119.out) _).trans (((cell_far (p := ⟨gb119, _, none⟩) (bne_ hw118_2 GW119.out) _).trans (((cell_far (p := ⟨gb119, _, none⟩) (bne_ hw118_2 GW119.out) _).trans (hHeld.2.2.2.2.2.2.1)))))))), ((cell_far (p := ⟨gb119, _, none⟩) (bne_ hw118_3 GW119.out) _).trans (((cell_far (p := ⟨gb119, _, none⟩) (bne_ hw118_3 GW119.out) _).trans (((cell_far (p := ⟨gb119, _, none⟩) (bne_ hw118_3 GW119.out) _).trans (((cell_far (p := ⟨gb119, _, none⟩) (bne_ hw118_3 GW119.out) _).trans (hHeld.2.2.2.2.2.2.2))))))))⟩ (fun hHeld => ?_)
 clear hK K
 refine one_ (i := 11) (N := none) q79_13 rfl rfl (one_of HT_.out (by kernel_rfl)) (by decide) (fun K hK => ?_)
 have hs50 : w45.cell? ⟨gb120, 0, none⟩ = some (.int .i64 0) := (blk_cell BK120.out 0).trans rfl
 have hfs50 := blk_frozen BK120.out 0
 have hns50_0 := NB119_120.out
 have hms50_0 := NB120_119.out
 have hs51 : w45.cell? ⟨gb120, 1, none⟩ = some (.int .i64 0) := (blk_cell BK120.out 1).trans rfl
 have hfs51 := blk_frozen BK120.out 1
 have hns51_0 := NB119_120.out
 have hms51_0 := NB120_119.out
 have hs52 : w45.cell? ⟨gb120, 2, none⟩ = some (.int .i64 0) := (blk_cell BK120.out 2).trans rfl
 have hfs52 := blk_frozen BK120.out 2
 have hns52_0 := NB119_120.out
 have hms52_0 := NB120_119.out
 have hs53 : w45.cell? ⟨gb120, 3, none⟩ = some (.int .i64 0) := (blk_cell BK120.out 3).trans rfl
 have hfs53 := blk_frozen BK120.out 3
 have hns53_0 := NB119_120.out
 have hms53_0 := NB120_119.out
 refine skip_ (w1 := ?_) (by rfl) rfl ?_ ?_
 rotate_left
 ·go_simp
  rfl
 refine hK.out _ _ ⟨((cell_far (p := ⟨gb120, _, none⟩) (bne_ hw117_0 GW120.out) _).trans (((cell_far (p := ⟨gb120, _, none⟩) (bne_ hw117_0 GW120.out) _).trans (((cell_far (p := ⟨gb120, _, none⟩) (bne_ hw117_0 GW120.out) _).trans (((cell_far (p := ⟨gb120, _, none⟩) (bne_ hw117_0 GW120.out) _).trans (hHeld.1)))))))), ((cell_far (p := ⟨gb120, _, none⟩) (bne_ hw117_1 GW120.out) _).trans (((cell_far (p := ⟨gb120, _, none⟩) (bne_ hw117_1 GW120.out) _).trans (((cell_far (p := ⟨gb120, _, none⟩) (bne_ hw117_1 GW120.out) _).trans (((cell_far (p := ⟨gb120, _, none⟩) (bne_ hw117_1 GW120.out) _).trans (hHeld.2.1)))))))), ((cell_far (p := ⟨gb120, _, none⟩) (bne_ hw117_2 GW120.out) _).trans (((cell_far (p := ⟨gb120, _, none⟩) (bne_ hw117_2 GW120.out) _).trans (((cell_far (p := ⟨gb120, _, none⟩) (bne_ hw117_2 GW120.out) _).trans (((cell_far (p := ⟨gb120, _, none⟩) (bne_ hw117_2 GW120.out) _).trans (hHeld.2.2.1)))))))), ((cell_far (p := ⟨gb120, _, none⟩) (bne_ hw117_3 GW120.out) _).trans (((cell_far (p := ⟨gb120, _, none⟩) (bne_ hw117_3 GW120.out) _).trans (((cell_far (p := ⟨gb120, _, none⟩) (bne_ hw117_3 GW120.out) _).trans (((cell_far (p := ⟨gb120, _, none⟩) (bne_ hw117_3 GW120.out) _).trans (hHeld.2.2.2.1)))))))), ((cell_far (p := ⟨gb120, _, none⟩) (bne_ hw118_0 GW120.out) _).trans (((cell_far (p := ⟨gb120, _, none⟩) (bne_ hw118_0 GW120.out) _).trans (((cell_far (p := ⟨gb120, _, none⟩) (bne_ hw118_0 GW120.out) _).trans (((cell_far (p := ⟨gb120, _, none⟩) (bne_ hw118_0 GW120.out) _).trans (hHeld.2.2.2.2.1)))))))), ((cell_far (p := ⟨gb120, _, none⟩) (bne_ hw118_1 GW120.out) _).trans (((cell_far (p := ⟨gb120, _, none⟩) (bne_ hw118_1 GW120.out) _).trans (((cell_far (p := ⟨gb120, _, none⟩) (bne_ hw118_1 GW120.out) _).trans (((cell_far (p := ⟨gb120, _, none⟩) (bne_ hw118_1 GW120.out) _).trans (hHeld.2.2.2.2.2.1)))))))), ((cell_far (p := ⟨gb120, _, none⟩) (bne_ hw118_2 GW120.out) _).trans (((cell_far (p := ⟨gb120, _, none⟩) (bne_ hw118_2 GW120.out) _).trans (((cell_far (p := ⟨gb120, _, none⟩) (bne_ hw118_2 GW120.out) _).trans (((cell_far (p := ⟨gb120, _, none⟩) (bne_ hw118_2 GW120.out) _).trans (hHeld.2.2.2.2.2.2.1)))))))), ((cell_far (p := ⟨gb120, _, none⟩) (bne_ hw118_3 GW120.out) _).trans (((cell_far (p := ⟨gb120, _, none⟩) (bne_ hw118_3 GW120.out) _).trans (((cell_far (p := ⟨gb120, _, none⟩) (bne_ hw118_3 GW120.out) _).trans (((cell_far (p := ⟨gb120, _, none⟩) (bne_ hw118_3 GW120.out) _).trans (hHeld.2.2.2.2.2.2.2))))))))⟩ (fun hHeld => ?_)
 clear hK K
 refine done_ (done_of HT_.out (by kernel_rfl)) ?_
 have hnb54 := NB119_120.out
 have hnc54 := NB120_119.out
 obtain ⟨hcz55_0, hcz55_1, hcz55_2, hcz55_3, hfz55_0, hfz55_1, hfz55_2, hfz55_3⟩ := bz4 BK119.out
 obtain ⟨hcz56_0, hcz56_1, hcz56_2, hcz56_3, hfz56_0, hfz56_1, hfz56_2, hfz56_3⟩ := bz4 BK120.out
 try go_wp2
 go_ret
 exact ⟨by first | rfl | (simp [errW_none, errW_some] <;> rfl) | (simp [*, errW_none, errW_some] <;> rfl), by repeat (first | (with_reducible first | exact bw HB.out | refine bset ?_ | apply bA | apply bN | apply bD) | exact HB.out)⟩

/-! ### spec_l3Inversions: function 78 -/
abbrev q78_0 : Array Bool := ⟨rl_ [12] false⟩
abbrev q78_9 : Array Bool := ⟨rl_ [9, 3] true⟩
abbrev q78_10 : Array Bool := ⟨rl_ [10, 2] true⟩
abbrev q78_11 : Array Bool := ⟨rl_ [11, 1] true⟩
abbrev q78_13 : Array Bool := ⟨rl_ [13] false⟩
abbrev q78_21 : Array Bool := ⟨rl_ [8, 5] true⟩
abbrev q78_22 : Array Bool := ⟨rl_ [9, 4] true⟩
abbrev q78_24 : Array Bool := ⟨rl_ [11, 2] true⟩
abbrev q78_25 : Array Bool := ⟨rl_ [12, 1] true⟩
mutual
def spec_l3Inversions.l0 : Nat → List (S89) → List Int → Int → List (S71) → Int → Option ((List (S71)))
 | 0, _, _, _, _, _ => none
 | k + 1, x0, x1, x2, x7, x8 => if x8 < (x1.length : Int) then (spec_l3Inversions.l1 k x0 x1 x2 x7 x8 (wrap64 (x8 + 1))) else (some x7)
def spec_l3Inversions.l1 : Nat → List (S89) → List Int → Int → List (S71) → Int → Int → Option ((List (S71)))
 | 0, _, _, _, _, _, _ => none
 | k + 1, x0, x1, x2, x7, x8, x9 => if x9 < (x1.length : Int) then (if 0 ≤ x8 then (if x8 < (x1.length : Int) then (if 0 ≤ x9 then ((spec_l3Gap.f x0 x2 (rd x1 x8) (rd x1 x9)).bind fun t126 => (if t126 > 0 then (if x7.length < 8796093022208 then (spec_l3Inversions.l1 k x0 x1 x2 (x7 ++ [(⟨rd x1 x8, rd x1 x9⟩ : S71)]) x8 (wrap64 (x9 + 1))) else (none)) else (spec_l3Inversions.l1 k x0 x1 x2 x7 x8 (wrap64 (x9 + 1))))) else (none)) else (none)) else (none)) else (spec_l3Inversions.l0 k x0 x1 x2 x7 (wrap64 (x8 + 1)))
end
def spec_l3Inversions.f (k : Nat) (l0 : List (S89)) (l1 : List Int) (a2 : Int) : Option ((List (S71))) := spec_l3Inversions.l0 k l0 l1 a2 (([] : List (S71))) 0
theorem spec_l3Inversions.mono_l : ∀ k, (∀ y0 y1 y2 y3 y4, LeO (spec_l3Inversions.l0 k y0 y1 y2 y3 y4) (spec_l3Inversions.l0 (k + 1) y0 y1 y2 y3 y4)) ∧ (∀ y0 y1 y2 y3 y4 y5, LeO (spec_l3Inversions.l1 k y0 y1 y2 y3 y4 y5) (spec_l3Inversions.l1 (k + 1) y0 y1 y2 y3 y4 y5))
 | 0 => ⟨fun _ _ _ _ _ r h => by simp [spec_l3Inversions.l0] at h, fun _ _ _ _ _ _ r h => by simp [spec_l3Inversions.l1] at h⟩
 | k + 1 => by
  obtain ⟨ih0, ih1⟩ := spec_l3Inversions.mono_l k
  refine ⟨?_, ?_⟩
  ·intro y0 y1 y2 y3 y4
   unfold spec_l3Inversions.l0
   repeat' first
   | (with_reducible exact ih0 _ _ _ _ _)
   | (with_reducible exact ih1 _ _ _ _ _ _)
   | (with_reducible exact LeO.refl _)
   | (with_reducible exact LeO.none _)
   | (with_reducible refine LeO.ite ?_ ?_)
   | (with_reducible refine LeO.bind ?_ (fun _ => ?_))
   | exact ih0 _ _ _ _ _
   | exact ih1 _ _ _ _ _ _
   | exact LeO.none _
   | refine LeO.ite ?_ ?_
   | refine LeO.bind ?_ (fun _ => ?_)
  ·intro y0 y1 y2 y3 y4 y5
   unfold spec_l3Inversions.l1
   repeat' first
   | (with_reducible exact ih0 _ _ _ _ _)
   | (with_reducible exact ih1 _ _ _ _ _ _)
   | (with_reducible exact LeO.refl _)
   | (with_reducible exact LeO.none _)
   | (with_reducible refine LeO.ite ?_ ?_)
   | (with_reducible refine LeO.bind ?_ (fun _ => ?_))
   | exact ih0 _ _ _ _ _
   | exact ih1 _ _ _ _ _ _
   | exact LeO.none _
   | refine LeO.ite ?_ ?_
   | refine LeO.bind ?_ (fun _ => ?_)
theorem spec_l3Inversions.mono : ∀ a0 a1 a2 k, LeO (spec_l3Inversions.f k a0 a1 a2) (spec_l3Inversions.f (k + 1) a0 a1 a2) := by
 intro a0 a1 a2 k
 obtain ⟨ih0, ih1⟩ := spec_l3Inversions.mono_l k
 unfold spec_l3Inversions.f
 repeat' first
   | (with_reducible exact ih0 _ _ _ _ _)
   | (with_reducible exact ih1 _ _ _ _ _ _)
   | (with_reducible exact LeO.refl _)
   | (with_reducible exact LeO.none _)
   | (with_reducible refine LeO.ite ?_ ?_)
   | (with_reducible refine LeO.bind ?_ (fun _ => ?_))
   | exact ih0 _ _ _ _ _
   | exact ih1 _ _ _ _ _ _
   | exact LeO.none _
   | refine LeO.ite ?_ ?_
   | refine LeO.bind ?_ (fun _ => ?_)
def spec_l3Inversions.T8 : Bool × List (List Nat × List Nat) := (true, [([], []), ([], []), ([], []), ([], []), ([2, 3], [2, 3]), ([4], [4]), ([], []), ([], []), ([6, 7], [6, 7]), ([8], [8]), ([0, 1, 5, 9], [0, 1, 5, 9]), ([10], [10])])
def spec_l3Inversions.B8 : List Nat := [0, 0, 0, 0, 12, 28, 0, 0, 192, 448, 1023, 2047]
theorem spec_l3Inversions.tab8 : rtab .any (opsOf Try.f78 8) = spec_l3Inversions.T8 := by kernel_rfl
theorem spec_l3Inversions.bits8 : waitsOk spec_l3Inversions.T8.2 spec_l3Inversions.B8 = true := by kernel_rfl
def spec_l3Inversions.T9 : Bool × List (List Nat × List Nat) := (true, [([], []), ([], []), ([], []), ([1, 2], [1, 2]), ([3], [3]), ([], []), ([], []), ([5, 6], [5, 6]), ([7], [7]), ([4, 8], [4, 8]), ([9], [9]), ([0, 10], [0, 10]), ([11, 11, 0, 1, 2, 3, 4, 5, 6, 7, 8, 9, 10, 11], [0, 11])])
def spec_l3Inversions.B9 : List Nat := [0, 0, 0, 6, 14, 0, 0, 96, 224, 510, 1022, 2047, 4095]
theorem spec_l3Inversions.tab9 : rtab .any (opsOf Try.f78 9) = spec_l3Inversions.T9 := by kernel_rfl
theorem spec_l3Inversions.bits9 : waitsOk spec_l3Inversions.T9.2 spec_l3Inversions.B9 = true := by kernel_rfl
set_option maxHeartbeats 8000000 in
set_option maxRecDepth 100000 in
theorem spec_l3Inversions.calls (k : Nat) (A0 : Option Addr) (c0 : Nat) (l0 : List (S89)) (A1 : Option Addr) (c1 : Nat) (l1 : List Int) (a2 : Int) (r : List (S71)) (w : World) (hr0 : Kd.C k89 w A0 l0.length l0) (hc0 : l0.length ≤ c0) (hr1 : Kd.C (Kd.int .i64) w A1 l1.length l1) (hc1 : l1.length ≤ c1) (h : spec_l3Inversions.f k l0 l1 a2 = some r) :
  Calls Try.prog 78 #[.slice A0 l0.length c0, .slice A1 l1.length c1, .int .i64 a2] w fun e w' => ∃ v0_ : Value, e = .returned (v0_) ∧ Kd.R k71 71 w' w.heap.size (fun _ => True) v0_ r ∧ Below w.heap.size w w' := by
 have hu71 := Try.underlying71
 have HR0 := Aside0.mk hr0
 have HC0 := Aside0.mk hc0
 clear hr0 hc0
 have HR1 := Aside0.mk hr1
 have HC1 := Aside0.mk hc1
 clear hr1 hc1
 have HB := Aside0.mk (Below.refl w.heap.size w)
 have H : (spec_l3Inversions.l0 k l0 l1 a2 (([] : List (S71))) 0) = some r := h
 clear h
 obtain ⟨y121, hy121⟩ : ∃ y_ : List (S71), y_ = (([] : List (S71))) := ⟨_, rfl⟩
 replace H : (spec_l3Inversions.l0 k l0 l1 a2 y121 0) = some r := by first | (rw [hy121]; with_reducible exact H) | (have H2_ := (Option.bind_some _ _).symm.trans H; rw [hy121]; with_reducible exact H2_) | (have H2_ := (Option.bind_some _ _).symm.trans H; with_reducible exact H2_) | with_reducible exact H | (rw [hy121]; exact H) | exact H
 have Ny121 := Aside0.mk hy121
 clear hy121
 have H' := Aside0.mk H
 clear H
 go_enter Try.func78, Try.ntmps78
 go_wp2_with (first | ((with_reducible refine gate_dst (N := 10) rfl ?_); refine Kd.R_lit k71 _ 71 ?hg (N := 10) ?hd (xs := ([] : List (S71))) (inner := []) (ok := fun _ => True) (okp := fun _ => True) ?hr ?hp (fun _ hk => hk) trivial (Below.refl _ _) (Nat.le_refl _) (by simp) ?_; (case hd => rfl); (case hg => rfl); (case hr => first | (go_simp; done) | (go_simp; rfl)); (case hp => exact (Reps.none _ _)); intro v122 w4 ho5 hb hg_ hnew_; clear hg_ hnew_; (first | rw [← Ny121.out] at ho5 | (simp only [Int.reduceToNat] at ho5; rw [← Ny121.out] at ho5)); have n0_ := Aside0.mk (Kd.R_lower ho5 (below_size (bw HB.out))); have n1_ := Aside0.mk (below_step (bw HB.out) hb); have HO123 := n0_; replace HB := n1_; clear n0_ n1_; clear hb ho5))
 go_loopg [7, 8] k (fun kq v7 v8 w' => ∃ (x7_1 : List (S71)) (x8_1 : Int), v8 = .int .i64 x8_1 ∧ Aside0 (spec_l3Inversions.l0 kq l0 l1 a2 x7_1 x8_1 = some r) ∧ Aside0 (kq ≤ k) ∧ Aside0 (Kd.R k71 71 w' w.heap.size (fun _ => True) v7 x7_1) ∧ Aside0 (Below w.heap.size w w'))
 case atStart => exact ⟨(y121), (0), (by first | rfl | (simp; done) | (simp [*]; done)), H', ⟨Nat.le_refl _⟩, ⟨bR HO123.out⟩, ⟨bw HB.out⟩⟩
 case round =>
  clear H'
  try clear c1
  try clear p2
  obtain ⟨x7_1, x8_1, rfl, HA, HK1, HO_7, HB⟩ := hrel
  cases gk with
  | zero => exact absurd HA.out (by simp [spec_l3Inversions.l0])
  | succ k1 =>
   have H := HA.out
   clear HA
   simp only [spec_l3Inversions.l0] at H
   by_cases c6 : x8_1 < (l1.length : Int)
   rotate_left
   ·rw [if_neg c6] at H
    have c6b0 : decide (x8_1 < (l1.length : Int)) = false := decide_eq_false c6
    clear c6
    obtain rfl := Option.some.inj H
    go_wp2
    go_ret
    exact ⟨_, by first | rfl | (simp [errW_none, errW_some] <;> rfl) | (simp [*, errW_none, errW_some] <;> rfl), by (with_reducible repeat (first | apply Kd.R_alloc | apply Kd.R_drewN | apply Kd.R_drew)); exact HO_7.out, bw HB.out⟩
   rw [if_pos c6] at H
   have c6b0 : decide (x8_1 < (l1.length : Int)) = true := decide_eq_true c6
   clear c6
   have H' := Aside0.mk H
   clear H
   go_wp2
   go_loopg [7, 9] k1 (fun kq v7 v9 w' => ∃ (x7_2 : List (S71)) (x9_2 : Int), v9 = .int .i64 x9_2 ∧ Aside0 (spec_l3Inversions.l1 kq l0 l1 a2 x7_2 x8_1 x9_2 = some r) ∧ Aside0 (kq ≤ k1) ∧ Aside0 (Kd.R k71 71 w' w.heap.size (fun _ => True) v7 x7_2) ∧ Aside0 (Below w.heap.size w w'))
   case atStart => exact ⟨(x7_1), (wrap64 (x8_1 + 1)), (by first | rfl | (simp; done) | (simp [*]; done)), H', ⟨Nat.le_refl _⟩, ⟨bR HO_7.out⟩, ⟨bw HB.out⟩⟩
   case round =>
    clear H'
    try clear c1
    try clear p2
    try clear c6
    try clear c6b0
    try clear p6
    try clear p2
    obtain ⟨x7_2, x9_2, rfl, HA, HK2, HO_7, HB⟩ := hrel
    cases gk with
    | zero => exact absurd HA.out (by simp [spec_l3Inversions.l1])
    | succ k2 =>
     have H := HA.out
     clear HA
     simp only [spec_l3Inversions.l1] at H
     by_cases c7 : x9_2 < (l1.length : Int)
     rotate_left
     ·rw [if_neg c7] at H
      have c7b0 : decide (x9_2 < (l1.length : Int)) = false := decide_eq_false c7
      clear c7
      have H' := Aside0.mk H
      clear H
      go_wp2
      go_roundg k2
      case measure => have := HK1.out; have := HK2.out; omega
      case rel => exact ⟨(x7_2), (wrap64 (x8_1 + 1)), (by first | rfl | (simp; done) | (simp [*]; done)), H', ⟨by have := HK1.out; have := HK2.out; omega⟩, ⟨bR HO_7.out⟩, ⟨bw HB.out⟩⟩
     rw [if_pos c7] at H
     have c7b0 : decide (x9_2 < (l1.length : Int)) = true := decide_eq_true c7
     clear c7
     by_cases c8 : 0 ≤ x8_1
     rotate_left
     ·rw [if_neg c8] at H
      exact absurd H (by simp)
     rw [if_pos c8] at H
     have c8b0 : decide (0 ≤ x8_1) = true := decide_eq_true c8
     clear c8
     by_cases c9 : x8_1 < (l1.length : Int)
     rotate_left
     ·rw [if_neg c9] at H
      exact absurd H (by simp)
     rw [if_pos c9] at H
     have c9b0 : decide (x8_1 < (l1.length : Int)) = true := decide_eq_true c9
     clear c9
     by_cases c10 : 0 ≤ x9_2
     rotate_left
     ·rw [if_neg c10] at H
      exact absurd H (by simp)
     rw [if_pos c10] at H
     have c10b0 : decide (0 ≤ x9_2) = true := decide_eq_true c10
     clear c10
     replace H := Option.bind_eq_some_iff.mp H
     obtain ⟨t126, A110, H⟩ := H
     replace H : (if t126 > 0 then (if x7_2.length < 8796093022208 then (spec_l3Inversions.l1 k2 l0 l1 a2 (x7_2 ++ [(⟨rd l1 x8_1, rd l1 x9_2⟩ : S71)]) x8_1 (wrap64 (x9_2 + 1))) else (none)) else (spec_l3Inversions.l1 k2 l0 l1 a2 x7_2 x8_1 (wrap64 (x9_2 + 1)))) = some r := H
     have A11 := Aside0.mk A110
     clear A110
     by_cases c12 : t126 > 0
     rotate_left
     ·rw [if_neg c12] at H
      have c12b0 : decide (0 < t126) = false := decide_eq_false c12
      clear c12
      have H' := Aside0.mk H
      clear H
      try go_wp2
      have n0_ := Aside0.mk (Kd.R_drew HO_7.out)
      have n1_ := Aside0.mk (below_drew1 HB.out)
      replace HO_7 := n0_
      replace HB := n1_
      clear n0_ n1_
      have p124 : 0 ≤ (x8_1 : Int) := of_decide_eq_true (by first | (with_reducible assumption) | assumption)
      have q124 : x8_1 < (l1.length : Int) := of_decide_eq_true (by first | (with_reducible assumption) | assumption)
      obtain ⟨ad124, e124, hx124_0⟩ := Kd.at_int HR1.out x8_1 p124 q124
      have hw124_0 := hx124_0
      cases e124
      replace hx124_0 := (HB.out.cell (World.block_lt_of_cell? w _ hx124_0)).trans hx124_0
      replace p124 := eq_true p124
      replace q124 := eq_true q124
      have p125 : 0 ≤ (x9_2 : Int) := of_decide_eq_true (by first | (with_reducible assumption) | assumption)
      have q125 : x9_2 < (l1.length : Int) := of_decide_eq_true (by first | (with_reducible assumption) | assumption)
      obtain ⟨ad125, e125, hx125_0⟩ := Kd.at_int HR1.out x9_2 p125 q125
      have hw125_0 := hx125_0
      obtain rfl : ad124 = ad125 := (by injection e125)
      replace hx125_0 := (HB.out.cell (World.block_lt_of_cell? w _ hx125_0)).trans hx125_0
      replace p125 := eq_true p125
      replace q125 := eq_true q125
      refine start_ (n := 12) (S := fun w' => w'.cell? (ad124.add (x8_1).toNat) = some (.int .i64 (rd l1 x8_1)) ∧ w'.cell? (ad124.add (x9_2).toNat) = some (.int .i64 (rd l1 x9_2))) (ds := []) q78_0 (by kernel_rfl) rfl rfl ⟨(bcl_ HB.out hw124_0 :), (bcl_ HB.out hw125_0 :)⟩ (fun hHeld => ?_); refine with_tabW spec_l3Inversions.tab8 spec_l3Inversions.bits8 (fun HT_ HW_ => ?_)
      generalize wr.drew = w18 at HO_7 HB hx124_0 hx125_0 hHeld ⊢
      refine pup_ (i := 0) (N := some 25) HT_ rfl rfl (by kernel_rfl) (fun _ _ _ h => h) (Or.inl ⟨by rfl, by intro w'; go_simp; with_reducible rfl⟩) (by simp only [aq_]; rfl) ?_
      refine pup_ (i := 1) (N := some 26) HT_ rfl rfl (by kernel_rfl) (fun _ _ _ h => h) (Or.inl ⟨by rfl, by intro w'; go_simp; with_reducible rfl⟩) (by simp only [aq_]; rfl) ?_
      refine pup_ (i := 2) (N := some 27) HT_ rfl rfl (by kernel_rfl) (fun _ _ _ h => h) (Or.inl ⟨by rfl, by intro w'; go_simp; with_reducible rfl⟩) (by simp only [aq_]; rfl) ?_
      refine pup_ (i := 3) (N := some 28) HT_ rfl rfl (by kernel_rfl) (fun _ _ _ h => h) (Or.inl ⟨by rfl, by intro w'; go_simp; with_reducible rfl⟩) (by simp only [aq_]; rfl) ?_
      refine pup_ (i := 4) (N := some 29) HT_ rfl rfl (by kernel_rfl) (fun _ _ _ h => h) (Or.inl ⟨by rfl, by intro w'; go_simp; with_reducible rfl⟩) (by simp only [aq_]; rfl) ?_
      refine pup_ (i := 6) (N := some 31) HT_ rfl rfl (by kernel_rfl) (fun _ _ _ h => h) (Or.inl ⟨by rfl, by intro w'; go_simp; with_reducible rfl⟩) (by simp only [aq_]; rfl) ?_
      refine pup_ (i := 7) (N := some 32) HT_ rfl rfl (by kernel_rfl) (fun _ _ _ h => h) (Or.inl ⟨by rfl, by intro w'; go_simp; with_reducible rfl⟩) (by simp only [aq_]; rfl) ?_
      refine pup_ (i := 8) (N := some 33) HT_ rfl rfl (by kernel_rfl) (fun _ _ _ h => h) (Or.inl ⟨by rfl, by intro w'; go_simp; with_reducible rfl⟩) (by simp only [aq_]; rfl) ?_
      refine take_ (i := 5) (N := some 30) (v := ?_) (a' := ?_) q78_9 rfl rfl (take_ofW HT_.out HW_.out (by kernel_rfl)) (fun _ _ _ h => h) (Or.inl ⟨by rfl, ?_⟩) hHeld ?_ ?_
      rotate_left
      ·rintro w' ⟨s0, s1⟩
       go_simp
       with_reducible rfl
      rotate_left
      ·simp only [aq_]
       rfl
      refine take_ (i := 9) (N := some 34) (v := ?_) (a' := ?_) q78_10 rfl rfl (take_ofW HT_.out HW_.out (by kernel_rfl)) (fun _ _ _ h => h) (Or.inl ⟨by rfl, ?_⟩) hHeld ?_ ?_
      rotate_left
      ·rintro w' ⟨s0, s1⟩
       go_simp
       with_reducible rfl
      rotate_left
      ·simp only [aq_]
       rfl
      refine one_ (i := 10) (N := some 35) q78_11 rfl rfl (one_of HT_.out (by kernel_rfl)) (by decide) (fun K hK => ?_)
      refine goes_ Try.func79 (by kernel_rfl) rfl #[.slice A0 l0.length c0, .int .i64 a2, .int .i64 (rd l1 x8_1), .int .i64 (rd l1 x9_2)] (by rfl) rfl rfl (by (try simp only [mA_]); first | done | rfl | (simp only [List.length_drop, List.length_take]; rfl)) ?_
      with_reducible refine (spec_l3Gap.calls _ _ l0 a2 (rd l1 x8_1) (rd l1 x9_2) t126 _ ?side1 ?side2 A11.out).mono ?_
      (case side1 => first | exact bC HR0.out HB.out | exact Kd.C_below HR0.out HB.out)
      (case side2 => exact HC0.out)
      rintro e w19 ⟨rfl, hb⟩
      refine ⟨_, rfl, ?_⟩
      have n0_ := Aside0.mk (Kd.R_below (bR HO_7.out) hb)
      have n1_ := Aside0.mk (below_step (bw HB.out) hb)
      replace HO_7 := n0_
      replace HB := n1_
      clear n0_ n1_
      (try clear hb)
      (try clear hb2)
      (try clear hk)
      (try clear hi)
      refine hK.out _ _ ⟨(bcl_ HB.out hw124_0 :), (bcl_ HB.out hw125_0 :)⟩ (fun hHeld => ?_)
      clear hK K
      refine norm_ (a' := ?_) ?_ ?_
      rotate_left
      ·show Act.put _ (some 35) _ = _
       simp only [aq_]
       rfl
      refine pup_ (i := 11) (N := some 36) HT_ rfl rfl (by kernel_rfl) (fun _ _ _ h => h) (Or.inl ⟨by rfl, by intro w'; go_simp; with_reducible rfl⟩) (by simp only [aq_]; rfl) ?_
      refine done_ (done_of HT_.out (by kernel_rfl)) ?_
      try go_wp2
      go_roundg k2
      case measure => have := HK1.out; have := HK2.out; omega
      case rel => exact ⟨(x7_2), (wrap64 (x9_2 + 1)), (by first | rfl | (simp; done) | (simp [*]; done)), H', ⟨by have := HK1.out; have := HK2.out; omega⟩, ⟨bR HO_7.out⟩, ⟨bw HB.out⟩⟩
     rw [if_pos c12] at H
     have c12b0 : decide (0 < t126) = true := decide_eq_true c12
     clear c12
     by_cases c13 : x7_2.length < 8796093022208
     rotate_left
     ·rw [if_neg c13] at H
      exact absurd H (by simp)
     rw [if_pos c13] at H
     have LMc13 := Aside0.mk c13
     clear c13
     obtain ⟨y129, hy129⟩ : ∃ y_ : List (S71), y_ = (x7_2 ++ [(⟨rd l1 x8_1, rd l1 x9_2⟩ : S71)]) := ⟨_, rfl⟩
     replace H : (spec_l3Inversions.l1 k2 l0 l1 a2 y129 x8_1 (wrap64 (x9_2 + 1))) = some r := by first | (rw [hy129]; with_reducible exact H) | (have H2_ := (Option.bind_some _ _).symm.trans H; rw [hy129]; with_reducible exact H2_) | (have H2_ := (Option.bind_some _ _).symm.trans H; with_reducible exact H2_) | with_reducible exact H | (rw [hy129]; exact H) | exact H
     have Ny129 := Aside0.mk hy129
     clear hy129
     have H' := Aside0.mk H
     clear H
     try go_wp2
     have n0_ := Aside0.mk (Kd.R_drew HO_7.out)
     have n1_ := Aside0.mk (below_drew1 HB.out)
     replace HO_7 := n0_
     replace HB := n1_
     clear n0_ n1_
     have p124 : 0 ≤ (x8_1 : Int) := of_decide_eq_true (by first | (with_reducible assumption) | assumption)
     have q124 : x8_1 < (l1.length : Int) := of_decide_eq_true (by first | (with_reducible assumption) | assumption)
     obtain ⟨ad124, e124, hx124_0⟩ := Kd.at_int HR1.out x8_1 p124 q124
     have hw124_0 := hx124_0
     cases e124
     replace hx124_0 := (HB.out.cell (World.block_lt_of_cell? w _ hx124_0)).trans hx124_0
     replace p124 := eq_true p124
     replace q124 := eq_true q124
     have p125 : 0 ≤ (x9_2 : Int) := of_decide_eq_true (by first | (with_reducible assumption) | assumption)
     have q125 : x9_2 < (l1.length : Int) := of_decide_eq_true (by first | (with_reducible assumption) | assumption)
     obtain ⟨ad125, e125, hx125_0⟩ := Kd.at_int HR1.out x9_2 p125 q125
     have hw125_0 := hx125_0
     obtain rfl : ad124 = ad125 := (by injection e125)
     replace hx125_0 := (HB.out.cell (World.block_lt_of_cell? w _ hx125_0)).trans hx125_0
     replace p125 := eq_true p125
     replace q125 := eq_true q125
     refine start_ (n := 12) (S := fun w' => w'.cell? (ad124.add (x8_1).toNat) = some (.int .i64 (rd l1 x8_1)) ∧ w'.cell? (ad124.add (x9_2).toNat) = some (.int .i64 (rd l1 x9_2))) (ds := []) q78_0 (by kernel_rfl) rfl rfl ⟨(bcl_ HB.out hw124_0 :), (bcl_ HB.out hw125_0 :)⟩ (fun hHeld => ?_); refine with_tabW spec_l3Inversions.tab8 spec_l3Inversions.bits8 (fun HT_ HW_ => ?_)
     generalize wr.drew = w14 at HO_7 HB hx124_0 hx125_0 hHeld ⊢
     refine pup_ (i := 0) (N := some 25) HT_ rfl rfl (by kernel_rfl) (fun _ _ _ h => h) (Or.inl ⟨by rfl, by intro w'; go_simp; with_reducible rfl⟩) (by simp only [aq_]; rfl) ?_
     refine pup_ (i := 1) (N := some 26) HT_ rfl rfl (by kernel_rfl) (fun _ _ _ h => h) (Or.inl ⟨by rfl, by intro w'; go_simp; with_reducible rfl⟩) (by simp only [aq_]; rfl) ?_
     refine pup_ (i := 2) (N := some 27) HT_ rfl rfl (by kernel_rfl) (fun _ _ _ h => h) (Or.inl ⟨by rfl, by intro w'; go_simp; with_reducible rfl⟩) (by simp only [aq_]; rfl) ?_
     refine pup_ (i := 3) (N := some 28) HT_ rfl rfl (by kernel_rfl) (fun _ _ _ h => h) (Or.inl ⟨by rfl, by intro w'; go_simp; with_reducible rfl⟩) (by simp only [aq_]; rfl) ?_
     refine pup_ (i := 4) (N := some 29) HT_ rfl rfl (by kernel_rfl) (fun _ _ _ h => h) (Or.inl ⟨by rfl, by intro w'; go_simp; with_reducible rfl⟩) (by simp only [aq_]; rfl) ?_
     refine pup_ (i := 6) (N := some 31) HT_ rfl rfl (by kernel_rfl) (fun _ _ _ h => h) (Or.inl ⟨by rfl, by intro w'; go_simp; with_reducible rfl⟩) (by simp only [aq_]; rfl) ?_
     refine pup_ (i := 7) (N := some 32) HT_ rfl rfl (by kernel_rfl) (fun _ _ _ h => h) (Or.inl ⟨by rfl, by intro w'; go_simp; with_reducible rfl⟩) (by simp only [aq_]; rfl) ?_
     refine pup_ (i := 8) (N := some 33) HT_ rfl rfl (by kernel_rfl) (fun _ _ _ h => h) (Or.inl ⟨by rfl, by intro w'; go_simp; with_reducible rfl⟩) (by simp only [aq_]; rfl) ?_
     refine take_ (i := 5) (N := some 30) (v := ?_) (a' := ?_) q78_9 rfl rfl (take_ofW HT_.out HW_.out (by kernel_rfl)) (fun _ _ _ h => h) (Or.inl ⟨by rfl, ?_⟩) hHeld ?_ ?_
     rotate_left
     ·rintro w' ⟨s0, s1⟩
      go_simp
      with_reducible rfl
     rotate_left
     ·simp only [aq_]
      rfl
     refine take_ (i := 9) (N := some 34) (v := ?_) (a' := ?_) q78_10 rfl rfl (take_ofW HT_.out HW_.out (by kernel_rfl)) (fun _ _ _ h => h) (Or.inl ⟨by rfl, ?_⟩) hHeld ?_ ?_
     rotate_left
     ·rintro w' ⟨s0, s1⟩
      go_simp
      with_reducible rfl
     rotate_left
     ·simp only [aq_]
      rfl
     refine one_ (i := 10) (N := some 35) q78_11 rfl rfl (one_of HT_.out (by kernel_rfl)) (by decide) (fun K hK => ?_)
     refine goes_ Try.func79 (by kernel_rfl) rfl #[.slice A0 l0.length c0, .int .i64 a2, .int .i64 (rd l1 x8_1), .int .i64 (rd l1 x9_2)] (by rfl) rfl rfl (by (try simp only [mA_]); first | done | rfl | (simp only [List.length_drop, List.length_take]; rfl)) ?_
     with_reducible refine (spec_l3Gap.calls _ _ l0 a2 (rd l1 x8_1) (rd l1 x9_2) t126 _ ?side1 ?side2 A11.out).mono ?_
     (case side1 => first | exact bC HR0.out HB.out | exact Kd.C_below HR0.out HB.out)
     (case side2 => exact HC0.out)
     rintro e w15 ⟨rfl, hb⟩
     refine ⟨_, rfl, ?_⟩
     have n0_ := Aside0.mk (Kd.R_below (bR HO_7.out) hb)
     have n1_ := Aside0.mk (below_step (bw HB.out) hb)
     replace HO_7 := n0_
     replace HB := n1_
     clear n0_ n1_
     (try clear hb)
     (try clear hb2)
     (try clear hk)
     (try clear hi)
     refine hK.out _ _ ⟨(bcl_ HB.out hw124_0 :), (bcl_ HB.out hw125_0 :)⟩ (fun hHeld => ?_)
     clear hK K
     refine norm_ (a' := ?_) ?_ ?_
     rotate_left
     ·show Act.put _ (some 35) _ = _
      simp only [aq_]
      rfl
     refine pup_ (i := 11) (N := some 36) HT_ rfl rfl (by kernel_rfl) (fun _ _ _ h => h) (Or.inl ⟨by rfl, by intro w'; go_simp; with_reducible rfl⟩) (by simp only [aq_]; rfl) ?_
     refine done_ (done_of HT_.out (by kernel_rfl)) ?_
     try go_wp2
     have n0_ := Aside0.mk (Kd.R_drew HO_7.out)
     have n1_ := Aside0.mk (below_drew1 HB.out)
     replace HO_7 := n0_
     replace HB := n1_
     clear n0_ n1_
     have p127 : 0 ≤ (x8_1 : Int) := of_decide_eq_true (by first | (with_reducible assumption) | assumption)
     have q127 : x8_1 < (l1.length : Int) := of_decide_eq_true (by first | (with_reducible assumption) | assumption)
     obtain ⟨ad127, e127, hx127_0⟩ := Kd.at_int HR1.out x8_1 p127 q127
     have hw127_0 := hx127_0
     obtain rfl : ad124 = ad127 := (by injection e127)
     replace hx127_0 := (HB.out.cell (World.block_lt_of_cell? w _ hx127_0)).trans hx127_0
     replace p127 := eq_true p127
     replace q127 := eq_true q127
     have p128 : 0 ≤ (x9_2 : Int) := of_decide_eq_true (by first | (with_reducible assumption) | assumption)
     have q128 : x9_2 < (l1.length : Int) := of_decide_eq_true (by first | (with_reducible assumption) | assumption)
     obtain ⟨ad128, e128, hx128_0⟩ := Kd.at_int HR1.out x9_2 p128 q128
     have hw128_0 := hx128_0
     obtain rfl : ad124 = ad128 := (by injection e128)
     replace hx128_0 := (HB.out.cell (World.block_lt_of_cell? w _ hx128_0)).trans hx128_0
     replace p128 := eq_true p128
     replace q128 := eq_true q128
     refine start_ (n := 13) (S := fun w' => w'.cell? (ad124.add (x8_1).toNat) = some (.int .i64 (rd l1 x8_1)) ∧ w'.cell? (ad124.add (x9_2).toNat) = some (.int .i64 (rd l1 x9_2))) (ds := []) q78_13 (by kernel_rfl) rfl rfl ⟨(bcl_ HB.out hw127_0 :), (bcl_ HB.out hw128_0 :)⟩ (fun hHeld => ?_); refine with_tabW spec_l3Inversions.tab9 spec_l3Inversions.bits9 (fun HT_ HW_ => ?_)
     generalize w15.drew = w16 at HO_7 HB hx127_0 hx128_0 hHeld ⊢
     refine pup_ (i := 0) (N := some 37) HT_ rfl rfl (by kernel_rfl) (fun _ _ _ h => h) (Or.inl ⟨by rfl, by intro w'; go_simp; with_reducible rfl⟩) (by simp only [aq_]; rfl) ?_
     refine pup_ (i := 1) (N := some 38) HT_ rfl rfl (by kernel_rfl) (fun _ _ _ h => h) (Or.inl ⟨by rfl, by intro w'; go_simp; with_reducible rfl⟩) (by simp only [aq_]; rfl) ?_
     refine pup_ (i := 2) (N := some 39) HT_ rfl rfl (by kernel_rfl) (fun _ _ _ h => h) (Or.inl ⟨by rfl, by intro w'; go_simp; with_reducible rfl⟩) (by simp only [aq_]; rfl) ?_
     refine pup_ (i := 3) (N := some 40) HT_ rfl rfl (by kernel_rfl) (fun _ _ _ h => h) (Or.inl ⟨by rfl, by intro w'; go_simp; with_reducible rfl⟩) (by simp only [aq_]; rfl) ?_
     refine pup_ (i := 5) (N := some 42) HT_ rfl rfl (by kernel_rfl) (fun _ _ _ h => h) (Or.inl ⟨by rfl, by intro w'; go_simp; with_reducible rfl⟩) (by simp only [aq_]; rfl) ?_
     refine pup_ (i := 6) (N := some 43) HT_ rfl rfl (by kernel_rfl) (fun _ _ _ h => h) (Or.inl ⟨by rfl, by intro w'; go_simp; with_reducible rfl⟩) (by simp only [aq_]; rfl) ?_
     refine pup_ (i := 7) (N := some 44) HT_ rfl rfl (by kernel_rfl) (fun _ _ _ h => h) (Or.inl ⟨by rfl, by intro w'; go_simp; with_reducible rfl⟩) (by simp only [aq_]; rfl) ?_
     refine take_ (i := 4) (N := some 41) (v := ?_) (a' := ?_) q78_21 rfl rfl (take_ofW HT_.out HW_.out (by kernel_rfl)) (fun _ _ _ h => h) (Or.inl ⟨by rfl, ?_⟩) hHeld ?_ ?_
     rotate_left
     ·rintro w' ⟨s0, s1⟩
      go_simp
      with_reducible rfl
     rotate_left
     ·simp only [aq_]
      rfl
     refine take_ (i := 8) (N := some 45) (v := ?_) (a' := ?_) q78_22 rfl rfl (take_ofW HT_.out HW_.out (by kernel_rfl)) (fun _ _ _ h => h) (Or.inl ⟨by rfl, ?_⟩) hHeld ?_ ?_
     rotate_left
     ·rintro w' ⟨s0, s1⟩
      go_simp
      with_reducible rfl
     rotate_left
     ·simp only [aq_]
      rfl
     refine pup_ (i := 9) (N := some 46) HT_ rfl rfl (by kernel_rfl) (fun _ _ _ h => h) (Or.inl ⟨by rfl, by intro w'; go_simp; with_reducible rfl⟩) (by simp only [aq_]; rfl) ?_
     refine one_ (i := 10) (N := some 47) q78_24 rfl rfl (one_of HT_.out (by kernel_rfl)) (by decide) (fun K hK => ?_)
     refine value_ (w1 := ?_) (v := ?_) (by rfl) rfl ?_ ?_
     rotate_left 2
     ·go_simp
      constructor
      ·rfl
      ·rfl
     refine hK.out _ _ ⟨(World.cell?_alloc_lt _ _ _ (World.block_lt_of_cell? _ _ ((bcl_ HB.out hw127_0 :)))).trans ((bcl_ HB.out hw127_0 :)), (World.cell?_alloc_lt _ _ _ (World.block_lt_of_cell? _ _ ((bcl_ HB.out hw128_0 :)))).trans ((bcl_ HB.out hw128_0 :))⟩ (fun hHeld => ?_)
     clear hK K
     refine norm_ (a' := ?_) ?_ ?_
     rotate_left
     ·show Act.put _ (some 47) _ = _
      simp only [aq_]
      rfl
     refine one_ (i := 11) (N := some 48) q78_25 rfl rfl (one_of HT_.out (by kernel_rfl)) (by decide) (fun K hK => ?_)
     refine Kd.R_append_step k71 (w0 := w) w.heap.size (by rfl) (.tmp 37) (.tmp 47) 46 71 (.agg #[(.int .i64 0), (.int .i64 0)]) 16 rfl Try.underlying46 info71 rfl (by decide) (by omega) u7 x7_2 (⟨rd l1 x8_1, rd l1 x9_2⟩ : S71) [.int .i64 (rd l1 x8_1), .int .i64 (rd l1 x9_2)] (fun _ => True) (fun _ => False) rfl rfl ?aP (fun _ hk => hk.elim) ?aF ?aO ?aB ?aS ?aL ?_
     (case aP => exact k71_mkM _ _ _ (⟨rd l1 x8_1, rd l1 x9_2⟩ : S71))
     (case aB => exact (bw HB.out))
     (case aF => exact (fun _ _ => trivial))
     (case aO => exact (bR HO_7.out))
     (case aS => exact (below_size (bw HB.out)))
     (case aL => have := LMc13.out; omega)
     intro v130 w17 ho hb hg hat
     rw [← Ny129.out] at ho
     have n0_ := Aside0.mk (hb)
     have n1_ := Aside0.mk (ho)
     clear HO_7
     replace HB := n0_
     have HO131 := n1_
     clear n0_ n1_
     clear ho hb hg hat
     refine hK.out _ _ ⟨(bcl_ HB.out hw127_0 :), (bcl_ HB.out hw128_0 :)⟩ (fun hHeld => ?_)
     clear hK K
     refine norm_ (a' := ?_) ?_ ?_
     rotate_left
     ·show Act.put _ (some 48) _ = _
      simp only [aq_]
      rfl
     refine pup_ (i := 12) (N := some 7) HT_ rfl rfl (by kernel_rfl) (fun _ _ _ h => h) (Or.inl ⟨by rfl, by intro w'; go_simp; with_reducible rfl⟩) (by simp only [aq_]; rfl) ?_
     refine done_ (done_of HT_.out (by kernel_rfl)) ?_
     try go_wp2
     go_roundg k2
     case measure => have := HK1.out; have := HK2.out; omega
     case rel => exact ⟨(y129), (wrap64 (x9_2 + 1)), (by first | rfl | (simp; done) | (simp [*]; done)), H', ⟨by have := HK1.out; have := HK2.out; omega⟩, ⟨bR HO131.out⟩, ⟨bw HB.out⟩⟩

/-! ### impl_isPlain: function 176 -/
def impl_isPlain.l0 : Nat → List (S89) → Int → Int → Option (Bool)
 | 0, _, _, _ => none
 | k + 1, x5, x6, x7 => if x7 < x6 then (if 0 ≤ x7 then (if x7 < (x5.length : Int) then (if ((rd_T89 x5 x7).f2) = 0 then (impl_isPlain.l0 k x5 x6 (wrap64 (x7 + 1))) else (some false)) else (none)) else (none)) else (some true)
def impl_isPlain.f (k : Nat) (l0 : List (S89)) : Option (Bool) := impl_isPlain.l0 k l0 (l0.length : Int) 0
theorem impl_isPlain.mono_l : ∀ k, (∀ y0 y1 y2, LeO (impl_isPlain.l0 k y0 y1 y2) (impl_isPlain.l0 (k + 1) y0 y1 y2))
 | 0 => fun _ _ _ r h => by simp [impl_isPlain.l0] at h
 | k + 1 => by
  have ih0 := impl_isPlain.mono_l k
  ·intro y0 y1 y2
   unfold impl_isPlain.l0
   repeat' first
   | (with_reducible exact ih0 _ _ _)
   | (with_reducible exact LeO.refl _)
   | (with_reducible exact LeO.none _)
   | (with_reducible refine LeO.ite ?_ ?_)
   | (with_reducible refine LeO.bind ?_ (fun _ => ?_))
   | exact ih0 _ _ _
   | exact LeO.none _
   | refine LeO.ite ?_ ?_
   | refine LeO.bind ?_ (fun _ => ?_)
theorem impl_isPlain.mono : ∀ a0 k, LeO (impl_isPlain.f k a0) (impl_isPlain.f (k + 1) a0) := by
 intro a0 k
 have ih0 := impl_isPlain.mono_l k
 unfold impl_isPlain.f
 repeat' first
   | (with_reducible exact ih0 _ _ _)
   | (with_reducible exact LeO.refl _)
   | (with_reducible exact LeO.none _)
   | (with_reducible refine LeO.ite ?_ ?_)
   | (with_reducible refine LeO.bind ?_ (fun _ => ?_))
   | exact ih0 _ _ _
   | exact LeO.none _
   | refine LeO.ite ?_ ?_
   | refine LeO.bind ?_ (fun _ => ?_)
set_option maxHeartbeats 8000000 in
set_option maxRecDepth 100000 in
theorem impl_isPlain.calls (k : Nat) (A0 : Option Addr) (c0 : Nat) (l0 : List (S89)) (r : Bool) (w : World) (hr0 : Kd.C k89 w A0 l0.length l0) (hc0 : l0.length ≤ c0) (h : impl_isPlain.f k l0 = some r) :
  Calls Try.prog 176 #[.slice A0 l0.length c0] w fun e w' => e = .returned (.bool r) ∧ Below w.heap.size w w' := by
 have hu89 := Try.underlying89
 have HR0 := Aside0.mk hr0
 have HC0 := Aside0.mk hc0
 clear hr0 hc0
 have HB := Aside0.mk (Below.refl w.heap.size w)
 have H : (impl_isPlain.l0 k l0 (l0.length : Int) 0) = some r := h
 clear h
 have H' := Aside0.mk H
 clear H
 go_enter Try.func176, Try.ntmps176
 go_wp2
 go_loopg [7] k (fun kq v7 w' => ∃ (x7_1 : Int), v7 = .int .i64 x7_1 ∧ Aside0 (impl_isPlain.l0 kq l0 (l0.length : Int) x7_1 = some r) ∧ Aside0 (kq ≤ k) ∧ Aside0 (Below w.heap.size w w'))
 case atStart => exact ⟨(0), (by first | rfl | (simp; done) | (simp [*]; done)), H', ⟨Nat.le_refl _⟩, ⟨bw HB.out⟩⟩
 case round =>
  clear H'
  try clear c1
  obtain ⟨x7_1, rfl, HA, HK1, HB⟩ := hrel
  cases gk with
  | zero => exact absurd HA.out (by simp [impl_isPlain.l0])
  | succ k1 =>
   have H := HA.out
   clear HA
   simp only [impl_isPlain.l0] at H
   by_cases c2 : x7_1 < (l0.length : Int)
   rotate_left
   ·rw [if_neg c2] at H
    have c2b0 : decide (x7_1 < (l0.length : Int)) = false := decide_eq_false c2
    clear c2
    obtain rfl := Option.some.inj H
    go_wp2
    go_ret
    exact ⟨by first | rfl | (simp [errW_none, errW_some] <;> rfl) | (simp [*, errW_none, errW_some] <;> rfl), bw HB.out⟩
   rw [if_pos c2] at H
   have c2b0 : decide (x7_1 < (l0.length : Int)) = true := decide_eq_true c2
   clear c2
   by_cases c3 : 0 ≤ x7_1
   rotate_left
   ·rw [if_neg c3] at H
    exact absurd H (by simp)
   rw [if_pos c3] at H
   have c3b0 : decide (0 ≤ x7_1) = true := decide_eq_true c3
   clear c3
   by_cases c4 : x7_1 < (l0.length : Int)
   rotate_left
   ·rw [if_neg c4] at H
    exact absurd H (by simp)
   rw [if_pos c4] at H
   have c4b0 : decide (x7_1 < (l0.length : Int)) = true := decide_eq_true c4
   clear c4
   by_cases c5 : ((rd_T89 l0 x7_1).f2) = 0
   rotate_left
   ·rw [if_neg c5] at H
    have c5b0 : (((rd_T89 l0 x7_1).f2) == 0) = false := beq_eq_false_iff_ne.mpr c5
    have c5b1 : (((rd_T89 l0 x7_1).f2) != 0) = true := bne_iff_ne.mpr c5
    obtain rfl := Option.some.inj H
    have p170 : 0 ≤ (x7_1 : Int) := of_decide_eq_true (by first | (with_reducible assumption) | assumption)
    have q170 : x7_1 < (l0.length : Int) := of_decide_eq_true (by first | (with_reducible assumption) | assumption)
    obtain ⟨ad170, e170, hx170_0, hx170_1, hx170_2, hx170_3⟩ := at_T89 HR0.out x7_1 p170 q170
    cases e170
    replace hx170_0 := (HB.out.cell (World.block_lt_of_cell? w _ hx170_0)).trans hx170_0
    replace hx170_1 := (HB.out.cell (World.block_lt_of_cell? w _ hx170_1)).trans hx170_1
    replace hx170_2 := (HB.out.cell (World.block_lt_of_cell? w _ hx170_2)).trans hx170_2
    replace hx170_3 := (HB.out.cell (World.block_lt_of_cell? w _ hx170_3)).trans hx170_3
    replace p170 := eq_true p170
    replace q170 := eq_true q170
    go_wp2_with (first | ((with_reducible refine gate_dst (N := 4) rfl ?_); refine box_event ?hg (N := 4) ?hd (cs := #[.int .i64 0, .int .i64 0, .int .i64 0, .int .i64 0]) (t := 89) ?hr ?_; (case hd => rfl); (case hg => rfl); (case hr => first | (go_simp; done) | (go_simp; rfl)); intro gb171 hg w8 hbox hb; have n0_ := Aside0.mk (below_step (bw HB.out) hb); have n1_ := Aside0.mk (hbox); have n2_ := ge_ hg HB.out; have n3_ := ge_ hg HB.out; replace HB := n0_; have BK171 := n1_; have GW171 := n2_; have GE171 := n3_; clear n0_ n1_ n2_ n3_; clear hb hbox hg; obtain ⟨hcz9_0, hcz9_1, hcz9_2, hcz9_3, hfz9_0, hfz9_1, hfz9_2, hfz9_3⟩ := bz4 BK171.out))
    go_ret
    exact ⟨by first | rfl | (simp [errW_none, errW_some] <;> rfl) | (simp [*, errW_none, errW_some] <;> rfl), by repeat (first | (with_reducible first | exact bw HB.out | refine bset ?_ | apply bA | apply bN | apply bD) | exact HB.out)⟩
   rw [if_pos c5] at H
   have c5b0 : (((rd_T89 l0 x7_1).f2) == 0) = true := beq_iff_eq.mpr c5
   have c5b1 : (((rd_T89 l0 x7_1).f2) != 0) = false := bne_eq_false_iff_eq.mpr c5
   clear c5
   have H' := Aside0.mk H
   clear H
   have p170 : 0 ≤ (x7_1 : Int) := of_decide_eq_true (by first | (with_reducible assumption) | assumption)
   have q170 : x7_1 < (l0.length : Int) := of_decide_eq_true (by first | (with_reducible assumption) | assumption)
   obtain ⟨ad170, e170, hx170_0, hx170_1, hx170_2, hx170_3⟩ := at_T89 HR0.out x7_1 p170 q170
   cases e170
   replace hx170_0 := (HB.out.cell (World.block_lt_of_cell? w _ hx170_0)).trans hx170_0
   replace hx170_1 := (HB.out.cell (World.block_lt_of_cell? w _ hx170_1)).trans hx170_1
   replace hx170_2 := (HB.out.cell (World.block_lt_of_cell? w _ hx170_2)).trans hx170_2
   replace hx170_3 := (HB.out.cell (World.block_lt_of_cell? w _ hx170_3)).trans hx170_3
   replace p170 := eq_true p170
   replace q170 := eq_true q170
   go_wp2_with (first | ((with_reducible refine gate_dst (N := 4) rfl ?_); refine box_event ?hg (N := 4) ?hd (cs := #[.int .i64 0, .int .i64 0, .int .i64 0, .int .i64 0]) (t := 89) ?hr ?_; (case hd => rfl); (case hg => rfl); (case hr => first | (go_simp; done) | (go_simp; rfl)); intro gb171 hg w6 hbox hb; have n0_ := Aside0.mk (below_step (bw HB.out) hb); have n1_ := Aside0.mk (hbox); have n2_ := ge_ hg HB.out; have n3_ := ge_ hg HB.out; replace HB := n0_; have BK171 := n1_; have GW171 := n2_; have GE171 := n3_; clear n0_ n1_ n2_ n3_; clear hb hbox hg; obtain ⟨hcz7_0, hcz7_1, hcz7_2, hcz7_3, hfz7_0, hfz7_1, hfz7_2, hfz7_3⟩ := bz4 BK171.out))
   go_roundg k1
   case measure => have := HK1.out; omega
   case rel => exact ⟨(wrap64 (x7_1 + 1)), (by first | rfl | (simp; done) | (simp [*]; done)), H', ⟨by have := HK1.out; omega⟩, ⟨by repeat (first | (with_reducible first | exact bw HB.out | refine bset ?_ | apply bA | apply bN | apply bD) | exact HB.out)⟩⟩

/-! ### impl_isRuled: function 142 -/
def impl_isRuled.f (k : Nat) (l0 : List (S89)) (a1 : Int) : Option (Bool) := (impl_IsJobs.f k l0).bind fun t172 => (if t172 = true then (if a1 = 1 then (some true) else ((impl_within.f a1 2 4).bind fun t173 => (if t173 = true then ((impl_isPlain.f k l0).bind fun t174 => (some t174)) else (some false)))) else (some false))
theorem impl_isRuled.mono : ∀ a0 a1 k, LeO (impl_isRuled.f k a0 a1) (impl_isRuled.f (k + 1) a0 a1) := by
 intro a0 a1 k
 unfold impl_isRuled.f
 repeat' first
   | (with_reducible exact impl_IsJobs.mono _ _)
   | (with_reducible exact impl_isPlain.mono _ _)
   | (with_reducible exact LeO.refl _)
   | (with_reducible exact LeO.none _)
   | (with_reducible refine LeO.ite ?_ ?_)
   | (with_reducible refine LeO.bind ?_ (fun _ => ?_))
   | exact impl_IsJobs.mono _ _
   | exact impl_isPlain.mono _ _
   | exact LeO.none _
   | refine LeO.ite ?_ ?_
   | refine LeO.bind ?_ (fun _ => ?_)
set_option maxHeartbeats 8000000 in
set_option maxRecDepth 100000 in
theorem impl_isRuled.calls (k : Nat) (A0 : Option Addr) (c0 : Nat) (l0 : List (S89)) (a1 : Int) (r : Bool) (w : World) (hr0 : Kd.C k89 w A0 l0.length l0) (hc0 : l0.length ≤ c0) (h : impl_isRuled.f k l0 a1 = some r) :
  Calls Try.prog 142 #[.slice A0 l0.length c0, .int .i64 a1] w fun e w' => e = .returned (.bool r) ∧ Below w.heap.size w w' := by
 have HR0 := Aside0.mk hr0
 have HC0 := Aside0.mk hc0
 clear hr0 hc0
 have HB := Aside0.mk (Below.refl w.heap.size w)
 have H : ((impl_IsJobs.f k l0).bind fun t172 => (if t172 = true then (if a1 = 1 then (some true) else ((impl_within.f a1 2 4).bind fun t173 => (if t173 = true then ((impl_isPlain.f k l0).bind fun t174 => (some t174)) else (some false)))) else (some false))) = some r := h
 clear h
 replace H := Option.bind_eq_some_iff.mp H
 obtain ⟨t172, A30, H⟩ := H
 replace H : (if t172 = true then (if a1 = 1 then (some true) else ((impl_within.f a1 2 4).bind fun t173 => (if t173 = true then ((impl_isPlain.f k l0).bind fun t174 => (some t174)) else (some false)))) else (some false)) = some r := H
 have A3 := Aside0.mk A30
 clear A30
 by_cases c4 : t172 = true
 rotate_left
 ·replace c4 := Bool.eq_false_iff.mpr c4
  subst c4
  have H1 : (some false) = some r := by rw [if_neg (show ¬ (false = true) by decide)] at H; exact H
  clear H
  have H := H1
  clear H1
  obtain rfl := Option.some.inj H
  go_enter Try.func142, Try.ntmps142
  go_wp2_with (first | ((with_reducible refine gate_callee (f := 66) rfl ?_); refine goesL_ (some 6) rfl rfl Try.func66 (by kernel_rfl) rfl #[.slice A0 l0.length c0] rfl (by (try simp only [mA_]); first | done | rfl | (simp only [List.length_drop, List.length_take]; rfl)) ?_; (with_reducible refine (impl_IsJobs.calls k _ _ l0 false _ ?side1 ?side2 A3.out).mono ?_); (case side1 => repeat (first | exact HR0.out | (with_reducible refine Kd.C_alloc ?_ _) | (with_reducible refine Kd.C_drewN ?_ _) | (with_reducible refine Kd.C_drew ?_))); (case side2 => exact HC0.out); rintro e w13 ⟨rfl, hb⟩; refine ⟨_, rfl, ?_⟩; have n0_ := Aside0.mk (below_step (bw HB.out) hb); replace HB := n0_; clear n0_; (try clear hb); (try clear hb2); (try clear hk); (try clear hi)))
  go_ret
  exact ⟨by first | rfl | (simp [errW_none, errW_some] <;> rfl) | (simp [*, errW_none, errW_some] <;> rfl), bw HB.out⟩
 subst c4
 have H1 : (if a1 = 1 then (some true) else ((impl_within.f a1 2 4).bind fun t173 => (if t173 = true then ((impl_isPlain.f k l0).bind fun t174 => (some t174)) else (some false)))) = some r := by rw [if_pos rfl] at H; exact H
 clear H
 have H := H1
 clear H1
 by_cases c5 : a1 = 1
 ·rw [if_pos c5] at H
  have c5b0 : (a1 == 1) = true := beq_iff_eq.mpr c5
  have c5b1 : (a1 != 1) = false := bne_eq_false_iff_eq.mpr c5
  clear c5
  obtain rfl := Option.some.inj H
  go_enter Try.func142, Try.ntmps142
  go_wp2_with (first | ((with_reducible refine gate_callee (f := 66) rfl ?_); refine goesL_ (some 6) rfl rfl Try.func66 (by kernel_rfl) rfl #[.slice A0 l0.length c0] rfl (by (try simp only [mA_]); first | done | rfl | (simp only [List.length_drop, List.length_take]; rfl)) ?_; (with_reducible refine (impl_IsJobs.calls k _ _ l0 true _ ?side1 ?side2 A3.out).mono ?_); (case side1 => repeat (first | exact HR0.out | (with_reducible refine Kd.C_alloc ?_ _) | (with_reducible refine Kd.C_drewN ?_ _) | (with_reducible refine Kd.C_drew ?_))); (case side2 => exact HC0.out); rintro e w6 ⟨rfl, hb⟩; refine ⟨_, rfl, ?_⟩; have n0_ := Aside0.mk (below_step (bw HB.out) hb); replace HB := n0_; clear n0_; (try clear hb); (try clear hb2); (try clear hk); (try clear hi)))
  go_ret
  exact ⟨by first | rfl | (simp [errW_none, errW_some] <;> rfl) | (simp [*, errW_none, errW_some] <;> rfl), bw HB.out⟩
 rw [if_neg c5] at H
 have c5b0 : (a1 == 1) = false := beq_eq_false_iff_ne.mpr c5
 have c5b1 : (a1 != 1) = true := bne_iff_ne.mpr c5
 replace H := Option.bind_eq_some_iff.mp H
 obtain ⟨t173, A70, H⟩ := H
 replace H : (if t173 = true then ((impl_isPlain.f k l0).bind fun t174 => (some t174)) else (some false)) = some r := H
 have A7 := Aside0.mk A70
 clear A70
 by_cases c8 : t173 = true
 rotate_left
 ·replace c8 := Bool.eq_false_iff.mpr c8
  subst c8
  have H1 : (some false) = some r := by rw [if_neg (show ¬ (false = true) by decide)] at H; exact H
  clear H
  have H := H1
  clear H1
  obtain rfl := Option.some.inj H
  go_enter Try.func142, Try.ntmps142
  go_wp2_with (first | ((with_reducible refine gate_callee (f := 66) rfl ?_); refine goesL_ (some 6) rfl rfl Try.func66 (by kernel_rfl) rfl #[.slice A0 l0.length c0] rfl (by (try simp only [mA_]); first | done | rfl | (simp only [List.length_drop, List.length_take]; rfl)) ?_; (with_reducible refine (impl_IsJobs.calls k _ _ l0 true _ ?side1 ?side2 A3.out).mono ?_); (case side1 => repeat (first | exact HR0.out | (with_reducible refine Kd.C_alloc ?_ _) | (with_reducible refine Kd.C_drewN ?_ _) | (with_reducible refine Kd.C_drew ?_))); (case side2 => exact HC0.out); rintro e w12 ⟨rfl, hb⟩; refine ⟨_, rfl, ?_⟩; have n0_ := Aside0.mk (below_step (bw HB.out) hb); replace HB := n0_; clear n0_; (try clear hb); (try clear hb2); (try clear hk); (try clear hi)) | (go_at_call 133; (with_reducible refine (impl_within.calls a1 2 4 false _ A7.out).mono ?_); rintro e w' ⟨rfl, ⟨nd, rfl⟩⟩))
  go_ret
  exact ⟨by first | rfl | (simp [errW_none, errW_some] <;> rfl) | (simp [*, errW_none, errW_some] <;> rfl), bw HB.out⟩
 subst c8
 have H1 : ((impl_isPlain.f k l0).bind fun t174 => (some t174)) = some r := by rw [if_pos rfl] at H; exact H
 clear H
 have H := H1
 clear H1
 replace H := Option.bind_eq_some_iff.mp H
 obtain ⟨t174, A90, H⟩ := H
 replace H : (some t174) = some r := H
 have A9 := Aside0.mk A90
 clear A90
 obtain rfl := Option.some.inj H
 go_enter Try.func142, Try.ntmps142
 go_wp2_with (first | ((with_reducible refine gate_callee (f := 66) rfl ?_); refine goesL_ (some 6) rfl rfl Try.func66 (by kernel_rfl) rfl #[.slice A0 l0.length c0] rfl (by (try simp only [mA_]); first | done | rfl | (simp only [List.length_drop, List.length_take]; rfl)) ?_; (with_reducible refine (impl_IsJobs.calls k _ _ l0 true _ ?side1 ?side2 A3.out).mono ?_); (case side1 => repeat (first | exact HR0.out | (with_reducible refine Kd.C_alloc ?_ _) | (with_reducible refine Kd.C_drewN ?_ _) | (with_reducible refine Kd.C_drew ?_))); (case side2 => exact HC0.out); rintro e w10 ⟨rfl, hb⟩; refine ⟨_, rfl, ?_⟩; have n0_ := Aside0.mk (below_step (bw HB.out) hb); replace HB := n0_; clear n0_; (try clear hb); (try clear hb2); (try clear hk); (try clear hi)) | (go_at_call 133; (with_reducible refine (impl_within.calls a1 2 4 true _ A7.out).mono ?_); rintro e w' ⟨rfl, ⟨nd, rfl⟩⟩) | (go_at_call 176; (with_reducible refine (impl_isPlain.calls k _ _ l0 t174 _ ?side1 ?side2 A9.out).mono ?_); (case side1 => repeat (first | exact (Kd.C_below HR0.out (bw HB.out)) | (with_reducible refine Kd.C_alloc ?_ _) | (with_reducible refine Kd.C_drewN ?_ _) | (with_reducible refine Kd.C_drew ?_))); (case side2 => exact HC0.out); rintro e w11 ⟨rfl, hb⟩; have n0_ := Aside0.mk (below_step (bw HB.out) hb); replace HB := n0_; clear n0_; (try clear hb); (try clear hb2); (try clear hk); (try clear hi)))
 go_ret
 exact ⟨by first | rfl | (simp [errW_none, errW_some] <;> rfl) | (simp [*, errW_none, errW_some] <;> rfl), bw HB.out⟩

/-! ### impl_isRuledAndOrdered: function 81 -/
def impl_isRuledAndOrdered.f (k : Nat) (l0 : List (S89)) (l1 : List Int) (a2 : Int) : Option (Bool) := (impl_isRuled.f k l0 a2).bind fun t175 => (if t175 = true then ((impl_isOrder.f k (l0.length : Int) l1).bind fun t176 => (some t176)) else (some false))
theorem impl_isRuledAndOrdered.mono : ∀ a0 a1 a2 k, LeO (impl_isRuledAndOrdered.f k a0 a1 a2) (impl_isRuledAndOrdered.f (k + 1) a0 a1 a2) := by
 intro a0 a1 a2 k
 unfold impl_isRuledAndOrdered.f
 repeat' first
   | (with_reducible exact impl_isOrder.mono _ _ _)
   | (with_reducible exact impl_isRuled.mono _ _ _)
   | (with_reducible exact LeO.refl _)
   | (with_reducible exact LeO.none _)
   | (with_reducible refine LeO.ite ?_ ?_)
   | (with_reducible refine LeO.bind ?_ (fun _ => ?_))
   | exact impl_isOrder.mono _ _ _
   | exact impl_isRuled.mono _ _ _
   | exact LeO.none _
   | refine LeO.ite ?_ ?_
   | refine LeO.bind ?_ (fun _ => ?_)
set_option maxHeartbeats 8000000 in
set_option maxRecDepth 100000 in
theorem impl_isRuledAndOrdered.calls (k : Nat) (A0 : Option Addr) (c0 : Nat) (l0 : List (S89)) (A1 : Option Addr) (c1 : Nat) (l1 : List Int) (a2 : Int) (r : Bool) (w : World) (hr0 : Kd.C k89 w A0 l0.length l0) (hc0 : l0.length ≤ c0) (hr1 : Kd.C (Kd.int .i64) w A1 l1.length l1) (hc1 : l1.length ≤ c1) (h : impl_isRuledAndOrdered.f k l0 l1 a2 = some r) :
  Calls Try.prog 81 #[.slice A0 l0.length c0, .slice A1 l1.length c1, .int .i64 a2] w fun e w' => e = .returned (.bool r) ∧ Below w.heap.size w w' := by
 have HR0 := Aside0.mk hr0
 have HC0 := Aside0.mk hc0
 clear hr0 hc0
 have HR1 := Aside0.mk hr1
 have HC1 := Aside0.mk hc1
 clear hr1 hc1
 have HB := Aside0.mk (Below.refl w.heap.size w)
 have H : ((impl_isRuled.f k l0 a2).bind fun t175 => (if t175 = true then ((impl_isOrder.f k (l0.length : Int) l1).bind fun t176 => (some t176)) else (some false))) = some r := h
 clear h
 replace H := Option.bind_eq_some_iff.mp H
 obtain ⟨t175, A40, H⟩ := H
 replace H : (if t175 = true then ((impl_isOrder.f k (l0.length : Int) l1).bind fun t176 => (some t176)) else (some false)) = some r := H
 have A4 := Aside0.mk A40
 clear A40
 by_cases c5 : t175 = true
 rotate_left
 ·replace c5 := Bool.eq_false_iff.mpr c5
  subst c5
  have H1 : (some false) = some r := by rw [if_neg (show ¬ (false = true) by decide)] at H; exact H
  clear H
  have H := H1
  clear H1
  obtain rfl := Option.some.inj H
  go_enter Try.func81, Try.ntmps81
  go_wp2_with (first | ((with_reducible refine gate_callee (f := 142) rfl ?_); refine goesL_ (some 9) rfl rfl Try.func142 (by kernel_rfl) rfl #[.slice A0 l0.length c0, .int .i64 a2] rfl (by (try simp only [mA_]); first | done | rfl | (simp only [List.length_drop, List.length_take]; rfl)) ?_; (with_reducible refine (impl_isRuled.calls k _ _ l0 a2 false _ ?side1 ?side2 A4.out).mono ?_); (case side1 => repeat (first | exact HR0.out | (with_reducible refine Kd.C_alloc ?_ _) | (with_reducible refine Kd.C_drewN ?_ _) | (with_reducible refine Kd.C_drew ?_))); (case side2 => exact HC0.out); rintro e w8 ⟨rfl, hb⟩; refine ⟨_, rfl, ?_⟩; have n0_ := Aside0.mk (below_step (bw HB.out) hb); replace HB := n0_; clear n0_; (try clear hb); (try clear hb2); (try clear hk); (try clear hi)))
  go_ret
  exact ⟨by first | rfl | (simp [errW_none, errW_some] <;> rfl) | (simp [*, errW_none, errW_some] <;> rfl), bw HB.out⟩
 subst c5
 have H1 : ((impl_isOrder.f k (l0.length : Int) l1).bind fun t176 => (some t176)) = some r := by rw [if_pos rfl] at H; exact H
 clear H
 have H := H1
 clear H1
 replace H := Option.bind_eq_some_iff.mp H
 obtain ⟨t176, A60, H⟩ := H
 replace H : (some t176) = some r := H
 have A6 := Aside0.mk A60
 clear A60
 obtain rfl := Option.some.inj H
 go_enter Try.func81, Try.ntmps81
 go_wp2_with (first | ((with_reducible refine gate_callee (f := 142) rfl ?_); refine goesL_ (some 9) rfl rfl Try.func142 (by kernel_rfl) rfl #[.slice A0 l0.length c0, .int .i64 a2] rfl (by (try simp only [mA_]); first | done | rfl | (simp only [List.length_drop, List.length_take]; rfl)) ?_; (with_reducible refine (impl_isRuled.calls k _ _ l0 a2 true _ ?side1 ?side2 A4.out).mono ?_); (case side1 => repeat (first | exact HR0.out | (with_reducible refine Kd.C_alloc ?_ _) | (with_reducible refine Kd.C_drewN ?_ _) | (with_reducible refine Kd.C_drew ?_))); (case side2 => exact HC0.out); rintro e w7 ⟨rfl, hb⟩; refine ⟨_, rfl, ?_⟩; have n0_ := Aside0.mk (below_step (bw HB.out) hb); replace HB := n0_; clear n0_; (try clear hb); (try clear hb2); (try clear hk); (try clear hi)) | (go_at_call 118; (with_reducible refine (impl_isOrder.calls k (l0.length : Int) _ _ l1 t176 _ ?side1 ?side2 A6.out).mono ?_); (case side1 => first | exact bC HR1.out HB.out | exact Kd.C_below HR1.out HB.out); (case side2 => exact HC1.out); rintro e w' ⟨rfl, ⟨nd, rfl⟩⟩))
 go_ret
 exact ⟨by first | rfl | (simp [errW_none, errW_some] <;> rfl) | (simp [*, errW_none, errW_some] <;> rfl), bw HB.out⟩

/-! ### impl_difference: function 83 -/
def impl_difference.f (a0_0 : Int) (a0_1 : Int) (a0_2 : Int) (a0_3 : Int) (a1_0 : Int) (a1_1 : Int) (a1_2 : Int) (a1_3 : Int) (a2 : Int) : Option (Int) := if a2 = 1 then (some (wrap64 (a0_2 - a1_2))) else (if a2 = 2 then (some (wrap64 (a0_0 - a1_0))) else (if a2 = 3 then (some (wrap64 ((wrap64 (a0_0 * a1_1)) - (wrap64 (a1_0 * a0_1))))) else (some (wrap64 (a0_3 - a1_3)))))
set_option maxHeartbeats 8000000 in
set_option maxRecDepth 100000 in
theorem impl_difference.calls (a0_0 : Int) (a0_1 : Int) (a0_2 : Int) (a0_3 : Int) (a1_0 : Int) (a1_1 : Int) (a1_2 : Int) (a1_3 : Int) (a2 : Int) (r : Int) (w : World) (h : impl_difference.f a0_0 a0_1 a0_2 a0_3 a1_0 a1_1 a1_2 a1_3 a2 = some r) :
  Calls Try.prog 83 #[.agg #[.int .i64 a0_0, .int .i64 a0_1, .int .i64 a0_2, .int .i64 a0_3], .agg #[.int .i64 a1_0, .int .i64 a1_1, .int .i64 a1_2, .int .i64 a1_3], .int .i64 a2] w fun e w' => e = .returned (.int .i64 r) ∧ Below w.heap.size w w' := by
 have hu89 := Try.underlying89
 have HB := Aside0.mk (Below.refl w.heap.size w)
 have H : (if a2 = 1 then (some (wrap64 (a0_2 - a1_2))) else (if a2 = 2 then (some (wrap64 (a0_0 - a1_0))) else (if a2 = 3 then (some (wrap64 ((wrap64 (a0_0 * a1_1)) - (wrap64 (a1_0 * a0_1))))) else (some (wrap64 (a0_3 - a1_3)))))) = some r := h
 clear h
 by_cases c4 : a2 = 1
 ·rw [if_pos c4] at H
  have c4b0 : (a2 == 1) = true := beq_iff_eq.mpr c4
  have c4b1 : (a2 != 1) = false := bne_eq_false_iff_eq.mpr c4
  clear c4
  obtain rfl := Option.some.inj H
  go_enter Try.func83, Try.ntmps83
  go_wp2_with (first | ((with_reducible refine gate_dst (N := 3) rfl ?_); refine box_event ?hg (N := 3) ?hd (cs := #[.int .i64 a0_0, .int .i64 a0_1, .int .i64 a0_2, .int .i64 a0_3]) (t := 89) ?hr ?_; (case hd => rfl); (case hg => rfl); (case hr => first | (go_simp; done) | (go_simp; rfl)); intro gb177 hg w5 hbox hb; have n0_ := Aside0.mk (below_step (bw HB.out) hb); have n1_ := Aside0.mk (hbox); have n2_ := ge_ hg HB.out; have n3_ := ge_ hg HB.out; replace HB := n0_; have BK177 := n1_; have GW177 := n2_; have GE177 := n3_; clear n0_ n1_ n2_ n3_; clear hb hbox hg) | ((with_reducible refine gate_dst (N := 4) rfl ?_); refine box_event ?hg (N := 4) ?hd (cs := #[.int .i64 a1_0, .int .i64 a1_1, .int .i64 a1_2, .int .i64 a1_3]) (t := 89) ?hr ?_; (case hd => rfl); (case hg => rfl); (case hr => first | (go_simp; done) | (go_simp; rfl)); intro gb178 hg w6 hbox hb; have n0_ := Aside0.mk (blk_below (bs BK177.out) hb); have n1_ := Aside0.mk (below_step (by repeat (first | (with_reducible first | exact bw HB.out | refine bset ?_ | apply bA | apply bN | apply bD) | exact HB.out)) hb); have n2_ := Aside0.mk (hbox); have n3_ := Aside0.mk ((by rw [hg]; exact (below_size (by repeat (first | (with_reducible first | exact bw HB.out | refine bset ?_ | apply bA | apply bN | apply bD) | exact HB.out))) : w.heap.size ≤ gb178)); have n4_ := Aside0.mk ((by rw [hg]; exact (below_size (by repeat (first | (with_reducible first | exact bw HB.out | refine bset ?_ | apply bA | apply bN | apply bD) | exact HB.out))) : w.heap.size ≤ gb178)); have n5_ := ne_ hg BK177.out; have n6_ := en_ hg BK177.out; replace BK177 := n0_; replace HB := n1_; have BK178 := n2_; have GW178 := n3_; have GE178 := n4_; have NB177_178 := n5_; have NB178_177 := n6_; clear n0_ n1_ n2_ n3_ n4_ n5_ n6_; clear hb hbox hg; have hnb7 := NB177_178.out; have hnc7 := NB178_177.out; obtain ⟨hcz8_0, hcz8_1, hcz8_2, hcz8_3, hfz8_0, hfz8_1, hfz8_2, hfz8_3⟩ := bz4 BK177.out; obtain ⟨hcz9_0, hcz9_1, hcz9_2, hcz9_3, hfz9_0, hfz9_1, hfz9_2, hfz9_3⟩ := bz4 BK178.out))
  go_ret
  exact ⟨by first | rfl | (simp [errW_none, errW_some] <;> rfl) | (simp [*, errW_none, errW_some] <;> rfl), by repeat (first | (with_reducible first | exact bw HB.out | refine bset ?_ | apply bA | apply bN | apply bD) | exact HB.out)⟩
 rw [if_neg c4] at H
 have c4b0 : (a2 == 1) = false := beq_eq_false_iff_ne.mpr c4
 have c4b1 : (a2 != 1) = true := bne_iff_ne.mpr c4
 by_cases c10 : a2 = 2
 ·rw [if_pos c10] at H
  have c10b0 : (a2 == 2) = true := beq_iff_eq.mpr c10
  have c10b1 : (a2 != 2) = false := bne_eq_false_iff_eq.mpr c10
  clear c10
  obtain rfl := Option.some.inj H
  go_enter Try.func83, Try.ntmps83
  go_wp2_with (first | ((with_reducible refine gate_dst (N := 3) rfl ?_); refine box_event ?hg (N := 3) ?hd (cs := #[.int .i64 a0_0, .int .i64 a0_1, .int .i64 a0_2, .int .i64 a0_3]) (t := 89) ?hr ?_; (case hd => rfl); (case hg => rfl); (case hr => first | (go_simp; done) | (go_simp; rfl)); intro gb177 hg w11 hbox hb; have n0_ := Aside0.mk (below_step (bw HB.out) hb); have n1_ := Aside0.mk (hbox); have n2_ := ge_ hg HB.out; have n3_ := ge_ hg HB.out; replace HB := n0_; have BK177 := n1_; have GW177 := n2_; have GE177 := n3_; clear n0_ n1_ n2_ n3_; clear hb hbox hg) | ((with_reducible refine gate_dst (N := 4) rfl ?_); refine box_event ?hg (N := 4) ?hd (cs := #[.int .i64 a1_0, .int .i64 a1_1, .int .i64 a1_2, .int .i64 a1_3]) (t := 89) ?hr ?_; (case hd => rfl); (case hg => rfl); (case hr => first | (go_simp; done) | (go_simp; rfl)); intro gb178 hg w12 hbox hb; have n0_ := Aside0.mk (blk_below (bs BK177.out) hb); have n1_ := Aside0.mk (below_step (by repeat (first | (with_reducible first | exact bw HB.out | refine bset ?_ | apply bA | apply bN | apply bD) | exact HB.out)) hb); have n2_ := Aside0.mk (hbox); have n3_ := Aside0.mk ((by rw [hg]; exact (below_size (by repeat (first | (with_reducible first | exact bw HB.out | refine bset ?_ | apply bA | apply bN | apply bD) | exact HB.out))) : w.heap.size ≤ gb178)); have n4_ := Aside0.mk ((by rw [hg]; exact (below_size (by repeat (first | (with_reducible first | exact bw HB.out | refine bset ?_ | apply bA | apply bN | apply bD) | exact HB.out))) : w.heap.size ≤ gb178)); have n5_ := ne_ hg BK177.out; have n6_ := en_ hg BK177.out; replace BK177 := n0_; replace HB := n1_; have BK178 := n2_; have GW178 := n3_; have GE178 := n4_; have NB177_178 := n5_; have NB178_177 := n6_; clear n0_ n1_ n2_ n3_ n4_ n5_ n6_; clear hb hbox hg; have hnb13 := NB177_178.out; have hnc13 := NB178_177.out; obtain ⟨hcz14_0, hcz14_1, hcz14_2, hcz14_3, hfz14_0, hfz14_1, hfz14_2, hfz14_3⟩ := bz4 BK177.out; obtain ⟨hcz15_0, hcz15_1, hcz15_2, hcz15_3, hfz15_0, hfz15_1, hfz15_2, hfz15_3⟩ := bz4 BK178.out))
  go_ret
  exact ⟨by first | rfl | (simp [errW_none, errW_some] <;> rfl) | (simp [*, errW_none, errW_some] <;> rfl), by repeat (first | (with_reducible first | exact bw HB.out | refine bset ?_ | apply bA | apply bN | apply bD) | exact HB.out)⟩
 rw [if_neg c10] at H
 have c10b0 : (a2 == 2) = false := beq_eq_false_iff_ne.mpr c10
 have c10b1 : (a2 != 2) = true := bne_iff_ne.mpr c10
 by_cases c16 : a2 = 3
 rotate_left
 ·rw [if_neg c16] at H
  have c16b0 : (a2 == 3) = false := beq_eq_false_iff_ne.mpr c16
  have c16b1 : (a2 != 3) = true := bne_iff_ne.mpr c16
  obtain rfl := Option.some.inj H
  go_enter Try.func83, Try.ntmps83
  go_wp2_with (first | ((with_reducible refine gate_dst (N := 3) rfl ?_); refine box_event ?hg (N := 3) ?hd (cs := #[.int .i64 a0_0, .int .i64 a0_1, .int .i64 a0_2, .int .i64 a0_3]) (t := 89) ?hr ?_; (case hd => rfl); (case hg => rfl); (case hr => first | (go_simp; done) | (go_simp; rfl)); intro gb177 hg w22 hbox hb; have n0_ := Aside0.mk (below_step (bw HB.out) hb); have n1_ := Aside0.mk (hbox); have n2_ := ge_ hg HB.out; have n3_ := ge_ hg HB.out; replace HB := n0_; have BK177 := n1_; have GW177 := n2_; have GE177 := n3_; clear n0_ n1_ n2_ n3_; clear hb hbox hg) | ((with_reducible refine gate_dst (N := 4) rfl ?_); refine box_event ?hg (N := 4) ?hd (cs := #[.int .i64 a1_0, .int .i64 a1_1, .int .i64 a1_2, .int .i64 a1_3]) (t := 89) ?hr ?_; (case hd => rfl); (case hg => rfl); (case hr => first | (go_simp; done) | (go_simp; rfl)); intro gb178 hg w23 hbox hb; have n0_ := Aside0.mk (blk_below (bs BK177.out) hb); have n1_ := Aside0.mk (below_step (by repeat (first | (with_reducible first | exact bw HB.out | refine bset ?_ | apply bA | apply bN | apply bD) | exact HB.out)) hb); have n2_ := Aside0.mk (hbox); have n3_ := Aside0.mk ((by rw [hg]; exact (below_size (by repeat (first | (with_reducible first | exact bw HB.out | refine bset ?_ | apply bA | apply bN | apply bD) | exact HB.out))) : w.heap.size ≤ gb178)); have n4_ := Aside0.mk ((by rw [hg]; exact (below_size (by repeat (first | (with_reducible first | exact bw HB.out | refine bset ?_ | apply bA | apply bN | apply bD) | exact HB.out))) : w.heap.size ≤ gb178)); have n5_ := ne_ hg BK177.out; have n6_ := en_ hg BK177.out; replace BK177 := n0_; replace HB := n1_; have BK178 := n2_; have GW178 := n3_; have GE178 := n4_; have NB177_178 := n5_; have NB178_177 := n6_; clear n0_ n1_ n2_ n3_ n4_ n5_ n6_; clear hb hbox hg; have hnb24 := NB177_178.out; have hnc24 := NB178_177.out; obtain ⟨hcz25_0, hcz25_1, hcz25_2, hcz25_3, hfz25_0, hfz25_1, hfz25_2, hfz25_3⟩ := bz4 BK177.out; obtain ⟨hcz26_0, hcz26_1, hcz26_2, hcz26_3, hfz26_0, hfz26_1, hfz26_2, hfz26_3⟩ := bz4 BK178.out))
  go_ret
  exact ⟨by first | rfl | (simp [errW_none, errW_some] <;> rfl) | (simp [*, errW_none, errW_some] <;> rfl), by repeat (first | (with_reducible first | exact bw HB.out | refine bset ?_ | apply bA | apply bN | apply bD) | exact HB.out)⟩
 rw [if_pos c16] at H
 have c16b0 : (a2 == 3) = true := beq_iff_eq.mpr c16
 have c16b1 : (a2 != 3) = false := bne_eq_false_iff_eq.mpr c16
 clear c16
 obtain rfl := Option.some.inj H
 go_enter Try.func83, Try.ntmps83
 go_wp2_with (first | ((with_reducible refine gate_dst (N := 3) rfl ?_); refine box_event ?hg (N := 3) ?hd (cs := #[.int .i64 a0_0, .int .i64 a0_1, .int .i64 a0_2, .int .i64 a0_3]) (t := 89) ?hr ?_; (case hd => rfl); (case hg => rfl); (case hr => first | (go_simp; done) | (go_simp; rfl)); intro gb177 hg w17 hbox hb; have n0_ := Aside0.mk (below_step (bw HB.out) hb); have n1_ := Aside0.mk (hbox); have n2_ := ge_ hg HB.out; have n3_ := ge_ hg HB.out; replace HB := n0_; have BK177 := n1_; have GW177 := n2_; have GE177 := n3_; clear n0_ n1_ n2_ n3_; clear hb hbox hg) | ((with_reducible refine gate_dst (N := 4) rfl ?_); refine box_event ?hg (N := 4) ?hd (cs := #[.int .i64 a1_0, .int .i64 a1_1, .int .i64 a1_2, .int .i64 a1_3]) (t := 89) ?hr ?_; (case hd => rfl); (case hg => rfl); (case hr => first | (go_simp; done) | (go_simp; rfl)); intro gb178 hg w18 hbox hb; have n0_ := Aside0.mk (blk_below (bs BK177.out) hb); have n1_ := Aside0.mk (below_step (by repeat (first | (with_reducible first | exact bw HB.out | refine bset ?_ | apply bA | apply bN | apply bD) | exact HB.out)) hb); have n2_ := Aside0.mk (hbox); have n3_ := Aside0.mk ((by rw [hg]; exact (below_size (by repeat (first | (with_reducible first | exact bw HB.out | refine bset ?_ | apply bA | apply bN | apply bD) | exact HB.out))) : w.heap.size ≤ gb178)); have n4_ := Aside0.mk ((by rw [hg]; exact (below_size (by repeat (first | (with_reducible first | exact bw HB.out | refine bset ?_ | apply bA | apply bN | apply bD) | exact HB.out))) : w.heap.size ≤ gb178)); have n5_ := ne_ hg BK177.out; have n6_ := en_ hg BK177.out; replace BK177 := n0_; replace HB := n1_; have BK178 := n2_; have GW178 := n3_; have GE178 := n4_; have NB177_178 := n5_; have NB178_177 := n6_; clear n0_ n1_ n2_ n3_ n4_ n5_ n6_; clear hb hbox hg; have hnb19 := NB177_178.out; have hnc19 := NB178_177.out; obtain ⟨hcz20_0, hcz20_1, hcz20_2, hcz20_3, hfz20_0, hfz20_1, hfz20_2, hfz20_3⟩ := bz4 BK177.out; obtain ⟨hcz21_0, hcz21_1, hcz21_2, hcz21_3, hfz21_0, hfz21_1, hfz21_2, hfz21_3⟩ := bz4 BK178.out))
 go_ret
 exact ⟨by first | rfl | (simp [errW_none, errW_some] <;> rfl) | (simp [*, errW_none, errW_some] <;> rfl), by repeat (first | (with_reducible first | exact bw HB.out | refine bset ?_ | apply bA | apply bN | apply bD) | exact HB.out)⟩

/-! ### impl_inversions: function 82 -/
abbrev q82_0 : Array Bool := ⟨rl_ [11] false⟩
abbrev q82_8 : Array Bool := ⟨rl_ [7, 1, 1, 2] true⟩
abbrev q82_9 : Array Bool := ⟨rl_ [9, 2] true⟩
abbrev q82_10 : Array Bool := ⟨rl_ [10, 1] true⟩
mutual
def impl_inversions.l0 : Nat → List (S89) → List Int → Int → List (S71) → List Int → Int → Int → Option ((List (S71)))
 | 0, _, _, _, _, _, _, _ => none
 | k + 1, x0, x1, x2, x7, x12, x13, x14 => if x14 < x13 then (if 0 ≤ x14 then (if x14 < (x12.length : Int) then (if 0 ≤ (wrap64 (x14 + 1)) then (if (wrap64 (x14 + 1)) ≤ (x1.length : Int) then (impl_inversions.l1 k x0 x1 x2 x7 (rd x12 x14) x12 x13 x14 (x1.drop ((wrap64 (x14 + 1)) : Int).toNat) ((x1.drop ((wrap64 (x14 + 1)) : Int).toNat).length : Int) 0) else (none)) else (none)) else (none)) else (none)) else (some x7)
def impl_inversions.l1 : Nat → List (S89) → List Int → Int → List (S71) → Int → List Int → Int → Int → List Int → Int → Int → Option ((List (S71)))
 | 0, _, _, _, _, _, _, _, _, _, _, _ => none
 | k + 1, x0, x1, x2, x7, x9, x12, x13, x14, x22, x23, x24 => if x24 < x23 then (if 0 ≤ x24 then (if x24 < (x22.length : Int) then (if 0 ≤ (rd x22 x24) then (if (rd x22 x24) < (x0.length : Int) then (if 0 ≤ x9 then (if x9 < (x0.length : Int) then ((impl_difference.f ((rd_T89 x0 (rd x22 x24)).f0) ((rd_T89 x0 (rd x22 x24)).f1) ((rd_T89 x0 (rd x22 x24)).f2) ((rd_T89 x0 (rd x22 x24)).f3) ((rd_T89 x0 x9).f0) ((rd_T89 x0 x9).f1) ((rd_T89 x0 x9).f2) ((rd_T89 x0 x9).f3) x2).bind fun t184 => (if t184 < 0 then (if x7.length < 8796093022208 then (impl_inversions.l1 k x0 x1 x2 (x7 ++ [(⟨x9, rd x22 x24⟩ : S71)]) x9 x12 x13 x14 x22 x23 (wrap64 (x24 + 1))) else (none)) else (impl_inversions.l1 k x0 x1 x2 x7 x9 x12 x13 x14 x22 x23 (wrap64 (x24 + 1))))) else (none)) else (none)) else (none)) else (none)) else (none)) else (none)) else (impl_inversions.l0 k x0 x1 x2 x7 x12 x13 (wrap64 (x14 + 1)))
end
def impl_inversions.f (k : Nat) (l0 : List (S89)) (l1 : List Int) (a2 : Int) : Option ((List (S71))) := impl_inversions.l0 k l0 l1 a2 ([] : List (S71)) l1 (l1.length : Int) 0
theorem impl_inversions.mono_l : ∀ k, (∀ y0 y1 y2 y3 y4 y5 y6, LeO (impl_inversions.l0 k y0 y1 y2 y3 y4 y5 y6) (impl_inversions.l0 (k + 1) y0 y1 y2 y3 y4 y5 y6)) ∧ (∀ y0 y1 y2 y3 y4 y5 y6 y7 y8 y9 y10, LeO (impl_inversions.l1 k y0 y1 y2 y3 y4 y5 y6 y7 y8 y9 y10) (impl_inversions.l1 (k + 1) y0 y1 y2 y3 y4 y5 y6 y7 y8 y9 y10))
 | 0 => ⟨fun _ _ _ _ _ _ _ r h => by simp [impl_inversions.l0] at h, fun _ _ _ _ _ _ _ _ _ _ _ r h => by simp [impl_inversions.l1] at h⟩
 | k + 1 => by
  obtain ⟨ih0, ih1⟩ := impl_inversions.mono_l k
  refine ⟨?_, ?_⟩
  ·intro y0 y1 y2 y3 y4 y5 y6
   unfold impl_inversions.l0
   repeat' first
   | (with_reducible exact ih0 _ _ _ _ _ _ _)
   | (with_reducible exact ih1 _ _ _ _ _ _ _ _ _ _ _)
   | (with_reducible exact LeO.refl _)
   | (with_reducible exact LeO.none _)
   | (with_reducible refine LeO.ite ?_ ?_)
   | (with_reducible refine LeO.bind ?_ (fun _ => ?_))
   | exact ih0 _ _ _ _ _ _ _
   | exact ih1 _ _ _ _ _ _ _ _ _ _ _
   | exact LeO.none _
   | refine LeO.ite ?_ ?_
   | refine LeO.bind ?_ (fun _ => ?_)
  ·intro y0 y1 y2 y3 y4 y5 y6 y7 y8 y9 y10
   unfold impl_inversions.l1
   repeat' first
   | (with_reducible exact ih0 _ _ _ _ _ _ _)
   | (with_reducible exact ih1 _ _ _ _ _ _ _ _ _ _ _)
   | (with_reducible exact LeO.refl _)
   | (with_reducible exact LeO.none _)
   | (with_reducible refine LeO.ite ?_ ?_)
   | (with_reducible refine LeO.bind ?_ (fun _ => ?_))
   | exact ih0 _ _ _ _ _ _ _
   | exact ih1 _ _ _ _ _ _ _ _ _ _ _
   | exact LeO.none _
   | refine LeO.ite ?_ ?_
   | refine LeO.bind ?_ (fun _ => ?_)
theorem impl_inversions.mono : ∀ a0 a1 a2 k, LeO (impl_inversions.f k a0 a1 a2) (impl_inversions.f (k + 1) a0 a1 a2) := by
 intro a0 a1 a2 k
 obtain ⟨ih0, ih1⟩ := impl_inversions.mono_l k
 unfold impl_inversions.f
 repeat' first
   | (with_reducible exact ih0 _ _ _ _ _ _ _)
   | (with_reducible exact ih1 _ _ _ _ _ _ _ _ _ _ _)
   | (with_reducible exact LeO.refl _)
   | (with_reducible exact LeO.none _)
   | (with_reducible refine LeO.ite ?_ ?_)
   | (with_reducible refine LeO.bind ?_ (fun _ => ?_))
   | exact ih0 _ _ _ _ _ _ _
   | exact ih1 _ _ _ _ _ _ _ _ _ _ _
   | exact LeO.none _
   | refine LeO.ite ?_ ?_
   | refine LeO.bind ?_ (fun _ => ?_)
def impl_inversions.T8 : Bool × List (List Nat × List Nat) := (true, [([], []), ([], []), ([0, 1], [0, 1]), ([2], [2]), ([], []), ([], []), ([4, 5], [4, 5]), ([6], [6]), ([], []), ([3, 7, 8], [3, 7, 8]), ([9], [9])])
def impl_inversions.B8 : List Nat := [0, 0, 3, 7, 0, 0, 48, 112, 0, 511, 1023]
theorem impl_inversions.tab8 : rtab .any (opsOf Try.f82 8) = impl_inversions.T8 := by kernel_rfl
theorem impl_inversions.bits8 : waitsOk impl_inversions.T8.2 impl_inversions.B8 = true := by kernel_rfl
set_option maxHeartbeats 8000000 in
set_option maxRecDepth 100000 in
theorem impl_inversions.calls (k : Nat) (A0 : Option Addr) (c0 : Nat) (l0 : List (S89)) (A1 : Option Addr) (c1 : Nat) (l1 : List Int) (a2 : Int) (r : List (S71)) (w : World) (hr0 : Kd.C k89 w A0 l0.length l0) (hc0 : l0.length ≤ c0) (hr1 : Kd.C (Kd.int .i64) w A1 l1.length l1) (hc1 : l1.length ≤ c1) (h : impl_inversions.f k l0 l1 a2 = some r) :
  Calls Try.prog 82 #[.slice A0 l0.length c0, .slice A1 l1.length c1, .int .i64 a2] w fun e w' => ∃ v0_ : Value, e = .returned (v0_) ∧ Kd.R k71 71 w' w.heap.size (fun _ => True) v0_ r ∧ Below w.heap.size w w' := by
 have hu89 := Try.underlying89
 have hu71 := Try.underlying71
 have HR0 := Aside0.mk hr0
 have HC0 := Aside0.mk hc0
 clear hr0 hc0
 have HR1 := Aside0.mk hr1
 have HC1 := Aside0.mk hc1
 clear hr1 hc1
 have HB := Aside0.mk (Below.refl w.heap.size w)
 have H : (impl_inversions.l0 k l0 l1 a2 ([] : List (S71)) l1 (l1.length : Int) 0) = some r := h
 clear h
 have H' := Aside0.mk H
 clear H
 go_enter Try.func82, Try.ntmps82
 go_wp2
 go_loopg [7, 14] k (fun kq v7 v14 w' => ∃ (x7_1 : List (S71)) (x14_1 : Int), v14 = .int .i64 x14_1 ∧ Aside0 (impl_inversions.l0 kq l0 l1 a2 x7_1 l1 (l1.length : Int) x14_1 = some r) ∧ Aside0 (kq ≤ k) ∧ Aside0 (Kd.R k71 71 w' w.heap.size (fun _ => True) v7 x7_1) ∧ Aside0 (Below w.heap.size w w'))
 case atStart => exact ⟨(([] : List (S71))), (0), (by first | rfl | (simp; done) | (simp [*]; done)), H', ⟨Nat.le_refl _⟩, ⟨by first | exact Kd.R_nil _ _ _ _ _ | exact Kd.N_nil _ _ _ _ _ | exact Kd.V_nil _ _ _ _ _ | exact Kd.Q_nil _ _ _ _ _ | exact Kd.S_nil _ _ _ _ _⟩, ⟨bw HB.out⟩⟩
 case round =>
  clear H'
  try clear c1
  try clear p2
  obtain ⟨x7_1, x14_1, rfl, HA, HK1, HO_7, HB⟩ := hrel
  cases gk with
  | zero => exact absurd HA.out (by simp [impl_inversions.l0])
  | succ k1 =>
   have H := HA.out
   clear HA
   simp only [impl_inversions.l0] at H
   by_cases c4 : x14_1 < (l1.length : Int)
   rotate_left
   ·rw [if_neg c4] at H
    have c4b0 : decide (x14_1 < (l1.length : Int)) = false := decide_eq_false c4
    clear c4
    obtain rfl := Option.some.inj H
    go_wp2
    go_ret
    exact ⟨_, by first | rfl | (simp [errW_none, errW_some] <;> rfl) | (simp [*, errW_none, errW_some] <;> rfl), by (with_reducible repeat (first | apply Kd.R_alloc | apply Kd.R_drewN | apply Kd.R_drew)); exact HO_7.out, bw HB.out⟩
   rw [if_pos c4] at H
   have c4b0 : decide (x14_1 < (l1.length : Int)) = true := decide_eq_true c4
   clear c4
   by_cases c5 : 0 ≤ x14_1
   rotate_left
   ·rw [if_neg c5] at H
    exact absurd H (by simp)
   rw [if_pos c5] at H
   have c5b0 : decide (0 ≤ x14_1) = true := decide_eq_true c5
   clear c5
   by_cases c6 : x14_1 < (l1.length : Int)
   rotate_left
   ·rw [if_neg c6] at H
    exact absurd H (by simp)
   rw [if_pos c6] at H
   have c6b0 : decide (x14_1 < (l1.length : Int)) = true := decide_eq_true c6
   clear c6
   obtain ⟨ji7, hji7⟩ : ∃ j_ : Int, (wrap64 (x14_1 + 1)) = j_ := ⟨_, rfl⟩
   replace H : (if 0 ≤ (ji7) then (if (ji7) ≤ (l1.length : Int) then (impl_inversions.l1 k1 l0 l1 a2 x7_1 (rd l1 x14_1) l1 (l1.length : Int) x14_1 (l1.drop ((ji7) : Int).toNat) ((l1.drop ((ji7) : Int).toNat).length : Int) 0) else (none)) else (none)) = some r := by first | (rw [hji7] at H; exact H) | (simp only [hji7] at H ⊢; exact H)
   have hji7w : (IntKind.i64.wrap (x14_1 + 1)) = ji7 := (i64_w _).trans hji7
   by_cases c8 : 0 ≤ (ji7)
   rotate_left
   ·rw [if_neg c8] at H
    exact absurd H (by simp)
   rw [if_pos c8] at H
   have c8b0 := eq_true c8
   have c8b1 : decide (0 ≤ (ji7)) = true := decide_eq_true c8
   clear c8
   by_cases c9 : (ji7) ≤ (l1.length : Int)
   rotate_left
   ·rw [if_neg c9] at H
    exact absurd H (by simp)
   rw [if_pos c9] at H
   have c9b0 := eq_true c9
   have c9b1 : decide ((ji7) ≤ (l1.length : Int)) = true := decide_eq_true c9
   clear c9
   have H' := Aside0.mk H
   clear H
   have p179 : 0 ≤ (x14_1 : Int) := of_decide_eq_true (by first | (with_reducible assumption) | assumption)
   have q179 : x14_1 < (l1.length : Int) := of_decide_eq_true (by first | (with_reducible assumption) | assumption)
   obtain ⟨ad179, e179, hx179_0⟩ := Kd.at_int HR1.out x14_1 p179 q179
   cases e179
   replace hx179_0 := (HB.out.cell (World.block_lt_of_cell? w _ hx179_0)).trans hx179_0
   replace p179 := eq_true p179
   replace q179 := eq_true q179
   obtain ⟨i010, hi010, _, hsz10, _⟩ := info_parts info3
   obtain ⟨A10, hcut10, hA10, hC10⟩ := print_drop_of (P := Try.prog) (Value.int .i64) 0 23 3 .i64 Try.underlying23 hi010 hsz10 (some ad179) c1 l1 (ji7) (of_decide_eq_true (by first | (with_reducible assumption) | assumption)) (of_decide_eq_true (by first | (with_reducible assumption) | assumption)) HC1.out
   have HR180 := Aside0.mk (Kd.C_of_reads (h1 := fun _ => rfl) (hA10 _ (Kd.reads_of_C HR1.out)))
   have HC180 := Aside0.mk hC10
   clear hA10 hC10 hi010 hsz10
   go_wp2
   go_loopg [7, 24] k1 (fun kq v7 v24 w' => ∃ (x7_2 : List (S71)) (x24_2 : Int), v24 = .int .i64 x24_2 ∧ Aside0 (impl_inversions.l1 kq l0 l1 a2 x7_2 (rd l1 x14_1) l1 (l1.length : Int) x14_1 (l1.drop ((ji7) : Int).toNat) ((l1.drop ((ji7) : Int).toNat).length : Int) x24_2 = some r) ∧ Aside0 (kq ≤ k1) ∧ Aside0 (Kd.R k71 71 w' w.heap.size (fun _ => True) v7 x7_2) ∧ Aside0 (Below w.heap.size w w'))
   case atStart => exact ⟨(x7_1), (0), (by first | rfl | (simp; done) | (simp [*]; done)), H', ⟨Nat.le_refl _⟩, ⟨bR HO_7.out⟩, ⟨bw HB.out⟩⟩
   case round =>
    clear H'
    try clear c1
    try clear p1
    try clear q1
    try clear hx1
    try clear p2
    try clear c4
    try clear c4b0
    try clear c5
    try clear c5b0
    try clear c6
    try clear c6b0
    try clear p6
    try clear c8
    try clear c8b0
    try clear c8b1
    try clear c9
    try clear c9b0
    try clear c9b1
    try clear hx179_0
    try clear p179
    try clear p2
    try clear q179
    obtain ⟨x7_2, x24_2, rfl, HA, HK2, HO_7, HB⟩ := hrel
    cases gk with
    | zero => exact absurd HA.out (by simp [impl_inversions.l1])
    | succ k2 =>
     have H := HA.out
     clear HA
     simp only [impl_inversions.l1] at H
     by_cases c11 : x24_2 < ((l1.drop ((ji7) : Int).toNat).length : Int)
     rotate_left
     ·rw [if_neg c11] at H
      have c11b0 : decide (x24_2 < ((l1.drop ((ji7) : Int).toNat).length : Int)) = false := decide_eq_false c11
      try have c11b7 : decide (x24_2 < ((l1.length - (ji7 : Int).toNat : Nat) : Int)) = false := by have h_ := c11b0; simp only [List.length_drop] at h_; exact h_
      clear c11
      have H' := Aside0.mk H
      clear H
      go_wp2
      go_roundg k2
      case measure => have := HK1.out; have := HK2.out; omega
      case rel => exact ⟨(x7_2), (wrap64 (x14_1 + 1)), (by first | rfl | (simp; done) | (simp [*]; done)), H', ⟨by have := HK1.out; have := HK2.out; omega⟩, ⟨bR HO_7.out⟩, ⟨bw HB.out⟩⟩
     rw [if_pos c11] at H
     have c11b0 : decide (x24_2 < ((l1.drop ((ji7) : Int).toNat).length : Int)) = true := decide_eq_true c11
     try have c11b7 : decide (x24_2 < ((l1.length - (ji7 : Int).toNat : Nat) : Int)) = true := by have h_ := c11b0; simp only [List.length_drop] at h_; exact h_
     clear c11
     by_cases c12 : 0 ≤ x24_2
     rotate_left
     ·rw [if_neg c12] at H
      exact absurd H (by simp)
     rw [if_pos c12] at H
     have c12b0 : decide (0 ≤ x24_2) = true := decide_eq_true c12
     clear c12
     by_cases c13 : x24_2 < ((l1.drop ((ji7) : Int).toNat).length : Int)
     rotate_left
     ·rw [if_neg c13] at H
      exact absurd H (by simp)
     rw [if_pos c13] at H
     have c13b0 : decide (x24_2 < ((l1.drop ((ji7) : Int).toNat).length : Int)) = true := decide_eq_true c13
     try have c13b7 : decide (x24_2 < ((l1.length - (ji7 : Int).toNat : Nat) : Int)) = true := by have h_ := c13b0; simp only [List.length_drop] at h_; exact h_
     clear c13
     by_cases c14 : 0 ≤ (rd (l1.drop ((ji7) : Int).toNat) x24_2)
     rotate_left
     ·rw [if_neg c14] at H
      exact absurd H (by simp)
     rw [if_pos c14] at H
     have c14b0 : decide (0 ≤ (rd (l1.drop ((ji7) : Int).toNat) x24_2)) = true := decide_eq_true c14
     clear c14
     by_cases c15 : (rd (l1.drop ((ji7) : Int).toNat) x24_2) < (l0.length : Int)
     rotate_left
     ·rw [if_neg c15] at H
      exact absurd H (by simp)
     rw [if_pos c15] at H
     have c15b0 : decide ((rd (l1.drop ((ji7) : Int).toNat) x24_2) < (l0.length : Int)) = true := decide_eq_true c15
     clear c15
     by_cases c16 : 0 ≤ (rd l1 x14_1)
     rotate_left
     ·rw [if_neg c16] at H
      exact absurd H (by simp)
     rw [if_pos c16] at H
     have c16b0 : decide (0 ≤ (rd l1 x14_1)) = true := decide_eq_true c16
     clear c16
     by_cases c17 : (rd l1 x14_1) < (l0.length : Int)
     rotate_left
     ·rw [if_neg c17] at H
      exact absurd H (by simp)
     rw [if_pos c17] at H
     have c17b0 : decide ((rd l1 x14_1) < (l0.length : Int)) = true := decide_eq_true c17
     clear c17
     replace H := Option.bind_eq_some_iff.mp H
     obtain ⟨t184, A180, H⟩ := H
     replace H : (if t184 < 0 then (if x7_2.length < 8796093022208 then (impl_inversions.l1 k2 l0 l1 a2 (x7_2 ++ [(⟨(rd l1 x14_1), rd (l1.drop ((ji7) : Int).toNat) x24_2⟩ : S71)]) (rd l1 x14_1) l1 (l1.length : Int) x14_1 (l1.drop ((ji7) : Int).toNat) ((l1.drop ((ji7) : Int).toNat).length : Int) (wrap64 (x24_2 + 1))) else (none)) else (impl_inversions.l1 k2 l0 l1 a2 x7_2 (rd l1 x14_1) l1 (l1.length : Int) x14_1 (l1.drop ((ji7) : Int).toNat) ((l1.drop ((ji7) : Int).toNat).length : Int) (wrap64 (x24_2 + 1)))) = some r := H
     have A18 := Aside0.mk A180
     clear A180
     by_cases c19 : t184 < 0
     rotate_left
     ·rw [if_neg c19] at H
      have c19b0 : decide (t184 < 0) = false := decide_eq_false c19
      clear c19
      have H' := Aside0.mk H
      clear H
      have p181 : 0 ≤ (x24_2 : Int) := of_decide_eq_true (by first | (with_reducible assumption) | assumption)
      have q181 : x24_2 < ((l1.drop ((ji7) : Int).toNat).length : Int) := of_decide_eq_true (by first | (with_reducible assumption) | assumption)
      obtain ⟨ad181, e181, hx181_0⟩ := Kd.at_int HR180.out x24_2 p181 q181
      cases e181
      replace hx181_0 := (HB.out.cell (World.block_lt_of_cell? w _ hx181_0)).trans hx181_0
      replace p181 := eq_true p181
      try have q181z : (x24_2 < ((l1.length - (ji7 : Int).toNat : Nat) : Int)) = True := eq_true (by have h_ := q181; simp only [List.length_drop] at h_; exact h_)
      replace q181 := eq_true q181
      try go_wp2
      have n0_ := Aside0.mk (Kd.R_drew HO_7.out)
      have n1_ := Aside0.mk (below_drew1 HB.out)
      replace HO_7 := n0_
      replace HB := n1_
      clear n0_ n1_
      have p182 : 0 ≤ ((rd (l1.drop ((ji7) : Int).toNat) x24_2) : Int) := of_decide_eq_true (by first | (with_reducible assumption) | assumption)
      have q182 : (rd (l1.drop ((ji7) : Int).toNat) x24_2) < (l0.length : Int) := of_decide_eq_true (by first | (with_reducible assumption) | assumption)
      obtain ⟨ad182, e182, hx182_0, hx182_1, hx182_2, hx182_3⟩ := at_T89 HR0.out (rd (l1.drop ((ji7) : Int).toNat) x24_2) p182 q182
      have hw182_3 := hx182_3
      have hw182_2 := hx182_2
      have hw182_1 := hx182_1
      have hw182_0 := hx182_0
      cases e182
      replace hx182_0 := (HB.out.cell (World.block_lt_of_cell? w _ hx182_0)).trans hx182_0
      replace hx182_1 := (HB.out.cell (World.block_lt_of_cell? w _ hx182_1)).trans hx182_1
      replace hx182_2 := (HB.out.cell (World.block_lt_of_cell? w _ hx182_2)).trans hx182_2
      replace hx182_3 := (HB.out.cell (World.block_lt_of_cell? w _ hx182_3)).trans hx182_3
      replace p182 := eq_true p182
      replace q182 := eq_true q182
      have p183 : 0 ≤ ((rd l1 x14_1) : Int) := of_decide_eq_true (by first | (with_reducible assumption) | assumption)
      have q183 : (rd l1 x14_1) < (l0.length : Int) := of_decide_eq_true (by first | (with_reducible assumption) | assumption)
      obtain ⟨ad183, e183, hx183_0, hx183_1, hx183_2, hx183_3⟩ := at_T89 HR0.out (rd l1 x14_1) p183 q183
      have hw183_3 := hx183_3
      have hw183_2 := hx183_2
      have hw183_1 := hx183_1
      have hw183_0 := hx183_0
      obtain rfl : ad182 = ad183 := (by injection e183)
      replace hx183_0 := (HB.out.cell (World.block_lt_of_cell? w _ hx183_0)).trans hx183_0
      replace hx183_1 := (HB.out.cell (World.block_lt_of_cell? w _ hx183_1)).trans hx183_1
      replace hx183_2 := (HB.out.cell (World.block_lt_of_cell? w _ hx183_2)).trans hx183_2
      replace hx183_3 := (HB.out.cell (World.block_lt_of_cell? w _ hx183_3)).trans hx183_3
      replace p183 := eq_true p183
      replace q183 := eq_true q183
      refine start_ (n := 11) (S := fun w' => w'.cell? (ad182.add (((rd (l1.drop ((ji7) : Int).toNat) x24_2)).toNat * 4)) = some (.int .i64 ((rd_T89 l0 (rd (l1.drop ((ji7) : Int).toNat) x24_2)).f0)) ∧ w'.cell? ⟨(ad182.add (((rd (l1.drop ((ji7) : Int).toNat) x24_2)).toNat * 4)).block, (ad182.add (((rd (l1.drop ((ji7) : Int).toNat) x24_2)).toNat * 4)).off + 1, none⟩ = some (.int .i64 ((rd_T89 l0 (rd (l1.drop ((ji7) : Int).toNat) x24_2)).f1)) ∧ w'.cell? ⟨(ad182.add (((rd (l1.drop ((ji7) : Int).toNat) x24_2)).toNat * 4)).block, (ad182.add (((rd (l1.drop ((ji7) : Int).toNat) x24_2)).toNat * 4)).off + 2, none⟩ = some (.int .i64 ((rd_T89 l0 (rd (l1.drop ((ji7) : Int).toNat) x24_2)).f2)) ∧ w'.cell? ⟨(ad182.add (((rd (l1.drop ((ji7) : Int).toNat) x24_2)).toNat * 4)).block, (ad182.add (((rd (l1.drop ((ji7) : Int).toNat) x24_2)).toNat * 4)).off + 3, none⟩ = some (.int .i64 ((rd_T89 l0 (rd (l1.drop ((ji7) : Int).toNat) x24_2)).f3)) ∧ w'.cell? (ad182.add (((rd l1 x14_1)).toNat * 4)) = some (.int .i64 ((rd_T89 l0 (rd l1 x14_1)).f0)) ∧ w'.cell? ⟨(ad182.add (((rd l1 x14_1)).toNat * 4)).block, (ad182.add (((rd l1 x14_1)).toNat * 4)).off + 1, none⟩ = some (.int .i64 ((rd_T89 l0 (rd l1 x14_1)).f1)) ∧ w'.cell? ⟨(ad182.add (((rd l1 x14_1)).toNat * 4)).block, (ad182.add (((rd l1 x14_1)).toNat * 4)).off + 2, none⟩ = some (.int .i64 ((rd_T89 l0 (rd l1 x14_1)).f2)) ∧ w'.cell? ⟨(ad182.add (((rd l1 x14_1)).toNat * 4)).block, (ad182.add (((rd l1 x14_1)).toNat * 4)).off + 3, none⟩ = some (.int .i64 ((rd_T89 l0 (rd l1 x14_1)).f3))) (ds := []) q82_0 (by kernel_rfl) rfl rfl ⟨(bcl_ HB.out hw182_0 :), (bcl_ HB.out hw182_1 :), (bcl_ HB.out hw182_2 :), (bcl_ HB.out hw182_3 :), (bcl_ HB.out hw183_0 :), (bcl_ HB.out hw183_1 :), (bcl_ HB.out hw183_2 :), (bcl_ HB.out hw183_3 :)⟩ (fun hHeld => ?_); refine with_tabW impl_inversions.tab8 impl_inversions.bits8 (fun HT_ HW_ => ?_)
      generalize wr.drew = w24 at HO_7 HB hx182_0 hx182_1 hx182_2 hx182_3 hx183_0 hx183_1 hx183_2 hx183_3 hHeld ⊢
      refine pup_ (i := 0) (N := some 28) HT_ rfl rfl (by kernel_rfl) (fun _ _ _ h => h) (Or.inl ⟨by rfl, by intro w'; go_simp; with_reducible rfl⟩) (by simp only [aq_]; rfl) ?_
      refine pup_ (i := 1) (N := some 29) HT_ rfl rfl (by kernel_rfl) (fun _ _ _ h => h) (Or.inl ⟨by rfl, by intro w'; go_simp; with_reducible rfl⟩) (by simp only [aq_]; rfl) ?_
      refine pup_ (i := 2) (N := some 30) HT_ rfl rfl (by kernel_rfl) (fun _ _ _ h => h) (Or.inl ⟨by rfl, by intro w'; go_simp; with_reducible rfl⟩) (by simp only [aq_]; rfl) ?_
      refine pup_ (i := 4) (N := some 32) HT_ rfl rfl (by kernel_rfl) (fun _ _ _ h => h) (Or.inl ⟨by rfl, by intro w'; go_simp; with_reducible rfl⟩) (by simp only [aq_]; rfl) ?_
      refine pup_ (i := 5) (N := some 33) HT_ rfl rfl (by kernel_rfl) (fun _ _ _ h => h) (Or.inl ⟨by rfl, by intro w'; go_simp; with_reducible rfl⟩) (by simp only [aq_]; rfl) ?_
      refine pup_ (i := 6) (N := some 34) HT_ rfl rfl (by kernel_rfl) (fun _ _ _ h => h) (Or.inl ⟨by rfl, by intro w'; go_simp; with_reducible rfl⟩) (by simp only [aq_]; rfl) ?_
      refine pup_ (i := 8) (N := some 36) HT_ rfl rfl (by kernel_rfl) (fun _ _ _ h => h) (Or.inl ⟨by rfl, by intro w'; go_simp; with_reducible rfl⟩) (by simp only [aq_]; rfl) ?_
      refine take_ (i := 3) (N := some 31) (v := ?_) (a' := ?_) q82_8 rfl rfl (take_ofW HT_.out HW_.out (by kernel_rfl)) (fun _ _ _ h => h) (Or.inl ⟨by rfl, ?_⟩) hHeld ?_ ?_
      rotate_left
      ·rintro w' ⟨s0, s1, s2, s3, s4, s5, s6, s7⟩
       go_simp
       with_reducible rfl
      rotate_left
      ·simp only [aq_]
       rfl
      refine take_ (i := 7) (N := some 35) (v := ?_) (a' := ?_) q82_9 rfl rfl (take_ofW HT_.out HW_.out (by kernel_rfl)) (fun _ _ _ h => h) (Or.inl ⟨by rfl, ?_⟩) hHeld ?_ ?_
      rotate_left
      ·rintro w' ⟨s0, s1, s2, s3, s4, s5, s6, s7⟩
       go_simp
       with_reducible rfl
      rotate_left
      ·simp only [aq_]
       rfl
      refine one_ (i := 9) (N := some 37) q82_10 rfl rfl (one_of HT_.out (by kernel_rfl)) (by decide) (fun K hK => ?_)
      refine goes_ Try.func83 (by kernel_rfl) rfl #[.agg #[.int .i64 ((rd_T89 l0 (rd (l1.drop ((ji7) : Int).toNat) x24_2)).f0), .int .i64 ((rd_T89 l0 (rd (l1.drop ((ji7) : Int).toNat) x24_2)).f1), .int .i64 ((rd_T89 l0 (rd (l1.drop ((ji7) : Int).toNat) x24_2)).f2), .int .i64 ((rd_T89 l0 (rd (l1.drop ((ji7) : Int).toNat) x24_2)).f3)], .agg #[.int .i64 ((rd_T89 l0 (rd l1 x14_1)).f0), .int .i64 ((rd_T89 l0 (rd l1 x14_1)).f1), .int .i64 ((rd_T89 l0 (rd l1 x14_1)).f2), .int .i64 ((rd_T89 l0 (rd l1 x14_1)).f3)], .int .i64 a2] (by rfl) rfl rfl (by (try simp only [mA_]); first | done | (simp only [hji7]; rfl) | rfl | (simp only [List.length_drop, List.length_take]; rfl)) ?_
      with_reducible refine (impl_difference.calls ((rd_T89 l0 (rd (l1.drop ((ji7) : Int).toNat) x24_2)).f0) ((rd_T89 l0 (rd (l1.drop ((ji7) : Int).toNat) x24_2)).f1) ((rd_T89 l0 (rd (l1.drop ((ji7) : Int).toNat) x24_2)).f2) ((rd_T89 l0 (rd (l1.drop ((ji7) : Int).toNat) x24_2)).f3) ((rd_T89 l0 (rd l1 x14_1)).f0) ((rd_T89 l0 (rd l1 x14_1)).f1) ((rd_T89 l0 (rd l1 x14_1)).f2) ((rd_T89 l0 (rd l1 x14_1)).f3) a2 t184 _ A18.out).mono ?_
      rintro e w25 ⟨rfl, hb⟩
      refine ⟨_, rfl, ?_⟩
      have n0_ := Aside0.mk (Kd.R_below (bR HO_7.out) hb)
      have n1_ := Aside0.mk (below_step (bw HB.out) hb)
      replace HO_7 := n0_
      replace HB := n1_
      clear n0_ n1_
      (try clear hb)
      (try clear hb2)
      (try clear hk)
      (try clear hi)
      refine hK.out _ _ ⟨(bcl_ HB.out hw182_0 :), (bcl_ HB.out hw182_1 :), (bcl_ HB.out hw182_2 :), (bcl_ HB.out hw182_3 :), (bcl_ HB.out hw183_0 :), (bcl_ HB.out hw183_1 :), (bcl_ HB.out hw183_2 :), (bcl_ HB.out hw183_3 :)⟩ (fun hHeld => ?_)
      clear hK K
      refine norm_ (a' := ?_) ?_ ?_
      rotate_left
      ·show Act.put _ (some 37) _ = _
       simp only [aq_]
       rfl
      refine pup_ (i := 10) (N := some 38) HT_ rfl rfl (by kernel_rfl) (fun _ _ _ h => h) (Or.inl ⟨by rfl, by intro w'; go_simp; with_reducible rfl⟩) (by simp only [aq_]; rfl) ?_
      refine done_ (done_of HT_.out (by kernel_rfl)) ?_
      try go_wp2
      go_roundg k2
      case measure => have := HK1.out; have := HK2.out; omega
      case rel => exact ⟨(x7_2), (wrap64 (x24_2 + 1)), (by first | rfl | (simp; done) | (simp [*]; done)), H', ⟨by have := HK1.out; have := HK2.out; omega⟩, ⟨bR HO_7.out⟩, ⟨bw HB.out⟩⟩
     rw [if_pos c19] at H
     have c19b0 : decide (t184 < 0) = true := decide_eq_true c19
     clear c19
     by_cases c20 : x7_2.length < 8796093022208
     rotate_left
     ·rw [if_neg c20] at H
      exact absurd H (by simp)
     rw [if_pos c20] at H
     have LMc20 := Aside0.mk c20
     clear c20
     obtain ⟨y185, hy185⟩ : ∃ y_ : List (S71), y_ = (x7_2 ++ [(⟨(rd l1 x14_1), rd (l1.drop ((ji7) : Int).toNat) x24_2⟩ : S71)]) := ⟨_, rfl⟩
     replace H : (impl_inversions.l1 k2 l0 l1 a2 y185 (rd l1 x14_1) l1 (l1.length : Int) x14_1 (l1.drop ((ji7) : Int).toNat) ((l1.drop ((ji7) : Int).toNat).length : Int) (wrap64 (x24_2 + 1))) = some r := by first | (rw [hy185]; with_reducible exact H) | (have H2_ := (Option.bind_some _ _).symm.trans H; rw [hy185]; with_reducible exact H2_) | (have H2_ := (Option.bind_some _ _).symm.trans H; with_reducible exact H2_) | with_reducible exact H | (rw [hy185]; exact H) | exact H
     have Ny185 := Aside0.mk hy185
     clear hy185
     have H' := Aside0.mk H
     clear H
     have p181 : 0 ≤ (x24_2 : Int) := of_decide_eq_true (by first | (with_reducible assumption) | assumption)
     have q181 : x24_2 < ((l1.drop ((ji7) : Int).toNat).length : Int) := of_decide_eq_true (by first | (with_reducible assumption) | assumption)
     obtain ⟨ad181, e181, hx181_0⟩ := Kd.at_int HR180.out x24_2 p181 q181
     cases e181
     replace hx181_0 := (HB.out.cell (World.block_lt_of_cell? w _ hx181_0)).trans hx181_0
     replace p181 := eq_true p181
     try have q181z : (x24_2 < ((l1.length - (ji7 : Int).toNat : Nat) : Int)) = True := eq_true (by have h_ := q181; simp only [List.length_drop] at h_; exact h_)
     replace q181 := eq_true q181
     try go_wp2
     have n0_ := Aside0.mk (Kd.R_drew HO_7.out)
     have n1_ := Aside0.mk (below_drew1 HB.out)
     replace HO_7 := n0_
     replace HB := n1_
     clear n0_ n1_
     have p182 : 0 ≤ ((rd (l1.drop ((ji7) : Int).toNat) x24_2) : Int) := of_decide_eq_true (by first | (with_reducible assumption) | assumption)
     have q182 : (rd (l1.drop ((ji7) : Int).toNat) x24_2) < (l0.length : Int) := of_decide_eq_true (by first | (with_reducible assumption) | assumption)
     obtain ⟨ad182, e182, hx182_0, hx182_1, hx182_2, hx182_3⟩ := at_T89 HR0.out (rd (l1.drop ((ji7) : Int).toNat) x24_2) p182 q182
     have hw182_3 := hx182_3
     have hw182_2 := hx182_2
     have hw182_1 := hx182_1
     have hw182_0 := hx182_0
     cases e182
     replace hx182_0 := (HB.out.cell (World.block_lt_of_cell? w _ hx182_0)).trans hx182_0
     replace hx182_1 := (HB.out.cell (World.block_lt_of_cell? w _ hx182_1)).trans hx182_1
     replace hx182_2 := (HB.out.cell (World.block_lt_of_cell? w _ hx182_2)).trans hx182_2
     replace hx182_3 := (HB.out.cell (World.block_lt_of_cell? w _ hx182_3)).trans hx182_3
     replace p182 := eq_true p182
     replace q182 := eq_true q182
     have p183 : 0 ≤ ((rd l1 x14_1) : Int) := of_decide_eq_true (by first | (with_reducible assumption) | assumption)
     have q183 : (rd l1 x14_1) < (l0.length : Int) := of_decide_eq_true (by first | (with_reducible assumption) | assumption)
     obtain ⟨ad183, e183, hx183_0, hx183_1, hx183_2, hx183_3⟩ := at_T89 HR0.out (rd l1 x14_1) p183 q183
     have hw183_3 := hx183_3
     have hw183_2 := hx183_2
     have hw183_1 := hx183_1
     have hw183_0 := hx183_0
     obtain rfl : ad182 = ad183 := (by injection e183)
     replace hx183_0 := (HB.out.cell (World.block_lt_of_cell? w _ hx183_0)).trans hx183_0
     replace hx183_1 := (HB.out.cell (World.block_lt_of_cell? w _ hx183_1)).trans hx183_1
     replace hx183_2 := (HB.out.cell (World.block_lt_of_cell? w _ hx183_2)).trans hx183_2
     replace hx183_3 := (HB.out.cell (World.block_lt_of_cell? w _ hx183_3)).trans hx183_3
     replace p183 := eq_true p183
     replace q183 := eq_true q183
     refine start_ (n := 11) (S := fun w' => w'.cell? (ad182.add (((rd (l1.drop ((ji7) : Int).toNat) x24_2)).toNat * 4)) = some (.int .i64 ((rd_T89 l0 (rd (l1.drop ((ji7) : Int).toNat) x24_2)).f0)) ∧ w'.cell? ⟨(ad182.add (((rd (l1.drop ((ji7) : Int).toNat) x24_2)).toNat * 4)).block, (ad182.add (((rd (l1.drop ((ji7) : Int).toNat) x24_2)).toNat * 4)).off + 1, none⟩ = some (.int .i64 ((rd_T89 l0 (rd (l1.drop ((ji7) : Int).toNat) x24_2)).f1)) ∧ w'.cell? ⟨(ad182.add (((rd (l1.drop ((ji7) : Int).toNat) x24_2)).toNat * 4)).block, (ad182.add (((rd (l1.drop ((ji7) : Int).toNat) x24_2)).toNat * 4)).off + 2, none⟩ = some (.int .i64 ((rd_T89 l0 (rd (l1.drop ((ji7) : Int).toNat) x24_2)).f2)) ∧ w'.cell? ⟨(ad182.add (((rd (l1.drop ((ji7) : Int).toNat) x24_2)).toNat * 4)).block, (ad182.add (((rd (l1.drop ((ji7) : Int).toNat) x24_2)).toNat * 4)).off + 3, none⟩ = some (.int .i64 ((rd_T89 l0 (rd (l1.drop ((ji7) : Int).toNat) x24_2)).f3)) ∧ w'.cell? (ad182.add (((rd l1 x14_1)).toNat * 4)) = some (.int .i64 ((rd_T89 l0 (rd l1 x14_1)).f0)) ∧ w'.cell? ⟨(ad182.add (((rd l1 x14_1)).toNat * 4)).block, (ad182.add (((rd l1 x14_1)).toNat * 4)).off + 1, none⟩ = some (.int .i64 ((rd_T89 l0 (rd l1 x14_1)).f1)) ∧ w'.cell? ⟨(ad182.add (((rd l1 x14_1)).toNat * 4)).block, (ad182.add (((rd l1 x14_1)).toNat * 4)).off + 2, none⟩ = some (.int .i64 ((rd_T89 l0 (rd l1 x14_1)).f2)) ∧ w'.cell? ⟨(ad182.add (((rd l1 x14_1)).toNat * 4)).block, (ad182.add (((rd l1 x14_1)).toNat * 4)).off + 3, none⟩ = some (.int .i64 ((rd_T89 l0 (rd l1 x14_1)).f3))) (ds := []) q82_0 (by kernel_rfl) rfl rfl ⟨(bcl_ HB.out hw182_0 :), (bcl_ HB.out hw182_1 :), (bcl_ HB.out hw182_2 :), (bcl_ HB.out hw182_3 :), (bcl_ HB.out hw183_0 :), (bcl_ HB.out hw183_1 :), (bcl_ HB.out hw183_2 :), (bcl_ HB.out hw183_3 :)⟩ (fun hHeld => ?_); refine with_tabW impl_inversions.tab8 impl_inversions.bits8 (fun HT_ HW_ => ?_)
     generalize wr.drew = w21 at HO_7 HB hx182_0 hx182_1 hx182_2 hx182_3 hx183_0 hx183_1 hx183_2 hx183_3 hHeld ⊢
     refine pup_ (i := 0) (N := some 28) HT_ rfl rfl (by kernel_rfl) (fun _ _ _ h => h) (Or.inl ⟨by rfl, by intro w'; go_simp; with_reducible rfl⟩) (by simp only [aq_]; rfl) ?_
     refine pup_ (i := 1) (N := some 29) HT_ rfl rfl (by kernel_rfl) (fun _ _ _ h => h) (Or.inl ⟨by rfl, by intro w'; go_simp; with_reducible rfl⟩) (by simp only [aq_]; rfl) ?_
     refine pup_ (i := 2) (N := some 30) HT_ rfl rfl (by kernel_rfl) (fun _ _ _ h => h) (Or.inl ⟨by rfl, by intro w'; go_simp; with_reducible rfl⟩) (by simp only [aq_]; rfl) ?_
     refine pup_ (i := 4) (N := some 32) HT_ rfl rfl (by kernel_rfl) (fun _ _ _ h => h) (Or.inl ⟨by rfl, by intro w'; go_simp; with_reducible rfl⟩) (by simp only [aq_]; rfl) ?_
     refine pup_ (i := 5) (N := some 33) HT_ rfl rfl (by kernel_rfl) (fun _ _ _ h => h) (Or.inl ⟨by rfl, by intro w'; go_simp; with_reducible rfl⟩) (by simp only [aq_]; rfl) ?_
     refine pup_ (i := 6) (N := some 34) HT_ rfl rfl (by kernel_rfl) (fun _ _ _ h => h) (Or.inl ⟨by rfl, by intro w'; go_simp; with_reducible rfl⟩) (by simp only [aq_]; rfl) ?_
     refine pup_ (i := 8) (N := some 36) HT_ rfl rfl (by kernel_rfl) (fun _ _ _ h => h) (Or.inl ⟨by rfl, by intro w'; go_simp; with_reducible rfl⟩) (by simp only [aq_]; rfl) ?_
     refine take_ (i := 3) (N := some 31) (v := ?_) (a' := ?_) q82_8 rfl rfl (take_ofW HT_.out HW_.out (by kernel_rfl)) (fun _ _ _ h => h) (Or.inl ⟨by rfl, ?_⟩) hHeld ?_ ?_
     rotate_left
     ·rintro w' ⟨s0, s1, s2, s3, s4, s5, s6, s7⟩
      go_simp
      with_reducible rfl
     rotate_left
     ·simp only [aq_]
      rfl
     refine take_ (i := 7) (N := some 35) (v := ?_) (a' := ?_) q82_9 rfl rfl (take_ofW HT_.out HW_.out (by kernel_rfl)) (fun _ _ _ h => h) (Or.inl ⟨by rfl, ?_⟩) hHeld ?_ ?_
     rotate_left
     ·rintro w' ⟨s0, s1, s2, s3, s4, s5, s6, s7⟩
      go_simp
      with_reducible rfl
     rotate_left
     ·simp only [aq_]
      rfl
     refine one_ (i := 9) (N := some 37) q82_10 rfl rfl (one_of HT_.out (by kernel_rfl)) (by decide) (fun K hK => ?_)
     refine goes_ Try.func83 (by kernel_rfl) rfl #[.agg #[.int .i64 ((rd_T89 l0 (rd (l1.drop ((ji7) : Int).toNat) x24_2)).f0), .int .i64 ((rd_T89 l0 (rd (l1.drop ((ji7) : Int).toNat) x24_2)).f1), .int .i64 ((rd_T89 l0 (rd (l1.drop ((ji7) : Int).toNat) x24_2)).f2), .int .i64 ((rd_T89 l0 (rd (l1.drop ((ji7) : Int).toNat) x24_2)).f3)], .agg #[.int .i64 ((rd_T89 l0 (rd l1 x14_1)).f0), .int .i64 ((rd_T89 l0 (rd l1 x14_1)).f1), .int .i64 ((rd_T89 l0 (rd l1 x14_1)).f2), .int .i64 ((rd_T89 l0 (rd l1 x14_1)).f3)], .int .i64 a2] (by rfl) rfl rfl (by (try simp only [mA_]); first | done | (simp only [hji7]; rfl) | rfl | (simp only [List.length_drop, List.length_take]; rfl)) ?_
     with_reducible refine (impl_difference.calls ((rd_T89 l0 (rd (l1.drop ((ji7) : Int).toNat) x24_2)).f0) ((rd_T89 l0 (rd (l1.drop ((ji7) : Int).toNat) x24_2)).f1) ((rd_T89 l0 (rd (l1.drop ((ji7) : Int).toNat) x24_2)).f2) ((rd_T89 l0 (rd (l1.drop ((ji7) : Int).toNat) x24_2)).f3) ((rd_T89 l0 (rd l1 x14_1)).f0) ((rd_T89 l0 (rd l1 x14_1)).f1) ((rd_T89 l0 (rd l1 x14_1)).f2) ((rd_T89 l0 (rd l1 x14_1)).f3) a2 t184 _ A18.out).mono ?_
     rintro e w22 ⟨rfl, hb⟩
     refine ⟨_, rfl, ?_⟩
     have n0_ := Aside0.mk (Kd.R_below (bR HO_7.out) hb)
     have n1_ := Aside0.mk (below_step (bw HB.out) hb)
     replace HO_7 := n0_
     replace HB := n1_
     clear n0_ n1_
     (try clear hb)
     (try clear hb2)
     (try clear hk)
     (try clear hi)
     refine hK.out _ _ ⟨(bcl_ HB.out hw182_0 :), (bcl_ HB.out hw182_1 :), (bcl_ HB.out hw182_2 :), (bcl_ HB.out hw182_3 :), (bcl_ HB.out hw183_0 :), (bcl_ HB.out hw183_1 :), (bcl_ HB.out hw183_2 :), (bcl_ HB.out hw183_3 :)⟩ (fun hHeld => ?_)
     clear hK K
     refine norm_ (a' := ?_) ?_ ?_
     rotate_left
     ·show Act.put _ (some 37) _ = _
      simp only [aq_]
      rfl
     refine pup_ (i := 10) (N := some 38) HT_ rfl rfl (by kernel_rfl) (fun _ _ _ h => h) (Or.inl ⟨by rfl, by intro w'; go_simp; with_reducible rfl⟩) (by simp only [aq_]; rfl) ?_
     refine done_ (done_of HT_.out (by kernel_rfl)) ?_
     try go_wp2_with (first | ((with_reducible refine gate_builtin (b := .append) (xs := #[.tmp 39, .tmp 43]) rfl ?_); at_builtin; refine Kd.R_append k71 (w0 := w) w.heap.size rfl (.tmp 39) (.tmp 43) 46 71 (.agg #[(.int .i64 0), (.int .i64 0)]) 16 rfl Try.underlying46 info71 rfl (by decide) (by omega) u7 x7_2 (⟨(rd l1 x14_1), rd (l1.drop ((ji7) : Int).toNat) x24_2⟩ : S71) [.int .i64 (rd l1 x14_1), .int .i64 (rd (l1.drop ((ji7) : Int).toNat) x24_2)] (fun _ => True) (fun _ => False) rfl rfl ?aP (fun _ hk => hk.elim) ?aF ?aO ?aB ?aS ?aL ?_; (case aP => exact k71_mkM _ _ _ (⟨(rd l1 x14_1), rd (l1.drop ((ji7) : Int).toNat) x24_2⟩ : S71)); (case aB => exact (bw HB.out)); (case aF => exact (fun _ _ => trivial)); (case aO => exact (bR HO_7.out)); (case aS => exact (below_size (bw HB.out))); (case aL => have := LMc20.out; omega); intro v186 w23 ho hb hg hat; rw [← Ny185.out] at ho; have n0_ := Aside0.mk (hb); have n1_ := Aside0.mk (ho); clear HO_7; replace HB := n0_; have HO187 := n1_; clear n0_ n1_; clear ho hb hg hat))
     go_roundg k2
     case measure => have := HK1.out; have := HK2.out; omega
     case rel => exact ⟨(y185), (wrap64 (x24_2 + 1)), (by first | rfl | (simp; done) | (simp [*]; done)), H', ⟨by have := HK1.out; have := HK2.out; omega⟩, ⟨bR HO187.out⟩, ⟨bw HB.out⟩⟩

end Go.Proofs.Ytgpnophjbibhhaa.X
