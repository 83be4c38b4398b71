-- Written by a program of this session (wip/gen/xp.py, over the kit's printer). Not trusted: Lean checks it.
import Derived.Test.YtpbgdgjnkmlifaaX0
import Derived.Test.YtpbgdgjnkmlifaaXf5
namespace Go.Proofs.Ytpbgdgjnkmlifaa.X
open Go.RowKit Go.Proofs.YtpbgdgjnkmlifaaW.PrintWords Go.Proofs.YtpbgdgjnkmlifaaW.PrintLast Go.Proofs.YtpbgdgjnkmlifaaW.PrintMore
attribute [local go_sem] max2_int min2_int max_two min_two max_three min_three max_four min_four   -- for this text's walks alone
set_option linter.unusedVariables false
set_option linter.unusedSimpArgs false

/-! ### impl_areDifferent: function 30 -/
def impl_areDifferent.l0 : Nat → Int → List Int → List Int → Int → Int → Option (Bool)
 | 0, _, _, _, _, _ => none
 | k + 1, x0, x1, x7, x8, x9 => if x9 < x8 then (if 0 ≤ x9 then (if x9 < (x7.length : Int) then ((impl_isNumber.f (rd x7 x9) x0).bind fun t251 => (if t251 = true then (if x9 ≤ (x1.length : Int) then ((impl_has.f k (x1.take (x9 : Int).toNat) (rd x7 x9)).bind fun t253 => (if t253 = true then (some false) else (impl_areDifferent.l0 k x0 x1 x7 x8 (wrap64 (x9 + 1))))) else (none)) else (some false))) else (none)) else (none)) else (some true)
def impl_areDifferent.f (k : Nat) (a0 : Int) (l1 : List Int) : Option (Bool) := impl_areDifferent.l0 k a0 l1 l1 (l1.length : Int) 0
theorem impl_areDifferent.mono_l : ∀ k, (∀ y0 y1 y2 y3 y4, LeO (impl_areDifferent.l0 k y0 y1 y2 y3 y4) (impl_areDifferent.l0 (k + 1) y0 y1 y2 y3 y4))
 | 0 => fun _ _ _ _ _ r h => by simp [impl_areDifferent.l0] at h
 | k + 1 => by
  have ih0 := impl_areDifferent.mono_l k
  ·intro y0 y1 y2 y3 y4
   unfold impl_areDifferent.l0
   repeat' first
   | (with_reducible exact ih0 _ _ _ _ _)
   | (with_reducible exact impl_has.mono _ _ _)
   | (with_reducible exact LeO.refl _)
   | (with_reducible exact LeO.none _)
   | (with_reducible refine LeO.ite ?_ ?_)
   | (with_reducible refine LeO.bind ?_ (fun _ => ?_))
   | exact ih0 _ _ _ _ _
   | exact impl_has.mono _ _ _
   | exact LeO.none _
   | refine LeO.ite ?_ ?_
   | refine LeO.bind ?_ (fun _ => ?_)
theorem impl_areDifferent.mono : ∀ a0 a1 k, LeO (impl_areDifferent.f k a0 a1) (impl_areDifferent.f (k + 1) a0 a1) := by
 intro a0 a1 k
 have ih0 := impl_areDifferent.mono_l k
 unfold impl_areDifferent.f
 repeat' first
   | (with_reducible exact ih0 _ _ _ _ _)
   | (with_reducible exact impl_has.mono _ _ _)
   | (with_reducible exact LeO.refl _)
   | (with_reducible exact LeO.none _)
   | (with_reducible refine LeO.ite ?_ ?_)
   | (with_reducible refine LeO.bind ?_ (fun _ => ?_))
   | exact ih0 _ _ _ _ _
   | exact impl_has.mono _ _ _
   | exact LeO.none _
   | refine LeO.ite ?_ ?_
   | refine LeO.bind ?_ (fun _ => ?_)
set_option maxHeartbeats 8000000 in
set_option maxRecDepth 100000 in
theorem impl_areDifferent.calls (k : Nat) (a0 : Int) (A1 : Option Addr) (c1 : Nat) (l1 : List Int) (r : Bool) (w : World) (hr1 : Kd.C (Kd.int .i64) w A1 l1.length l1) (hc1 : l1.length ≤ c1) (h : impl_areDifferent.f k a0 l1 = some r) :
  Calls Try.prog 30 #[.int .i64 a0, .slice A1 l1.length c1] w fun e w' => e = .returned (.bool r) ∧ Drawn0 w w' := by
 have HR1 := Aside0.mk hr1
 have HC1 := Aside0.mk hc1
 clear hr1 hc1
 have H : (impl_areDifferent.l0 k a0 l1 l1 (l1.length : Int) 0) = some r := h
 clear h
 have H' := Aside0.mk H
 clear H
 go_enter Try.func30, Try.ntmps30
 go_wp2
 go_loopg [9] k (fun kq v9 w' => ∃ (x9_1 : Int), v9 = .int .i64 x9_1 ∧ Aside0 (impl_areDifferent.l0 kq a0 l1 l1 (l1.length : Int) x9_1 = some r) ∧ Aside0 (kq ≤ k) ∧ Drawn0 w w')
 case atStart => exact ⟨(0), (by first | rfl | (simp; done) | (simp [*]; done)), H', ⟨Nat.le_refl _⟩, by repeat (first | exact Drawn0.refl _ | apply Drawn0.step)⟩
 case round =>
  clear H'
  try clear c1
  try clear p2
  obtain ⟨x9_1, rfl, HA, HK1, ⟨m1, rfl⟩⟩ := hrel
  cases gk with
  | zero => exact absurd HA.out (by simp [impl_areDifferent.l0])
  | succ k1 =>
   have H := HA.out
   clear HA
   simp only [impl_areDifferent.l0] at H
   by_cases c3 : x9_1 < (l1.length : Int)
   rotate_left
   ·rw [if_neg c3] at H
    have c3b0 : decide (x9_1 < (l1.length : Int)) = false := decide_eq_false c3
    clear c3
    obtain rfl := Option.some.inj H
    go_wp2
    go_ret
    exact ⟨by first | rfl | (simp; done) | (simp [*]; done), by repeat (first | exact Drawn0.refl _ | apply Drawn0.step)⟩
   rw [if_pos c3] at H
   have c3b0 : decide (x9_1 < (l1.length : Int)) = true := decide_eq_true c3
   clear c3
   by_cases c4 : 0 ≤ x9_1
   rotate_left
   ·rw [if_neg c4] at H
    exact absurd H (by simp)
   rw [if_pos c4] at H
   have c4b0 : decide (0 ≤ x9_1) = true := decide_eq_true c4
   clear c4
   by_cases c5 : x9_1 < (l1.length : Int)
   rotate_left
   ·rw [if_neg c5] at H
    exact absurd H (by simp)
   rw [if_pos c5] at H
   have c5b0 : decide (x9_1 < (l1.length : Int)) = true := decide_eq_true c5
   clear c5
   replace H := Option.bind_eq_some_iff.mp H
   obtain ⟨t251, A60, H⟩ := H
   replace H : (if t251 = true then (if x9_1 ≤ (l1.length : Int) then ((impl_has.f k1 (l1.take (x9_1 : Int).toNat) (rd l1 x9_1)).bind fun t253 => (if t253 = true then (some false) else (impl_areDifferent.l0 k1 a0 l1 l1 (l1.length : Int) (wrap64 (x9_1 + 1))))) else (none)) else (some false)) = some r := H
   have A6 := Aside0.mk A60
   clear A60
   by_cases c7 : t251 = true
   rotate_left
   ·replace c7 := Bool.eq_false_iff.mpr c7
    subst c7
    have H1 : (some false) = some r := by rw [if_neg (show ¬ (false = true) by decide)] at H; exact H
    clear H
    have H := H1
    clear H1
    obtain rfl := Option.some.inj H
    have p250 : 0 ≤ (x9_1 : Int) := of_decide_eq_true (by first | (with_reducible assumption) | assumption)
    have q250 : x9_1 < (l1.length : Int) := of_decide_eq_true (by first | (with_reducible assumption) | assumption)
    obtain ⟨ad250, e250, hx250_0⟩ := Kd.at_int HR1.out x9_1 p250 q250
    cases e250
    replace p250 := eq_true p250
    replace q250 := eq_true q250
    go_wp2_with (first | ((with_reducible refine gate_callee (f := 46) rfl ?_); refine goesL_ (some 16) rfl rfl Try.func46 (by kernel_rfl) rfl #[.int .i64 (rd l1 x9_1), .int .i64 a0] rfl (by (try simp only [mA_]); first | done | rfl | (simp only [List.length_drop, List.length_take]; rfl)) ?_; (with_reducible refine (impl_isNumber.calls (rd l1 x9_1) a0 false _ A6.out).mono ?_); rintro e w' ⟨rfl, ⟨nd, rfl⟩⟩; refine ⟨_, rfl, ?_⟩))
    go_ret
    exact ⟨by first | rfl | (simp; done) | (simp [*]; done), by repeat (first | exact Drawn0.refl _ | apply Drawn0.step)⟩
   subst c7
   have H1 : (if x9_1 ≤ (l1.length : Int) then ((impl_has.f k1 (l1.take (x9_1 : Int).toNat) (rd l1 x9_1)).bind fun t253 => (if t253 = true then (some false) else (impl_areDifferent.l0 k1 a0 l1 l1 (l1.length : Int) (wrap64 (x9_1 + 1))))) else (none)) = some r := by rw [if_pos rfl] at H; exact H
   clear H
   have H := H1
   clear H1
   have c8b0 := eq_true (of_decide_eq_true (by first | (with_reducible assumption) | assumption) : 0 ≤ x9_1)
   by_cases c9 : x9_1 ≤ (l1.length : Int)
   rotate_left
   ·rw [if_neg c9] at H
    exact absurd H (by simp)
   rw [if_pos c9] at H
   have c9b0 := eq_true c9
   have c9b1 : decide (x9_1 ≤ (l1.length : Int)) = true := decide_eq_true c9
   clear c9
   replace H := Option.bind_eq_some_iff.mp H
   obtain ⟨t253, A100, H⟩ := H
   replace H : (if t253 = true then (some false) else (impl_areDifferent.l0 k1 a0 l1 l1 (l1.length : Int) (wrap64 (x9_1 + 1)))) = some r := H
   have A10 := Aside0.mk A100
   clear A100
   by_cases c11 : t253 = true
   ·subst c11
    have H1 : (some false) = some r := by rw [if_pos rfl] at H; exact H
    clear H
    have H := H1
    clear H1
    obtain rfl := Option.some.inj H
    have p250 : 0 ≤ (x9_1 : Int) := of_decide_eq_true (by first | (with_reducible assumption) | assumption)
    have q250 : x9_1 < (l1.length : Int) := of_decide_eq_true (by first | (with_reducible assumption) | assumption)
    obtain ⟨ad250, e250, hx250_0⟩ := Kd.at_int HR1.out x9_1 p250 q250
    cases e250
    replace p250 := eq_true p250
    replace q250 := eq_true q250
    go_wp2_with (first | ((with_reducible refine gate_callee (f := 46) rfl ?_); refine goesL_ (some 16) rfl rfl Try.func46 (by kernel_rfl) rfl #[.int .i64 (rd l1 x9_1), .int .i64 a0] rfl (by (try simp only [mA_]); first | done | rfl | (simp only [List.length_drop, List.length_take]; rfl)) ?_; (with_reducible refine (impl_isNumber.calls (rd l1 x9_1) a0 true _ A6.out).mono ?_); rintro e w' ⟨rfl, ⟨nd, rfl⟩⟩; refine ⟨_, rfl, ?_⟩; obtain ⟨i012, hi012, _, hsz12, _⟩ := info_parts info3; obtain ⟨hcut12, hA12, hC12⟩ := print_take_of (P := Try.prog) (Value.int .i64) 0 23 3 .i64 Try.underlying23 hi012 hsz12 (some ad250) c1 l1 x9_1 (of_decide_eq_true (by first | (with_reducible assumption) | assumption)) (of_decide_eq_true (by first | (with_reducible assumption) | assumption)) HC1.out; have HR252 := Aside0.mk (Kd.C_of_reads (h1 := fun _ => rfl) (hA12 _ (Kd.reads_of_C HR1.out))); have HC252 := Aside0.mk hC12; clear hA12 hC12 hi012 hsz12) | (go_at_call 47; (with_reducible refine (calls_args (by first | (rw [take_len l1 x9_1 (of_decide_eq_true (by first | (with_reducible assumption) | assumption))]; done) | (simp; done)) (impl_has.calls k1 (some ad250) c1 (l1.take (x9_1 : Int).toNat) (rd l1 x9_1) true _ ?side1 ?side2 A10.out)).mono ?_); (case side1 => repeat (first | exact HR252.out | (with_reducible refine Kd.C_alloc ?_ _) | (with_reducible refine Kd.C_drewN ?_ _) | (with_reducible refine Kd.C_drew ?_))); (case side2 => exact HC252.out); rintro e w' ⟨rfl, ⟨nd, rfl⟩⟩))
    go_ret
    exact ⟨by first | rfl | (simp; done) | (simp [*]; done), by repeat (first | exact Drawn0.refl _ | apply Drawn0.step)⟩
   replace c11 := Bool.eq_false_iff.mpr c11
   subst c11
   have H1 : (impl_areDifferent.l0 k1 a0 l1 l1 (l1.length : Int) (wrap64 (x9_1 + 1))) = some r := by rw [if_neg (show ¬ (false = true) by decide)] at H; exact H
   clear H
   have H := H1
   clear H1
   have H' := Aside0.mk H
   clear H
   have p250 : 0 ≤ (x9_1 : Int) := of_decide_eq_true (by first | (with_reducible assumption) | assumption)
   have q250 : x9_1 < (l1.length : Int) := of_decide_eq_true (by first | (with_reducible assumption) | assumption)
   obtain ⟨ad250, e250, hx250_0⟩ := Kd.at_int HR1.out x9_1 p250 q250
   cases e250
   replace p250 := eq_true p250
   replace q250 := eq_true q250
   go_wp2_with (first | ((with_reducible refine gate_callee (f := 46) rfl ?_); refine goesL_ (some 16) rfl rfl Try.func46 (by kernel_rfl) rfl #[.int .i64 (rd l1 x9_1), .int .i64 a0] rfl (by (try simp only [mA_]); first | done | rfl | (simp only [List.length_drop, List.length_take]; rfl)) ?_; (with_reducible refine (impl_isNumber.calls (rd l1 x9_1) a0 true _ A6.out).mono ?_); rintro e w' ⟨rfl, ⟨nd, rfl⟩⟩; refine ⟨_, rfl, ?_⟩; obtain ⟨i013, hi013, _, hsz13, _⟩ := info_parts info3; obtain ⟨hcut13, hA13, hC13⟩ := print_take_of (P := Try.prog) (Value.int .i64) 0 23 3 .i64 Try.underlying23 hi013 hsz13 (some ad250) c1 l1 x9_1 (of_decide_eq_true (by first | (with_reducible assumption) | assumption)) (of_decide_eq_true (by first | (with_reducible assumption) | assumption)) HC1.out; have HR252 := Aside0.mk (Kd.C_of_reads (h1 := fun _ => rfl) (hA13 _ (Kd.reads_of_C HR1.out))); have HC252 := Aside0.mk hC13; clear hA13 hC13 hi013 hsz13) | (go_at_call 47; (with_reducible refine (calls_args (by first | (rw [take_len l1 x9_1 (of_decide_eq_true (by first | (with_reducible assumption) | assumption))]; done) | (simp; done)) (impl_has.calls k1 (some ad250) c1 (l1.take (x9_1 : Int).toNat) (rd l1 x9_1) false _ ?side1 ?side2 A10.out)).mono ?_); (case side1 => repeat (first | exact HR252.out | (with_reducible refine Kd.C_alloc ?_ _) | (with_reducible refine Kd.C_drewN ?_ _) | (with_reducible refine Kd.C_drew ?_))); (case side2 => exact HC252.out); rintro e w' ⟨rfl, ⟨nd, rfl⟩⟩))
   go_roundg k1
   case measure => have := HK1.out; omega
   case rel => exact ⟨(wrap64 (x9_1 + 1)), (by first | rfl | (simp; done) | (simp [*]; done)), H', ⟨by have := HK1.out; omega⟩, by repeat (first | exact Drawn0.refl _ | apply Drawn0.step)⟩

/-! ### impl_isOrder: function 18 -/
def impl_isOrder.f (k : Nat) (a0 : Int) (l1 : List Int) : Option (Bool) := if (l1.length : Int) = a0 then ((impl_areDifferent.f k a0 l1).bind fun t254 => (some t254)) else (some false)
theorem impl_isOrder.mono : ∀ a0 a1 k, LeO (impl_isOrder.f k a0 a1) (impl_isOrder.f (k + 1) a0 a1) := by
 intro a0 a1 k
 unfold impl_isOrder.f
 repeat' first
   | (with_reducible exact impl_areDifferent.mono _ _ _)
   | (with_reducible exact LeO.refl _)
   | (with_reducible exact LeO.none _)
   | (with_reducible refine LeO.ite ?_ ?_)
   | (with_reducible refine LeO.bind ?_ (fun _ => ?_))
   | exact impl_areDifferent.mono _ _ _
   | exact LeO.none _
   | refine LeO.ite ?_ ?_
   | refine LeO.bind ?_ (fun _ => ?_)
set_option maxHeartbeats 8000000 in
set_option maxRecDepth 100000 in
theorem impl_isOrder.calls (k : Nat) (a0 : Int) (A1 : Option Addr) (c1 : Nat) (l1 : List Int) (r : Bool) (w : World) (hr1 : Kd.C (Kd.int .i64) w A1 l1.length l1) (hc1 : l1.length ≤ c1) (h : impl_isOrder.f k a0 l1 = some r) :
  Calls Try.prog 18 #[.int .i64 a0, .slice A1 l1.length c1] w fun e w' => e = .returned (.bool r) ∧ Drawn0 w w' := by
 have HR1 := Aside0.mk hr1
 have HC1 := Aside0.mk hc1
 clear hr1 hc1
 have H : (if (l1.length : Int) = a0 then ((impl_areDifferent.f k a0 l1).bind fun t254 => (some t254)) else (some false)) = some r := h
 clear h
 by_cases c3 : (l1.length : Int) = a0
 rotate_left
 ·rw [if_neg c3] at H
  have c3b0 : ((l1.length : Int) == a0) = false := beq_eq_false_iff_ne.mpr c3
  have c3b1 : ((l1.length : Int) != a0) = true := bne_iff_ne.mpr c3
  obtain rfl := Option.some.inj H
  go_enter Try.func18, Try.ntmps18
  go_wp2
  go_ret
  exact ⟨by first | rfl | (simp; done) | (simp [*]; done), by repeat (first | exact Drawn0.refl _ | apply Drawn0.step)⟩
 rw [if_pos c3] at H
 have c3b0 : ((l1.length : Int) == a0) = true := beq_iff_eq.mpr c3
 have c3b1 : ((l1.length : Int) != a0) = false := bne_eq_false_iff_eq.mpr c3
 clear c3
 replace H := Option.bind_eq_some_iff.mp H
 obtain ⟨t254, A40, H⟩ := H
 replace H : (some t254) = some r := H
 have A4 := Aside0.mk A40
 clear A40
 obtain rfl := Option.some.inj H
 go_enter Try.func18, Try.ntmps18
 go_wp2_with (first | (go_at_call 30; (with_reducible refine (impl_areDifferent.calls k a0 _ _ l1 t254 _ ?side1 ?side2 A4.out).mono ?_); (case side1 => repeat (first | exact HR1.out | (with_reducible refine Kd.C_alloc ?_ _) | (with_reducible refine Kd.C_drewN ?_ _) | (with_reducible refine Kd.C_drew ?_))); (case side2 => exact HC1.out); rintro e w' ⟨rfl, ⟨nd, rfl⟩⟩))
 go_ret
 exact ⟨by first | rfl | (simp; done) | (simp [*]; done), by repeat (first | exact Drawn0.refl _ | apply Drawn0.step)⟩

/-! ### impl_endsOf: function 31 -/
def impl_endsOf.l0 : Nat → List (S41) → List Int → Int → List Int → Int → Int → Option (List Int)
 | 0, _, _, _, _, _, _ => none
 | k + 1, x0, x5, x6, x12, x13, x14 => if x14 < x13 then (if 0 ≤ x14 then (if x14 < (x12.length : Int) then (if 0 ≤ (rd x12 x14) then (if (rd x12 x14) < (x0.length : Int) then (if (rd x12 x14) < (x5.length : Int) then (impl_endsOf.l0 k x0 (x5.set ((rd x12 x14) : Int).toNat (wrap64 ((mx x6 ((rd_T41 x0 (rd x12 x14)).f2)) + ((rd_T41 x0 (rd x12 x14)).f0)))) (wrap64 ((mx x6 ((rd_T41 x0 (rd x12 x14)).f2)) + ((rd_T41 x0 (rd x12 x14)).f0))) x12 x13 (wrap64 (x14 + 1))) else (none)) else (none)) else (none)) else (none)) else (none)) else (some x5)
def impl_endsOf.f (k : Nat) (l0 : List (S41)) (l1 : List Int) : Option (List Int) := if 0 ≤ (l0.length : Int) then (if ((l0.length : Int) : Int).toNat ≤ 35184372088832 then (impl_endsOf.l0 k l0 (List.replicate ((l0.length : Int) : Int).toNat 0) 0 l1 (l1.length : Int) 0) else (none)) else (none)
theorem impl_endsOf.mono_l : ∀ k, (∀ y0 y1 y2 y3 y4 y5, LeO (impl_endsOf.l0 k y0 y1 y2 y3 y4 y5) (impl_endsOf.l0 (k + 1) y0 y1 y2 y3 y4 y5))
 | 0 => fun _ _ _ _ _ _ r h => by simp [impl_endsOf.l0] at h
 | k + 1 => by
  have ih0 := impl_endsOf.mono_l k
  ·intro y0 y1 y2 y3 y4 y5
   unfold impl_endsOf.l0
   repeat' first
   | (with_reducible exact ih0 _ _ _ _ _ _)
   | (with_reducible exact LeO.refl _)
   | (with_reducible exact LeO.none _)
   | (with_reducible refine LeO.ite ?_ ?_)
   | (with_reducible refine LeO.bind ?_ (fun _ => ?_))
   | exact ih0 _ _ _ _ _ _
   | exact LeO.none _
   | refine LeO.ite ?_ ?_
   | refine LeO.bind ?_ (fun _ => ?_)
theorem impl_endsOf.mono : ∀ a0 a1 k, LeO (impl_endsOf.f k a0 a1) (impl_endsOf.f (k + 1) a0 a1) := by
 intro a0 a1 k
 have ih0 := impl_endsOf.mono_l k
 unfold impl_endsOf.f
 repeat' first
   | (with_reducible exact ih0 _ _ _ _ _ _)
   | (with_reducible exact LeO.refl _)
   | (with_reducible exact LeO.none _)
   | (with_reducible refine LeO.ite ?_ ?_)
   | (with_reducible refine LeO.bind ?_ (fun _ => ?_))
   | exact ih0 _ _ _ _ _ _
   | exact LeO.none _
   | refine LeO.ite ?_ ?_
   | refine LeO.bind ?_ (fun _ => ?_)
set_option maxHeartbeats 8000000 in
set_option maxRecDepth 100000 in
theorem impl_endsOf.calls (k : Nat) (A0 : Option Addr) (c0 : Nat) (l0 : List (S41)) (A1 : Option Addr) (c1 : Nat) (l1 : List Int) (r : List Int) (w : World) (hr0 : Kd.C k41 w A0 l0.length l0) (hc0 : l0.length ≤ c0) (hr1 : Kd.C (Kd.int .i64) w A1 l1.length l1) (hc1 : l1.length ≤ c1) (h : impl_endsOf.f k l0 l1 = some r) :
  Calls Try.prog 31 #[.slice A0 l0.length c0, .slice A1 l1.length c1] w fun e w' => ∃ v0_ : Value, e = .returned (v0_) ∧ Kd.R (Kd.int .i64) 3 w' w.heap.size (fun _ => True) v0_ r ∧ Below w.heap.size w w' := by
 have HR0 := Aside0.mk hr0
 have HC0 := Aside0.mk hc0
 clear hr0 hc0
 have HR1 := Aside0.mk hr1
 have HC1 := Aside0.mk hc1
 clear hr1 hc1
 have HB := Aside0.mk (Below.refl w.heap.size w)
 have H : (if 0 ≤ (l0.length : Int) then (if ((l0.length : Int) : Int).toNat ≤ 35184372088832 then (impl_endsOf.l0 k l0 (List.replicate ((l0.length : Int) : Int).toNat 0) 0 l1 (l1.length : Int) 0) else (none)) else (none)) = some r := h
 clear h
 by_cases c3 : 0 ≤ (l0.length : Int)
 rotate_left
 ·rw [if_neg c3] at H
  exact absurd H (by simp)
 rw [if_pos c3] at H
 have c3b0 := eq_true c3
 have c3b1 : decide (0 ≤ (l0.length : Int)) = true := decide_eq_true c3
 clear c3
 by_cases c4 : ((l0.length : Int) : Int).toNat ≤ 35184372088832
 rotate_left
 ·rw [if_neg c4] at H
  exact absurd H (by simp)
 rw [if_pos c4] at H
 have c4b0 := eq_true c4
 have c4b1 : decide (((l0.length : Int) : Int).toNat ≤ 35184372088832) = true := decide_eq_true c4
 clear c4
 obtain ⟨y255, hy255⟩ : ∃ y_ : List Int, y_ = (List.replicate ((l0.length : Int) : Int).toNat 0) := ⟨_, rfl⟩
 replace H : (impl_endsOf.l0 k l0 y255 0 l1 (l1.length : Int) 0) = some r := by first | (rw [hy255]; with_reducible exact H) | (have H2_ := (Option.bind_some _ _).symm.trans H; rw [hy255]; with_reducible exact H2_) | (have H2_ := (Option.bind_some _ _).symm.trans H; with_reducible exact H2_) | with_reducible exact H | (rw [hy255]; exact H) | exact H
 have Ny255 := Aside0.mk hy255
 clear hy255
 have H' := Aside0.mk H
 clear H
 go_enter Try.func31, Try.ntmps31
 have go_ := True.intro
 repeat ((first | go_quiet (first | ((with_reducible refine gate_dst (N := 11) rfl ?_); refine Kd.R_make (Kd.int .i64) _ 3 rfl (N := 11) rfl 23 _ _ rfl (l0.length : Int) rfl rfl Try.underlying23 (.int .i64 0) 8 info3 rfl (by decide) (by omega) 0 (ok := fun _ => True) (okp := fun _ => True) rfl (fun _ hk => hk) trivial (of_decide_eq_true (by first | (with_reducible assumption) | assumption)) (Nat.le_trans (Nat.mul_le_mul_right _ (of_decide_eq_true (by first | (with_reducible assumption) | assumption) : (l0.length : Int).toNat ≤ 35184372088832)) (by omega)) (Below.refl _ _) (Nat.le_refl _) ?_; intro v256 w5 ho6 hb hg_ hnew_; clear hg_ hnew_; (first | rw [← Ny255.out] at ho6 | (simp only [Int.reduceToNat] at ho6; rw [← Ny255.out] at ho6)); have n0_ := Aside0.mk (Kd.R_lower ho6 (below_size (bw HB.out))); have n1_ := Aside0.mk (below_step (bw HB.out) hb); have HO257 := n0_; replace HB := n1_; clear n0_ n1_; clear hb ho6)) | clear go_); go_wp2_with (first | ((with_reducible refine gate_dst (N := 11) rfl ?_); refine Kd.R_make (Kd.int .i64) _ 3 rfl (N := 11) rfl 23 _ _ rfl (l0.length : Int) rfl rfl Try.underlying23 (.int .i64 0) 8 info3 rfl (by decide) (by omega) 0 (ok := fun _ => True) (okp := fun _ => True) rfl (fun _ hk => hk) trivial (of_decide_eq_true (by first | (with_reducible assumption) | assumption)) (Nat.le_trans (Nat.mul_le_mul_right _ (of_decide_eq_true (by first | (with_reducible assumption) | assumption) : (l0.length : Int).toNat ≤ 35184372088832)) (by omega)) (Below.refl _ _) (Nat.le_refl _) ?_; intro v256 w5 ho6 hb hg_ hnew_; clear hg_ hnew_; (first | rw [← Ny255.out] at ho6 | (simp only [Int.reduceToNat] at ho6; rw [← Ny255.out] at ho6)); have n0_ := Aside0.mk (Kd.R_lower ho6 (below_size (bw HB.out))); have n1_ := Aside0.mk (below_step (bw HB.out) hb); have HO257 := n0_; replace HB := n1_; clear n0_ n1_; clear hb ho6)))
 go_loopg [6, 14] k (fun kq v6 v14 w' => ∃ (x5_1 : List Int) (x6_1 : Int) (x14_1 : Int), v6 = .int .i64 x6_1 ∧ v14 = .int .i64 x14_1 ∧ Aside0 (impl_endsOf.l0 kq l0 x5_1 x6_1 l1 (l1.length : Int) x14_1 = some r) ∧ Aside0 (kq ≤ k) ∧ Aside0 (Kd.R (Kd.int .i64) 3 w' w.heap.size (fun _ => True) v256 x5_1) ∧ Aside0 (Below w.heap.size w w'))
 case atStart => exact ⟨(y255), (0), (0), (by first | rfl | (simp; done) | (simp [*]; done)), (by first | rfl | (simp; done) | (simp [*]; done)), H', ⟨Nat.le_refl _⟩, ⟨bR HO257.out⟩, ⟨bw HB.out⟩⟩
 case round =>
  clear H'
  try clear c1
  try clear p2
  try clear c3
  try clear c3b0
  try clear c3b1
  try clear c4
  try clear c4b0
  try clear c4b1
  obtain ⟨x5_1, x6_1, x14_1, rfl, rfl, HA, HK1, HO_5, HB⟩ := hrel
  cases gk with
  | zero => exact absurd HA.out (by simp [impl_endsOf.l0])
  | succ k1 =>
   have H := HA.out
   clear HA
   simp only [impl_endsOf.l0] at H
   by_cases c7 : x14_1 < (l1.length : Int)
   rotate_left
   ·rw [if_neg c7] at H
    have c7b0 : decide (x14_1 < (l1.length : Int)) = false := decide_eq_false c7
    clear c7
    obtain rfl := Option.some.inj H
    go_wp2
    repeat (go_quiet (fail); try go_wp2)
    go_ret
    exact ⟨_, by first | rfl | (simp [errW_none, errW_some] <;> rfl) | (simp [*, errW_none, errW_some] <;> rfl), by (with_reducible repeat (first | apply Kd.R_alloc | apply Kd.R_drewN | apply Kd.R_drew)); exact HO_5.out, bw HB.out⟩
   rw [if_pos c7] at H
   have c7b0 : decide (x14_1 < (l1.length : Int)) = true := decide_eq_true c7
   clear c7
   by_cases c8 : 0 ≤ x14_1
   rotate_left
   ·rw [if_neg c8] at H
    exact absurd H (by simp)
   rw [if_pos c8] at H
   have c8b0 : decide (0 ≤ x14_1) = true := decide_eq_true c8
   clear c8
   by_cases c9 : x14_1 < (l1.length : Int)
   rotate_left
   ·rw [if_neg c9] at H
    exact absurd H (by simp)
   rw [if_pos c9] at H
   have c9b0 : decide (x14_1 < (l1.length : Int)) = true := decide_eq_true c9
   clear c9
   by_cases c10 : 0 ≤ (rd l1 x14_1)
   rotate_left
   ·rw [if_neg c10] at H
    exact absurd H (by simp)
   rw [if_pos c10] at H
   have c10b0 : decide (0 ≤ (rd l1 x14_1)) = true := decide_eq_true c10
   clear c10
   by_cases c11 : (rd l1 x14_1) < (l0.length : Int)
   rotate_left
   ·rw [if_neg c11] at H
    exact absurd H (by simp)
   rw [if_pos c11] at H
   have c11b0 : decide ((rd l1 x14_1) < (l0.length : Int)) = true := decide_eq_true c11
   clear c11
   obtain ⟨ji12, hji12⟩ : ∃ j_ : Int, (mx x6_1 ((rd_T41 l0 (rd l1 x14_1)).f2)) = j_ := ⟨_, rfl⟩
   replace H : (if (rd l1 x14_1) < (x5_1.length : Int) then (impl_endsOf.l0 k1 l0 (x5_1.set ((rd l1 x14_1) : Int).toNat (wrap64 ((ji12) + ((rd_T41 l0 (rd l1 x14_1)).f0)))) (wrap64 ((ji12) + ((rd_T41 l0 (rd l1 x14_1)).f0))) l1 (l1.length : Int) (wrap64 (x14_1 + 1))) else (none)) = some r := by first | (rw [hji12] at H; exact H) | (simp only [hji12] at H ⊢; exact H)
   have hji12_ : (if x6_1 < ((rd_T41 l0 (rd l1 x14_1)).f2) then ((rd_T41 l0 (rd l1 x14_1)).f2) else x6_1) = ji12 := hji12
   by_cases c13 : (rd l1 x14_1) < (x5_1.length : Int)
   rotate_left
   ·rw [if_neg c13] at H
    exact absurd H (by simp)
   rw [if_pos c13] at H
   have c13b0 : decide ((rd l1 x14_1) < (x5_1.length : Int)) = true := decide_eq_true c13
   clear c13
   obtain ⟨y261, hy261⟩ : ∃ y_ : List Int, y_ = (x5_1.set ((rd l1 x14_1) : Int).toNat (wrap64 ((ji12) + ((rd_T41 l0 (rd l1 x14_1)).f0)))) := ⟨_, rfl⟩
   replace H : (impl_endsOf.l0 k1 l0 y261 (wrap64 ((ji12) + ((rd_T41 l0 (rd l1 x14_1)).f0))) l1 (l1.length : Int) (wrap64 (x14_1 + 1))) = some r := by first | (rw [hy261]; with_reducible exact H) | (have H2_ := (Option.bind_some _ _).symm.trans H; rw [hy261]; with_reducible exact H2_) | (have H2_ := (Option.bind_some _ _).symm.trans H; with_reducible exact H2_) | with_reducible exact H | (rw [hy261]; exact H) | exact H
   have Ny261 := Aside0.mk hy261
   clear hy261
   have H' := Aside0.mk H
   clear H
   have p258 : 0 ≤ (x14_1 : Int) := of_decide_eq_true (by first | (with_reducible assumption) | assumption)
   have q258 : x14_1 < (l1.length : Int) := of_decide_eq_true (by first | (with_reducible assumption) | assumption)
   obtain ⟨ad258, e258, hx258_0⟩ := Kd.at_int HR1.out x14_1 p258 q258
   cases e258
   replace hx258_0 := (HB.out.cell (World.block_lt_of_cell? w _ hx258_0)).trans hx258_0
   replace p258 := eq_true p258
   replace q258 := eq_true q258
   have p259 : 0 ≤ ((rd l1 x14_1) : Int) := of_decide_eq_true (by first | (with_reducible assumption) | assumption)
   have q259 : (rd l1 x14_1) < (l0.length : Int) := of_decide_eq_true (by first | (with_reducible assumption) | assumption)
   obtain ⟨ad259, e259, hx259_0, hx259_1, hx259_2, hx259_3⟩ := at_T41 HR0.out (rd l1 x14_1) p259 q259
   cases e259
   replace hx259_0 := (HB.out.cell (World.block_lt_of_cell? w _ hx259_0)).trans hx259_0
   replace hx259_1 := (HB.out.cell (World.block_lt_of_cell? w _ hx259_1)).trans hx259_1
   replace hx259_2 := (HB.out.cell (World.block_lt_of_cell? w _ hx259_2)).trans hx259_2
   replace hx259_3 := (HB.out.cell (World.block_lt_of_cell? w _ hx259_3)).trans hx259_3
   replace p259 := eq_true p259
   replace q259 := eq_true q259
   have p260 : 0 ≤ ((rd l1 x14_1) : Int) := of_decide_eq_true (by first | (with_reducible assumption) | assumption)
   have q260 : (rd l1 x14_1) < (l0.length : Int) := of_decide_eq_true (by first | (with_reducible assumption) | assumption)
   obtain ⟨ad260, e260, hx260_0, hx260_1, hx260_2, hx260_3⟩ := at_T41 HR0.out (rd l1 x14_1) p260 q260
   obtain rfl : ad259 = ad260 := (by injection e260)
   replace hx260_0 := (HB.out.cell (World.block_lt_of_cell? w _ hx260_0)).trans hx260_0
   replace hx260_1 := (HB.out.cell (World.block_lt_of_cell? w _ hx260_1)).trans hx260_1
   replace hx260_2 := (HB.out.cell (World.block_lt_of_cell? w _ hx260_2)).trans hx260_2
   replace hx260_3 := (HB.out.cell (World.block_lt_of_cell? w _ hx260_3)).trans hx260_3
   replace p260 := eq_true p260
   replace q260 := eq_true q260
   have p14 : 0 ≤ ((rd l1 x14_1) : Int) := of_decide_eq_true (by first | (with_reducible assumption) | assumption)
   have q14 : ((rd l1 x14_1) : Int) < ((x5_1.length : Int) : Int) := of_decide_eq_true (by first | (with_reducible assumption) | assumption)
   obtain ⟨go14, co14, eo14, gb14, gl14, cl14, HG14⟩ := Kd.R_form HO_5.out (by omega)
   (first | cases eo14 | (injection eo14 with ea_ en_ ec_; (first | subst ea_ | (injection ea_ with ea_; subst ea_)); subst ec_; clear en_))
   have GB14 := Aside0.mk gb14
   have GG14 := Aside0.mk HG14
   clear gb14 gl14 HG14
   obtain ⟨hx14_0, hf14_0⟩ := Kd.R_celln 0 HO_5.out ((rd l1 x14_1) : Int) p14 q14
   replace p14 := eq_true p14
   replace q14 := eq_true q14
   have HP15 := Kd.R_putg HO_5.out ((rd l1 x14_1) : Int) (wrap64 ((ji12) + ((rd_T41 l0 (rd l1 x14_1)).f0)))
   have go_ := True.intro
   repeat ((first | go_quiet (first | ((with_reducible refine gate_store (t := 3) (p := 34) rfl ?_); (try (rw [drewN_self wr]; generalize hq_ : World.drewN wr _ = wr; have n0_ := Aside0.mk (Kd.R_at hq_ HO_5.out); have n1_ := Aside0.mk (below_at hq_ HB.out); (try replace hx258_0 := cell_at hq_ hx258_0); (try replace hx259_0 := cell_at hq_ hx259_0); (try replace hx259_1 := cell_at hq_ hx259_1); (try replace hx259_2 := cell_at hq_ hx259_2); (try replace hx259_3 := cell_at hq_ hx259_3); (try replace hx260_0 := cell_at hq_ hx260_0); (try replace hx260_1 := cell_at hq_ hx260_1); (try replace hx260_2 := cell_at hq_ hx260_2); (try replace hx260_3 := cell_at hq_ hx260_3); (try replace hx14_0 := cell_at hq_ hx14_0); (try replace hf14_0 := frz_at hq_ hf14_0); clear hq_ HO_5 HB; have HO_5 := n0_; have HB := n1_; clear n0_ n1_; (try (have HP15 := Kd.R_putg HO_5.out ((rd l1 x14_1) : Int) (wrap64 ((ji12) + ((rd_T41 l0 (rd l1 x14_1)).f0))))))); refine store_event (t := 3) (p := 34) (v := ?vo_w16) (w1 := (wr.setCell ⟨go14, ((rd l1 x14_1) : Int).toNat, none⟩ (.int .i64 (wrap64 ((ji12) + ((rd_T41 l0 (rd l1 x14_1)).f0)))))) ?hg ?ho ?hn ?hr ?_; (case ho => rfl); (case hg => rfl); (case hn => rfl); (case hr => first | (go_simp; done) | (go_simp; rfl)); intro w16 hw; have hg : wr.grownBy w16 (some go14) := (by rw [hw]; exact HP15.2); have hp_ : Kd.R (Kd.int .i64) 3 w16 w.heap.size (fun _ => True) (.slice (some ⟨go14, 0, none⟩) x5_1.length co14) y261 := (by rw [hw, Ny261.out]; exact HP15.1); clear HP15; have n0_ := Aside0.mk (hp_); have n1_ := Aside0.mk ((by rw [hw]; exact below_set (HB.out) GB14.out : Below w.heap.size w w16)); replace HO_5 := n0_; replace HB := n1_; clear n0_ n1_; clear hg hw hp_)) | clear go_); go_wp2_with (first | ((with_reducible refine gate_store (t := 3) (p := 34) rfl ?_); (try (rw [drewN_self wr]; generalize hq_ : World.drewN wr _ = wr; have n0_ := Aside0.mk (Kd.R_at hq_ HO_5.out); have n1_ := Aside0.mk (below_at hq_ HB.out); (try replace hx258_0 := cell_at hq_ hx258_0); (try replace hx259_0 := cell_at hq_ hx259_0); (try replace hx259_1 := cell_at hq_ hx259_1); (try replace hx259_2 := cell_at hq_ hx259_2); (try replace hx259_3 := cell_at hq_ hx259_3); (try replace hx260_0 := cell_at hq_ hx260_0); (try replace hx260_1 := cell_at hq_ hx260_1); (try replace hx260_2 := cell_at hq_ hx260_2); (try replace hx260_3 := cell_at hq_ hx260_3); (try replace hx14_0 := cell_at hq_ hx14_0); (try replace hf14_0 := frz_at hq_ hf14_0); clear hq_ HO_5 HB; have HO_5 := n0_; have HB := n1_; clear n0_ n1_; (try (have HP15 := Kd.R_putg HO_5.out ((rd l1 x14_1) : Int) (wrap64 ((ji12) + ((rd_T41 l0 (rd l1 x14_1)).f0))))))); refine store_event (t := 3) (p := 34) (v := ?vo_w16) (w1 := (wr.setCell ⟨go14, ((rd l1 x14_1) : Int).toNat, none⟩ (.int .i64 (wrap64 ((ji12) + ((rd_T41 l0 (rd l1 x14_1)).f0)))))) ?hg ?ho ?hn ?hr ?_; (case ho => rfl); (case hg => rfl); (case hn => rfl); (case hr => first | (go_simp; done) | (go_simp; rfl)); intro w16 hw; have hg : wr.grownBy w16 (some go14) := (by rw [hw]; exact HP15.2); have hp_ : Kd.R (Kd.int .i64) 3 w16 w.heap.size (fun _ => True) (.slice (some ⟨go14, 0, none⟩) x5_1.length co14) y261 := (by rw [hw, Ny261.out]; exact HP15.1); clear HP15; have n0_ := Aside0.mk (hp_); have n1_ := Aside0.mk ((by rw [hw]; exact below_set (HB.out) GB14.out : Below w.heap.size w w16)); replace HO_5 := n0_; replace HB := n1_; clear n0_ n1_; clear hg hw hp_)))
   go_roundg k1
   case measure => have := HK1.out; omega
   case rel => exact ⟨(y261), (wrap64 ((ji12) + ((rd_T41 l0 (rd l1 x14_1)).f0))), (wrap64 (x14_1 + 1)), (by first | rfl | (simp; done) | (simp only [← hji12] <;> (first | rfl | simp)) | (simp [*]; done)), (by first | rfl | (simp; done) | (simp [*]; done)), H', ⟨by have := HK1.out; omega⟩, ⟨bR HO_5.out⟩, ⟨bw HB.out⟩⟩

/-! ### impl_add: function 48 -/
def impl_add.f (a0 : Int) (a1_0 : Int) (a1_1 : Int) (a1_2 : Int) (a1_3 : Int) (a2 : Int) (a3 : Int) (a4 : Bool) : Option (Int) := if a3 = 1 then (some (mx a0 a2)) else (if a3 = 2 then (some (wrap64 (a0 + a2))) else (if a3 = 3 then (some (wrap64 (a0 + (wrap64 (a1_1 * a2))))) else (if a3 = 4 then (if a4 = true then (some (wrap64 (a2 - a1_3))) else (some (mx a0 (wrap64 (a2 - a1_3))))) else (if a3 = 5 then (some (wrap64 (a0 + (mx 0 (wrap64 (a2 - a1_3)))))) else (if a3 = 6 then (some (wrap64 (a0 + (wrap64 (a1_1 * (mx 0 (wrap64 (a2 - a1_3)))))))) else (if (wrap64 (a2 - a1_3)) ≤ 0 then (some a0) else (if a3 = 7 then (some (wrap64 (a0 + 1))) else (some (wrap64 (a0 + a1_1))))))))))
set_option maxHeartbeats 8000000 in
set_option maxRecDepth 100000 in
theorem impl_add.calls (a0 : Int) (a1_0 : Int) (a1_1 : Int) (a1_2 : Int) (a1_3 : Int) (a2 : Int) (a3 : Int) (a4 : Bool) (r : Int) (w : World) (h : impl_add.f a0 a1_0 a1_1 a1_2 a1_3 a2 a3 a4 = some r) :
  Calls Try.prog 48 #[.int .i64 a0, .agg #[.int .i64 a1_0, .int .i64 a1_1, .int .i64 a1_2, .int .i64 a1_3], .int .i64 a2, .int .i64 a3, .bool a4] w fun e w' => e = .returned (.int .i64 r) ∧ Below w.heap.size w w' := by
 have hu41 := Try.underlying41
 have HB := Aside0.mk (Below.refl w.heap.size w)
 have H : (if a3 = 1 then (some (mx a0 a2)) else (if a3 = 2 then (some (wrap64 (a0 + a2))) else (if a3 = 3 then (some (wrap64 (a0 + (wrap64 (a1_1 * a2))))) else (if a3 = 4 then (if a4 = true then (some (wrap64 (a2 - a1_3))) else (some (mx a0 (wrap64 (a2 - a1_3))))) else (if a3 = 5 then (some (wrap64 (a0 + (mx 0 (wrap64 (a2 - a1_3)))))) else (if a3 = 6 then (some (wrap64 (a0 + (wrap64 (a1_1 * (mx 0 (wrap64 (a2 - a1_3)))))))) else (if (wrap64 (a2 - a1_3)) ≤ 0 then (some a0) else (if a3 = 7 then (some (wrap64 (a0 + 1))) else (some (wrap64 (a0 + a1_1))))))))))) = some r := h
 clear h
 by_cases c6 : a3 = 1
 ·rw [if_pos c6] at H
  have c6b0 : (a3 == 1) = true := beq_iff_eq.mpr c6
  have c6b1 : (a3 != 1) = false := bne_eq_false_iff_eq.mpr c6
  clear c6
  obtain ⟨ji7, hji7⟩ : ∃ j_ : Int, (mx a0 a2) = j_ := ⟨_, rfl⟩
  replace H : (some ji7) = some r := by first | (rw [hji7] at H; exact H) | (simp only [hji7] at H ⊢; exact H)
  have hji7_ : (if a0 < a2 then a2 else a0) = ji7 := hji7
  obtain rfl := Option.some.inj H
  go_enter Try.func48, Try.ntmps48
  go_wp2_with (first | ((with_reducible refine gate_dst (N := 6) rfl ?_); refine box_event ?hg (N := 6) ?hd (cs := #[.int .i64 a1_0, .int .i64 a1_1, .int .i64 a1_2, .int .i64 a1_3]) (t := 41) ?hr ?_; (case hd => rfl); (case hg => rfl); (case hr => first | (go_simp; done) | (go_simp; rfl)); intro gb262 hg w8 hbox hb; have n0_ := Aside0.mk (below_step (bw HB.out) hb); have n1_ := Aside0.mk (hbox); have n2_ := ge_ hg HB.out; have n3_ := ge_ hg HB.out; replace HB := n0_; have BK262 := n1_; have GW262 := n2_; have GE262 := n3_; clear n0_ n1_ n2_ n3_; clear hb hbox hg; obtain ⟨hcz9_0, hcz9_1, hcz9_2, hcz9_3, hfz9_0, hfz9_1, hfz9_2, hfz9_3⟩ := bz4 BK262.out))
  go_ret
  exact ⟨by first | rfl | (simp [errW_none, errW_some] <;> rfl) | (simp only [← hji7]; first | rfl | (simp [errW_none, errW_some] <;> rfl)) | (simp [*, errW_none, errW_some] <;> rfl), by repeat (first | (with_reducible first | exact bw HB.out | refine bset ?_ | apply bA | apply bN | apply bD) | exact HB.out)⟩
 rw [if_neg c6] at H
 have c6b0 : (a3 == 1) = false := beq_eq_false_iff_ne.mpr c6
 have c6b1 : (a3 != 1) = true := bne_iff_ne.mpr c6
 by_cases c10 : a3 = 2
 ·rw [if_pos c10] at H
  have c10b0 : (a3 == 2) = true := beq_iff_eq.mpr c10
  have c10b1 : (a3 != 2) = false := bne_eq_false_iff_eq.mpr c10
  clear c10
  obtain rfl := Option.some.inj H
  go_enter Try.func48, Try.ntmps48
  go_wp2_with (first | ((with_reducible refine gate_dst (N := 6) rfl ?_); refine box_event ?hg (N := 6) ?hd (cs := #[.int .i64 a1_0, .int .i64 a1_1, .int .i64 a1_2, .int .i64 a1_3]) (t := 41) ?hr ?_; (case hd => rfl); (case hg => rfl); (case hr => first | (go_simp; done) | (go_simp; rfl)); intro gb262 hg w11 hbox hb; have n0_ := Aside0.mk (below_step (bw HB.out) hb); have n1_ := Aside0.mk (hbox); have n2_ := ge_ hg HB.out; have n3_ := ge_ hg HB.out; replace HB := n0_; have BK262 := n1_; have GW262 := n2_; have GE262 := n3_; clear n0_ n1_ n2_ n3_; clear hb hbox hg; obtain ⟨hcz12_0, hcz12_1, hcz12_2, hcz12_3, hfz12_0, hfz12_1, hfz12_2, hfz12_3⟩ := bz4 BK262.out))
  go_ret
  exact ⟨by first | rfl | (simp [errW_none, errW_some] <;> rfl) | (simp [*, errW_none, errW_some] <;> rfl), by repeat (first | (with_reducible first | exact bw HB.out | refine bset ?_ | apply bA | apply bN | apply bD) | exact HB.out)⟩
 rw [if_neg c10] at H
 have c10b0 : (a3 == 2) = false := beq_eq_false_iff_ne.mpr c10
 have c10b1 : (a3 != 2) = true := bne_iff_ne.mpr c10
 by_cases c13 : a3 = 3
 ·rw [if_pos c13] at H
  have c13b0 : (a3 == 3) = true := beq_iff_eq.mpr c13
  have c13b1 : (a3 != 3) = false := bne_eq_false_iff_eq.mpr c13
  clear c13
  obtain rfl := Option.some.inj H
  go_enter Try.func48, Try.ntmps48
  go_wp2_with (first | ((with_reducible refine gate_dst (N := 6) rfl ?_); refine box_event ?hg (N := 6) ?hd (cs := #[.int .i64 a1_0, .int .i64 a1_1, .int .i64 a1_2, .int .i64 a1_3]) (t := 41) ?hr ?_; (case hd => rfl); (case hg => rfl); (case hr => first | (go_simp; done) | (go_simp; rfl)); intro gb262 hg w14 hbox hb; have n0_ := Aside0.mk (below_step (bw HB.out) hb); have n1_ := Aside0.mk (hbox); have n2_ := ge_ hg HB.out; have n3_ := ge_ hg HB.out; replace HB := n0_; have BK262 := n1_; have GW262 := n2_; have GE262 := n3_; clear n0_ n1_ n2_ n3_; clear hb hbox hg; obtain ⟨hcz15_0, hcz15_1, hcz15_2, hcz15_3, hfz15_0, hfz15_1, hfz15_2, hfz15_3⟩ := bz4 BK262.out))
  go_ret
  exact ⟨by first | rfl | (simp [errW_none, errW_some] <;> rfl) | (simp [*, errW_none, errW_some] <;> rfl), by repeat (first | (with_reducible first | exact bw HB.out | refine bset ?_ | apply bA | apply bN | apply bD) | exact HB.out)⟩
 rw [if_neg c13] at H
 have c13b0 : (a3 == 3) = false := beq_eq_false_iff_ne.mpr c13
 have c13b1 : (a3 != 3) = true := bne_iff_ne.mpr c13
 by_cases c16 : a3 = 4
 ·rw [if_pos c16] at H
  have c16b0 : (a3 == 4) = true := beq_iff_eq.mpr c16
  have c16b1 : (a3 != 4) = false := bne_eq_false_iff_eq.mpr c16
  clear c16
  by_cases c17 : a4 = true
  ·subst c17
   have H1 : (some (wrap64 (a2 - a1_3))) = some r := by rw [if_pos rfl] at H; exact H
   clear H
   have H := H1
   clear H1
   obtain rfl := Option.some.inj H
   go_enter Try.func48, Try.ntmps48
   go_wp2_with (first | ((with_reducible refine gate_dst (N := 6) rfl ?_); refine box_event ?hg (N := 6) ?hd (cs := #[.int .i64 a1_0, .int .i64 a1_1, .int .i64 a1_2, .int .i64 a1_3]) (t := 41) ?hr ?_; (case hd => rfl); (case hg => rfl); (case hr => first | (go_simp; done) | (go_simp; rfl)); intro gb262 hg w18 hbox hb; have n0_ := Aside0.mk (below_step (bw HB.out) hb); have n1_ := Aside0.mk (hbox); have n2_ := ge_ hg HB.out; have n3_ := ge_ hg HB.out; replace HB := n0_; have BK262 := n1_; have GW262 := n2_; have GE262 := n3_; clear n0_ n1_ n2_ n3_; clear hb hbox hg; obtain ⟨hcz19_0, hcz19_1, hcz19_2, hcz19_3, hfz19_0, hfz19_1, hfz19_2, hfz19_3⟩ := bz4 BK262.out))
   go_ret
   exact ⟨by first | rfl | (simp [errW_none, errW_some] <;> rfl) | (simp [*, errW_none, errW_some] <;> rfl), by repeat (first | (with_reducible first | exact bw HB.out | refine bset ?_ | apply bA | apply bN | apply bD) | exact HB.out)⟩
  replace c17 := Bool.eq_false_iff.mpr c17
  subst c17
  have H1 : (some (mx a0 (wrap64 (a2 - a1_3)))) = some r := by rw [if_neg (show ¬ (false = true) by decide)] at H; exact H
  clear H
  have H := H1
  clear H1
  obtain ⟨ji20, hji20⟩ : ∃ j_ : Int, (mx a0 (wrap64 (a2 - a1_3))) = j_ := ⟨_, rfl⟩
  replace H : (some ji20) = some r := by first | (rw [hji20] at H; exact H) | (simp only [hji20] at H ⊢; exact H)
  have hji20_ : (if a0 < (wrap64 (a2 - a1_3)) then (wrap64 (a2 - a1_3)) else a0) = ji20 := hji20
  obtain rfl := Option.some.inj H
  go_enter Try.func48, Try.ntmps48
  go_wp2_with (first | ((with_reducible refine gate_dst (N := 6) rfl ?_); refine box_event ?hg (N := 6) ?hd (cs := #[.int .i64 a1_0, .int .i64 a1_1, .int .i64 a1_2, .int .i64 a1_3]) (t := 41) ?hr ?_; (case hd => rfl); (case hg => rfl); (case hr => first | (go_simp; done) | (go_simp; rfl)); intro gb262 hg w21 hbox hb; have n0_ := Aside0.mk (below_step (bw HB.out) hb); have n1_ := Aside0.mk (hbox); have n2_ := ge_ hg HB.out; have n3_ := ge_ hg HB.out; replace HB := n0_; have BK262 := n1_; have GW262 := n2_; have GE262 := n3_; clear n0_ n1_ n2_ n3_; clear hb hbox hg; obtain ⟨hcz22_0, hcz22_1, hcz22_2, hcz22_3, hfz22_0, hfz22_1, hfz22_2, hfz22_3⟩ := bz4 BK262.out))
  go_ret
  exact ⟨by first | rfl | (simp [errW_none, errW_some] <;> rfl) | (simp only [← hji20]; first | rfl | (simp [errW_none, errW_some] <;> rfl)) | (simp [*, errW_none, errW_some] <;> rfl), by repeat (first | (with_reducible first | exact bw HB.out | refine bset ?_ | apply bA | apply bN | apply bD) | exact HB.out)⟩
 rw [if_neg c16] at H
 have c16b0 : (a3 == 4) = false := beq_eq_false_iff_ne.mpr c16
 have c16b1 : (a3 != 4) = true := bne_iff_ne.mpr c16
 by_cases c23 : a3 = 5
 ·rw [if_pos c23] at H
  have c23b0 : (a3 == 5) = true := beq_iff_eq.mpr c23
  have c23b1 : (a3 != 5) = false := bne_eq_false_iff_eq.mpr c23
  clear c23
  obtain ⟨ji24, hji24⟩ : ∃ j_ : Int, (mx 0 (wrap64 (a2 - a1_3))) = j_ := ⟨_, rfl⟩
  replace H : (some (wrap64 (a0 + (ji24)))) = some r := by first | (rw [hji24] at H; exact H) | (simp only [hji24] at H ⊢; exact H)
  (try (have hji24l : 0 ≤ ji24 := by (rw [← hji24]; unfold mx; (repeat' split) <;> omega)))
  (try (have hji24m : 0 ≤ ji24 := by omega))
  have hji24_ : (if 0 < (wrap64 (a2 - a1_3)) then (wrap64 (a2 - a1_3)) else 0) = ji24 := hji24
  obtain rfl := Option.some.inj H
  go_enter Try.func48, Try.ntmps48
  go_wp2_with (first | ((with_reducible refine gate_dst (N := 6) rfl ?_); refine box_event ?hg (N := 6) ?hd (cs := #[.int .i64 a1_0, .int .i64 a1_1, .int .i64 a1_2, .int .i64 a1_3]) (t := 41) ?hr ?_; (case hd => rfl); (case hg => rfl); (case hr => first | (go_simp; done) | (go_simp; rfl)); intro gb262 hg w25 hbox hb; have n0_ := Aside0.mk (below_step (bw HB.out) hb); have n1_ := Aside0.mk (hbox); have n2_ := ge_ hg HB.out; have n3_ := ge_ hg HB.out; replace HB := n0_; have BK262 := n1_; have GW262 := n2_; have GE262 := n3_; clear n0_ n1_ n2_ n3_; clear hb hbox hg; obtain ⟨hcz26_0, hcz26_1, hcz26_2, hcz26_3, hfz26_0, hfz26_1, hfz26_2, hfz26_3⟩ := bz4 BK262.out))
  go_ret
  exact ⟨by first | rfl | (simp [errW_none, errW_some] <;> rfl) | (simp only [← hji24]; first | rfl | (simp [errW_none, errW_some] <;> rfl)) | (simp [*, errW_none, errW_some] <;> rfl), by repeat (first | (with_reducible first | exact bw HB.out | refine bset ?_ | apply bA | apply bN | apply bD) | exact HB.out)⟩
 rw [if_neg c23] at H
 have c23b0 : (a3 == 5) = false := beq_eq_false_iff_ne.mpr c23
 have c23b1 : (a3 != 5) = true := bne_iff_ne.mpr c23
 by_cases c27 : a3 = 6
 ·rw [if_pos c27] at H
  have c27b0 : (a3 == 6) = true := beq_iff_eq.mpr c27
  have c27b1 : (a3 != 6) = false := bne_eq_false_iff_eq.mpr c27
  clear c27
  obtain ⟨ji28, hji28⟩ : ∃ j_ : Int, (mx 0 (wrap64 (a2 - a1_3))) = j_ := ⟨_, rfl⟩
  replace H : (some (wrap64 (a0 + (wrap64 (a1_1 * (ji28)))))) = some r := by first | (rw [hji28] at H; exact H) | (simp only [hji28] at H ⊢; exact H)
  (try (have hji28l : 0 ≤ ji28 := by (rw [← hji28]; unfold mx; (repeat' split) <;> omega)))
  (try (have hji28m : 0 ≤ ji28 := by omega))
  have hji28_ : (if 0 < (wrap64 (a2 - a1_3)) then (wrap64 (a2 - a1_3)) else 0) = ji28 := hji28
  obtain rfl := Option.some.inj H
  go_enter Try.func48, Try.ntmps48
  go_wp2_with (first | ((with_reducible refine gate_dst (N := 6) rfl ?_); refine box_event ?hg (N := 6) ?hd (cs := #[.int .i64 a1_0, .int .i64 a1_1, .int .i64 a1_2, .int .i64 a1_3]) (t := 41) ?hr ?_; (case hd => rfl); (case hg => rfl); (case hr => first | (go_simp; done) | (go_simp; rfl)); intro gb262 hg w29 hbox hb; have n0_ := Aside0.mk (below_step (bw HB.out) hb); have n1_ := Aside0.mk (hbox); have n2_ := ge_ hg HB.out; have n3_ := ge_ hg HB.out; replace HB := n0_; have BK262 := n1_; have GW262 := n2_; have GE262 := n3_; clear n0_ n1_ n2_ n3_; clear hb hbox hg; obtain ⟨hcz30_0, hcz30_1, hcz30_2, hcz30_3, hfz30_0, hfz30_1, hfz30_2, hfz30_3⟩ := bz4 BK262.out))
  go_ret
  exact ⟨by first | rfl | (simp [errW_none, errW_some] <;> rfl) | (simp only [← hji28]; first | rfl | (simp [errW_none, errW_some] <;> rfl)) | (simp [*, errW_none, errW_some] <;> rfl), by repeat (first | (with_reducible first | exact bw HB.out | refine bset ?_ | apply bA | apply bN | apply bD) | exact HB.out)⟩
 rw [if_neg c27] at H
 have c27b0 : (a3 == 6) = false := beq_eq_false_iff_ne.mpr c27
 have c27b1 : (a3 != 6) = true := bne_iff_ne.mpr c27
 by_cases c31 : (wrap64 (a2 - a1_3)) ≤ 0
 ·rw [if_pos c31] at H
  have c31b0 : decide ((wrap64 (a2 - a1_3)) ≤ 0) = true := decide_eq_true c31
  clear c31
  obtain rfl := Option.some.inj H
  go_enter Try.func48, Try.ntmps48
  go_wp2_with (first | ((with_reducible refine gate_dst (N := 6) rfl ?_); refine box_event ?hg (N := 6) ?hd (cs := #[.int .i64 a1_0, .int .i64 a1_1, .int .i64 a1_2, .int .i64 a1_3]) (t := 41) ?hr ?_; (case hd => rfl); (case hg => rfl); (case hr => first | (go_simp; done) | (go_simp; rfl)); intro gb262 hg w32 hbox hb; have n0_ := Aside0.mk (below_step (bw HB.out) hb); have n1_ := Aside0.mk (hbox); have n2_ := ge_ hg HB.out; have n3_ := ge_ hg HB.out; replace HB := n0_; have BK262 := n1_; have GW262 := n2_; have GE262 := n3_; clear n0_ n1_ n2_ n3_; clear hb hbox hg; obtain ⟨hcz33_0, hcz33_1, hcz33_2, hcz33_3, hfz33_0, hfz33_1, hfz33_2, hfz33_3⟩ := bz4 BK262.out))
  go_ret
  exact ⟨by first | rfl | (simp [errW_none, errW_some] <;> rfl) | (simp [*, errW_none, errW_some] <;> rfl), by repeat (first | (with_reducible first | exact bw HB.out | refine bset ?_ | apply bA | apply bN | apply bD) | exact HB.out)⟩
 rw [if_neg c31] at H
 have c31b0 : decide ((wrap64 (a2 - a1_3)) ≤ 0) = false := decide_eq_false c31
 clear c31
 by_cases c34 : a3 = 7
 rotate_left
 ·rw [if_neg c34] at H
  have c34b0 : (a3 == 7) = false := beq_eq_false_iff_ne.mpr c34
  have c34b1 : (a3 != 7) = true := bne_iff_ne.mpr c34
  obtain rfl := Option.some.inj H
  go_enter Try.func48, Try.ntmps48
  go_wp2_with (first | ((with_reducible refine gate_dst (N := 6) rfl ?_); refine box_event ?hg (N := 6) ?hd (cs := #[.int .i64 a1_0, .int .i64 a1_1, .int .i64 a1_2, .int .i64 a1_3]) (t := 41) ?hr ?_; (case hd => rfl); (case hg => rfl); (case hr => first | (go_simp; done) | (go_simp; rfl)); intro gb262 hg w37 hbox hb; have n0_ := Aside0.mk (below_step (bw HB.out) hb); have n1_ := Aside0.mk (hbox); have n2_ := ge_ hg HB.out; have n3_ := ge_ hg HB.out; replace HB := n0_; have BK262 := n1_; have GW262 := n2_; have GE262 := n3_; clear n0_ n1_ n2_ n3_; clear hb hbox hg; obtain ⟨hcz38_0, hcz38_1, hcz38_2, hcz38_3, hfz38_0, hfz38_1, hfz38_2, hfz38_3⟩ := bz4 BK262.out))
  go_ret
  exact ⟨by first | rfl | (simp [errW_none, errW_some] <;> rfl) | (simp [*, errW_none, errW_some] <;> rfl), by repeat (first | (with_reducible first | exact bw HB.out | refine bset ?_ | apply bA | apply bN | apply bD) | exact HB.out)⟩
 rw [if_pos c34] at H
 have c34b0 : (a3 == 7) = true := beq_iff_eq.mpr c34
 have c34b1 : (a3 != 7) = false := bne_eq_false_iff_eq.mpr c34
 clear c34
 obtain rfl := Option.some.inj H
 go_enter Try.func48, Try.ntmps48
 go_wp2_with (first | ((with_reducible refine gate_dst (N := 6) rfl ?_); refine box_event ?hg (N := 6) ?hd (cs := #[.int .i64 a1_0, .int .i64 a1_1, .int .i64 a1_2, .int .i64 a1_3]) (t := 41) ?hr ?_; (case hd => rfl); (case hg => rfl); (case hr => first | (go_simp; done) | (go_simp; rfl)); intro gb262 hg w35 hbox hb; have n0_ := Aside0.mk (below_step (bw HB.out) hb); have n1_ := Aside0.mk (hbox); have n2_ := ge_ hg HB.out; have n3_ := ge_ hg HB.out; replace HB := n0_; have BK262 := n1_; have GW262 := n2_; have GE262 := n3_; clear n0_ n1_ n2_ n3_; clear hb hbox hg; obtain ⟨hcz36_0, hcz36_1, hcz36_2, hcz36_3, hfz36_0, hfz36_1, hfz36_2, hfz36_3⟩ := bz4 BK262.out))
 go_ret
 exact ⟨by first | rfl | (simp [errW_none, errW_some] <;> rfl) | (simp [*, errW_none, errW_some] <;> rfl), by repeat (first | (with_reducible first | exact bw HB.out | refine bset ?_ | apply bA | apply bN | apply bD) | exact HB.out)⟩

/-! ### impl_valueOfEnds: function 32 -/
abbrev q32_0 : Array Bool := ⟨rl_ [11] false⟩
abbrev q32_8 : Array Bool := ⟨rl_ [5, 1, 3, 2] true⟩
abbrev q32_9 : Array Bool := ⟨rl_ [9, 2] true⟩
abbrev q32_10 : Array Bool := ⟨rl_ [10, 1] true⟩
def impl_valueOfEnds.l0 : Nat → List Int → Int → Int → List (S41) → Int → Int → Option (Int)
 | 0, _, _, _, _, _, _ => none
 | k + 1, x1, x2, x7, x10, x11, x12 => if x12 < x11 then (if 0 ≤ x12 then (if x12 < (x10.length : Int) then (if x12 < (x1.length : Int) then ((impl_add.f x7 ((rd_T41 x10 x12).f0) ((rd_T41 x10 x12).f1) ((rd_T41 x10 x12).f2) ((rd_T41 x10 x12).f3) (rd x1 x12) x2 (x12 == 0)).bind fun t266 => (impl_valueOfEnds.l0 k x1 x2 t266 x10 x11 (wrap64 (x12 + 1)))) else (none)) else (none)) else (none)) else (some x7)
def impl_valueOfEnds.f (k : Nat) (l0 : List (S41)) (l1 : List Int) (a2 : Int) : Option (Int) := impl_valueOfEnds.l0 k l1 a2 0 l0 (l0.length : Int) 0
theorem impl_valueOfEnds.mono_l : ∀ k, (∀ y0 y1 y2 y3 y4 y5, LeO (impl_valueOfEnds.l0 k y0 y1 y2 y3 y4 y5) (impl_valueOfEnds.l0 (k + 1) y0 y1 y2 y3 y4 y5))
 | 0 => fun _ _ _ _ _ _ r h => by simp [impl_valueOfEnds.l0] at h
 | k + 1 => by
  have ih0 := impl_valueOfEnds.mono_l k
  ·intro y0 y1 y2 y3 y4 y5
   unfold impl_valueOfEnds.l0
   repeat' first
   | (with_reducible exact ih0 _ _ _ _ _ _)
   | (with_reducible exact LeO.refl _)
   | (with_reducible exact LeO.none _)
   | (with_reducible refine LeO.ite ?_ ?_)
   | (with_reducible refine LeO.bind ?_ (fun _ => ?_))
   | exact ih0 _ _ _ _ _ _
   | exact LeO.none _
   | refine LeO.ite ?_ ?_
   | refine LeO.bind ?_ (fun _ => ?_)
theorem impl_valueOfEnds.mono : ∀ a0 a1 a2 k, LeO (impl_valueOfEnds.f k a0 a1 a2) (impl_valueOfEnds.f (k + 1) a0 a1 a2) := by
 intro a0 a1 a2 k
 have ih0 := impl_valueOfEnds.mono_l k
 unfold impl_valueOfEnds.f
 repeat' first
   | (with_reducible exact ih0 _ _ _ _ _ _)
   | (with_reducible exact LeO.refl _)
   | (with_reducible exact LeO.none _)
   | (with_reducible refine LeO.ite ?_ ?_)
   | (with_reducible refine LeO.bind ?_ (fun _ => ?_))
   | exact ih0 _ _ _ _ _ _
   | exact LeO.none _
   | refine LeO.ite ?_ ?_
   | refine LeO.bind ?_ (fun _ => ?_)
def impl_valueOfEnds.T5 : Bool × List (List Nat × List Nat) := (true, [([], []), ([], []), ([], []), ([], []), ([2, 3], [2, 3]), ([4], [4]), ([], []), ([], []), ([7], [7]), ([0, 1, 5, 6, 8], [0, 1, 5, 6, 8]), ([9, 9, 0, 1, 2, 3, 4, 5, 6, 7, 8, 9], [0, 9])])
def impl_valueOfEnds.B5 : List Nat := [0, 0, 0, 0, 12, 28, 0, 0, 128, 511, 1023]
theorem impl_valueOfEnds.tab5 : rtab .any (opsOf Try.f32 5) = impl_valueOfEnds.T5 := by kernel_rfl
theorem impl_valueOfEnds.bits5 : waitsOk impl_valueOfEnds.T5.2 impl_valueOfEnds.B5 = true := by kernel_rfl
set_option maxHeartbeats 8000000 in
set_option maxRecDepth 100000 in
theorem impl_valueOfEnds.calls (k : Nat) (A0 : Option Addr) (c0 : Nat) (l0 : List (S41)) (A1 : Option Addr) (c1 : Nat) (l1 : List Int) (a2 : Int) (r : Int) (w : World) (hr0 : Kd.C k41 w A0 l0.length l0) (hc0 : l0.length ≤ c0) (hr1 : Kd.C (Kd.int .i64) w A1 l1.length l1) (hc1 : l1.length ≤ c1) (h : impl_valueOfEnds.f k l0 l1 a2 = some r) :
  Calls Try.prog 32 #[.slice A0 l0.length c0, .slice A1 l1.length c1, .int .i64 a2] w fun e w' => e = .returned (.int .i64 r) ∧ Below w.heap.size w w' := by
 have hu41 := Try.underlying41
 have HR0 := Aside0.mk hr0
 have HC0 := Aside0.mk hc0
 clear hr0 hc0
 have HR1 := Aside0.mk hr1
 have HC1 := Aside0.mk hc1
 clear hr1 hc1
 have HB := Aside0.mk (Below.refl w.heap.size w)
 have H : (impl_valueOfEnds.l0 k l1 a2 0 l0 (l0.length : Int) 0) = some r := h
 clear h
 have H' := Aside0.mk H
 clear H
 go_enter Try.func32, Try.ntmps32
 go_wp2
 go_loopg [7, 12] k (fun kq v7 v12 w' => ∃ (x7_1 : Int) (x12_1 : Int), v7 = .int .i64 x7_1 ∧ v12 = .int .i64 x12_1 ∧ Aside0 (impl_valueOfEnds.l0 kq l1 a2 x7_1 l0 (l0.length : Int) x12_1 = some r) ∧ Aside0 (kq ≤ k) ∧ Aside0 (Below w.heap.size w w'))
 case atStart => exact ⟨(0), (0), (by first | rfl | (simp; done) | (simp [*]; done)), (by first | rfl | (simp; done) | (simp [*]; done)), H', ⟨Nat.le_refl _⟩, ⟨bw HB.out⟩⟩
 case round =>
  clear H'
  try clear c1
  try clear p2
  try clear c3
  obtain ⟨x7_1, x12_1, rfl, rfl, HA, HK1, HB⟩ := hrel
  cases gk with
  | zero => exact absurd HA.out (by simp [impl_valueOfEnds.l0])
  | succ k1 =>
   have H := HA.out
   clear HA
   simp only [impl_valueOfEnds.l0] at H
   by_cases c4 : x12_1 < (l0.length : Int)
   rotate_left
   ·rw [if_neg c4] at H
    have c4b0 : decide (x12_1 < (l0.length : Int)) = false := decide_eq_false c4
    clear c4
    obtain rfl := Option.some.inj H
    go_wp2
    go_ret
    exact ⟨by first | rfl | (simp [errW_none, errW_some] <;> rfl) | (simp [*, errW_none, errW_some] <;> rfl), bw HB.out⟩
   rw [if_pos c4] at H
   have c4b0 : decide (x12_1 < (l0.length : Int)) = true := decide_eq_true c4
   clear c4
   by_cases c5 : 0 ≤ x12_1
   rotate_left
   ·rw [if_neg c5] at H
    exact absurd H (by simp)
   rw [if_pos c5] at H
   have c5b0 : decide (0 ≤ x12_1) = true := decide_eq_true c5
   clear c5
   by_cases c6 : x12_1 < (l0.length : Int)
   rotate_left
   ·rw [if_neg c6] at H
    exact absurd H (by simp)
   rw [if_pos c6] at H
   have c6b0 : decide (x12_1 < (l0.length : Int)) = true := decide_eq_true c6
   clear c6
   by_cases c7 : x12_1 < (l1.length : Int)
   rotate_left
   ·rw [if_neg c7] at H
    exact absurd H (by simp)
   rw [if_pos c7] at H
   have c7b0 : decide (x12_1 < (l1.length : Int)) = true := decide_eq_true c7
   clear c7
   replace H := Option.bind_eq_some_iff.mp H
   obtain ⟨t266, A80, H⟩ := H
   replace H : (impl_valueOfEnds.l0 k1 l1 a2 t266 l0 (l0.length : Int) (wrap64 (x12_1 + 1))) = some r := H
   have A8 := Aside0.mk A80
   clear A80
   have H' := Aside0.mk H
   clear H
   have p263 : 0 ≤ (x12_1 : Int) := of_decide_eq_true (by first | (with_reducible assumption) | assumption)
   have q263 : x12_1 < (l0.length : Int) := of_decide_eq_true (by first | (with_reducible assumption) | assumption)
   obtain ⟨ad263, e263, hx263_0, hx263_1, hx263_2, hx263_3⟩ := at_T41 HR0.out x12_1 p263 q263
   cases e263
   replace hx263_0 := (HB.out.cell (World.block_lt_of_cell? w _ hx263_0)).trans hx263_0
   replace hx263_1 := (HB.out.cell (World.block_lt_of_cell? w _ hx263_1)).trans hx263_1
   replace hx263_2 := (HB.out.cell (World.block_lt_of_cell? w _ hx263_2)).trans hx263_2
   replace hx263_3 := (HB.out.cell (World.block_lt_of_cell? w _ hx263_3)).trans hx263_3
   replace p263 := eq_true p263
   replace q263 := eq_true q263
   try go_wp2_with (first | ((with_reducible refine gate_dst (N := 9) rfl ?_); refine box_event ?hg (N := 9) ?hd (cs := #[.int .i64 0, .int .i64 0, .int .i64 0, .int .i64 0]) (t := 41) ?hr ?_; (case hd => rfl); (case hg => rfl); (case hr => first | (go_simp; done) | (go_simp; rfl)); intro gb264 hg w9 hbox hb; have n0_ := Aside0.mk (below_step (bw HB.out) hb); have n1_ := Aside0.mk (hbox); have n2_ := ge_ hg HB.out; have n3_ := ge_ hg HB.out; replace HB := n0_; have BK264 := n1_; have GW264 := n2_; have GE264 := n3_; clear n0_ n1_ n2_ n3_; clear hb hbox hg; obtain ⟨hcz10_0, hcz10_1, hcz10_2, hcz10_3, hfz10_0, hfz10_1, hfz10_2, hfz10_3⟩ := bz4 BK264.out))
   have n0_ : Aside0 (((((w9.setCell ⟨gb264, 0, none⟩ (.int .i64 ((rd_T41 l0 x12_1).f0))).setCell ⟨gb264, 1, none⟩ (.int .i64 ((rd_T41 l0 x12_1).f1))).setCell ⟨gb264, 2, none⟩ (.int .i64 ((rd_T41 l0 x12_1).f2))).setCell ⟨gb264, 3, none⟩ (.int .i64 ((rd_T41 l0 x12_1).f3))).heap[gb264]? = some (.cells #[.int .i64 ((rd_T41 l0 x12_1).f0), .int .i64 ((rd_T41 l0 x12_1).f1), .int .i64 ((rd_T41 l0 x12_1).f2), .int .i64 ((rd_T41 l0 x12_1).f3)] 41 (0, 0))) := ⟨by (with_reducible repeat (first | refine blk_drewN ?_ _ | refine blk_drew ?_ | refine blk_alloc ?_ _)); refine blk_put (cs := #[.int .i64 ((rd_T41 l0 x12_1).f0), .int .i64 ((rd_T41 l0 x12_1).f1), .int .i64 ((rd_T41 l0 x12_1).f2), .int .i64 0]) ?_ 3 _ rfl; (with_reducible repeat (first | refine blk_drewN ?_ _ | refine blk_drew ?_ | refine blk_alloc ?_ _)); refine blk_put (cs := #[.int .i64 ((rd_T41 l0 x12_1).f0), .int .i64 ((rd_T41 l0 x12_1).f1), .int .i64 0, .int .i64 0]) ?_ 2 _ rfl; (with_reducible repeat (first | refine blk_drewN ?_ _ | refine blk_drew ?_ | refine blk_alloc ?_ _)); refine blk_put (cs := #[.int .i64 ((rd_T41 l0 x12_1).f0), .int .i64 0, .int .i64 0, .int .i64 0]) ?_ 1 _ rfl; (with_reducible repeat (first | refine blk_drewN ?_ _ | refine blk_drew ?_ | refine blk_alloc ?_ _)); refine blk_put (cs := #[.int .i64 0, .int .i64 0, .int .i64 0, .int .i64 0]) ?_ 0 _ rfl; exact bs BK264.out⟩
   have n1_ : Aside0 (Below w.heap.size w ((((w9.setCell ⟨gb264, 0, none⟩ (.int .i64 ((rd_T41 l0 x12_1).f0))).setCell ⟨gb264, 1, none⟩ (.int .i64 ((rd_T41 l0 x12_1).f1))).setCell ⟨gb264, 2, none⟩ (.int .i64 ((rd_T41 l0 x12_1).f2))).setCell ⟨gb264, 3, none⟩ (.int .i64 ((rd_T41 l0 x12_1).f3)))) := ⟨by repeat (first | (with_reducible first | exact bw HB.out | refine bset ?_ | apply bA | apply bN | apply bD) | exact HB.out)⟩
   (try clear BK264)
   (try clear HB)
   (try simp only [setCell_drewN])
   generalize ((((w9.setCell ⟨gb264, 0, none⟩ (.int .i64 ((rd_T41 l0 x12_1).f0))).setCell ⟨gb264, 1, none⟩ (.int .i64 ((rd_T41 l0 x12_1).f1))).setCell ⟨gb264, 2, none⟩ (.int .i64 ((rd_T41 l0 x12_1).f2))).setCell ⟨gb264, 3, none⟩ (.int .i64 ((rd_T41 l0 x12_1).f3))) = w11 at n0_ n1_ ⊢
   have BK264 := n0_
   have HB := n1_
   clear n0_ n1_
   have n0_ := Aside0.mk (blk_drew BK264.out)
   have n1_ := Aside0.mk (below_drew1 HB.out)
   replace BK264 := n0_
   replace HB := n1_
   clear n0_ n1_
   have p265 : 0 ≤ (x12_1 : Int) := of_decide_eq_true (by first | (with_reducible assumption) | assumption)
   have q265 : x12_1 < (l1.length : Int) := of_decide_eq_true (by first | (with_reducible assumption) | assumption)
   obtain ⟨ad265, e265, hx265_0⟩ := Kd.at_int HR1.out x12_1 p265 q265
   have hw265_0 := hx265_0
   cases e265
   replace hx265_0 := (HB.out.cell (World.block_lt_of_cell? w _ hx265_0)).trans hx265_0
   replace p265 := eq_true p265
   replace q265 := eq_true q265
   refine start_ (n := 11) (S := fun w' => w'.cell? ⟨gb264, 0, none⟩ = some (.int .i64 ((rd_T41 l0 x12_1).f0)) ∧ w'.cell? ⟨gb264, 1, none⟩ = some (.int .i64 ((rd_T41 l0 x12_1).f1)) ∧ w'.cell? ⟨gb264, 2, none⟩ = some (.int .i64 ((rd_T41 l0 x12_1).f2)) ∧ w'.cell? ⟨gb264, 3, none⟩ = some (.int .i64 ((rd_T41 l0 x12_1).f3)) ∧ w'.cell? (ad265.add (x12_1).toNat) = some (.int .i64 (rd l1 x12_1))) (ds := []) q32_0 (by kernel_rfl) rfl rfl ⟨(blk_cell BK264.out 0).trans rfl, (blk_cell BK264.out 1).trans rfl, (blk_cell BK264.out 2).trans rfl, (blk_cell BK264.out 3).trans rfl, (bcl_ HB.out hw265_0 :)⟩ (fun hHeld => ?_); refine with_tabW impl_valueOfEnds.tab5 impl_valueOfEnds.bits5 (fun HT_ HW_ => ?_)
   generalize w11.drew = w12 at BK264 HB hx265_0 hHeld ⊢
   refine pup_ (i := 0) (N := some 17) HT_ rfl rfl (by kernel_rfl) (fun _ _ _ h => h) (Or.inl ⟨by rfl, by intro w'; go_simp; with_reducible rfl⟩) (by simp only [aq_]; rfl) ?_
   refine pup_ (i := 2) (N := some 19) HT_ rfl rfl (by kernel_rfl) (fun _ _ _ h => h) (Or.inl ⟨by rfl, by intro w'; go_simp; with_reducible rfl⟩) (by simp only [aq_]; rfl) ?_
   refine pup_ (i := 3) (N := some 20) HT_ rfl rfl (by kernel_rfl) (fun _ _ _ h => h) (Or.inl ⟨by rfl, by intro w'; go_simp; with_reducible rfl⟩) (by simp only [aq_]; rfl) ?_
   refine pup_ (i := 4) (N := some 21) HT_ rfl rfl (by kernel_rfl) (fun _ _ _ h => h) (Or.inl ⟨by rfl, by intro w'; go_simp; with_reducible rfl⟩) (by simp only [aq_]; rfl) ?_
   refine pup_ (i := 6) (N := some 23) HT_ rfl rfl (by kernel_rfl) (fun _ _ _ h => h) (Or.inl ⟨by rfl, by intro w'; go_simp; with_reducible rfl⟩) (by simp only [aq_]; rfl) ?_
   refine pup_ (i := 7) (N := some 24) HT_ rfl rfl (by kernel_rfl) (fun _ _ _ h => h) (Or.inl ⟨by rfl, by intro w'; go_simp; with_reducible rfl⟩) (by simp only [aq_]; rfl) ?_
   refine pup_ (i := 8) (N := some 25) HT_ rfl rfl (by kernel_rfl) (fun _ _ _ h => h) (Or.inl ⟨by rfl, by intro w'; go_simp; with_reducible rfl⟩) (by simp only [aq_]; rfl) ?_
   refine take_ (i := 1) (N := some 18) (v := ?_) (a' := ?_) q32_8 rfl rfl (take_ofW HT_.out HW_.out (by kernel_rfl)) (fun _ _ _ h => h) (Or.inl ⟨by rfl, ?_⟩) hHeld ?_ ?_
   rotate_left
   ·rintro w' ⟨s0, s1, s2, s3, s4⟩
    go_simp
    with_reducible rfl
   rotate_left
   ·simp only [aq_]
    rfl
   refine take_ (i := 5) (N := some 22) (v := ?_) (a' := ?_) q32_9 rfl rfl (take_ofW HT_.out HW_.out (by kernel_rfl)) (fun _ _ _ h => h) (Or.inl ⟨by rfl, ?_⟩) hHeld ?_ ?_
   rotate_left
   ·rintro w' ⟨s0, s1, s2, s3, s4⟩
    go_simp
    with_reducible rfl
   rotate_left
   ·simp only [aq_]
    rfl
   refine one_ (i := 9) (N := some 26) q32_10 rfl rfl (one_of HT_.out (by kernel_rfl)) (by decide) (fun K hK => ?_)
   refine goes_ Try.func48 (by kernel_rfl) rfl #[.int .i64 x7_1, .agg #[.int .i64 ((rd_T41 l0 x12_1).f0), .int .i64 ((rd_T41 l0 x12_1).f1), .int .i64 ((rd_T41 l0 x12_1).f2), .int .i64 ((rd_T41 l0 x12_1).f3)], .int .i64 (rd l1 x12_1), .int .i64 a2, .bool (x12_1 == 0)] (by rfl) rfl rfl (by (try simp only [mA_]); first | done | rfl | (simp only [List.length_drop, List.length_take]; rfl)) ?_
   with_reducible refine (impl_add.calls x7_1 ((rd_T41 l0 x12_1).f0) ((rd_T41 l0 x12_1).f1) ((rd_T41 l0 x12_1).f2) ((rd_T41 l0 x12_1).f3) (rd l1 x12_1) a2 (x12_1 == 0) t266 _ A8.out).mono ?_
   rintro e w13 ⟨rfl, hb⟩
   refine ⟨_, rfl, ?_⟩
   have n0_ := Aside0.mk (blk_below (bs BK264.out) hb)
   have n1_ := Aside0.mk (below_step (by repeat (first | (with_reducible first | exact bw HB.out | refine bset ?_ | apply bA | apply bN | apply bD) | exact HB.out)) hb)
   replace BK264 := n0_
   replace HB := n1_
   clear n0_ n1_
   (try clear hb)
   (try clear hb2)
   (try clear hk)
   (try clear hi)
   refine hK.out _ _ ⟨(blk_cell BK264.out 0).trans rfl, (blk_cell BK264.out 1).trans rfl, (blk_cell BK264.out 2).trans rfl, (blk_cell BK264.out 3).trans rfl, (bcl_ HB.out hw265_0 :)⟩ (fun hHeld => ?_)
   clear hK K
   refine norm_ (a' := ?_) ?_ ?_
   rotate_left
   ·show Act.put _ (some 26) _ = _
    simp only [aq_]
    rfl
   refine pup_ (i := 10) (N := some 7) HT_ rfl rfl (by kernel_rfl) (fun _ _ _ h => h) (Or.inl ⟨by rfl, by intro w'; go_simp; with_reducible rfl⟩) (by simp only [aq_]; rfl) ?_
   refine done_ (done_of HT_.out (by kernel_rfl)) ?_
   try go_wp2
   go_roundg k1
   case measure => have := HK1.out; omega
   case rel => exact ⟨(t266), (wrap64 (x12_1 + 1)), (by first | rfl | (simp; done) | (simp [*]; done)), (by first | rfl | (simp; done) | (simp [*]; done)), H', ⟨by have := HK1.out; omega⟩, ⟨by repeat (first | (with_reducible first | exact bw HB.out | refine bset ?_ | apply bA | apply bN | apply bD) | exact HB.out)⟩⟩

/-! ### impl_pointOf: function 19 -/
def impl_pointOf.f (k : Nat) (l0 : List (S41)) (l1 : List Int) (a2 : Int) (a3 : Int) : Option (Int × Int) := (impl_endsOf.f k l0 l1).bind fun t268 => ((impl_valueOfEnds.f k l0 t268 a2).bind fun t271 => ((impl_valueOfEnds.f k l0 t268 a3).bind fun t272 => (some (t271, t272))))
theorem impl_pointOf.mono : ∀ a0 a1 a2 a3 k, LeO (impl_pointOf.f k a0 a1 a2 a3) (impl_pointOf.f (k + 1) a0 a1 a2 a3) := by
 intro a0 a1 a2 a3 k
 unfold impl_pointOf.f
 repeat' first
   | (with_reducible exact impl_endsOf.mono _ _ _)
   | (with_reducible exact impl_valueOfEnds.mono _ _ _ _)
   | (with_reducible exact LeO.refl _)
   | (with_reducible exact LeO.none _)
   | (with_reducible refine LeO.ite ?_ ?_)
   | (with_reducible refine LeO.bind ?_ (fun _ => ?_))
   | exact impl_endsOf.mono _ _ _
   | exact impl_valueOfEnds.mono _ _ _ _
   | exact LeO.none _
   | refine LeO.ite ?_ ?_
   | refine LeO.bind ?_ (fun _ => ?_)
set_option maxHeartbeats 8000000 in
set_option maxRecDepth 100000 in
theorem impl_pointOf.calls (k : Nat) (A0 : Option Addr) (c0 : Nat) (l0 : List (S41)) (A1 : Option Addr) (c1 : Nat) (l1 : List Int) (a2 : Int) (a3 : Int) (r1 : Int) (r2 : Int) (w : World) (hr0 : Kd.C k41 w A0 l0.length l0) (hc0 : l0.length ≤ c0) (hr1 : Kd.C (Kd.int .i64) w A1 l1.length l1) (hc1 : l1.length ≤ c1) (h : impl_pointOf.f k l0 l1 a2 a3 = some (r1, r2)) :
  Calls Try.prog 19 #[.slice A0 l0.length c0, .slice A1 l1.length c1, .int .i64 a2, .int .i64 a3] w fun e w' => e = .returned (.agg #[.int .i64 r1, .int .i64 r2]) ∧ Below w.heap.size w w' := by
 have hu38 := Try.underlying38
 have HR0 := Aside0.mk hr0
 have HC0 := Aside0.mk hc0
 clear hr0 hc0
 have HR1 := Aside0.mk hr1
 have HC1 := Aside0.mk hc1
 clear hr1 hc1
 have HB := Aside0.mk (Below.refl w.heap.size w)
 have H : ((impl_endsOf.f k l0 l1).bind fun t268 => ((impl_valueOfEnds.f k l0 t268 a2).bind fun t271 => ((impl_valueOfEnds.f k l0 t268 a3).bind fun t272 => (some (t271, t272))))) = some (r1, r2) := h
 clear h
 replace H := Option.bind_eq_some_iff.mp H
 obtain ⟨t268, A50, H⟩ := H
 replace H : ((impl_valueOfEnds.f k l0 t268 a2).bind fun t271 => ((impl_valueOfEnds.f k l0 t268 a3).bind fun t272 => (some (t271, t272)))) = some (r1, r2) := H
 have A5 := Aside0.mk A50
 clear A50
 replace H := Option.bind_eq_some_iff.mp H
 obtain ⟨t271, A60, H⟩ := H
 replace H : ((impl_valueOfEnds.f k l0 t268 a3).bind fun t272 => (some (t271, t272))) = some (r1, r2) := H
 have A6 := Aside0.mk A60
 clear A60
 replace H := Option.bind_eq_some_iff.mp H
 obtain ⟨t272, A70, H⟩ := H
 replace H : (some (t271, t272)) = some (r1, r2) := H
 have A7 := Aside0.mk A70
 clear A70
 simp only [Option.some.injEq, Prod.mk.injEq] at H
 obtain ⟨rfl, rfl⟩ := H
 go_enter Try.func19, Try.ntmps19
 go_wp2_with (first | ((with_reducible refine gate_dst (N := 8) rfl ?_); refine box_event ?hg (N := 8) ?hd (cs := #[.int .i64 0, .int .i64 0]) (t := 38) ?hr ?_; (case hd => rfl); (case hg => rfl); (case hr => first | (go_simp; done) | (go_simp; rfl)); intro gb267 hg w8 hbox hb; have n0_ := Aside0.mk (below_step (bw HB.out) hb); have n1_ := Aside0.mk (hbox); have n2_ := ge_ hg HB.out; have n3_ := ge_ hg HB.out; replace HB := n0_; have BK267 := n1_; have GW267 := n2_; have GE267 := n3_; clear n0_ n1_ n2_ n3_; clear hb hbox hg) | ((with_reducible refine gate_callee (f := 31) rfl ?_); refine goesL_ (some 12) rfl rfl Try.func31 (by kernel_rfl) rfl #[.slice A0 l0.length c0, .slice A1 l1.length c1] rfl (by (try simp only [mA_]); first | done | rfl | (simp only [List.length_drop, List.length_take]; rfl)) ?_; (with_reducible refine (impl_endsOf.calls k _ _ l0 _ _ l1 t268 _ ?side1 ?side2 ?side3 ?side4 A5.out).mono ?_); (case side1 => first | exact bC HR0.out HB.out | exact Kd.C_below HR0.out HB.out); (case side2 => exact HC0.out); (case side3 => first | exact bC HR1.out HB.out | exact Kd.C_below HR1.out HB.out); (case side4 => exact HC1.out); rintro e w9 ⟨v269, rfl, ho0, hb⟩; refine ⟨_, rfl, ?_⟩; have n0_ := Aside0.mk (Kd.R_lower ho0 (below_size (by repeat (first | (with_reducible first | exact bw HB.out | refine bset ?_ | apply bA | apply bN | apply bD) | exact HB.out)))); have n1_ := Aside0.mk (blk_below (bs BK267.out) hb); have n2_ := Aside0.mk (below_step (by repeat (first | (with_reducible first | exact bw HB.out | refine bset ?_ | apply bA | apply bN | apply bD) | exact HB.out)) hb); have HO270 := n0_; replace BK267 := n1_; replace HB := n2_; clear n0_ n1_ n2_; (try clear hb); (try clear hb2); (try clear hk); (try clear hi); (try clear ho0); obtain ⟨Ao10, co10, eo10⟩ := Kd.R_slice HO270.out; subst eo10) | ((with_reducible refine gate_callee (f := 32) rfl ?_); refine goesL_ (some 16) rfl rfl Try.func32 (by kernel_rfl) rfl #[.slice A0 l0.length c0, .slice Ao10 t268.length co10, .int .i64 a2] rfl (by (try simp only [mA_]); first | done | rfl | (simp only [List.length_drop, List.length_take]; rfl)) ?_; (with_reducible refine (impl_valueOfEnds.calls k _ _ l0 _ _ t268 a2 t271 _ ?side1 ?side2 ?side3 ?side4 A6.out).mono ?_); (case side1 => first | exact bC HR0.out HB.out | exact Kd.C_below HR0.out HB.out); (case side2 => exact HC0.out); (case side3 => repeat (first | exact (Kd.R_reads' HO270.out).2.2 | (with_reducible refine Kd.C_alloc ?_ _) | (with_reducible refine Kd.C_drewN ?_ _) | (with_reducible refine Kd.C_drew ?_))); (case side4 => exact (Kd.R_reads' HO270.out).2.1); rintro e w11 ⟨rfl, hb⟩; refine ⟨_, rfl, ?_⟩; have n0_ := Aside0.mk (Kd.R_below (bR HO270.out) hb); have n1_ := Aside0.mk (blk_below (bs BK267.out) hb); have n2_ := Aside0.mk (below_step (by repeat (first | (with_reducible first | exact bw HB.out | refine bset ?_ | apply bA | apply bN | apply bD) | exact HB.out)) hb); replace HO270 := n0_; replace BK267 := n1_; replace HB := n2_; clear n0_ n1_ n2_; (try clear hb); (try clear hb2); (try clear hk); (try clear hi)) | ((with_reducible refine gate_callee (f := 32) rfl ?_); refine goesL_ (some 20) rfl rfl Try.func32 (by kernel_rfl) rfl #[.slice A0 l0.length c0, .slice Ao10 t268.length co10, .int .i64 a3] rfl (by (try simp only [mA_]); first | done | rfl | (simp only [List.length_drop, List.length_take]; rfl)) ?_; (with_reducible refine (impl_valueOfEnds.calls k _ _ l0 _ _ t268 a3 t272 _ ?side1 ?side2 ?side3 ?side4 A7.out).mono ?_); (case side1 => first | exact bC HR0.out HB.out | exact Kd.C_below HR0.out HB.out); (case side2 => exact HC0.out); (case side3 => repeat (first | exact (Kd.R_reads' HO270.out).2.2 | (with_reducible refine Kd.C_alloc ?_ _) | (with_reducible refine Kd.C_drewN ?_ _) | (with_reducible refine Kd.C_drew ?_))); (case side4 => exact (Kd.R_reads' HO270.out).2.1); rintro e w12 ⟨rfl, hb⟩; refine ⟨_, rfl, ?_⟩; have n0_ := Aside0.mk (Kd.R_below (bR HO270.out) hb); have n1_ := Aside0.mk (blk_below (bs BK267.out) hb); have n2_ := Aside0.mk (below_step (by repeat (first | (with_reducible first | exact bw HB.out | refine bset ?_ | apply bA | apply bN | apply bD) | exact HB.out)) hb); replace HO270 := n0_; replace BK267 := n1_; replace HB := n2_; clear n0_ n1_ n2_; (try clear hb); (try clear hb2); (try clear hk); (try clear hi); obtain ⟨hcz13_0, hcz13_1, hfz13_0, hfz13_1⟩ := bz2 BK267.out))
 refine bodyPost_ret (results_cell_row rfl _ _ gb267 38 #[.int .i64 t271, .int .i64 t272] (0, 0) _ rfl (by (with_reducible repeat (first | refine blk_drewN ?_ _ | refine blk_drew ?_ | refine blk_alloc ?_ _)); refine blk_put (cs := #[.int .i64 t271, .int .i64 0]) ?_ 1 _ rfl; (with_reducible repeat (first | refine blk_drewN ?_ _ | refine blk_drew ?_ | refine blk_alloc ?_ _)); refine blk_put (cs := #[.int .i64 0, .int .i64 0]) ?_ 0 _ rfl; exact bs BK267.out) Try.underlying38 rfl (by kernel_rfl)) rfl ?_
 exact ⟨by first | rfl | (simp [errW_none, errW_some] <;> rfl) | (simp [*, errW_none, errW_some] <;> rfl), by repeat (first | (with_reducible first | exact bw HB.out | refine bset ?_ | apply bA | apply bN | apply bD) | exact HB.out)⟩

/-! ### impl_numbersTo: function 49 -/
def impl_numbersTo.l0 : Nat → Int → List Int → Int → Option (List Int)
 | 0, _, _, _ => none
 | k + 1, x0, x3, x4 => if x4 < x0 then (if x3.length < 17592186044416 then (impl_numbersTo.l0 k x0 (x3 ++ [x4]) (wrap64 (x4 + 1))) else (none)) else (some x3)
def impl_numbersTo.f (k : Nat) (a0 : Int) : Option (List Int) := impl_numbersTo.l0 k a0 ([] : List Int) 0
theorem impl_numbersTo.mono_l : ∀ k, (∀ y0 y1 y2, LeO (impl_numbersTo.l0 k y0 y1 y2) (impl_numbersTo.l0 (k + 1) y0 y1 y2))
 | 0 => fun _ _ _ r h => by simp [impl_numbersTo.l0] at h
 | k + 1 => by
  have ih0 := impl_numbersTo.mono_l k
  ·intro y0 y1 y2
   unfold impl_numbersTo.l0
   repeat' first
   | (with_reducible exact ih0 _ _ _)
   | (with_reducible exact LeO.refl _)
   | (with_reducible exact LeO.none _)
   | (with_reducible refine LeO.ite ?_ ?_)
   | (with_reducible refine LeO.bind ?_ (fun _ => ?_))
   | exact ih0 _ _ _
   | exact LeO.none _
   | refine LeO.ite ?_ ?_
   | refine LeO.bind ?_ (fun _ => ?_)
theorem impl_numbersTo.mono : ∀ a0 k, LeO (impl_numbersTo.f k a0) (impl_numbersTo.f (k + 1) a0) := by
 intro a0 k
 have ih0 := impl_numbersTo.mono_l k
 unfold impl_numbersTo.f
 repeat' first
   | (with_reducible exact ih0 _ _ _)
   | (with_reducible exact LeO.refl _)
   | (with_reducible exact LeO.none _)
   | (with_reducible refine LeO.ite ?_ ?_)
   | (with_reducible refine LeO.bind ?_ (fun _ => ?_))
   | exact ih0 _ _ _
   | exact LeO.none _
   | refine LeO.ite ?_ ?_
   | refine LeO.bind ?_ (fun _ => ?_)
set_option maxHeartbeats 8000000 in
set_option maxRecDepth 100000 in
theorem impl_numbersTo.calls (k : Nat) (a0 : Int) (r : List Int) (w : World) (h : impl_numbersTo.f k a0 = some r) :
  Calls Try.prog 49 #[.int .i64 a0] w fun e w' => ∃ v0_ : Value, e = .returned (v0_) ∧ Kd.R (Kd.int .i64) 3 w' w.heap.size (fun _ => True) v0_ r ∧ Below w.heap.size w w' := by
 have HB := Aside0.mk (Below.refl w.heap.size w)
 have H : (impl_numbersTo.l0 k a0 ([] : List Int) 0) = some r := h
 clear h
 have H' := Aside0.mk H
 clear H
 go_enter Try.func49, Try.ntmps49
 go_wp2
 go_loopg [3, 4] k (fun kq v3 v4 w' => ∃ (x3_1 : List Int) (x4_1 : Int), v4 = .int .i64 x4_1 ∧ Aside0 (impl_numbersTo.l0 kq a0 x3_1 x4_1 = some r) ∧ Aside0 (kq ≤ k) ∧ Aside0 (Kd.R (Kd.int .i64) 3 w' w.heap.size (fun _ => True) v3 x3_1) ∧ Aside0 (Below w.heap.size w w'))
 case atStart => exact ⟨(([] : List Int)), (0), (by first | rfl | (simp; done) | (simp [*]; done)), H', ⟨Nat.le_refl _⟩, ⟨by first | exact Kd.R_nil _ _ _ _ _ | exact Kd.N_nil _ _ _ _ _ | exact Kd.V_nil _ _ _ _ _ | exact Kd.Q_nil _ _ _ _ _ | exact Kd.S_nil _ _ _ _ _⟩, ⟨bw HB.out⟩⟩
 case round =>
  clear H'
  obtain ⟨x3_1, x4_1, rfl, HA, HK1, HO_3, HB⟩ := hrel
  cases gk with
  | zero => exact absurd HA.out (by simp [impl_numbersTo.l0])
  | succ k1 =>
   have H := HA.out
   clear HA
   simp only [impl_numbersTo.l0] at H
   by_cases c2 : x4_1 < a0
   rotate_left
   ·rw [if_neg c2] at H
    have c2b0 : decide (x4_1 < a0) = false := decide_eq_false c2
    clear c2
    obtain rfl := Option.some.inj H
    go_wp2
    go_ret
    exact ⟨_, by first | rfl | (simp [errW_none, errW_some] <;> rfl) | (simp [*, errW_none, errW_some] <;> rfl), by (with_reducible repeat (first | apply Kd.R_alloc | apply Kd.R_drewN | apply Kd.R_drew)); exact HO_3.out, bw HB.out⟩
   rw [if_pos c2] at H
   have c2b0 : decide (x4_1 < a0) = true := decide_eq_true c2
   clear c2
   by_cases c3 : x3_1.length < 17592186044416
   rotate_left
   ·rw [if_neg c3] at H
    exact absurd H (by simp)
   rw [if_pos c3] at H
   have LMc3 := Aside0.mk c3
   clear c3
   obtain ⟨y273, hy273⟩ : ∃ y_ : List Int, y_ = (x3_1 ++ [x4_1]) := ⟨_, rfl⟩
   replace H : (impl_numbersTo.l0 k1 a0 y273 (wrap64 (x4_1 + 1))) = some r := by first | (rw [hy273]; with_reducible exact H) | (have H2_ := (Option.bind_some _ _).symm.trans H; rw [hy273]; with_reducible exact H2_) | (have H2_ := (Option.bind_some _ _).symm.trans H; with_reducible exact H2_) | with_reducible exact H | (rw [hy273]; exact H) | exact H
   have Ny273 := Aside0.mk hy273
   clear hy273
   have H' := Aside0.mk H
   clear H
   go_wp2_with (first | ((with_reducible refine gate_builtin (b := .append) (xs := #[.tmp 10, .tmp 12]) rfl ?_); at_builtin; refine Kd.R_append (Kd.int .i64) (w0 := w) w.heap.size rfl (.tmp 10) (.tmp 12) 23 3 (.int .i64 0) 8 rfl Try.underlying23 info3 rfl (by decide) (by omega) u3 x3_1 x4_1 [.int .i64 x4_1] (fun _ => True) (fun _ => False) rfl rfl ?aP (fun _ hk => hk.elim) ?aF ?aO ?aB ?aS ?aL ?_; (case aP => exact rfl); (case aB => exact (bw HB.out)); (case aF => exact (fun _ _ => trivial)); (case aO => exact (bR HO_3.out)); (case aS => exact (below_size (bw HB.out))); (case aL => have := LMc3.out; omega); intro v274 w4 ho hb hg hat; rw [← Ny273.out] at ho; have n0_ := Aside0.mk (hb); have n1_ := Aside0.mk (ho); clear HO_3; replace HB := n0_; have HO275 := n1_; clear n0_ n1_; clear ho hb hg hat))
   go_roundg k1
   case measure => have := HK1.out; omega
   case rel => exact ⟨(y273), (wrap64 (x4_1 + 1)), (by first | rfl | (simp; done) | (simp [*]; done)), H', ⟨by have := HK1.out; omega⟩, ⟨bR HO275.out⟩, ⟨bw HB.out⟩⟩

/-! ### impl_nextOrder: function 50 -/
abbrev q50_0 : Array Bool := ⟨rl_ [14] false⟩
abbrev q50_11 : Array Bool := ⟨rl_ [11, 3] true⟩
abbrev q50_12 : Array Bool := ⟨rl_ [12, 2] true⟩
abbrev q50_19 : Array Bool := ⟨rl_ [9] false⟩
abbrev q50_26 : Array Bool := ⟨rl_ [7, 2] true⟩
abbrev q50_27 : Array Bool := ⟨rl_ [8, 1] true⟩
abbrev q50_29 : Array Bool := ⟨rl_ [16] false⟩
abbrev q50_40 : Array Bool := ⟨rl_ [11, 5] true⟩
abbrev q50_41 : Array Bool := ⟨rl_ [12, 4] true⟩
abbrev q50_43 : Array Bool := ⟨rl_ [14, 2] true⟩
abbrev q50_45 : Array Bool := ⟨rl_ [16] true⟩
mutual
def impl_nextOrder.j1 : Nat → List Int → Int → Option (Bool × List Int)
 | 0, _, _ => none
 | k + 1, x0, x3 => if x3 < 0 then (some (false, x0)) else (impl_nextOrder.l1 k x0 x3 (wrap64 ((x0.length : Int) - 1)))
def impl_nextOrder.l1 : Nat → List Int → Int → Int → Option (Bool × List Int)
 | 0, _, _, _ => none
 | k + 1, x0, x3, x4 => if 0 ≤ x4 then (if x4 < (x0.length : Int) then (if 0 ≤ x3 then (if x3 < (x0.length : Int) then (if (rd x0 x4) < (rd x0 x3) then (impl_nextOrder.l1 k x0 x3 (wrap64 (x4 - 1))) else (impl_nextOrder.l2 k ((x0.set (x3 : Int).toNat (rd x0 x4)).set (x4 : Int).toNat (rd x0 x3)) (wrap64 (x3 + 1)) (wrap64 ((x0.length : Int) - 1)))) else (none)) else (none)) else (none)) else (none)
def impl_nextOrder.l2 : Nat → List Int → Int → Int → Option (Bool × List Int)
 | 0, _, _, _ => none
 | k + 1, x0, x5, x6 => if x5 < x6 then (if 0 ≤ x6 then (if x6 < (x0.length : Int) then (if 0 ≤ x5 then (if x5 < (x0.length : Int) then (impl_nextOrder.l2 k ((x0.set (x5 : Int).toNat (rd x0 x6)).set (x6 : Int).toNat (rd x0 x5)) (wrap64 (x5 + 1)) (wrap64 (x6 - 1))) else (none)) else (none)) else (none)) else (none)) else (some (true, x0))
def impl_nextOrder.l0 : Nat → List Int → Int → Option (Bool × List Int)
 | 0, _, _ => none
 | k + 1, x0, x3 => if x3 ≥ 0 then (if 0 ≤ x3 then (if x3 < (x0.length : Int) then (if 0 ≤ (wrap64 (x3 + 1)) then (if (wrap64 (x3 + 1)) < (x0.length : Int) then (if (rd x0 x3) > (rd x0 (wrap64 (x3 + 1))) then (impl_nextOrder.l0 k x0 (wrap64 (x3 - 1))) else (impl_nextOrder.j1 k x0 x3)) else (none)) else (none)) else (none)) else (none)) else (impl_nextOrder.j1 k x0 x3)
end
def impl_nextOrder.f (k : Nat) (l0 : List Int) : Option (Bool × List Int) := impl_nextOrder.l0 k l0 (wrap64 ((l0.length : Int) - 2))
theorem impl_nextOrder.mono_l : ∀ k, (∀ y0 y1, LeO (impl_nextOrder.j1 k y0 y1) (impl_nextOrder.j1 (k + 1) y0 y1)) ∧ (∀ y0 y1 y2, LeO (impl_nextOrder.l1 k y0 y1 y2) (impl_nextOrder.l1 (k + 1) y0 y1 y2)) ∧ (∀ y0 y1 y2, LeO (impl_nextOrder.l2 k y0 y1 y2) (impl_nextOrder.l2 (k + 1) y0 y1 y2)) ∧ (∀ y0 y1, LeO (impl_nextOrder.l0 k y0 y1) (impl_nextOrder.l0 (k + 1) y0 y1))
 | 0 => ⟨fun _ _ r h => by simp [impl_nextOrder.j1] at h, fun _ _ _ r h => by simp [impl_nextOrder.l1] at h, fun _ _ _ r h => by simp [impl_nextOrder.l2] at h, fun _ _ r h => by simp [impl_nextOrder.l0] at h⟩
 | k + 1 => by
  obtain ⟨ih0, ih1, ih2, ih3⟩ := impl_nextOrder.mono_l k
  refine ⟨?_, ?_, ?_, ?_⟩
  ·intro y0 y1
   unfold impl_nextOrder.j1
   repeat' first
   | (with_reducible exact ih0 _ _)
   | (with_reducible exact ih1 _ _ _)
   | (with_reducible exact ih2 _ _ _)
   | (with_reducible exact ih3 _ _)
   | (with_reducible exact LeO.refl _)
   | (with_reducible exact LeO.none _)
   | (with_reducible refine LeO.ite ?_ ?_)
   | (with_reducible refine LeO.bind ?_ (fun _ => ?_))
   | exact ih0 _ _
   | exact ih1 _ _ _
   | exact ih2 _ _ _
   | exact ih3 _ _
   | exact LeO.none _
   | refine LeO.ite ?_ ?_
   | refine LeO.bind ?_ (fun _ => ?_)
  ·intro y0 y1 y2
   unfold impl_nextOrder.l1
   repeat' first
   | (with_reducible exact ih0 _ _)
   | (with_reducible exact ih1 _ _ _)
   | (with_reducible exact ih2 _ _ _)
   | (with_reducible exact ih3 _ _)
   | (with_reducible exact LeO.refl _)
   | (with_reducible exact LeO.none _)
   | (with_reducible refine LeO.ite ?_ ?_)
   | (with_reducible refine LeO.bind ?_ (fun _ => ?_))
   | exact ih0 _ _
   | exact ih1 _ _ _
   | exact ih2 _ _ _
   | exact ih3 _ _
   | exact LeO.none _
   | refine LeO.ite ?_ ?_
   | refine LeO.bind ?_ (fun _ => ?_)
  ·intro y0 y1 y2
   unfold impl_nextOrder.l2
   repeat' first
   | (with_reducible exact ih0 _ _)
   | (with_reducible exact ih1 _ _ _)
   | (with_reducible exact ih2 _ _ _)
   | (with_reducible exact ih3 _ _)
   | (with_reducible exact LeO.refl _)
   | (with_reducible exact LeO.none _)
   | (with_reducible refine LeO.ite ?_ ?_)
   | (with_reducible refine LeO.bind ?_ (fun _ => ?_))
   | exact ih0 _ _
   | exact ih1 _ _ _
   | exact ih2 _ _ _
   | exact ih3 _ _
   | exact LeO.none _
   | refine LeO.ite ?_ ?_
   | refine LeO.bind ?_ (fun _ => ?_)
  ·intro y0 y1
   unfold impl_nextOrder.l0
   repeat' first
   | (with_reducible exact ih0 _ _)
   | (with_reducible exact ih1 _ _ _)
   | (with_reducible exact ih2 _ _ _)
   | (with_reducible exact ih3 _ _)
   | (with_reducible exact LeO.refl _)
   | (with_reducible exact LeO.none _)
   | (with_reducible refine LeO.ite ?_ ?_)
   | (with_reducible refine LeO.bind ?_ (fun _ => ?_))
   | exact ih0 _ _
   | exact ih1 _ _ _
   | exact ih2 _ _ _
   | exact ih3 _ _
   | exact LeO.none _
   | refine LeO.ite ?_ ?_
   | refine LeO.bind ?_ (fun _ => ?_)
theorem impl_nextOrder.mono : ∀ a0 k, LeO (impl_nextOrder.f k a0) (impl_nextOrder.f (k + 1) a0) := by
 intro a0 k
 obtain ⟨ih0, ih1, ih2, ih3⟩ := impl_nextOrder.mono_l k
 unfold impl_nextOrder.f
 repeat' first
   | (with_reducible exact ih0 _ _)
   | (with_reducible exact ih1 _ _ _)
   | (with_reducible exact ih2 _ _ _)
   | (with_reducible exact ih3 _ _)
   | (with_reducible exact LeO.refl _)
   | (with_reducible exact LeO.none _)
   | (with_reducible refine LeO.ite ?_ ?_)
   | (with_reducible refine LeO.bind ?_ (fun _ => ?_))
   | exact ih0 _ _
   | exact ih1 _ _ _
   | exact ih2 _ _ _
   | exact ih3 _ _
   | exact LeO.none _
   | refine LeO.ite ?_ ?_
   | refine LeO.bind ?_ (fun _ => ?_)
def impl_nextOrder.T2 : Bool × List (List Nat × List Nat) := (true, [([], []), ([0], [0]), ([1], [1]), ([2], [2]), ([2], [2]), ([3, 4, 2], [2, 3, 4]), ([5, 2], [2, 5]), ([2], [2]), ([2], [2]), ([8, 2], [2, 8]), ([7, 9, 2], [2, 7, 9]), ([10, 2], [2, 10]), ([6, 11, 2], [2, 6, 11]), ([2, 12], [2, 12])])
def impl_nextOrder.B2 : List Nat := [0, 1, 3, 7, 7, 31, 63, 7, 7, 263, 903, 1927, 4095, 8191]
theorem impl_nextOrder.tab2 : rtab .any (opsOf Try.f50 2) = impl_nextOrder.T2 := by kernel_rfl
theorem impl_nextOrder.bits2 : waitsOk impl_nextOrder.T2.2 impl_nextOrder.B2 = true := by kernel_rfl
def impl_nextOrder.T7 : Bool × List (List Nat × List Nat) := (true, [([], []), ([], []), ([0, 1], [0, 1]), ([2], [2]), ([], []), ([], []), ([4, 5], [4, 5]), ([6], [6]), ([3, 7], [3, 7])])
def impl_nextOrder.B7 : List Nat := [0, 0, 3, 7, 0, 0, 48, 112, 255]
theorem impl_nextOrder.tab7 : rtab .any (opsOf Try.f50 7) = impl_nextOrder.T7 := by kernel_rfl
theorem impl_nextOrder.bits7 : waitsOk impl_nextOrder.T7.2 impl_nextOrder.B7 = true := by kernel_rfl
def impl_nextOrder.T9 : Bool × List (List Nat × List Nat) := (true, [([], []), ([], []), ([], []), ([], []), ([], []), ([], []), ([4, 5], [4, 5]), ([6], [6]), ([], []), ([], []), ([8, 9], [8, 9]), ([10], [10]), ([0, 1, 0, 1, 4, 5, 6, 7, 11], [0, 1]), ([12, 7, 0, 1, 4, 5, 6, 7, 11], [7, 12]), ([2, 3, 0, 1, 2, 3, 4, 5, 6, 7, 8, 9, 10, 11, 12, 13], [2, 3]), ([14, 11, 13, 0, 1, 2, 3, 4, 5, 6, 7, 8, 9, 10, 11, 12, 13], [11, 14])])
def impl_nextOrder.B9 : List Nat := [0, 0, 0, 0, 0, 0, 48, 112, 0, 0, 768, 1792, 4083, 8179, 16383, 32767]
theorem impl_nextOrder.tab9 : rtab .any (opsOf Try.f50 9) = impl_nextOrder.T9 := by kernel_rfl
theorem impl_nextOrder.bits9 : waitsOk impl_nextOrder.T9.2 impl_nextOrder.B9 = true := by kernel_rfl
def impl_nextOrder.T13 : Bool × List (List Nat × List Nat) := (true, [([], []), ([], []), ([], []), ([], []), ([], []), ([], []), ([4, 5], [4, 5]), ([6], [6]), ([], []), ([], []), ([8, 9], [8, 9]), ([10], [10]), ([0, 1, 0, 1, 4, 5, 6, 7, 11], [0, 1]), ([12, 7, 0, 1, 4, 5, 6, 7, 11], [7, 12]), ([2, 3, 0, 1, 2, 3, 4, 5, 6, 7, 8, 9, 10, 11, 12, 13], [2, 3]), ([14, 11, 13, 0, 1, 2, 3, 4, 5, 6, 7, 8, 9, 10, 11, 12, 13], [11, 14])])
def impl_nextOrder.B13 : List Nat := [0, 0, 0, 0, 0, 0, 48, 112, 0, 0, 768, 1792, 4083, 8179, 16383, 32767]
theorem impl_nextOrder.tab13 : rtab .any (opsOf Try.f50 13) = impl_nextOrder.T13 := by kernel_rfl
theorem impl_nextOrder.bits13 : waitsOk impl_nextOrder.T13.2 impl_nextOrder.B13 = true := by kernel_rfl
set_option maxHeartbeats 8000000 in
set_option maxRecDepth 100000 in
theorem impl_nextOrder.calls (k : Nat) (P0_ : Nat → Prop) (u9000_ : Value) (l0 : List Int) (r1 : Bool) (r2 : List Int) (w0 w : World) (hB : Below w0.heap.size w0 w) (ho0 : Kd.R (Kd.int .i64) 3 w w0.heap.size P0_ u9000_ l0) (h : impl_nextOrder.f k l0 = some (r1, r2)) :
  Calls Try.prog 50 #[u9000_] w fun e w' => e = .returned (.bool r1) ∧ Kd.R (Kd.int .i64) 3 w' w0.heap.size (fun k_ => (P0_ k_ ∨ w.heap.size ≤ k_)) u9000_ r2 ∧ Below w0.heap.size w0 w' ∧ Kept w w' (fun k_ => P0_ k_) := by
 have HO0 := Aside0.mk (show Kd.R (Kd.int .i64) 3 w w0.heap.size (fun k_ => (P0_ k_ ∨ w.heap.size ≤ k_)) u9000_ l0 from Kd.R_mono ho0 (fun k_ hk => (.inl hk)))
 have HK := Aside0.mk (Kept.refl w (fun k_ => P0_ k_))
 have HW0 := Aside0.mk hB.size
 have HB := Aside0.mk hB
 clear hB
 have H : (impl_nextOrder.l0 k l0 (wrap64 ((l0.length : Int) - 2))) = some (r1, r2) := h
 clear h
 have HC2 := Aside0.mk H
 clear H
 obtain ⟨Ao3, co3, eo3⟩ := Kd.R_slice HO0.out
 subst eo3
 go_enter Try.func50, Try.ntmps50
 go_upto_block 0 with (fail)
 go_cut [3] (fun v3 wc => ∃ (kq : Nat) (x3_1 : Int), v3 = .int .i64 x3_1 ∧ Aside0 (impl_nextOrder.j1 kq l0 x3_1 = some (r1, r2)) ∧ Aside0 (kq ≤ k) ∧ Aside0 (Kd.R (Kd.int .i64) 3 wc w0.heap.size (fun k_ => (P0_ k_ ∨ w.heap.size ≤ k_)) (.slice Ao3 l0.length co3) l0) ∧ Aside0 (Kept w wc (fun k_ => P0_ k_)) ∧ Aside0 (Below w0.heap.size w0 wc))
 case first =>
  have H := HC2.out
  clear HC2
  have H' := Aside0.mk H
  clear H
  go_wp2
  go_loopg [3] k (fun kq v3 w' => ∃ (x3_1 : Int), v3 = .int .i64 x3_1 ∧ Aside0 (impl_nextOrder.l0 kq l0 x3_1 = some (r1, r2)) ∧ Aside0 (kq ≤ k) ∧ Aside0 (Kd.R (Kd.int .i64) 3 w' w0.heap.size (fun k_ => (P0_ k_ ∨ w.heap.size ≤ k_)) (.slice Ao3 l0.length co3) l0) ∧ Aside0 (Kept w w' (fun k_ => P0_ k_)) ∧ Aside0 (Below w0.heap.size w0 w'))
  case atStart => exact ⟨(wrap64 ((l0.length : Int) - 2)), (by first | rfl | (simp; done) | (simp [*]; done)), H', ⟨Nat.le_refl _⟩, ⟨bR HO0.out⟩, ⟨by repeat (first | (with_reducible first | exact HK.out | apply Kept.alloc | apply Kept.drewN | apply Kept.drew) | exact HK.out)⟩, ⟨bw HB.out⟩⟩
  case round =>
   clear H'
   try clear p2
   obtain ⟨x3_1, rfl, HA, HK1, HO_0, HK, HB⟩ := hrel
   cases gk with
   | zero => exact absurd HA.out (by simp [impl_nextOrder.l0])
   | succ k1 =>
    have H := HA.out
    clear HA
    simp only [impl_nextOrder.l0] at H
    by_cases c4 : x3_1 ≥ 0
    rotate_left
    ·rw [if_neg c4] at H
     have c4b0 : decide (0 ≤ x3_1) = false := decide_eq_false c4
     clear c4
     (first | rw [c4b0] | (simp only [i64_w, i32_w]; rw [c4b0]) | skip)
     have H' := Aside0.mk H
     clear H
     try go_wp2
     have n0_ := Aside0.mk (Kd.R_drew HO_0.out)
     have n1_ := Aside0.mk (Kept.drew HK.out)
     have n2_ := Aside0.mk (below_drew1 HB.out)
     replace HO_0 := n0_
     replace HK := n1_
     replace HB := n2_
     clear n0_ n1_ n2_
     refine start_ (n := 14) (S := fun w' => True) (ds := []) q50_0 (by kernel_rfl) rfl rfl trivial (fun hHeld => ?_); refine with_tabW impl_nextOrder.tab2 impl_nextOrder.bits2 (fun HT_ HW_ => ?_)
     generalize wr.drew = w13 at HO_0 HK HB hHeld ⊢
     refine pup_ (i := 0) (N := some 10) HT_ rfl rfl (by kernel_rfl) (fun _ _ _ h => h) (Or.inl ⟨by rfl, by intro w'; go_simp; with_reducible rfl⟩) (by simp only [aq_]; rfl) ?_
     refine pup_ (i := 1) (N := some 11) HT_ rfl rfl (by kernel_rfl) (fun _ _ _ h => h) (Or.inl ⟨by rfl, by intro w'; go_simp; with_reducible rfl⟩) (by simp only [aq_]; rfl) ?_
     refine pup_ (i := 2) (N := some 12) HT_ rfl rfl (by kernel_rfl) (fun _ _ _ h => h) (Or.inl ⟨by rfl, by intro w'; go_simp; with_reducible rfl⟩) (by simp only [aq_]; rfl) ?_
     refine skp_ HT_ 3 (some 13) rfl rfl (by kernel_rfl) (fun _ _ _ h => h) (by rfl) (by simp only [aq_]; rfl) ?_
     refine skp_ HT_ 4 (some 14) rfl rfl (by kernel_rfl) (fun _ _ _ h => h) (by rfl) (by simp only [aq_]; rfl) ?_
     refine skp_ HT_ 5 (some 15) rfl rfl (by kernel_rfl) (fun _ _ _ h => h) (by rfl) (by simp only [aq_]; rfl) ?_
     refine skp_ HT_ 6 (some 16) rfl rfl (by kernel_rfl) (fun _ _ _ h => h) (by rfl) (by simp only [aq_]; rfl) ?_
     refine skp_ HT_ 7 (some 17) rfl rfl (by kernel_rfl) (fun _ _ _ h => h) (by rfl) (by simp only [aq_]; rfl) ?_
     refine skp_ HT_ 8 (some 18) rfl rfl (by kernel_rfl) (fun _ _ _ h => h) (by rfl) (by simp only [aq_]; rfl) ?_
     refine skp_ HT_ 9 (some 19) rfl rfl (by kernel_rfl) (fun _ _ _ h => h) (by rfl) (by simp only [aq_]; rfl) ?_
     refine skp_ HT_ 10 (some 20) rfl rfl (by kernel_rfl) (fun _ _ _ h => h) (by rfl) (by simp only [aq_]; rfl) ?_
     refine skp_ HT_ 11 (some 21) rfl rfl (by kernel_rfl) (fun _ _ _ h => h) (by rfl) (by simp only [aq_]; rfl) ?_
     refine skp_ HT_ 12 (some 22) rfl rfl (by kernel_rfl) (fun _ _ _ h => h) (by rfl) (by simp only [aq_]; rfl) ?_
     refine pup_ (i := 13) (N := some 23) HT_ rfl rfl (by kernel_rfl) (fun _ _ _ h => h) (Or.inl ⟨by rfl, by intro w'; go_simp; with_reducible rfl⟩) (by simp only [aq_]; rfl) ?_
     refine done_ (done_of HT_.out (by kernel_rfl)) ?_
     try go_wp2
     go_meet
     case rel => exact ⟨_, (x3_1), (by first | rfl | (simp; done) | (simp [*]; done)), H', ⟨by have := HK1.out; first | omega | exact Nat.le_refl _⟩, ⟨bR HO_0.out⟩, ⟨by repeat (first | (with_reducible first | exact HK.out | apply Kept.alloc | apply Kept.drewN | apply Kept.drew) | exact HK.out)⟩, ⟨bw HB.out⟩⟩
    rw [if_pos c4] at H
    have c4b0 : decide (0 ≤ x3_1) = true := decide_eq_true c4
    clear c4
    (first | rw [c4b0] | (simp only [i64_w, i32_w]; rw [c4b0]) | skip)
    by_cases c5 : 0 ≤ x3_1
    rotate_left
    ·rw [if_neg c5] at H
     exact absurd H (by simp)
    rw [if_pos c5] at H
    have c5b0 : decide (0 ≤ x3_1) = true := decide_eq_true c5
    clear c5
    by_cases c6 : x3_1 < (l0.length : Int)
    rotate_left
    ·rw [if_neg c6] at H
     exact absurd H (by simp)
    rw [if_pos c6] at H
    have c6b0 : decide (x3_1 < (l0.length : Int)) = true := decide_eq_true c6
    clear c6
    obtain ⟨ji7, hji7⟩ : ∃ j_ : Int, (wrap64 (x3_1 + 1)) = j_ := ⟨_, rfl⟩
    replace H : (if 0 ≤ (ji7) then (if (ji7) < (l0.length : Int) then (if (rd l0 x3_1) > (rd l0 (ji7)) then (impl_nextOrder.l0 k1 l0 (wrap64 (x3_1 - 1))) else (impl_nextOrder.j1 k1 l0 x3_1)) else (none)) else (none)) = some (r1, r2) := by first | (rw [hji7] at H; exact H) | (simp only [hji7] at H ⊢; exact H)
    have hji7w : (IntKind.i64.wrap (x3_1 + 1)) = ji7 := (i64_w _).trans hji7
    by_cases c8 : 0 ≤ (ji7)
    rotate_left
    ·rw [if_neg c8] at H
     exact absurd H (by simp)
    rw [if_pos c8] at H
    have c8b0 : decide (0 ≤ (ji7)) = true := decide_eq_true c8
    clear c8
    by_cases c9 : (ji7) < (l0.length : Int)
    rotate_left
    ·rw [if_neg c9] at H
     exact absurd H (by simp)
    rw [if_pos c9] at H
    have c9b0 : decide ((ji7) < (l0.length : Int)) = true := decide_eq_true c9
    clear c9
    by_cases c10 : (rd l0 x3_1) > (rd l0 (ji7))
    rotate_left
    ·rw [if_neg c10] at H
     have c10b0 : decide ((rd l0 (ji7)) < (rd l0 x3_1)) = false := decide_eq_false c10
     clear c10
     have H' := Aside0.mk H
     clear H
     try go_wp2
     have n0_ := Aside0.mk (Kd.R_drew HO_0.out)
     have n1_ := Aside0.mk (Kept.drew HK.out)
     have n2_ := Aside0.mk (below_drew1 HB.out)
     replace HO_0 := n0_
     replace HK := n1_
     replace HB := n2_
     clear n0_ n1_ n2_
     have p276 : 0 ≤ (x3_1 : Int) := of_decide_eq_true (by first | (with_reducible assumption) | assumption)
     have q276 : x3_1 < (l0.length : Int) := of_decide_eq_true (by first | (with_reducible assumption) | assumption)
     obtain ⟨ad276, e276, hx276_0⟩ := Kd.at_int (Kd.R_reads' HO_0.out).2.2 x3_1 p276 q276
     cases e276
     replace p276 := eq_true p276
     replace q276 := eq_true q276
     have p277 : 0 ≤ ((ji7) : Int) := of_decide_eq_true (by first | (with_reducible assumption) | assumption)
     have q277 : (ji7) < (l0.length : Int) := of_decide_eq_true (by first | (with_reducible assumption) | assumption)
     obtain ⟨ad277, e277, hx277_0⟩ := Kd.at_int (Kd.R_reads' HO_0.out).2.2 (ji7) p277 q277
     obtain rfl : ad276 = ad277 := (by injection e277)
     replace p277 := eq_true p277
     replace q277 := eq_true q277
     refine start_ (n := 14) (S := fun w' => w'.cell? (ad276.add (x3_1).toNat) = some (.int .i64 (rd l0 x3_1)) ∧ w'.cell? (ad276.add ((ji7)).toNat) = some (.int .i64 (rd l0 (ji7)))) (ds := []) q50_0 (by kernel_rfl) rfl rfl ⟨hx276_0, hx277_0⟩ (fun hHeld => ?_); refine with_tabW impl_nextOrder.tab2 impl_nextOrder.bits2 (fun HT_ HW_ => ?_)
     generalize wr.drew = w12 at HO_0 HK HB hx276_0 hx277_0 hHeld ⊢
     refine pup_ (i := 0) (N := some 10) HT_ rfl rfl (by kernel_rfl) (fun _ _ _ h => h) (Or.inl ⟨by rfl, by intro w'; go_simp; with_reducible rfl⟩) (by simp only [aq_]; rfl) ?_
     refine pup_ (i := 1) (N := some 11) HT_ rfl rfl (by kernel_rfl) (fun _ _ _ h => h) (Or.inl ⟨by rfl, by intro w'; go_simp; with_reducible rfl⟩) (by simp only [aq_]; rfl) ?_
     refine pup_ (i := 2) (N := some 12) HT_ rfl rfl (by kernel_rfl) (fun _ _ _ h => h) (Or.inl ⟨by rfl, by intro w'; go_simp; with_reducible rfl⟩) (by simp only [aq_]; rfl) ?_
     refine pup_ (i := 3) (N := some 13) HT_ rfl rfl (by kernel_rfl) (fun _ _ _ h => h) (Or.inl ⟨by rfl, by intro w'; go_simp; with_reducible rfl⟩) (by simp only [aq_]; rfl) ?_
     refine pup_ (i := 4) (N := some 14) HT_ rfl rfl (by kernel_rfl) (fun _ _ _ h => h) (Or.inl ⟨by rfl, by intro w'; go_simp; with_reducible rfl⟩) (by simp only [aq_]; rfl) ?_
     refine pup_ (i := 5) (N := some 15) HT_ rfl rfl (by kernel_rfl) (fun _ _ _ h => h) (Or.inl ⟨by rfl, by intro w'; go_simp; with_reducible rfl⟩) (by simp only [aq_]; rfl) ?_
     refine pup_ (i := 7) (N := some 17) HT_ rfl rfl (by kernel_rfl) (fun _ _ _ h => h) (Or.inl ⟨by rfl, by intro w'; go_simp; with_reducible rfl⟩) (by simp only [aq_]; rfl) ?_
     refine pup_ (i := 8) (N := some 18) HT_ rfl rfl (by kernel_rfl) (fun _ _ _ h => h) (Or.inl ⟨by rfl, by intro w'; go_simp; with_reducible rfl⟩) (by simp only [aq_]; rfl) ?_
     refine pup_ (i := 9) (N := some 19) HT_ rfl rfl (by kernel_rfl) (fun _ _ _ h => h) (Or.inl ⟨by rfl, by intro w'; go_simp; with_reducible rfl⟩) (by simp only [aq_]; rfl) ?_
     refine pup_ (i := 10) (N := some 20) HT_ rfl rfl (by kernel_rfl) (fun _ _ _ h => h) (Or.inl ⟨by rfl, by intro w'; go_simp; with_reducible rfl⟩) (by simp only [aq_]; rfl) ?_
     refine take_ (i := 6) (N := some 16) (v := ?_) (a' := ?_) q50_11 rfl rfl (take_ofW HT_.out HW_.out (by kernel_rfl)) (fun _ _ _ h => h) (Or.inl ⟨by rfl, ?_⟩) hHeld ?_ ?_
     rotate_left
     ·rintro w' ⟨s0, s1⟩
      go_simp
      with_reducible rfl
     rotate_left
     ·simp only [aq_]
      rfl
     refine take_ (i := 11) (N := some 21) (v := ?_) (a' := ?_) q50_12 rfl rfl (take_ofW HT_.out HW_.out (by kernel_rfl)) (fun _ _ _ h => h) (Or.inl ⟨by rfl, ?_⟩) hHeld ?_ ?_
     rotate_left
     ·rintro w' ⟨s0, s1⟩
      go_simp
      with_reducible rfl
     rotate_left
     ·simp only [aq_]
      rfl
     refine pup_ (i := 12) (N := some 22) HT_ rfl rfl (by kernel_rfl) (fun _ _ _ h => h) (Or.inl ⟨by rfl, by intro w'; go_simp; with_reducible rfl⟩) (by simp only [aq_]; rfl) ?_
     refine pup_ (i := 13) (N := some 23) HT_ rfl rfl (by kernel_rfl) (fun _ _ _ h => h) (Or.inl ⟨by rfl, by intro w'; go_simp; with_reducible rfl⟩) (by simp only [aq_]; rfl) ?_
     refine done_ (done_of HT_.out (by kernel_rfl)) ?_
     try go_wp2
     go_meet
     case rel => exact ⟨_, (x3_1), (by first | rfl | (simp; done) | (simp [*]; done)), H', ⟨by have := HK1.out; first | omega | exact Nat.le_refl _⟩, ⟨bR HO_0.out⟩, ⟨by repeat (first | (with_reducible first | exact HK.out | apply Kept.alloc | apply Kept.drewN | apply Kept.drew) | exact HK.out)⟩, ⟨bw HB.out⟩⟩
    rw [if_pos c10] at H
    have c10b0 : decide ((rd l0 (ji7)) < (rd l0 x3_1)) = true := decide_eq_true c10
    clear c10
    have H' := Aside0.mk H
    clear H
    try go_wp2
    have n0_ := Aside0.mk (Kd.R_drew HO_0.out)
    have n1_ := Aside0.mk (Kept.drew HK.out)
    have n2_ := Aside0.mk (below_drew1 HB.out)
    replace HO_0 := n0_
    replace HK := n1_
    replace HB := n2_
    clear n0_ n1_ n2_
    have p276 : 0 ≤ (x3_1 : Int) := of_decide_eq_true (by first | (with_reducible assumption) | assumption)
    have q276 : x3_1 < (l0.length : Int) := of_decide_eq_true (by first | (with_reducible assumption) | assumption)
    obtain ⟨ad276, e276, hx276_0⟩ := Kd.at_int (Kd.R_reads' HO_0.out).2.2 x3_1 p276 q276
    cases e276
    replace p276 := eq_true p276
    replace q276 := eq_true q276
    have p277 : 0 ≤ ((ji7) : Int) := of_decide_eq_true (by first | (with_reducible assumption) | assumption)
    have q277 : (ji7) < (l0.length : Int) := of_decide_eq_true (by first | (with_reducible assumption) | assumption)
    obtain ⟨ad277, e277, hx277_0⟩ := Kd.at_int (Kd.R_reads' HO_0.out).2.2 (ji7) p277 q277
    obtain rfl : ad276 = ad277 := (by injection e277)
    replace p277 := eq_true p277
    replace q277 := eq_true q277
    refine start_ (n := 14) (S := fun w' => w'.cell? (ad276.add (x3_1).toNat) = some (.int .i64 (rd l0 x3_1)) ∧ w'.cell? (ad276.add ((ji7)).toNat) = some (.int .i64 (rd l0 (ji7)))) (ds := []) q50_0 (by kernel_rfl) rfl rfl ⟨hx276_0, hx277_0⟩ (fun hHeld => ?_); refine with_tabW impl_nextOrder.tab2 impl_nextOrder.bits2 (fun HT_ HW_ => ?_)
    generalize wr.drew = w11 at HO_0 HK HB hx276_0 hx277_0 hHeld ⊢
    refine pup_ (i := 0) (N := some 10) HT_ rfl rfl (by kernel_rfl) (fun _ _ _ h => h) (Or.inl ⟨by rfl, by intro w'; go_simp; with_reducible rfl⟩) (by simp only [aq_]; rfl) ?_
    refine pup_ (i := 1) (N := some 11) HT_ rfl rfl (by kernel_rfl) (fun _ _ _ h => h) (Or.inl ⟨by rfl, by intro w'; go_simp; with_reducible rfl⟩) (by simp only [aq_]; rfl) ?_
    refine pup_ (i := 2) (N := some 12) HT_ rfl rfl (by kernel_rfl) (fun _ _ _ h => h) (Or.inl ⟨by rfl, by intro w'; go_simp; with_reducible rfl⟩) (by simp only [aq_]; rfl) ?_
    refine pup_ (i := 3) (N := some 13) HT_ rfl rfl (by kernel_rfl) (fun _ _ _ h => h) (Or.inl ⟨by rfl, by intro w'; go_simp; with_reducible rfl⟩) (by simp only [aq_]; rfl) ?_
    refine pup_ (i := 4) (N := some 14) HT_ rfl rfl (by kernel_rfl) (fun _ _ _ h => h) (Or.inl ⟨by rfl, by intro w'; go_simp; with_reducible rfl⟩) (by simp only [aq_]; rfl) ?_
    refine pup_ (i := 5) (N := some 15) HT_ rfl rfl (by kernel_rfl) (fun _ _ _ h => h) (Or.inl ⟨by rfl, by intro w'; go_simp; with_reducible rfl⟩) (by simp only [aq_]; rfl) ?_
    refine pup_ (i := 7) (N := some 17) HT_ rfl rfl (by kernel_rfl) (fun _ _ _ h => h) (Or.inl ⟨by rfl, by intro w'; go_simp; with_reducible rfl⟩) (by simp only [aq_]; rfl) ?_
    refine pup_ (i := 8) (N := some 18) HT_ rfl rfl (by kernel_rfl) (fun _ _ _ h => h) (Or.inl ⟨by rfl, by intro w'; go_simp; with_reducible rfl⟩) (by simp only [aq_]; rfl) ?_
    refine pup_ (i := 9) (N := some 19) HT_ rfl rfl (by kernel_rfl) (fun _ _ _ h => h) (Or.inl ⟨by rfl, by intro w'; go_simp; with_reducible rfl⟩) (by simp only [aq_]; rfl) ?_
    refine pup_ (i := 10) (N := some 20) HT_ rfl rfl (by kernel_rfl) (fun _ _ _ h => h) (Or.inl ⟨by rfl, by intro w'; go_simp; with_reducible rfl⟩) (by simp only [aq_]; rfl) ?_
    refine take_ (i := 6) (N := some 16) (v := ?_) (a' := ?_) q50_11 rfl rfl (take_ofW HT_.out HW_.out (by kernel_rfl)) (fun _ _ _ h => h) (Or.inl ⟨by rfl, ?_⟩) hHeld ?_ ?_
    rotate_left
    ·rintro w' ⟨s0, s1⟩
     go_simp
     with_reducible rfl
    rotate_left
    ·simp only [aq_]
     rfl
    refine take_ (i := 11) (N := some 21) (v := ?_) (a' := ?_) q50_12 rfl rfl (take_ofW HT_.out HW_.out (by kernel_rfl)) (fun _ _ _ h => h) (Or.inl ⟨by rfl, ?_⟩) hHeld ?_ ?_
    rotate_left
    ·rintro w' ⟨s0, s1⟩
     go_simp
     with_reducible rfl
    rotate_left
    ·simp only [aq_]
     rfl
    refine pup_ (i := 12) (N := some 22) HT_ rfl rfl (by kernel_rfl) (fun _ _ _ h => h) (Or.inl ⟨by rfl, by intro w'; go_simp; with_reducible rfl⟩) (by simp only [aq_]; rfl) ?_
    refine pup_ (i := 13) (N := some 23) HT_ rfl rfl (by kernel_rfl) (fun _ _ _ h => h) (Or.inl ⟨by rfl, by intro w'; go_simp; with_reducible rfl⟩) (by simp only [aq_]; rfl) ?_
    refine done_ (done_of HT_.out (by kernel_rfl)) ?_
    try go_wp2
    go_roundg k1
    case measure => have := HK1.out; omega
    case rel => exact ⟨(wrap64 (x3_1 - 1)), (by first | rfl | (simp; done) | (simp [*]; done)), H', ⟨by have := HK1.out; omega⟩, ⟨bR HO_0.out⟩, ⟨by repeat (first | (with_reducible first | exact HK.out | apply Kept.alloc | apply Kept.drewN | apply Kept.drew) | exact HK.out)⟩, ⟨bw HB.out⟩⟩
 case rest =>
  clear HC2
  try clear c1
  try clear p2
  try clear q2
  try clear hx2
  try clear c4
  try clear c4b0
  try clear c5
  try clear c5b0
  try clear c6
  try clear c6b0
  try clear p6
  try clear c8
  try clear c8b0
  try clear c9
  try clear c9b0
  try clear c10
  try clear c10b0
  try clear hx276_0
  try clear hx277_0
  try clear p2
  try clear p276
  try clear p277
  try clear q276
  try clear q277
  obtain ⟨kq, x3_1, rfl, HA, HJ1, HO_0, HK, HB⟩ := hcut
  cases kq with
  | zero => exact absurd HA.out (by simp [impl_nextOrder.j1])
  | succ kj1 =>
   have H := HA.out
   clear HA
   simp only [impl_nextOrder.j1] at H
   by_cases c14 : x3_1 < 0
   ·rw [if_pos c14] at H
    have c14b0 : decide (x3_1 < 0) = true := decide_eq_true c14
    clear c14
    simp only [Option.some.injEq, Prod.mk.injEq] at H
    obtain ⟨rfl, rfl⟩ := H
    go_wp2
    go_ret
    exact ⟨by first | rfl | (simp [errW_none, errW_some] <;> rfl) | (simp [*, errW_none, errW_some] <;> rfl), by (with_reducible repeat (first | apply Kd.R_alloc | apply Kd.R_drewN | apply Kd.R_drew)); exact HO_0.out, bw HB.out, by repeat (first | (with_reducible first | exact HK.out | apply Kept.alloc | apply Kept.drewN | apply Kept.drew) | exact HK.out)⟩
   rw [if_neg c14] at H
   have c14b0 : decide (x3_1 < 0) = false := decide_eq_false c14
   clear c14
   have H' := Aside0.mk H
   clear H
   go_wp2
   go_loopg [4] kj1 (fun kq v4 w' => ∃ (x4_2 : Int), v4 = .int .i64 x4_2 ∧ Aside0 (impl_nextOrder.l1 kq l0 x3_1 x4_2 = some (r1, r2)) ∧ Aside0 (kq ≤ kj1) ∧ Aside0 (Kd.R (Kd.int .i64) 3 w' w0.heap.size (fun k_ => (P0_ k_ ∨ w.heap.size ≤ k_)) (.slice Ao3 l0.length co3) l0) ∧ Aside0 (Kept w w' (fun k_ => P0_ k_)) ∧ Aside0 (Below w0.heap.size w0 w'))
   case atStart => exact ⟨(wrap64 ((l0.length : Int) - 1)), (by first | rfl | (simp; done) | (simp [*]; done)), H', ⟨Nat.le_refl _⟩, ⟨bR HO_0.out⟩, ⟨by repeat (first | (with_reducible first | exact HK.out | apply Kept.alloc | apply Kept.drewN | apply Kept.drew) | exact HK.out)⟩, ⟨bw HB.out⟩⟩
   case round =>
    clear H'
    try clear c1
    try clear p2
    try clear q2
    try clear hx2
    try clear c4
    try clear c4b0
    try clear c5
    try clear c5b0
    try clear c6
    try clear c6b0
    try clear p6
    try clear c8
    try clear c8b0
    try clear c9
    try clear c9b0
    try clear c10
    try clear c10b0
    try clear c14
    try clear c14b0
    try clear hx276_0
    try clear hx277_0
    try clear p2
    try clear p276
    try clear p277
    try clear p6
    try clear q2
    try clear q276
    try clear q277
    obtain ⟨x4_2, rfl, HA, HK2, HO_0, HK, HB⟩ := hrel
    cases gk with
    | zero => exact absurd HA.out (by simp [impl_nextOrder.l1])
    | succ k2 =>
     have H := HA.out
     clear HA
     simp only [impl_nextOrder.l1] at H
     by_cases c15 : 0 ≤ x4_2
     rotate_left
     ·rw [if_neg c15] at H
      exact absurd H (by simp)
     rw [if_pos c15] at H
     have c15b0 : decide (0 ≤ x4_2) = true := decide_eq_true c15
     clear c15
     by_cases c16 : x4_2 < (l0.length : Int)
     rotate_left
     ·rw [if_neg c16] at H
      exact absurd H (by simp)
     rw [if_pos c16] at H
     have c16b0 : decide (x4_2 < (l0.length : Int)) = true := decide_eq_true c16
     clear c16
     by_cases c17 : 0 ≤ x3_1
     rotate_left
     ·rw [if_neg c17] at H
      exact absurd H (by simp)
     rw [if_pos c17] at H
     have c17b0 : decide (0 ≤ x3_1) = true := decide_eq_true c17
     clear c17
     by_cases c18 : x3_1 < (l0.length : Int)
     rotate_left
     ·rw [if_neg c18] at H
      exact absurd H (by simp)
     rw [if_pos c18] at H
     have c18b0 : decide (x3_1 < (l0.length : Int)) = true := decide_eq_true c18
     clear c18
     by_cases c19 : (rd l0 x4_2) < (rd l0 x3_1)
     ·rw [if_pos c19] at H
      have c19b0 : decide ((rd l0 x4_2) < (rd l0 x3_1)) = true := decide_eq_true c19
      clear c19
      have H' := Aside0.mk H
      clear H
      try go_wp2
      have n0_ := Aside0.mk (Kd.R_drew HO_0.out)
      have n1_ := Aside0.mk (Kept.drew HK.out)
      have n2_ := Aside0.mk (below_drew1 HB.out)
      replace HO_0 := n0_
      replace HK := n1_
      replace HB := n2_
      clear n0_ n1_ n2_
      have p278 : 0 ≤ (x4_2 : Int) := of_decide_eq_true (by first | (with_reducible assumption) | assumption)
      have q278 : x4_2 < (l0.length : Int) := of_decide_eq_true (by first | (with_reducible assumption) | assumption)
      obtain ⟨ad278, e278, hx278_0⟩ := Kd.at_int (Kd.R_reads' HO_0.out).2.2 x4_2 p278 q278
      cases e278
      replace p278 := eq_true p278
      replace q278 := eq_true q278
      have p279 : 0 ≤ (x3_1 : Int) := of_decide_eq_true (by first | (with_reducible assumption) | assumption)
      have q279 : x3_1 < (l0.length : Int) := of_decide_eq_true (by first | (with_reducible assumption) | assumption)
      obtain ⟨ad279, e279, hx279_0⟩ := Kd.at_int (Kd.R_reads' HO_0.out).2.2 x3_1 p279 q279
      obtain rfl : ad278 = ad279 := (by injection e279)
      replace p279 := eq_true p279
      replace q279 := eq_true q279
      refine start_ (n := 9) (S := fun w' => w'.cell? (ad278.add (x4_2).toNat) = some (.int .i64 (rd l0 x4_2)) ∧ w'.cell? (ad278.add (x3_1).toNat) = some (.int .i64 (rd l0 x3_1))) (ds := []) q50_19 (by kernel_rfl) rfl rfl ⟨hx278_0, hx279_0⟩ (fun hHeld => ?_); refine with_tabW impl_nextOrder.tab7 impl_nextOrder.bits7 (fun HT_ HW_ => ?_)
      generalize wr.drew = w20 at HO_0 HK HB hx278_0 hx279_0 hHeld ⊢
      refine pup_ (i := 0) (N := some 31) HT_ rfl rfl (by kernel_rfl) (fun _ _ _ h => h) (Or.inl ⟨by rfl, by intro w'; go_simp; with_reducible rfl⟩) (by simp only [aq_]; rfl) ?_
      refine pup_ (i := 1) (N := some 32) HT_ rfl rfl (by kernel_rfl) (fun _ _ _ h => h) (Or.inl ⟨by rfl, by intro w'; go_simp; with_reducible rfl⟩) (by simp only [aq_]; rfl) ?_
      refine pup_ (i := 2) (N := some 33) HT_ rfl rfl (by kernel_rfl) (fun _ _ _ h => h) (Or.inl ⟨by rfl, by intro w'; go_simp; with_reducible rfl⟩) (by simp only [aq_]; rfl) ?_
      refine pup_ (i := 4) (N := some 35) HT_ rfl rfl (by kernel_rfl) (fun _ _ _ h => h) (Or.inl ⟨by rfl, by intro w'; go_simp; with_reducible rfl⟩) (by simp only [aq_]; rfl) ?_
      refine pup_ (i := 5) (N := some 36) HT_ rfl rfl (by kernel_rfl) (fun _ _ _ h => h) (Or.inl ⟨by rfl, by intro w'; go_simp; with_reducible rfl⟩) (by simp only [aq_]; rfl) ?_
      refine pup_ (i := 6) (N := some 37) HT_ rfl rfl (by kernel_rfl) (fun _ _ _ h => h) (Or.inl ⟨by rfl, by intro w'; go_simp; with_reducible rfl⟩) (by simp only [aq_]; rfl) ?_
      refine take_ (i := 3) (N := some 34) (v := ?_) (a' := ?_) q50_26 rfl rfl (take_ofW HT_.out HW_.out (by kernel_rfl)) (fun _ _ _ h => h) (Or.inl ⟨by rfl, ?_⟩) hHeld ?_ ?_
      rotate_left
      ·rintro w' ⟨s0, s1⟩
       go_simp
       with_reducible rfl
      rotate_left
      ·simp only [aq_]
       rfl
      refine take_ (i := 7) (N := some 38) (v := ?_) (a' := ?_) q50_27 rfl rfl (take_ofW HT_.out HW_.out (by kernel_rfl)) (fun _ _ _ h => h) (Or.inl ⟨by rfl, ?_⟩) hHeld ?_ ?_
      rotate_left
      ·rintro w' ⟨s0, s1⟩
       go_simp
       with_reducible rfl
      rotate_left
      ·simp only [aq_]
       rfl
      refine pup_ (i := 8) (N := some 39) HT_ rfl rfl (by kernel_rfl) (fun _ _ _ h => h) (Or.inl ⟨by rfl, by intro w'; go_simp; with_reducible rfl⟩) (by simp only [aq_]; rfl) ?_
      refine done_ (done_of HT_.out (by kernel_rfl)) ?_
      try go_wp2
      go_roundg k2
      case measure => have := HJ1.out; have := HK2.out; omega
      case rel => exact ⟨(wrap64 (x4_2 - 1)), (by first | rfl | (simp; done) | (simp [*]; done)), H', ⟨by have := HJ1.out; have := HK2.out; omega⟩, ⟨bR HO_0.out⟩, ⟨by repeat (first | (with_reducible first | exact HK.out | apply Kept.alloc | apply Kept.drewN | apply Kept.drew) | exact HK.out)⟩, ⟨bw HB.out⟩⟩
     rw [if_neg c19] at H
     have c19b0 : decide ((rd l0 x4_2) < (rd l0 x3_1)) = false := decide_eq_false c19
     clear c19
     obtain ⟨y282, hy282⟩ : ∃ y_ : List Int, y_ = (l0.set (x3_1 : Int).toNat (rd l0 x4_2)) := ⟨_, rfl⟩
     replace H : (impl_nextOrder.l2 k2 (y282.set (x4_2 : Int).toNat (rd l0 x3_1)) (wrap64 (x3_1 + 1)) (wrap64 ((l0.length : Int) - 1))) = some (r1, r2) := by first | (rw [hy282]; with_reducible exact H) | (have H2_ := (Option.bind_some _ _).symm.trans H; rw [hy282]; with_reducible exact H2_) | (have H2_ := (Option.bind_some _ _).symm.trans H; with_reducible exact H2_) | with_reducible exact H | (rw [hy282]; exact H) | exact H
     have Ny282 := Aside0.mk hy282
     clear hy282
     obtain ⟨y283, hy283⟩ : ∃ y_ : List Int, y_ = (y282.set (x4_2 : Int).toNat (rd l0 x3_1)) := ⟨_, rfl⟩
     replace H : (impl_nextOrder.l2 k2 y283 (wrap64 (x3_1 + 1)) (wrap64 ((l0.length : Int) - 1))) = some (r1, r2) := by first | (rw [hy283]; with_reducible exact H) | (have H2_ := (Option.bind_some _ _).symm.trans H; rw [hy283]; with_reducible exact H2_) | (have H2_ := (Option.bind_some _ _).symm.trans H; with_reducible exact H2_) | with_reducible exact H | (rw [hy283]; exact H) | exact H
     have Ny283 := Aside0.mk hy283
     clear hy283
     have H' := Aside0.mk H
     clear H
     try go_wp2
     have n0_ := Aside0.mk (Kd.R_drew HO_0.out)
     have n1_ := Aside0.mk (Kept.drew HK.out)
     have n2_ := Aside0.mk (below_drew1 HB.out)
     replace HO_0 := n0_
     replace HK := n1_
     replace HB := n2_
     clear n0_ n1_ n2_
     have p278 : 0 ≤ (x4_2 : Int) := of_decide_eq_true (by first | (with_reducible assumption) | assumption)
     have q278 : x4_2 < (l0.length : Int) := of_decide_eq_true (by first | (with_reducible assumption) | assumption)
     obtain ⟨ad278, e278, hx278_0⟩ := Kd.at_int (Kd.R_reads' HO_0.out).2.2 x4_2 p278 q278
     cases e278
     replace p278 := eq_true p278
     replace q278 := eq_true q278
     have p279 : 0 ≤ (x3_1 : Int) := of_decide_eq_true (by first | (with_reducible assumption) | assumption)
     have q279 : x3_1 < (l0.length : Int) := of_decide_eq_true (by first | (with_reducible assumption) | assumption)
     obtain ⟨ad279, e279, hx279_0⟩ := Kd.at_int (Kd.R_reads' HO_0.out).2.2 x3_1 p279 q279
     obtain rfl : ad278 = ad279 := (by injection e279)
     replace p279 := eq_true p279
     replace q279 := eq_true q279
     refine start_ (n := 9) (S := fun w' => w'.cell? (ad278.add (x4_2).toNat) = some (.int .i64 (rd l0 x4_2)) ∧ w'.cell? (ad278.add (x3_1).toNat) = some (.int .i64 (rd l0 x3_1))) (ds := []) q50_19 (by kernel_rfl) rfl rfl ⟨hx278_0, hx279_0⟩ (fun hHeld => ?_); refine with_tabW impl_nextOrder.tab7 impl_nextOrder.bits7 (fun HT_ HW_ => ?_)
     generalize wr.drew = w23 at HO_0 HK HB hx278_0 hx279_0 hHeld ⊢
     refine pup_ (i := 0) (N := some 31) HT_ rfl rfl (by kernel_rfl) (fun _ _ _ h => h) (Or.inl ⟨by rfl, by intro w'; go_simp; with_reducible rfl⟩) (by simp only [aq_]; rfl) ?_
     refine pup_ (i := 1) (N := some 32) HT_ rfl rfl (by kernel_rfl) (fun _ _ _ h => h) (Or.inl ⟨by rfl, by intro w'; go_simp; with_reducible rfl⟩) (by simp only [aq_]; rfl) ?_
     refine pup_ (i := 2) (N := some 33) HT_ rfl rfl (by kernel_rfl) (fun _ _ _ h => h) (Or.inl ⟨by rfl, by intro w'; go_simp; with_reducible rfl⟩) (by simp only [aq_]; rfl) ?_
     refine pup_ (i := 4) (N := some 35) HT_ rfl rfl (by kernel_rfl) (fun _ _ _ h => h) (Or.inl ⟨by rfl, by intro w'; go_simp; with_reducible rfl⟩) (by simp only [aq_]; rfl) ?_
     refine pup_ (i := 5) (N := some 36) HT_ rfl rfl (by kernel_rfl) (fun _ _ _ h => h) (Or.inl ⟨by rfl, by intro w'; go_simp; with_reducible rfl⟩) (by simp only [aq_]; rfl) ?_
     refine pup_ (i := 6) (N := some 37) HT_ rfl rfl (by kernel_rfl) (fun _ _ _ h => h) (Or.inl ⟨by rfl, by intro w'; go_simp; with_reducible rfl⟩) (by simp only [aq_]; rfl) ?_
     refine take_ (i := 3) (N := some 34) (v := ?_) (a' := ?_) q50_26 rfl rfl (take_ofW HT_.out HW_.out (by kernel_rfl)) (fun _ _ _ h => h) (Or.inl ⟨by rfl, ?_⟩) hHeld ?_ ?_
     rotate_left
     ·rintro w' ⟨s0, s1⟩
      go_simp
      with_reducible rfl
     rotate_left
     ·simp only [aq_]
      rfl
     refine take_ (i := 7) (N := some 38) (v := ?_) (a' := ?_) q50_27 rfl rfl (take_ofW HT_.out HW_.out (by kernel_rfl)) (fun _ _ _ h => h) (Or.inl ⟨by rfl, ?_⟩) hHeld ?_ ?_
     rotate_left
     ·rintro w' ⟨s0, s1⟩
      go_simp
      with_reducible rfl
     rotate_left
     ·simp only [aq_]
      rfl
     refine pup_ (i := 8) (N := some 39) HT_ rfl rfl (by kernel_rfl) (fun _ _ _ h => h) (Or.inl ⟨by rfl, by intro w'; go_simp; with_reducible rfl⟩) (by simp only [aq_]; rfl) ?_
     refine done_ (done_of HT_.out (by kernel_rfl)) ?_
     try go_wp2
     have n0_ := Aside0.mk (Kd.R_drew HO_0.out)
     have n1_ := Aside0.mk (Kept.drew HK.out)
     have n2_ := Aside0.mk (below_drew1 HB.out)
     replace HO_0 := n0_
     replace HK := n1_
     replace HB := n2_
     clear n0_ n1_ n2_
     have p280 : 0 ≤ (x4_2 : Int) := of_decide_eq_true (by first | (with_reducible assumption) | assumption)
     have q280 : x4_2 < (l0.length : Int) := of_decide_eq_true (by first | (with_reducible assumption) | assumption)
     obtain ⟨ad280, e280, hx280_0⟩ := Kd.at_int (Kd.R_reads' HO_0.out).2.2 x4_2 p280 q280
     obtain rfl : ad278 = ad280 := (by injection e280)
     replace p280 := eq_true p280
     replace q280 := eq_true q280
     have p281 : 0 ≤ (x3_1 : Int) := of_decide_eq_true (by first | (with_reducible assumption) | assumption)
     have q281 : x3_1 < (l0.length : Int) := of_decide_eq_true (by first | (with_reducible assumption) | assumption)
     obtain ⟨ad281, e281, hx281_0⟩ := Kd.at_int (Kd.R_reads' HO_0.out).2.2 x3_1 p281 q281
     obtain rfl : ad278 = ad281 := (by injection e281)
     replace p281 := eq_true p281
     replace q281 := eq_true q281
     have p21 : 0 ≤ (x3_1 : Int) := of_decide_eq_true (by first | (with_reducible assumption) | assumption)
     have q21 : (x3_1 : Int) < ((l0.length : Int) : Int) := of_decide_eq_true (by first | (with_reducible assumption) | assumption)
     obtain ⟨go21, co21, eo21, gb21, gl21, cl21, HG21⟩ := Kd.R_form HO_0.out (by omega)
     (first | cases eo21 | (injection eo21 with ea_ en_ ec_; (first | subst ea_ | (injection ea_ with ea_; subst ea_)); subst ec_; clear en_))
     have GB21 := Aside0.mk gb21
     have GG21 := Aside0.mk HG21
     clear gb21 gl21 HG21
     have HMgo21 := Aside0.mk (show (P0_ go21 ∨ w.heap.size ≤ go21) from (HO_0.out.1 _ rfl))
     (first | simp only [add_plain] at hx278_0 | skip)
     (first | simp only [add_plain] at hx279_0 | skip)
     (first | simp only [add_plain] at hx280_0 | skip)
     (first | simp only [add_plain] at hx281_0 | skip)
     obtain ⟨hx21_0, hf21_0⟩ := Kd.R_celln 0 HO_0.out (x3_1 : Int) p21 q21
     replace p21 := eq_true p21
     replace q21 := eq_true q21
     have HP25 := Kd.R_putn HO_0.out (x3_1 : Int) (rd l0 x4_2)
     rw [← Ny282.out] at HP25
     have HQ25 := Aside0.mk HP25
     clear HP25
     have p22 : 0 ≤ (x4_2 : Int) := of_decide_eq_true (by first | (with_reducible assumption) | assumption)
     have q22 : (x4_2 : Int) < ((l0.length : Int) : Int) := of_decide_eq_true (by first | (with_reducible assumption) | assumption)
     obtain ⟨hx22_0, hf22_0⟩ := Kd.R_celln 0 HQ25.out (x4_2 : Int) p22 q22
     replace p22 := eq_true p22
     replace q22 := eq_true q22
     have HP26 := Kd.R_putn HQ25.out (x4_2 : Int) (rd l0 x3_1)
     rw [← Ny283.out] at HP26
     have HQ26 := Aside0.mk HP26
     clear HP26
     refine start_ (n := 16) (S := fun w' => w'.cell? ⟨go21, (x4_2).toNat, none⟩ = some (.int .i64 (rd l0 x4_2)) ∧ w'.cell? ⟨go21, (x3_1).toNat, none⟩ = some (.int .i64 (rd l0 x3_1))) (ds := [13, 15]) q50_29 (by kernel_rfl) rfl rfl ⟨hx280_0, hx281_0⟩ (fun hHeld => ?_); refine with_tabW impl_nextOrder.tab9 impl_nextOrder.bits9 (fun HT_ HW_ => ?_)
     generalize w23.drew = w24 at HO_0 HK HB GG21 HQ25 HQ26 hf21_0 hf22_0 hx21_0 hx22_0 hx278_0 hx279_0 hx280_0 hx281_0 hHeld ⊢
     refine pup_ (i := 0) (N := some 42) HT_ rfl rfl (by kernel_rfl) (fun _ _ _ h => h) (Or.inl ⟨by rfl, by intro w'; go_simp; with_reducible rfl⟩) (by simp only [aq_]; rfl) ?_
     refine pup_ (i := 1) (N := some 43) HT_ rfl rfl (by kernel_rfl) (fun _ _ _ h => h) (Or.inl ⟨by rfl, by intro w'; go_simp; with_reducible rfl⟩) (by simp only [aq_]; rfl) ?_
     refine pup_ (i := 2) (N := some 44) HT_ rfl rfl (by kernel_rfl) (fun _ _ _ h => h) (Or.inl ⟨by rfl, by intro w'; go_simp; with_reducible rfl⟩) (by simp only [aq_]; rfl) ?_
     refine pup_ (i := 3) (N := some 45) HT_ rfl rfl (by kernel_rfl) (fun _ _ _ h => h) (Or.inl ⟨by rfl, by intro w'; go_simp; with_reducible rfl⟩) (by simp only [aq_]; rfl) ?_
     refine pup_ (i := 4) (N := some 46) HT_ rfl rfl (by kernel_rfl) (fun _ _ _ h => h) (Or.inl ⟨by rfl, by intro w'; go_simp; with_reducible rfl⟩) (by simp only [aq_]; rfl) ?_
     refine pup_ (i := 5) (N := some 47) HT_ rfl rfl (by kernel_rfl) (fun _ _ _ h => h) (Or.inl ⟨by rfl, by intro w'; go_simp; with_reducible rfl⟩) (by simp only [aq_]; rfl) ?_
     refine pup_ (i := 6) (N := some 48) HT_ rfl rfl (by kernel_rfl) (fun _ _ _ h => h) (Or.inl ⟨by rfl, by intro w'; go_simp; with_reducible rfl⟩) (by simp only [aq_]; rfl) ?_
     refine pup_ (i := 8) (N := some 50) HT_ rfl rfl (by kernel_rfl) (fun _ _ _ h => h) (Or.inl ⟨by rfl, by intro w'; go_simp; with_reducible rfl⟩) (by simp only [aq_]; rfl) ?_
     refine pup_ (i := 9) (N := some 51) HT_ rfl rfl (by kernel_rfl) (fun _ _ _ h => h) (Or.inl ⟨by rfl, by intro w'; go_simp; with_reducible rfl⟩) (by simp only [aq_]; rfl) ?_
     refine pup_ (i := 10) (N := some 52) HT_ rfl rfl (by kernel_rfl) (fun _ _ _ h => h) (Or.inl ⟨by rfl, by intro w'; go_simp; with_reducible rfl⟩) (by simp only [aq_]; rfl) ?_
     refine take_ (i := 7) (N := some 49) (v := ?_) (a' := ?_) q50_40 rfl rfl (take_ofW HT_.out HW_.out (by kernel_rfl)) (fun _ _ _ h => h) (Or.inl ⟨by rfl, ?_⟩) hHeld ?_ ?_
     rotate_left
     ·rintro w' ⟨s0, s1⟩
      go_simp
      with_reducible rfl
     rotate_left
     ·simp only [aq_]
      rfl
     refine take_ (i := 11) (N := some 53) (v := ?_) (a' := ?_) q50_41 rfl rfl (take_ofW HT_.out HW_.out (by kernel_rfl)) (fun _ _ _ h => h) (Or.inl ⟨by rfl, ?_⟩) hHeld ?_ ?_
     rotate_left
     ·rintro w' ⟨s0, s1⟩
      go_simp
      with_reducible rfl
     rotate_left
     ·simp only [aq_]
      rfl
     refine pup_ (i := 12) (N := some 54) HT_ rfl rfl (by kernel_rfl) (fun _ _ _ h => h) (Or.inl ⟨by rfl, by intro w'; go_simp; with_reducible rfl⟩) (by simp only [aq_]; rfl) ?_
     refine last_ (i := 13) (N := none) q50_43 rfl rfl (one_of HT_.out (by kernel_rfl)) (by decide) (fun K hK => ?_)
     refine skip_ (w1 := ?_) (by rfl) rfl ?_ ?_
     rotate_left
     ·go_simp
      rfl
     refine hK.out _ _ ?_
     clear hK K
     refine pup_ (i := 14) (N := some 55) HT_ rfl rfl (by kernel_rfl) (fun _ _ _ h => h) (Or.inl ⟨by rfl, by intro w'; go_simp; with_reducible rfl⟩) (by simp only [aq_]; rfl) ?_
     refine last_ (i := 15) (N := none) q50_45 rfl rfl (one_of HT_.out (by kernel_rfl)) (by decide) (fun K hK => ?_)
     refine skip_ (w1 := ?_) (by rfl) rfl ?_ ?_
     rotate_left
     ·go_simp
      rfl
     refine hK.out _ _ ?_
     clear hK K
     refine done_ (done_of HT_.out (by kernel_rfl)) ?_
     try go_wp2
     go_loopg [5, 6] k2 (fun kq v5 v6 w' => ∃ (x0_3 : List Int) (x5_3 : Int) (x6_3 : Int), v5 = .int .i64 x5_3 ∧ v6 = .int .i64 x6_3 ∧ Aside0 (impl_nextOrder.l2 kq x0_3 x5_3 x6_3 = some (r1, r2)) ∧ Aside0 (kq ≤ k2) ∧ Aside0 (Kd.R (Kd.int .i64) 3 w' w0.heap.size (fun k_ => (P0_ k_ ∨ w.heap.size ≤ k_)) (.slice (some ⟨go21, 0, none⟩) l0.length co3) x0_3) ∧ Aside0 (Kept w w' (fun k_ => P0_ k_)) ∧ Aside0 (Below w0.heap.size w0 w'))
     case atStart => exact ⟨(y283), (wrap64 (x3_1 + 1)), (wrap64 ((l0.length : Int) - 1)), (by first | rfl | (simp; done) | (simp [*]; done)), (by first | rfl | (simp; done) | (simp [*]; done)), H', ⟨Nat.le_refl _⟩, ⟨bR HQ26.out⟩, ⟨by repeat (first | (with_reducible first | exact HK.out | apply Kept.alloc | apply Kept.drewN | apply Kept.drew | refine Kept.setCell ?_ HMgo21.out _ | refine Kept.setCell ?_ HMgo21.out _) | exact HK.out)⟩, ⟨by repeat (first | (with_reducible first | exact HB.out | apply below_alloc | apply pw_below_drewN | apply below_drew1 | refine below_set ?_ GB21.out | refine below_set ?_ GB21.out) | exact HB.out)⟩⟩
     case round =>
      clear H'
      try clear c1
      try clear p2
      try clear q2
      try clear hx2
      try clear hf2
      try clear c4
      try clear c4b0
      try clear c5
      try clear c5b0
      try clear c6
      try clear c6b0
      try clear p6
      try clear c8
      try clear c8b0
      try clear c9
      try clear c9b0
      try clear c10
      try clear c10b0
      try clear c14
      try clear c14b0
      try clear c15
      try clear c15b0
      try clear c16
      try clear c16b0
      try clear c17
      try clear c17b0
      try clear c18
      try clear c18b0
      try clear c19
      try clear c19b0
      try clear p21
      try clear q21
      try clear hx21
      try clear hf21
      try clear p22
      try clear q22
      try clear hx22
      try clear hf22
      try clear hx21_0
      try clear hx22_0
      try clear hx276_0
      try clear hx277_0
      try clear hx278_0
      try clear hx279_0
      try clear hx280_0
      try clear hx281_0
      try clear p2
      try clear p21
      try clear p22
      try clear p276
      try clear p277
      try clear p278
      try clear p279
      try clear p280
      try clear p281
      try clear p6
      try clear q2
      try clear q21
      try clear q22
      try clear q276
      try clear q277
      try clear q278
      try clear q279
      try clear q280
      try clear q281
      obtain ⟨x0_3, x5_3, x6_3, rfl, rfl, HA, HK3, HO_0, HK, HB⟩ := hrel
      have hl0_3 := (Kd.R_reads' HO_0.out).1
      rw [hl0_3] at HO_0
      (try simp only [hl0_3])
      cases gk with
      | zero => exact absurd HA.out (by simp [impl_nextOrder.l2])
      | succ k3 =>
       have H := HA.out
       clear HA
       simp only [impl_nextOrder.l2] at H
       by_cases c27 : x5_3 < x6_3
       rotate_left
       ·rw [if_neg c27] at H
        have c27b0 : decide (x5_3 < x6_3) = false := decide_eq_false c27
        clear c27
        simp only [Option.some.injEq, Prod.mk.injEq] at H
        obtain ⟨rfl, rfl⟩ := H
        go_wp2
        go_ret
        exact ⟨by first | rfl | (simp [errW_none, errW_some] <;> rfl) | (simp [*, errW_none, errW_some] <;> rfl), (by first | exact (bR HO_0.out) | (simp only [hl0_3]; exact (bR HO_0.out))), bw HB.out, by repeat (first | (with_reducible first | exact HK.out | apply Kept.alloc | apply Kept.drewN | apply Kept.drew) | exact HK.out)⟩
       rw [if_pos c27] at H
       have c27b0 : decide (x5_3 < x6_3) = true := decide_eq_true c27
       clear c27
       by_cases c28 : 0 ≤ x6_3
       rotate_left
       ·rw [if_neg c28] at H
        exact absurd H (by simp)
       rw [if_pos c28] at H
       have c28b0 : decide (0 ≤ x6_3) = true := decide_eq_true c28
       clear c28
       by_cases c29 : x6_3 < (x0_3.length : Int)
       rotate_left
       ·rw [if_neg c29] at H
        exact absurd H (by simp)
       rw [if_pos c29] at H
       have c29b0 : decide (x6_3 < (x0_3.length : Int)) = true := decide_eq_true c29
       clear c29
       by_cases c30 : 0 ≤ x5_3
       rotate_left
       ·rw [if_neg c30] at H
        exact absurd H (by simp)
       rw [if_pos c30] at H
       have c30b0 : decide (0 ≤ x5_3) = true := decide_eq_true c30
       clear c30
       by_cases c31 : x5_3 < (x0_3.length : Int)
       rotate_left
       ·rw [if_neg c31] at H
        exact absurd H (by simp)
       rw [if_pos c31] at H
       have c31b0 : decide (x5_3 < (x0_3.length : Int)) = true := decide_eq_true c31
       clear c31
       obtain ⟨y286, hy286⟩ : ∃ y_ : List Int, y_ = (x0_3.set (x5_3 : Int).toNat (rd x0_3 x6_3)) := ⟨_, rfl⟩
       replace H : (impl_nextOrder.l2 k3 (y286.set (x6_3 : Int).toNat (rd x0_3 x5_3)) (wrap64 (x5_3 + 1)) (wrap64 (x6_3 - 1))) = some (r1, r2) := by first | (rw [hy286]; with_reducible exact H) | (have H2_ := (Option.bind_some _ _).symm.trans H; rw [hy286]; with_reducible exact H2_) | (have H2_ := (Option.bind_some _ _).symm.trans H; with_reducible exact H2_) | with_reducible exact H | (rw [hy286]; exact H) | exact H
       have Ny286 := Aside0.mk hy286
       clear hy286
       obtain ⟨y287, hy287⟩ : ∃ y_ : List Int, y_ = (y286.set (x6_3 : Int).toNat (rd x0_3 x5_3)) := ⟨_, rfl⟩
       replace H : (impl_nextOrder.l2 k3 y287 (wrap64 (x5_3 + 1)) (wrap64 (x6_3 - 1))) = some (r1, r2) := by first | (rw [hy287]; with_reducible exact H) | (have H2_ := (Option.bind_some _ _).symm.trans H; rw [hy287]; with_reducible exact H2_) | (have H2_ := (Option.bind_some _ _).symm.trans H; with_reducible exact H2_) | with_reducible exact H | (rw [hy287]; exact H) | exact H
       have Ny287 := Aside0.mk hy287
       clear hy287
       have H' := Aside0.mk H
       clear H
       try go_wp2
       have n0_ := Aside0.mk (Kd.R_drew HO_0.out)
       have n1_ := Aside0.mk (Kept.drew HK.out)
       have n2_ := Aside0.mk (below_drew1 HB.out)
       replace HO_0 := n0_
       replace HK := n1_
       replace HB := n2_
       clear n0_ n1_ n2_
       have p284 : 0 ≤ (x6_3 : Int) := of_decide_eq_true (by first | (with_reducible assumption) | assumption)
       have q284 : x6_3 < (x0_3.length : Int) := of_decide_eq_true (by first | (with_reducible assumption) | assumption)
       obtain ⟨ad284, e284, hx284_0⟩ := Kd.at_int (Kd.R_reads' HO_0.out).2.2 x6_3 p284 q284
       obtain rfl : (⟨go21, 0, none⟩ : Addr) = ad284 := (by injection e284)
       (first | simp only [add_plain] at hx284_0 | simp only [add_at] at hx284_0 | simp only [Addr.add, Nat.zero_add] at hx284_0 | skip)
       replace p284 := eq_true p284
       replace q284 := eq_true q284
       have p285 : 0 ≤ (x5_3 : Int) := of_decide_eq_true (by first | (with_reducible assumption) | assumption)
       have q285 : x5_3 < (x0_3.length : Int) := of_decide_eq_true (by first | (with_reducible assumption) | assumption)
       obtain ⟨ad285, e285, hx285_0⟩ := Kd.at_int (Kd.R_reads' HO_0.out).2.2 x5_3 p285 q285
       obtain rfl : (⟨go21, 0, none⟩ : Addr) = ad285 := (by injection e285)
       (first | simp only [add_plain] at hx285_0 | simp only [add_at] at hx285_0 | simp only [Addr.add, Nat.zero_add] at hx285_0 | skip)
       replace p285 := eq_true p285
       replace q285 := eq_true q285
       have p32 : 0 ≤ (x5_3 : Int) := of_decide_eq_true (by first | (with_reducible assumption) | assumption)
       have q32 : (x5_3 : Int) < ((x0_3.length : Int) : Int) := of_decide_eq_true (by first | (with_reducible assumption) | assumption)
       obtain ⟨hx32_0, hf32_0⟩ := Kd.R_celln 0 HO_0.out (x5_3 : Int) p32 q32
       replace p32 := eq_true p32
       replace q32 := eq_true q32
       have HP35 := Kd.R_putn HO_0.out (x5_3 : Int) (rd x0_3 x6_3)
       rw [← Ny286.out] at HP35
       have HQ35 := Aside0.mk HP35
       clear HP35
       have p33 : 0 ≤ (x6_3 : Int) := of_decide_eq_true (by first | (with_reducible assumption) | assumption)
       have q33 : (x6_3 : Int) < ((x0_3.length : Int) : Int) := of_decide_eq_true (by first | (with_reducible assumption) | assumption)
       obtain ⟨hx33_0, hf33_0⟩ := Kd.R_celln 0 HQ35.out (x6_3 : Int) p33 q33
       replace p33 := eq_true p33
       replace q33 := eq_true q33
       have HP36 := Kd.R_putn HQ35.out (x6_3 : Int) (rd x0_3 x5_3)
       rw [← Ny287.out] at HP36
       have HQ36 := Aside0.mk HP36
       clear HP36
       refine start_ (n := 16) (S := fun w' => w'.cell? ⟨go21, (x6_3).toNat, none⟩ = some (.int .i64 (rd x0_3 x6_3)) ∧ w'.cell? ⟨go21, (x5_3).toNat, none⟩ = some (.int .i64 (rd x0_3 x5_3))) (ds := [13, 15]) q50_29 (by kernel_rfl) rfl rfl ⟨hx284_0, hx285_0⟩ (fun hHeld => ?_); refine with_tabW impl_nextOrder.tab13 impl_nextOrder.bits13 (fun HT_ HW_ => ?_)
       generalize wr.drew = w34 at HO_0 HK HB HQ35 HQ36 hf32_0 hf33_0 hx284_0 hx285_0 hx32_0 hx33_0 hHeld ⊢
       refine pup_ (i := 0) (N := some 68) HT_ rfl rfl (by kernel_rfl) (fun _ _ _ h => h) (Or.inl ⟨by rfl, by intro w'; go_simp; with_reducible rfl⟩) (by simp only [aq_]; rfl) ?_
       refine pup_ (i := 1) (N := some 69) HT_ rfl rfl (by kernel_rfl) (fun _ _ _ h => h) (Or.inl ⟨by rfl, by intro w'; go_simp; with_reducible rfl⟩) (by simp only [aq_]; rfl) ?_
       refine pup_ (i := 2) (N := some 70) HT_ rfl rfl (by kernel_rfl) (fun _ _ _ h => h) (Or.inl ⟨by rfl, by intro w'; go_simp; with_reducible rfl⟩) (by simp only [aq_]; rfl) ?_
       refine pup_ (i := 3) (N := some 71) HT_ rfl rfl (by kernel_rfl) (fun _ _ _ h => h) (Or.inl ⟨by rfl, by intro w'; go_simp; with_reducible rfl⟩) (by simp only [aq_]; rfl) ?_
       refine pup_ (i := 4) (N := some 72) HT_ rfl rfl (by kernel_rfl) (fun _ _ _ h => h) (Or.inl ⟨by rfl, by intro w'; go_simp; with_reducible rfl⟩) (by simp only [aq_]; rfl) ?_
       refine pup_ (i := 5) (N := some 73) HT_ rfl rfl (by kernel_rfl) (fun _ _ _ h => h) (Or.inl ⟨by rfl, by intro w'; go_simp; with_reducible rfl⟩) (by simp only [aq_]; rfl) ?_
       refine pup_ (i := 6) (N := some 74) HT_ rfl rfl (by kernel_rfl) (fun _ _ _ h => h) (Or.inl ⟨by rfl, by intro w'; go_simp; with_reducible rfl⟩) (by simp only [aq_]; rfl) ?_
       refine pup_ (i := 8) (N := some 76) HT_ rfl rfl (by kernel_rfl) (fun _ _ _ h => h) (Or.inl ⟨by rfl, by intro w'; go_simp; with_reducible rfl⟩) (by simp only [aq_]; rfl) ?_
       refine pup_ (i := 9) (N := some 77) HT_ rfl rfl (by kernel_rfl) (fun _ _ _ h => h) (Or.inl ⟨by rfl, by intro w'; go_simp; with_reducible rfl⟩) (by simp only [aq_]; rfl) ?_
       refine pup_ (i := 10) (N := some 78) HT_ rfl rfl (by kernel_rfl) (fun _ _ _ h => h) (Or.inl ⟨by rfl, by intro w'; go_simp; with_reducible rfl⟩) (by simp only [aq_]; rfl) ?_
       refine take_ (i := 7) (N := some 75) (v := ?_) (a' := ?_) q50_40 rfl rfl (take_ofW HT_.out HW_.out (by kernel_rfl)) (fun _ _ _ h => h) (Or.inl ⟨by rfl, ?_⟩) hHeld ?_ ?_
       rotate_left
       ·rintro w' ⟨s0, s1⟩
        go_simp
        with_reducible rfl
       rotate_left
       ·simp only [aq_]
        rfl
       refine take_ (i := 11) (N := some 79) (v := ?_) (a' := ?_) q50_41 rfl rfl (take_ofW HT_.out HW_.out (by kernel_rfl)) (fun _ _ _ h => h) (Or.inl ⟨by rfl, ?_⟩) hHeld ?_ ?_
       rotate_left
       ·rintro w' ⟨s0, s1⟩
        go_simp
        with_reducible rfl
       rotate_left
       ·simp only [aq_]
        rfl
       refine pup_ (i := 12) (N := some 80) HT_ rfl rfl (by kernel_rfl) (fun _ _ _ h => h) (Or.inl ⟨by rfl, by intro w'; go_simp; with_reducible rfl⟩) (by simp only [aq_]; rfl) ?_
       refine last_ (i := 13) (N := none) q50_43 rfl rfl (one_of HT_.out (by kernel_rfl)) (by decide) (fun K hK => ?_)
       refine skip_ (w1 := ?_) (by rfl) rfl ?_ ?_
       rotate_left
       ·go_simp
        rfl
       refine hK.out _ _ ?_
       clear hK K
       refine pup_ (i := 14) (N := some 81) HT_ rfl rfl (by kernel_rfl) (fun _ _ _ h => h) (Or.inl ⟨by rfl, by intro w'; go_simp; with_reducible rfl⟩) (by simp only [aq_]; rfl) ?_
       refine last_ (i := 15) (N := none) q50_45 rfl rfl (one_of HT_.out (by kernel_rfl)) (by decide) (fun K hK => ?_)
       refine skip_ (w1 := ?_) (by rfl) rfl ?_ ?_
       rotate_left
       ·go_simp
        rfl
       refine hK.out _ _ ?_
       clear hK K
       refine done_ (done_of HT_.out (by kernel_rfl)) ?_
       try go_wp2
       (try simp only [← hl0_3])
       go_roundg k3
       case measure => have := HJ1.out; have := HK2.out; have := HK3.out; omega
       case rel => exact ⟨(y287), (wrap64 (x5_3 + 1)), (wrap64 (x6_3 - 1)), (by first | rfl | (simp; done) | (simp [*]; done)), (by first | rfl | (simp; done) | (simp [*]; done)), H', ⟨by have := HJ1.out; have := HK2.out; have := HK3.out; omega⟩, ⟨by (try simp only [hl0_3]); (with_reducible repeat (first | apply Kd.R_alloc | apply Kd.R_drewN | apply Kd.R_drew)); exact HQ36.out⟩, ⟨by repeat (first | (with_reducible first | exact HK.out | apply Kept.alloc | apply Kept.drewN | apply Kept.drew | refine Kept.setCell ?_ HMgo21.out _ | refine Kept.setCell ?_ HMgo21.out _) | exact HK.out)⟩, ⟨by repeat (first | (with_reducible first | exact HB.out | apply below_alloc | apply pw_below_drewN | apply below_drew1 | refine below_set ?_ GB21.out | refine below_set ?_ GB21.out) | exact HB.out)⟩⟩

/-! ### impl_eachOrder: function 33 -/
def impl_eachOrder.f (k : Nat) (n : Int) : Option Int := none   -- (its function value is not in the printed shape: callers are written by hand)
/-- All orders from one on, told one after the other. -/
def impl_eachOrder.run {σ : Type} (step : Nat → List Int → σ → Option σ) : Nat → List Int → σ → Option σ
 | 0, _, _ => none
 | k + 1, o, s => (step k o s).bind fun s1 => (impl_nextOrder.f k o).bind fun t => if t.1 = true then impl_eachOrder.run step k t.2 s1 else some s1
theorem impl_eachOrder.run_mono {σ : Type} {step : Nat → List Int → σ → Option σ} (hs : ∀ k o s, LeO (step k o s) (step (k + 1) o s)) : ∀ k o s, LeO (impl_eachOrder.run step k o s) (impl_eachOrder.run step (k + 1) o s)
 | 0, o, s => LeO.none _
 | k + 1, o, s => by
  rw [impl_eachOrder.run, impl_eachOrder.run]
  exact LeO.bind (hs k o s) (fun _ => LeO.bind (impl_nextOrder.mono o k) (fun _ => LeO.ite (impl_eachOrder.run_mono hs k _ _) (LeO.refl _)))
set_option maxHeartbeats 1600000 in
set_option maxRecDepth 100000 in
theorem impl_eachOrder.calls {σ : Type} (g : Nat) (lb : Array Value) (step : Nat → List Int → σ → Option σ) (Inv : Value → σ → World → Prop) (Bx : Nat → Prop) (k : Nat) (n : Int) (o : List Int) (s r : σ) (w0 w : World) (hB : Below w0.heap.size w0 w) (hsz : w0.heap.size ≤ w.heap.size)
  (heg : ∀ args w, (callFunc g args).run Try.prog w = .ok (.enter g args) w)
  (hBx : ∀ b, Bx b → b < w.heap.size)
  (htell : ∀ (k : Nat) (A : Option Addr) (c : Nat) (q : List Int) (st st' : σ) (W : World), Below w0.heap.size w0 W → w.heap.size ≤ W.heap.size → (∀ b, (Value.slice A q.length c).ownBlock = some b → w.heap.size ≤ b ∧ b < W.heap.size) → Kd.C (Kd.int .i64) W A q.length q → q.length ≤ c → Inv (.slice A q.length c) st W → step k q st = some st' →
   Calls Try.prog g (#[.slice A q.length c] ++ lb) W fun e w' => e = .returned (.tuple #[]) ∧ Inv (.slice A q.length c) st' w' ∧ Below w0.heap.size w0 w' ∧ Kept W w' Bx)
  (hstab : ∀ u st W W', Inv u st W → (∀ b, u.ownBlock = some b → w.heap.size ≤ b) → Kept W W' (fun b => some b = u.ownBlock) → Inv u st W')
  (hinit : ∀ u W, Below w.heap.size w W → (∀ b, u.ownBlock = some b → w.heap.size ≤ b) → Inv u s W)
  (hn : impl_numbersTo.f k n = some o) (h : impl_eachOrder.run step k o s = some r) :
  Calls Try.prog 33 #[.int .i64 n, .func (.func g) #[] lb] w fun e w' => e = .returned (.tuple #[]) ∧ (∃ u, Inv u r w') ∧ Below w0.heap.size w0 w' := by
 have HB := Aside0.mk hB
 have HEG := Aside0.mk heg
 have HBX := Aside0.mk hBx
 have HTELL := Aside0.mk htell
 have HSTAB := Aside0.mk hstab
 have HINIT := Aside0.mk hinit
 have HN := Aside0.mk hn
 have H' := Aside0.mk h
 have HSZ := Aside0.mk hsz
 clear hB heg hBx htell hstab hinit hn h hsz
 go_enter Try.func33, Try.ntmps33
 go_wp2_with ((with_reducible refine (impl_numbersTo.calls k n o _ HN.out).mono ?_); rintro e w1 ⟨v1, rfl, hR1, hB1⟩; have HU := Aside0.mk (Kd.R_base hR1); have HR := Aside0.mk (Kd.R_lower (Kd.R_tight (by rfl) hR1) HSZ.out); have HI := Aside0.mk (HINIT.out v1 w1 hB1 (Kd.R_base hR1)); have HW := Aside0.mk hB1.size; have n0 := Aside0.mk (below_step HB.out hB1); replace HB := n0; clear n0 hR1 hB1; obtain ⟨A1, c1, e1⟩ := Kd.R_slice HR.out; subst e1)
 go_loopg [12] k (fun kq v12 w' => ∃ (q : List Int) (st : σ), Aside0 (q.length = o.length) ∧ Aside0 (impl_eachOrder.run step kq q st = some r) ∧ Aside0 (kq ≤ k) ∧ Aside0 (Kd.R (Kd.int .i64) 3 w' w0.heap.size (fun b => some b = (Value.slice A1 o.length c1).ownBlock) (.slice A1 o.length c1) q) ∧ Aside0 (Inv (.slice A1 o.length c1) st w') ∧ Aside0 (w.heap.size ≤ w'.heap.size) ∧ Aside0 (Below w0.heap.size w0 w'))
 case atStart => exact ⟨o, s, ⟨rfl⟩, H', ⟨Nat.le_refl _⟩, ⟨Kd.R_mono HR.out (fun _ hk => hk)⟩, HI, HW, HB⟩
 case round =>
  clear H' HB HR HI HW
  obtain ⟨q, st, HQ, HA, HK, HR, HI, HW, HB⟩ := hrel
  cases gk with
  | zero => exact absurd HA.out (by simp [impl_eachOrder.run])
  | succ k1 =>
   have H := HA.out
   clear HA
   rw [impl_eachOrder.run] at H
   replace H := Option.bind_eq_some_iff.mp H
   obtain ⟨s1, hs1, H⟩ := H
   replace H := Option.bind_eq_some_iff.mp H
   obtain ⟨t, ht, H⟩ := H
   obtain ⟨t1, t2⟩ := t
   have HNX := Aside0.mk ht
   have HF := Aside0.mk H
   have hc := HTELL.out k1 A1 c1 q st s1 wr HB.out HW.out (by rw [HQ.out]; exact fun b hb => ⟨HU.out b hb, Kd.R_lt HR.out b hb⟩) (Kd.R_reads' HR.out).2.2 (by rw [HQ.out]; exact (Kd.R_reads' HR.out).2.1) (by rw [HQ.out]; exact HI.out) hs1
   rw [HQ.out] at hc
   have HCALL := Aside0.mk hc
   have eg := HEG.out
   clear hc hs1 ht H HI
   cases t1 with
   | false =>
    have hf := HF.out
    simp only [Bool.false_eq_true, if_false, Option.some.injEq] at hf
    subst hf
    clear HF
    go_wp2_with (first | ((with_reducible refine (HCALL.out).mono ?_); rintro e w5 ⟨rfl, hI, hb, hk⟩; have HI := Aside0.mk hI; have n0 := Aside0.mk (Kd.R_kept HR.out hk (fun b hb1 hb2 => absurd (HU.out b hb1.symm) (by have := HBX.out b hb2; omega))); have n1 := Aside0.mk (Nat.le_trans HW.out hk.1); replace HR := n0; replace HW := n1; replace HB := Aside0.mk hb; clear hI hb hk n0 n1 HCALL) | ((with_reducible refine (impl_nextOrder.calls k1 (fun b => some b = (Value.slice A1 o.length c1).ownBlock) (.slice A1 o.length c1) q _ t2 w0 _ HB.out HR.out HNX.out).mono ?_); rintro e w6 ⟨rfl, hR, hb, hk⟩; have n0 := Aside0.mk (HSTAB.out _ _ _ _ HI.out HU.out hk); have n1 := Aside0.mk (Kd.R_mono (Kd.R_tight (by rfl) hR) (fun _ hk => hk)); have n2 := Aside0.mk (Nat.le_trans HW.out hk.1); replace HI := n0; replace HR := n1; replace HW := n2; replace HB := Aside0.mk hb; clear n0 n1 n2 hR hb hk))
    refine bodyPost_ret (results_none rfl _ _ _) rfl ?_
    exact ⟨rfl, ⟨_, HI.out⟩, HB.out⟩
   | true =>
    have HF2 : Aside0 (impl_eachOrder.run step k1 t2 s1 = some r) := ⟨by have hf := HF.out; rwa [if_pos rfl] at hf⟩
    clear HF
    go_wp2_with (first | ((with_reducible refine (HCALL.out).mono ?_); rintro e w5 ⟨rfl, hI, hb, hk⟩; have HI := Aside0.mk hI; have n0 := Aside0.mk (Kd.R_kept HR.out hk (fun b hb1 hb2 => absurd (HU.out b hb1.symm) (by have := HBX.out b hb2; omega))); have n1 := Aside0.mk (Nat.le_trans HW.out hk.1); replace HR := n0; replace HW := n1; replace HB := Aside0.mk hb; clear hI hb hk n0 n1 HCALL) | ((with_reducible refine (impl_nextOrder.calls k1 (fun b => some b = (Value.slice A1 o.length c1).ownBlock) (.slice A1 o.length c1) q _ t2 w0 _ HB.out HR.out HNX.out).mono ?_); rintro e w6 ⟨rfl, hR, hb, hk⟩; have n0 := Aside0.mk (HSTAB.out _ _ _ _ HI.out HU.out hk); have n1 := Aside0.mk (Kd.R_mono (Kd.R_tight (by rfl) hR) (fun _ hk => hk)); have n2 := Aside0.mk (Nat.le_trans HW.out hk.1); replace HI := n0; replace HR := n1; replace HW := n2; replace HB := Aside0.mk hb; clear n0 n1 n2 hR hb hk))
    go_roundg k1
    case measure => have := HK.out; omega
    case rel => exact ⟨t2, s1, ⟨(Kd.R_reads' HR.out).1.symm⟩, HF2, ⟨by have := HK.out; omega⟩, HR, HI, HW, HB⟩

/-! ### impl_dominates: function 35 -/
def impl_dominates.f (a0_0 : Int) (a0_1 : Int) (a1_0 : Int) (a1_1 : Int) : Option (Bool) := if a0_0 = a1_0 then (if a0_1 = a1_1 then (some false) else (if a0_0 ≤ a1_0 then (some (decide (a0_1 ≤ a1_1))) else (some false))) else (if a0_0 ≤ a1_0 then (some (decide (a0_1 ≤ a1_1))) else (some false))
set_option maxHeartbeats 8000000 in
set_option maxRecDepth 100000 in
theorem impl_dominates.calls (a0_0 : Int) (a0_1 : Int) (a1_0 : Int) (a1_1 : Int) (r : Bool) (w : World) (h : impl_dominates.f a0_0 a0_1 a1_0 a1_1 = some r) :
  Calls Try.prog 35 #[.agg #[.int .i64 a0_0, .int .i64 a0_1], .agg #[.int .i64 a1_0, .int .i64 a1_1]] w fun e w' => e = .returned (.bool r) ∧ Below w.heap.size w w' := by
 have heqA := fun (W_ : World) (a_ b_ c_ d_ : Int) => eqA W_ a_ b_ c_ d_
 have hu38 := Try.underlying38
 have HB := Aside0.mk (Below.refl w.heap.size w)
 have H : (if a0_0 = a1_0 then (if a0_1 = a1_1 then (some false) else (if a0_0 ≤ a1_0 then (some (decide (a0_1 ≤ a1_1))) else (some false))) else (if a0_0 ≤ a1_0 then (some (decide (a0_1 ≤ a1_1))) else (some false))) = some r := h
 clear h
 by_cases c3 : a0_0 = a1_0
 rotate_left
 ·rw [if_neg c3] at H
  have c3b0 : (a0_0 == a1_0) = false := beq_eq_false_iff_ne.mpr c3
  have c3b1 : (a0_0 != a1_0) = true := bne_iff_ne.mpr c3
  by_cases c21 : a0_0 ≤ a1_0
  ·rw [if_pos c21] at H
   have c21b0 : decide (a0_0 ≤ a1_0) = true := decide_eq_true c21
   clear c21
   obtain rfl := Option.some.inj H
   go_enter Try.func35, Try.ntmps35
   go_wp2_with (first | ((with_reducible refine gate_dst (N := 2) rfl ?_); refine box_event ?hg (N := 2) ?hd (cs := #[.int .i64 a0_0, .int .i64 a0_1]) (t := 38) ?hr ?_; (case hd => rfl); (case hg => rfl); (case hr => first | (go_simp; done) | (go_simp; rfl)); intro gb288 hg w22 hbox hb; have n0_ := Aside0.mk (below_step (bw HB.out) hb); have n1_ := Aside0.mk (hbox); have n2_ := ge_ hg HB.out; have n3_ := ge_ hg HB.out; replace HB := n0_; have BK288 := n1_; have GW288 := n2_; have GE288 := n3_; clear n0_ n1_ n2_ n3_; clear hb hbox hg) | ((with_reducible refine gate_dst (N := 3) rfl ?_); refine box_event ?hg (N := 3) ?hd (cs := #[.int .i64 a1_0, .int .i64 a1_1]) (t := 38) ?hr ?_; (case hd => rfl); (case hg => rfl); (case hr => first | (go_simp; done) | (go_simp; rfl)); intro gb289 hg w23 hbox hb; have n0_ := Aside0.mk (blk_below (bs BK288.out) hb); have n1_ := Aside0.mk (below_step (by repeat (first | (with_reducible first | exact bw HB.out | refine bset ?_ | apply bA | apply bN | apply bD) | exact HB.out)) hb); have n2_ := Aside0.mk (hbox); have n3_ := Aside0.mk ((by rw [hg]; exact (below_size (by repeat (first | (with_reducible first | exact bw HB.out | refine bset ?_ | apply bA | apply bN | apply bD) | exact HB.out))) : w.heap.size ≤ gb289)); have n4_ := Aside0.mk ((by rw [hg]; exact (below_size (by repeat (first | (with_reducible first | exact bw HB.out | refine bset ?_ | apply bA | apply bN | apply bD) | exact HB.out))) : w.heap.size ≤ gb289)); have n5_ := ne_ hg BK288.out; have n6_ := en_ hg BK288.out; replace BK288 := n0_; replace HB := n1_; have BK289 := n2_; have GW289 := n3_; have GE289 := n4_; have NB288_289 := n5_; have NB289_288 := n6_; clear n0_ n1_ n2_ n3_ n4_ n5_ n6_; clear hb hbox hg; have hnb24 := NB288_289.out; have hnc24 := NB289_288.out; obtain ⟨hcz25_0, hcz25_1, hfz25_0, hfz25_1⟩ := bz2 BK288.out; obtain ⟨hcz26_0, hcz26_1, hfz26_0, hfz26_1⟩ := bz2 BK289.out))
   go_ret
   exact ⟨by first | rfl | (simp [errW_none, errW_some] <;> rfl) | (simp [*, errW_none, errW_some] <;> rfl), by repeat (first | (with_reducible first | exact bw HB.out | refine bset ?_ | apply bA | apply bN | apply bD) | exact HB.out)⟩
  rw [if_neg c21] at H
  have c21b0 : decide (a0_0 ≤ a1_0) = false := decide_eq_false c21
  clear c21
  obtain rfl := Option.some.inj H
  go_enter Try.func35, Try.ntmps35
  go_wp2_with (first | ((with_reducible refine gate_dst (N := 2) rfl ?_); refine box_event ?hg (N := 2) ?hd (cs := #[.int .i64 a0_0, .int .i64 a0_1]) (t := 38) ?hr ?_; (case hd => rfl); (case hg => rfl); (case hr => first | (go_simp; done) | (go_simp; rfl)); intro gb288 hg w27 hbox hb; have n0_ := Aside0.mk (below_step (bw HB.out) hb); have n1_ := Aside0.mk (hbox); have n2_ := ge_ hg HB.out; have n3_ := ge_ hg HB.out; replace HB := n0_; have BK288 := n1_; have GW288 := n2_; have GE288 := n3_; clear n0_ n1_ n2_ n3_; clear hb hbox hg) | ((with_reducible refine gate_dst (N := 3) rfl ?_); refine box_event ?hg (N := 3) ?hd (cs := #[.int .i64 a1_0, .int .i64 a1_1]) (t := 38) ?hr ?_; (case hd => rfl); (case hg => rfl); (case hr => first | (go_simp; done) | (go_simp; rfl)); intro gb289 hg w28 hbox hb; have n0_ := Aside0.mk (blk_below (bs BK288.out) hb); have n1_ := Aside0.mk (below_step (by repeat (first | (with_reducible first | exact bw HB.out | refine bset ?_ | apply bA | apply bN | apply bD) | exact HB.out)) hb); have n2_ := Aside0.mk (hbox); have n3_ := Aside0.mk ((by rw [hg]; exact (below_size (by repeat (first | (with_reducible first | exact bw HB.out | refine bset ?_ | apply bA | apply bN | apply bD) | exact HB.out))) : w.heap.size ≤ gb289)); have n4_ := Aside0.mk ((by rw [hg]; exact (below_size (by repeat (first | (with_reducible first | exact bw HB.out | refine bset ?_ | apply bA | apply bN | apply bD) | exact HB.out))) : w.heap.size ≤ gb289)); have n5_ := ne_ hg BK288.out; have n6_ := en_ hg BK288.out; replace BK288 := n0_; replace HB := n1_; have BK289 := n2_; have GW289 := n3_; have GE289 := n4_; have NB288_289 := n5_; have NB289_288 := n6_; clear n0_ n1_ n2_ n3_ n4_ n5_ n6_; clear hb hbox hg; have hnb29 := NB288_289.out; have hnc29 := NB289_288.out; obtain ⟨hcz30_0, hcz30_1, hfz30_0, hfz30_1⟩ := bz2 BK288.out; obtain ⟨hcz31_0, hcz31_1, hfz31_0, hfz31_1⟩ := bz2 BK289.out))
  go_ret
  exact ⟨by first | rfl | (simp [errW_none, errW_some] <;> rfl) | (simp [*, errW_none, errW_some] <;> rfl), by repeat (first | (with_reducible first | exact bw HB.out | refine bset ?_ | apply bA | apply bN | apply bD) | exact HB.out)⟩
 rw [if_pos c3] at H
 have c3b0 : (a0_0 == a1_0) = true := beq_iff_eq.mpr c3
 have c3b1 : (a0_0 != a1_0) = false := bne_eq_false_iff_eq.mpr c3
 clear c3
 by_cases c4 : a0_1 = a1_1
 ·rw [if_pos c4] at H
  have c4b0 : (a0_1 == a1_1) = true := beq_iff_eq.mpr c4
  have c4b1 : (a0_1 != a1_1) = false := bne_eq_false_iff_eq.mpr c4
  clear c4
  obtain rfl := Option.some.inj H
  go_enter Try.func35, Try.ntmps35
  go_wp2_with (first | ((with_reducible refine gate_dst (N := 2) rfl ?_); refine box_event ?hg (N := 2) ?hd (cs := #[.int .i64 a0_0, .int .i64 a0_1]) (t := 38) ?hr ?_; (case hd => rfl); (case hg => rfl); (case hr => first | (go_simp; done) | (go_simp; rfl)); intro gb288 hg w5 hbox hb; have n0_ := Aside0.mk (below_step (bw HB.out) hb); have n1_ := Aside0.mk (hbox); have n2_ := ge_ hg HB.out; have n3_ := ge_ hg HB.out; replace HB := n0_; have BK288 := n1_; have GW288 := n2_; have GE288 := n3_; clear n0_ n1_ n2_ n3_; clear hb hbox hg) | ((with_reducible refine gate_dst (N := 3) rfl ?_); refine box_event ?hg (N := 3) ?hd (cs := #[.int .i64 a1_0, .int .i64 a1_1]) (t := 38) ?hr ?_; (case hd => rfl); (case hg => rfl); (case hr => first | (go_simp; done) | (go_simp; rfl)); intro gb289 hg w6 hbox hb; have n0_ := Aside0.mk (blk_below (bs BK288.out) hb); have n1_ := Aside0.mk (below_step (by repeat (first | (with_reducible first | exact bw HB.out | refine bset ?_ | apply bA | apply bN | apply bD) | exact HB.out)) hb); have n2_ := Aside0.mk (hbox); have n3_ := Aside0.mk ((by rw [hg]; exact (below_size (by repeat (first | (with_reducible first | exact bw HB.out | refine bset ?_ | apply bA | apply bN | apply bD) | exact HB.out))) : w.heap.size ≤ gb289)); have n4_ := Aside0.mk ((by rw [hg]; exact (below_size (by repeat (first | (with_reducible first | exact bw HB.out | refine bset ?_ | apply bA | apply bN | apply bD) | exact HB.out))) : w.heap.size ≤ gb289)); have n5_ := ne_ hg BK288.out; have n6_ := en_ hg BK288.out; replace BK288 := n0_; replace HB := n1_; have BK289 := n2_; have GW289 := n3_; have GE289 := n4_; have NB288_289 := n5_; have NB289_288 := n6_; clear n0_ n1_ n2_ n3_ n4_ n5_ n6_; clear hb hbox hg; have hnb7 := NB288_289.out; have hnc7 := NB289_288.out; obtain ⟨hcz8_0, hcz8_1, hfz8_0, hfz8_1⟩ := bz2 BK288.out; obtain ⟨hcz9_0, hcz9_1, hfz9_0, hfz9_1⟩ := bz2 BK289.out))
  go_ret
  exact ⟨by first | rfl | (simp [errW_none, errW_some] <;> rfl) | (simp [*, errW_none, errW_some] <;> rfl), by repeat (first | (with_reducible first | exact bw HB.out | refine bset ?_ | apply bA | apply bN | apply bD) | exact HB.out)⟩
 rw [if_neg c4] at H
 have c4b0 : (a0_1 == a1_1) = false := beq_eq_false_iff_ne.mpr c4
 have c4b1 : (a0_1 != a1_1) = true := bne_iff_ne.mpr c4
 by_cases c10 : a0_0 ≤ a1_0
 ·rw [if_pos c10] at H
  have c10b0 : decide (a0_0 ≤ a1_0) = true := decide_eq_true c10
  clear c10
  obtain rfl := Option.some.inj H
  go_enter Try.func35, Try.ntmps35
  go_wp2_with (first | ((with_reducible refine gate_dst (N := 2) rfl ?_); refine box_event ?hg (N := 2) ?hd (cs := #[.int .i64 a0_0, .int .i64 a0_1]) (t := 38) ?hr ?_; (case hd => rfl); (case hg => rfl); (case hr => first | (go_simp; done) | (go_simp; rfl)); intro gb288 hg w11 hbox hb; have n0_ := Aside0.mk (below_step (bw HB.out) hb); have n1_ := Aside0.mk (hbox); have n2_ := ge_ hg HB.out; have n3_ := ge_ hg HB.out; replace HB := n0_; have BK288 := n1_; have GW288 := n2_; have GE288 := n3_; clear n0_ n1_ n2_ n3_; clear hb hbox hg) | ((with_reducible refine gate_dst (N := 3) rfl ?_); refine box_event ?hg (N := 3) ?hd (cs := #[.int .i64 a1_0, .int .i64 a1_1]) (t := 38) ?hr ?_; (case hd => rfl); (case hg => rfl); (case hr => first | (go_simp; done) | (go_simp; rfl)); intro gb289 hg w12 hbox hb; have n0_ := Aside0.mk (blk_below (bs BK288.out) hb); have n1_ := Aside0.mk (below_step (by repeat (first | (with_reducible first | exact bw HB.out | refine bset ?_ | apply bA | apply bN | apply bD) | exact HB.out)) hb); have n2_ := Aside0.mk (hbox); have n3_ := Aside0.mk ((by rw [hg]; exact (below_size (by repeat (first | (with_reducible first | exact bw HB.out | refine bset ?_ | apply bA | apply bN | apply bD) | exact HB.out))) : w.heap.size ≤ gb289)); have n4_ := Aside0.mk ((by rw [hg]; exact (below_size (by repeat (first | (with_reducible first | exact bw HB.out | refine bset ?_ | apply bA | apply bN | apply bD) | exact HB.out))) : w.heap.size ≤ gb289)); have n5_ := ne_ hg BK288.out; have n6_ := en_ hg BK288.out; replace BK288 := n0_; replace HB := n1_; have BK289 := n2_; have GW289 := n3_; have GE289 := n4_; have NB288_289 := n5_; have NB289_288 := n6_; clear n0_ n1_ n2_ n3_ n4_ n5_ n6_; clear hb hbox hg; have hnb13 := NB288_289.out; have hnc13 := NB289_288.out; obtain ⟨hcz14_0, hcz14_1, hfz14_0, hfz14_1⟩ := bz2 BK288.out; obtain ⟨hcz15_0, hcz15_1, hfz15_0, hfz15_1⟩ := bz2 BK289.out))
  go_ret
  exact ⟨by first | rfl | (simp [errW_none, errW_some] <;> rfl) | (simp [*, errW_none, errW_some] <;> rfl), by repeat (first | (with_reducible first | exact bw HB.out | refine bset ?_ | apply bA | apply bN | apply bD) | exact HB.out)⟩
 rw [if_neg c10] at H
 have c10b0 : decide (a0_0 ≤ a1_0) = false := decide_eq_false c10
 clear c10
 obtain rfl := Option.some.inj H
 go_enter Try.func35, Try.ntmps35
 go_wp2_with (first | ((with_reducible refine gate_dst (N := 2) rfl ?_); refine box_event ?hg (N := 2) ?hd (cs := #[.int .i64 a0_0, .int .i64 a0_1]) (t := 38) ?hr ?_; (case hd => rfl); (case hg => rfl); (case hr => first | (go_simp; done) | (go_simp; rfl)); intro gb288 hg w16 hbox hb; have n0_ := Aside0.mk (below_step (bw HB.out) hb); have n1_ := Aside0.mk (hbox); have n2_ := ge_ hg HB.out; have n3_ := ge_ hg HB.out; replace HB := n0_; have BK288 := n1_; have GW288 := n2_; have GE288 := n3_; clear n0_ n1_ n2_ n3_; clear hb hbox hg) | ((with_reducible refine gate_dst (N := 3) rfl ?_); refine box_event ?hg (N := 3) ?hd (cs := #[.int .i64 a1_0, .int .i64 a1_1]) (t := 38) ?hr ?_; (case hd => rfl); (case hg => rfl); (case hr => first | (go_simp; done) | (go_simp; rfl)); intro gb289 hg w17 hbox hb; have n0_ := Aside0.mk (blk_below (bs BK288.out) hb); have n1_ := Aside0.mk (below_step (by repeat (first | (with_reducible first | exact bw HB.out | refine bset ?_ | apply bA | apply bN | apply bD) | exact HB.out)) hb); have n2_ := Aside0.mk (hbox); have n3_ := Aside0.mk ((by rw [hg]; exact (below_size (by repeat (first | (with_reducible first | exact bw HB.out | refine bset ?_ | apply bA | apply bN | apply bD) | exact HB.out))) : w.heap.size ≤ gb289)); have n4_ := Aside0.mk ((by rw [hg]; exact (below_size (by repeat (first | (with_reducible first | exact bw HB.out | refine bset ?_ | apply bA | apply bN | apply bD) | exact HB.out))) : w.heap.size ≤ gb289)); have n5_ := ne_ hg BK288.out; have n6_ := en_ hg BK288.out; replace BK288 := n0_; replace HB := n1_; have BK289 := n2_; have GW289 := n3_; have GE289 := n4_; have NB288_289 := n5_; have NB289_288 := n6_; clear n0_ n1_ n2_ n3_ n4_ n5_ n6_; clear hb hbox hg; have hnb18 := NB288_289.out; have hnc18 := NB289_288.out; obtain ⟨hcz19_0, hcz19_1, hfz19_0, hfz19_1⟩ := bz2 BK288.out; obtain ⟨hcz20_0, hcz20_1, hfz20_0, hfz20_1⟩ := bz2 BK289.out))
 go_ret
 exact ⟨by first | rfl | (simp [errW_none, errW_some] <;> rfl) | (simp [*, errW_none, errW_some] <;> rfl), by repeat (first | (with_reducible first | exact bw HB.out | refine bset ?_ | apply bA | apply bN | apply bD) | exact HB.out)⟩

/-! ### impl_frontOf_1: function 34 -/
abbrev q34_0 : Array Bool := ⟨rl_ [13] false⟩
abbrev q34_1 : Array Bool := ⟨rl_ [9, 4] true⟩
abbrev q34_2 : Array Bool := ⟨rl_ [11, 2] true⟩
def impl_frontOf_1.f (k : Nat) (n : List Int) : Option Bool := none   -- (it has captured variables: not in the printed shape)
/-- The points of a front that a new one does not dominate; nothing where the new one is there or dominated. -/
def impl_frontOf_1.scan (p : S38) : List (S38) → List (S38) → Option (Option (List (S38)))
 | [], nx => some (some nx)
 | q :: r, nx => if q.f0 = p.f0 ∧ q.f1 = p.f1 then some none else (impl_dominates.f q.f0 q.f1 p.f0 p.f1).bind fun d => if d = true then some none else (impl_dominates.f p.f0 p.f1 q.f0 q.f1).bind fun e => impl_frontOf_1.scan p r (if e = true then nx else nx ++ [q])
/-- The place of a new point, looked for from the end. -/
def impl_frontOf_1.bk (p : S38) (nx : List (S38)) : Nat → Nat
 | 0 => 0
 | m + 1 => if (rd_T38 nx (m : Int)).f0 > p.f0 then impl_frontOf_1.bk p nx m else m + 1
theorem impl_frontOf_1.bk_le (p : S38) (nx : List (S38)) : ∀ m, impl_frontOf_1.bk p nx m ≤ m
 | 0 => Nat.le_refl _
 | m + 1 => by
  rw [impl_frontOf_1.bk]
  split
  ·exact Nat.le_succ_of_le (impl_frontOf_1.bk_le p nx m)
  ·exact Nat.le_refl _
def impl_frontOf_1.ins (p : S38) (nx : List (S38)) : List (S38) := nx.take (impl_frontOf_1.bk p nx nx.length) ++ p :: nx.drop (impl_frontOf_1.bk p nx nx.length)
def impl_frontOf_1.next (p : S38) (s : List (S38)) : Option (List (S38)) → List (S38)
 | none => s
 | some nx => impl_frontOf_1.ins p nx
/-- What one order does to the front. -/
def impl_frontOf_1.step (l0 : List (S41)) (f g : Int) (k : Nat) (o : List Int) (s : List (S38)) : Option (List (S38)) :=
 (impl_pointOf.f k l0 o f g).bind fun v => if s.length ≤ 100000000 then (impl_frontOf_1.scan ⟨v.1, v.2⟩ s []).bind fun z => some (impl_frontOf_1.next ⟨v.1, v.2⟩ s z) else none
theorem impl_frontOf_1.step_mono (l0 : List (S41)) (f g : Int) (k : Nat) (o : List Int) (s : List (S38)) : LeO (impl_frontOf_1.step l0 f g k o s) (impl_frontOf_1.step l0 f g (k + 1) o s) := LeO.bind (impl_pointOf.mono _ _ _ _ _) (fun _ => LeO.refl _)
/-- The closure's variables: jobs, the two objectives, the front; u: the order that is being told. -/
structure impl_frontOf_1.Inv (w0 w : World) (A0 : Option Addr) (c0 : Nat) (l0 : List (S41)) (f g : Int) (g1 g2 g3 g4 : Nat) (u : Value) (s : List (S38)) (W : World) : Prop where
 j : W.heap[g1]? = some (.cells #[.slice A0 l0.length c0] 27 (0, 0))
 o : W.heap[g2]? = some (.cells #[.int .i64 f] 3 (0, 0))
 c : W.heap[g3]? = some (.cells #[.int .i64 g] 3 (0, 0))
 f : ∃ v, W.heap[g4]? = some (.cells #[v] 36 (0, 0)) ∧ Kd.R k38 38 W w.heap.size (fun k => some k ≠ u.ownBlock) v s
set_option maxRecDepth 100000 in
theorem impl_frontOf_1.heg (args : Array Value) (w : World) : (callFunc 34 args).run Try.prog w = .ok (.enter 34 args) w := by
 first | (unfold callFunc; go_simp; done) | (unfold callFunc; go_simp; rfl) | rfl
/-! rows of pairs, copied within themselves -/
def impl_frontOf_1.flat : List (S38) → List Value
 | [] => []
 | x :: r => .int .i64 x.f0 :: .int .i64 x.f1 :: impl_frontOf_1.flat r
theorem impl_frontOf_1.flat_len : ∀ xs : List (S38), (impl_frontOf_1.flat xs).length = xs.length * 2
 | [] => rfl
 | x :: r => by simp only [impl_frontOf_1.flat, List.length_cons, impl_frontOf_1.flat_len r]; omega
theorem impl_frontOf_1.flat_app : ∀ xs ys : List (S38), impl_frontOf_1.flat (xs ++ ys) = impl_frontOf_1.flat xs ++ impl_frontOf_1.flat ys
 | [], ys => rfl
 | x :: r, ys => by rw [List.cons_append, impl_frontOf_1.flat, impl_frontOf_1.flat, impl_frontOf_1.flat_app r ys]; rfl
theorem impl_frontOf_1.flat_take : ∀ (xs : List (S38)) (n : Nat), impl_frontOf_1.flat (xs.take n) = (impl_frontOf_1.flat xs).take (n * 2)
 | [], n => by simp [impl_frontOf_1.flat]
 | x :: r, 0 => rfl
 | x :: r, n + 1 => by
  rw [List.take_succ_cons, impl_frontOf_1.flat, impl_frontOf_1.flat, impl_frontOf_1.flat_take r n, show (n + 1) * 2 = n * 2 + 1 + 1 by omega, List.take_succ_cons, List.take_succ_cons]
theorem impl_frontOf_1.flat_drop : ∀ (xs : List (S38)) (n : Nat), impl_frontOf_1.flat (xs.drop n) = (impl_frontOf_1.flat xs).drop (n * 2)
 | [], n => by simp [impl_frontOf_1.flat]
 | x :: r, 0 => rfl
 | x :: r, n + 1 => by
  rw [List.drop_succ_cons, impl_frontOf_1.flat, impl_frontOf_1.flat_drop r n, show (n + 1) * 2 = n * 2 + 1 + 1 by omega, List.drop_succ_cons, List.drop_succ_cons]
theorem impl_frontOf_1.flat_one : ∀ (xs : List (S38)), ∀ v ∈ impl_frontOf_1.flat xs, v.oneCell' = true
 | [], v, h => by cases h
 | x :: r, v, h => by
  rcases List.mem_cons.1 h with rfl | h
  ·rfl
  ·rcases List.mem_cons.1 h with rfl | h
   ·rfl
   ·exact impl_frontOf_1.flat_one r v h
theorem impl_frontOf_1.reps_flat {w : World} {base : Nat} {ok : Nat → Prop} : ∀ (xs : List (S38)) (cs : List Value), Reps (k38.M w base ok) 2 xs cs → cs = impl_frontOf_1.flat xs
 | [], cs, h => by
  have := h.1
  simp only [List.length_nil, Nat.zero_mul] at this
  exact List.eq_nil_of_length_eq_zero this
 | x :: r, cs, h => by
  have h0 := k38_openM (h.2 0 x rfl)
  simp only [Nat.zero_mul, List.drop_zero] at h0
  have hl := h.1
  simp only [List.length_cons] at hl
  have hr : Reps (k38.M w base ok) 2 r (cs.drop 2) := ⟨by rw [List.length_drop]; omega, fun j p hp => by
   have := h.2 (j + 1) p (by simpa using hp)
   rw [List.drop_drop]
   rwa [show 2 + j * 2 = (j + 1) * 2 by omega]⟩
  have := impl_frontOf_1.reps_flat r _ hr
  rw [impl_frontOf_1.flat, ← this, ← List.take_append_drop 2 cs, h0]
  simp
theorem impl_frontOf_1.flat_reps (w : World) (base : Nat) (ok : Nat → Prop) : ∀ (xs : List (S38)), Reps (k38.M w base ok) 2 xs (impl_frontOf_1.flat xs)
 | [] => Reps.none _ _
 | x :: r => by
  have ih := impl_frontOf_1.flat_reps w base ok r
  refine ⟨impl_frontOf_1.flat_len _, fun j p hp => ?_⟩
  cases j with
  | zero =>
   obtain rfl : x = p := by simpa using hp
   exact k38_mkM w base ok x
  | succ j =>
   have := ih.2 j p (by simpa using hp)
   rw [impl_frontOf_1.flat, show (j + 1) * 2 = j * 2 + 1 + 1 by omega, List.drop_succ_cons, List.drop_succ_cons]
   exact this
theorem impl_frontOf_1.copied {W : World} {base go n c : Nat} {ok : Nat → Prop} {xs : List (S38)} (h : Kd.R k38 38 W base ok (.slice (some ⟨go, 0, none⟩) n c) xs) :
  n = xs.length ∧ ∃ cur : List Value, W.heap[go]? = some (.cells cur.toArray 38 (0, 0)) ∧ base ≤ go ∧ cur.length = c * 2 ∧ n ≤ c ∧ cur.take (n * 2) = impl_frontOf_1.flat xs ∧ ∀ (cs : List (S38)) (off : Nat) (W9 : World), off + cs.length ≤ n → W9.heap[go]? = some (.cells (splice cur (off * 2) (impl_frontOf_1.flat cs)).toArray 38 (0, 0)) →
   Kd.R k38 38 W9 base ok (.slice (some ⟨go, 0, none⟩) n c) (xs.take off ++ (cs ++ xs.drop (off + cs.length))) := by
 obtain ⟨hok, inner, ⟨hl, hd⟩, hr⟩ := h
 obtain rfl := impl_frontOf_1.reps_flat xs inner hr
 rcases hd with ⟨hv, _⟩ | ⟨g', cap', cur, hv, hb, hh, hnc, hcm, hcs, ht⟩
 ·cases hv
 ·injection hv with ha hn hc
  injection ha with ha
  injection ha with hg
  subst hg hc
  have hcs2 : cur.toList.length = c * 2 := by rw [Array.length_toList]; exact hcs
  have ht2 : cur.toList.take (n * 2) = impl_frontOf_1.flat xs := by rw [hn]; exact ht
  refine ⟨hn, cur.toList, by simpa using hh, hb, hcs2, hn ▸ hnc, ht2, fun cs off W9 hfit h9 => ?_⟩
  have e : (xs.take off ++ (cs ++ xs.drop (off + cs.length))).length = xs.length := by simp; omega
  refine ⟨hok, impl_frontOf_1.flat (xs.take off ++ (cs ++ xs.drop (off + cs.length))), ⟨impl_frontOf_1.flat_len _, .inr ⟨go, c, (splice cur.toList (off * 2) (impl_frontOf_1.flat cs)).toArray, ?_, hb, h9, by rw [e]; exact hnc, hcm, ?_, ?_⟩⟩, impl_frontOf_1.flat_reps _ _ _ _⟩
  ·rw [e, hn]
  ·have h3 := length_splice cur.toList (off * 2) (impl_frontOf_1.flat cs) (by rw [impl_frontOf_1.flat_len]; omega)
   rw [List.size_toArray, h3]
   exact hcs2
  ·rw [e, ← hn]
   show (splice cur.toList (off * 2) (impl_frontOf_1.flat cs)).take (n * 2) = _
   rw [impl_frontOf_1.flat_app, impl_frontOf_1.flat_app, impl_frontOf_1.flat_take, impl_frontOf_1.flat_drop, ← ht2]
   unfold splice
   have hfl := impl_frontOf_1.flat_len cs
   rw [List.take_append, List.take_append, List.length_take, List.take_take, List.take_take, List.drop_take, Nat.min_eq_left (show off * 2 ≤ cur.toList.length by omega), Nat.min_eq_left (show off * 2 ≤ n * 2 by omega), Nat.min_eq_right (show off * 2 ≤ n * 2 by omega), List.take_of_length_le (show (impl_frontOf_1.flat cs).length ≤ n * 2 - off * 2 by omega), hfl, show off * 2 + cs.length * 2 = (off + cs.length) * 2 by omega, show n * 2 - off * 2 - cs.length * 2 = n * 2 - (off + cs.length) * 2 by omega]
/-- A copy within a row, for elements of some size: what else there is stays. -/
theorem impl_frontOf_1.copy_rows {P : Program} {w : World} {ops : Array Oper} {rest : List Oper} {o : Oper} {a : Act} {Q : Exit → Act → World → Prop} (sz : Nat) (hgd : o.guard = none) (d s : Operand) (dT sT : TypeId)
  (ho : o.op = .call { callee := .builtin .copy, args := #[d, s], argTypes := #[dT, sT] }) (elem : TypeId) (hu : P.underlying dT = some (.slice elem)) (hsz : (P.info? elem).map (·.size) = some sz)
  (dp sp : Option Addr) (dLen dCap sLen sCap : Nat) (hd : a.eval d = .slice dp dLen dCap) (hs : a.eval s = .slice sp sLen sCap)
  (g off : Nat) (cur : List Value) (t : TypeId) (hg : w.heap[g]? = some (.cells cur.toArray t (0, 0))) (cs : List Value) (m : Nat) (hm : m = Nat.min sLen dLen) (hn : cs.length = m * sz)
  (hpos : 0 < m → dp = some ⟨g, off, none⟩ ∧ ∃ ad, sp = some ad ∧ ∀ j v, cs[j]? = some v → w.cell? (ad.add j) = some v)
  (hfit : off + cs.length ≤ cur.length) (h1 : ∀ v ∈ cs, v.oneCell' = true) (B : Nat) (w0 : World) (hb : RowKit.Below B w0 w) (hBg : B ≤ g)
  (h : ∀ w', RowKit.Hid (w'.heap[g]? = some (.cells (splice cur off cs).toArray t (0, 0))) → RowKit.Below B w0 w' → (∀ k, k ≠ g → w'.heap[k]? = w.heap[k]?) → wpList P ops Q rest (a.put o.dst (goInt m)) w') :
  wpList P ops Q (o :: rest) a w := by
 by_cases h0 : m = 0
 ·have hcs : cs = [] := List.eq_nil_of_length_eq_zero (by rw [hn, h0, Nat.zero_mul])
  have hrun : (Builtin.copy_ #[dT, sT] o.type #[.slice dp dLen dCap, .slice sp sLen sCap]).run P w = .ok (goInt m) w := by
   cases hq : P.info? elem with
   | none => simp [hq] at hsz
   | some i =>
    have hm2 : Nat.min sLen dLen = 0 := hm.symm.trans h0
    subst h0
    have hl : ∀ (x : Addr), (loadCells x 0).run P w = .ok #[] w := fun x => by simpa using run_loadCells_list (P := P) w x [] (by simp)
    cases dp <;> cases sp <;> simp [Builtin.copy_, run_underlying hu, Builtin.lenOf, Builtin.firstCells, sizeOf, typeInfo, hq, hm2, storeCells, hl]
  have hH := h w (show _ = _ by rw [hcs]; simpa [splice] using hg) hb (fun _ _ => rfl)
  refine wpList_plain hgd fun K hK => ?_
  unfold Oper.wp
  simp [execOp, ho, resolve, invoke, builtin, hd, hs, hrun, Result.andThen]
  exact hK _ _ hH
 obtain ⟨rfl, ad, rfl, hsrc⟩ := hpos (by omega)
 refine wpList_plain hgd fun K hK => ?_
 have hl := run_loadCells_list (P := P) w ad cs hsrc
 have hst := run_storeCells_at P g off t cs 0 cur.toArray w hg (by simpa using hfit) h1
 have hrun : (Builtin.copy_ #[dT, sT] o.type #[.slice (some ⟨g, off, none⟩) dLen dCap, .slice (some ad) sLen sCap]).run P w = .ok (goInt m) (w.setRow g (splice cur off cs).toArray) := by
  cases hq : P.info? elem with
  | none => simp [hq] at hsz
  | some i =>
   have hi : i.size = sz := by simpa [hq] using hsz
   simp [Builtin.copy_, run_underlying hu, Builtin.lenOf, Builtin.firstCells, sizeOf, typeInfo, hq, hi, ← hm, ← hn, hl, hst, splice]
 have hH := h _ (show _ = _ from setRow_heap w g cur.toArray _ t _ hg) (below_setRow hb hBg _) (fun k hk => setRow_other w g k _ hk)
 unfold Oper.wp
 simp [execOp, ho, resolve, invoke, builtin, hd, hs, hrun, Result.andThen]
 exact hK _ _ hH
theorem impl_frontOf_1.set_copied (p : S38) (nx : List (S38)) (k : Nat) (hk : k ≤ nx.length) : (((nx ++ [p]).take (k + 1) ++ nx.drop k).set k p) = nx.take k ++ p :: nx.drop k := by
 have e : (nx ++ [p]).take (k + 1) = nx.take k ++ [((nx ++ [p])[k]?).getD p] := by
  rw [List.take_add_one, List.take_append_of_le_length hk]
  congr 1
  rw [List.getElem?_eq_getElem (by simp; omega)]
  rfl
 rw [e, List.append_assoc, List.set_append_right _ _ (by rw [List.length_take]; omega), List.length_take, Nat.min_eq_left hk, Nat.sub_self]
 rfl
set_option maxHeartbeats 8000000 in
set_option maxRecDepth 100000 in
theorem impl_frontOf_1.tell (w0 w : World) (A0 : Option Addr) (c0 : Nat) (l0 : List (S41)) (fo gg : Int) (g1 g2 g3 g4 : Nat) (hr0 : Kd.C k41 w0 A0 l0.length l0) (hc0 : l0.length ≤ c0)
  (hg1 : g1 < w.heap.size) (hg2 : g2 < w.heap.size) (hg3 : g3 < w.heap.size) (hg4 : g4 < w.heap.size) (n14 : g1 ≠ g4) (n24 : g2 ≠ g4) (n34 : g3 ≠ g4) (b4 : w0.heap.size ≤ g4)
  (k : Nat) (A : Option Addr) (c : Nat) (q : List Int) (st st' : List (S38)) (W : World) (hB : Below w0.heap.size w0 W) (hsz : w.heap.size ≤ W.heap.size) (hu : ∀ b, (Value.slice A q.length c).ownBlock = some b → w.heap.size ≤ b ∧ b < W.heap.size) (hC : Kd.C (Kd.int .i64) W A q.length q) (hqc : q.length ≤ c)
  (hI : impl_frontOf_1.Inv w0 w A0 c0 l0 fo gg g1 g2 g3 g4 (.slice A q.length c) st W) (hs : impl_frontOf_1.step l0 fo gg k q st = some st') :
  Calls Try.prog 34 (#[.slice A q.length c] ++ #[.pointer (some ⟨g1, 0, none⟩), .pointer (some ⟨g2, 0, none⟩), .pointer (some ⟨g3, 0, none⟩), .pointer (some ⟨g4, 0, none⟩)]) W fun e w' => e = .returned (.tuple #[]) ∧ impl_frontOf_1.Inv w0 w A0 c0 l0 fo gg g1 g2 g3 g4 (.slice A q.length c) st' w' ∧ Below w0.heap.size w0 w' ∧ Kept W w' (fun b => b = g4) := by
 have heqA := fun (W_ : World) (a_ b_ c_ d_ : Int) => eqA W_ a_ b_ c_ d_
 obtain ⟨hj, ho, hc3, vf, hf4, hRf⟩ := hI
 unfold impl_frontOf_1.step at hs
 obtain ⟨⟨p0, p1⟩, hv, hs⟩ := Option.bind_eq_some_iff.mp hs
 simp only at hs
 split at hs
 case isFalse => cases hs
 case isTrue hn6 =>
 obtain ⟨z, hz, hs⟩ := Option.bind_eq_some_iff.mp hs
 have HST := Aside0.mk (Option.some.inj hs)
 have HZ := Aside0.mk hz
 have HS6 := Aside0.mk hn6
 have HV := Aside0.mk hv
 have HR0 := Aside0.mk hr0
 have HC0 := Aside0.mk hc0
 have HB := Aside0.mk hB
 have HSZ := Aside0.mk hsz
 have HU := Aside0.mk hu
 have HC := Aside0.mk hC
 have HQC := Aside0.mk hqc
 have BJ := Aside0.mk hj
 have BO := Aside0.mk ho
 have BC := Aside0.mk hc3
 obtain ⟨Af, cf, ef⟩ := Kd.R_slice hRf
 subst ef
 have BF := Aside0.mk hf4
 have HRF := Aside0.mk hRf
 have HGS := Aside0.mk (show g4 < W.heap.size ∧ w0.heap.size ≤ g4 from ⟨Nat.lt_of_lt_of_le hg4 hsz, b4⟩)
 obtain ⟨hcj, hfj⟩ := bz1 BJ.out
 obtain ⟨hco, hfo⟩ := bz1 BO.out
 obtain ⟨hcc, hfc⟩ := bz1 BC.out
 clear hv hr0 hc0 hB hsz hu hC hqc hj ho hc3 hf4 hRf hg1 hg2 hg3 hg4 b4 hs hz hn6
 show Calls Try.prog 34 #[.slice A q.length c, .pointer (some ⟨g1, 0, none⟩), .pointer (some ⟨g2, 0, none⟩), .pointer (some ⟨g3, 0, none⟩), .pointer (some ⟨g4, 0, none⟩)] W _
 go_enter Try.func34, Try.ntmps34
 go_wp2_with (first | ((with_reducible refine gate_callee (f := 19) rfl ?_); refine goesL_ (some 15) rfl rfl Try.func19 (by kernel_rfl) rfl #[.slice A0 l0.length c0, .slice A q.length c, .int .i64 fo, .int .i64 gg] rfl (by (try simp only [mA_]); first | done | rfl) ?_; (with_reducible refine (impl_pointOf.calls k A0 c0 l0 A c q fo gg p0 p1 _ ?s1 HC0.out ?s2 HQC.out HV.out).mono ?_); (case s1 => exact Kd.C_below HR0.out HB.out); (case s2 => exact HC.out); rintro e w9 ⟨rfl, hb⟩; refine ⟨_, rfl, ?_⟩; have HW := Aside0.mk hb; clear hb) | ((with_reducible refine gate_dst (N := 6) rfl ?_); refine box_event ?hg (N := 6) ?hd (cs := #[.int .i64 0, .int .i64 0]) (t := 38) ?hr ?_; (case hd => rfl); (case hg => rfl); (case hr => first | (go_simp; done) | (go_simp; rfl)); intro gp hg w10 hbox hb; have GEp := ge_ hg HW.out; have n0_ := Aside0.mk (below_step (bw HW.out) hb); have BP := Aside0.mk hbox; replace HW := n0_; clear n0_ hb hbox hg; obtain ⟨hp0, hp1, hpf0, hpf1⟩ := bz2 BP.out) | ((with_reducible refine gate_store (t := 38) (p := 6) rfl ?_); refine store_event (t := 38) (p := 6) (v := ?vo_1) (w1 := ((w10.setCell ⟨gp, 0, none⟩ (.int .i64 p0)).setCell ⟨gp, 1, none⟩ (.int .i64 p1))) ?hg ?ho ?hn ?hr ?_; (case ho => rfl); (case hg => rfl); (case hn => rfl); (case hr => first | (go_simp; done) | (go_simp; rfl)); intro w11 hw; have m1 := Aside0.mk ((by rw [hw]; exact below_set (below_set HW.out GEp.out) GEp.out : Below W.heap.size W w11)); have m2 := Aside0.mk (show w11.heap[gp]? = some (.cells #[.int .i64 p0, .int .i64 p1] 38 (0, 0)) from by rw [hw]; exact blk_put (blk_put BP.out 0 _ rfl) 1 _ rfl); replace HW := m1; replace BP := m2; clear m1 m2 hw hp0 hp1 hpf0 hpf1; obtain ⟨hp0, hp1, hpf0, hpf1⟩ := bz2 BP.out; obtain ⟨hcf, hff⟩ := bz1 (blk_below BF.out HW.out)))
 go_loopg [7, 18] st.length (fun kq v7 v18 w' => ∃ (i : Int) (pre rest nx : List (S38)), v18 = .int .i64 i ∧ Aside0 (i = (pre.length : Int)) ∧ Aside0 (st = pre ++ rest) ∧ Aside0 (rest.length = kq) ∧ Aside0 (nx.length ≤ pre.length) ∧ Aside0 (impl_frontOf_1.scan ⟨p0, p1⟩ rest nx = some z) ∧ Aside0 (Kd.R k38 38 w' W.heap.size (fun k_ => k_ ≠ gp) v7 nx) ∧ Aside0 (w'.heap[gp]? = some (.cells #[.int .i64 p0, .int .i64 p1] 38 (0, 0))) ∧ Aside0 (Below W.heap.size W w'))
 case atStart => exact ⟨0, [], st, [], rfl, ⟨rfl⟩, ⟨rfl⟩, ⟨rfl⟩, ⟨Nat.le_refl _⟩, HZ, ⟨Kd.R_nil _ _ _ _ _⟩, ⟨bs BP.out⟩, ⟨bw HW.out⟩⟩
 case round =>
  clear HZ HW BP hcj hfj hco hfo hcc hfc hp0 hp1 hpf0 hpf1 hcf hff
  obtain ⟨i, pre, rest, nx, rfl, HI, HA, HNQ, HNL, HSC, HN, BP, HW⟩ := hrel
  have hlen : st.length = pre.length + rest.length := by rw [HA.out, List.length_append]
  have hi0 := HI.out
  have HN6 := Aside0.mk (show nx.length ≤ 100000000 by have := HS6.out; have := HNL.out; omega)
  obtain ⟨An, cn, en⟩ := Kd.R_slice HN.out
  subst en
  obtain ⟨hp0, hp1, hpf0, hpf1⟩ := bz2 BP.out
  cases rest with
  | cons x rest =>
   obtain ⟨x0, x1⟩ := x
   simp only [List.length_cons] at hlen
   have e3 : decide (i < (st.length : Int)) = true := decide_eq_true (by omega)
   have i1 : 0 ≤ i := by omega
   have i2 : i < (st.length : Int) := by omega
   have hx : rd_T38 st i = ⟨x0, x1⟩ := by
    rw [HA.out, hi0]
    show (pre ++ (⟨x0, x1⟩ : S38) :: rest).getD (pre.length : Int).toNat z38 = _
    simp
   obtain ⟨ad1, ea, hxa, hxb⟩ := at_T38 (Kd.C_below (Kd.R_reads' HRF.out).2.2 HW.out) i i1 i2
   rw [hx] at hxa hxb
   cases ea
   obtain ⟨kq, rfl⟩ : ∃ kq, gk = kq + 1 := ⟨rest.length, by have := HNQ.out; simpa using this.symm⟩
   have HIW := Aside0.mk (show wrap64 (i + 1) = i + 1 from by have := HS6.out; unfold wrap64; omega)
   have hw0 := HIW.out
   have hw02 : IntKind.i64.wrap (i + 1) = i + 1 := (i64_w _).trans hw0
   replace i1 := eq_true i1
   replace i2 := eq_true i2
   have hs0 := HSC.out
   rw [impl_frontOf_1.scan] at hs0
   clear hx hi0 hlen HSC
   by_cases he : x0 = p0 ∧ x1 = p1
   ·rw [if_pos he] at hs0
    obtain ⟨he0, he1⟩ := he
    obtain rfl : none = z := Option.some.inj hs0
    have b0 : (x0 == p0) = true := beq_iff_eq.mpr he0
    have b1 : (x1 == p1) = true := beq_iff_eq.mpr he1
    clear hs0 he0 he1
    obtain rfl := HST.out
    go_wp2_with (first | ((with_reducible refine gate_dst (N := 9) rfl ?_); refine box_event ?hg (N := 9) ?hd (cs := #[.int .i64 0, .int .i64 0]) (t := 38) ?hr ?_; (case hd => rfl); (case hg => rfl); (case hr => first | (go_simp; done) | (go_simp; rfl)); intro gq hg w21 hbox hb; have GEq := Aside0.mk (Nat.le_of_eq hg.symm); have HBr := Aside0.mk hb; have BQ := Aside0.mk hbox; clear hb hbox hg; obtain ⟨hq0, hq1, hqf0, hqf1⟩ := bz2 BQ.out) | ((with_reducible refine gate_store (t := 38) (p := 9) rfl ?_); refine store_event (t := 38) (p := 9) (v := ?vo_2) (w1 := ((w21.setCell ⟨gq, 0, none⟩ (.int .i64 x0)).setCell ⟨gq, 1, none⟩ (.int .i64 x1))) ?hg ?ho ?hn ?hr ?_; (case ho => rfl); (case hg => rfl); (case hn => rfl); (case hr => first | (go_simp; done) | (go_simp; rfl)); intro w22 hw; have m1 := Aside0.mk ((by rw [hw]; exact below_set (below_set HBr.out GEq.out) GEq.out : Below wr.heap.size wr w22)); have m2 := Aside0.mk (show w22.heap[gq]? = some (.cells #[.int .i64 x0, .int .i64 x1] 38 (0, 0)) from by rw [hw]; exact blk_put (blk_put BQ.out 0 _ rfl) 1 _ rfl); have m3 := Aside0.mk (blk_below BP.out m1.out); have m4 := Aside0.mk (Kd.R_below HN.out m1.out); have m5 := Aside0.mk (below_step HW.out m1.out); replace BQ := m2; replace BP := m3; replace HN := m4; replace HW := m5; clear m1 m2 m3 m4 m5 hw hq0 hq1 hqf0 hqf1 hp0 hp1 hpf0 hpf1; obtain ⟨hq0, hq1, hqf0, hqf1⟩ := bz2 BQ.out; obtain ⟨hp0, hp1, hpf0, hpf1⟩ := bz2 BP.out))
    (try simp only [Exit.inBlock, Exit.then])
    refine bodyPost_ret (results_none rfl _ _ _) rfl ?_
    exact ⟨rfl, ⟨blk_below BJ.out (bw HW.out), blk_below BO.out (bw HW.out), blk_below BC.out (bw HW.out), ⟨_, blk_below BF.out (bw HW.out), Kd.R_below HRF.out (bw HW.out)⟩⟩, below_step HB.out (bw HW.out), Kept.of_below (bw HW.out) _⟩
   rw [if_neg he] at hs0
   by_cases he0 : x0 = p0
   rotate_left
   ·clear he
    have b0 : (x0 == p0) = false := beq_eq_false_iff_ne.mpr he0
    obtain ⟨d, hd, hs1⟩ := Option.bind_eq_some_iff.mp (show (impl_dominates.f x0 x1 p0 p1).bind _ = some z from hs0)
    have HD := Aside0.mk hd
    clear hd hs0 he0
    cases d with
    | true =>
     obtain rfl : none = z := Option.some.inj hs1
     clear hs1
     obtain rfl := HST.out
     go_wp2_with (first | ((with_reducible refine gate_dst (N := 9) rfl ?_); refine box_event ?hg (N := 9) ?hd (cs := #[.int .i64 0, .int .i64 0]) (t := 38) ?hr ?_; (case hd => rfl); (case hg => rfl); (case hr => first | (go_simp; done) | (go_simp; rfl)); intro gq hg w21 hbox hb; have GEq := Aside0.mk (Nat.le_of_eq hg.symm); have HBr := Aside0.mk hb; have BQ := Aside0.mk hbox; clear hb hbox hg; obtain ⟨hq0, hq1, hqf0, hqf1⟩ := bz2 BQ.out) | ((with_reducible refine gate_store (t := 38) (p := 9) rfl ?_); refine store_event (t := 38) (p := 9) (v := ?vo_2) (w1 := ((w21.setCell ⟨gq, 0, none⟩ (.int .i64 x0)).setCell ⟨gq, 1, none⟩ (.int .i64 x1))) ?hg ?ho ?hn ?hr ?_; (case ho => rfl); (case hg => rfl); (case hn => rfl); (case hr => first | (go_simp; done) | (go_simp; rfl)); intro w22 hw; have m1 := Aside0.mk ((by rw [hw]; exact below_set (below_set HBr.out GEq.out) GEq.out : Below wr.heap.size wr w22)); have m2 := Aside0.mk (show w22.heap[gq]? = some (.cells #[.int .i64 x0, .int .i64 x1] 38 (0, 0)) from by rw [hw]; exact blk_put (blk_put BQ.out 0 _ rfl) 1 _ rfl); have m3 := Aside0.mk (blk_below BP.out m1.out); have m4 := Aside0.mk (Kd.R_below HN.out m1.out); have m5 := Aside0.mk (below_step HW.out m1.out); replace BQ := m2; replace BP := m3; replace HN := m4; replace HW := m5; clear m1 m2 m3 m4 m5 hw hq0 hq1 hqf0 hqf1 hp0 hp1 hpf0 hpf1; obtain ⟨hq0, hq1, hqf0, hqf1⟩ := bz2 BQ.out; obtain ⟨hp0, hp1, hpf0, hpf1⟩ := bz2 BP.out) | (go_at_call 35; (with_reducible refine (impl_dominates.calls x0 x1 p0 p1 true _ HD.out).mono ?_); rintro e w23 ⟨rfl, hb⟩; have m1 := Aside0.mk (blk_below (bs BQ.out) hb); have m3 := Aside0.mk (blk_below (bs BP.out) hb); have m4 := Aside0.mk (Kd.R_below (bR HN.out) hb); have m5 := Aside0.mk (below_step (bw HW.out) hb); replace BQ := m1; replace BP := m3; replace HN := m4; replace HW := m5; clear m1 m3 m4 m5 hb hq0 hq1 hqf0 hqf1 hp0 hp1 hpf0 hpf1; obtain ⟨hq0, hq1, hqf0, hqf1⟩ := bz2 BQ.out; obtain ⟨hp0, hp1, hpf0, hpf1⟩ := bz2 BP.out))
     (try simp only [Exit.inBlock, Exit.then])
     refine bodyPost_ret (results_none rfl _ _ _) rfl ?_
     exact ⟨rfl, ⟨blk_below BJ.out (bw HW.out), blk_below BO.out (bw HW.out), blk_below BC.out (bw HW.out), ⟨_, blk_below BF.out (bw HW.out), Kd.R_below HRF.out (bw HW.out)⟩⟩, below_step HB.out (bw HW.out), Kept.of_below (bw HW.out) _⟩
    | false =>
     obtain ⟨e, he, hs2⟩ := Option.bind_eq_some_iff.mp (show (impl_dominates.f p0 p1 x0 x1).bind _ = some z from hs1)
     have HE := Aside0.mk he
     clear he hs1
     cases e with
     | true =>
      have HS2 := Aside0.mk (show impl_frontOf_1.scan ⟨p0, p1⟩ rest nx = some z from hs2)
      have HL2 := Aside0.mk (show nx.length ≤ (pre ++ [(⟨x0, x1⟩ : S38)]).length by have := HNL.out; rw [List.length_append, List.length_singleton]; omega)
      clear hs2
      go_wp2_with (first | ((with_reducible refine gate_dst (N := 9) rfl ?_); refine box_event ?hg (N := 9) ?hd (cs := #[.int .i64 0, .int .i64 0]) (t := 38) ?hr ?_; (case hd => rfl); (case hg => rfl); (case hr => first | (go_simp; done) | (go_simp; rfl)); intro gq hg w21 hbox hb; have GEq := Aside0.mk (Nat.le_of_eq hg.symm); have HBr := Aside0.mk hb; have BQ := Aside0.mk hbox; clear hb hbox hg; obtain ⟨hq0, hq1, hqf0, hqf1⟩ := bz2 BQ.out) | ((with_reducible refine gate_store (t := 38) (p := 9) rfl ?_); refine store_event (t := 38) (p := 9) (v := ?vo_2) (w1 := ((w21.setCell ⟨gq, 0, none⟩ (.int .i64 x0)).setCell ⟨gq, 1, none⟩ (.int .i64 x1))) ?hg ?ho ?hn ?hr ?_; (case ho => rfl); (case hg => rfl); (case hn => rfl); (case hr => first | (go_simp; done) | (go_simp; rfl)); intro w22 hw; have m1 := Aside0.mk ((by rw [hw]; exact below_set (below_set HBr.out GEq.out) GEq.out : Below wr.heap.size wr w22)); have m2 := Aside0.mk (show w22.heap[gq]? = some (.cells #[.int .i64 x0, .int .i64 x1] 38 (0, 0)) from by rw [hw]; exact blk_put (blk_put BQ.out 0 _ rfl) 1 _ rfl); have m3 := Aside0.mk (blk_below BP.out m1.out); have m4 := Aside0.mk (Kd.R_below HN.out m1.out); have m5 := Aside0.mk (below_step HW.out m1.out); replace BQ := m2; replace BP := m3; replace HN := m4; replace HW := m5; clear m1 m2 m3 m4 m5 hw hq0 hq1 hqf0 hqf1 hp0 hp1 hpf0 hpf1; obtain ⟨hq0, hq1, hqf0, hqf1⟩ := bz2 BQ.out; obtain ⟨hp0, hp1, hpf0, hpf1⟩ := bz2 BP.out) | (go_at_call 35; (with_reducible refine (impl_dominates.calls x0 x1 p0 p1 false _ HD.out).mono ?_); rintro e w23 ⟨rfl, hb⟩; have m1 := Aside0.mk (blk_below (bs BQ.out) hb); have m3 := Aside0.mk (blk_below (bs BP.out) hb); have m4 := Aside0.mk (Kd.R_below (bR HN.out) hb); have m5 := Aside0.mk (below_step (bw HW.out) hb); replace BQ := m1; replace BP := m3; replace HN := m4; replace HW := m5; clear m1 m3 m4 m5 hb hq0 hq1 hqf0 hqf1 hp0 hp1 hpf0 hpf1; obtain ⟨hq0, hq1, hqf0, hqf1⟩ := bz2 BQ.out; obtain ⟨hp0, hp1, hpf0, hpf1⟩ := bz2 BP.out) | ((with_reducible refine gate_callee (f := 35) rfl ?_); refine goesL_ (some 32) rfl rfl Try.func35 (by kernel_rfl) rfl #[.agg #[.int .i64 p0, .int .i64 p1], .agg #[.int .i64 x0, .int .i64 x1]] rfl (by (try simp only [mA_]); first | done | rfl) ?_; (with_reducible refine (impl_dominates.calls p0 p1 x0 x1 true _ HE.out).mono ?_); rintro e w24 ⟨rfl, hb⟩; refine ⟨_, rfl, ?_⟩; have m1 := Aside0.mk (blk_below (bs BQ.out) hb); have m3 := Aside0.mk (blk_below (bs BP.out) hb); have m4 := Aside0.mk (Kd.R_below (bR HN.out) hb); have m5 := Aside0.mk (below_step (bw HW.out) hb); replace BQ := m1; replace BP := m3; replace HN := m4; replace HW := m5; clear m1 m3 m4 m5 hb hq0 hq1 hqf0 hqf1 hp0 hp1 hpf0 hpf1; obtain ⟨hq0, hq1, hqf0, hqf1⟩ := bz2 BQ.out; obtain ⟨hp0, hp1, hpf0, hpf1⟩ := bz2 BP.out))
      go_roundg kq
      case measure => omega
      case rel => exact ⟨i + 1, pre ++ [⟨x0, x1⟩], rest, nx, (by first | rfl | rw [HIW.out]), ⟨by have := HI.out; simp; omega⟩, ⟨by rw [HA.out]; simp⟩, ⟨by have := HNQ.out; simp at this; omega⟩, HL2, HS2, ⟨bR HN.out⟩, ⟨bs BP.out⟩, ⟨bw HW.out⟩⟩
     | false =>
      have HS2 := Aside0.mk (show impl_frontOf_1.scan ⟨p0, p1⟩ rest (nx ++ [⟨x0, x1⟩]) = some z from hs2)
      have HL2 := Aside0.mk (show (nx ++ [(⟨x0, x1⟩ : S38)]).length ≤ (pre ++ [(⟨x0, x1⟩ : S38)]).length by have := HNL.out; rw [List.length_append, List.length_append, List.length_singleton]; omega)
      clear hs2
      go_wp2_with (first | ((with_reducible refine gate_dst (N := 9) rfl ?_); refine box_event ?hg (N := 9) ?hd (cs := #[.int .i64 0, .int .i64 0]) (t := 38) ?hr ?_; (case hd => rfl); (case hg => rfl); (case hr => first | (go_simp; done) | (go_simp; rfl)); intro gq hg w21 hbox hb; have GEq := Aside0.mk (Nat.le_of_eq hg.symm); have HBr := Aside0.mk hb; have BQ := Aside0.mk hbox; clear hb hbox hg; obtain ⟨hq0, hq1, hqf0, hqf1⟩ := bz2 BQ.out) | ((with_reducible refine gate_store (t := 38) (p := 9) rfl ?_); refine store_event (t := 38) (p := 9) (v := ?vo_2) (w1 := ((w21.setCell ⟨gq, 0, none⟩ (.int .i64 x0)).setCell ⟨gq, 1, none⟩ (.int .i64 x1))) ?hg ?ho ?hn ?hr ?_; (case ho => rfl); (case hg => rfl); (case hn => rfl); (case hr => first | (go_simp; done) | (go_simp; rfl)); intro w22 hw; have m1 := Aside0.mk ((by rw [hw]; exact below_set (below_set HBr.out GEq.out) GEq.out : Below wr.heap.size wr w22)); have m2 := Aside0.mk (show w22.heap[gq]? = some (.cells #[.int .i64 x0, .int .i64 x1] 38 (0, 0)) from by rw [hw]; exact blk_put (blk_put BQ.out 0 _ rfl) 1 _ rfl); have m3 := Aside0.mk (blk_below BP.out m1.out); have m4 := Aside0.mk (Kd.R_below HN.out m1.out); have m5 := Aside0.mk (below_step HW.out m1.out); replace BQ := m2; replace BP := m3; replace HN := m4; replace HW := m5; clear m1 m2 m3 m4 m5 hw hq0 hq1 hqf0 hqf1 hp0 hp1 hpf0 hpf1; obtain ⟨hq0, hq1, hqf0, hqf1⟩ := bz2 BQ.out; obtain ⟨hp0, hp1, hpf0, hpf1⟩ := bz2 BP.out) | (go_at_call 35; (with_reducible refine (impl_dominates.calls x0 x1 p0 p1 false _ HD.out).mono ?_); rintro e w23 ⟨rfl, hb⟩; have m1 := Aside0.mk (blk_below (bs BQ.out) hb); have m3 := Aside0.mk (blk_below (bs BP.out) hb); have m4 := Aside0.mk (Kd.R_below (bR HN.out) hb); have m5 := Aside0.mk (below_step (bw HW.out) hb); replace BQ := m1; replace BP := m3; replace HN := m4; replace HW := m5; clear m1 m3 m4 m5 hb hq0 hq1 hqf0 hqf1 hp0 hp1 hpf0 hpf1; obtain ⟨hq0, hq1, hqf0, hqf1⟩ := bz2 BQ.out; obtain ⟨hp0, hp1, hpf0, hpf1⟩ := bz2 BP.out) | ((with_reducible refine gate_callee (f := 35) rfl ?_); refine goesL_ (some 32) rfl rfl Try.func35 (by kernel_rfl) rfl #[.agg #[.int .i64 p0, .int .i64 p1], .agg #[.int .i64 x0, .int .i64 x1]] rfl (by (try simp only [mA_]); first | done | rfl) ?_; (with_reducible refine (impl_dominates.calls p0 p1 x0 x1 false _ HE.out).mono ?_); rintro e w24 ⟨rfl, hb⟩; refine ⟨_, rfl, ?_⟩; have m1 := Aside0.mk (blk_below (bs BQ.out) hb); have m3 := Aside0.mk (blk_below (bs BP.out) hb); have m4 := Aside0.mk (Kd.R_below (bR HN.out) hb); have m5 := Aside0.mk (below_step (bw HW.out) hb); replace BQ := m1; replace BP := m3; replace HN := m4; replace HW := m5; clear m1 m3 m4 m5 hb hq0 hq1 hqf0 hqf1 hp0 hp1 hpf0 hpf1; obtain ⟨hq0, hq1, hqf0, hqf1⟩ := bz2 BQ.out; obtain ⟨hp0, hp1, hpf0, hpf1⟩ := bz2 BP.out) | ((with_reducible refine gate_builtin (b := .append) (xs := #[.tmp 34, .tmp 36]) rfl ?_); at_builtin; refine Kd.R_append k38 (w0 := W) W.heap.size rfl (.tmp 34) (.tmp 36) 36 38 (.agg #[(.int .i64 0), (.int .i64 0)]) 16 rfl Try.underlying36 info38 rfl (by decide) (by omega) (.slice An nx.length cn) nx (⟨x0, x1⟩ : S38) [.int .i64 x0, .int .i64 x1] (fun k_ => k_ ≠ gp) (fun _ => False) rfl rfl ?aP (fun _ hk => hk.elim) ?aF ?aO ?aB ?aS ?aL ?_; (case aP => exact k38_mkM _ _ _ (⟨x0, x1⟩ : S38)); (case aB => exact bw HW.out); (case aF => exact (fun k_ hk => Kd.freshB (bs BP.out) k_ hk)); (case aO => exact (bR HN.out)); (case aS => exact (below_size (bw HW.out))); (case aL => have := HN6.out; omega); intro v8 w8 ho hb hg hat; have HN2 := Aside0.mk ho; have HW2 := Aside0.mk hb; have BP2 := Aside0.mk (blk_grown (bs BP.out) hg (Kd.R_away HN.out (fun _ hk => hk))); clear ho hb hg hat HN HW))
      all_goals (
       go_roundg kq
       case measure => omega
       case rel => exact ⟨i + 1, pre ++ [⟨x0, x1⟩], rest, nx ++ [⟨x0, x1⟩], (by first | rfl | rw [HIW.out]), ⟨by have := HI.out; simp; omega⟩, ⟨by rw [HA.out]; simp⟩, ⟨by have := HNQ.out; simp at this; omega⟩, HL2, HS2, HN2, BP2, HW2⟩
      )
   have he1 : ¬ x1 = p1 := fun h => he ⟨he0, h⟩
   clear he
   have b0 : (x0 == p0) = true := beq_iff_eq.mpr he0
   have b1 : (x1 == p1) = false := beq_eq_false_iff_ne.mpr he1
   obtain ⟨d, hd, hs1⟩ := Option.bind_eq_some_iff.mp (show (impl_dominates.f x0 x1 p0 p1).bind _ = some z from hs0)
   have HD := Aside0.mk hd
   clear hd hs0 he0 he1
   cases d with
   | true =>
    obtain rfl : none = z := Option.some.inj hs1
    clear hs1
    obtain rfl := HST.out
    go_wp2_with (first | ((with_reducible refine gate_dst (N := 9) rfl ?_); refine box_event ?hg (N := 9) ?hd (cs := #[.int .i64 0, .int .i64 0]) (t := 38) ?hr ?_; (case hd => rfl); (case hg => rfl); (case hr => first | (go_simp; done) | (go_simp; rfl)); intro gq hg w21 hbox hb; have GEq := Aside0.mk (Nat.le_of_eq hg.symm); have HBr := Aside0.mk hb; have BQ := Aside0.mk hbox; clear hb hbox hg; obtain ⟨hq0, hq1, hqf0, hqf1⟩ := bz2 BQ.out) | ((with_reducible refine gate_store (t := 38) (p := 9) rfl ?_); refine store_event (t := 38) (p := 9) (v := ?vo_2) (w1 := ((w21.setCell ⟨gq, 0, none⟩ (.int .i64 x0)).setCell ⟨gq, 1, none⟩ (.int .i64 x1))) ?hg ?ho ?hn ?hr ?_; (case ho => rfl); (case hg => rfl); (case hn => rfl); (case hr => first | (go_simp; done) | (go_simp; rfl)); intro w22 hw; have m1 := Aside0.mk ((by rw [hw]; exact below_set (below_set HBr.out GEq.out) GEq.out : Below wr.heap.size wr w22)); have m2 := Aside0.mk (show w22.heap[gq]? = some (.cells #[.int .i64 x0, .int .i64 x1] 38 (0, 0)) from by rw [hw]; exact blk_put (blk_put BQ.out 0 _ rfl) 1 _ rfl); have m3 := Aside0.mk (blk_below BP.out m1.out); have m4 := Aside0.mk (Kd.R_below HN.out m1.out); have m5 := Aside0.mk (below_step HW.out m1.out); replace BQ := m2; replace BP := m3; replace HN := m4; replace HW := m5; clear m1 m2 m3 m4 m5 hw hq0 hq1 hqf0 hqf1 hp0 hp1 hpf0 hpf1; obtain ⟨hq0, hq1, hqf0, hqf1⟩ := bz2 BQ.out; obtain ⟨hp0, hp1, hpf0, hpf1⟩ := bz2 BP.out) | (go_at_call 35; (with_reducible refine (impl_dominates.calls x0 x1 p0 p1 true _ HD.out).mono ?_); rintro e w23 ⟨rfl, hb⟩; have m1 := Aside0.mk (blk_below (bs BQ.out) hb); have m3 := Aside0.mk (blk_below (bs BP.out) hb); have m4 := Aside0.mk (Kd.R_below (bR HN.out) hb); have m5 := Aside0.mk (below_step (bw HW.out) hb); replace BQ := m1; replace BP := m3; replace HN := m4; replace HW := m5; clear m1 m3 m4 m5 hb hq0 hq1 hqf0 hqf1 hp0 hp1 hpf0 hpf1; obtain ⟨hq0, hq1, hqf0, hqf1⟩ := bz2 BQ.out; obtain ⟨hp0, hp1, hpf0, hpf1⟩ := bz2 BP.out))
    (try simp only [Exit.inBlock, Exit.then])
    refine bodyPost_ret (results_none rfl _ _ _) rfl ?_
    exact ⟨rfl, ⟨blk_below BJ.out (bw HW.out), blk_below BO.out (bw HW.out), blk_below BC.out (bw HW.out), ⟨_, blk_below BF.out (bw HW.out), Kd.R_below HRF.out (bw HW.out)⟩⟩, below_step HB.out (bw HW.out), Kept.of_below (bw HW.out) _⟩
   | false =>
    obtain ⟨e, he, hs2⟩ := Option.bind_eq_some_iff.mp (show (impl_dominates.f p0 p1 x0 x1).bind _ = some z from hs1)
    have HE := Aside0.mk he
    clear he hs1
    cases e with
    | true =>
     have HS2 := Aside0.mk (show impl_frontOf_1.scan ⟨p0, p1⟩ rest nx = some z from hs2)
     have HL2 := Aside0.mk (show nx.length ≤ (pre ++ [(⟨x0, x1⟩ : S38)]).length by have := HNL.out; rw [List.length_append, List.length_singleton]; omega)
     clear hs2
     go_wp2_with (first | ((with_reducible refine gate_dst (N := 9) rfl ?_); refine box_event ?hg (N := 9) ?hd (cs := #[.int .i64 0, .int .i64 0]) (t := 38) ?hr ?_; (case hd => rfl); (case hg => rfl); (case hr => first | (go_simp; done) | (go_simp; rfl)); intro gq hg w21 hbox hb; have GEq := Aside0.mk (Nat.le_of_eq hg.symm); have HBr := Aside0.mk hb; have BQ := Aside0.mk hbox; clear hb hbox hg; obtain ⟨hq0, hq1, hqf0, hqf1⟩ := bz2 BQ.out) | ((with_reducible refine gate_store (t := 38) (p := 9) rfl ?_); refine store_event (t := 38) (p := 9) (v := ?vo_2) (w1 := ((w21.setCell ⟨gq, 0, none⟩ (.int .i64 x0)).setCell ⟨gq, 1, none⟩ (.int .i64 x1))) ?hg ?ho ?hn ?hr ?_; (case ho => rfl); (case hg => rfl); (case hn => rfl); (case hr => first | (go_simp; done) | (go_simp; rfl)); intro w22 hw; have m1 := Aside0.mk ((by rw [hw]; exact below_set (below_set HBr.out GEq.out) GEq.out : Below wr.heap.size wr w22)); have m2 := Aside0.mk (show w22.heap[gq]? = some (.cells #[.int .i64 x0, .int .i64 x1] 38 (0, 0)) from by rw [hw]; exact blk_put (blk_put BQ.out 0 _ rfl) 1 _ rfl); have m3 := Aside0.mk (blk_below BP.out m1.out); have m4 := Aside0.mk (Kd.R_below HN.out m1.out); have m5 := Aside0.mk (below_step HW.out m1.out); replace BQ := m2; replace BP := m3; replace HN := m4; replace HW := m5; clear m1 m2 m3 m4 m5 hw hq0 hq1 hqf0 hqf1 hp0 hp1 hpf0 hpf1; obtain ⟨hq0, hq1, hqf0, hqf1⟩ := bz2 BQ.out; obtain ⟨hp0, hp1, hpf0, hpf1⟩ := bz2 BP.out) | (go_at_call 35; (with_reducible refine (impl_dominates.calls x0 x1 p0 p1 false _ HD.out).mono ?_); rintro e w23 ⟨rfl, hb⟩; have m1 := Aside0.mk (blk_below (bs BQ.out) hb); have m3 := Aside0.mk (blk_below (bs BP.out) hb); have m4 := Aside0.mk (Kd.R_below (bR HN.out) hb); have m5 := Aside0.mk (below_step (bw HW.out) hb); replace BQ := m1; replace BP := m3; replace HN := m4; replace HW := m5; clear m1 m3 m4 m5 hb hq0 hq1 hqf0 hqf1 hp0 hp1 hpf0 hpf1; obtain ⟨hq0, hq1, hqf0, hqf1⟩ := bz2 BQ.out; obtain ⟨hp0, hp1, hpf0, hpf1⟩ := bz2 BP.out) | ((with_reducible refine gate_callee (f := 35) rfl ?_); refine goesL_ (some 32) rfl rfl Try.func35 (by kernel_rfl) rfl #[.agg #[.int .i64 p0, .int .i64 p1], .agg #[.int .i64 x0, .int .i64 x1]] rfl (by (try simp only [mA_]); first | done | rfl) ?_; (with_reducible refine (impl_dominates.calls p0 p1 x0 x1 true _ HE.out).mono ?_); rintro e w24 ⟨rfl, hb⟩; refine ⟨_, rfl, ?_⟩; have m1 := Aside0.mk (blk_below (bs BQ.out) hb); have m3 := Aside0.mk (blk_below (bs BP.out) hb); have m4 := Aside0.mk (Kd.R_below (bR HN.out) hb); have m5 := Aside0.mk (below_step (bw HW.out) hb); replace BQ := m1; replace BP := m3; replace HN := m4; replace HW := m5; clear m1 m3 m4 m5 hb hq0 hq1 hqf0 hqf1 hp0 hp1 hpf0 hpf1; obtain ⟨hq0, hq1, hqf0, hqf1⟩ := bz2 BQ.out; obtain ⟨hp0, hp1, hpf0, hpf1⟩ := bz2 BP.out))
     go_roundg kq
     case measure => omega
     case rel => exact ⟨i + 1, pre ++ [⟨x0, x1⟩], rest, nx, (by first | rfl | rw [HIW.out]), ⟨by have := HI.out; simp; omega⟩, ⟨by rw [HA.out]; simp⟩, ⟨by have := HNQ.out; simp at this; omega⟩, HL2, HS2, ⟨bR HN.out⟩, ⟨bs BP.out⟩, ⟨bw HW.out⟩⟩
    | false =>
     have HS2 := Aside0.mk (show impl_frontOf_1.scan ⟨p0, p1⟩ rest (nx ++ [⟨x0, x1⟩]) = some z from hs2)
     have HL2 := Aside0.mk (show (nx ++ [(⟨x0, x1⟩ : S38)]).length ≤ (pre ++ [(⟨x0, x1⟩ : S38)]).length by have := HNL.out; rw [List.length_append, List.length_append, List.length_singleton]; omega)
     clear hs2
     go_wp2_with (first | ((with_reducible refine gate_dst (N := 9) rfl ?_); refine box_event ?hg (N := 9) ?hd (cs := #[.int .i64 0, .int .i64 0]) (t := 38) ?hr ?_; (case hd => rfl); (case hg => rfl); (case hr => first | (go_simp; done) | (go_simp; rfl)); intro gq hg w21 hbox hb; have GEq := Aside0.mk (Nat.le_of_eq hg.symm); have HBr := Aside0.mk hb; have BQ := Aside0.mk hbox; clear hb hbox hg; obtain ⟨hq0, hq1, hqf0, hqf1⟩ := bz2 BQ.out) | ((with_reducible refine gate_store (t := 38) (p := 9) rfl ?_); refine store_event (t := 38) (p := 9) (v := ?vo_2) (w1 := ((w21.setCell ⟨gq, 0, none⟩ (.int .i64 x0)).setCell ⟨gq, 1, none⟩ (.int .i64 x1))) ?hg ?ho ?hn ?hr ?_; (case ho => rfl); (case hg => rfl); (case hn => rfl); (case hr => first | (go_simp; done) | (go_simp; rfl)); intro w22 hw; have m1 := Aside0.mk ((by rw [hw]; exact below_set (below_set HBr.out GEq.out) GEq.out : Below wr.heap.size wr w22)); have m2 := Aside0.mk (show w22.heap[gq]? = some (.cells #[.int .i64 x0, .int .i64 x1] 38 (0, 0)) from by rw [hw]; exact blk_put (blk_put BQ.out 0 _ rfl) 1 _ rfl); have m3 := Aside0.mk (blk_below BP.out m1.out); have m4 := Aside0.mk (Kd.R_below HN.out m1.out); have m5 := Aside0.mk (below_step HW.out m1.out); replace BQ := m2; replace BP := m3; replace HN := m4; replace HW := m5; clear m1 m2 m3 m4 m5 hw hq0 hq1 hqf0 hqf1 hp0 hp1 hpf0 hpf1; obtain ⟨hq0, hq1, hqf0, hqf1⟩ := bz2 BQ.out; obtain ⟨hp0, hp1, hpf0, hpf1⟩ := bz2 BP.out) | (go_at_call 35; (with_reducible refine (impl_dominates.calls x0 x1 p0 p1 false _ HD.out).mono ?_); rintro e w23 ⟨rfl, hb⟩; have m1 := Aside0.mk (blk_below (bs BQ.out) hb); have m3 := Aside0.mk (blk_below (bs BP.out) hb); have m4 := Aside0.mk (Kd.R_below (bR HN.out) hb); have m5 := Aside0.mk (below_step (bw HW.out) hb); replace BQ := m1; replace BP := m3; replace HN := m4; replace HW := m5; clear m1 m3 m4 m5 hb hq0 hq1 hqf0 hqf1 hp0 hp1 hpf0 hpf1; obtain ⟨hq0, hq1, hqf0, hqf1⟩ := bz2 BQ.out; obtain ⟨hp0, hp1, hpf0, hpf1⟩ := bz2 BP.out) | ((with_reducible refine gate_callee (f := 35) rfl ?_); refine goesL_ (some 32) rfl rfl Try.func35 (by kernel_rfl) rfl #[.agg #[.int .i64 p0, .int .i64 p1], .agg #[.int .i64 x0, .int .i64 x1]] rfl (by (try simp only [mA_]); first | done | rfl) ?_; (with_reducible refine (impl_dominates.calls p0 p1 x0 x1 false _ HE.out).mono ?_); rintro e w24 ⟨rfl, hb⟩; refine ⟨_, rfl, ?_⟩; have m1 := Aside0.mk (blk_below (bs BQ.out) hb); have m3 := Aside0.mk (blk_below (bs BP.out) hb); have m4 := Aside0.mk (Kd.R_below (bR HN.out) hb); have m5 := Aside0.mk (below_step (bw HW.out) hb); replace BQ := m1; replace BP := m3; replace HN := m4; replace HW := m5; clear m1 m3 m4 m5 hb hq0 hq1 hqf0 hqf1 hp0 hp1 hpf0 hpf1; obtain ⟨hq0, hq1, hqf0, hqf1⟩ := bz2 BQ.out; obtain ⟨hp0, hp1, hpf0, hpf1⟩ := bz2 BP.out) | ((with_reducible refine gate_builtin (b := .append) (xs := #[.tmp 34, .tmp 36]) rfl ?_); at_builtin; refine Kd.R_append k38 (w0 := W) W.heap.size rfl (.tmp 34) (.tmp 36) 36 38 (.agg #[(.int .i64 0), (.int .i64 0)]) 16 rfl Try.underlying36 info38 rfl (by decide) (by omega) (.slice An nx.length cn) nx (⟨x0, x1⟩ : S38) [.int .i64 x0, .int .i64 x1] (fun k_ => k_ ≠ gp) (fun _ => False) rfl rfl ?aP (fun _ hk => hk.elim) ?aF ?aO ?aB ?aS ?aL ?_; (case aP => exact k38_mkM _ _ _ (⟨x0, x1⟩ : S38)); (case aB => exact bw HW.out); (case aF => exact (fun k_ hk => Kd.freshB (bs BP.out) k_ hk)); (case aO => exact (bR HN.out)); (case aS => exact (below_size (bw HW.out))); (case aL => have := HN6.out; omega); intro v8 w8 ho hb hg hat; have HN2 := Aside0.mk ho; have HW2 := Aside0.mk hb; have BP2 := Aside0.mk (blk_grown (bs BP.out) hg (Kd.R_away HN.out (fun _ hk => hk))); clear ho hb hg hat HN HW))
     all_goals (
      go_roundg kq
      case measure => omega
      case rel => exact ⟨i + 1, pre ++ [⟨x0, x1⟩], rest, nx ++ [⟨x0, x1⟩], (by first | rfl | rw [HIW.out]), ⟨by have := HI.out; simp; omega⟩, ⟨by rw [HA.out]; simp⟩, ⟨by have := HNQ.out; simp at this; omega⟩, HL2, HS2, HN2, BP2, HW2⟩
     )
  | nil =>
   simp only [List.length_nil, Nat.add_zero] at hlen
   have e3 : decide (i < (st.length : Int)) = false := decide_eq_false (by omega)
   obtain rfl : some nx = z := Option.some.inj (show some (some nx) = some z from HSC.out)
   obtain ⟨kk, hkk⟩ : ∃ kk, impl_frontOf_1.bk ⟨p0, p1⟩ nx nx.length = kk := ⟨_, rfl⟩
   have HKL := Aside0.mk (show kk ≤ nx.length from hkk ▸ impl_frontOf_1.bk_le _ _ _)
   have HST2 := Aside0.mk (show nx.take kk ++ (⟨p0, p1⟩ : S38) :: nx.drop kk = st' from by have := HST.out; rw [← hkk]; exact this)
   have HKK := Aside0.mk hkk
   clear hlen hi0 hkk HSC HST
   go_wp2
   go_loopg [10] nx.length (fun q_ v10 w' => ∃ (m : Nat), v10 = .int .i64 (m : Int) ∧ Aside0 (m = q_) ∧ Aside0 (m ≤ nx.length) ∧ Aside0 (impl_frontOf_1.bk ⟨p0, p1⟩ nx m = kk) ∧ Aside0 (Kd.R k38 38 w' W.heap.size (fun k_ => k_ ≠ gp) (.slice An nx.length cn) nx) ∧ Aside0 (w'.heap[gp]? = some (.cells #[.int .i64 p0, .int .i64 p1] 38 (0, 0))) ∧ Aside0 (Below W.heap.size W w'))
   case atStart => exact ⟨nx.length, rfl, ⟨rfl⟩, ⟨Nat.le_refl _⟩, HKK, HN, BP, HW⟩
   case round =>
    clear HKK HN BP HW hp0 hp1 hpf0 hpf1
    obtain ⟨m, rfl, HMQ, HML, HKK, HN, BP, HW⟩ := hrel
    obtain ⟨hp0, hp1, hpf0, hpf1⟩ := bz2 BP.out
    by_cases hm0 : m = 0
    ·have d1 : decide ((m : Int) > 0) = false := decide_eq_false (by omega)
     have d2 : decide (0 < (m : Int)) = false := decide_eq_false (by omega)
     have d2n : decide (0 < m) = false := decide_eq_false (by omega)
     obtain rfl : kk = m := by have := HKK.out; rw [hm0] at this; exact this.symm.trans hm0.symm
     clear hm0
     go_wp2
     have n1 := Aside0.mk (Kd.R_drew HN.out)
     have n2 := Aside0.mk (blk_drew BP.out)
     have n3 := Aside0.mk (below_drew1 HW.out)
     replace HN := n1
     replace BP := n2
     replace HW := n3
     clear n1 n2 n3
     refine start_ (n := 13) (S := fun w' => True) (ds := []) q34_0 (by kernel_rfl) rfl rfl trivial (fun hHeld => ?_)
     clear hp0 hp1 hpf0 hpf1
     generalize wr.drew = wd at HN BP HW hHeld ⊢
     refine puq_ (i := 0) (N := some 41) rfl rfl (by kernel_rfl) (fun _ _ _ h => h) (Or.inl ⟨by rfl, by intro w'; go_simp; with_reducible rfl⟩) (by simp only [aq_]; rfl) ?_
     refine puq_ (i := 1) (N := some 42) rfl rfl (by kernel_rfl) (fun _ _ _ h => h) (Or.inl ⟨by rfl, by intro w'; go_simp; with_reducible rfl⟩) (by simp only [aq_]; rfl) ?_
     refine puq_ (i := 2) (N := some 43) rfl rfl (by kernel_rfl) (fun _ _ _ h => h) (Or.inl ⟨by rfl, by intro w'; go_simp; with_reducible rfl⟩) (by simp only [aq_]; rfl) ?_
     refine skq_ 3 (some 44) rfl rfl (by kernel_rfl) (fun _ _ _ h => h) (by rfl) (by simp only [aq_]; rfl) ?_
     refine skq_ 4 (some 45) rfl rfl (by kernel_rfl) (fun _ _ _ h => h) (by rfl) (by simp only [aq_]; rfl) ?_
     refine skq_ 5 (some 46) rfl rfl (by kernel_rfl) (fun _ _ _ h => h) (by rfl) (by simp only [aq_]; rfl) ?_
     refine skq_ 6 (some 47) rfl rfl (by kernel_rfl) (fun _ _ _ h => h) (by rfl) (by simp only [aq_]; rfl) ?_
     refine skq_ 7 (some 48) rfl rfl (by kernel_rfl) (fun _ _ _ h => h) (by rfl) (by simp only [aq_]; rfl) ?_
     refine skq_ 8 (some 49) rfl rfl (by kernel_rfl) (fun _ _ _ h => h) (by rfl) (by simp only [aq_]; rfl) ?_
     refine skq_ 9 (some 50) rfl rfl (by kernel_rfl) (fun _ _ _ h => h) (by rfl) (by simp only [aq_]; rfl) ?_
     refine skq_ 10 (some 51) rfl rfl (by kernel_rfl) (fun _ _ _ h => h) (by rfl) (by simp only [aq_]; rfl) ?_
     refine skq_ 11 (some 52) rfl rfl (by kernel_rfl) (fun _ _ _ h => h) (by rfl) (by simp only [aq_]; rfl) ?_
     refine puq_ (i := 12) (N := some 53) rfl rfl (by kernel_rfl) (fun _ _ _ h => h) (Or.inl ⟨by rfl, by intro w'; go_simp; with_reducible rfl⟩) (by simp only [aq_]; rfl) ?_
     refine done_ (by kernel_rfl) ?_
     obtain ⟨hp0, hp1, hpf0, hpf1⟩ := bz2 BP.out
     go_wp2_with ((with_reducible refine gate_builtin (b := .append) (xs := #[.tmp 56, .tmp 58]) rfl ?_); at_builtin; refine Kd.R_append k38 (w0 := W) W.heap.size rfl (.tmp 56) (.tmp 58) 36 38 (.agg #[(.int .i64 0), (.int .i64 0)]) 16 rfl Try.underlying36 info38 rfl (by decide) (by omega) (.slice An nx.length cn) nx (⟨p0, p1⟩ : S38) [.int .i64 p0, .int .i64 p1] (fun k_ => k_ ≠ gp) (fun _ => False) rfl rfl ?aP (fun _ hk => hk.elim) ?aF ?aO ?aB ?aS ?aL ?_; (case aP => exact k38_mkM _ _ _ (⟨p0, p1⟩ : S38)); (case aB => exact bw HW.out); (case aF => exact (fun k_ hk => Kd.freshB (bs BP.out) k_ hk)); (case aO => exact (bR HN.out)); (case aS => exact (below_size (bw HW.out))); (case aL => have := HN6.out; omega); intro v8 w8 ho hb hg hat; have HN2 := Aside0.mk ho; have HW2 := Aside0.mk hb; have BP2 := Aside0.mk (blk_grown (bs BP.out) hg (Kd.R_away HN.out (fun _ hk => hk))); clear ho hb hg hat HN HW)
     obtain ⟨go, c3, e3, gb, gl, HG⟩ := Kd.R_form HN2.out (by simp)
     subst e3
     rw [List.length_append, List.length_singleton] at HN2
     have hgo_ne : gp ≠ go := fun e => (HN2.out.1 go rfl) e.symm
     have HFC := Aside0.mk (show nx.length + 1 ≤ c3 from by have := (Kd.R_reads' HN2.out).2.1; simpa using this)
     clear HG gl
     have u1 : wrap64 ((kk : Int) + 1) = (kk : Int) + 1 := by have := HKL.out; have := HN6.out; unfold wrap64; omega
     have u2 : IntKind.i64.wrap ((kk : Int) + 1) = (kk : Int) + 1 := (i64_w _).trans u1
     have v1 : 0 ≤ (kk : Int) + 1 := by omega
     have v2 : (kk : Int) + 1 ≤ (nx.length : Int) + 1 := by have := HKL.out; omega
     have v3 : (kk : Int) ≤ (nx.length : Int) + 1 := by have := HKL.out; omega
     have v4 : 0 ≤ (kk : Int) := by omega
     have v5 : kk ≤ nx.length := HKL.out
     have v6 : ¬ c3 = kk := by have := HKL.out; have := HFC.out; omega
     have v7 : ((kk : Int) + 1).toNat = kk + 1 := by omega
     clear v5
     have v5 : kk ≤ nx.length := HKL.out
     go_still_tail 7, (show Try.prog.follows .mixedOrders = true from by rfl)
     obtain ⟨hn7, cur, hcur, hgo, hcl, hnc, hct, hcopy⟩ := impl_frontOf_1.copied HN2.out
     have HCP := Aside0.mk hcopy
     clear hcopy
     refine impl_frontOf_1.copy_rows 2 rfl (.tmp 63) (.tmp 66) 36 36 rfl 38 Try.underlying36 (by kernel_rfl) (if c3 = kk + 1 then some ⟨go, 0, none⟩ else some ⟨go, (kk + 1) * 2, none⟩) (some ⟨go, kk * 2, none⟩) (nx.length - kk) (c3 - (kk + 1)) (nx.length + 1 - kk) (c3 - kk) rfl rfl go ((kk + 1) * 2) cur 38 hcur (impl_frontOf_1.flat (nx.drop kk)) (nx.length - kk) ?cm ?cn ?cp ?cf ?c1 W.heap.size W ?cb hgo ?_
     case cm => exact (Nat.min_eq_right (by omega)).symm
     case cn => rw [impl_frontOf_1.flat_len, List.length_drop]
     case cp =>
      intro hpos
      have hpos' : kk < nx.length := by omega
      have := HFC.out
      refine ⟨if_neg (by omega), ⟨go, kk * 2, none⟩, rfl, fun j v hj => ?_⟩
      have hjl : j < (nx.length - kk) * 2 := by
       have := (List.getElem?_eq_some_iff.mp hj).1
       rw [impl_frontOf_1.flat_len, List.length_drop] at this
       exact this
      have hcell : w8.heap[go]? = some (.cells cur.toArray 38 (0, 0)) := hcur
      have h5 : ((impl_frontOf_1.flat (nx ++ [(⟨p0, p1⟩ : S38)])).drop (kk * 2))[j]? = some v := by
       rw [impl_frontOf_1.flat_app, List.drop_append_of_le_length (by rw [impl_frontOf_1.flat_len]; omega), ← impl_frontOf_1.flat_drop, List.getElem?_append_left (by rw [impl_frontOf_1.flat_len, List.length_drop]; omega)]
       exact hj
      rw [← hct, List.getElem?_drop, List.getElem?_take_of_lt (by omega)] at h5
      have h6 := cell_of_row w8 go (kk * 2 + j) cur.toArray 38 (0, 0) hcell
      rw [show (⟨go, kk * 2, none⟩ : Addr).add j = ⟨go, kk * 2 + j, none⟩ from by first | rfl | (simp only [add_plain]; done) | simp [Addr.add]]
      refine h6.trans ?_
      simpa using h5
     case cf => rw [impl_frontOf_1.flat_len, List.length_drop]; have := HFC.out; omega
     case c1 => exact impl_frontOf_1.flat_one _
     case cb => exact pw_below_drewN HW2.out 1
     intro w9 hg9 hb9 hk9
     have HR9 := Aside0.mk (HCP.out (nx.drop kk) (kk + 1) w9 (by rw [List.length_drop]; omega) hg9)
     have HW9 := Aside0.mk hb9
     have BP9 := Aside0.mk ((hk9 gp hgo_ne).trans BP2.out)
     have HGB := Aside0.mk hgo
     clear hn7 hg9 hb9 hk9 HCP hcur HN2 HW2 hcl hnc hct BP2
     generalize (if c3 = kk + 1 then (some ⟨go, 0, none⟩ : Option Addr) else some ⟨go, (kk + 1) * 2, none⟩) = A37
     have HR10 := Aside0.mk (show Kd.R k38 38 w9 W.heap.size (fun k_ => k_ ≠ gp) (.slice (some ⟨go, 0, none⟩) (nx.length + 1) c3) ((nx ++ [(⟨p0, p1⟩ : S38)]).take (kk + 1) ++ nx.drop kk) from by
      have := HR9.out
      rw [List.length_drop, show List.drop (kk + 1 + (nx.length - kk)) (nx ++ [(⟨p0, p1⟩ : S38)]) = [] from List.drop_of_length_le (by rw [List.length_append, List.length_singleton]; omega), List.append_nil] at this
      exact this)
     clear HR9
     obtain ⟨hp0, hp1, hpf0, hpf1⟩ := bz2 BP9.out
     obtain ⟨hcf, hff⟩ := bz1 (blk_below BF.out HW9.out)
     have w1_ : (kk : Int) < (nx.length : Int) + 1 := by omega
     obtain ⟨ce, hcl, hM, hcc, hfr⟩ := Kd.R_elem HR10.out z38 (kk : Int) v4 (by omega)
     obtain rfl := k38_openM hM
     have HP := Kd.R_seg HR10.out (kk : Int) v4 (by omega) (seg := [.int .i64 p0, .int .i64 p1]) (j := 0) hcl hcc (show 2 ≤ 2 from by decide) (x' := (⟨p0, p1⟩ : S38)) (k38_mkM _ _ _ (⟨p0, p1⟩ : S38)) (fun _ hk => hk)
     have hy0 := hcc 0 _ rfl
     have hy1 := hcc 1 _ rfl
     have hz0 := hfr 0
     have hz1 := hfr 1
     simp only [show (k38).sz = 2 from rfl, Nat.add_zero, Int.toNat_natCast] at hy0 hy1 hz0 hz1 HP
     clear hcl hcc hfr hM
     go_wp2_with ((with_reducible refine gate_store (t := 38) (p := 71) rfl ?_); refine store_event (t := 38) (p := 71) (v := ?vo_7) (w1 := ((w9.setCell ⟨go, kk * 2, none⟩ (.int .i64 p0)).setCell ⟨go, kk * 2 + 1, none⟩ (.int .i64 p1))) ?hg ?ho ?hn ?hr ?_; (case ho => rfl); (case hg => rfl); (case hn => rfl); (case hr => first | (go_simp; done) | (go_simp; rfl)); intro w10_ hw; have HR11 := Aside0.mk (show Kd.R k38 38 w10_ W.heap.size (fun k_ => k_ ≠ gp) (.slice (some ⟨go, 0, none⟩) (nx.length + 1) c3) (((nx ++ [(⟨p0, p1⟩ : S38)]).take (kk + 1) ++ nx.drop kk).set kk ⟨p0, p1⟩) from (by rw [hw]; exact HP.1)); have HW10 := Aside0.mk ((by rw [hw]; exact below_set (below_set HW9.out HGB.out) HGB.out : Below W.heap.size W w10_)); clear HP hw HR10 HW9 hy0 hy1 hz0 hz1 hcf hff; obtain ⟨hcf, hff⟩ := bz1 (blk_below BF.out HW10.out))
     have hgs := HGS.out
     rw [impl_frontOf_1.set_copied _ _ _ HKL.out, HST2.out] at HR11
     have hnb := Kd.R_bound (Kd.R_lower HR11.out HSZ.out)
     have hlo := Kd.R_bound HR11.out
     go_end0
     refine ⟨rfl, ⟨blk_far (blk_below BJ.out HW10.out) n14 _, blk_far (blk_below BO.out HW10.out) n24 _, blk_far (blk_below BC.out HW10.out) n34 _, ⟨_, blk_put (cs := #[_]) (blk_below BF.out HW10.out) 0 _ rfl, ?_⟩⟩, below_set (below_step HB.out HW10.out) hgs.2, Kept.setCell (S := fun b => b = g4) (p := ⟨g4, 0, none⟩) (Kept.of_below HW10.out _) (Or.inl rfl) _⟩
     refine Kd.R_mono (Kd.R_far (p := ⟨g4, 0, none⟩) (Kd.R_lower hlo HSZ.out) (fun b hb e => ?_) _) (fun b hb e => ?_)
     ·have := hb.2.1
      have e2 : b = g4 := e
      omega
     ·have h1 := hb.2.1
      have h2 := (HU.out b e.symm).2
      omega
    obtain ⟨n, hmn⟩ : ∃ n, m = n + 1 := ⟨m - 1, by omega⟩
    have hml : n < nx.length := by have := HML.out; omega
    have d1 : decide ((m : Int) > 0) = true := decide_eq_true (by omega)
    have d2 : decide (0 < (m : Int)) = true := decide_eq_true (by omega)
    have d2n : decide (0 < m) = true := decide_eq_true (by omega)
    have hw : wrap64 ((m : Int) - 1) = (n : Int) := by have := HN6.out; unfold wrap64; omega
    have hw2 : IntKind.i64.wrap ((m : Int) - 1) = (n : Int) := (i64_w _).trans hw
    obtain ⟨adm, em, hma, hmb⟩ := at_T38 (Kd.R_reads' HN.out).2.2 (n : Int) (by omega) (by omega)
    cases em
    rw [Int.toNat_natCast] at hma hmb
    have m1 := eq_true (show 0 ≤ (n : Int) by omega)
    have m2 := eq_true (show (n : Int) < (nx.length : Int) by omega)
    have m2n := eq_true hml
    have HJ2 := Aside0.mk (show gk - 1 = n ∧ gk - 1 < gk by have := HMQ.out; omega)
    have HML2 := Aside0.mk (Nat.le_of_lt hml)
    have hk0 := HKK.out
    rw [hmn, impl_frontOf_1.bk] at hk0
    have HMN := Aside0.mk hmn
    clear HKK hm0 hmn
    generalize (rd_T38 nx (n : Int)).f0 = y0 at hma hk0
    by_cases hgt : y0 > p0
    ·rw [if_pos hgt] at hk0
     have d3 : decide (y0 > p0) = true := decide_eq_true hgt
     have d4 : decide (p0 < y0) = true := decide_eq_true hgt
     have HKK := Aside0.mk hk0
     clear hk0 hgt
     go_wp2
     have n1 := Aside0.mk (Kd.R_drew HN.out)
     have n2 := Aside0.mk (blk_drew BP.out)
     have n3 := Aside0.mk (below_drew1 HW.out)
     replace HN := n1
     replace BP := n2
     replace HW := n3
     clear n1 n2 n3
     refine start_ (n := 13) (S := fun w' => w'.cell? (adm.add (n * 2)) = some (.int .i64 y0) ∧ w'.cell? ⟨gp, 0, none⟩ = some (.int .i64 p0)) (ds := []) q34_0 (by kernel_rfl) rfl rfl ⟨hma, hp0⟩ (fun hHeld => ?_)
     clear hp0 hp1 hpf0 hpf1 hma hmb
     generalize wr.drew = wd at HN BP HW hHeld ⊢
     refine puq_ (i := 0) (N := some 41) rfl rfl (by kernel_rfl) (fun _ _ _ h => h) (Or.inl ⟨by rfl, by intro w'; go_simp; with_reducible rfl⟩) (by simp only [aq_]; rfl) ?_
     refine puq_ (i := 1) (N := some 42) rfl rfl (by kernel_rfl) (fun _ _ _ h => h) (Or.inl ⟨by rfl, by intro w'; go_simp; with_reducible rfl⟩) (by simp only [aq_]; rfl) ?_
     refine puq_ (i := 2) (N := some 43) rfl rfl (by kernel_rfl) (fun _ _ _ h => h) (Or.inl ⟨by rfl, by intro w'; go_simp; with_reducible rfl⟩) (by simp only [aq_]; rfl) ?_
     refine puq_ (i := 3) (N := some 44) rfl rfl (by kernel_rfl) (fun _ _ _ h => h) (Or.inl ⟨by rfl, by intro w'; go_simp; with_reducible rfl⟩) (by simp only [aq_]; rfl) ?_
     refine puq_ (i := 4) (N := some 45) rfl rfl (by kernel_rfl) (fun _ _ _ h => h) (Or.inl ⟨by rfl, by intro w'; go_simp; with_reducible rfl⟩) (by simp only [aq_]; rfl) ?_
     refine puq_ (i := 5) (N := some 46) rfl rfl (by kernel_rfl) (fun _ _ _ h => h) (Or.inl ⟨by rfl, by intro w'; go_simp; with_reducible rfl⟩) (by simp only [aq_]; rfl) ?_
     refine puq_ (i := 6) (N := some 47) rfl rfl (by kernel_rfl) (fun _ _ _ h => h) (Or.inl ⟨by rfl, by intro w'; go_simp; with_reducible rfl⟩) (by simp only [aq_]; rfl) ?_
     refine puq_ (i := 7) (N := some 48) rfl rfl (by kernel_rfl) (fun _ _ _ h => h) (Or.inl ⟨by rfl, by intro w'; go_simp; with_reducible rfl⟩) (by simp only [aq_]; rfl) ?_
     refine take_ (i := 8) (N := some 49) (v := ?_) (a' := ?_) q34_1 rfl rfl (by kernel_rfl) (fun _ _ _ h => h) (Or.inl ⟨by rfl, ?_⟩) hHeld ?_ ?_
     rotate_left
     ·rintro w' ⟨s0, s1⟩
      go_simp
      with_reducible rfl
     rotate_left
     ·simp only [aq_]
      rfl
     refine puq_ (i := 9) (N := some 50) rfl rfl (by kernel_rfl) (fun _ _ _ h => h) (Or.inl ⟨by rfl, by intro w'; go_simp; with_reducible rfl⟩) (by simp only [aq_]; rfl) ?_
     refine take_ (i := 10) (N := some 51) (v := ?_) (a' := ?_) q34_2 rfl rfl (by kernel_rfl) (fun _ _ _ h => h) (Or.inl ⟨by rfl, ?_⟩) hHeld ?_ ?_
     rotate_left
     ·rintro w' ⟨s0, s1⟩
      go_simp
      with_reducible rfl
     rotate_left
     ·simp only [aq_]
      rfl
     refine puq_ (i := 11) (N := some 52) rfl rfl (by kernel_rfl) (fun _ _ _ h => h) (Or.inl ⟨by rfl, by intro w'; go_simp; with_reducible rfl⟩) (by simp only [aq_]; rfl) ?_
     refine puq_ (i := 12) (N := some 53) rfl rfl (by kernel_rfl) (fun _ _ _ h => h) (Or.inl ⟨by rfl, by intro w'; go_simp; with_reducible rfl⟩) (by simp only [aq_]; rfl) ?_
     refine done_ (by kernel_rfl) ?_
     obtain ⟨hp0, hp1, hpf0, hpf1⟩ := bz2 BP.out
     go_wp2
     go_roundg (gk - 1)
     case measure => exact HJ2.out.2
     case rel => exact ⟨n, (by first | rfl | rw [hw]), ⟨HJ2.out.1.symm⟩, HML2, HKK, ⟨bR HN.out⟩, ⟨bs BP.out⟩, ⟨bw HW.out⟩⟩
    rw [if_neg hgt] at hk0
    have d3 : decide (y0 > p0) = false := decide_eq_false hgt
    have d4 : decide (p0 < y0) = false := decide_eq_false hgt
    obtain rfl : kk = m := hk0.symm.trans HMN.out.symm
    clear hgt hk0
    go_wp2
    have n1 := Aside0.mk (Kd.R_drew HN.out)
    have n2 := Aside0.mk (blk_drew BP.out)
    have n3 := Aside0.mk (below_drew1 HW.out)
    replace HN := n1
    replace BP := n2
    replace HW := n3
    clear n1 n2 n3
    refine start_ (n := 13) (S := fun w' => w'.cell? (adm.add (n * 2)) = some (.int .i64 y0) ∧ w'.cell? ⟨gp, 0, none⟩ = some (.int .i64 p0)) (ds := []) q34_0 (by kernel_rfl) rfl rfl ⟨hma, hp0⟩ (fun hHeld => ?_)
    clear hp0 hp1 hpf0 hpf1 hma hmb
    generalize wr.drew = wd at HN BP HW hHeld ⊢
    refine puq_ (i := 0) (N := some 41) rfl rfl (by kernel_rfl) (fun _ _ _ h => h) (Or.inl ⟨by rfl, by intro w'; go_simp; with_reducible rfl⟩) (by simp only [aq_]; rfl) ?_
    refine puq_ (i := 1) (N := some 42) rfl rfl (by kernel_rfl) (fun _ _ _ h => h) (Or.inl ⟨by rfl, by intro w'; go_simp; with_reducible rfl⟩) (by simp only [aq_]; rfl) ?_
    refine puq_ (i := 2) (N := some 43) rfl rfl (by kernel_rfl) (fun _ _ _ h => h) (Or.inl ⟨by rfl, by intro w'; go_simp; with_reducible rfl⟩) (by simp only [aq_]; rfl) ?_
    refine puq_ (i := 3) (N := some 44) rfl rfl (by kernel_rfl) (fun _ _ _ h => h) (Or.inl ⟨by rfl, by intro w'; go_simp; with_reducible rfl⟩) (by simp only [aq_]; rfl) ?_
    refine puq_ (i := 4) (N := some 45) rfl rfl (by kernel_rfl) (fun _ _ _ h => h) (Or.inl ⟨by rfl, by intro w'; go_simp; with_reducible rfl⟩) (by simp only [aq_]; rfl) ?_
    refine puq_ (i := 5) (N := some 46) rfl rfl (by kernel_rfl) (fun _ _ _ h => h) (Or.inl ⟨by rfl, by intro w'; go_simp; with_reducible rfl⟩) (by simp only [aq_]; rfl) ?_
    refine puq_ (i := 6) (N := some 47) rfl rfl (by kernel_rfl) (fun _ _ _ h => h) (Or.inl ⟨by rfl, by intro w'; go_simp; with_reducible rfl⟩) (by simp only [aq_]; rfl) ?_
    refine puq_ (i := 7) (N := some 48) rfl rfl (by kernel_rfl) (fun _ _ _ h => h) (Or.inl ⟨by rfl, by intro w'; go_simp; with_reducible rfl⟩) (by simp only [aq_]; rfl) ?_
    refine take_ (i := 8) (N := some 49) (v := ?_) (a' := ?_) q34_1 rfl rfl (by kernel_rfl) (fun _ _ _ h => h) (Or.inl ⟨by rfl, ?_⟩) hHeld ?_ ?_
    rotate_left
    ·rintro w' ⟨s0, s1⟩
     go_simp
     with_reducible rfl
    rotate_left
    ·simp only [aq_]
     rfl
    refine puq_ (i := 9) (N := some 50) rfl rfl (by kernel_rfl) (fun _ _ _ h => h) (Or.inl ⟨by rfl, by intro w'; go_simp; with_reducible rfl⟩) (by simp only [aq_]; rfl) ?_
    refine take_ (i := 10) (N := some 51) (v := ?_) (a' := ?_) q34_2 rfl rfl (by kernel_rfl) (fun _ _ _ h => h) (Or.inl ⟨by rfl, ?_⟩) hHeld ?_ ?_
    rotate_left
    ·rintro w' ⟨s0, s1⟩
     go_simp
     with_reducible rfl
    rotate_left
    ·simp only [aq_]
     rfl
    refine puq_ (i := 11) (N := some 52) rfl rfl (by kernel_rfl) (fun _ _ _ h => h) (Or.inl ⟨by rfl, by intro w'; go_simp; with_reducible rfl⟩) (by simp only [aq_]; rfl) ?_
    refine puq_ (i := 12) (N := some 53) rfl rfl (by kernel_rfl) (fun _ _ _ h => h) (Or.inl ⟨by rfl, by intro w'; go_simp; with_reducible rfl⟩) (by simp only [aq_]; rfl) ?_
    refine done_ (by kernel_rfl) ?_
    obtain ⟨hp0, hp1, hpf0, hpf1⟩ := bz2 BP.out
    go_wp2_with ((with_reducible refine gate_builtin (b := .append) (xs := #[.tmp 56, .tmp 58]) rfl ?_); at_builtin; refine Kd.R_append k38 (w0 := W) W.heap.size rfl (.tmp 56) (.tmp 58) 36 38 (.agg #[(.int .i64 0), (.int .i64 0)]) 16 rfl Try.underlying36 info38 rfl (by decide) (by omega) (.slice (some adm) nx.length cn) nx (⟨p0, p1⟩ : S38) [.int .i64 p0, .int .i64 p1] (fun k_ => k_ ≠ gp) (fun _ => False) rfl rfl ?aP (fun _ hk => hk.elim) ?aF ?aO ?aB ?aS ?aL ?_; (case aP => exact k38_mkM _ _ _ (⟨p0, p1⟩ : S38)); (case aB => exact bw HW.out); (case aF => exact (fun k_ hk => Kd.freshB (bs BP.out) k_ hk)); (case aO => exact (bR HN.out)); (case aS => exact (below_size (bw HW.out))); (case aL => have := HN6.out; omega); intro v8 w8 ho hb hg hat; have HN2 := Aside0.mk ho; have HW2 := Aside0.mk hb; have BP2 := Aside0.mk (blk_grown (bs BP.out) hg (Kd.R_away HN.out (fun _ hk => hk))); clear ho hb hg hat HN HW)
    obtain ⟨go, c3, e3, gb, gl, HG⟩ := Kd.R_form HN2.out (by simp)
    subst e3
    rw [List.length_append, List.length_singleton] at HN2
    have hgo_ne : gp ≠ go := fun e => (HN2.out.1 go rfl) e.symm
    have HFC := Aside0.mk (show nx.length + 1 ≤ c3 from by have := (Kd.R_reads' HN2.out).2.1; simpa using this)
    clear HG gl
    have u1 : wrap64 ((kk : Int) + 1) = (kk : Int) + 1 := by have := HKL.out; have := HN6.out; unfold wrap64; omega
    have u2 : IntKind.i64.wrap ((kk : Int) + 1) = (kk : Int) + 1 := (i64_w _).trans u1
    have v1 : 0 ≤ (kk : Int) + 1 := by omega
    have v2 : (kk : Int) + 1 ≤ (nx.length : Int) + 1 := by have := HKL.out; omega
    have v3 : (kk : Int) ≤ (nx.length : Int) + 1 := by have := HKL.out; omega
    have v4 : 0 ≤ (kk : Int) := by omega
    have v5 : kk ≤ nx.length := HKL.out
    have v6 : ¬ c3 = kk := by have := HKL.out; have := HFC.out; omega
    have v7 : ((kk : Int) + 1).toNat = kk + 1 := by omega
    clear v5
    have v5 : kk ≤ nx.length := HKL.out
    go_still_tail 7, (show Try.prog.follows .mixedOrders = true from by rfl)
    obtain ⟨hn7, cur, hcur, hgo, hcl, hnc, hct, hcopy⟩ := impl_frontOf_1.copied HN2.out
    have HCP := Aside0.mk hcopy
    clear hcopy
    refine impl_frontOf_1.copy_rows 2 rfl (.tmp 63) (.tmp 66) 36 36 rfl 38 Try.underlying36 (by kernel_rfl) (if c3 = kk + 1 then some ⟨go, 0, none⟩ else some ⟨go, (kk + 1) * 2, none⟩) (some ⟨go, kk * 2, none⟩) (nx.length - kk) (c3 - (kk + 1)) (nx.length + 1 - kk) (c3 - kk) rfl rfl go ((kk + 1) * 2) cur 38 hcur (impl_frontOf_1.flat (nx.drop kk)) (nx.length - kk) ?cm ?cn ?cp ?cf ?c1 W.heap.size W ?cb hgo ?_
    case cm => exact (Nat.min_eq_right (by omega)).symm
    case cn => rw [impl_frontOf_1.flat_len, List.length_drop]
    case cp =>
     intro hpos
     have hpos' : kk < nx.length := by omega
     have := HFC.out
     refine ⟨if_neg (by omega), ⟨go, kk * 2, none⟩, rfl, fun j v hj => ?_⟩
     have hjl : j < (nx.length - kk) * 2 := by
      have := (List.getElem?_eq_some_iff.mp hj).1
      rw [impl_frontOf_1.flat_len, List.length_drop] at this
      exact this
     have hcell : w8.heap[go]? = some (.cells cur.toArray 38 (0, 0)) := hcur
     have h5 : ((impl_frontOf_1.flat (nx ++ [(⟨p0, p1⟩ : S38)])).drop (kk * 2))[j]? = some v := by
      rw [impl_frontOf_1.flat_app, List.drop_append_of_le_length (by rw [impl_frontOf_1.flat_len]; omega), ← impl_frontOf_1.flat_drop, List.getElem?_append_left (by rw [impl_frontOf_1.flat_len, List.length_drop]; omega)]
      exact hj
     rw [← hct, List.getElem?_drop, List.getElem?_take_of_lt (by omega)] at h5
     have h6 := cell_of_row w8 go (kk * 2 + j) cur.toArray 38 (0, 0) hcell
     rw [show (⟨go, kk * 2, none⟩ : Addr).add j = ⟨go, kk * 2 + j, none⟩ from by first | rfl | (simp only [add_plain]; done) | simp [Addr.add]]
     refine h6.trans ?_
     simpa using h5
    case cf => rw [impl_frontOf_1.flat_len, List.length_drop]; have := HFC.out; omega
    case c1 => exact impl_frontOf_1.flat_one _
    case cb => exact pw_below_drewN HW2.out 1
    intro w9 hg9 hb9 hk9
    have HR9 := Aside0.mk (HCP.out (nx.drop kk) (kk + 1) w9 (by rw [List.length_drop]; omega) hg9)
    have HW9 := Aside0.mk hb9
    have BP9 := Aside0.mk ((hk9 gp hgo_ne).trans BP2.out)
    have HGB := Aside0.mk hgo
    clear hn7 hg9 hb9 hk9 HCP hcur HN2 HW2 hcl hnc hct BP2
    generalize (if c3 = kk + 1 then (some ⟨go, 0, none⟩ : Option Addr) else some ⟨go, (kk + 1) * 2, none⟩) = A37
    have HR10 := Aside0.mk (show Kd.R k38 38 w9 W.heap.size (fun k_ => k_ ≠ gp) (.slice (some ⟨go, 0, none⟩) (nx.length + 1) c3) ((nx ++ [(⟨p0, p1⟩ : S38)]).take (kk + 1) ++ nx.drop kk) from by
     have := HR9.out
     rw [List.length_drop, show List.drop (kk + 1 + (nx.length - kk)) (nx ++ [(⟨p0, p1⟩ : S38)]) = [] from List.drop_of_length_le (by rw [List.length_append, List.length_singleton]; omega), List.append_nil] at this
     exact this)
    clear HR9
    obtain ⟨hp0, hp1, hpf0, hpf1⟩ := bz2 BP9.out
    obtain ⟨hcf, hff⟩ := bz1 (blk_below BF.out HW9.out)
    have w1_ : (kk : Int) < (nx.length : Int) + 1 := by omega
    obtain ⟨ce, hcl, hM, hcc, hfr⟩ := Kd.R_elem HR10.out z38 (kk : Int) v4 (by omega)
    obtain rfl := k38_openM hM
    have HP := Kd.R_seg HR10.out (kk : Int) v4 (by omega) (seg := [.int .i64 p0, .int .i64 p1]) (j := 0) hcl hcc (show 2 ≤ 2 from by decide) (x' := (⟨p0, p1⟩ : S38)) (k38_mkM _ _ _ (⟨p0, p1⟩ : S38)) (fun _ hk => hk)
    have hy0 := hcc 0 _ rfl
    have hy1 := hcc 1 _ rfl
    have hz0 := hfr 0
    have hz1 := hfr 1
    simp only [show (k38).sz = 2 from rfl, Nat.add_zero, Int.toNat_natCast] at hy0 hy1 hz0 hz1 HP
    clear hcl hcc hfr hM
    go_wp2_with ((with_reducible refine gate_store (t := 38) (p := 71) rfl ?_); refine store_event (t := 38) (p := 71) (v := ?vo_7) (w1 := ((w9.setCell ⟨go, kk * 2, none⟩ (.int .i64 p0)).setCell ⟨go, kk * 2 + 1, none⟩ (.int .i64 p1))) ?hg ?ho ?hn ?hr ?_; (case ho => rfl); (case hg => rfl); (case hn => rfl); (case hr => first | (go_simp; done) | (go_simp; rfl)); intro w10_ hw; have HR11 := Aside0.mk (show Kd.R k38 38 w10_ W.heap.size (fun k_ => k_ ≠ gp) (.slice (some ⟨go, 0, none⟩) (nx.length + 1) c3) (((nx ++ [(⟨p0, p1⟩ : S38)]).take (kk + 1) ++ nx.drop kk).set kk ⟨p0, p1⟩) from (by rw [hw]; exact HP.1)); have HW10 := Aside0.mk ((by rw [hw]; exact below_set (below_set HW9.out HGB.out) HGB.out : Below W.heap.size W w10_)); clear HP hw HR10 HW9 hy0 hy1 hz0 hz1 hcf hff; obtain ⟨hcf, hff⟩ := bz1 (blk_below BF.out HW10.out))
    have hgs := HGS.out
    rw [impl_frontOf_1.set_copied _ _ _ HKL.out, HST2.out] at HR11
    have hnb := Kd.R_bound (Kd.R_lower HR11.out HSZ.out)
    have hlo := Kd.R_bound HR11.out
    go_end0
    refine ⟨rfl, ⟨blk_far (blk_below BJ.out HW10.out) n14 _, blk_far (blk_below BO.out HW10.out) n24 _, blk_far (blk_below BC.out HW10.out) n34 _, ⟨_, blk_put (cs := #[_]) (blk_below BF.out HW10.out) 0 _ rfl, ?_⟩⟩, below_set (below_step HB.out HW10.out) hgs.2, Kept.setCell (S := fun b => b = g4) (p := ⟨g4, 0, none⟩) (Kept.of_below HW10.out _) (Or.inl rfl) _⟩
    refine Kd.R_mono (Kd.R_far (p := ⟨g4, 0, none⟩) (Kd.R_lower hlo HSZ.out) (fun b hb e => ?_) _) (fun b hb e => ?_)
    ·have := hb.2.1
     have e2 : b = g4 := e
     omega
    ·have h1 := hb.2.1
     have h2 := (HU.out b e.symm).2
     omega

/-! ### impl_frontOf: function 20 -/
def impl_frontOf.f (k : Nat) (l0 : List (S41)) (a1 : Int) (a2 : Int) : Option (List (S38)) := (impl_numbersTo.f k (l0.length : Int)).bind fun o => impl_eachOrder.run (impl_frontOf_1.step l0 a1 a2) k o []
theorem impl_frontOf.mono : ∀ l0 a1 a2 k, LeO (impl_frontOf.f k l0 a1 a2) (impl_frontOf.f (k + 1) l0 a1 a2) := fun l0 a1 a2 k => LeO.bind (impl_numbersTo.mono _ k) (fun o => impl_eachOrder.run_mono (fun k o s => impl_frontOf_1.step_mono l0 a1 a2 k o s) k o _)
set_option maxHeartbeats 3200000 in
set_option maxRecDepth 100000 in
theorem impl_frontOf.calls (k : Nat) (A0 : Option Addr) (c0 : Nat) (l0 : List (S41)) (a1 : Int) (a2 : Int) (r : List (S38)) (w : World) (hr0 : Kd.C k41 w A0 l0.length l0) (hc0 : l0.length ≤ c0) (h : impl_frontOf.f k l0 a1 a2 = some r) :
  Calls Try.prog 20 #[.slice A0 l0.length c0, .int .i64 a1, .int .i64 a2] w fun e w' => ∃ v0_ : Value, e = .returned v0_ ∧ Kd.R k38 38 w' w.heap.size (fun _ => True) v0_ r ∧ Below w.heap.size w w' := by
 replace h := Option.bind_eq_some_iff.mp h
 obtain ⟨o, ho, h⟩ := h
 have HR0 := Aside0.mk hr0
 have HC0 := Aside0.mk hc0
 have HO := Aside0.mk ho
 have H' := Aside0.mk h
 have HB := Aside0.mk (Below.refl w.heap.size w)
 clear hr0 hc0 ho h
 go_enter Try.func20, Try.ntmps20
 go_wp2_with (first | ((with_reducible refine gate_dst (N := 3) rfl ?_); refine box_event ?hg (N := 3) ?hd (cs := #[.slice A0 l0.length c0]) (t := 27) ?hr ?_; (case hd => rfl); (case hg => rfl); (case hr => first | (go_simp; done) | (go_simp; rfl)); intro g1 hg w3_ hbox hb; have GEg1 := ge_ hg HB.out; have n0_ := Aside0.mk (below_step (bw HB.out) hb); have Bg1 := Aside0.mk hbox; replace HB := n0_; clear n0_; clear hb hbox hg; obtain ⟨hcg1, hfg1⟩ := bz1 Bg1.out) | ((with_reducible refine gate_dst (N := 4) rfl ?_); refine box_event ?hg (N := 4) ?hd (cs := #[.int .i64 a1]) (t := 3) ?hr ?_; (case hd => rfl); (case hg => rfl); (case hr => first | (go_simp; done) | (go_simp; rfl)); intro g2 hg w4_ hbox hb; have GEg2 := ge_ hg HB.out; have NEg1g2 := ne_ hg Bg1.out; have ng1 := Aside0.mk (blk_below (bs Bg1.out) hb); have n0_ := Aside0.mk (below_step (bw HB.out) hb); have Bg2 := Aside0.mk hbox; replace HB := n0_; clear n0_; replace Bg1 := ng1; clear ng1; clear hb hbox hg; obtain ⟨hcg1, hfg1⟩ := bz1 Bg1.out; obtain ⟨hcg2, hfg2⟩ := bz1 Bg2.out) | ((with_reducible refine gate_dst (N := 5) rfl ?_); refine box_event ?hg (N := 5) ?hd (cs := #[.int .i64 a2]) (t := 3) ?hr ?_; (case hd => rfl); (case hg => rfl); (case hr => first | (go_simp; done) | (go_simp; rfl)); intro g3 hg w5_ hbox hb; have GEg3 := ge_ hg HB.out; have NEg1g3 := ne_ hg Bg1.out; have ng1 := Aside0.mk (blk_below (bs Bg1.out) hb); have NEg2g3 := ne_ hg Bg2.out; have ng2 := Aside0.mk (blk_below (bs Bg2.out) hb); have n0_ := Aside0.mk (below_step (bw HB.out) hb); have Bg3 := Aside0.mk hbox; replace HB := n0_; clear n0_; replace Bg1 := ng1; clear ng1; replace Bg2 := ng2; clear ng2; clear hb hbox hg; obtain ⟨hcg1, hfg1⟩ := bz1 Bg1.out; obtain ⟨hcg2, hfg2⟩ := bz1 Bg2.out; obtain ⟨hcg3, hfg3⟩ := bz1 Bg3.out) | ((with_reducible refine gate_dst (N := 7) rfl ?_); refine box_event ?hg (N := 7) ?hd (cs := #[.slice none 0 0]) (t := 36) ?hr ?_; (case hd => rfl); (case hg => rfl); (case hr => first | (go_simp; done) | (go_simp; rfl)); intro g4 hg w7_ hbox hb; have GEg4 := ge_ hg HB.out; have NEg1g4 := ne_ hg Bg1.out; have ng1 := Aside0.mk (blk_below (bs Bg1.out) hb); have NEg2g4 := ne_ hg Bg2.out; have ng2 := Aside0.mk (blk_below (bs Bg2.out) hb); have NEg3g4 := ne_ hg Bg3.out; have ng3 := Aside0.mk (blk_below (bs Bg3.out) hb); have n0_ := Aside0.mk (below_step (bw HB.out) hb); have Bg4 := Aside0.mk hbox; replace HB := n0_; clear n0_; replace Bg1 := ng1; clear ng1; replace Bg2 := ng2; clear ng2; replace Bg3 := ng3; clear ng3; clear hb hbox hg; obtain ⟨hcg1, hfg1⟩ := bz1 Bg1.out; obtain ⟨hcg2, hfg2⟩ := bz1 Bg2.out; obtain ⟨hcg3, hfg3⟩ := bz1 Bg3.out; obtain ⟨hcg4, hfg4⟩ := bz1 Bg4.out))
 have n1 := Bg1
 have n2 := Bg2
 have n3 := Bg3
 have n4 := Bg4
 have n6 := HB
 have l1 := blk_lt n1.out
 have l2 := blk_lt n2.out
 have l3 := blk_lt n3.out
 have l4 := blk_lt n4.out
 clear Bg1 Bg2 Bg3 Bg4 HB
 generalize hW_ : w7_ = W at n1 n2 n3 n4 n6 l1 l2 l3 l4 ⊢
 refine (impl_eachOrder.calls 34 _ (impl_frontOf_1.step l0 a1 a2) (impl_frontOf_1.Inv w W A0 c0 l0 a1 a2 g1 g2 g3 g4) (fun b => b = g4) k (l0.length : Int) o [] r w W n6.out (below_size n6.out) impl_frontOf_1.heg ?hbx ?htell ?hstab ?hinit HO.out H'.out).mono ?_
 case hbx =>
  intro b hb
  subst hb
  exact l4
 case htell => exact impl_frontOf_1.tell w W A0 c0 l0 a1 a2 g1 g2 g3 g4 HR0.out HC0.out l1 l2 l3 l4 NEg1g4.out NEg2g4.out NEg3g4.out GEg4.out
 case hstab =>
  intro u st W1 W2 hI hu hk
  obtain ⟨hj, ho, hc, v, hf, hR⟩ := hI
  have hne : ∀ g, g < W.heap.size → ¬ some g = u.ownBlock := fun g hg e => by
   have := hu g e.symm
   omega
  exact ⟨blk_kept hj hk (hne _ l1), blk_kept ho hk (hne _ l2), blk_kept hc hk (hne _ l3), v, blk_kept hf hk (hne _ l4), Kd.R_kept hR hk (fun _ h1 h2 => h1 h2)⟩
 case hinit =>
  intro u W1 hb hu
  exact ⟨blk_below n1.out hb, blk_below n2.out hb, blk_below n3.out hb, .slice none 0 0, blk_below n4.out hb, Kd.R_nil _ _ _ _ _⟩
 rintro e w13 ⟨rfl, ⟨u, hI⟩, hb⟩
 obtain ⟨hj, ho, hc, v, hf, hR⟩ := hI
 have HB := Aside0.mk hb
 have HR := Aside0.mk (Kd.R_mono (ok' := fun _ => True) (Kd.R_lower hR (below_size n6.out)) (fun _ _ => trivial))
 obtain ⟨hf1, hf1f⟩ := bz1 hf
 obtain ⟨Av, cv, ev⟩ := Kd.R_slice HR.out
 subst ev
 clear hj ho hc hf hR hb n1 n2 n3 n4 n6 l1 l2 l3 l4 hW_
 go_wp2
 go_ret
 exact ⟨_, rfl, bR HR.out, bw HB.out⟩

end Go.Proofs.Ytpbgdgjnkmlifaa.X
