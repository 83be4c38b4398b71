-- Written by a program of this session (wip/gen/xp.py, over the kit's printer). Not trusted: Lean checks it.
import Derived.Test.YteifefecoaefnaaX0
import Derived.Test.YteifefecoaefnaaXf23
namespace Go.Proofs.Yteifefecoaefnaa.X
open Go.RowKit Go.Proofs.YteifefecoaefnaaW.PrintWords Go.Proofs.YteifefecoaefnaaW.PrintLast Go.Proofs.YteifefecoaefnaaW.PrintMore
attribute [local go_sem] max2_int min2_int max_two min_two max_three min_three max_four min_four   -- for this text's walks alone
set_option linter.unusedVariables false
set_option linter.unusedSimpArgs false

/-! ### impl_listPlan_1: function 36 -/
def impl_listPlan_1.l0 : Nat → Int → Int → List Bool → List (S46) → List (List Bool) → List (S55) → Int → Int → Option (Bool)
 | 0, _, _, _, _, _, _, _, _ => none
 | k + 1, x0, x1, x2, x3, x4, x5, x15, x16 => if x16 < x15 then (if 0 ≤ x16 then (if x16 < (x4.length : Int) then (if 0 ≤ x0 then (if x0 < ((rd_L5 x4 x16).length : Int) then (if rdOf false (rd_L5 x4 x16) x0 = true then (if x16 < (x2.length : Int) then (if rdOf false x2 x16 = true then (if x16 < (x5.length : Int) then (if x16 < (x3.length : Int) then (if (wrap64 (((rd_T55 x5 x16).f2) + ((rd_T46 x3 x16).f0))) > x1 then (some false) else (impl_listPlan_1.l0 k x0 x1 x2 x3 x4 x5 x15 (wrap64 (x16 + 1)))) else (none)) else (none)) else (some false)) else (none)) else (impl_listPlan_1.l0 k x0 x1 x2 x3 x4 x5 x15 (wrap64 (x16 + 1)))) else (none)) else (none)) else (none)) else (none)) else (some true)
def impl_listPlan_1.f (k : Nat) (a0 : Int) (a1 : Int) (l2 : List Bool) (l3 : List (S46)) (l4 : List (List Bool)) (l5 : List (S55)) : Option (Bool) := if 0 ≤ a0 then (if a0 < (l2.length : Int) then (if rdOf false l2 a0 = true then (some false) else (impl_listPlan_1.l0 k a0 a1 l2 l3 l4 l5 (l3.length : Int) 0)) else (none)) else (none)
theorem impl_listPlan_1.mono_l : ∀ k, (∀ y0 y1 y2 y3 y4 y5 y6 y7, LeO (impl_listPlan_1.l0 k y0 y1 y2 y3 y4 y5 y6 y7) (impl_listPlan_1.l0 (k + 1) y0 y1 y2 y3 y4 y5 y6 y7))
 | 0 => fun _ _ _ _ _ _ _ _ r h => by simp [impl_listPlan_1.l0] at h
 | k + 1 => by
  have ih0 := impl_listPlan_1.mono_l k
  ·intro y0 y1 y2 y3 y4 y5 y6 y7
   unfold impl_listPlan_1.l0
   repeat' first
   | (with_reducible exact ih0 _ _ _ _ _ _ _ _)
   | (with_reducible exact LeO.refl _)
   | (with_reducible exact LeO.none _)
   | (with_reducible refine LeO.ite ?_ ?_)
   | (with_reducible refine LeO.bind ?_ (fun _ => ?_))
   | exact ih0 _ _ _ _ _ _ _ _
   | exact LeO.none _
   | refine LeO.ite ?_ ?_
   | refine LeO.bind ?_ (fun _ => ?_)
theorem impl_listPlan_1.mono : ∀ a0 a1 a2 a3 a4 a5 k, LeO (impl_listPlan_1.f k a0 a1 a2 a3 a4 a5) (impl_listPlan_1.f (k + 1) a0 a1 a2 a3 a4 a5) := by
 intro a0 a1 a2 a3 a4 a5 k
 have ih0 := impl_listPlan_1.mono_l k
 unfold impl_listPlan_1.f
 repeat' first
   | (with_reducible exact ih0 _ _ _ _ _ _ _ _)
   | (with_reducible exact LeO.refl _)
   | (with_reducible exact LeO.none _)
   | (with_reducible refine LeO.ite ?_ ?_)
   | (with_reducible refine LeO.bind ?_ (fun _ => ?_))
   | exact ih0 _ _ _ _ _ _ _ _
   | exact LeO.none _
   | refine LeO.ite ?_ ?_
   | refine LeO.bind ?_ (fun _ => ?_)
set_option maxHeartbeats 8000000 in
set_option maxRecDepth 100000 in
theorem impl_listPlan_1.calls (k : Nat) (a0 : Int) (a1 : Int) (A2 : Option Addr) (c2 : Nat) (l2 : List Bool) (A3 : Option Addr) (c3 : Nat) (l3 : List (S46)) (A4 : Option Addr) (c4 : Nat) (l4 : List (List Bool)) (A5 : Option Addr) (c5 : Nat) (l5 : List (S55)) (r : Bool) (w : World) (b2 b3 b4 b5 : Nat) (hb2 : w.cell? ⟨b2, 0, none⟩ = some (.slice A2 l2.length c2)) (hb3 : w.cell? ⟨b3, 0, none⟩ = some (.slice A3 l3.length c3)) (hb4 : w.cell? ⟨b4, 0, none⟩ = some (.slice A4 l4.length c4)) (hb5 : w.cell? ⟨b5, 0, none⟩ = some (.slice A5 l5.length c5)) (hr2 : Kd.C Kd.bool w A2 l2.length l2) (hc2 : l2.length ≤ c2) (hr3 : Kd.C k46 w A3 l3.length l3) (hc3 : l3.length ≤ c3) (hr4 : Kd.C (Kd.slice 4 Kd.bool) w A4 l4.length l4) (hc4 : l4.length ≤ c4) (hr5 : Kd.C k55 w A5 l5.length l5) (hc5 : l5.length ≤ c5) (h : impl_listPlan_1.f k a0 a1 l2 l3 l4 l5 = some r) :
  Calls Try.prog 36 #[.int .i64 a0, .int .i64 a1, .pointer (some ⟨b2, 0, none⟩), .pointer (some ⟨b3, 0, none⟩), .pointer (some ⟨b4, 0, none⟩), .pointer (some ⟨b5, 0, none⟩)] w fun e w' => e = .returned (.bool r) ∧ Drawn0 w w' := by
 have HR2 := Aside0.mk hr2
 have HC2 := Aside0.mk hc2
 clear hr2 hc2
 have HR3 := Aside0.mk hr3
 have HC3 := Aside0.mk hc3
 clear hr3 hc3
 have HR4 := Aside0.mk hr4
 have HC4 := Aside0.mk hc4
 clear hr4 hc4
 have HR5 := Aside0.mk hr5
 have HC5 := Aside0.mk hc5
 clear hr5 hc5
 have H : (if 0 ≤ a0 then (if a0 < (l2.length : Int) then (if rdOf false l2 a0 = true then (some false) else (impl_listPlan_1.l0 k a0 a1 l2 l3 l4 l5 (l3.length : Int) 0)) else (none)) else (none)) = some r := h
 clear h
 by_cases c7 : 0 ≤ a0
 rotate_left
 ·rw [if_neg c7] at H
  exact absurd H (by simp)
 rw [if_pos c7] at H
 have c7b0 : decide (0 ≤ a0) = true := decide_eq_true c7
 clear c7
 by_cases c8 : a0 < (l2.length : Int)
 rotate_left
 ·rw [if_neg c8] at H
  exact absurd H (by simp)
 rw [if_pos c8] at H
 have c8b0 : decide (a0 < (l2.length : Int)) = true := decide_eq_true c8
 clear c8
 obtain ⟨bq9, hbq9⟩ : ∃ b_ : Bool, b_ = (rdOf false l2 a0) := ⟨_, rfl⟩
 replace H : (if bq9 = true then (some false) else (impl_listPlan_1.l0 k a0 a1 l2 l3 l4 l5 (l3.length : Int) 0)) = some r := by rw [← hbq9] at H; exact H
 have Nbq9 := Aside0.mk hbq9
 clear hbq9
 by_cases c10 : bq9 = true
 ·subst c10
  have H1 : (some false) = some r := by rw [if_pos rfl] at H; exact H
  clear H
  have H := H1
  clear H1
  obtain rfl := Option.some.inj H
  have p302 : 0 ≤ (a0 : Int) := of_decide_eq_true (by first | (with_reducible assumption) | assumption)
  have q302 : a0 < (l2.length : Int) := of_decide_eq_true (by first | (with_reducible assumption) | assumption)
  obtain ⟨ad302, e302, hx302_0⟩ := Kd.at_bool HR2.out a0 p302 q302
  (try rw [← Nbq9.out] at hx302_0)
  cases e302
  replace p302 := eq_true p302
  replace q302 := eq_true q302
  go_enter Try.func36, Try.ntmps36
  go_wp2
  repeat (go_quiet (fail); try go_wp2)
  go_ret
  exact ⟨by first | rfl | (simp; done) | (simp [*]; done), by repeat (first | exact Drawn0.refl _ | apply Drawn0.step)⟩
 replace c10 := Bool.eq_false_iff.mpr c10
 subst c10
 have H1 : (impl_listPlan_1.l0 k a0 a1 l2 l3 l4 l5 (l3.length : Int) 0) = some r := by rw [if_neg (show ¬ (false = true) by decide)] at H; exact H
 clear H
 have H := H1
 clear H1
 have H' := Aside0.mk H
 clear H
 have p302 : 0 ≤ (a0 : Int) := of_decide_eq_true (by first | (with_reducible assumption) | assumption)
 have q302 : a0 < (l2.length : Int) := of_decide_eq_true (by first | (with_reducible assumption) | assumption)
 obtain ⟨ad302, e302, hx302_0⟩ := Kd.at_bool HR2.out a0 p302 q302
 (try rw [← Nbq9.out] at hx302_0)
 cases e302
 replace p302 := eq_true p302
 replace q302 := eq_true q302
 go_enter Try.func36, Try.ntmps36
 go_wp2
 repeat (go_quiet (fail); try go_wp2)
 go_loopg [16] k (fun kq v16 w' => ∃ (x16_1 : Int), v16 = .int .i64 x16_1 ∧ Aside0 (impl_listPlan_1.l0 kq a0 a1 l2 l3 l4 l5 (l3.length : Int) x16_1 = some r) ∧ Aside0 (kq ≤ k) ∧ Drawn0 w w')
 case atStart => exact ⟨(0), (by first | rfl | (simp; done) | (simp [*]; done)), H', ⟨Nat.le_refl _⟩, by repeat (first | exact Drawn0.refl _ | apply Drawn0.step)⟩
 case round =>
  clear H'
  try clear c1
  try clear c2
  try clear p2
  try clear c3
  try clear p3
  try clear q3
  try clear hx3
  try clear c4
  try clear c5
  try clear c7
  try clear c7b0
  try clear c8
  try clear c8b0
  try clear q9
  try clear c10
  try clear hx302_0
  try clear p302
  try clear q302
  obtain ⟨x16_1, rfl, HA, HK1, ⟨m1, rfl⟩⟩ := hrel
  cases gk with
  | zero => exact absurd HA.out (by simp [impl_listPlan_1.l0])
  | succ k1 =>
   have H := HA.out
   clear HA
   simp only [impl_listPlan_1.l0] at H
   by_cases c11 : x16_1 < (l3.length : Int)
   rotate_left
   ·rw [if_neg c11] at H
    have c11b0 : decide (x16_1 < (l3.length : Int)) = false := decide_eq_false c11
    clear c11
    obtain rfl := Option.some.inj H
    go_wp2
    repeat (go_quiet (fail); try go_wp2)
    go_ret
    exact ⟨by first | rfl | (simp; done) | (simp [*]; done), by repeat (first | exact Drawn0.refl _ | apply Drawn0.step)⟩
   rw [if_pos c11] at H
   have c11b0 : decide (x16_1 < (l3.length : Int)) = true := decide_eq_true c11
   clear c11
   by_cases c12 : 0 ≤ x16_1
   rotate_left
   ·rw [if_neg c12] at H
    exact absurd H (by simp)
   rw [if_pos c12] at H
   have c12b0 : decide (0 ≤ x16_1) = true := decide_eq_true c12
   clear c12
   by_cases c13 : x16_1 < (l4.length : Int)
   rotate_left
   ·rw [if_neg c13] at H
    exact absurd H (by simp)
   rw [if_pos c13] at H
   have c13b0 : decide (x16_1 < (l4.length : Int)) = true := decide_eq_true c13
   clear c13
   by_cases c14 : 0 ≤ a0
   rotate_left
   ·rw [if_neg c14] at H
    exact absurd H (by simp)
   rw [if_pos c14] at H
   have c14b0 : decide (0 ≤ a0) = true := decide_eq_true c14
   clear c14
   by_cases c15 : a0 < ((rd_L5 l4 x16_1).length : Int)
   rotate_left
   ·rw [if_neg c15] at H
    exact absurd H (by simp)
   rw [if_pos c15] at H
   have c15b0 : decide (a0 < ((rd_L5 l4 x16_1).length : Int)) = true := decide_eq_true c15
   clear c15
   obtain ⟨bq16, hbq16⟩ : ∃ b_ : Bool, b_ = (rdOf false (rd_L5 l4 x16_1) a0) := ⟨_, rfl⟩
   replace H : (if bq16 = true then (if x16_1 < (l2.length : Int) then (if rdOf false l2 x16_1 = true then (if x16_1 < (l5.length : Int) then (if x16_1 < (l3.length : Int) then (if (wrap64 (((rd_T55 l5 x16_1).f2) + ((rd_T46 l3 x16_1).f0))) > a1 then (some false) else (impl_listPlan_1.l0 k1 a0 a1 l2 l3 l4 l5 (l3.length : Int) (wrap64 (x16_1 + 1)))) else (none)) else (none)) else (some false)) else (none)) else (impl_listPlan_1.l0 k1 a0 a1 l2 l3 l4 l5 (l3.length : Int) (wrap64 (x16_1 + 1)))) = some r := by rw [← hbq16] at H; exact H
   have Nbq16 := Aside0.mk hbq16
   clear hbq16
   by_cases c17 : bq16 = true
   rotate_left
   ·replace c17 := Bool.eq_false_iff.mpr c17
    subst c17
    have H1 : (impl_listPlan_1.l0 k1 a0 a1 l2 l3 l4 l5 (l3.length : Int) (wrap64 (x16_1 + 1))) = some r := by rw [if_neg (show ¬ (false = true) by decide)] at H; exact H
    clear H
    have H := H1
    clear H1
    have H' := Aside0.mk H
    clear H
    have p303 : 0 ≤ (x16_1 : Int) := of_decide_eq_true (by first | (with_reducible assumption) | assumption)
    have q303 : x16_1 < (l4.length : Int) := of_decide_eq_true (by first | (with_reducible assumption) | assumption)
    obtain ⟨ad303, A303_0, c303_0, e303, hx303_0, hl303_0, hi303_0⟩ := at_L5 HR4.out x16_1 p303 q303
    cases e303
    have HR303_0 := Aside0.mk hi303_0
    have HC303_0 := Aside0.mk hl303_0
    clear hi303_0 hl303_0
    replace p303 := eq_true p303
    replace q303 := eq_true q303
    have p304 : 0 ≤ (a0 : Int) := of_decide_eq_true (by first | (with_reducible assumption) | assumption)
    have q304 : a0 < ((rd_L5 l4 x16_1).length : Int) := of_decide_eq_true (by first | (with_reducible assumption) | assumption)
    obtain ⟨ad304, e304, hx304_0⟩ := Kd.at_bool HR303_0.out a0 p304 q304
    (try rw [← Nbq9.out] at hx304_0)
    (try rw [← Nbq16.out] at hx304_0)
    cases e304
    replace p304 := eq_true p304
    replace q304 := eq_true q304
    go_wp2
    repeat (go_quiet (fail); try go_wp2)
    go_roundg k1
    case measure => have := HK1.out; omega
    case rel => exact ⟨(wrap64 (x16_1 + 1)), (by first | rfl | (simp; done) | (simp [*]; done)), H', ⟨by have := HK1.out; omega⟩, by repeat (first | exact Drawn0.refl _ | apply Drawn0.step)⟩
   subst c17
   have H1 : (if x16_1 < (l2.length : Int) then (if rdOf false l2 x16_1 = true then (if x16_1 < (l5.length : Int) then (if x16_1 < (l3.length : Int) then (if (wrap64 (((rd_T55 l5 x16_1).f2) + ((rd_T46 l3 x16_1).f0))) > a1 then (some false) else (impl_listPlan_1.l0 k1 a0 a1 l2 l3 l4 l5 (l3.length : Int) (wrap64 (x16_1 + 1)))) else (none)) else (none)) else (some false)) else (none)) = some r := by rw [if_pos rfl] at H; exact H
   clear H
   have H := H1
   clear H1
   by_cases c18 : x16_1 < (l2.length : Int)
   rotate_left
   ·rw [if_neg c18] at H
    exact absurd H (by simp)
   rw [if_pos c18] at H
   have c18b0 : decide (x16_1 < (l2.length : Int)) = true := decide_eq_true c18
   clear c18
   obtain ⟨bq19, hbq19⟩ : ∃ b_ : Bool, b_ = (rdOf false l2 x16_1) := ⟨_, rfl⟩
   replace H : (if bq19 = true then (if x16_1 < (l5.length : Int) then (if x16_1 < (l3.length : Int) then (if (wrap64 (((rd_T55 l5 x16_1).f2) + ((rd_T46 l3 x16_1).f0))) > a1 then (some false) else (impl_listPlan_1.l0 k1 a0 a1 l2 l3 l4 l5 (l3.length : Int) (wrap64 (x16_1 + 1)))) else (none)) else (none)) else (some false)) = some r := by rw [← hbq19] at H; exact H
   have Nbq19 := Aside0.mk hbq19
   clear hbq19
   by_cases c20 : bq19 = true
   rotate_left
   ·replace c20 := Bool.eq_false_iff.mpr c20
    subst c20
    have H1 : (some false) = some r := by rw [if_neg (show ¬ (false = true) by decide)] at H; exact H
    clear H
    have H := H1
    clear H1
    obtain rfl := Option.some.inj H
    have p303 : 0 ≤ (x16_1 : Int) := of_decide_eq_true (by first | (with_reducible assumption) | assumption)
    have q303 : x16_1 < (l4.length : Int) := of_decide_eq_true (by first | (with_reducible assumption) | assumption)
    obtain ⟨ad303, A303_0, c303_0, e303, hx303_0, hl303_0, hi303_0⟩ := at_L5 HR4.out x16_1 p303 q303
    cases e303
    have HR303_0 := Aside0.mk hi303_0
    have HC303_0 := Aside0.mk hl303_0
    clear hi303_0 hl303_0
    replace p303 := eq_true p303
    replace q303 := eq_true q303
    have p304 : 0 ≤ (a0 : Int) := of_decide_eq_true (by first | (with_reducible assumption) | assumption)
    have q304 : a0 < ((rd_L5 l4 x16_1).length : Int) := of_decide_eq_true (by first | (with_reducible assumption) | assumption)
    obtain ⟨ad304, e304, hx304_0⟩ := Kd.at_bool HR303_0.out a0 p304 q304
    (try rw [← Nbq9.out] at hx304_0)
    (try rw [← Nbq16.out] at hx304_0)
    (try rw [← Nbq19.out] at hx304_0)
    cases e304
    replace p304 := eq_true p304
    replace q304 := eq_true q304
    have p305 : 0 ≤ (x16_1 : Int) := of_decide_eq_true (by first | (with_reducible assumption) | assumption)
    have q305 : x16_1 < (l2.length : Int) := of_decide_eq_true (by first | (with_reducible assumption) | assumption)
    obtain ⟨ad305, e305, hx305_0⟩ := Kd.at_bool HR2.out x16_1 p305 q305
    (try rw [← Nbq9.out] at hx305_0)
    (try rw [← Nbq16.out] at hx305_0)
    (try rw [← Nbq19.out] at hx305_0)
    obtain rfl : ad302 = ad305 := (by injection e305)
    replace p305 := eq_true p305
    replace q305 := eq_true q305
    go_wp2
    repeat (go_quiet (fail); try go_wp2)
    go_ret
    exact ⟨by first | rfl | (simp; done) | (simp [*]; done), by repeat (first | exact Drawn0.refl _ | apply Drawn0.step)⟩
   subst c20
   have H1 : (if x16_1 < (l5.length : Int) then (if x16_1 < (l3.length : Int) then (if (wrap64 (((rd_T55 l5 x16_1).f2) + ((rd_T46 l3 x16_1).f0))) > a1 then (some false) else (impl_listPlan_1.l0 k1 a0 a1 l2 l3 l4 l5 (l3.length : Int) (wrap64 (x16_1 + 1)))) else (none)) else (none)) = some r := by rw [if_pos rfl] at H; exact H
   clear H
   have H := H1
   clear H1
   by_cases c21 : x16_1 < (l5.length : Int)
   rotate_left
   ·rw [if_neg c21] at H
    exact absurd H (by simp)
   rw [if_pos c21] at H
   have c21b0 : decide (x16_1 < (l5.length : Int)) = true := decide_eq_true c21
   clear c21
   by_cases c22 : x16_1 < (l3.length : Int)
   rotate_left
   ·rw [if_neg c22] at H
    exact absurd H (by simp)
   rw [if_pos c22] at H
   have c22b0 : decide (x16_1 < (l3.length : Int)) = true := decide_eq_true c22
   clear c22
   by_cases c23 : (wrap64 (((rd_T55 l5 x16_1).f2) + ((rd_T46 l3 x16_1).f0))) > a1
   ·rw [if_pos c23] at H
    have c23b0 : decide (a1 < (wrap64 (((rd_T55 l5 x16_1).f2) + ((rd_T46 l3 x16_1).f0)))) = true := decide_eq_true c23
    clear c23
    obtain rfl := Option.some.inj H
    have p303 : 0 ≤ (x16_1 : Int) := of_decide_eq_true (by first | (with_reducible assumption) | assumption)
    have q303 : x16_1 < (l4.length : Int) := of_decide_eq_true (by first | (with_reducible assumption) | assumption)
    obtain ⟨ad303, A303_0, c303_0, e303, hx303_0, hl303_0, hi303_0⟩ := at_L5 HR4.out x16_1 p303 q303
    cases e303
    have HR303_0 := Aside0.mk hi303_0
    have HC303_0 := Aside0.mk hl303_0
    clear hi303_0 hl303_0
    replace p303 := eq_true p303
    replace q303 := eq_true q303
    have p304 : 0 ≤ (a0 : Int) := of_decide_eq_true (by first | (with_reducible assumption) | assumption)
    have q304 : a0 < ((rd_L5 l4 x16_1).length : Int) := of_decide_eq_true (by first | (with_reducible assumption) | assumption)
    obtain ⟨ad304, e304, hx304_0⟩ := Kd.at_bool HR303_0.out a0 p304 q304
    (try rw [← Nbq9.out] at hx304_0)
    (try rw [← Nbq16.out] at hx304_0)
    (try rw [← Nbq19.out] at hx304_0)
    cases e304
    replace p304 := eq_true p304
    replace q304 := eq_true q304
    have p305 : 0 ≤ (x16_1 : Int) := of_decide_eq_true (by first | (with_reducible assumption) | assumption)
    have q305 : x16_1 < (l2.length : Int) := of_decide_eq_true (by first | (with_reducible assumption) | assumption)
    obtain ⟨ad305, e305, hx305_0⟩ := Kd.at_bool HR2.out x16_1 p305 q305
    (try rw [← Nbq9.out] at hx305_0)
    (try rw [← Nbq16.out] at hx305_0)
    (try rw [← Nbq19.out] at hx305_0)
    obtain rfl : ad302 = ad305 := (by injection e305)
    replace p305 := eq_true p305
    replace q305 := eq_true q305
    have p306 : 0 ≤ (x16_1 : Int) := of_decide_eq_true (by first | (with_reducible assumption) | assumption)
    have q306 : x16_1 < (l5.length : Int) := of_decide_eq_true (by first | (with_reducible assumption) | assumption)
    obtain ⟨ad306, e306, hx306_0, hx306_1, hx306_2⟩ := at_T55 HR5.out x16_1 p306 q306
    cases e306
    replace p306 := eq_true p306
    replace q306 := eq_true q306
    have p307 : 0 ≤ (x16_1 : Int) := of_decide_eq_true (by first | (with_reducible assumption) | assumption)
    have q307 : x16_1 < (l3.length : Int) := of_decide_eq_true (by first | (with_reducible assumption) | assumption)
    obtain ⟨ad307, e307, hx307_0, hx307_1, hx307_2, hx307_3⟩ := at_T46 HR3.out x16_1 p307 q307
    cases e307
    replace p307 := eq_true p307
    replace q307 := eq_true q307
    go_wp2
    repeat (go_quiet (fail); try go_wp2)
    go_ret
    exact ⟨by first | rfl | (simp; done) | (simp [*]; done), by repeat (first | exact Drawn0.refl _ | apply Drawn0.step)⟩
   rw [if_neg c23] at H
   have c23b0 : decide (a1 < (wrap64 (((rd_T55 l5 x16_1).f2) + ((rd_T46 l3 x16_1).f0)))) = false := decide_eq_false c23
   clear c23
   have H' := Aside0.mk H
   clear H
   have p303 : 0 ≤ (x16_1 : Int) := of_decide_eq_true (by first | (with_reducible assumption) | assumption)
   have q303 : x16_1 < (l4.length : Int) := of_decide_eq_true (by first | (with_reducible assumption) | assumption)
   obtain ⟨ad303, A303_0, c303_0, e303, hx303_0, hl303_0, hi303_0⟩ := at_L5 HR4.out x16_1 p303 q303
   cases e303
   have HR303_0 := Aside0.mk hi303_0
   have HC303_0 := Aside0.mk hl303_0
   clear hi303_0 hl303_0
   replace p303 := eq_true p303
   replace q303 := eq_true q303
   have p304 : 0 ≤ (a0 : Int) := of_decide_eq_true (by first | (with_reducible assumption) | assumption)
   have q304 : a0 < ((rd_L5 l4 x16_1).length : Int) := of_decide_eq_true (by first | (with_reducible assumption) | assumption)
   obtain ⟨ad304, e304, hx304_0⟩ := Kd.at_bool HR303_0.out a0 p304 q304
   (try rw [← Nbq9.out] at hx304_0)
   (try rw [← Nbq16.out] at hx304_0)
   (try rw [← Nbq19.out] at hx304_0)
   cases e304
   replace p304 := eq_true p304
   replace q304 := eq_true q304
   have p305 : 0 ≤ (x16_1 : Int) := of_decide_eq_true (by first | (with_reducible assumption) | assumption)
   have q305 : x16_1 < (l2.length : Int) := of_decide_eq_true (by first | (with_reducible assumption) | assumption)
   obtain ⟨ad305, e305, hx305_0⟩ := Kd.at_bool HR2.out x16_1 p305 q305
   (try rw [← Nbq9.out] at hx305_0)
   (try rw [← Nbq16.out] at hx305_0)
   (try rw [← Nbq19.out] at hx305_0)
   obtain rfl : ad302 = ad305 := (by injection e305)
   replace p305 := eq_true p305
   replace q305 := eq_true q305
   have p306 : 0 ≤ (x16_1 : Int) := of_decide_eq_true (by first | (with_reducible assumption) | assumption)
   have q306 : x16_1 < (l5.length : Int) := of_decide_eq_true (by first | (with_reducible assumption) | assumption)
   obtain ⟨ad306, e306, hx306_0, hx306_1, hx306_2⟩ := at_T55 HR5.out x16_1 p306 q306
   cases e306
   replace p306 := eq_true p306
   replace q306 := eq_true q306
   have p307 : 0 ≤ (x16_1 : Int) := of_decide_eq_true (by first | (with_reducible assumption) | assumption)
   have q307 : x16_1 < (l3.length : Int) := of_decide_eq_true (by first | (with_reducible assumption) | assumption)
   obtain ⟨ad307, e307, hx307_0, hx307_1, hx307_2, hx307_3⟩ := at_T46 HR3.out x16_1 p307 q307
   cases e307
   replace p307 := eq_true p307
   replace q307 := eq_true q307
   go_wp2
   repeat (go_quiet (fail); try go_wp2)
   go_roundg k1
   case measure => have := HK1.out; omega
   case rel => exact ⟨(wrap64 (x16_1 + 1)), (by first | rfl | (simp; done) | (simp [*]; done)), H', ⟨by have := HK1.out; omega⟩, by repeat (first | exact Drawn0.refl _ | apply Drawn0.step)⟩


/-! ### impl_listPlan: function 25 -/
mutual
def impl_listPlan.l0 : Nat → List Int → List (S46) → List (List Bool) → List (S55) → List Bool → List Int → Int → Int → Option ((List (S55)))
 | 0, _, _, _, _, _, _, _, _ => none
 | k + 1, x3, x4, x9, x10, x11, x12, x14, x15 => if x15 > 0 then (impl_listPlan.l1 k x3 x4 x9 x10 x11 x12 x14 x15 (x12.length : Int) 0) else (some x10)
def impl_listPlan.l1 : Nat → List Int → List (S46) → List (List Bool) → List (S55) → List Bool → List Int → Int → Int → Int → Int → Option ((List (S55)))
 | 0, _, _, _, _, _, _, _, _, _, _ => none
 | k + 1, x3, x4, x9, x10, x11, x12, x14, x15, x39, x40 => if x40 < x39 then (if 0 ≤ x40 then (if x40 < (x12.length : Int) then (if (rd x12 x40) > x14 then (impl_listPlan.l1 k x3 x4 x9 x10 x11 x12 x14 x15 x39 (wrap64 (x40 + 1))) else (impl_listPlan.l2 k x3 x4 x9 x10 x11 x12 x14 x15 x40 x39 x40 x3 (x3.length : Int) 0)) else (none)) else (none)) else (impl_listPlan.l0 k x3 x4 x9 x10 x11 x12 (wrap64 (x14 + 1)) x15)
def impl_listPlan.l2 : Nat → List Int → List (S46) → List (List Bool) → List (S55) → List Bool → List Int → Int → Int → Int → Int → Int → List Int → Int → Int → Option ((List (S55)))
 | 0, _, _, _, _, _, _, _, _, _, _, _, _, _, _ => none
 | k + 1, x3, x4, x9, x10, x11, x12, x14, x15, x16, x39, x40, x49, x50, x51 => if x51 < x50 then (if 0 ≤ x51 then (if x51 < (x49.length : Int) then ((impl_listPlan_1.f k (rd x49 x51) x14 x11 x4 x9 x10).bind fun t322 => (if t322 = true then (if 0 ≤ (rd x49 x51) then (if (rd x49 x51) < (x10.length : Int) then (if (rd x49 x51) < (x11.length : Int) then (if (rd x49 x51) < (x4.length : Int) then (if 0 ≤ x16 then (if x16 < (x12.length : Int) then (impl_listPlan.l1 k x3 x4 x9 (x10.set ((rd x49 x51) : Int).toNat (⟨rd x49 x51, x16, x14⟩ : S55)) (x11.set ((rd x49 x51) : Int).toNat true) (x12.set (x16 : Int).toNat (wrap64 (x14 + ((rd_T46 x4 (rd x49 x51)).f0)))) x14 (wrap64 (x15 - 1)) x39 (wrap64 (x40 + 1))) else (none)) else (none)) else (none)) else (none)) else (none)) else (none)) else (impl_listPlan.l2 k x3 x4 x9 x10 x11 x12 x14 x15 x16 x39 x40 x49 x50 (wrap64 (x51 + 1))))) else (none)) else (none)) else (impl_listPlan.l1 k x3 x4 x9 x10 x11 x12 x14 x15 x39 (wrap64 (x40 + 1)))
end
def impl_listPlan.f (k : Nat) (l0 : List (S46)) (a1 : Int) (l2 : List (S37)) (l3 : List Int) : Option ((List (S55))) := (impl_closure.f k (l0.length : Int) l2).bind fun t308 => (if 0 ≤ (l0.length : Int) then (if ((l0.length : Int) : Int).toNat ≤ 11728124029610 then (if ((l0.length : Int) : Int).toNat ≤ 281474976710656 then (if 0 ≤ a1 then (if (a1 : Int).toNat ≤ 35184372088832 then (impl_listPlan.l0 k l3 l0 t308 (List.replicate ((l0.length : Int) : Int).toNat z55) (List.replicate ((l0.length : Int) : Int).toNat false) (List.replicate (a1 : Int).toNat 0) 0 (l0.length : Int)) else (none)) else (none)) else (none)) else (none)) else (none))
theorem impl_listPlan.mono_l : ∀ k, (∀ y0 y1 y2 y3 y4 y5 y6 y7, LeO (impl_listPlan.l0 k y0 y1 y2 y3 y4 y5 y6 y7) (impl_listPlan.l0 (k + 1) y0 y1 y2 y3 y4 y5 y6 y7)) ∧ (∀ y0 y1 y2 y3 y4 y5 y6 y7 y8 y9, LeO (impl_listPlan.l1 k y0 y1 y2 y3 y4 y5 y6 y7 y8 y9) (impl_listPlan.l1 (k + 1) y0 y1 y2 y3 y4 y5 y6 y7 y8 y9)) ∧ (∀ y0 y1 y2 y3 y4 y5 y6 y7 y8 y9 y10 y11 y12 y13, LeO (impl_listPlan.l2 k y0 y1 y2 y3 y4 y5 y6 y7 y8 y9 y10 y11 y12 y13) (impl_listPlan.l2 (k + 1) y0 y1 y2 y3 y4 y5 y6 y7 y8 y9 y10 y11 y12 y13))
 | 0 => ⟨fun _ _ _ _ _ _ _ _ r h => by simp [impl_listPlan.l0] at h, fun _ _ _ _ _ _ _ _ _ _ r h => by simp [impl_listPlan.l1] at h, fun _ _ _ _ _ _ _ _ _ _ _ _ _ _ r h => by simp [impl_listPlan.l2] at h⟩
 | k + 1 => by
  obtain ⟨ih0, ih1, ih2⟩ := impl_listPlan.mono_l k
  refine ⟨?_, ?_, ?_⟩
  ·intro y0 y1 y2 y3 y4 y5 y6 y7
   unfold impl_listPlan.l0
   repeat' first
   | (with_reducible exact ih0 _ _ _ _ _ _ _ _)
   | (with_reducible exact ih1 _ _ _ _ _ _ _ _ _ _)
   | (with_reducible exact ih2 _ _ _ _ _ _ _ _ _ _ _ _ _ _)
   | (with_reducible exact impl_closure.mono _ _ _)
   | (with_reducible exact impl_listPlan_1.mono _ _ _ _ _ _ _)
   | (with_reducible exact LeO.refl _)
   | (with_reducible exact LeO.none _)
   | (with_reducible refine LeO.ite ?_ ?_)
   | (with_reducible refine LeO.bind ?_ (fun _ => ?_))
   | exact ih0 _ _ _ _ _ _ _ _
   | exact ih1 _ _ _ _ _ _ _ _ _ _
   | exact ih2 _ _ _ _ _ _ _ _ _ _ _ _ _ _
   | exact impl_closure.mono _ _ _
   | exact impl_listPlan_1.mono _ _ _ _ _ _ _
   | exact LeO.none _
   | refine LeO.ite ?_ ?_
   | refine LeO.bind ?_ (fun _ => ?_)
  ·intro y0 y1 y2 y3 y4 y5 y6 y7 y8 y9
   unfold impl_listPlan.l1
   repeat' first
   | (with_reducible exact ih0 _ _ _ _ _ _ _ _)
   | (with_reducible exact ih1 _ _ _ _ _ _ _ _ _ _)
   | (with_reducible exact ih2 _ _ _ _ _ _ _ _ _ _ _ _ _ _)
   | (with_reducible exact impl_closure.mono _ _ _)
   | (with_reducible exact impl_listPlan_1.mono _ _ _ _ _ _ _)
   | (with_reducible exact LeO.refl _)
   | (with_reducible exact LeO.none _)
   | (with_reducible refine LeO.ite ?_ ?_)
   | (with_reducible refine LeO.bind ?_ (fun _ => ?_))
   | exact ih0 _ _ _ _ _ _ _ _
   | exact ih1 _ _ _ _ _ _ _ _ _ _
   | exact ih2 _ _ _ _ _ _ _ _ _ _ _ _ _ _
   | exact impl_closure.mono _ _ _
   | exact impl_listPlan_1.mono _ _ _ _ _ _ _
   | exact LeO.none _
   | refine LeO.ite ?_ ?_
   | refine LeO.bind ?_ (fun _ => ?_)
  ·intro y0 y1 y2 y3 y4 y5 y6 y7 y8 y9 y10 y11 y12 y13
   unfold impl_listPlan.l2
   repeat' first
   | (with_reducible exact ih0 _ _ _ _ _ _ _ _)
   | (with_reducible exact ih1 _ _ _ _ _ _ _ _ _ _)
   | (with_reducible exact ih2 _ _ _ _ _ _ _ _ _ _ _ _ _ _)
   | (with_reducible exact impl_closure.mono _ _ _)
   | (with_reducible exact impl_listPlan_1.mono _ _ _ _ _ _ _)
   | (with_reducible exact LeO.refl _)
   | (with_reducible exact LeO.none _)
   | (with_reducible refine LeO.ite ?_ ?_)
   | (with_reducible refine LeO.bind ?_ (fun _ => ?_))
   | exact ih0 _ _ _ _ _ _ _ _
   | exact ih1 _ _ _ _ _ _ _ _ _ _
   | exact ih2 _ _ _ _ _ _ _ _ _ _ _ _ _ _
   | exact impl_closure.mono _ _ _
   | exact impl_listPlan_1.mono _ _ _ _ _ _ _
   | exact LeO.none _
   | refine LeO.ite ?_ ?_
   | refine LeO.bind ?_ (fun _ => ?_)
theorem impl_listPlan.mono : ∀ a0 a1 a2 a3 k, LeO (impl_listPlan.f k a0 a1 a2 a3) (impl_listPlan.f (k + 1) a0 a1 a2 a3) := by
 intro a0 a1 a2 a3 k
 obtain ⟨ih0, ih1, ih2⟩ := impl_listPlan.mono_l k
 unfold impl_listPlan.f
 repeat' first
   | (with_reducible exact ih0 _ _ _ _ _ _ _ _)
   | (with_reducible exact ih1 _ _ _ _ _ _ _ _ _ _)
   | (with_reducible exact ih2 _ _ _ _ _ _ _ _ _ _ _ _ _ _)
   | (with_reducible exact impl_closure.mono _ _ _)
   | (with_reducible exact impl_listPlan_1.mono _ _ _ _ _ _ _)
   | (with_reducible exact LeO.refl _)
   | (with_reducible exact LeO.none _)
   | (with_reducible refine LeO.ite ?_ ?_)
   | (with_reducible refine LeO.bind ?_ (fun _ => ?_))
   | exact ih0 _ _ _ _ _ _ _ _
   | exact ih1 _ _ _ _ _ _ _ _ _ _
   | exact ih2 _ _ _ _ _ _ _ _ _ _ _ _ _ _
   | exact impl_closure.mono _ _ _
   | exact impl_listPlan_1.mono _ _ _ _ _ _ _
   | exact LeO.none _
   | refine LeO.ite ?_ ?_
   | refine LeO.bind ?_ (fun _ => ?_)
set_option maxRecDepth 100000 in
theorem impl_listPlan_1.heg (args : Array Value) (w : World) : (callFunc 36 args).run Try.prog w = .ok (.enter 36 args) w := by
 first | (unfold callFunc; go_simp; done) | (unfold callFunc; go_simp; rfl) | rfl
theorem lp_st {W w1 w2 : World} {g : Nat} {x v : Value} {t : TypeId} (hg : g = W.heap.size) (hb : Below W.heap.size W w1) (h : w1.heap[g]? = some (.cells #[x] t (0, 0))) (hw : w2 = w1.setCell ⟨g, 0, none⟩ v) : Below W.heap.size W w2 ∧ w2.heap[g]? = some (.cells #[v] t (0, 0)) := by
 subst hw
 exact ⟨below_set hb (Nat.le_of_eq hg.symm), blk_put h 0 _ rfl⟩
def lpBx (W : World) (g4 g9 g10 g11 : Nat) (v4 v9 v10 v11 : Value) : Prop := W.heap[g4]? = some (.cells #[v4] 29 (0, 0)) ∧ W.heap[g9]? = some (.cells #[v9] 56 (0, 0)) ∧ W.heap[g10]? = some (.cells #[v10] 43 (0, 0)) ∧ W.heap[g11]? = some (.cells #[v11] 60 (0, 0))
theorem lpBx_cells {W : World} {g4 g9 g10 g11 : Nat} {v4 v9 v10 v11 : Value} (h : lpBx W g4 g9 g10 g11 v4 v9 v10 v11) : W.cell? ⟨g4, 0, none⟩ = some v4 ∧ W.cell? ⟨g9, 0, none⟩ = some v9 ∧ W.cell? ⟨g10, 0, none⟩ = some v10 ∧ W.cell? ⟨g11, 0, none⟩ = some v11 := ⟨(bz1 h.1).1, (bz1 h.2.1).1, (bz1 h.2.2.1).1, (bz1 h.2.2.2).1⟩
theorem lpBx_at {w w' : World} {m : Nat} {g4 g9 g10 g11 : Nat} {v4 v9 v10 v11 : Value} (hq : w.drewN m = w') (h : lpBx w g4 g9 g10 g11 v4 v9 v10 v11) : lpBx w' g4 g9 g10 g11 v4 v9 v10 v11 := ⟨blk_at hq h.1, blk_at hq h.2.1, blk_at hq h.2.2.1, blk_at hq h.2.2.2⟩
theorem lpBx_bs {w' w : World} {g4 g9 g10 g11 : Nat} {v4 v9 v10 v11 : Value} (h : lpBx w g4 g9 g10 g11 v4 v9 v10 v11) [k : Bs w' w] : lpBx w' g4 g9 g10 g11 v4 v9 v10 v11 := ⟨bs h.1, bs h.2.1, bs h.2.2.1, bs h.2.2.2⟩
theorem lp_over {W w1 : World} {v : Value} {e' t : TypeId} {g : Nat} {cs : Array Value} (h : W.heap[g]? = some (.cells cs t (0, 0))) (hty : ∀ k, v.ownBlock = some k → ∃ cells, W.heap[k]? = some (.cells cells e' (0, 0))) (ht : e' ≠ t) (hg : W.grownBy w1 v.ownBlock) : w1.heap[g]? = some (.cells cs t (0, 0)) :=
 (hg.block g (blk_lt h) (fun he => by
  obtain ⟨c, hc⟩ := hty g he.symm
  rw [h] at hc
  injection hc with hc
  injection hc with _ ht2 _
  exact ht ht2.symm)).trans h
theorem lpBx_over {W w1 : World} {v : Value} {e' : TypeId} {g4 g9 g10 g11 : Nat} {v4 v9 v10 v11 : Value} (h : lpBx W g4 g9 g10 g11 v4 v9 v10 v11) (hty : ∀ k, v.ownBlock = some k → ∃ cells, W.heap[k]? = some (.cells cells e' (0, 0))) (ht : e' ≠ 29 ∧ e' ≠ 56 ∧ e' ≠ 43 ∧ e' ≠ 60) (hg : W.grownBy w1 v.ownBlock) : lpBx w1 g4 g9 g10 g11 v4 v9 v10 v11 :=
 ⟨lp_over h.1 hty ht.1 hg, lp_over h.2.1 hty ht.2.1 hg, lp_over h.2.2.1 hty ht.2.2.1 hg, lp_over h.2.2.2 hty ht.2.2.2 hg⟩
set_option maxHeartbeats 8000000 in
set_option maxRecDepth 100000 in
theorem impl_listPlan.calls (k : Nat) (A0 : Option Addr) (c0 : Nat) (l0 : List (S46)) (a1 : Int) (A2 : Option Addr) (c2 : Nat) (l2 : List (S37)) (A3 : Option Addr) (c3 : Nat) (l3 : List Int) (r : List (S55)) (w : World) (hr0 : Kd.C k46 w A0 l0.length l0) (hc0 : l0.length ≤ c0) (hr2 : Kd.C k37 w A2 l2.length l2) (hc2 : l2.length ≤ c2) (hr3 : Kd.C (Kd.int .i64) w A3 l3.length l3) (hc3 : l3.length ≤ c3) (h : impl_listPlan.f k l0 a1 l2 l3 = some r) :
  Calls Try.prog 25 #[.slice A0 l0.length c0, .int .i64 a1, .slice A2 l2.length c2, .slice A3 l3.length c3] w fun e w' => ∃ v0_ : Value, e = .returned (v0_) ∧ Kd.R k55 55 w' w.heap.size (fun _ => True) v0_ r ∧ Below w.heap.size w w' := by
 have hu55 := Try.underlying55
 have HR0 := Aside0.mk hr0
 have HC0 := Aside0.mk hc0
 clear hr0 hc0
 have HR2 := Aside0.mk hr2
 have HC2 := Aside0.mk hc2
 clear hr2 hc2
 have HR3 := Aside0.mk hr3
 have HC3 := Aside0.mk hc3
 clear hr3 hc3
 have HB := Aside0.mk (Below.refl w.heap.size w)
 have H : ((impl_closure.f k (l0.length : Int) l2).bind fun t308 => (if 0 ≤ (l0.length : Int) then (if ((l0.length : Int) : Int).toNat ≤ 11728124029610 then (if ((l0.length : Int) : Int).toNat ≤ 281474976710656 then (if 0 ≤ a1 then (if (a1 : Int).toNat ≤ 35184372088832 then (impl_listPlan.l0 k l3 l0 t308 (List.replicate ((l0.length : Int) : Int).toNat z55) (List.replicate ((l0.length : Int) : Int).toNat false) (List.replicate (a1 : Int).toNat 0) 0 (l0.length : Int)) else (none)) else (none)) else (none)) else (none)) else (none))) = some r := h
 clear h
 replace H := Option.bind_eq_some_iff.mp H
 obtain ⟨t308, A50, H⟩ := H
 replace H : (if 0 ≤ (l0.length : Int) then (if ((l0.length : Int) : Int).toNat ≤ 11728124029610 then (if ((l0.length : Int) : Int).toNat ≤ 281474976710656 then (if 0 ≤ a1 then (if (a1 : Int).toNat ≤ 35184372088832 then (impl_listPlan.l0 k l3 l0 t308 (List.replicate ((l0.length : Int) : Int).toNat z55) (List.replicate ((l0.length : Int) : Int).toNat false) (List.replicate (a1 : Int).toNat 0) 0 (l0.length : Int)) else (none)) else (none)) else (none)) else (none)) else (none)) = some r := H
 have A5 := Aside0.mk A50
 clear A50
 by_cases c6 : 0 ≤ (l0.length : Int)
 rotate_left
 ·rw [if_neg c6] at H
  exact absurd H (by simp)
 rw [if_pos c6] at H
 have c6b0 := eq_true c6
 have c6b1 : decide (0 ≤ (l0.length : Int)) = true := decide_eq_true c6
 clear c6
 by_cases c7 : ((l0.length : Int) : Int).toNat ≤ 11728124029610
 rotate_left
 ·rw [if_neg c7] at H
  exact absurd H (by simp)
 rw [if_pos c7] at H
 have c7b0 := eq_true c7
 have c7b1 : decide (((l0.length : Int) : Int).toNat ≤ 11728124029610) = true := decide_eq_true c7
 clear c7
 obtain ⟨y311, hy311⟩ : ∃ y_ : List (S55), y_ = (List.replicate ((l0.length : Int) : Int).toNat z55) := ⟨_, rfl⟩
 replace H : (if ((l0.length : Int) : Int).toNat ≤ 281474976710656 then (if 0 ≤ a1 then (if (a1 : Int).toNat ≤ 35184372088832 then (impl_listPlan.l0 k l3 l0 t308 y311 (List.replicate ((l0.length : Int) : Int).toNat false) (List.replicate (a1 : Int).toNat 0) 0 (l0.length : Int)) else (none)) else (none)) else (none)) = some r := by first | (rw [hy311]; with_reducible exact H) | (have H2_ := (Option.bind_some _ _).symm.trans H; rw [hy311]; with_reducible exact H2_) | (have H2_ := (Option.bind_some _ _).symm.trans H; with_reducible exact H2_) | with_reducible exact H | (rw [hy311]; exact H) | exact H
 have Ny311 := Aside0.mk hy311
 clear hy311
 by_cases c8 : ((l0.length : Int) : Int).toNat ≤ 281474976710656
 rotate_left
 ·rw [if_neg c8] at H
  exact absurd H (by simp)
 rw [if_pos c8] at H
 have c8b0 := eq_true c8
 have c8b1 : decide (((l0.length : Int) : Int).toNat ≤ 281474976710656) = true := decide_eq_true c8
 clear c8
 obtain ⟨y314, hy314⟩ : ∃ y_ : List Bool, y_ = (List.replicate ((l0.length : Int) : Int).toNat false) := ⟨_, rfl⟩
 replace H : (if 0 ≤ a1 then (if (a1 : Int).toNat ≤ 35184372088832 then (impl_listPlan.l0 k l3 l0 t308 y311 y314 (List.replicate (a1 : Int).toNat 0) 0 (l0.length : Int)) else (none)) else (none)) = some r := by first | (rw [hy314]; with_reducible exact H) | (have H2_ := (Option.bind_some _ _).symm.trans H; rw [hy314]; with_reducible exact H2_) | (have H2_ := (Option.bind_some _ _).symm.trans H; with_reducible exact H2_) | with_reducible exact H | (rw [hy314]; exact H) | exact H
 have Ny314 := Aside0.mk hy314
 clear hy314
 by_cases c9 : 0 ≤ a1
 rotate_left
 ·rw [if_neg c9] at H
  exact absurd H (by simp)
 rw [if_pos c9] at H
 have c9b0 := eq_true c9
 have c9b1 : decide (0 ≤ a1) = true := decide_eq_true c9
 clear c9
 by_cases c10 : (a1 : Int).toNat ≤ 35184372088832
 rotate_left
 ·rw [if_neg c10] at H
  exact absurd H (by simp)
 rw [if_pos c10] at H
 have c10b0 := eq_true c10
 have c10b1 : decide ((a1 : Int).toNat ≤ 35184372088832) = true := decide_eq_true c10
 clear c10
 obtain ⟨y317, hy317⟩ : ∃ y_ : List Int, y_ = (List.replicate (a1 : Int).toNat 0) := ⟨_, rfl⟩
 replace H : (impl_listPlan.l0 k l3 l0 t308 y311 y314 y317 0 (l0.length : Int)) = some r := by first | (rw [hy317]; with_reducible exact H) | (have H2_ := (Option.bind_some _ _).symm.trans H; rw [hy317]; with_reducible exact H2_) | (have H2_ := (Option.bind_some _ _).symm.trans H; with_reducible exact H2_) | with_reducible exact H | (rw [hy317]; exact H) | exact H
 have Ny317 := Aside0.mk hy317
 clear hy317
 have H' := Aside0.mk H
 clear H
 go_enter Try.func25, Try.ntmps25
 go_wp2_with (first | ((with_reducible refine gate_dst (N := 4) rfl ?_); refine box_event ?hg (N := 4) ?hd (cs := #[.slice A0 l0.length c0]) (t := 29) ?hr ?_; (case hd => rfl); (case hg => rfl); (case hr => first | (go_simp; done) | (go_simp; rfl)); intro g4 hg w4 hbox hb; have n0_ := Aside0.mk (below_step (bw HB.out) hb); have B4 := Aside0.mk hbox; replace HB := n0_; clear n0_ hb hbox hg; obtain ⟨hb4, hf4⟩ := bz1 B4.out) | (go_at_call 35; (with_reducible refine (impl_closure.calls k (l0.length : Int) _ _ l2 t308 _ ?side1 ?side2 A5.out).mono ?_); (case side1 => exact bC HR2.out HB.out); (case side2 => exact HC2.out); rintro e w11 ⟨v309, rfl, ho0, hb⟩; have n0_ := Aside0.mk (Kd.S_lower ho0 (below_size (bw HB.out))); have n1_ := Aside0.mk (below_step (bw HB.out) hb); have qB4_ := Aside0.mk (blk_below (bs B4.out) hb); have HO310 := n0_; replace HB := n1_; clear n0_ n1_; (try clear hb); (try clear hb2); (try clear hk); (try clear hi); (try clear ho0); replace B4 := qB4_; clear qB4_; obtain ⟨hb4, hf4⟩ := bz1 B4.out; obtain ⟨Ab, cb, eb⟩ := Kd.S_slice HO310.out; subst eb) | ((with_reducible refine gate_dst (N := 9) rfl ?_); refine box_event ?hg (N := 9) ?hd (cs := #[.slice none 0 0]) (t := 56) ?hr ?_; (case hd => rfl); (case hg => rfl); (case hr => first | (go_simp; done) | (go_simp; rfl)); intro g9 hg w9a hbox hb; have HBb := Aside0.mk hb; have GEq := Aside0.mk hg; have B9 := Aside0.mk hbox; clear hg hb hbox; obtain ⟨hb9, hf9⟩ := bz1 B9.out) | ((with_reducible refine gate_store (t := 56) (p := 9) rfl ?_); refine store_event (t := 56) (p := 9) (v := ?vo_9) (w1 := (w9a.setCell ⟨g9, 0, none⟩ (.slice Ab t308.length cb))) ?hg ?ho ?hn ?hr ?_; (case ho => rfl); (case hg => rfl); (case hn => rfl); (case hr => first | (go_simp; done) | (go_simp; rfl)); intro w9s hw; obtain ⟨hb, hbx⟩ := lp_st GEq.out HBb.out B9.out hw; have m0_ := Aside0.mk (Kd.S_below (by (with_reducible repeat (first | apply Kd.S_alloc | apply Kd.S_drewN | apply Kd.S_drew)); exact HO310.out) hb); have mB4_ := Aside0.mk (blk_below (bs B4.out) hb); have mH_ := Aside0.mk (below_step (bw HB.out) hb); replace HO310 := m0_; replace B4 := mB4_; replace HB := mH_; clear m0_ mH_ mB4_; replace B9 := Aside0.mk hbx; clear hw hb hbx HBb GEq hb9 hf9; obtain ⟨hb4, hf4⟩ := bz1 B4.out; obtain ⟨hb9, hf9⟩ := bz1 B9.out) | ((with_reducible refine gate_dst (N := 25) rfl ?_); refine Kd.R_make k55 _ 55 rfl (N := 25) rfl 43 _ _ rfl (l0.length : Int) rfl rfl Try.underlying43 (.agg #[(.int .i64 0), (.int .i64 0), (.int .i64 0)]) 24 info55 rfl (by decide) (by omega) z55 (ok := fun _ => True) (okp := fun _ => True) (k55_mkM _ _ _ z55 ) (fun _ hk => hk) trivial (of_decide_eq_true (by first | (with_reducible assumption) | assumption)) (Nat.le_trans (Nat.mul_le_mul_right _ (of_decide_eq_true (by first | (with_reducible assumption) | assumption) : (l0.length : Int).toNat ≤ 11728124029610)) (by omega)) (Below.refl _ _) (Nat.le_refl _) ?_; intro v312 w12 ho13 hb hg_ hnew_; clear hg_ hnew_; (first | rw [← Ny311.out] at ho13 | (simp only [Int.reduceToNat] at ho13; rw [← Ny311.out] at ho13)); have n0_ := Aside0.mk (Kd.S_below (by (with_reducible repeat (first | apply Kd.S_alloc | apply Kd.S_drewN | apply Kd.S_drew)); exact HO310.out) hb); have n1_ := Aside0.mk (Kd.R_lower ho13 (below_size (bw HB.out))); have n2_ := Aside0.mk (below_step (bw HB.out) hb); have qB4_ := Aside0.mk (blk_below (bs B4.out) hb); have qB9_ := Aside0.mk (blk_below (bs B9.out) hb); replace HO310 := n0_; have HO313 := n1_; replace HB := n2_; clear n0_ n1_ n2_; clear hb ho13; replace B4 := qB4_; clear qB4_; obtain ⟨hb4, hf4⟩ := bz1 B4.out; replace B9 := qB9_; clear qB9_; obtain ⟨hb9, hf9⟩ := bz1 B9.out; obtain ⟨Ac, cc, ec⟩ := Kd.R_slice HO313.out; subst ec) | ((with_reducible refine gate_dst (N := 10) rfl ?_); refine box_event ?hg (N := 10) ?hd (cs := #[.slice none 0 0]) (t := 43) ?hr ?_; (case hd => rfl); (case hg => rfl); (case hr => first | (go_simp; done) | (go_simp; rfl)); intro g10 hg w10a hbox hb; have HBb := Aside0.mk hb; have GEq := Aside0.mk hg; have B10 := Aside0.mk hbox; clear hg hb hbox; obtain ⟨hb10, hf10⟩ := bz1 B10.out) | ((with_reducible refine gate_store (t := 43) (p := 10) rfl ?_); refine store_event (t := 43) (p := 10) (v := ?vo_10) (w1 := (w10a.setCell ⟨g10, 0, none⟩ (.slice Ac y311.length cc))) ?hg ?ho ?hn ?hr ?_; (case ho => rfl); (case hg => rfl); (case hn => rfl); (case hr => first | (go_simp; done) | (go_simp; rfl)); intro w10s hw; obtain ⟨hb, hbx⟩ := lp_st GEq.out HBb.out B10.out hw; have m0_ := Aside0.mk (Kd.S_below (by (with_reducible repeat (first | apply Kd.S_alloc | apply Kd.S_drewN | apply Kd.S_drew)); exact HO310.out) hb); have mHO313_ := Aside0.mk (Kd.R_below (bR HO313.out) hb); have mB4_ := Aside0.mk (blk_below (bs B4.out) hb); have mB9_ := Aside0.mk (blk_below (bs B9.out) hb); have mH_ := Aside0.mk (below_step (bw HB.out) hb); replace HO310 := m0_; replace HO313 := mHO313_; replace B4 := mB4_; replace B9 := mB9_; replace HB := mH_; clear m0_ mH_ mHO313_ mB4_ mB9_; replace B10 := Aside0.mk hbx; clear hw hb hbx HBb GEq hb10 hf10; obtain ⟨hb4, hf4⟩ := bz1 B4.out; obtain ⟨hb9, hf9⟩ := bz1 B9.out; obtain ⟨hb10, hf10⟩ := bz1 B10.out) | ((with_reducible refine gate_dst (N := 28) rfl ?_); refine Kd.R_make Kd.bool _ 4 rfl (N := 28) rfl 60 _ _ rfl (l0.length : Int) rfl rfl Try.underlying60 (.bool false) 1 info4 rfl (by decide) (by omega) false (ok := fun _ => True) (okp := fun _ => True) rfl (fun _ hk => hk) trivial (of_decide_eq_true (by first | (with_reducible assumption) | assumption)) (Nat.le_trans (Nat.mul_le_mul_right _ (of_decide_eq_true (by first | (with_reducible assumption) | assumption) : (l0.length : Int).toNat ≤ 281474976710656)) (by omega)) (Below.refl _ _) (Nat.le_refl _) ?_; intro v315 w14 ho15 hb hg_ hnew_; clear hg_ hnew_; (first | rw [← Ny314.out] at ho15 | (simp only [Int.reduceToNat] at ho15; rw [← Ny314.out] at ho15)); have n0_ := Aside0.mk (Kd.S_elder' (by (with_reducible repeat (first | apply Kd.S_alloc | apply Kd.S_drewN | apply Kd.S_drew)); exact HO310.out) (Kd.R_base ho15) hb); have n1_ := Aside0.mk (Kd.R_below (bR HO313.out) hb); have n2_ := Aside0.mk (Kd.R_lower ho15 (below_size (bw HB.out))); have n3_ := Aside0.mk (below_step (bw HB.out) hb); have qB4_ := Aside0.mk (blk_below (bs B4.out) hb); have qB9_ := Aside0.mk (blk_below (bs B9.out) hb); have qB10_ := Aside0.mk (blk_below (bs B10.out) hb); replace HO310 := n0_; replace HO313 := n1_; have HO316 := n2_; replace HB := n3_; clear n0_ n1_ n2_ n3_; clear hb ho15; replace B4 := qB4_; clear qB4_; obtain ⟨hb4, hf4⟩ := bz1 B4.out; replace B9 := qB9_; clear qB9_; obtain ⟨hb9, hf9⟩ := bz1 B9.out; replace B10 := qB10_; clear qB10_; obtain ⟨hb10, hf10⟩ := bz1 B10.out; obtain ⟨Ad, cd, ed⟩ := Kd.R_slice HO316.out; subst ed) | ((with_reducible refine gate_dst (N := 11) rfl ?_); refine box_event ?hg (N := 11) ?hd (cs := #[.slice none 0 0]) (t := 60) ?hr ?_; (case hd => rfl); (case hg => rfl); (case hr => first | (go_simp; done) | (go_simp; rfl)); intro g11 hg w11a hbox hb; have HBb := Aside0.mk hb; have GEq := Aside0.mk hg; have B11 := Aside0.mk hbox; clear hg hb hbox; obtain ⟨hb11, hf11⟩ := bz1 B11.out) | ((with_reducible refine gate_store (t := 60) (p := 11) rfl ?_); refine store_event (t := 60) (p := 11) (v := ?vo_11) (w1 := (w11a.setCell ⟨g11, 0, none⟩ (.slice Ad y314.length cd))) ?hg ?ho ?hn ?hr ?_; (case ho => rfl); (case hg => rfl); (case hn => rfl); (case hr => first | (go_simp; done) | (go_simp; rfl)); intro w11s hw; obtain ⟨hb, hbx⟩ := lp_st GEq.out HBb.out B11.out hw; have m0_ := Aside0.mk (Kd.S_below (by (with_reducible repeat (first | apply Kd.S_alloc | apply Kd.S_drewN | apply Kd.S_drew)); exact HO310.out) hb); have mHO313_ := Aside0.mk (Kd.R_below (bR HO313.out) hb); have mHO316_ := Aside0.mk (Kd.R_below (bR HO316.out) hb); have mB4_ := Aside0.mk (blk_below (bs B4.out) hb); have mB9_ := Aside0.mk (blk_below (bs B9.out) hb); have mB10_ := Aside0.mk (blk_below (bs B10.out) hb); have mH_ := Aside0.mk (below_step (bw HB.out) hb); replace HO310 := m0_; replace HO313 := mHO313_; replace HO316 := mHO316_; replace B4 := mB4_; replace B9 := mB9_; replace B10 := mB10_; replace HB := mH_; clear m0_ mH_ mHO313_ mHO316_ mB4_ mB9_ mB10_; replace B11 := Aside0.mk hbx; clear hw hb hbx HBb GEq hb11 hf11; obtain ⟨hb4, hf4⟩ := bz1 B4.out; obtain ⟨hb9, hf9⟩ := bz1 B9.out; obtain ⟨hb10, hf10⟩ := bz1 B10.out; obtain ⟨hb11, hf11⟩ := bz1 B11.out) | ((with_reducible refine gate_dst (N := 30) rfl ?_); refine Kd.R_make (Kd.int .i64) _ 3 rfl (N := 30) rfl 24 _ _ rfl a1 rfl rfl Try.underlying24 (.int .i64 0) 8 info3 rfl (by decide) (by omega) 0 (ok := fun _ => True) (okp := fun _ => True) rfl (fun _ hk => hk) trivial (of_decide_eq_true (by first | (with_reducible assumption) | assumption)) (Nat.le_trans (Nat.mul_le_mul_right _ (of_decide_eq_true (by first | (with_reducible assumption) | assumption) : a1.toNat ≤ 35184372088832)) (by omega)) (Below.refl _ _) (Nat.le_refl _) ?_; intro v318 w16 ho17 hb hg_ hnew_; clear hg_ hnew_; (first | rw [← Ny317.out] at ho17 | (simp only [Int.reduceToNat] at ho17; rw [← Ny317.out] at ho17)); have n0_ := Aside0.mk (Kd.S_below (by (with_reducible repeat (first | apply Kd.S_alloc | apply Kd.S_drewN | apply Kd.S_drew)); exact HO310.out) hb); have n1_ := Aside0.mk (Kd.R_below (bR HO313.out) hb); have n2_ := Aside0.mk (Kd.R_below (bR HO316.out) hb); have n3_ := Aside0.mk (Kd.R_lower ho17 (below_size (bw HB.out))); have n4_ := Aside0.mk (below_step (bw HB.out) hb); have qB4_ := Aside0.mk (blk_below (bs B4.out) hb); have qB9_ := Aside0.mk (blk_below (bs B9.out) hb); have qB10_ := Aside0.mk (blk_below (bs B10.out) hb); have qB11_ := Aside0.mk (blk_below (bs B11.out) hb); replace HO310 := n0_; replace HO313 := n1_; replace HO316 := n2_; have HO319 := n3_; replace HB := n4_; clear n0_ n1_ n2_ n3_ n4_; clear hb ho17; replace B4 := qB4_; clear qB4_; obtain ⟨hb4, hf4⟩ := bz1 B4.out; replace B9 := qB9_; clear qB9_; obtain ⟨hb9, hf9⟩ := bz1 B9.out; replace B10 := qB10_; clear qB10_; obtain ⟨hb10, hf10⟩ := bz1 B10.out; replace B11 := qB11_; clear qB11_; obtain ⟨hb11, hf11⟩ := bz1 B11.out))
 repeat (go_quiet (fail); try go_wp2)
 clear hb4 hb9 hb10 hb11 hf4 hf9 hf10 hf11
 generalize Value.slice Ab t308.length cb = v309 at HO310 B9 ⊢
 generalize Value.slice Ac y311.length cc = v312 at HO313 B10 ⊢
 generalize Value.slice Ad y314.length cd = v315 at HO310 HO316 B11 ⊢
 have HX := Aside0.mk (show lpBx _ g4 g9 g10 g11 (.slice A0 l0.length c0) v309 v312 v315 from ⟨B4.out, B9.out, B10.out, B11.out⟩)
 clear B4 B9 B10 B11
 obtain ⟨gf, hgf⟩ : ∃ g : Nat, g = 36 := ⟨36, rfl⟩
 have e36 : Value.func (Fn.func 36) #[] #[.pointer (some ⟨g11, 0, none⟩), .pointer (some ⟨g4, 0, none⟩), .pointer (some ⟨g9, 0, none⟩), .pointer (some ⟨g10, 0, none⟩)] = Value.func (Fn.func gf) #[] #[.pointer (some ⟨g11, 0, none⟩), .pointer (some ⟨g4, 0, none⟩), .pointer (some ⟨g9, 0, none⟩), .pointer (some ⟨g10, 0, none⟩)] := by rw [hgf]
 rw [e36]
 have eg : ∀ args w, (callFunc gf args).run Try.prog w = .ok (.enter gf args) w := by rw [hgf]; exact impl_listPlan_1.heg
 have HG := Aside0.mk hgf
 clear e36 hgf
 go_loopg [14, 15] k (fun kq v14 v15 w' => ∃ (x10_1 : List (S55)) (x11_1 : List Bool) (x12_1 : List Int) (x14_1 : Int) (x15_1 : Int), v14 = .int .i64 x14_1 ∧ v15 = .int .i64 x15_1 ∧ Aside0 (impl_listPlan.l0 kq l3 l0 t308 x10_1 x11_1 x12_1 x14_1 x15_1 = some r) ∧ Aside0 (kq ≤ k) ∧ Aside0 (Kd.S (Kd.slice 4 Kd.bool) 60 w' w.heap.size (fun k_ => some k_ ≠ (v315 : Value).ownBlock) v309 t308) ∧ Aside0 (Kd.R k55 55 w' w.heap.size (fun _ => True) v312 x10_1) ∧ Aside0 (Kd.R Kd.bool 4 w' w.heap.size (fun _ => True) v315 x11_1) ∧ Aside0 (Kd.R (Kd.int .i64) 3 w' w.heap.size (fun _ => True) v318 x12_1) ∧ Aside0 (Below w.heap.size w w') ∧ Aside0 (lpBx w' g4 g9 g10 g11 (.slice A0 l0.length c0) v309 v312 v315))
 case atStart => exact ⟨(y311), (y314), (y317), (0), ((l0.length : Int)), (by first | rfl | (simp; done) | (simp [*]; done)), (by first | rfl | (simp; done) | (simp [*]; done)), H', ⟨Nat.le_refl _⟩, ⟨by (with_reducible repeat (first | apply Kd.S_alloc | apply Kd.S_drewN | apply Kd.S_drew)); exact Kd.S_mono HO310.out (fun _ hk => hk.2)⟩, ⟨bR HO313.out⟩, ⟨bR HO316.out⟩, ⟨bR HO319.out⟩, ⟨bw HB.out⟩, ⟨lpBx_bs HX.out⟩⟩
 case round =>
  clear H'
  try clear c1
  try clear c2
  try clear p2
  try clear c3
  try clear c6
  try clear c6b0
  try clear c6b1
  try clear c7
  try clear c7b0
  try clear c7b1
  try clear c8
  try clear c8b0
  try clear c8b1
  try clear c9
  try clear c9b0
  try clear c9b1
  try clear c10
  try clear c10b0
  try clear c10b1
  obtain ⟨x10_1, x11_1, x12_1, x14_1, x15_1, rfl, rfl, HA, HK1, HO_9, HO_10, HO_11, HO_12, HB, HX⟩ := hrel
  obtain ⟨hb4, hb9, hb10, hb11⟩ := lpBx_cells HX.out
  cases gk with
  | zero => exact absurd HA.out (by simp [impl_listPlan.l0])
  | succ k1 =>
   have H := HA.out
   clear HA
   simp only [impl_listPlan.l0] at H
   by_cases c18 : x15_1 > 0
   rotate_left
   ·rw [if_neg c18] at H
    have c18b0 : decide (0 < x15_1) = false := decide_eq_false c18
    clear c18
    obtain rfl := Option.some.inj H
    go_wp2
    repeat (go_quiet (fail); try go_wp2)
    go_ret
    exact ⟨_, by first | rfl | (simp [errW_none, errW_some] <;> rfl) | (simp [*, errW_none, errW_some] <;> rfl), by (with_reducible repeat (first | apply Kd.R_alloc | apply Kd.R_drewN | apply Kd.R_drew)); exact HO_10.out, bw HB.out⟩
   rw [if_pos c18] at H
   have c18b0 : decide (0 < x15_1) = true := decide_eq_true c18
   clear c18
   have H' := Aside0.mk H
   clear H
   obtain ⟨Ao19, co19, eo19⟩ := Kd.R_slice HO_12.out
   subst eo19
   go_wp2
   repeat (go_quiet (fail); try go_wp2)
   go_loopg [15, 40] k1 (fun kq v15 v40 w' => ∃ (x10_2 : List (S55)) (x11_2 : List Bool) (x12_2 : List Int) (x15_2 : Int) (x40_2 : Int), v15 = .int .i64 x15_2 ∧ v40 = .int .i64 x40_2 ∧ Aside0 (impl_listPlan.l1 kq l3 l0 t308 x10_2 x11_2 x12_2 x14_1 x15_2 (x12_1.length : Int) x40_2 = some r) ∧ Aside0 (kq ≤ k1) ∧ Aside0 (Kd.S (Kd.slice 4 Kd.bool) 60 w' w.heap.size (fun k_ => some k_ ≠ (v315 : Value).ownBlock) v309 t308) ∧ Aside0 (Kd.R k55 55 w' w.heap.size (fun _ => True) v312 x10_2) ∧ Aside0 (Kd.R Kd.bool 4 w' w.heap.size (fun _ => True) v315 x11_2) ∧ Aside0 (Kd.R (Kd.int .i64) 3 w' w.heap.size (fun _ => True) (.slice Ao19 x12_1.length co19) x12_2) ∧ Aside0 (Below w.heap.size w w') ∧ Aside0 (lpBx w' g4 g9 g10 g11 (.slice A0 l0.length c0) v309 v312 v315))
   case atStart => exact ⟨(x10_1), (x11_1), (x12_1), (x15_1), (0), (by first | rfl | (simp; done) | (simp [*]; done)), (by first | rfl | (simp; done) | (simp [*]; done)), H', ⟨Nat.le_refl _⟩, ⟨by (with_reducible repeat (first | apply Kd.S_alloc | apply Kd.S_drewN | apply Kd.S_drew)); exact HO_9.out⟩, ⟨bR HO_10.out⟩, ⟨bR HO_11.out⟩, ⟨bR HO_12.out⟩, ⟨bw HB.out⟩, ⟨lpBx_bs HX.out⟩⟩
   case round =>
    clear H'
    try clear c1
    try clear c2
    try clear p2
    try clear c3
    try clear c6
    try clear c6b0
    try clear c6b1
    try clear c7
    try clear c7b0
    try clear c7b1
    try clear c8
    try clear c8b0
    try clear c8b1
    try clear c9
    try clear c9b0
    try clear c9b1
    try clear c10
    try clear c10b0
    try clear c10b1
    try clear c18
    try clear c18b0
    try clear p2
    obtain ⟨x10_2, x11_2, x12_2, x15_2, x40_2, rfl, rfl, HA, HK2, HO_9, HO_10, HO_11, HO_12, HB, HX⟩ := hrel
    obtain ⟨hb4, hb9, hb10, hb11⟩ := lpBx_cells HX.out
    have hl12_2 := (Kd.R_reads' HO_12.out).1
    rw [hl12_2] at HO_12
    (try simp only [hl12_2])
    (try simp only [hl12_2] at HO_9)
    (try simp only [hl12_2] at HO_10)
    (try simp only [hl12_2] at HO_11)
    cases gk with
    | zero => exact absurd HA.out (by simp [impl_listPlan.l1])
    | succ k2 =>
     have H := HA.out
     clear HA
     simp only [impl_listPlan.l1] at H
     by_cases c20 : x40_2 < (x12_1.length : Int)
     rotate_left
     ·rw [if_neg c20] at H
      have c20b0 : decide (x40_2 < (x12_1.length : Int)) = false := decide_eq_false c20
      (try simp only [hl12_2] at c20b0)
      clear c20
      have H' := Aside0.mk H
      clear H
      go_wp2
      repeat (go_quiet (fail); try go_wp2)
      (try simp only [← hl12_2])
      go_roundg k2
      case measure => have := HK1.out; have := HK2.out; omega
      case rel => exact ⟨(x10_2), (x11_2), (x12_2), (wrap64 (x14_1 + 1)), (x15_2), (by first | rfl | (simp; done) | (simp [*]; done)), (by first | rfl | (simp; done) | (simp [*]; done)), H', ⟨by have := HK1.out; have := HK2.out; omega⟩, ⟨by (try simp only [hl12_2]); (with_reducible repeat (first | apply Kd.S_alloc | apply Kd.S_drewN | apply Kd.S_drew)); exact HO_9.out⟩, ⟨by (try simp only [hl12_2]); (with_reducible repeat (first | apply Kd.R_alloc | apply Kd.R_drewN | apply Kd.R_drew)); exact HO_10.out⟩, ⟨by (try simp only [hl12_2]); (with_reducible repeat (first | apply Kd.R_alloc | apply Kd.R_drewN | apply Kd.R_drew)); exact HO_11.out⟩, ⟨by (try simp only [hl12_2]); (with_reducible repeat (first | apply Kd.R_alloc | apply Kd.R_drewN | apply Kd.R_drew)); exact HO_12.out⟩, ⟨bw HB.out⟩, ⟨lpBx_bs HX.out⟩⟩
     rw [if_pos c20] at H
     have c20b0 : decide (x40_2 < (x12_1.length : Int)) = true := decide_eq_true c20
     (try simp only [hl12_2] at c20b0)
     clear c20
     by_cases c21 : 0 ≤ x40_2
     rotate_left
     ·rw [if_neg c21] at H
      exact absurd H (by simp)
     rw [if_pos c21] at H
     have c21b0 : decide (0 ≤ x40_2) = true := decide_eq_true c21
     clear c21
     by_cases c22 : x40_2 < (x12_2.length : Int)
     rotate_left
     ·rw [if_neg c22] at H
      exact absurd H (by simp)
     rw [if_pos c22] at H
     have c22b0 : decide (x40_2 < (x12_2.length : Int)) = true := decide_eq_true c22
     clear c22
     by_cases c23 : (rd x12_2 x40_2) > x14_1
     ·rw [if_pos c23] at H
      have c23b0 : decide (x14_1 < (rd x12_2 x40_2)) = true := decide_eq_true c23
      clear c23
      have H' := Aside0.mk H
      clear H
      have p320 : 0 ≤ (x40_2 : Int) := of_decide_eq_true (by first | (with_reducible assumption) | assumption)
      have q320 : x40_2 < (x12_2.length : Int) := of_decide_eq_true (by first | (with_reducible assumption) | assumption)
      obtain ⟨ad320, e320, hx320_0⟩ := Kd.at_int (Kd.R_reads' HO_12.out).2.2 x40_2 p320 q320
      cases e320
      replace p320 := eq_true p320
      replace q320 := eq_true q320
      go_wp2
      repeat (go_quiet (fail); try go_wp2)
      (try simp only [← hl12_2])
      go_roundg k2
      case measure => have := HK1.out; have := HK2.out; omega
      case rel => exact ⟨(x10_2), (x11_2), (x12_2), (x15_2), (wrap64 (x40_2 + 1)), (by first | rfl | (simp; done) | (simp [*]; done)), (by first | rfl | (simp; done) | (simp [*]; done)), H', ⟨by have := HK1.out; have := HK2.out; omega⟩, ⟨by (try simp only [hl12_2]); (with_reducible repeat (first | apply Kd.S_alloc | apply Kd.S_drewN | apply Kd.S_drew)); exact HO_9.out⟩, ⟨by (try simp only [hl12_2]); (with_reducible repeat (first | apply Kd.R_alloc | apply Kd.R_drewN | apply Kd.R_drew)); exact HO_10.out⟩, ⟨by (try simp only [hl12_2]); (with_reducible repeat (first | apply Kd.R_alloc | apply Kd.R_drewN | apply Kd.R_drew)); exact HO_11.out⟩, ⟨by (try simp only [hl12_2]); (with_reducible repeat (first | apply Kd.R_alloc | apply Kd.R_drewN | apply Kd.R_drew)); exact HO_12.out⟩, ⟨bw HB.out⟩, ⟨lpBx_bs HX.out⟩⟩
     rw [if_neg c23] at H
     have c23b0 : decide (x14_1 < (rd x12_2 x40_2)) = false := decide_eq_false c23
     clear c23
     have H' := Aside0.mk H
     clear H
     have p320 : 0 ≤ (x40_2 : Int) := of_decide_eq_true (by first | (with_reducible assumption) | assumption)
     have q320 : x40_2 < (x12_2.length : Int) := of_decide_eq_true (by first | (with_reducible assumption) | assumption)
     obtain ⟨ad320, e320, hx320_0⟩ := Kd.at_int (Kd.R_reads' HO_12.out).2.2 x40_2 p320 q320
     cases e320
     replace p320 := eq_true p320
     replace q320 := eq_true q320
     go_wp2
     repeat (go_quiet (fail); try go_wp2)
     go_loopg [15, 51] k2 (fun kq v15 v51 w' => ∃ (x10_3 : List (S55)) (x11_3 : List Bool) (x12_3 : List Int) (x15_3 : Int) (x51_3 : Int), v15 = .int .i64 x15_3 ∧ v51 = .int .i64 x51_3 ∧ Aside0 (impl_listPlan.l2 kq l3 l0 t308 x10_3 x11_3 x12_3 x14_1 x15_3 x40_2 (x12_1.length : Int) x40_2 l3 (l3.length : Int) x51_3 = some r) ∧ Aside0 (kq ≤ k2) ∧ Aside0 (Kd.S (Kd.slice 4 Kd.bool) 60 w' w.heap.size (fun k_ => some k_ ≠ (v315 : Value).ownBlock) v309 t308) ∧ Aside0 (Kd.R k55 55 w' w.heap.size (fun _ => True) v312 x10_3) ∧ Aside0 (Kd.R Kd.bool 4 w' w.heap.size (fun _ => True) v315 x11_3) ∧ Aside0 (Kd.R (Kd.int .i64) 3 w' w.heap.size (fun _ => True) (.slice (some ad320) x12_2.length co19) x12_3) ∧ Aside0 (Below w.heap.size w w') ∧ Aside0 (lpBx w' g4 g9 g10 g11 (.slice A0 l0.length c0) v309 v312 v315))
     case atStart => exact ⟨(x10_2), (x11_2), (x12_2), (x15_2), (0), (by first | rfl | (simp; done) | (simp [*]; done)), (by first | rfl | (simp; done) | (simp [*]; done)), H', ⟨Nat.le_refl _⟩, ⟨by (try simp only [hl12_2]); (with_reducible repeat (first | apply Kd.S_alloc | apply Kd.S_drewN | apply Kd.S_drew)); exact HO_9.out⟩, ⟨by (try simp only [hl12_2]); (with_reducible repeat (first | apply Kd.R_alloc | apply Kd.R_drewN | apply Kd.R_drew)); exact HO_10.out⟩, ⟨by (try simp only [hl12_2]); (with_reducible repeat (first | apply Kd.R_alloc | apply Kd.R_drewN | apply Kd.R_drew)); exact HO_11.out⟩, ⟨by (try simp only [hl12_2]); (with_reducible repeat (first | apply Kd.R_alloc | apply Kd.R_drewN | apply Kd.R_drew)); exact HO_12.out⟩, ⟨bw HB.out⟩, ⟨lpBx_bs HX.out⟩⟩
     case round =>
      clear H'
      try clear c1
      try clear c2
      try clear p2
      try clear c3
      try clear p3
      try clear q3
      try clear hx3
      try clear c6
      try clear c6b0
      try clear c6b1
      try clear p6
      try clear c7
      try clear c7b0
      try clear c7b1
      try clear c8
      try clear c8b0
      try clear c8b1
      try clear c9
      try clear c9b0
      try clear c9b1
      try clear c10
      try clear c10b0
      try clear c10b1
      try clear c18
      try clear c18b0
      try clear c20
      try clear c20b0
      try clear c21
      try clear c21b0
      try clear c22
      try clear c22b0
      try clear c23
      try clear c23b0
      try clear hx320_0
      try clear p2
      try clear p320
      try clear q320
      obtain ⟨x10_3, x11_3, x12_3, x15_3, x51_3, rfl, rfl, HA, HK3, HO_9, HO_10, HO_11, HO_12, HB, HX⟩ := hrel
      obtain ⟨hb4, hb9, hb10, hb11⟩ := lpBx_cells HX.out
      have hl12_3 := (Kd.R_reads' HO_12.out).1
      rw [hl12_3] at HO_12
      (try simp only [hl12_3])
      (try simp only [hl12_3] at HO_9)
      (try simp only [hl12_3] at HO_10)
      (try simp only [hl12_3] at HO_11)
      cases gk with
      | zero => exact absurd HA.out (by simp [impl_listPlan.l2])
      | succ k3 =>
       have H := HA.out
       clear HA
       simp only [impl_listPlan.l2] at H
       by_cases c24 : x51_3 < (l3.length : Int)
       rotate_left
       ·rw [if_neg c24] at H
        have c24b0 : decide (x51_3 < (l3.length : Int)) = false := decide_eq_false c24
        clear c24
        have H' := Aside0.mk H
        clear H
        go_wp2
        repeat (go_quiet (fail); try go_wp2)
        (try simp only [← hl12_2, ← hl12_3])
        go_roundg k3
        case measure => have := HK1.out; have := HK2.out; have := HK3.out; omega
        case rel => exact ⟨(x10_3), (x11_3), (x12_3), (x15_3), (wrap64 (x40_2 + 1)), (by first | rfl | (simp; done) | (simp [*]; done)), (by first | rfl | (simp; done) | (simp [*]; done)), H', ⟨by have := HK1.out; have := HK2.out; have := HK3.out; omega⟩, ⟨by (try simp only [hl12_2]); (try simp only [hl12_3]); (with_reducible repeat (first | apply Kd.S_alloc | apply Kd.S_drewN | apply Kd.S_drew)); exact HO_9.out⟩, ⟨by (try simp only [hl12_2]); (try simp only [hl12_3]); (with_reducible repeat (first | apply Kd.R_alloc | apply Kd.R_drewN | apply Kd.R_drew)); exact HO_10.out⟩, ⟨by (try simp only [hl12_2]); (try simp only [hl12_3]); (with_reducible repeat (first | apply Kd.R_alloc | apply Kd.R_drewN | apply Kd.R_drew)); exact HO_11.out⟩, ⟨by (try simp only [hl12_2]); (try simp only [hl12_3]); (with_reducible repeat (first | apply Kd.R_alloc | apply Kd.R_drewN | apply Kd.R_drew)); exact HO_12.out⟩, ⟨bw HB.out⟩, ⟨lpBx_bs HX.out⟩⟩
       rw [if_pos c24] at H
       have c24b0 : decide (x51_3 < (l3.length : Int)) = true := decide_eq_true c24
       clear c24
       by_cases c25 : 0 ≤ x51_3
       rotate_left
       ·rw [if_neg c25] at H
        exact absurd H (by simp)
       rw [if_pos c25] at H
       have c25b0 : decide (0 ≤ x51_3) = true := decide_eq_true c25
       clear c25
       by_cases c26 : x51_3 < (l3.length : Int)
       rotate_left
       ·rw [if_neg c26] at H
        exact absurd H (by simp)
       rw [if_pos c26] at H
       have c26b0 : decide (x51_3 < (l3.length : Int)) = true := decide_eq_true c26
       clear c26
       replace H := Option.bind_eq_some_iff.mp H
       obtain ⟨t322, A270, H⟩ := H
       replace H : (if t322 = true then (if 0 ≤ (rd l3 x51_3) then (if (rd l3 x51_3) < (x10_3.length : Int) then (if (rd l3 x51_3) < (x11_3.length : Int) then (if (rd l3 x51_3) < (l0.length : Int) then (if 0 ≤ x40_2 then (if x40_2 < (x12_3.length : Int) then (impl_listPlan.l1 k3 l3 l0 t308 (x10_3.set ((rd l3 x51_3) : Int).toNat (⟨rd l3 x51_3, x40_2, x14_1⟩ : S55)) (x11_3.set ((rd l3 x51_3) : Int).toNat true) (x12_3.set (x40_2 : Int).toNat (wrap64 (x14_1 + ((rd_T46 l0 (rd l3 x51_3)).f0)))) x14_1 (wrap64 (x15_3 - 1)) (x12_1.length : Int) (wrap64 (x40_2 + 1))) else (none)) else (none)) else (none)) else (none)) else (none)) else (none)) else (impl_listPlan.l2 k3 l3 l0 t308 x10_3 x11_3 x12_3 x14_1 x15_3 x40_2 (x12_1.length : Int) x40_2 l3 (l3.length : Int) (wrap64 (x51_3 + 1)))) = some r := H
       have A27 := Aside0.mk A270
       clear A270
       by_cases c28 : t322 = true
       rotate_left
       ·replace c28 := Bool.eq_false_iff.mpr c28
        subst c28
        have H1 : (impl_listPlan.l2 k3 l3 l0 t308 x10_3 x11_3 x12_3 x14_1 x15_3 x40_2 (x12_1.length : Int) x40_2 l3 (l3.length : Int) (wrap64 (x51_3 + 1))) = some r := by rw [if_neg (show ¬ (false = true) by decide)] at H; exact H
        clear H
        have H := H1
        clear H1
        have H' := Aside0.mk H
        clear H
        have p321 : 0 ≤ (x51_3 : Int) := of_decide_eq_true (by first | (with_reducible assumption) | assumption)
        have q321 : x51_3 < (l3.length : Int) := of_decide_eq_true (by first | (with_reducible assumption) | assumption)
        obtain ⟨ad321, e321, hx321_0⟩ := Kd.at_int HR3.out x51_3 p321 q321
        cases e321
        replace hx321_0 := (HB.out.cell (World.block_lt_of_cell? w _ hx321_0)).trans hx321_0
        replace p321 := eq_true p321
        replace q321 := eq_true q321
        obtain ⟨Ao47, co47, eo47⟩ := Kd.R_slice HO_11.out
        subst eo47
        obtain ⟨Ao48, co48, eo48⟩ := Kd.S_slice HO_9.out
        subst eo48
        obtain ⟨Ao49, co49, eo49⟩ := Kd.R_slice HO_10.out
        subst eo49
        have HCALL := Aside0.mk (show Calls Try.prog gf #[.int .i64 (rd l3 x51_3), .int .i64 x14_1, .pointer (some ⟨g11, 0, none⟩), .pointer (some ⟨g4, 0, none⟩), .pointer (some ⟨g9, 0, none⟩), .pointer (some ⟨g10, 0, none⟩)] wr _ from by rw [HG.out]; exact impl_listPlan_1.calls k3 (rd l3 x51_3) x14_1 _ _ x11_3 _ _ l0 _ _ t308 _ _ x10_3 false wr g11 g4 g9 g10 hb11 hb4 hb9 hb10 (Kd.R_reads' HO_11.out).2.2 (Kd.R_reads' HO_11.out).2.1 (Kd.C_below HR0.out HB.out) HC0.out (Kd.S_reads' HO_9.out).2.2 (Kd.S_reads' HO_9.out).2.1 (Kd.R_reads' HO_10.out).2.2 (Kd.R_reads' HO_10.out).2.1 A27.out)
        have go_ := True.intro
        repeat ((first | go_quiet (first | ((with_reducible refine calls_of_args (args' := #[.int .i64 (rd l3 x51_3), .int .i64 x14_1, .pointer (some ⟨g11, 0, none⟩), .pointer (some ⟨g4, 0, none⟩), .pointer (some ⟨g9, 0, none⟩), .pointer (some ⟨g10, 0, none⟩)]) ?eqa ?_); (case eqa => rfl); (with_reducible refine (HCALL.out).mono ?_); rintro e w' ⟨rfl, ⟨nd, rfl⟩⟩; (try first | exact ⟨rfl, _, World.drewN_drewN _ _ _⟩ | exact ⟨rfl, _, Eq.trans (World.drewN_drewN _ _ _) (congrArg (World.drewN _) (Nat.add_assoc _ _ _))⟩))) | clear go_); go_wp2_with (first | ((with_reducible refine calls_of_args (args' := #[.int .i64 (rd l3 x51_3), .int .i64 x14_1, .pointer (some ⟨g11, 0, none⟩), .pointer (some ⟨g4, 0, none⟩), .pointer (some ⟨g9, 0, none⟩), .pointer (some ⟨g10, 0, none⟩)]) ?eqa ?_); (case eqa => rfl); (with_reducible refine (HCALL.out).mono ?_); rintro e w' ⟨rfl, ⟨nd, rfl⟩⟩; (try first | exact ⟨rfl, _, World.drewN_drewN _ _ _⟩ | exact ⟨rfl, _, Eq.trans (World.drewN_drewN _ _ _) (congrArg (World.drewN _) (Nat.add_assoc _ _ _))⟩))))
        (try simp only [← hl12_3])
        go_roundg k3
        case measure => have := HK1.out; have := HK2.out; have := HK3.out; omega
        case rel => exact ⟨(x10_3), (x11_3), (x12_3), (x15_3), (wrap64 (x51_3 + 1)), (by first | rfl | (simp; done) | (simp [*]; done)), (by first | rfl | (simp; done) | (simp [*]; done)), H', ⟨by have := HK1.out; have := HK2.out; have := HK3.out; omega⟩, ⟨by (try simp only [hl12_2]); (try simp only [hl12_3]); (with_reducible repeat (first | apply Kd.S_alloc | apply Kd.S_drewN | apply Kd.S_drew)); exact HO_9.out⟩, ⟨by (try simp only [hl12_2]); (try simp only [hl12_3]); (with_reducible repeat (first | apply Kd.R_alloc | apply Kd.R_drewN | apply Kd.R_drew)); exact HO_10.out⟩, ⟨by (try simp only [hl12_2]); (try simp only [hl12_3]); (with_reducible repeat (first | apply Kd.R_alloc | apply Kd.R_drewN | apply Kd.R_drew)); exact HO_11.out⟩, ⟨by (try simp only [hl12_2]); (try simp only [hl12_3]); (with_reducible repeat (first | apply Kd.R_alloc | apply Kd.R_drewN | apply Kd.R_drew)); exact HO_12.out⟩, ⟨bw HB.out⟩, ⟨lpBx_bs HX.out⟩⟩
       subst c28
       have H1 : (if 0 ≤ (rd l3 x51_3) then (if (rd l3 x51_3) < (x10_3.length : Int) then (if (rd l3 x51_3) < (x11_3.length : Int) then (if (rd l3 x51_3) < (l0.length : Int) then (if 0 ≤ x40_2 then (if x40_2 < (x12_3.length : Int) then (impl_listPlan.l1 k3 l3 l0 t308 (x10_3.set ((rd l3 x51_3) : Int).toNat (⟨rd l3 x51_3, x40_2, x14_1⟩ : S55)) (x11_3.set ((rd l3 x51_3) : Int).toNat true) (x12_3.set (x40_2 : Int).toNat (wrap64 (x14_1 + ((rd_T46 l0 (rd l3 x51_3)).f0)))) x14_1 (wrap64 (x15_3 - 1)) (x12_1.length : Int) (wrap64 (x40_2 + 1))) else (none)) else (none)) else (none)) else (none)) else (none)) else (none)) = some r := by rw [if_pos rfl] at H; exact H
       clear H
       have H := H1
       clear H1
       by_cases c29 : 0 ≤ (rd l3 x51_3)
       rotate_left
       ·rw [if_neg c29] at H
        exact absurd H (by simp)
       rw [if_pos c29] at H
       have c29b0 : decide (0 ≤ (rd l3 x51_3)) = true := decide_eq_true c29
       clear c29
       by_cases c30 : (rd l3 x51_3) < (x10_3.length : Int)
       rotate_left
       ·rw [if_neg c30] at H
        exact absurd H (by simp)
       rw [if_pos c30] at H
       have c30b0 : decide ((rd l3 x51_3) < (x10_3.length : Int)) = true := decide_eq_true c30
       clear c30
       obtain ⟨y323, hy323⟩ : ∃ y_ : List (S55), y_ = (x10_3.set ((rd l3 x51_3) : Int).toNat (⟨rd l3 x51_3, x40_2, x14_1⟩ : S55)) := ⟨_, rfl⟩
       replace H : (if (rd l3 x51_3) < (x11_3.length : Int) then (if (rd l3 x51_3) < (l0.length : Int) then (if 0 ≤ x40_2 then (if x40_2 < (x12_3.length : Int) then (impl_listPlan.l1 k3 l3 l0 t308 y323 (x11_3.set ((rd l3 x51_3) : Int).toNat true) (x12_3.set (x40_2 : Int).toNat (wrap64 (x14_1 + ((rd_T46 l0 (rd l3 x51_3)).f0)))) x14_1 (wrap64 (x15_3 - 1)) (x12_1.length : Int) (wrap64 (x40_2 + 1))) else (none)) else (none)) else (none)) else (none)) = some r := by first | (rw [hy323]; with_reducible exact H) | (have H2_ := (Option.bind_some _ _).symm.trans H; rw [hy323]; with_reducible exact H2_) | (have H2_ := (Option.bind_some _ _).symm.trans H; with_reducible exact H2_) | with_reducible exact H | (rw [hy323]; exact H) | exact H
       have Ny323 := Aside0.mk hy323
       clear hy323
       by_cases c32 : (rd l3 x51_3) < (x11_3.length : Int)
       rotate_left
       ·rw [if_neg c32] at H
        exact absurd H (by simp)
       rw [if_pos c32] at H
       have c32b0 : decide ((rd l3 x51_3) < (x11_3.length : Int)) = true := decide_eq_true c32
       clear c32
       obtain ⟨y324, hy324⟩ : ∃ y_ : List Bool, y_ = (x11_3.set ((rd l3 x51_3) : Int).toNat true) := ⟨_, rfl⟩
       replace H : (if (rd l3 x51_3) < (l0.length : Int) then (if 0 ≤ x40_2 then (if x40_2 < (x12_3.length : Int) then (impl_listPlan.l1 k3 l3 l0 t308 y323 y324 (x12_3.set (x40_2 : Int).toNat (wrap64 (x14_1 + ((rd_T46 l0 (rd l3 x51_3)).f0)))) x14_1 (wrap64 (x15_3 - 1)) (x12_1.length : Int) (wrap64 (x40_2 + 1))) else (none)) else (none)) else (none)) = some r := by first | (rw [hy324]; with_reducible exact H) | (have H2_ := (Option.bind_some _ _).symm.trans H; rw [hy324]; with_reducible exact H2_) | (have H2_ := (Option.bind_some _ _).symm.trans H; with_reducible exact H2_) | with_reducible exact H | (rw [hy324]; exact H) | exact H
       have Ny324 := Aside0.mk hy324
       clear hy324
       by_cases c34 : (rd l3 x51_3) < (l0.length : Int)
       rotate_left
       ·rw [if_neg c34] at H
        exact absurd H (by simp)
       rw [if_pos c34] at H
       have c34b0 : decide ((rd l3 x51_3) < (l0.length : Int)) = true := decide_eq_true c34
       clear c34
       by_cases c35 : 0 ≤ x40_2
       rotate_left
       ·rw [if_neg c35] at H
        exact absurd H (by simp)
       rw [if_pos c35] at H
       have c35b0 : decide (0 ≤ x40_2) = true := decide_eq_true c35
       clear c35
       by_cases c36 : x40_2 < (x12_3.length : Int)
       rotate_left
       ·rw [if_neg c36] at H
        exact absurd H (by simp)
       rw [if_pos c36] at H
       have c36b0 : decide (x40_2 < (x12_3.length : Int)) = true := decide_eq_true c36
       clear c36
       obtain ⟨y326, hy326⟩ : ∃ y_ : List Int, y_ = (x12_3.set (x40_2 : Int).toNat (wrap64 (x14_1 + ((rd_T46 l0 (rd l3 x51_3)).f0)))) := ⟨_, rfl⟩
       replace H : (impl_listPlan.l1 k3 l3 l0 t308 y323 y324 y326 x14_1 (wrap64 (x15_3 - 1)) (x12_1.length : Int) (wrap64 (x40_2 + 1))) = some r := by first | (rw [hy326]; with_reducible exact H) | (have H2_ := (Option.bind_some _ _).symm.trans H; rw [hy326]; with_reducible exact H2_) | (have H2_ := (Option.bind_some _ _).symm.trans H; with_reducible exact H2_) | with_reducible exact H | (rw [hy326]; exact H) | exact H
       have Ny326 := Aside0.mk hy326
       clear hy326
       have H' := Aside0.mk H
       clear H
       have p321 : 0 ≤ (x51_3 : Int) := of_decide_eq_true (by first | (with_reducible assumption) | assumption)
       have q321 : x51_3 < (l3.length : Int) := of_decide_eq_true (by first | (with_reducible assumption) | assumption)
       obtain ⟨ad321, e321, hx321_0⟩ := Kd.at_int HR3.out x51_3 p321 q321
       cases e321
       replace hx321_0 := (HB.out.cell (World.block_lt_of_cell? w _ hx321_0)).trans hx321_0
       replace p321 := eq_true p321
       replace q321 := eq_true q321
       obtain ⟨Ao38, co38, eo38⟩ := Kd.R_slice HO_11.out
       subst eo38
       obtain ⟨Ao39, co39, eo39⟩ := Kd.S_slice HO_9.out
       subst eo39
       obtain ⟨Ao40, co40, eo40⟩ := Kd.R_slice HO_10.out
       subst eo40
       have HCALL := Aside0.mk (show Calls Try.prog gf #[.int .i64 (rd l3 x51_3), .int .i64 x14_1, .pointer (some ⟨g11, 0, none⟩), .pointer (some ⟨g4, 0, none⟩), .pointer (some ⟨g9, 0, none⟩), .pointer (some ⟨g10, 0, none⟩)] wr _ from by rw [HG.out]; exact impl_listPlan_1.calls k3 (rd l3 x51_3) x14_1 _ _ x11_3 _ _ l0 _ _ t308 _ _ x10_3 true wr g11 g4 g9 g10 hb11 hb4 hb9 hb10 (Kd.R_reads' HO_11.out).2.2 (Kd.R_reads' HO_11.out).2.1 (Kd.C_below HR0.out HB.out) HC0.out (Kd.S_reads' HO_9.out).2.2 (Kd.S_reads' HO_9.out).2.1 (Kd.R_reads' HO_10.out).2.2 (Kd.R_reads' HO_10.out).2.1 A27.out)
       have go_ := True.intro
       repeat ((first | go_quiet (first | ((with_reducible refine calls_of_args (args' := #[.int .i64 (rd l3 x51_3), .int .i64 x14_1, .pointer (some ⟨g11, 0, none⟩), .pointer (some ⟨g4, 0, none⟩), .pointer (some ⟨g9, 0, none⟩), .pointer (some ⟨g10, 0, none⟩)]) ?eqa ?_); (case eqa => rfl); (with_reducible refine (HCALL.out).mono ?_); rintro e w' ⟨rfl, ⟨nd, rfl⟩⟩; (try first | exact ⟨rfl, _, World.drewN_drewN _ _ _⟩ | exact ⟨rfl, _, Eq.trans (World.drewN_drewN _ _ _) (congrArg (World.drewN _) (Nat.add_assoc _ _ _))⟩); have p31 : 0 ≤ ((rd l3 x51_3) : Int) := of_decide_eq_true (by first | (with_reducible assumption) | assumption); have q31 : ((rd l3 x51_3) : Int) < ((x10_3.length : Int) : Int) := of_decide_eq_true (by first | (with_reducible assumption) | assumption); obtain ⟨go31, co31, eo31, gb31, gl31, cl31, HG31⟩ := Kd.R_form HO_10.out (by omega); (first | cases eo31 | (injection eo31 with ea_ en_ ec_; (first | subst ea_ | (injection ea_ with ea_; subst ea_)); subst ec_; clear en_)); have GB31 := Aside0.mk gb31; have GG31 := Aside0.mk HG31; clear gb31 gl31 HG31; obtain ⟨ce31, hcl31, hM31, hcc31, hfr31⟩ := Kd.R_elem HO_10.out z55 ((rd l3 x51_3) : Int) p31 q31; obtain rfl := k55_openM hM31; have hx31_0 : wr.cell? ⟨go31, ((rd l3 x51_3) : Int).toNat * 3, none⟩ = some (.int .i64 ((rd_T55 x10_3 (rd l3 x51_3)).f0)) := hcc31 0 _ rfl; have hx31_1 : wr.cell? ⟨go31, ((rd l3 x51_3) : Int).toNat * 3 + 1, none⟩ = some (.int .i64 ((rd_T55 x10_3 (rd l3 x51_3)).f1)) := hcc31 1 _ rfl; have hx31_2 : wr.cell? ⟨go31, ((rd l3 x51_3) : Int).toNat * 3 + 2, none⟩ = some (.int .i64 ((rd_T55 x10_3 (rd l3 x51_3)).f2)) := hcc31 2 _ rfl; have hf31_0 : wr.frozen? ⟨go31, ((rd l3 x51_3) : Int).toNat * 3, none⟩ = false := hfr31 0; have hf31_1 : wr.frozen? ⟨go31, ((rd l3 x51_3) : Int).toNat * 3 + 1, none⟩ = false := hfr31 1; have hf31_2 : wr.frozen? ⟨go31, ((rd l3 x51_3) : Int).toNat * 3 + 2, none⟩ = false := hfr31 2; clear hcl31 hcc31 hfr31; (try clear hM31); replace p31 := eq_true p31; replace q31 := eq_true q31; have HX41 := Aside0.mk (show Kd.R k55 55 wr w.heap.size (fun _ => True) (.slice (some ⟨go31, 0, none⟩) x10_3.length co40) x10_3 from (bR HO_10.out)); obtain ⟨ce41, hcl41, hM41, hcc41, hfr41⟩ := Kd.R_elem HX41.out z55 ((rd l3 x51_3) : Int) (of_decide_eq_true (by first | (with_reducible assumption) | assumption)) (by have h_ : ((rd l3 x51_3) : Int) < ((x10_3.length : Int) : Int) := of_decide_eq_true (by first | (with_reducible assumption) | assumption); first | exact h_ | (have e_ := (Kd.R_reads' HO_10.out).1; omega) | simpa using h_); obtain rfl := k55_openM hM41; have HP41 := Kd.R_seg HX41.out ((rd l3 x51_3) : Int) (of_decide_eq_true (by first | (with_reducible assumption) | assumption)) (by have h_ : ((rd l3 x51_3) : Int) < ((x10_3.length : Int) : Int) := of_decide_eq_true (by first | (with_reducible assumption) | assumption); first | exact h_ | (have e_ := (Kd.R_reads' HO_10.out).1; omega) | simpa using h_) (seg := [.int .i64 (rd l3 x51_3), .int .i64 x40_2, .int .i64 x14_1]) (j := 0) hcl41 hcc41 (show 3 ≤ 3 from by decide) (x' := (⟨rd l3 x51_3, x40_2, x14_1⟩ : S55)) (k55_mkM _ _ _ (⟨rd l3 x51_3, x40_2, x14_1⟩ : S55) ) (fun _ hk => hk); have hx41_0 := hcc41 0 _ rfl; (try simp only [show (k55).sz = 3 from rfl, Nat.mul_one, Nat.add_zero] at hx41_0); have hf41_0 := hfr41 0; (try simp only [show (k55).sz = 3 from rfl, Nat.mul_one, Nat.add_zero] at hf41_0); have hx41_1 := hcc41 1 _ rfl; (try simp only [show (k55).sz = 3 from rfl, Nat.mul_one, Nat.add_zero] at hx41_1); have hf41_1 := hfr41 1; (try simp only [show (k55).sz = 3 from rfl, Nat.mul_one, Nat.add_zero] at hf41_1); have hx41_2 := hcc41 2 _ rfl; (try simp only [show (k55).sz = 3 from rfl, Nat.mul_one, Nat.add_zero] at hx41_2); have hf41_2 := hfr41 2; (try simp only [show (k55).sz = 3 from rfl, Nat.mul_one, Nat.add_zero] at hf41_2); clear hcl41 hcc41 hfr41; (try clear hM41)) | ((with_reducible refine gate_store (t := 55) (p := 65) rfl ?_); (try (rw [drewN_self wr]; generalize hq_ : World.drewN wr _ = wr; have n0_ := Aside0.mk (Kd.S_at hq_ HO_9.out); have n1_ := Aside0.mk (Kd.R_at hq_ HO_10.out); have n2_ := Aside0.mk (Kd.R_at hq_ HO_11.out); have n3_ := Aside0.mk (Kd.R_at hq_ HO_12.out); have n4_ := Aside0.mk (below_at hq_ HB.out); have nX_ := Aside0.mk (lpBx_at hq_ HX.out); (try replace hx320_0 := cell_at hq_ hx320_0); (try replace hx321_0 := cell_at hq_ hx321_0); (try replace hx33_0 := cell_at hq_ hx33_0); (try replace hf33_0 := frz_at hq_ hf33_0); (try replace hx325_0 := cell_at hq_ hx325_0); (try replace hx325_1 := cell_at hq_ hx325_1); (try replace hx325_2 := cell_at hq_ hx325_2); (try replace hx325_3 := cell_at hq_ hx325_3); clear hq_ HO_9 HO_10 HO_11 HO_12 HB HX; have HO_9 := n0_; have HO_10 := n1_; have HO_11 := n2_; have HO_12 := n3_; have HB := n4_; clear n0_ n1_ n2_ n3_ n4_; have HX := nX_; clear nX_; obtain ⟨hb4, hb9, hb10, hb11⟩ := lpBx_cells HX.out; (try (have HX41 := Aside0.mk (show Kd.R k55 55 wr w.heap.size (fun _ => True) (.slice (some ⟨go31, 0, none⟩) x10_3.length co40) x10_3 from (bR HO_10.out)))); (try (obtain ⟨ce41, hcl41, hM41, hcc41, hfr41⟩ := Kd.R_elem HX41.out z55 ((rd l3 x51_3) : Int) (of_decide_eq_true (by first | (with_reducible assumption) | assumption)) (by have h_ : ((rd l3 x51_3) : Int) < ((x10_3.length : Int) : Int) := of_decide_eq_true (by first | (with_reducible assumption) | assumption); first | exact h_ | (have e_ := (Kd.R_reads' HO_10.out).1; omega) | simpa using h_))); (try (obtain rfl := k55_openM hM41)); (try (have HP41 := Kd.R_seg HX41.out ((rd l3 x51_3) : Int) (of_decide_eq_true (by first | (with_reducible assumption) | assumption)) (by have h_ : ((rd l3 x51_3) : Int) < ((x10_3.length : Int) : Int) := of_decide_eq_true (by first | (with_reducible assumption) | assumption); first | exact h_ | (have e_ := (Kd.R_reads' HO_10.out).1; omega) | simpa using h_) (seg := [.int .i64 (rd l3 x51_3), .int .i64 x40_2, .int .i64 x14_1]) (j := 0) hcl41 hcc41 (show 3 ≤ 3 from by decide) (x' := (⟨rd l3 x51_3, x40_2, x14_1⟩ : S55)) (k55_mkM _ _ _ (⟨rd l3 x51_3, x40_2, x14_1⟩ : S55) ) (fun _ hk => hk))); (try (have hx41_0 := hcc41 0 _ rfl)); (try (try simp only [show (k55).sz = 3 from rfl, Nat.mul_one, Nat.add_zero] at hx41_0)); (try (have hf41_0 := hfr41 0)); (try (try simp only [show (k55).sz = 3 from rfl, Nat.mul_one, Nat.add_zero] at hf41_0)); (try (have hx41_1 := hcc41 1 _ rfl)); (try (try simp only [show (k55).sz = 3 from rfl, Nat.mul_one, Nat.add_zero] at hx41_1)); (try (have hf41_1 := hfr41 1)); (try (try simp only [show (k55).sz = 3 from rfl, Nat.mul_one, Nat.add_zero] at hf41_1)); (try (have hx41_2 := hcc41 2 _ rfl)); (try (try simp only [show (k55).sz = 3 from rfl, Nat.mul_one, Nat.add_zero] at hx41_2)); (try (have hf41_2 := hfr41 2)); (try (try simp only [show (k55).sz = 3 from rfl, Nat.mul_one, Nat.add_zero] at hf41_2)); (try (clear hcl41 hcc41 hfr41 hM41)))); refine store_event (t := 55) (p := 65) (v := ?vo_w42) (w1 := (((wr.setCell ⟨go31, ((rd l3 x51_3) : Int).toNat * 3, none⟩ (.int .i64 (rd l3 x51_3))).setCell ⟨go31, ((rd l3 x51_3) : Int).toNat * 3 + 1, none⟩ (.int .i64 x40_2)).setCell ⟨go31, ((rd l3 x51_3) : Int).toNat * 3 + 2, none⟩ (.int .i64 x14_1))) ?hg ?ho ?hn ?hr ?_; (case ho => rfl); (case hg => rfl); (case hn => rfl); (case hr => first | (go_simp; done) | (go_simp; rfl)); intro w42 hw; have hg : wr.grownBy w42 (some go31) := (by rw [hw]; exact HP41.2); have hp_ : Kd.R k55 55 w42 w.heap.size (fun _ => True) (.slice (some ⟨go31, 0, none⟩) x10_3.length co40) y323 := (by rw [hw, Ny323.out]; exact HP41.1); clear HP41; have n0_ := Aside0.mk (Kd.S_over' (v := (.slice (some ⟨go31, 0, none⟩) x10_3.length co40)) (by (with_reducible repeat (first | apply Kd.S_alloc | apply Kd.S_drewN | apply Kd.S_drew)); exact HO_9.out) (Kd.R_typed HO_10.out) (by decide) hg); have n1_ := Aside0.mk (hp_); have n2_ := Aside0.mk (Kd.R_over' (v := (.slice (some ⟨go31, 0, none⟩) x10_3.length co40)) (bR HO_11.out) (Kd.R_typed HO_10.out) (by decide) hg); have n3_ := Aside0.mk (Kd.R_over' (v := (.slice (some ⟨go31, 0, none⟩) x10_3.length co40)) (bR HO_12.out) (Kd.R_typed HO_10.out) (by decide) hg); have n4_ := Aside0.mk ((by rw [hw]; exact below_set (below_set (below_set (HB.out) GB31.out) GB31.out) GB31.out : Below w.heap.size w w42)); have nX_ := Aside0.mk (lpBx_over HX.out (Kd.R_typed HO_10.out) (by decide) hg); replace HO_9 := n0_; replace HO_10 := n1_; replace HO_11 := n2_; replace HO_12 := n3_; replace HB := n4_; clear n0_ n1_ n2_ n3_ n4_; clear HX; have HX := nX_; clear nX_; obtain ⟨hb4, hb9, hb10, hb11⟩ := lpBx_cells HX.out; clear hg hw hp_; have p33 : 0 ≤ ((rd l3 x51_3) : Int) := of_decide_eq_true (by first | (with_reducible assumption) | assumption); have q33 : ((rd l3 x51_3) : Int) < ((x11_3.length : Int) : Int) := of_decide_eq_true (by first | (with_reducible assumption) | assumption); obtain ⟨go33, co33, eo33, gb33, gl33, cl33, HG33⟩ := Kd.R_form HO_11.out (by omega); (first | cases eo33 | (injection eo33 with ea_ en_ ec_; (first | subst ea_ | (injection ea_ with ea_; subst ea_)); subst ec_; clear en_)); have GB33 := Aside0.mk gb33; have GG33 := Aside0.mk HG33; clear gb33 gl33 HG33; obtain ⟨hx33_0, hf33_0⟩ := Kd.R_celln false HO_11.out ((rd l3 x51_3) : Int) p33 q33; replace p33 := eq_true p33; replace q33 := eq_true q33; obtain ⟨hy43_, hz43_⟩ := Kd.R_celln false HO_11.out ((rd l3 x51_3) : Int) (of_decide_eq_true (by first | (with_reducible assumption) | assumption)) (of_decide_eq_true (by first | (with_reducible assumption) | assumption)); have HP43 := Kd.R_putg HO_11.out ((rd l3 x51_3) : Int) true) | ((with_reducible refine gate_store (t := 4) (p := 68) rfl ?_); (try (rw [drewN_self w42]; generalize hq_ : World.drewN w42 _ = w42; have n0_ := Aside0.mk (Kd.S_at hq_ HO_9.out); have n1_ := Aside0.mk (Kd.R_at hq_ HO_10.out); have n2_ := Aside0.mk (Kd.R_at hq_ HO_11.out); have n3_ := Aside0.mk (Kd.R_at hq_ HO_12.out); have n4_ := Aside0.mk (below_at hq_ HB.out); have nX_ := Aside0.mk (lpBx_at hq_ HX.out); (try replace hx320_0 := cell_at hq_ hx320_0); (try replace hx321_0 := cell_at hq_ hx321_0); (try replace hx33_0 := cell_at hq_ hx33_0); (try replace hf33_0 := frz_at hq_ hf33_0); (try replace hx325_0 := cell_at hq_ hx325_0); (try replace hx325_1 := cell_at hq_ hx325_1); (try replace hx325_2 := cell_at hq_ hx325_2); (try replace hx325_3 := cell_at hq_ hx325_3); clear hq_ HO_9 HO_10 HO_11 HO_12 HB HX; have HO_9 := n0_; have HO_10 := n1_; have HO_11 := n2_; have HO_12 := n3_; have HB := n4_; clear n0_ n1_ n2_ n3_ n4_; have HX := nX_; clear nX_; obtain ⟨hb4, hb9, hb10, hb11⟩ := lpBx_cells HX.out; (try (obtain ⟨hy43_, hz43_⟩ := Kd.R_celln false HO_11.out ((rd l3 x51_3) : Int) (of_decide_eq_true (by first | (with_reducible assumption) | assumption)) (of_decide_eq_true (by first | (with_reducible assumption) | assumption)))); (try (have HP43 := Kd.R_putg HO_11.out ((rd l3 x51_3) : Int) true)))); refine store_event (t := 4) (p := 68) (v := ?vo_w44) (w1 := (w42.setCell ⟨go33, ((rd l3 x51_3) : Int).toNat, none⟩ (.bool true))) ?hg ?ho ?hn ?hr ?_; (case ho => rfl); (case hg => rfl); (case hn => rfl); (case hr => first | (go_simp; done) | (go_simp; rfl)); intro w44 hw; have hg : w42.grownBy w44 (some go33) := (by rw [hw]; exact HP43.2); have hp_ : Kd.R Kd.bool 4 w44 w.heap.size (fun _ => True) (.slice (some ⟨go33, 0, none⟩) x11_3.length co38) y324 := (by rw [hw, Ny324.out]; exact HP43.1); clear HP43; have n0_ := Aside0.mk (Kd.S_after (v := (.slice (some ⟨go33, 0, none⟩) x11_3.length co38)) (v1 := (.slice (some ⟨go33, 0, none⟩) x11_3.length co38)) (ok := (fun _ => True)) (by (with_reducible repeat (first | apply Kd.S_alloc | apply Kd.S_drewN | apply Kd.S_drew)); exact Kd.S_mono HO_9.out (fun _ hk => ⟨trivial, hk⟩)) hg (.inl rfl)); have n1_ := Aside0.mk (Kd.R_over' (v := (.slice (some ⟨go33, 0, none⟩) x11_3.length co38)) (bR HO_10.out) (Kd.R_typed HO_11.out) (by decide) hg); have n2_ := Aside0.mk (hp_); have n3_ := Aside0.mk (Kd.R_over' (v := (.slice (some ⟨go33, 0, none⟩) x11_3.length co38)) (bR HO_12.out) (Kd.R_typed HO_11.out) (by decide) hg); have n4_ := Aside0.mk ((by rw [hw]; exact below_set (HB.out) GB33.out : Below w.heap.size w w44)); have nX_ := Aside0.mk (lpBx_over HX.out (Kd.R_typed HO_11.out) (by decide) hg); replace HO_9 := n0_; replace HO_10 := n1_; replace HO_11 := n2_; replace HO_12 := n3_; replace HB := n4_; clear n0_ n1_ n2_ n3_ n4_; clear HX; have HX := nX_; clear nX_; obtain ⟨hb4, hb9, hb10, hb11⟩ := lpBx_cells HX.out; clear hg hw hp_; have p325 : 0 ≤ ((rd l3 x51_3) : Int) := of_decide_eq_true (by first | (with_reducible assumption) | assumption); have q325 : (rd l3 x51_3) < (l0.length : Int) := of_decide_eq_true (by first | (with_reducible assumption) | assumption); obtain ⟨ad325, e325, hx325_0, hx325_1, hx325_2, hx325_3⟩ := at_T46 HR0.out (rd l3 x51_3) p325 q325; cases e325; replace hx325_0 := (HB.out.cell (World.block_lt_of_cell? w _ hx325_0)).trans hx325_0; replace hx325_1 := (HB.out.cell (World.block_lt_of_cell? w _ hx325_1)).trans hx325_1; replace hx325_2 := (HB.out.cell (World.block_lt_of_cell? w _ hx325_2)).trans hx325_2; replace hx325_3 := (HB.out.cell (World.block_lt_of_cell? w _ hx325_3)).trans hx325_3; replace p325 := eq_true p325; replace q325 := eq_true q325; have p37 : 0 ≤ (x40_2 : Int) := of_decide_eq_true (by first | (with_reducible assumption) | assumption); have q37 : (x40_2 : Int) < ((x12_3.length : Int) : Int) := of_decide_eq_true (by first | (with_reducible assumption) | assumption); obtain ⟨go37, co37, eo37, gb37, gl37, cl37, HG37⟩ := Kd.R_form HO_12.out (by omega); (first | cases eo37 | (injection eo37 with ea_ en_ ec_; (first | subst ea_ | (injection ea_ with ea_; subst ea_)); subst ec_; clear en_)); have GB37 := Aside0.mk gb37; have GG37 := Aside0.mk HG37; clear gb37 gl37 HG37; (first | simp only [add_plain] at hx320_0 | skip); obtain ⟨hx37_0, hf37_0⟩ := Kd.R_celln 0 HO_12.out (x40_2 : Int) p37 q37; replace p37 := eq_true p37; replace q37 := eq_true q37; obtain ⟨hy45_, hz45_⟩ := Kd.R_celln 0 HO_12.out (x40_2 : Int) (of_decide_eq_true (by first | (with_reducible assumption) | assumption)) (of_decide_eq_true (by first | (with_reducible assumption) | assumption)); have HP45 := Kd.R_putg HO_12.out (x40_2 : Int) (wrap64 (x14_1 + ((rd_T46 l0 (rd l3 x51_3)).f0)))) | ((with_reducible refine gate_store (t := 3) (p := 78) rfl ?_); (try (rw [drewN_self w44]; generalize hq_ : World.drewN w44 _ = w44; have n0_ := Aside0.mk (Kd.S_at hq_ HO_9.out); have n1_ := Aside0.mk (Kd.R_at hq_ HO_10.out); have n2_ := Aside0.mk (Kd.R_at hq_ HO_11.out); have n3_ := Aside0.mk (Kd.R_at hq_ HO_12.out); have n4_ := Aside0.mk (below_at hq_ HB.out); have nX_ := Aside0.mk (lpBx_at hq_ HX.out); (try replace hx320_0 := cell_at hq_ hx320_0); (try replace hx321_0 := cell_at hq_ hx321_0); (try replace hx33_0 := cell_at hq_ hx33_0); (try replace hf33_0 := frz_at hq_ hf33_0); (try replace hx325_0 := cell_at hq_ hx325_0); (try replace hx325_1 := cell_at hq_ hx325_1); (try replace hx325_2 := cell_at hq_ hx325_2); (try replace hx325_3 := cell_at hq_ hx325_3); clear hq_ HO_9 HO_10 HO_11 HO_12 HB HX; have HO_9 := n0_; have HO_10 := n1_; have HO_11 := n2_; have HO_12 := n3_; have HB := n4_; clear n0_ n1_ n2_ n3_ n4_; have HX := nX_; clear nX_; obtain ⟨hb4, hb9, hb10, hb11⟩ := lpBx_cells HX.out; (try (obtain ⟨hy45_, hz45_⟩ := Kd.R_celln 0 HO_12.out (x40_2 : Int) (of_decide_eq_true (by first | (with_reducible assumption) | assumption)) (of_decide_eq_true (by first | (with_reducible assumption) | assumption)))); (try (have HP45 := Kd.R_putg HO_12.out (x40_2 : Int) (wrap64 (x14_1 + ((rd_T46 l0 (rd l3 x51_3)).f0))))))); refine store_event (t := 3) (p := 78) (v := ?vo_w46) (w1 := (w44.setCell ⟨go37, (x40_2 : Int).toNat, none⟩ (.int .i64 (wrap64 (x14_1 + ((rd_T46 l0 (rd l3 x51_3)).f0)))))) ?hg ?ho ?hn ?hr ?_; (case ho => rfl); (case hg => rfl); (case hn => rfl); (case hr => first | (go_simp; done) | (go_simp; rfl)); intro w46 hw; have hg : w44.grownBy w46 (some go37) := (by rw [hw]; exact HP45.2); have hp_ : Kd.R (Kd.int .i64) 3 w46 w.heap.size (fun _ => True) (.slice (some ⟨go37, 0, none⟩) x12_3.length co19) y326 := (by rw [hw, Ny326.out]; exact HP45.1); clear HP45; have n0_ := Aside0.mk (Kd.S_over' (v := (.slice (some ⟨go37, 0, none⟩) x12_3.length co19)) (by (with_reducible repeat (first | apply Kd.S_alloc | apply Kd.S_drewN | apply Kd.S_drew)); exact HO_9.out) (Kd.R_typed HO_12.out) (by decide) hg); have n1_ := Aside0.mk (Kd.R_over' (v := (.slice (some ⟨go37, 0, none⟩) x12_3.length co19)) (bR HO_10.out) (Kd.R_typed HO_12.out) (by decide) hg); have n2_ := Aside0.mk (Kd.R_over' (v := (.slice (some ⟨go37, 0, none⟩) x12_3.length co19)) (bR HO_11.out) (Kd.R_typed HO_12.out) (by decide) hg); have n3_ := Aside0.mk (hp_); have n4_ := Aside0.mk ((by rw [hw]; exact below_set (HB.out) GB37.out : Below w.heap.size w w46)); have nX_ := Aside0.mk (lpBx_over HX.out (Kd.R_typed HO_12.out) (by decide) hg); replace HO_9 := n0_; replace HO_10 := n1_; replace HO_11 := n2_; replace HO_12 := n3_; replace HB := n4_; clear n0_ n1_ n2_ n3_ n4_; clear HX; have HX := nX_; clear nX_; obtain ⟨hb4, hb9, hb10, hb11⟩ := lpBx_cells HX.out; clear hg hw hp_)) | clear go_); go_wp2_with (first | ((with_reducible refine calls_of_args (args' := #[.int .i64 (rd l3 x51_3), .int .i64 x14_1, .pointer (some ⟨g11, 0, none⟩), .pointer (some ⟨g4, 0, none⟩), .pointer (some ⟨g9, 0, none⟩), .pointer (some ⟨g10, 0, none⟩)]) ?eqa ?_); (case eqa => rfl); (with_reducible refine (HCALL.out).mono ?_); rintro e w' ⟨rfl, ⟨nd, rfl⟩⟩; (try first | exact ⟨rfl, _, World.drewN_drewN _ _ _⟩ | exact ⟨rfl, _, Eq.trans (World.drewN_drewN _ _ _) (congrArg (World.drewN _) (Nat.add_assoc _ _ _))⟩); have p31 : 0 ≤ ((rd l3 x51_3) : Int) := of_decide_eq_true (by first | (with_reducible assumption) | assumption); have q31 : ((rd l3 x51_3) : Int) < ((x10_3.length : Int) : Int) := of_decide_eq_true (by first | (with_reducible assumption) | assumption); obtain ⟨go31, co31, eo31, gb31, gl31, cl31, HG31⟩ := Kd.R_form HO_10.out (by omega); (first | cases eo31 | (injection eo31 with ea_ en_ ec_; (first | subst ea_ | (injection ea_ with ea_; subst ea_)); subst ec_; clear en_)); have GB31 := Aside0.mk gb31; have GG31 := Aside0.mk HG31; clear gb31 gl31 HG31; obtain ⟨ce31, hcl31, hM31, hcc31, hfr31⟩ := Kd.R_elem HO_10.out z55 ((rd l3 x51_3) : Int) p31 q31; obtain rfl := k55_openM hM31; have hx31_0 : wr.cell? ⟨go31, ((rd l3 x51_3) : Int).toNat * 3, none⟩ = some (.int .i64 ((rd_T55 x10_3 (rd l3 x51_3)).f0)) := hcc31 0 _ rfl; have hx31_1 : wr.cell? ⟨go31, ((rd l3 x51_3) : Int).toNat * 3 + 1, none⟩ = some (.int .i64 ((rd_T55 x10_3 (rd l3 x51_3)).f1)) := hcc31 1 _ rfl; have hx31_2 : wr.cell? ⟨go31, ((rd l3 x51_3) : Int).toNat * 3 + 2, none⟩ = some (.int .i64 ((rd_T55 x10_3 (rd l3 x51_3)).f2)) := hcc31 2 _ rfl; have hf31_0 : wr.frozen? ⟨go31, ((rd l3 x51_3) : Int).toNat * 3, none⟩ = false := hfr31 0; have hf31_1 : wr.frozen? ⟨go31, ((rd l3 x51_3) : Int).toNat * 3 + 1, none⟩ = false := hfr31 1; have hf31_2 : wr.frozen? ⟨go31, ((rd l3 x51_3) : Int).toNat * 3 + 2, none⟩ = false := hfr31 2; clear hcl31 hcc31 hfr31; (try clear hM31); replace p31 := eq_true p31; replace q31 := eq_true q31; have HX41 := Aside0.mk (show Kd.R k55 55 wr w.heap.size (fun _ => True) (.slice (some ⟨go31, 0, none⟩) x10_3.length co40) x10_3 from (bR HO_10.out)); obtain ⟨ce41, hcl41, hM41, hcc41, hfr41⟩ := Kd.R_elem HX41.out z55 ((rd l3 x51_3) : Int) (of_decide_eq_true (by first | (with_reducible assumption) | assumption)) (by have h_ : ((rd l3 x51_3) : Int) < ((x10_3.length : Int) : Int) := of_decide_eq_true (by first | (with_reducible assumption) | assumption); first | exact h_ | (have e_ := (Kd.R_reads' HO_10.out).1; omega) | simpa using h_); obtain rfl := k55_openM hM41; have HP41 := Kd.R_seg HX41.out ((rd l3 x51_3) : Int) (of_decide_eq_true (by first | (with_reducible assumption) | assumption)) (by have h_ : ((rd l3 x51_3) : Int) < ((x10_3.length : Int) : Int) := of_decide_eq_true (by first | (with_reducible assumption) | assumption); first | exact h_ | (have e_ := (Kd.R_reads' HO_10.out).1; omega) | simpa using h_) (seg := [.int .i64 (rd l3 x51_3), .int .i64 x40_2, .int .i64 x14_1]) (j := 0) hcl41 hcc41 (show 3 ≤ 3 from by decide) (x' := (⟨rd l3 x51_3, x40_2, x14_1⟩ : S55)) (k55_mkM _ _ _ (⟨rd l3 x51_3, x40_2, x14_1⟩ : S55) ) (fun _ hk => hk); have hx41_0 := hcc41 0 _ rfl; (try simp only [show (k55).sz = 3 from rfl, Nat.mul_one, Nat.add_zero] at hx41_0); have hf41_0 := hfr41 0; (try simp only [show (k55).sz = 3 from rfl, Nat.mul_one, Nat.add_zero] at hf41_0); have hx41_1 := hcc41 1 _ rfl; (try simp only [show (k55).sz = 3 from rfl, Nat.mul_one, Nat.add_zero] at hx41_1); have hf41_1 := hfr41 1; (try simp only [show (k55).sz = 3 from rfl, Nat.mul_one, Nat.add_zero] at hf41_1); have hx41_2 := hcc41 2 _ rfl; (try simp only [show (k55).sz = 3 from rfl, Nat.mul_one, Nat.add_zero] at hx41_2); have hf41_2 := hfr41 2; (try simp only [show (k55).sz = 3 from rfl, Nat.mul_one, Nat.add_zero] at hf41_2); clear hcl41 hcc41 hfr41; (try clear hM41)) | ((with_reducible refine gate_store (t := 55) (p := 65) rfl ?_); (try (rw [drewN_self wr]; generalize hq_ : World.drewN wr _ = wr; have n0_ := Aside0.mk (Kd.S_at hq_ HO_9.out); have n1_ := Aside0.mk (Kd.R_at hq_ HO_10.out); have n2_ := Aside0.mk (Kd.R_at hq_ HO_11.out); have n3_ := Aside0.mk (Kd.R_at hq_ HO_12.out); have n4_ := Aside0.mk (below_at hq_ HB.out); have nX_ := Aside0.mk (lpBx_at hq_ HX.out); (try replace hx320_0 := cell_at hq_ hx320_0); (try replace hx321_0 := cell_at hq_ hx321_0); (try replace hx33_0 := cell_at hq_ hx33_0); (try replace hf33_0 := frz_at hq_ hf33_0); (try replace hx325_0 := cell_at hq_ hx325_0); (try replace hx325_1 := cell_at hq_ hx325_1); (try replace hx325_2 := cell_at hq_ hx325_2); (try replace hx325_3 := cell_at hq_ hx325_3); clear hq_ HO_9 HO_10 HO_11 HO_12 HB HX; have HO_9 := n0_; have HO_10 := n1_; have HO_11 := n2_; have HO_12 := n3_; have HB := n4_; clear n0_ n1_ n2_ n3_ n4_; have HX := nX_; clear nX_; obtain ⟨hb4, hb9, hb10, hb11⟩ := lpBx_cells HX.out; (try (have HX41 := Aside0.mk (show Kd.R k55 55 wr w.heap.size (fun _ => True) (.slice (some ⟨go31, 0, none⟩) x10_3.length co40) x10_3 from (bR HO_10.out)))); (try (obtain ⟨ce41, hcl41, hM41, hcc41, hfr41⟩ := Kd.R_elem HX41.out z55 ((rd l3 x51_3) : Int) (of_decide_eq_true (by first | (with_reducible assumption) | assumption)) (by have h_ : ((rd l3 x51_3) : Int) < ((x10_3.length : Int) : Int) := of_decide_eq_true (by first | (with_reducible assumption) | assumption); first | exact h_ | (have e_ := (Kd.R_reads' HO_10.out).1; omega) | simpa using h_))); (try (obtain rfl := k55_openM hM41)); (try (have HP41 := Kd.R_seg HX41.out ((rd l3 x51_3) : Int) (of_decide_eq_true (by first | (with_reducible assumption) | assumption)) (by have h_ : ((rd l3 x51_3) : Int) < ((x10_3.length : Int) : Int) := of_decide_eq_true (by first | (with_reducible assumption) | assumption); first | exact h_ | (have e_ := (Kd.R_reads' HO_10.out).1; omega) | simpa using h_) (seg := [.int .i64 (rd l3 x51_3), .int .i64 x40_2, .int .i64 x14_1]) (j := 0) hcl41 hcc41 (show 3 ≤ 3 from by decide) (x' := (⟨rd l3 x51_3, x40_2, x14_1⟩ : S55)) (k55_mkM _ _ _ (⟨rd l3 x51_3, x40_2, x14_1⟩ : S55) ) (fun _ hk => hk))); (try (have hx41_0 := hcc41 0 _ rfl)); (try (try simp only [show (k55).sz = 3 from rfl, Nat.mul_one, Nat.add_zero] at hx41_0)); (try (have hf41_0 := hfr41 0)); (try (try simp only [show (k55).sz = 3 from rfl, Nat.mul_one, Nat.add_zero] at hf41_0)); (try (have hx41_1 := hcc41 1 _ rfl)); (try (try simp only [show (k55).sz = 3 from rfl, Nat.mul_one, Nat.add_zero] at hx41_1)); (try (have hf41_1 := hfr41 1)); (try (try simp only [show (k55).sz = 3 from rfl, Nat.mul_one, Nat.add_zero] at hf41_1)); (try (have hx41_2 := hcc41 2 _ rfl)); (try (try simp only [show (k55).sz = 3 from rfl, Nat.mul_one, Nat.add_zero] at hx41_2)); (try (have hf41_2 := hfr41 2)); (try (try simp only [show (k55).sz = 3 from rfl, Nat.mul_one, Nat.add_zero] at hf41_2)); (try (clear hcl41 hcc41 hfr41 hM41)))); refine store_event (t := 55) (p := 65) (v := ?vo_w42) (w1 := (((wr.setCell ⟨go31, ((rd l3 x51_3) : Int).toNat * 3, none⟩ (.int .i64 (rd l3 x51_3))).setCell ⟨go31, ((rd l3 x51_3) : Int).toNat * 3 + 1, none⟩ (.int .i64 x40_2)).setCell ⟨go31, ((rd l3 x51_3) : Int).toNat * 3 + 2, none⟩ (.int .i64 x14_1))) ?hg ?ho ?hn ?hr ?_; (case ho => rfl); (case hg => rfl); (case hn => rfl); (case hr => first | (go_simp; done) | (go_simp; rfl)); intro w42 hw; have hg : wr.grownBy w42 (some go31) := (by rw [hw]; exact HP41.2); have hp_ : Kd.R k55 55 w42 w.heap.size (fun _ => True) (.slice (some ⟨go31, 0, none⟩) x10_3.length co40) y323 := (by rw [hw, Ny323.out]; exact HP41.1); clear HP41; have n0_ := Aside0.mk (Kd.S_over' (v := (.slice (some ⟨go31, 0, none⟩) x10_3.length co40)) (by (with_reducible repeat (first | apply Kd.S_alloc | apply Kd.S_drewN | apply Kd.S_drew)); exact HO_9.out) (Kd.R_typed HO_10.out) (by decide) hg); have n1_ := Aside0.mk (hp_); have n2_ := Aside0.mk (Kd.R_over' (v := (.slice (some ⟨go31, 0, none⟩) x10_3.length co40)) (bR HO_11.out) (Kd.R_typed HO_10.out) (by decide) hg); have n3_ := Aside0.mk (Kd.R_over' (v := (.slice (some ⟨go31, 0, none⟩) x10_3.length co40)) (bR HO_12.out) (Kd.R_typed HO_10.out) (by decide) hg); have n4_ := Aside0.mk ((by rw [hw]; exact below_set (below_set (below_set (HB.out) GB31.out) GB31.out) GB31.out : Below w.heap.size w w42)); have nX_ := Aside0.mk (lpBx_over HX.out (Kd.R_typed HO_10.out) (by decide) hg); replace HO_9 := n0_; replace HO_10 := n1_; replace HO_11 := n2_; replace HO_12 := n3_; replace HB := n4_; clear n0_ n1_ n2_ n3_ n4_; clear HX; have HX := nX_; clear nX_; obtain ⟨hb4, hb9, hb10, hb11⟩ := lpBx_cells HX.out; clear hg hw hp_; have p33 : 0 ≤ ((rd l3 x51_3) : Int) := of_decide_eq_true (by first | (with_reducible assumption) | assumption); have q33 : ((rd l3 x51_3) : Int) < ((x11_3.length : Int) : Int) := of_decide_eq_true (by first | (with_reducible assumption) | assumption); obtain ⟨go33, co33, eo33, gb33, gl33, cl33, HG33⟩ := Kd.R_form HO_11.out (by omega); (first | cases eo33 | (injection eo33 with ea_ en_ ec_; (first | subst ea_ | (injection ea_ with ea_; subst ea_)); subst ec_; clear en_)); have GB33 := Aside0.mk gb33; have GG33 := Aside0.mk HG33; clear gb33 gl33 HG33; obtain ⟨hx33_0, hf33_0⟩ := Kd.R_celln false HO_11.out ((rd l3 x51_3) : Int) p33 q33; replace p33 := eq_true p33; replace q33 := eq_true q33; obtain ⟨hy43_, hz43_⟩ := Kd.R_celln false HO_11.out ((rd l3 x51_3) : Int) (of_decide_eq_true (by first | (with_reducible assumption) | assumption)) (of_decide_eq_true (by first | (with_reducible assumption) | assumption)); have HP43 := Kd.R_putg HO_11.out ((rd l3 x51_3) : Int) true) | ((with_reducible refine gate_store (t := 4) (p := 68) rfl ?_); (try (rw [drewN_self w42]; generalize hq_ : World.drewN w42 _ = w42; have n0_ := Aside0.mk (Kd.S_at hq_ HO_9.out); have n1_ := Aside0.mk (Kd.R_at hq_ HO_10.out); have n2_ := Aside0.mk (Kd.R_at hq_ HO_11.out); have n3_ := Aside0.mk (Kd.R_at hq_ HO_12.out); have n4_ := Aside0.mk (below_at hq_ HB.out); have nX_ := Aside0.mk (lpBx_at hq_ HX.out); (try replace hx320_0 := cell_at hq_ hx320_0); (try replace hx321_0 := cell_at hq_ hx321_0); (try replace hx33_0 := cell_at hq_ hx33_0); (try replace hf33_0 := frz_at hq_ hf33_0); (try replace hx325_0 := cell_at hq_ hx325_0); (try replace hx325_1 := cell_at hq_ hx325_1); (try replace hx325_2 := cell_at hq_ hx325_2); (try replace hx325_3 := cell_at hq_ hx325_3); clear hq_ HO_9 HO_10 HO_11 HO_12 HB HX; have HO_9 := n0_; have HO_10 := n1_; have HO_11 := n2_; have HO_12 := n3_; have HB := n4_; clear n0_ n1_ n2_ n3_ n4_; have HX := nX_; clear nX_; obtain ⟨hb4, hb9, hb10, hb11⟩ := lpBx_cells HX.out; (try (obtain ⟨hy43_, hz43_⟩ := Kd.R_celln false HO_11.out ((rd l3 x51_3) : Int) (of_decide_eq_true (by first | (with_reducible assumption) | assumption)) (of_decide_eq_true (by first | (with_reducible assumption) | assumption)))); (try (have HP43 := Kd.R_putg HO_11.out ((rd l3 x51_3) : Int) true)))); refine store_event (t := 4) (p := 68) (v := ?vo_w44) (w1 := (w42.setCell ⟨go33, ((rd l3 x51_3) : Int).toNat, none⟩ (.bool true))) ?hg ?ho ?hn ?hr ?_; (case ho => rfl); (case hg => rfl); (case hn => rfl); (case hr => first | (go_simp; done) | (go_simp; rfl)); intro w44 hw; have hg : w42.grownBy w44 (some go33) := (by rw [hw]; exact HP43.2); have hp_ : Kd.R Kd.bool 4 w44 w.heap.size (fun _ => True) (.slice (some ⟨go33, 0, none⟩) x11_3.length co38) y324 := (by rw [hw, Ny324.out]; exact HP43.1); clear HP43; have n0_ := Aside0.mk (Kd.S_after (v := (.slice (some ⟨go33, 0, none⟩) x11_3.length co38)) (v1 := (.slice (some ⟨go33, 0, none⟩) x11_3.length co38)) (ok := (fun _ => True)) (by (with_reducible repeat (first | apply Kd.S_alloc | apply Kd.S_drewN | apply Kd.S_drew)); exact Kd.S_mono HO_9.out (fun _ hk => ⟨trivial, hk⟩)) hg (.inl rfl)); have n1_ := Aside0.mk (Kd.R_over' (v := (.slice (some ⟨go33, 0, none⟩) x11_3.length co38)) (bR HO_10.out) (Kd.R_typed HO_11.out) (by decide) hg); have n2_ := Aside0.mk (hp_); have n3_ := Aside0.mk (Kd.R_over' (v := (.slice (some ⟨go33, 0, none⟩) x11_3.length co38)) (bR HO_12.out) (Kd.R_typed HO_11.out) (by decide) hg); have n4_ := Aside0.mk ((by rw [hw]; exact below_set (HB.out) GB33.out : Below w.heap.size w w44)); have nX_ := Aside0.mk (lpBx_over HX.out (Kd.R_typed HO_11.out) (by decide) hg); replace HO_9 := n0_; replace HO_10 := n1_; replace HO_11 := n2_; replace HO_12 := n3_; replace HB := n4_; clear n0_ n1_ n2_ n3_ n4_; clear HX; have HX := nX_; clear nX_; obtain ⟨hb4, hb9, hb10, hb11⟩ := lpBx_cells HX.out; clear hg hw hp_; have p325 : 0 ≤ ((rd l3 x51_3) : Int) := of_decide_eq_true (by first | (with_reducible assumption) | assumption); have q325 : (rd l3 x51_3) < (l0.length : Int) := of_decide_eq_true (by first | (with_reducible assumption) | assumption); obtain ⟨ad325, e325, hx325_0, hx325_1, hx325_2, hx325_3⟩ := at_T46 HR0.out (rd l3 x51_3) p325 q325; cases e325; replace hx325_0 := (HB.out.cell (World.block_lt_of_cell? w _ hx325_0)).trans hx325_0; replace hx325_1 := (HB.out.cell (World.block_lt_of_cell? w _ hx325_1)).trans hx325_1; replace hx325_2 := (HB.out.cell (World.block_lt_of_cell? w _ hx325_2)).trans hx325_2; replace hx325_3 := (HB.out.cell (World.block_lt_of_cell? w _ hx325_3)).trans hx325_3; replace p325 := eq_true p325; replace q325 := eq_true q325; have p37 : 0 ≤ (x40_2 : Int) := of_decide_eq_true (by first | (with_reducible assumption) | assumption); have q37 : (x40_2 : Int) < ((x12_3.length : Int) : Int) := of_decide_eq_true (by first | (with_reducible assumption) | assumption); obtain ⟨go37, co37, eo37, gb37, gl37, cl37, HG37⟩ := Kd.R_form HO_12.out (by omega); (first | cases eo37 | (injection eo37 with ea_ en_ ec_; (first | subst ea_ | (injection ea_ with ea_; subst ea_)); subst ec_; clear en_)); have GB37 := Aside0.mk gb37; have GG37 := Aside0.mk HG37; clear gb37 gl37 HG37; (first | simp only [add_plain] at hx320_0 | skip); obtain ⟨hx37_0, hf37_0⟩ := Kd.R_celln 0 HO_12.out (x40_2 : Int) p37 q37; replace p37 := eq_true p37; replace q37 := eq_true q37; obtain ⟨hy45_, hz45_⟩ := Kd.R_celln 0 HO_12.out (x40_2 : Int) (of_decide_eq_true (by first | (with_reducible assumption) | assumption)) (of_decide_eq_true (by first | (with_reducible assumption) | assumption)); have HP45 := Kd.R_putg HO_12.out (x40_2 : Int) (wrap64 (x14_1 + ((rd_T46 l0 (rd l3 x51_3)).f0)))) | ((with_reducible refine gate_store (t := 3) (p := 78) rfl ?_); (try (rw [drewN_self w44]; generalize hq_ : World.drewN w44 _ = w44; have n0_ := Aside0.mk (Kd.S_at hq_ HO_9.out); have n1_ := Aside0.mk (Kd.R_at hq_ HO_10.out); have n2_ := Aside0.mk (Kd.R_at hq_ HO_11.out); have n3_ := Aside0.mk (Kd.R_at hq_ HO_12.out); have n4_ := Aside0.mk (below_at hq_ HB.out); have nX_ := Aside0.mk (lpBx_at hq_ HX.out); (try replace hx320_0 := cell_at hq_ hx320_0); (try replace hx321_0 := cell_at hq_ hx321_0); (try replace hx33_0 := cell_at hq_ hx33_0); (try replace hf33_0 := frz_at hq_ hf33_0); (try replace hx325_0 := cell_at hq_ hx325_0); (try replace hx325_1 := cell_at hq_ hx325_1); (try replace hx325_2 := cell_at hq_ hx325_2); (try replace hx325_3 := cell_at hq_ hx325_3); clear hq_ HO_9 HO_10 HO_11 HO_12 HB HX; have HO_9 := n0_; have HO_10 := n1_; have HO_11 := n2_; have HO_12 := n3_; have HB := n4_; clear n0_ n1_ n2_ n3_ n4_; have HX := nX_; clear nX_; obtain ⟨hb4, hb9, hb10, hb11⟩ := lpBx_cells HX.out; (try (obtain ⟨hy45_, hz45_⟩ := Kd.R_celln 0 HO_12.out (x40_2 : Int) (of_decide_eq_true (by first | (with_reducible assumption) | assumption)) (of_decide_eq_true (by first | (with_reducible assumption) | assumption)))); (try (have HP45 := Kd.R_putg HO_12.out (x40_2 : Int) (wrap64 (x14_1 + ((rd_T46 l0 (rd l3 x51_3)).f0))))))); refine store_event (t := 3) (p := 78) (v := ?vo_w46) (w1 := (w44.setCell ⟨go37, (x40_2 : Int).toNat, none⟩ (.int .i64 (wrap64 (x14_1 + ((rd_T46 l0 (rd l3 x51_3)).f0)))))) ?hg ?ho ?hn ?hr ?_; (case ho => rfl); (case hg => rfl); (case hn => rfl); (case hr => first | (go_simp; done) | (go_simp; rfl)); intro w46 hw; have hg : w44.grownBy w46 (some go37) := (by rw [hw]; exact HP45.2); have hp_ : Kd.R (Kd.int .i64) 3 w46 w.heap.size (fun _ => True) (.slice (some ⟨go37, 0, none⟩) x12_3.length co19) y326 := (by rw [hw, Ny326.out]; exact HP45.1); clear HP45; have n0_ := Aside0.mk (Kd.S_over' (v := (.slice (some ⟨go37, 0, none⟩) x12_3.length co19)) (by (with_reducible repeat (first | apply Kd.S_alloc | apply Kd.S_drewN | apply Kd.S_drew)); exact HO_9.out) (Kd.R_typed HO_12.out) (by decide) hg); have n1_ := Aside0.mk (Kd.R_over' (v := (.slice (some ⟨go37, 0, none⟩) x12_3.length co19)) (bR HO_10.out) (Kd.R_typed HO_12.out) (by decide) hg); have n2_ := Aside0.mk (Kd.R_over' (v := (.slice (some ⟨go37, 0, none⟩) x12_3.length co19)) (bR HO_11.out) (Kd.R_typed HO_12.out) (by decide) hg); have n3_ := Aside0.mk (hp_); have n4_ := Aside0.mk ((by rw [hw]; exact below_set (HB.out) GB37.out : Below w.heap.size w w46)); have nX_ := Aside0.mk (lpBx_over HX.out (Kd.R_typed HO_12.out) (by decide) hg); replace HO_9 := n0_; replace HO_10 := n1_; replace HO_11 := n2_; replace HO_12 := n3_; replace HB := n4_; clear n0_ n1_ n2_ n3_ n4_; clear HX; have HX := nX_; clear nX_; obtain ⟨hb4, hb9, hb10, hb11⟩ := lpBx_cells HX.out; clear hg hw hp_)))
       (try simp only [← hl12_2, ← hl12_3])
       go_roundg k3
       case measure => have := HK1.out; have := HK2.out; have := HK3.out; omega
       case rel => exact ⟨(y323), (y324), (y326), (wrap64 (x15_3 - 1)), (wrap64 (x40_2 + 1)), (by first | rfl | (simp; done) | (simp [*]; done)), (by first | rfl | (simp; done) | (simp [*]; done)), H', ⟨by have := HK1.out; have := HK2.out; have := HK3.out; omega⟩, ⟨by (try simp only [hl12_2]); (try simp only [hl12_3]); (with_reducible repeat (first | apply Kd.S_alloc | apply Kd.S_drewN | apply Kd.S_drew)); exact Kd.S_mono HO_9.out (fun _ hk => hk.2)⟩, ⟨by (try simp only [hl12_2]); (try simp only [hl12_3]); (with_reducible repeat (first | apply Kd.R_alloc | apply Kd.R_drewN | apply Kd.R_drew)); exact HO_10.out⟩, ⟨by (try simp only [hl12_2]); (try simp only [hl12_3]); (with_reducible repeat (first | apply Kd.R_alloc | apply Kd.R_drewN | apply Kd.R_drew)); exact HO_11.out⟩, ⟨by (try simp only [hl12_2]); (try simp only [hl12_3]); (with_reducible repeat (first | apply Kd.R_alloc | apply Kd.R_drewN | apply Kd.R_drew)); exact HO_12.out⟩, ⟨bw HB.out⟩, ⟨lpBx_bs HX.out⟩⟩


/-! ### laws_eqJob: function 26 -/
def laws_eqJob.f (a0_0 : Int) (a0_1 : Int) (a0_2 : Int) (a0_3 : Int) (a1_0 : Int) (a1_1 : Int) (a1_2 : Int) (a1_3 : Int) : Option (Bool) := if a0_0 = a1_0 then (if a0_1 = a1_1 then (if a0_2 = a1_2 then (if a0_3 = a1_3 then (some true) else (some false)) else (some false)) else (some false)) else (some false)
set_option maxHeartbeats 8000000 in
set_option maxRecDepth 100000 in
theorem laws_eqJob.calls (a0_0 : Int) (a0_1 : Int) (a0_2 : Int) (a0_3 : Int) (a1_0 : Int) (a1_1 : Int) (a1_2 : Int) (a1_3 : Int) (r : Bool) (w : World) (h : laws_eqJob.f a0_0 a0_1 a0_2 a0_3 a1_0 a1_1 a1_2 a1_3 = some r) :
  Calls Try.prog 26 #[.agg #[.int .i64 a0_0, .int .i64 a0_1, .int .i64 a0_2, .int .i64 a0_3], .agg #[.int .i64 a1_0, .int .i64 a1_1, .int .i64 a1_2, .int .i64 a1_3]] w fun e w' => e = .returned (.bool r) ∧ Below w.heap.size w w' := by
 have hu46 := Try.underlying46
 have HB := Aside0.mk (Below.refl w.heap.size w)
 have H : (if a0_0 = a1_0 then (if a0_1 = a1_1 then (if a0_2 = a1_2 then (if a0_3 = a1_3 then (some true) else (some false)) else (some false)) else (some false)) else (some false)) = some r := h
 clear h
 by_cases c3 : a0_0 = a1_0
 rotate_left
 ·rw [if_neg c3] at H
  have c3b0 : (a0_0 == a1_0) = false := beq_eq_false_iff_ne.mpr c3
  have c3b1 : (a0_0 != a1_0) = true := bne_iff_ne.mpr c3
  obtain rfl := Option.some.inj H
  go_enter Try.func26, Try.ntmps26
  go_wp2_with (first | ((with_reducible refine gate_dst (N := 2) rfl ?_); refine box_event ?hg (N := 2) ?hd (cs := #[.int .i64 a0_0, .int .i64 a0_1, .int .i64 a0_2, .int .i64 a0_3]) (t := 46) ?hr ?_; (case hd => rfl); (case hg => rfl); (case hr => first | (go_simp; done) | (go_simp; rfl)); intro gb311 hg w27 hbox hb; have n0_ := Aside0.mk (below_step (bw HB.out) hb); have n1_ := Aside0.mk (hbox); have n2_ := ge_ hg HB.out; have n3_ := ge_ hg HB.out; replace HB := n0_; have BK311 := n1_; have GW311 := n2_; have GE311 := n3_; clear n0_ n1_ n2_ n3_; clear hb hbox hg) | ((with_reducible refine gate_dst (N := 3) rfl ?_); refine box_event ?hg (N := 3) ?hd (cs := #[.int .i64 a1_0, .int .i64 a1_1, .int .i64 a1_2, .int .i64 a1_3]) (t := 46) ?hr ?_; (case hd => rfl); (case hg => rfl); (case hr => first | (go_simp; done) | (go_simp; rfl)); intro gb312 hg w28 hbox hb; have n0_ := Aside0.mk (blk_below (bs BK311.out) hb); have n1_ := Aside0.mk (below_step (by repeat (first | (with_reducible first | exact bw HB.out | refine bset ?_ | apply bA | apply bN | apply bD) | exact HB.out)) hb); have n2_ := Aside0.mk (hbox); have n3_ := Aside0.mk ((by rw [hg]; exact (below_size (by repeat (first | (with_reducible first | exact bw HB.out | refine bset ?_ | apply bA | apply bN | apply bD) | exact HB.out))) : w.heap.size ≤ gb312)); have n4_ := Aside0.mk ((by rw [hg]; exact (below_size (by repeat (first | (with_reducible first | exact bw HB.out | refine bset ?_ | apply bA | apply bN | apply bD) | exact HB.out))) : w.heap.size ≤ gb312)); have n5_ := ne_ hg BK311.out; have n6_ := en_ hg BK311.out; replace BK311 := n0_; replace HB := n1_; have BK312 := n2_; have GW312 := n3_; have GE312 := n4_; have NB311_312 := n5_; have NB312_311 := n6_; clear n0_ n1_ n2_ n3_ n4_ n5_ n6_; clear hb hbox hg; have hnb29 := NB311_312.out; have hnc29 := NB312_311.out; obtain ⟨hcz30_0, hcz30_1, hcz30_2, hcz30_3, hfz30_0, hfz30_1, hfz30_2, hfz30_3⟩ := bz4 BK311.out; obtain ⟨hcz31_0, hcz31_1, hcz31_2, hcz31_3, hfz31_0, hfz31_1, hfz31_2, hfz31_3⟩ := bz4 BK312.out))
  go_ret
  exact ⟨by first | rfl | (simp [errW_none, errW_some] <;> rfl) | (simp [*, errW_none, errW_some] <;> rfl), by repeat (first | (with_reducible first | exact bw HB.out | refine bset ?_ | apply bA | apply bN | apply bD) | exact HB.out)⟩
 rw [if_pos c3] at H
 have c3b0 : (a0_0 == a1_0) = true := beq_iff_eq.mpr c3
 have c3b1 : (a0_0 != a1_0) = false := bne_eq_false_iff_eq.mpr c3
 clear c3
 by_cases c4 : a0_1 = a1_1
 rotate_left
 ·rw [if_neg c4] at H
  have c4b0 : (a0_1 == a1_1) = false := beq_eq_false_iff_ne.mpr c4
  have c4b1 : (a0_1 != a1_1) = true := bne_iff_ne.mpr c4
  obtain rfl := Option.some.inj H
  go_enter Try.func26, Try.ntmps26
  go_wp2_with (first | ((with_reducible refine gate_dst (N := 2) rfl ?_); refine box_event ?hg (N := 2) ?hd (cs := #[.int .i64 a0_0, .int .i64 a0_1, .int .i64 a0_2, .int .i64 a0_3]) (t := 46) ?hr ?_; (case hd => rfl); (case hg => rfl); (case hr => first | (go_simp; done) | (go_simp; rfl)); intro gb311 hg w22 hbox hb; have n0_ := Aside0.mk (below_step (bw HB.out) hb); have n1_ := Aside0.mk (hbox); have n2_ := ge_ hg HB.out; have n3_ := ge_ hg HB.out; replace HB := n0_; have BK311 := n1_; have GW311 := n2_; have GE311 := n3_; clear n0_ n1_ n2_ n3_; clear hb hbox hg) | ((with_reducible refine gate_dst (N := 3) rfl ?_); refine box_event ?hg (N := 3) ?hd (cs := #[.int .i64 a1_0, .int .i64 a1_1, .int .i64 a1_2, .int .i64 a1_3]) (t := 46) ?hr ?_; (case hd => rfl); (case hg => rfl); (case hr => first | (go_simp; done) | (go_simp; rfl)); intro gb312 hg w23 hbox hb; have n0_ := Aside0.mk (blk_below (bs BK311.out) hb); have n1_ := Aside0.mk (below_step (by repeat (first | (with_reducible first | exact bw HB.out | refine bset ?_ | apply bA | apply bN | apply bD) | exact HB.out)) hb); have n2_ := Aside0.mk (hbox); have n3_ := Aside0.mk ((by rw [hg]; exact (below_size (by repeat (first | (with_reducible first | exact bw HB.out | refine bset ?_ | apply bA | apply bN | apply bD) | exact HB.out))) : w.heap.size ≤ gb312)); have n4_ := Aside0.mk ((by rw [hg]; exact (below_size (by repeat (first | (with_reducible first | exact bw HB.out | refine bset ?_ | apply bA | apply bN | apply bD) | exact HB.out))) : w.heap.size ≤ gb312)); have n5_ := ne_ hg BK311.out; have n6_ := en_ hg BK311.out; replace BK311 := n0_; replace HB := n1_; have BK312 := n2_; have GW312 := n3_; have GE312 := n4_; have NB311_312 := n5_; have NB312_311 := n6_; clear n0_ n1_ n2_ n3_ n4_ n5_ n6_; clear hb hbox hg; have hnb24 := NB311_312.out; have hnc24 := NB312_311.out; obtain ⟨hcz25_0, hcz25_1, hcz25_2, hcz25_3, hfz25_0, hfz25_1, hfz25_2, hfz25_3⟩ := bz4 BK311.out; obtain ⟨hcz26_0, hcz26_1, hcz26_2, hcz26_3, hfz26_0, hfz26_1, hfz26_2, hfz26_3⟩ := bz4 BK312.out))
  go_ret
  exact ⟨by first | rfl | (simp [errW_none, errW_some] <;> rfl) | (simp [*, errW_none, errW_some] <;> rfl), by repeat (first | (with_reducible first | exact bw HB.out | refine bset ?_ | apply bA | apply bN | apply bD) | exact HB.out)⟩
 rw [if_pos c4] at H
 have c4b0 : (a0_1 == a1_1) = true := beq_iff_eq.mpr c4
 have c4b1 : (a0_1 != a1_1) = false := bne_eq_false_iff_eq.mpr c4
 clear c4
 by_cases c5 : a0_2 = a1_2
 rotate_left
 ·rw [if_neg c5] at H
  have c5b0 : (a0_2 == a1_2) = false := beq_eq_false_iff_ne.mpr c5
  have c5b1 : (a0_2 != a1_2) = true := bne_iff_ne.mpr c5
  obtain rfl := Option.some.inj H
  go_enter Try.func26, Try.ntmps26
  go_wp2_with (first | ((with_reducible refine gate_dst (N := 2) rfl ?_); refine box_event ?hg (N := 2) ?hd (cs := #[.int .i64 a0_0, .int .i64 a0_1, .int .i64 a0_2, .int .i64 a0_3]) (t := 46) ?hr ?_; (case hd => rfl); (case hg => rfl); (case hr => first | (go_simp; done) | (go_simp; rfl)); intro gb311 hg w17 hbox hb; have n0_ := Aside0.mk (below_step (bw HB.out) hb); have n1_ := Aside0.mk (hbox); have n2_ := ge_ hg HB.out; have n3_ := ge_ hg HB.out; replace HB := n0_; have BK311 := n1_; have GW311 := n2_; have GE311 := n3_; clear n0_ n1_ n2_ n3_; clear hb hbox hg) | ((with_reducible refine gate_dst (N := 3) rfl ?_); refine box_event ?hg (N := 3) ?hd (cs := #[.int .i64 a1_0, .int .i64 a1_1, .int .i64 a1_2, .int .i64 a1_3]) (t := 46) ?hr ?_; (case hd => rfl); (case hg => rfl); (case hr => first | (go_simp; done) | (go_simp; rfl)); intro gb312 hg w18 hbox hb; have n0_ := Aside0.mk (blk_below (bs BK311.out) hb); have n1_ := Aside0.mk (below_step (by repeat (first | (with_reducible first | exact bw HB.out | refine bset ?_ | apply bA | apply bN | apply bD) | exact HB.out)) hb); have n2_ := Aside0.mk (hbox); have n3_ := Aside0.mk ((by rw [hg]; exact (below_size (by repeat (first | (with_reducible first | exact bw HB.out | refine bset ?_ | apply bA | apply bN | apply bD) | exact HB.out))) : w.heap.size ≤ gb312)); have n4_ := Aside0.mk ((by rw [hg]; exact (below_size (by repeat (first | (with_reducible first | exact bw HB.out | refine bset ?_ | apply bA | apply bN | apply bD) | exact HB.out))) : w.heap.size ≤ gb312)); have n5_ := ne_ hg BK311.out; have n6_ := en_ hg BK311.out; replace BK311 := n0_; replace HB := n1_; have BK312 := n2_; have GW312 := n3_; have GE312 := n4_; have NB311_312 := n5_; have NB312_311 := n6_; clear n0_ n1_ n2_ n3_ n4_ n5_ n6_; clear hb hbox hg; have hnb19 := NB311_312.out; have hnc19 := NB312_311.out; obtain ⟨hcz20_0, hcz20_1, hcz20_2, hcz20_3, hfz20_0, hfz20_1, hfz20_2, hfz20_3⟩ := bz4 BK311.out; obtain ⟨hcz21_0, hcz21_1, hcz21_2, hcz21_3, hfz21_0, hfz21_1, hfz21_2, hfz21_3⟩ := bz4 BK312.out))
  go_ret
  exact ⟨by first | rfl | (simp [errW_none, errW_some] <;> rfl) | (simp [*, errW_none, errW_some] <;> rfl), by repeat (first | (with_reducible first | exact bw HB.out | refine bset ?_ | apply bA | apply bN | apply bD) | exact HB.out)⟩
 rw [if_pos c5] at H
 have c5b0 : (a0_2 == a1_2) = true := beq_iff_eq.mpr c5
 have c5b1 : (a0_2 != a1_2) = false := bne_eq_false_iff_eq.mpr c5
 clear c5
 by_cases c6 : a0_3 = a1_3
 rotate_left
 ·rw [if_neg c6] at H
  have c6b0 : (a0_3 == a1_3) = false := beq_eq_false_iff_ne.mpr c6
  have c6b1 : (a0_3 != a1_3) = true := bne_iff_ne.mpr c6
  obtain rfl := Option.some.inj H
  go_enter Try.func26, Try.ntmps26
  go_wp2_with (first | ((with_reducible refine gate_dst (N := 2) rfl ?_); refine box_event ?hg (N := 2) ?hd (cs := #[.int .i64 a0_0, .int .i64 a0_1, .int .i64 a0_2, .int .i64 a0_3]) (t := 46) ?hr ?_; (case hd => rfl); (case hg => rfl); (case hr => first | (go_simp; done) | (go_simp; rfl)); intro gb311 hg w12 hbox hb; have n0_ := Aside0.mk (below_step (bw HB.out) hb); have n1_ := Aside0.mk (hbox); have n2_ := ge_ hg HB.out; have n3_ := ge_ hg HB.out; replace HB := n0_; have BK311 := n1_; have GW311 := n2_; have GE311 := n3_; clear n0_ n1_ n2_ n3_; clear hb hbox hg) | ((with_reducible refine gate_dst (N := 3) rfl ?_); refine box_event ?hg (N := 3) ?hd (cs := #[.int .i64 a1_0, .int .i64 a1_1, .int .i64 a1_2, .int .i64 a1_3]) (t := 46) ?hr ?_; (case hd => rfl); (case hg => rfl); (case hr => first | (go_simp; done) | (go_simp; rfl)); intro gb312 hg w13 hbox hb; have n0_ := Aside0.mk (blk_below (bs BK311.out) hb); have n1_ := Aside0.mk (below_step (by repeat (first | (with_reducible first | exact bw HB.out | refine bset ?_ | apply bA | apply bN | apply bD) | exact HB.out)) hb); have n2_ := Aside0.mk (hbox); have n3_ := Aside0.mk ((by rw [hg]; exact (below_size (by repeat (first | (with_reducible first | exact bw HB.out | refine bset ?_ | apply bA | apply bN | apply bD) | exact HB.out))) : w.heap.size ≤ gb312)); have n4_ := Aside0.mk ((by rw [hg]; exact (below_size (by repeat (first | (with_reducible first | exact bw HB.out | refine bset ?_ | apply bA | apply bN | apply bD) | exact HB.out))) : w.heap.size ≤ gb312)); have n5_ := ne_ hg BK311.out; have n6_ := en_ hg BK311.out; replace BK311 := n0_; replace HB := n1_; have BK312 := n2_; have GW312 := n3_; have GE312 := n4_; have NB311_312 := n5_; have NB312_311 := n6_; clear n0_ n1_ n2_ n3_ n4_ n5_ n6_; clear hb hbox hg; have hnb14 := NB311_312.out; have hnc14 := NB312_311.out; obtain ⟨hcz15_0, hcz15_1, hcz15_2, hcz15_3, hfz15_0, hfz15_1, hfz15_2, hfz15_3⟩ := bz4 BK311.out; obtain ⟨hcz16_0, hcz16_1, hcz16_2, hcz16_3, hfz16_0, hfz16_1, hfz16_2, hfz16_3⟩ := bz4 BK312.out))
  go_ret
  exact ⟨by first | rfl | (simp [errW_none, errW_some] <;> rfl) | (simp [*, errW_none, errW_some] <;> rfl), by repeat (first | (with_reducible first | exact bw HB.out | refine bset ?_ | apply bA | apply bN | apply bD) | exact HB.out)⟩
 rw [if_pos c6] at H
 have c6b0 : (a0_3 == a1_3) = true := beq_iff_eq.mpr c6
 have c6b1 : (a0_3 != a1_3) = false := bne_eq_false_iff_eq.mpr c6
 clear c6
 obtain rfl := Option.some.inj H
 go_enter Try.func26, Try.ntmps26
 go_wp2_with (first | ((with_reducible refine gate_dst (N := 2) rfl ?_); refine box_event ?hg (N := 2) ?hd (cs := #[.int .i64 a0_0, .int .i64 a0_1, .int .i64 a0_2, .int .i64 a0_3]) (t := 46) ?hr ?_; (case hd => rfl); (case hg => rfl); (case hr => first | (go_simp; done) | (go_simp; rfl)); intro gb311 hg w7 hbox hb; have n0_ := Aside0.mk (below_step (bw HB.out) hb); have n1_ := Aside0.mk (hbox); have n2_ := ge_ hg HB.out; have n3_ := ge_ hg HB.out; replace HB := n0_; have BK311 := n1_; have GW311 := n2_; have GE311 := n3_; clear n0_ n1_ n2_ n3_; clear hb hbox hg) | ((with_reducible refine gate_dst (N := 3) rfl ?_); refine box_event ?hg (N := 3) ?hd (cs := #[.int .i64 a1_0, .int .i64 a1_1, .int .i64 a1_2, .int .i64 a1_3]) (t := 46) ?hr ?_; (case hd => rfl); (case hg => rfl); (case hr => first | (go_simp; done) | (go_simp; rfl)); intro gb312 hg w8 hbox hb; have n0_ := Aside0.mk (blk_below (bs BK311.out) hb); have n1_ := Aside0.mk (below_step (by repeat (first | (with_reducible first | exact bw HB.out | refine bset ?_ | apply bA | apply bN | apply bD) | exact HB.out)) hb); have n2_ := Aside0.mk (hbox); have n3_ := Aside0.mk ((by rw [hg]; exact (below_size (by repeat (first | (with_reducible first | exact bw HB.out | refine bset ?_ | apply bA | apply bN | apply bD) | exact HB.out))) : w.heap.size ≤ gb312)); have n4_ := Aside0.mk ((by rw [hg]; exact (below_size (by repeat (first | (with_reducible first | exact bw HB.out | refine bset ?_ | apply bA | apply bN | apply bD) | exact HB.out))) : w.heap.size ≤ gb312)); have n5_ := ne_ hg BK311.out; have n6_ := en_ hg BK311.out; replace BK311 := n0_; replace HB := n1_; have BK312 := n2_; have GW312 := n3_; have GE312 := n4_; have NB311_312 := n5_; have NB312_311 := n6_; clear n0_ n1_ n2_ n3_ n4_ n5_ n6_; clear hb hbox hg; have hnb9 := NB311_312.out; have hnc9 := NB312_311.out; obtain ⟨hcz10_0, hcz10_1, hcz10_2, hcz10_3, hfz10_0, hfz10_1, hfz10_2, hfz10_3⟩ := bz4 BK311.out; obtain ⟨hcz11_0, hcz11_1, hcz11_2, hcz11_3, hfz11_0, hfz11_1, hfz11_2, hfz11_3⟩ := bz4 BK312.out))
 go_ret
 exact ⟨by first | rfl | (simp [errW_none, errW_some] <;> rfl) | (simp [*, errW_none, errW_some] <;> rfl), by repeat (first | (with_reducible first | exact bw HB.out | refine bset ?_ | apply bA | apply bN | apply bD) | exact HB.out)⟩

/-! ### laws_eqJobS: function 12 -/
abbrev q12_0 : Array Bool := ⟨rl_ [10] false⟩
abbrev q12_7 : Array Bool := ⟨rl_ [7, 3] true⟩
abbrev q12_8 : Array Bool := ⟨rl_ [8, 2] true⟩
abbrev q12_9 : Array Bool := ⟨rl_ [9, 1] true⟩
def laws_eqJobS.l0 : Nat → List (S46) → List (S46) → Int → Option (Bool)
 | 0, _, _, _ => none
 | k + 1, x0, x1, x5 => if x5 < (x0.length : Int) then (if 0 ≤ x5 then (if x5 < (x1.length : Int) then ((laws_eqJob.f ((rd_T46 x0 x5).f0) ((rd_T46 x0 x5).f1) ((rd_T46 x0 x5).f2) ((rd_T46 x0 x5).f3) ((rd_T46 x1 x5).f0) ((rd_T46 x1 x5).f1) ((rd_T46 x1 x5).f2) ((rd_T46 x1 x5).f3)).bind fun t315 => (if t315 = true then (laws_eqJobS.l0 k x0 x1 (wrap64 (x5 + 1))) else (some false))) else (none)) else (none)) else (some true)
def laws_eqJobS.f (k : Nat) (l0 : List (S46)) (l1 : List (S46)) : Option (Bool) := if (l0.length : Int) = (l1.length : Int) then (laws_eqJobS.l0 k l0 l1 0) else (some false)
theorem laws_eqJobS.mono_l : ∀ k, (∀ y0 y1 y2, LeO (laws_eqJobS.l0 k y0 y1 y2) (laws_eqJobS.l0 (k + 1) y0 y1 y2))
 | 0 => fun _ _ _ r h => by simp [laws_eqJobS.l0] at h
 | k + 1 => by
  have ih0 := laws_eqJobS.mono_l k
  ·intro y0 y1 y2
   unfold laws_eqJobS.l0
   repeat' first
   | (with_reducible exact ih0 _ _ _)
   | (with_reducible exact LeO.refl _)
   | (with_reducible exact LeO.none _)
   | (with_reducible refine LeO.ite ?_ ?_)
   | (with_reducible refine LeO.bind ?_ (fun _ => ?_))
   | exact ih0 _ _ _
   | exact LeO.none _
   | refine LeO.ite ?_ ?_
   | refine LeO.bind ?_ (fun _ => ?_)
theorem laws_eqJobS.mono : ∀ a0 a1 k, LeO (laws_eqJobS.f k a0 a1) (laws_eqJobS.f (k + 1) a0 a1) := by
 intro a0 a1 k
 have ih0 := laws_eqJobS.mono_l k
 unfold laws_eqJobS.f
 repeat' first
   | (with_reducible exact ih0 _ _ _)
   | (with_reducible exact LeO.refl _)
   | (with_reducible exact LeO.none _)
   | (with_reducible refine LeO.ite ?_ ?_)
   | (with_reducible refine LeO.bind ?_ (fun _ => ?_))
   | exact ih0 _ _ _
   | exact LeO.none _
   | refine LeO.ite ?_ ?_
   | refine LeO.bind ?_ (fun _ => ?_)
def laws_eqJobS.T6 : Bool × List (List Nat × List Nat) := (true, [([], []), ([], []), ([0, 1], [0, 1]), ([2], [2]), ([], []), ([], []), ([4, 5], [4, 5]), ([6], [6]), ([3, 7], [3, 7]), ([8], [8])])
def laws_eqJobS.B6 : List Nat := [0, 0, 3, 7, 0, 0, 48, 112, 255, 511]
theorem laws_eqJobS.tab6 : rtab .any (opsOf Try.f12 6) = laws_eqJobS.T6 := by kernel_rfl
theorem laws_eqJobS.bits6 : waitsOk laws_eqJobS.T6.2 laws_eqJobS.B6 = true := by kernel_rfl
set_option maxHeartbeats 8000000 in
set_option maxRecDepth 100000 in
theorem laws_eqJobS.calls (k : Nat) (A0 : Option Addr) (c0 : Nat) (l0 : List (S46)) (A1 : Option Addr) (c1 : Nat) (l1 : List (S46)) (r : Bool) (w : World) (hr0 : Kd.C k46 w A0 l0.length l0) (hc0 : l0.length ≤ c0) (hr1 : Kd.C k46 w A1 l1.length l1) (hc1 : l1.length ≤ c1) (h : laws_eqJobS.f k l0 l1 = some r) :
  Calls Try.prog 12 #[.slice A0 l0.length c0, .slice A1 l1.length c1] w fun e w' => e = .returned (.bool r) ∧ Below w.heap.size w w' := by
 have hu46 := Try.underlying46
 have HR0 := Aside0.mk hr0
 have HC0 := Aside0.mk hc0
 clear hr0 hc0
 have HR1 := Aside0.mk hr1
 have HC1 := Aside0.mk hc1
 clear hr1 hc1
 have HB := Aside0.mk (Below.refl w.heap.size w)
 have H : (if (l0.length : Int) = (l1.length : Int) then (laws_eqJobS.l0 k l0 l1 0) else (some false)) = some r := h
 clear h
 by_cases c3 : (l0.length : Int) = (l1.length : Int)
 rotate_left
 ·rw [if_neg c3] at H
  have c3b0 : ((l0.length : Int) == (l1.length : Int)) = false := beq_eq_false_iff_ne.mpr c3
  have c3b1 : ((l0.length : Int) != (l1.length : Int)) = true := bne_iff_ne.mpr c3
  have c3b2 : (l0.length == l1.length) = false := by first | simpa using c3 | (simp at c3 ⊢; omega)
  obtain rfl := Option.some.inj H
  go_enter Try.func12, Try.ntmps12
  go_wp2
  go_ret
  exact ⟨by first | rfl | (simp [errW_none, errW_some] <;> rfl) | (simp [*, errW_none, errW_some] <;> rfl), bw HB.out⟩
 rw [if_pos c3] at H
 have c3b0 : ((l0.length : Int) == (l1.length : Int)) = true := beq_iff_eq.mpr c3
 have c3b1 : ((l0.length : Int) != (l1.length : Int)) = false := bne_eq_false_iff_eq.mpr c3
 have c3b2 : (l0.length == l1.length) = true := by first | simpa using c3 | (simp at c3 ⊢; omega)
 clear c3
 have H' := Aside0.mk H
 clear H
 go_enter Try.func12, Try.ntmps12
 go_wp2
 go_loopg [5] k (fun kq v5 w' => ∃ (x5_1 : Int), v5 = .int .i64 x5_1 ∧ Aside0 (laws_eqJobS.l0 kq l0 l1 x5_1 = some r) ∧ Aside0 (kq ≤ k) ∧ Aside0 (Below w.heap.size w w'))
 case atStart => exact ⟨(0), (by first | rfl | (simp; done) | (simp [*]; done)), H', ⟨Nat.le_refl _⟩, ⟨bw HB.out⟩⟩
 case round =>
  clear H'
  try clear c1
  try clear p2
  try clear c3
  try clear c3b0
  try clear c3b1
  try clear c3b2
  obtain ⟨x5_1, rfl, HA, HK1, HB⟩ := hrel
  cases gk with
  | zero => exact absurd HA.out (by simp [laws_eqJobS.l0])
  | succ k1 =>
   have H := HA.out
   clear HA
   simp only [laws_eqJobS.l0] at H
   by_cases c4 : x5_1 < (l0.length : Int)
   rotate_left
   ·rw [if_neg c4] at H
    have c4b0 : decide (x5_1 < (l0.length : Int)) = false := decide_eq_false c4
    clear c4
    obtain rfl := Option.some.inj H
    go_wp2
    go_ret
    exact ⟨by first | rfl | (simp [errW_none, errW_some] <;> rfl) | (simp [*, errW_none, errW_some] <;> rfl), bw HB.out⟩
   rw [if_pos c4] at H
   have c4b0 : decide (x5_1 < (l0.length : Int)) = true := decide_eq_true c4
   clear c4
   by_cases c5 : 0 ≤ x5_1
   rotate_left
   ·rw [if_neg c5] at H
    exact absurd H (by simp)
   rw [if_pos c5] at H
   have c5b0 : decide (0 ≤ x5_1) = true := decide_eq_true c5
   clear c5
   by_cases c6 : x5_1 < (l1.length : Int)
   rotate_left
   ·rw [if_neg c6] at H
    exact absurd H (by simp)
   rw [if_pos c6] at H
   have c6b0 : decide (x5_1 < (l1.length : Int)) = true := decide_eq_true c6
   clear c6
   replace H := Option.bind_eq_some_iff.mp H
   obtain ⟨t315, A70, H⟩ := H
   replace H : (if t315 = true then (laws_eqJobS.l0 k1 l0 l1 (wrap64 (x5_1 + 1))) else (some false)) = some r := H
   have A7 := Aside0.mk A70
   clear A70
   by_cases c8 : t315 = true
   rotate_left
   ·replace c8 := Bool.eq_false_iff.mpr c8
    subst c8
    have H1 : (some false) = some r := by rw [if_neg (show ¬ (false = true) by decide)] at H; exact H
    clear H
    have H := H1
    clear H1
    obtain rfl := Option.some.inj H
    try go_wp2
    have n0_ := Aside0.mk (below_drew1 HB.out)
    replace HB := n0_
    clear n0_
    have p313 : 0 ≤ (x5_1 : Int) := of_decide_eq_true (by first | (with_reducible assumption) | assumption)
    have q313 : x5_1 < (l0.length : Int) := of_decide_eq_true (by first | (with_reducible assumption) | assumption)
    obtain ⟨ad313, e313, hx313_0, hx313_1, hx313_2, hx313_3⟩ := at_T46 HR0.out x5_1 p313 q313
    have hw313_3 := hx313_3
    have hw313_2 := hx313_2
    have hw313_1 := hx313_1
    have hw313_0 := hx313_0
    cases e313
    replace hx313_0 := (HB.out.cell (World.block_lt_of_cell? w _ hx313_0)).trans hx313_0
    replace hx313_1 := (HB.out.cell (World.block_lt_of_cell? w _ hx313_1)).trans hx313_1
    replace hx313_2 := (HB.out.cell (World.block_lt_of_cell? w _ hx313_2)).trans hx313_2
    replace hx313_3 := (HB.out.cell (World.block_lt_of_cell? w _ hx313_3)).trans hx313_3
    replace p313 := eq_true p313
    replace q313 := eq_true q313
    have p314 : 0 ≤ (x5_1 : Int) := of_decide_eq_true (by first | (with_reducible assumption) | assumption)
    have q314 : x5_1 < (l1.length : Int) := of_decide_eq_true (by first | (with_reducible assumption) | assumption)
    obtain ⟨ad314, e314, hx314_0, hx314_1, hx314_2, hx314_3⟩ := at_T46 HR1.out x5_1 p314 q314
    have hw314_3 := hx314_3
    have hw314_2 := hx314_2
    have hw314_1 := hx314_1
    have hw314_0 := hx314_0
    cases e314
    replace hx314_0 := (HB.out.cell (World.block_lt_of_cell? w _ hx314_0)).trans hx314_0
    replace hx314_1 := (HB.out.cell (World.block_lt_of_cell? w _ hx314_1)).trans hx314_1
    replace hx314_2 := (HB.out.cell (World.block_lt_of_cell? w _ hx314_2)).trans hx314_2
    replace hx314_3 := (HB.out.cell (World.block_lt_of_cell? w _ hx314_3)).trans hx314_3
    replace p314 := eq_true p314
    replace q314 := eq_true q314
    refine start_ (n := 10) (S := fun w' => w'.cell? (ad313.add ((x5_1).toNat * 4)) = some (.int .i64 ((rd_T46 l0 x5_1).f0)) ∧ w'.cell? ⟨(ad313.add ((x5_1).toNat * 4)).block, (ad313.add ((x5_1).toNat * 4)).off + 1, none⟩ = some (.int .i64 ((rd_T46 l0 x5_1).f1)) ∧ w'.cell? ⟨(ad313.add ((x5_1).toNat * 4)).block, (ad313.add ((x5_1).toNat * 4)).off + 2, none⟩ = some (.int .i64 ((rd_T46 l0 x5_1).f2)) ∧ w'.cell? ⟨(ad313.add ((x5_1).toNat * 4)).block, (ad313.add ((x5_1).toNat * 4)).off + 3, none⟩ = some (.int .i64 ((rd_T46 l0 x5_1).f3)) ∧ w'.cell? (ad314.add ((x5_1).toNat * 4)) = some (.int .i64 ((rd_T46 l1 x5_1).f0)) ∧ w'.cell? ⟨(ad314.add ((x5_1).toNat * 4)).block, (ad314.add ((x5_1).toNat * 4)).off + 1, none⟩ = some (.int .i64 ((rd_T46 l1 x5_1).f1)) ∧ w'.cell? ⟨(ad314.add ((x5_1).toNat * 4)).block, (ad314.add ((x5_1).toNat * 4)).off + 2, none⟩ = some (.int .i64 ((rd_T46 l1 x5_1).f2)) ∧ w'.cell? ⟨(ad314.add ((x5_1).toNat * 4)).block, (ad314.add ((x5_1).toNat * 4)).off + 3, none⟩ = some (.int .i64 ((rd_T46 l1 x5_1).f3))) (ds := []) q12_0 (by kernel_rfl) rfl rfl ⟨(bcl_ HB.out hw313_0 :), (bcl_ HB.out hw313_1 :), (bcl_ HB.out hw313_2 :), (bcl_ HB.out hw313_3 :), (bcl_ HB.out hw314_0 :), (bcl_ HB.out hw314_1 :), (bcl_ HB.out hw314_2 :), (bcl_ HB.out hw314_3 :)⟩ (fun hHeld => ?_); refine with_tabW laws_eqJobS.tab6 laws_eqJobS.bits6 (fun HT_ HW_ => ?_)
    generalize wr.drew = w11 at HB hx313_0 hx313_1 hx313_2 hx313_3 hx314_0 hx314_1 hx314_2 hx314_3 hHeld ⊢
    refine pw_ HT_ 0 (some 17) ?_
    refine pw_ HT_ 1 (some 18) ?_
    refine pw_ HT_ 2 (some 19) ?_
    refine pw_ HT_ 4 (some 21) ?_
    refine pw_ HT_ 5 (some 22) ?_
    refine pw_ HT_ 6 (some 23) ?_
    refine take_ (i := 3) (N := some 20) (v := ?_) (a' := ?_) q12_7 rfl rfl (take_ofW HT_.out HW_.out (by kernel_rfl)) (fun _ _ _ h => h) (Or.inl ⟨by rfl, ?_⟩) hHeld ?_ ?_
    rotate_left
    ·rintro w' ⟨s0, s1, s2, s3, s4, s5, s6, s7⟩
     go_simp
     with_reducible rfl
    rotate_left
    ·simp only [aq_]
     rfl
    refine take_ (i := 7) (N := some 24) (v := ?_) (a' := ?_) q12_8 rfl rfl (take_ofW HT_.out HW_.out (by kernel_rfl)) (fun _ _ _ h => h) (Or.inl ⟨by rfl, ?_⟩) hHeld ?_ ?_
    rotate_left
    ·rintro w' ⟨s0, s1, s2, s3, s4, s5, s6, s7⟩
     go_simp
     with_reducible rfl
    rotate_left
    ·simp only [aq_]
     rfl
    refine one_ (i := 8) (N := some 25) q12_9 rfl rfl (one_of HT_.out (by kernel_rfl)) (by decide) (fun K hK => ?_)
    refine goes_ Try.func26 (by kernel_rfl) rfl #[.agg #[.int .i64 ((rd_T46 l0 x5_1).f0), .int .i64 ((rd_T46 l0 x5_1).f1), .int .i64 ((rd_T46 l0 x5_1).f2), .int .i64 ((rd_T46 l0 x5_1).f3)], .agg #[.int .i64 ((rd_T46 l1 x5_1).f0), .int .i64 ((rd_T46 l1 x5_1).f1), .int .i64 ((rd_T46 l1 x5_1).f2), .int .i64 ((rd_T46 l1 x5_1).f3)]] (by rfl) rfl rfl (by (try simp only [mA_]); first | done | rfl | (simp only [List.length_drop, List.length_take]; rfl)) ?_
    with_reducible refine (laws_eqJob.calls ((rd_T46 l0 x5_1).f0) ((rd_T46 l0 x5_1).f1) ((rd_T46 l0 x5_1).f2) ((rd_T46 l0 x5_1).f3) ((rd_T46 l1 x5_1).f0) ((rd_T46 l1 x5_1).f1) ((rd_T46 l1 x5_1).f2) ((rd_T46 l1 x5_1).f3) false _ A7.out).mono ?_
    rintro e w12 ⟨rfl, hb⟩
    refine ⟨_, rfl, ?_⟩
    have n0_ := Aside0.mk (below_step (bw HB.out) hb)
    replace HB := n0_
    clear n0_
    (try clear hb)
    (try clear hb2)
    (try clear hk)
    (try clear hi)
    refine hK.out _ _ ⟨(bcl_ HB.out hw313_0 :), (bcl_ HB.out hw313_1 :), (bcl_ HB.out hw313_2 :), (bcl_ HB.out hw313_3 :), (bcl_ HB.out hw314_0 :), (bcl_ HB.out hw314_1 :), (bcl_ HB.out hw314_2 :), (bcl_ HB.out hw314_3 :)⟩ (fun hHeld => ?_)
    clear hK K
    refine norm_ (a' := ?_) ?_ ?_
    rotate_left
    ·show Act.put _ (some 25) _ = _
     simp only [aq_]
     rfl
    refine pw_ HT_ 9 (some 26) ?_
    refine done_ (done_of HT_.out (by kernel_rfl)) ?_
    try go_wp2
    go_ret
    exact ⟨by first | rfl | (simp [errW_none, errW_some] <;> rfl) | (simp [*, errW_none, errW_some] <;> rfl), bw HB.out⟩
   subst c8
   have H1 : (laws_eqJobS.l0 k1 l0 l1 (wrap64 (x5_1 + 1))) = some r := by rw [if_pos rfl] at H; exact H
   clear H
   have H := H1
   clear H1
   have H' := Aside0.mk H
   clear H
   try go_wp2
   have n0_ := Aside0.mk (below_drew1 HB.out)
   replace HB := n0_
   clear n0_
   have p313 : 0 ≤ (x5_1 : Int) := of_decide_eq_true (by first | (with_reducible assumption) | assumption)
   have q313 : x5_1 < (l0.length : Int) := of_decide_eq_true (by first | (with_reducible assumption) | assumption)
   obtain ⟨ad313, e313, hx313_0, hx313_1, hx313_2, hx313_3⟩ := at_T46 HR0.out x5_1 p313 q313
   have hw313_3 := hx313_3
   have hw313_2 := hx313_2
   have hw313_1 := hx313_1
   have hw313_0 := hx313_0
   cases e313
   replace hx313_0 := (HB.out.cell (World.block_lt_of_cell? w _ hx313_0)).trans hx313_0
   replace hx313_1 := (HB.out.cell (World.block_lt_of_cell? w _ hx313_1)).trans hx313_1
   replace hx313_2 := (HB.out.cell (World.block_lt_of_cell? w _ hx313_2)).trans hx313_2
   replace hx313_3 := (HB.out.cell (World.block_lt_of_cell? w _ hx313_3)).trans hx313_3
   replace p313 := eq_true p313
   replace q313 := eq_true q313
   have p314 : 0 ≤ (x5_1 : Int) := of_decide_eq_true (by first | (with_reducible assumption) | assumption)
   have q314 : x5_1 < (l1.length : Int) := of_decide_eq_true (by first | (with_reducible assumption) | assumption)
   obtain ⟨ad314, e314, hx314_0, hx314_1, hx314_2, hx314_3⟩ := at_T46 HR1.out x5_1 p314 q314
   have hw314_3 := hx314_3
   have hw314_2 := hx314_2
   have hw314_1 := hx314_1
   have hw314_0 := hx314_0
   cases e314
   replace hx314_0 := (HB.out.cell (World.block_lt_of_cell? w _ hx314_0)).trans hx314_0
   replace hx314_1 := (HB.out.cell (World.block_lt_of_cell? w _ hx314_1)).trans hx314_1
   replace hx314_2 := (HB.out.cell (World.block_lt_of_cell? w _ hx314_2)).trans hx314_2
   replace hx314_3 := (HB.out.cell (World.block_lt_of_cell? w _ hx314_3)).trans hx314_3
   replace p314 := eq_true p314
   replace q314 := eq_true q314
   refine start_ (n := 10) (S := fun w' => w'.cell? (ad313.add ((x5_1).toNat * 4)) = some (.int .i64 ((rd_T46 l0 x5_1).f0)) ∧ w'.cell? ⟨(ad313.add ((x5_1).toNat * 4)).block, (ad313.add ((x5_1).toNat * 4)).off + 1, none⟩ = some (.int .i64 ((rd_T46 l0 x5_1).f1)) ∧ w'.cell? ⟨(ad313.add ((x5_1).toNat * 4)).block, (ad313.add ((x5_1).toNat * 4)).off + 2, none⟩ = some (.int .i64 ((rd_T46 l0 x5_1).f2)) ∧ w'.cell? ⟨(ad313.add ((x5_1).toNat * 4)).block, (ad313.add ((x5_1).toNat * 4)).off + 3, none⟩ = some (.int .i64 ((rd_T46 l0 x5_1).f3)) ∧ w'.cell? (ad314.add ((x5_1).toNat * 4)) = some (.int .i64 ((rd_T46 l1 x5_1).f0)) ∧ w'.cell? ⟨(ad314.add ((x5_1).toNat * 4)).block, (ad314.add ((x5_1).toNat * 4)).off + 1, none⟩ = some (.int .i64 ((rd_T46 l1 x5_1).f1)) ∧ w'.cell? ⟨(ad314.add ((x5_1).toNat * 4)).block, (ad314.add ((x5_1).toNat * 4)).off + 2, none⟩ = some (.int .i64 ((rd_T46 l1 x5_1).f2)) ∧ w'.cell? ⟨(ad314.add ((x5_1).toNat * 4)).block, (ad314.add ((x5_1).toNat * 4)).off + 3, none⟩ = some (.int .i64 ((rd_T46 l1 x5_1).f3))) (ds := []) q12_0 (by kernel_rfl) rfl rfl ⟨(bcl_ HB.out hw313_0 :), (bcl_ HB.out hw313_1 :), (bcl_ HB.out hw313_2 :), (bcl_ HB.out hw313_3 :), (bcl_ HB.out hw314_0 :), (bcl_ HB.out hw314_1 :), (bcl_ HB.out hw314_2 :), (bcl_ HB.out hw314_3 :)⟩ (fun hHeld => ?_); refine with_tabW laws_eqJobS.tab6 laws_eqJobS.bits6 (fun HT_ HW_ => ?_)
   generalize wr.drew = w9 at HB hx313_0 hx313_1 hx313_2 hx313_3 hx314_0 hx314_1 hx314_2 hx314_3 hHeld ⊢
   refine pw_ HT_ 0 (some 17) ?_
   refine pw_ HT_ 1 (some 18) ?_
   refine pw_ HT_ 2 (some 19) ?_
   refine pw_ HT_ 4 (some 21) ?_
   refine pw_ HT_ 5 (some 22) ?_
   refine pw_ HT_ 6 (some 23) ?_
   refine take_ (i := 3) (N := some 20) (v := ?_) (a' := ?_) q12_7 rfl rfl (take_ofW HT_.out HW_.out (by kernel_rfl)) (fun _ _ _ h => h) (Or.inl ⟨by rfl, ?_⟩) hHeld ?_ ?_
   rotate_left
   ·rintro w' ⟨s0, s1, s2, s3, s4, s5, s6, s7⟩
    go_simp
    with_reducible rfl
   rotate_left
   ·simp only [aq_]
    rfl
   refine take_ (i := 7) (N := some 24) (v := ?_) (a' := ?_) q12_8 rfl rfl (take_ofW HT_.out HW_.out (by kernel_rfl)) (fun _ _ _ h => h) (Or.inl ⟨by rfl, ?_⟩) hHeld ?_ ?_
   rotate_left
   ·rintro w' ⟨s0, s1, s2, s3, s4, s5, s6, s7⟩
    go_simp
    with_reducible rfl
   rotate_left
   ·simp only [aq_]
    rfl
   refine one_ (i := 8) (N := some 25) q12_9 rfl rfl (one_of HT_.out (by kernel_rfl)) (by decide) (fun K hK => ?_)
   refine goes_ Try.func26 (by kernel_rfl) rfl #[.agg #[.int .i64 ((rd_T46 l0 x5_1).f0), .int .i64 ((rd_T46 l0 x5_1).f1), .int .i64 ((rd_T46 l0 x5_1).f2), .int .i64 ((rd_T46 l0 x5_1).f3)], .agg #[.int .i64 ((rd_T46 l1 x5_1).f0), .int .i64 ((rd_T46 l1 x5_1).f1), .int .i64 ((rd_T46 l1 x5_1).f2), .int .i64 ((rd_T46 l1 x5_1).f3)]] (by rfl) rfl rfl (by (try simp only [mA_]); first | done | rfl | (simp only [List.length_drop, List.length_take]; rfl)) ?_
   with_reducible refine (laws_eqJob.calls ((rd_T46 l0 x5_1).f0) ((rd_T46 l0 x5_1).f1) ((rd_T46 l0 x5_1).f2) ((rd_T46 l0 x5_1).f3) ((rd_T46 l1 x5_1).f0) ((rd_T46 l1 x5_1).f1) ((rd_T46 l1 x5_1).f2) ((rd_T46 l1 x5_1).f3) true _ A7.out).mono ?_
   rintro e w10 ⟨rfl, hb⟩
   refine ⟨_, rfl, ?_⟩
   have n0_ := Aside0.mk (below_step (bw HB.out) hb)
   replace HB := n0_
   clear n0_
   (try clear hb)
   (try clear hb2)
   (try clear hk)
   (try clear hi)
   refine hK.out _ _ ⟨(bcl_ HB.out hw313_0 :), (bcl_ HB.out hw313_1 :), (bcl_ HB.out hw313_2 :), (bcl_ HB.out hw313_3 :), (bcl_ HB.out hw314_0 :), (bcl_ HB.out hw314_1 :), (bcl_ HB.out hw314_2 :), (bcl_ HB.out hw314_3 :)⟩ (fun hHeld => ?_)
   clear hK K
   refine norm_ (a' := ?_) ?_ ?_
   rotate_left
   ·show Act.put _ (some 25) _ = _
    simp only [aq_]
    rfl
   refine pw_ HT_ 9 (some 26) ?_
   refine done_ (done_of HT_.out (by kernel_rfl)) ?_
   try go_wp2
   go_roundg k1
   case measure => have := HK1.out; omega
   case rel => exact ⟨(wrap64 (x5_1 + 1)), (by first | rfl | (simp; done) | (simp [*]; done)), H', ⟨by have := HK1.out; omega⟩, ⟨bw HB.out⟩⟩

/-! ### laws_eqIntA2: function 17 -/
def laws_eqIntA2.f (a0_0 : Int) (a0_1 : Int) (a1_0 : Int) (a1_1 : Int) : Option (Bool) := if a0_0 = a1_0 then (if a0_1 = a1_1 then (some true) else (some false)) else (some false)
set_option maxHeartbeats 8000000 in
set_option maxRecDepth 100000 in
theorem laws_eqIntA2.calls (a0_0 : Int) (a0_1 : Int) (a1_0 : Int) (a1_1 : Int) (r : Bool) (w : World) (h : laws_eqIntA2.f a0_0 a0_1 a1_0 a1_1 = some r) :
  Calls Try.prog 17 #[.agg #[.int .i64 a0_0, .int .i64 a0_1], .agg #[.int .i64 a1_0, .int .i64 a1_1]] w fun e w' => e = .returned (.bool r) ∧ Below w.heap.size w w' := by
 have hu := Try.underlying37
 unfold laws_eqIntA2.f at h
 by_cases h1 : a0_0 = a1_0
 rotate_left
 ·rw [if_neg h1] at h
  obtain rfl := Option.some.inj h
  have b1 : (a0_0 == a1_0) = false := beq_eq_false_iff_ne.mpr h1
  have b2 : (a0_0 != a1_0) = true := bne_iff_ne.mpr h1
  clear h
  go_enter Try.func17, Try.ntmps17
  go_wp2
  refine wp_loop_rounds 3 ?_
  rw [rounds_succ]
  go_wp2
  go_quiet (fail)
  go_wp2
  go_ret
  exact ⟨rfl, by repeat (first | (with_reducible first | exact Below.refl _ _ | apply below_alloc | apply pw_below_drewN | apply below_drew1))⟩
 subst h1
 rw [if_pos rfl] at h
 by_cases h2 : a0_1 = a1_1
 ·subst h2
  rw [if_pos rfl] at h
  obtain rfl := Option.some.inj h
  clear h
  go_enter Try.func17, Try.ntmps17
  go_wp2
  refine wp_loop_rounds 3 ?_
  rw [rounds_succ]
  go_wp2
  go_quiet (fail)
  go_wp2
  rw [rounds_succ]
  go_wp2
  go_quiet (fail)
  go_wp2
  rw [rounds_succ]
  go_wp2
  go_ret
  exact ⟨rfl, by repeat (first | (with_reducible first | exact Below.refl _ _ | apply below_alloc | apply pw_below_drewN | apply below_drew1))⟩
 rw [if_neg h2] at h
 obtain rfl := Option.some.inj h
 have b1 : (a0_1 == a1_1) = false := beq_eq_false_iff_ne.mpr h2
 have b2 : (a0_1 != a1_1) = true := bne_iff_ne.mpr h2
 clear h
 go_enter Try.func17, Try.ntmps17
 go_wp2
 refine wp_loop_rounds 3 ?_
 rw [rounds_succ]
 go_wp2
 go_quiet (fail)
 go_wp2
 rw [rounds_succ]
 go_wp2
 go_quiet (fail)
 go_wp2
 go_ret
 exact ⟨rfl, by repeat (first | (with_reducible first | exact Below.refl _ _ | apply below_alloc | apply pw_below_drewN | apply below_drew1))⟩

/-! ### laws_eqIntA2S: function 13 -/
abbrev q13_0 : Array Bool := ⟨rl_ [10] false⟩
abbrev q13_7 : Array Bool := ⟨rl_ [7, 3] true⟩
abbrev q13_8 : Array Bool := ⟨rl_ [8, 2] true⟩
abbrev q13_9 : Array Bool := ⟨rl_ [9, 1] true⟩
def laws_eqIntA2S.l0 : Nat → List (S37) → List (S37) → Int → Option (Bool)
 | 0, _, _, _ => none
 | k + 1, x0, x1, x5 => if x5 < (x0.length : Int) then (if 0 ≤ x5 then (if x5 < (x1.length : Int) then ((laws_eqIntA2.f ((rd_T37 x0 x5).f0) ((rd_T37 x0 x5).f1) ((rd_T37 x1 x5).f0) ((rd_T37 x1 x5).f1)).bind fun t318 => (if t318 = true then (laws_eqIntA2S.l0 k x0 x1 (wrap64 (x5 + 1))) else (some false))) else (none)) else (none)) else (some true)
def laws_eqIntA2S.f (k : Nat) (l0 : List (S37)) (l1 : List (S37)) : Option (Bool) := if (l0.length : Int) = (l1.length : Int) then (laws_eqIntA2S.l0 k l0 l1 0) else (some false)
theorem laws_eqIntA2S.mono_l : ∀ k, (∀ y0 y1 y2, LeO (laws_eqIntA2S.l0 k y0 y1 y2) (laws_eqIntA2S.l0 (k + 1) y0 y1 y2))
 | 0 => fun _ _ _ r h => by simp [laws_eqIntA2S.l0] at h
 | k + 1 => by
  have ih0 := laws_eqIntA2S.mono_l k
  ·intro y0 y1 y2
   unfold laws_eqIntA2S.l0
   repeat' first
   | (with_reducible exact ih0 _ _ _)
   | (with_reducible exact LeO.refl _)
   | (with_reducible exact LeO.none _)
   | (with_reducible refine LeO.ite ?_ ?_)
   | (with_reducible refine LeO.bind ?_ (fun _ => ?_))
   | exact ih0 _ _ _
   | exact LeO.none _
   | refine LeO.ite ?_ ?_
   | refine LeO.bind ?_ (fun _ => ?_)
theorem laws_eqIntA2S.mono : ∀ a0 a1 k, LeO (laws_eqIntA2S.f k a0 a1) (laws_eqIntA2S.f (k + 1) a0 a1) := by
 intro a0 a1 k
 have ih0 := laws_eqIntA2S.mono_l k
 unfold laws_eqIntA2S.f
 repeat' first
   | (with_reducible exact ih0 _ _ _)
   | (with_reducible exact LeO.refl _)
   | (with_reducible exact LeO.none _)
   | (with_reducible refine LeO.ite ?_ ?_)
   | (with_reducible refine LeO.bind ?_ (fun _ => ?_))
   | exact ih0 _ _ _
   | exact LeO.none _
   | refine LeO.ite ?_ ?_
   | refine LeO.bind ?_ (fun _ => ?_)
def laws_eqIntA2S.T6 : Bool × List (List Nat × List Nat) := (true, [([], []), ([], []), ([0, 1], [0, 1]), ([2], [2]), ([], []), ([], []), ([4, 5], [4, 5]), ([6], [6]), ([3, 7], [3, 7]), ([8], [8])])
def laws_eqIntA2S.B6 : List Nat := [0, 0, 3, 7, 0, 0, 48, 112, 255, 511]
theorem laws_eqIntA2S.tab6 : rtab .any (opsOf Try.f13 6) = laws_eqIntA2S.T6 := by kernel_rfl
theorem laws_eqIntA2S.bits6 : waitsOk laws_eqIntA2S.T6.2 laws_eqIntA2S.B6 = true := by kernel_rfl
set_option maxHeartbeats 8000000 in
set_option maxRecDepth 100000 in
theorem laws_eqIntA2S.calls (k : Nat) (A0 : Option Addr) (c0 : Nat) (l0 : List (S37)) (A1 : Option Addr) (c1 : Nat) (l1 : List (S37)) (r : Bool) (w : World) (hr0 : Kd.C k37 w A0 l0.length l0) (hc0 : l0.length ≤ c0) (hr1 : Kd.C k37 w A1 l1.length l1) (hc1 : l1.length ≤ c1) (h : laws_eqIntA2S.f k l0 l1 = some r) :
  Calls Try.prog 13 #[.slice A0 l0.length c0, .slice A1 l1.length c1] w fun e w' => e = .returned (.bool r) ∧ Below w.heap.size w w' := by
 have hu37 := Try.underlying37
 have HR0 := Aside0.mk hr0
 have HC0 := Aside0.mk hc0
 clear hr0 hc0
 have HR1 := Aside0.mk hr1
 have HC1 := Aside0.mk hc1
 clear hr1 hc1
 have HB := Aside0.mk (Below.refl w.heap.size w)
 have H : (if (l0.length : Int) = (l1.length : Int) then (laws_eqIntA2S.l0 k l0 l1 0) else (some false)) = some r := h
 clear h
 by_cases c3 : (l0.length : Int) = (l1.length : Int)
 rotate_left
 ·rw [if_neg c3] at H
  have c3b0 : ((l0.length : Int) == (l1.length : Int)) = false := beq_eq_false_iff_ne.mpr c3
  have c3b1 : ((l0.length : Int) != (l1.length : Int)) = true := bne_iff_ne.mpr c3
  have c3b2 : (l0.length == l1.length) = false := by first | simpa using c3 | (simp at c3 ⊢; omega)
  obtain rfl := Option.some.inj H
  go_enter Try.func13, Try.ntmps13
  go_wp2
  go_ret
  exact ⟨by first | rfl | (simp [errW_none, errW_some] <;> rfl) | (simp [*, errW_none, errW_some] <;> rfl), bw HB.out⟩
 rw [if_pos c3] at H
 have c3b0 : ((l0.length : Int) == (l1.length : Int)) = true := beq_iff_eq.mpr c3
 have c3b1 : ((l0.length : Int) != (l1.length : Int)) = false := bne_eq_false_iff_eq.mpr c3
 have c3b2 : (l0.length == l1.length) = true := by first | simpa using c3 | (simp at c3 ⊢; omega)
 clear c3
 have H' := Aside0.mk H
 clear H
 go_enter Try.func13, Try.ntmps13
 go_wp2
 go_loopg [5] k (fun kq v5 w' => ∃ (x5_1 : Int), v5 = .int .i64 x5_1 ∧ Aside0 (laws_eqIntA2S.l0 kq l0 l1 x5_1 = some r) ∧ Aside0 (kq ≤ k) ∧ Aside0 (Below w.heap.size w w'))
 case atStart => exact ⟨(0), (by first | rfl | (simp; done) | (simp [*]; done)), H', ⟨Nat.le_refl _⟩, ⟨bw HB.out⟩⟩
 case round =>
  clear H'
  try clear c1
  try clear p2
  try clear c3
  try clear c3b0
  try clear c3b1
  try clear c3b2
  obtain ⟨x5_1, rfl, HA, HK1, HB⟩ := hrel
  cases gk with
  | zero => exact absurd HA.out (by simp [laws_eqIntA2S.l0])
  | succ k1 =>
   have H := HA.out
   clear HA
   simp only [laws_eqIntA2S.l0] at H
   by_cases c4 : x5_1 < (l0.length : Int)
   rotate_left
   ·rw [if_neg c4] at H
    have c4b0 : decide (x5_1 < (l0.length : Int)) = false := decide_eq_false c4
    clear c4
    obtain rfl := Option.some.inj H
    go_wp2
    go_ret
    exact ⟨by first | rfl | (simp [errW_none, errW_some] <;> rfl) | (simp [*, errW_none, errW_some] <;> rfl), bw HB.out⟩
   rw [if_pos c4] at H
   have c4b0 : decide (x5_1 < (l0.length : Int)) = true := decide_eq_true c4
   clear c4
   by_cases c5 : 0 ≤ x5_1
   rotate_left
   ·rw [if_neg c5] at H
    exact absurd H (by simp)
   rw [if_pos c5] at H
   have c5b0 : decide (0 ≤ x5_1) = true := decide_eq_true c5
   clear c5
   by_cases c6 : x5_1 < (l1.length : Int)
   rotate_left
   ·rw [if_neg c6] at H
    exact absurd H (by simp)
   rw [if_pos c6] at H
   have c6b0 : decide (x5_1 < (l1.length : Int)) = true := decide_eq_true c6
   clear c6
   replace H := Option.bind_eq_some_iff.mp H
   obtain ⟨t318, A70, H⟩ := H
   replace H : (if t318 = true then (laws_eqIntA2S.l0 k1 l0 l1 (wrap64 (x5_1 + 1))) else (some false)) = some r := H
   have A7 := Aside0.mk A70
   clear A70
   by_cases c8 : t318 = true
   rotate_left
   ·replace c8 := Bool.eq_false_iff.mpr c8
    subst c8
    have H1 : (some false) = some r := by rw [if_neg (show ¬ (false = true) by decide)] at H; exact H
    clear H
    have H := H1
    clear H1
    obtain rfl := Option.some.inj H
    try go_wp2
    have n0_ := Aside0.mk (below_drew1 HB.out)
    replace HB := n0_
    clear n0_
    have p316 : 0 ≤ (x5_1 : Int) := of_decide_eq_true (by first | (with_reducible assumption) | assumption)
    have q316 : x5_1 < (l0.length : Int) := of_decide_eq_true (by first | (with_reducible assumption) | assumption)
    obtain ⟨ad316, e316, hx316_0, hx316_1⟩ := at_T37 HR0.out x5_1 p316 q316
    have hw316_1 := hx316_1
    have hw316_0 := hx316_0
    cases e316
    replace hx316_0 := (HB.out.cell (World.block_lt_of_cell? w _ hx316_0)).trans hx316_0
    replace hx316_1 := (HB.out.cell (World.block_lt_of_cell? w _ hx316_1)).trans hx316_1
    replace p316 := eq_true p316
    replace q316 := eq_true q316
    have p317 : 0 ≤ (x5_1 : Int) := of_decide_eq_true (by first | (with_reducible assumption) | assumption)
    have q317 : x5_1 < (l1.length : Int) := of_decide_eq_true (by first | (with_reducible assumption) | assumption)
    obtain ⟨ad317, e317, hx317_0, hx317_1⟩ := at_T37 HR1.out x5_1 p317 q317
    have hw317_1 := hx317_1
    have hw317_0 := hx317_0
    cases e317
    replace hx317_0 := (HB.out.cell (World.block_lt_of_cell? w _ hx317_0)).trans hx317_0
    replace hx317_1 := (HB.out.cell (World.block_lt_of_cell? w _ hx317_1)).trans hx317_1
    replace p317 := eq_true p317
    replace q317 := eq_true q317
    refine start_ (n := 10) (S := fun w' => w'.cell? (ad316.add ((x5_1).toNat * 2)) = some (.int .i64 ((rd_T37 l0 x5_1).f0)) ∧ w'.cell? ⟨(ad316.add ((x5_1).toNat * 2)).block, (ad316.add ((x5_1).toNat * 2)).off + 1, none⟩ = some (.int .i64 ((rd_T37 l0 x5_1).f1)) ∧ w'.cell? (ad317.add ((x5_1).toNat * 2)) = some (.int .i64 ((rd_T37 l1 x5_1).f0)) ∧ w'.cell? ⟨(ad317.add ((x5_1).toNat * 2)).block, (ad317.add ((x5_1).toNat * 2)).off + 1, none⟩ = some (.int .i64 ((rd_T37 l1 x5_1).f1))) (ds := []) q13_0 (by kernel_rfl) rfl rfl ⟨(bcl_ HB.out hw316_0 :), (bcl_ HB.out hw316_1 :), (bcl_ HB.out hw317_0 :), (bcl_ HB.out hw317_1 :)⟩ (fun hHeld => ?_); refine with_tabW laws_eqIntA2S.tab6 laws_eqIntA2S.bits6 (fun HT_ HW_ => ?_)
    generalize wr.drew = w11 at HB hx316_0 hx316_1 hx317_0 hx317_1 hHeld ⊢
    refine pw_ HT_ 0 (some 17) ?_
    refine pw_ HT_ 1 (some 18) ?_
    refine pw_ HT_ 2 (some 19) ?_
    refine pw_ HT_ 4 (some 21) ?_
    refine pw_ HT_ 5 (some 22) ?_
    refine pw_ HT_ 6 (some 23) ?_
    refine take_ (i := 3) (N := some 20) (v := ?_) (a' := ?_) q13_7 rfl rfl (take_ofW HT_.out HW_.out (by kernel_rfl)) (fun _ _ _ h => h) (Or.inl ⟨by rfl, ?_⟩) hHeld ?_ ?_
    rotate_left
    ·rintro w' ⟨s0, s1, s2, s3⟩
     go_simp
     with_reducible rfl
    rotate_left
    ·simp only [aq_]
     rfl
    refine take_ (i := 7) (N := some 24) (v := ?_) (a' := ?_) q13_8 rfl rfl (take_ofW HT_.out HW_.out (by kernel_rfl)) (fun _ _ _ h => h) (Or.inl ⟨by rfl, ?_⟩) hHeld ?_ ?_
    rotate_left
    ·rintro w' ⟨s0, s1, s2, s3⟩
     go_simp
     with_reducible rfl
    rotate_left
    ·simp only [aq_]
     rfl
    refine one_ (i := 8) (N := some 25) q13_9 rfl rfl (one_of HT_.out (by kernel_rfl)) (by decide) (fun K hK => ?_)
    refine goes_ Try.func17 (by kernel_rfl) rfl #[.agg #[.int .i64 ((rd_T37 l0 x5_1).f0), .int .i64 ((rd_T37 l0 x5_1).f1)], .agg #[.int .i64 ((rd_T37 l1 x5_1).f0), .int .i64 ((rd_T37 l1 x5_1).f1)]] (by rfl) rfl rfl (by (try simp only [mA_]); first | done | rfl | (simp only [List.length_drop, List.length_take]; rfl)) ?_
    with_reducible refine (laws_eqIntA2.calls ((rd_T37 l0 x5_1).f0) ((rd_T37 l0 x5_1).f1) ((rd_T37 l1 x5_1).f0) ((rd_T37 l1 x5_1).f1) false _ A7.out).mono ?_
    rintro e w12 ⟨rfl, hb⟩
    refine ⟨_, rfl, ?_⟩
    have n0_ := Aside0.mk (below_step (bw HB.out) hb)
    replace HB := n0_
    clear n0_
    (try clear hb)
    (try clear hb2)
    (try clear hk)
    (try clear hi)
    refine hK.out _ _ ⟨(bcl_ HB.out hw316_0 :), (bcl_ HB.out hw316_1 :), (bcl_ HB.out hw317_0 :), (bcl_ HB.out hw317_1 :)⟩ (fun hHeld => ?_)
    clear hK K
    refine norm_ (a' := ?_) ?_ ?_
    rotate_left
    ·show Act.put _ (some 25) _ = _
     simp only [aq_]
     rfl
    refine pw_ HT_ 9 (some 26) ?_
    refine done_ (done_of HT_.out (by kernel_rfl)) ?_
    try go_wp2
    go_ret
    exact ⟨by first | rfl | (simp [errW_none, errW_some] <;> rfl) | (simp [*, errW_none, errW_some] <;> rfl), bw HB.out⟩
   subst c8
   have H1 : (laws_eqIntA2S.l0 k1 l0 l1 (wrap64 (x5_1 + 1))) = some r := by rw [if_pos rfl] at H; exact H
   clear H
   have H := H1
   clear H1
   have H' := Aside0.mk H
   clear H
   try go_wp2
   have n0_ := Aside0.mk (below_drew1 HB.out)
   replace HB := n0_
   clear n0_
   have p316 : 0 ≤ (x5_1 : Int) := of_decide_eq_true (by first | (with_reducible assumption) | assumption)
   have q316 : x5_1 < (l0.length : Int) := of_decide_eq_true (by first | (with_reducible assumption) | assumption)
   obtain ⟨ad316, e316, hx316_0, hx316_1⟩ := at_T37 HR0.out x5_1 p316 q316
   have hw316_1 := hx316_1
   have hw316_0 := hx316_0
   cases e316
   replace hx316_0 := (HB.out.cell (World.block_lt_of_cell? w _ hx316_0)).trans hx316_0
   replace hx316_1 := (HB.out.cell (World.block_lt_of_cell? w _ hx316_1)).trans hx316_1
   replace p316 := eq_true p316
   replace q316 := eq_true q316
   have p317 : 0 ≤ (x5_1 : Int) := of_decide_eq_true (by first | (with_reducible assumption) | assumption)
   have q317 : x5_1 < (l1.length : Int) := of_decide_eq_true (by first | (with_reducible assumption) | assumption)
   obtain ⟨ad317, e317, hx317_0, hx317_1⟩ := at_T37 HR1.out x5_1 p317 q317
   have hw317_1 := hx317_1
   have hw317_0 := hx317_0
   cases e317
   replace hx317_0 := (HB.out.cell (World.block_lt_of_cell? w _ hx317_0)).trans hx317_0
   replace hx317_1 := (HB.out.cell (World.block_lt_of_cell? w _ hx317_1)).trans hx317_1
   replace p317 := eq_true p317
   replace q317 := eq_true q317
   refine start_ (n := 10) (S := fun w' => w'.cell? (ad316.add ((x5_1).toNat * 2)) = some (.int .i64 ((rd_T37 l0 x5_1).f0)) ∧ w'.cell? ⟨(ad316.add ((x5_1).toNat * 2)).block, (ad316.add ((x5_1).toNat * 2)).off + 1, none⟩ = some (.int .i64 ((rd_T37 l0 x5_1).f1)) ∧ w'.cell? (ad317.add ((x5_1).toNat * 2)) = some (.int .i64 ((rd_T37 l1 x5_1).f0)) ∧ w'.cell? ⟨(ad317.add ((x5_1).toNat * 2)).block, (ad317.add ((x5_1).toNat * 2)).off + 1, none⟩ = some (.int .i64 ((rd_T37 l1 x5_1).f1))) (ds := []) q13_0 (by kernel_rfl) rfl rfl ⟨(bcl_ HB.out hw316_0 :), (bcl_ HB.out hw316_1 :), (bcl_ HB.out hw317_0 :), (bcl_ HB.out hw317_1 :)⟩ (fun hHeld => ?_); refine with_tabW laws_eqIntA2S.tab6 laws_eqIntA2S.bits6 (fun HT_ HW_ => ?_)
   generalize wr.drew = w9 at HB hx316_0 hx316_1 hx317_0 hx317_1 hHeld ⊢
   refine pw_ HT_ 0 (some 17) ?_
   refine pw_ HT_ 1 (some 18) ?_
   refine pw_ HT_ 2 (some 19) ?_
   refine pw_ HT_ 4 (some 21) ?_
   refine pw_ HT_ 5 (some 22) ?_
   refine pw_ HT_ 6 (some 23) ?_
   refine take_ (i := 3) (N := some 20) (v := ?_) (a' := ?_) q13_7 rfl rfl (take_ofW HT_.out HW_.out (by kernel_rfl)) (fun _ _ _ h => h) (Or.inl ⟨by rfl, ?_⟩) hHeld ?_ ?_
   rotate_left
   ·rintro w' ⟨s0, s1, s2, s3⟩
    go_simp
    with_reducible rfl
   rotate_left
   ·simp only [aq_]
    rfl
   refine take_ (i := 7) (N := some 24) (v := ?_) (a' := ?_) q13_8 rfl rfl (take_ofW HT_.out HW_.out (by kernel_rfl)) (fun _ _ _ h => h) (Or.inl ⟨by rfl, ?_⟩) hHeld ?_ ?_
   rotate_left
   ·rintro w' ⟨s0, s1, s2, s3⟩
    go_simp
    with_reducible rfl
   rotate_left
   ·simp only [aq_]
    rfl
   refine one_ (i := 8) (N := some 25) q13_9 rfl rfl (one_of HT_.out (by kernel_rfl)) (by decide) (fun K hK => ?_)
   refine goes_ Try.func17 (by kernel_rfl) rfl #[.agg #[.int .i64 ((rd_T37 l0 x5_1).f0), .int .i64 ((rd_T37 l0 x5_1).f1)], .agg #[.int .i64 ((rd_T37 l1 x5_1).f0), .int .i64 ((rd_T37 l1 x5_1).f1)]] (by rfl) rfl rfl (by (try simp only [mA_]); first | done | rfl | (simp only [List.length_drop, List.length_take]; rfl)) ?_
   with_reducible refine (laws_eqIntA2.calls ((rd_T37 l0 x5_1).f0) ((rd_T37 l0 x5_1).f1) ((rd_T37 l1 x5_1).f0) ((rd_T37 l1 x5_1).f1) true _ A7.out).mono ?_
   rintro e w10 ⟨rfl, hb⟩
   refine ⟨_, rfl, ?_⟩
   have n0_ := Aside0.mk (below_step (bw HB.out) hb)
   replace HB := n0_
   clear n0_
   (try clear hb)
   (try clear hb2)
   (try clear hk)
   (try clear hi)
   refine hK.out _ _ ⟨(bcl_ HB.out hw316_0 :), (bcl_ HB.out hw316_1 :), (bcl_ HB.out hw317_0 :), (bcl_ HB.out hw317_1 :)⟩ (fun hHeld => ?_)
   clear hK K
   refine norm_ (a' := ?_) ?_ ?_
   rotate_left
   ·show Act.put _ (some 25) _ = _
    simp only [aq_]
    rfl
   refine pw_ HT_ 9 (some 26) ?_
   refine done_ (done_of HT_.out (by kernel_rfl)) ?_
   try go_wp2
   go_roundg k1
   case measure => have := HK1.out; omega
   case rel => exact ⟨(wrap64 (x5_1 + 1)), (by first | rfl | (simp; done) | (simp [*]; done)), H', ⟨by have := HK1.out; omega⟩, ⟨bw HB.out⟩⟩

/-! ### laws_eqIntS: function 14 -/
def laws_eqIntS.l0 : Nat → List Int → List Int → Int → Option (Bool)
 | 0, _, _, _ => none
 | k + 1, x0, x1, x5 => if x5 < (x0.length : Int) then (if 0 ≤ x5 then (if x5 < (x1.length : Int) then (if (rd x0 x5) = (rd x1 x5) then (laws_eqIntS.l0 k x0 x1 (wrap64 (x5 + 1))) else (some false)) else (none)) else (none)) else (some true)
def laws_eqIntS.f (k : Nat) (l0 : List Int) (l1 : List Int) : Option (Bool) := if (l0.length : Int) = (l1.length : Int) then (laws_eqIntS.l0 k l0 l1 0) else (some false)
theorem laws_eqIntS.mono_l : ∀ k, (∀ y0 y1 y2, LeO (laws_eqIntS.l0 k y0 y1 y2) (laws_eqIntS.l0 (k + 1) y0 y1 y2))
 | 0 => fun _ _ _ r h => by simp [laws_eqIntS.l0] at h
 | k + 1 => by
  have ih0 := laws_eqIntS.mono_l k
  ·intro y0 y1 y2
   unfold laws_eqIntS.l0
   repeat' first
   | (with_reducible exact ih0 _ _ _)
   | (with_reducible exact LeO.refl _)
   | (with_reducible exact LeO.none _)
   | (with_reducible refine LeO.ite ?_ ?_)
   | (with_reducible refine LeO.bind ?_ (fun _ => ?_))
   | exact ih0 _ _ _
   | exact LeO.none _
   | refine LeO.ite ?_ ?_
   | refine LeO.bind ?_ (fun _ => ?_)
theorem laws_eqIntS.mono : ∀ a0 a1 k, LeO (laws_eqIntS.f k a0 a1) (laws_eqIntS.f (k + 1) a0 a1) := by
 intro a0 a1 k
 have ih0 := laws_eqIntS.mono_l k
 unfold laws_eqIntS.f
 repeat' first
   | (with_reducible exact ih0 _ _ _)
   | (with_reducible exact LeO.refl _)
   | (with_reducible exact LeO.none _)
   | (with_reducible refine LeO.ite ?_ ?_)
   | (with_reducible refine LeO.bind ?_ (fun _ => ?_))
   | exact ih0 _ _ _
   | exact LeO.none _
   | refine LeO.ite ?_ ?_
   | refine LeO.bind ?_ (fun _ => ?_)
set_option maxHeartbeats 8000000 in
set_option maxRecDepth 100000 in
theorem laws_eqIntS.calls (k : Nat) (A0 : Option Addr) (c0 : Nat) (l0 : List Int) (A1 : Option Addr) (c1 : Nat) (l1 : List Int) (r : Bool) (w : World) (hr0 : Kd.C (Kd.int .i64) w A0 l0.length l0) (hc0 : l0.length ≤ c0) (hr1 : Kd.C (Kd.int .i64) w A1 l1.length l1) (hc1 : l1.length ≤ c1) (h : laws_eqIntS.f k l0 l1 = some r) :
  Calls Try.prog 14 #[.slice A0 l0.length c0, .slice A1 l1.length c1] w fun e w' => e = .returned (.bool r) ∧ Drawn0 w w' := by
 have HR0 := Aside0.mk hr0
 have HC0 := Aside0.mk hc0
 clear hr0 hc0
 have HR1 := Aside0.mk hr1
 have HC1 := Aside0.mk hc1
 clear hr1 hc1
 have H : (if (l0.length : Int) = (l1.length : Int) then (laws_eqIntS.l0 k l0 l1 0) else (some false)) = some r := h
 clear h
 by_cases c3 : (l0.length : Int) = (l1.length : Int)
 rotate_left
 ·rw [if_neg c3] at H
  have c3b0 : ((l0.length : Int) == (l1.length : Int)) = false := beq_eq_false_iff_ne.mpr c3
  have c3b1 : ((l0.length : Int) != (l1.length : Int)) = true := bne_iff_ne.mpr c3
  have c3b2 : (l0.length == l1.length) = false := by first | simpa using c3 | (simp at c3 ⊢; omega)
  obtain rfl := Option.some.inj H
  go_enter Try.func14, Try.ntmps14
  go_wp2
  repeat (go_quiet (fail); try go_wp2)
  go_ret
  exact ⟨by first | rfl | (simp; done) | (simp [*]; done), by repeat (first | exact Drawn0.refl _ | apply Drawn0.step)⟩
 rw [if_pos c3] at H
 have c3b0 : ((l0.length : Int) == (l1.length : Int)) = true := beq_iff_eq.mpr c3
 have c3b1 : ((l0.length : Int) != (l1.length : Int)) = false := bne_eq_false_iff_eq.mpr c3
 have c3b2 : (l0.length == l1.length) = true := by first | simpa using c3 | (simp at c3 ⊢; omega)
 clear c3
 have H' := Aside0.mk H
 clear H
 go_enter Try.func14, Try.ntmps14
 go_wp2
 repeat (go_quiet (fail); try go_wp2)
 go_loopg [5] k (fun kq v5 w' => ∃ (x5_1 : Int), v5 = .int .i64 x5_1 ∧ Aside0 (laws_eqIntS.l0 kq l0 l1 x5_1 = some r) ∧ Aside0 (kq ≤ k) ∧ Drawn0 w w')
 case atStart => exact ⟨(0), (by first | rfl | (simp; done) | (simp [*]; done)), H', ⟨Nat.le_refl _⟩, by repeat (first | exact Drawn0.refl _ | apply Drawn0.step)⟩
 case round =>
  clear H'
  try clear c1
  try clear p2
  try clear c3
  try clear c3b0
  try clear c3b1
  try clear c3b2
  obtain ⟨x5_1, rfl, HA, HK1, ⟨m1, rfl⟩⟩ := hrel
  cases gk with
  | zero => exact absurd HA.out (by simp [laws_eqIntS.l0])
  | succ k1 =>
   have H := HA.out
   clear HA
   simp only [laws_eqIntS.l0] at H
   by_cases c4 : x5_1 < (l0.length : Int)
   rotate_left
   ·rw [if_neg c4] at H
    have c4b0 : decide (x5_1 < (l0.length : Int)) = false := decide_eq_false c4
    clear c4
    obtain rfl := Option.some.inj H
    go_wp2
    repeat (go_quiet (fail); try go_wp2)
    go_ret
    exact ⟨by first | rfl | (simp; done) | (simp [*]; done), by repeat (first | exact Drawn0.refl _ | apply Drawn0.step)⟩
   rw [if_pos c4] at H
   have c4b0 : decide (x5_1 < (l0.length : Int)) = true := decide_eq_true c4
   clear c4
   by_cases c5 : 0 ≤ x5_1
   rotate_left
   ·rw [if_neg c5] at H
    exact absurd H (by simp)
   rw [if_pos c5] at H
   have c5b0 : decide (0 ≤ x5_1) = true := decide_eq_true c5
   clear c5
   by_cases c6 : x5_1 < (l1.length : Int)
   rotate_left
   ·rw [if_neg c6] at H
    exact absurd H (by simp)
   rw [if_pos c6] at H
   have c6b0 : decide (x5_1 < (l1.length : Int)) = true := decide_eq_true c6
   clear c6
   by_cases c7 : (rd l0 x5_1) = (rd l1 x5_1)
   rotate_left
   ·rw [if_neg c7] at H
    have c7b0 : ((rd l0 x5_1) == (rd l1 x5_1)) = false := beq_eq_false_iff_ne.mpr c7
    have c7b1 : ((rd l0 x5_1) != (rd l1 x5_1)) = true := bne_iff_ne.mpr c7
    obtain rfl := Option.some.inj H
    have p319 : 0 ≤ (x5_1 : Int) := of_decide_eq_true (by first | (with_reducible assumption) | assumption)
    have q319 : x5_1 < (l0.length : Int) := of_decide_eq_true (by first | (with_reducible assumption) | assumption)
    obtain ⟨ad319, e319, hx319_0⟩ := Kd.at_int HR0.out x5_1 p319 q319
    cases e319
    replace p319 := eq_true p319
    replace q319 := eq_true q319
    have p320 : 0 ≤ (x5_1 : Int) := of_decide_eq_true (by first | (with_reducible assumption) | assumption)
    have q320 : x5_1 < (l1.length : Int) := of_decide_eq_true (by first | (with_reducible assumption) | assumption)
    obtain ⟨ad320, e320, hx320_0⟩ := Kd.at_int HR1.out x5_1 p320 q320
    cases e320
    replace p320 := eq_true p320
    replace q320 := eq_true q320
    go_wp2
    repeat (go_quiet (fail); try go_wp2)
    go_ret
    exact ⟨by first | rfl | (simp; done) | (simp [*]; done), by repeat (first | exact Drawn0.refl _ | apply Drawn0.step)⟩
   rw [if_pos c7] at H
   have c7b0 : ((rd l0 x5_1) == (rd l1 x5_1)) = true := beq_iff_eq.mpr c7
   have c7b1 : ((rd l0 x5_1) != (rd l1 x5_1)) = false := bne_eq_false_iff_eq.mpr c7
   clear c7
   have H' := Aside0.mk H
   clear H
   have p319 : 0 ≤ (x5_1 : Int) := of_decide_eq_true (by first | (with_reducible assumption) | assumption)
   have q319 : x5_1 < (l0.length : Int) := of_decide_eq_true (by first | (with_reducible assumption) | assumption)
   obtain ⟨ad319, e319, hx319_0⟩ := Kd.at_int HR0.out x5_1 p319 q319
   cases e319
   replace p319 := eq_true p319
   replace q319 := eq_true q319
   have p320 : 0 ≤ (x5_1 : Int) := of_decide_eq_true (by first | (with_reducible assumption) | assumption)
   have q320 : x5_1 < (l1.length : Int) := of_decide_eq_true (by first | (with_reducible assumption) | assumption)
   obtain ⟨ad320, e320, hx320_0⟩ := Kd.at_int HR1.out x5_1 p320 q320
   cases e320
   replace p320 := eq_true p320
   replace q320 := eq_true q320
   go_wp2
   repeat (go_quiet (fail); try go_wp2)
   go_roundg k1
   case measure => have := HK1.out; omega
   case rel => exact ⟨(wrap64 (x5_1 + 1)), (by first | rfl | (simp; done) | (simp [*]; done)), H', ⟨by have := HK1.out; omega⟩, by repeat (first | exact Drawn0.refl _ | apply Drawn0.step)⟩

end Go.Proofs.Yteifefecoaefnaa.X
