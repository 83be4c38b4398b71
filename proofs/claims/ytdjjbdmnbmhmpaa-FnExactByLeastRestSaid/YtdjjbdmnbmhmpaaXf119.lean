-- Written by a program of this session (wip/gen/xp.py, over the kit's printer). Not trusted: Lean checks it.
import Derived.Test.YtdjjbdmnbmhmpaaX0
import Derived.Test.YtdjjbdmnbmhmpaaXf113
namespace Go.Proofs.Ytdjjbdmnbmhmpaa.X
open Go.RowKit Go.Proofs.YtdjjbdmnbmhmpaaW.PrintWords Go.Proofs.YtdjjbdmnbmhmpaaW.PrintLast Go.Proofs.YtdjjbdmnbmhmpaaW.PrintMore
attribute [local go_sem] max2_int min2_int max_two min_two max_three min_three max_four min_four   -- for this text's walks alone
set_option linter.unusedVariables false
set_option linter.unusedSimpArgs false

/-! ### spec_l5Pick: function 159 -/
mutual
def spec_l5Pick.l0 : Nat → List (S101) → List Int → Int → Int → Int → Int → Option (Int)
 | 0, _, _, _, _, _, _ => none
 | k + 1, x0, x1, x2, x3, x9, x10 => if x10 < (x0.length : Int) then (if 0 ≤ x10 then (if x10 < (x1.length : Int) then (if (rd x1 x10) = 0 then (spec_l5Pick.j1 k x0 x1 x2 x3 x9 x10 true) else (spec_l5Pick.j1 k x0 x1 x2 x3 x9 x10 (decide (((rd_T101 x0 x10).f2) > x2)))) else (none)) else (none)) else (some x9)
def spec_l5Pick.j1 : Nat → List (S101) → List Int → Int → Int → Int → Int → Bool → Option (Int)
 | 0, _, _, _, _, _, _, _ => none
 | k + 1, x0, x1, x2, x3, x9, x10, x30 => if x30 = true then (spec_l5Pick.l0 k x0 x1 x2 x3 x9 (wrap64 (x10 + 1))) else (if x9 < 0 then (spec_l5Pick.l0 k x0 x1 x2 x3 x10 (wrap64 (x10 + 1))) else (if x3 = 2 then (if 0 ≤ x10 then (if x10 < (x1.length : Int) then (if 0 ≤ x9 then (if x9 < (x1.length : Int) then (if (rd x1 x10) < (rd x1 x9) then (spec_l5Pick.l0 k x0 x1 x2 x3 x10 (wrap64 (x10 + 1))) else (if x3 = 4 then (if x10 < (x0.length : Int) then (if x9 < (x0.length : Int) then (if ((rd_T101 x0 x10).f3) < ((rd_T101 x0 x9).f3) then (spec_l5Pick.l0 k x0 x1 x2 x3 x10 (wrap64 (x10 + 1))) else (spec_l5Pick.l0 k x0 x1 x2 x3 x9 (wrap64 (x10 + 1)))) else (none)) else (none)) else (spec_l5Pick.l0 k x0 x1 x2 x3 x9 (wrap64 (x10 + 1))))) else (none)) else (none)) else (none)) else (none)) else (if x3 = 4 then (if 0 ≤ x10 then (if x10 < (x0.length : Int) then (if 0 ≤ x9 then (if x9 < (x0.length : Int) then (if ((rd_T101 x0 x10).f3) < ((rd_T101 x0 x9).f3) then (spec_l5Pick.l0 k x0 x1 x2 x3 x10 (wrap64 (x10 + 1))) else (spec_l5Pick.l0 k x0 x1 x2 x3 x9 (wrap64 (x10 + 1)))) else (none)) else (none)) else (none)) else (none)) else (spec_l5Pick.l0 k x0 x1 x2 x3 x9 (wrap64 (x10 + 1))))))
end
def spec_l5Pick.f (k : Nat) (l0 : List (S101)) (l1 : List Int) (a2 : Int) (a3 : Int) : Option (Int) := spec_l5Pick.l0 k l0 l1 a2 a3 (-1) 0
theorem spec_l5Pick.mono_l : ∀ k, (∀ y0 y1 y2 y3 y4 y5, LeO (spec_l5Pick.l0 k y0 y1 y2 y3 y4 y5) (spec_l5Pick.l0 (k + 1) y0 y1 y2 y3 y4 y5)) ∧ (∀ y0 y1 y2 y3 y4 y5 y6, LeO (spec_l5Pick.j1 k y0 y1 y2 y3 y4 y5 y6) (spec_l5Pick.j1 (k + 1) y0 y1 y2 y3 y4 y5 y6))
 | 0 => ⟨fun _ _ _ _ _ _ r h => by simp [spec_l5Pick.l0] at h, fun _ _ _ _ _ _ _ r h => by simp [spec_l5Pick.j1] at h⟩
 | k + 1 => by
  obtain ⟨ih0, ih1⟩ := spec_l5Pick.mono_l k
  refine ⟨?_, ?_⟩
  ·intro y0 y1 y2 y3 y4 y5
   unfold spec_l5Pick.l0
   repeat' first
   | (with_reducible exact ih0 _ _ _ _ _ _)
   | (with_reducible exact ih1 _ _ _ _ _ _ _)
   | (with_reducible exact LeO.refl _)
   | (with_reducible exact LeO.none _)
   | (with_reducible refine LeO.ite ?_ ?_)
   | (with_reducible refine LeO.bind ?_ (fun _ => ?_))
   | exact ih0 _ _ _ _ _ _
   | exact ih1 _ _ _ _ _ _ _
   | exact LeO.none _
   | refine LeO.ite ?_ ?_
   | refine LeO.bind ?_ (fun _ => ?_)
  ·intro y0 y1 y2 y3 y4 y5 y6
   unfold spec_l5Pick.j1
   repeat' first
   | (with_reducible exact ih0 _ _ _ _ _ _)
   | (with_reducible exact ih1 _ _ _ _ _ _ _)
   | (with_reducible exact LeO.refl _)
   | (with_reducible exact LeO.none _)
   | (with_reducible refine LeO.ite ?_ ?_)
   | (with_reducible refine LeO.bind ?_ (fun _ => ?_))
   | exact ih0 _ _ _ _ _ _
   | exact ih1 _ _ _ _ _ _ _
   | exact LeO.none _
   | refine LeO.ite ?_ ?_
   | refine LeO.bind ?_ (fun _ => ?_)
theorem spec_l5Pick.mono : ∀ a0 a1 a2 a3 k, LeO (spec_l5Pick.f k a0 a1 a2 a3) (spec_l5Pick.f (k + 1) a0 a1 a2 a3) := by
 intro a0 a1 a2 a3 k
 obtain ⟨ih0, ih1⟩ := spec_l5Pick.mono_l k
 unfold spec_l5Pick.f
 repeat' first
   | (with_reducible exact ih0 _ _ _ _ _ _)
   | (with_reducible exact ih1 _ _ _ _ _ _ _)
   | (with_reducible exact LeO.refl _)
   | (with_reducible exact LeO.none _)
   | (with_reducible refine LeO.ite ?_ ?_)
   | (with_reducible refine LeO.bind ?_ (fun _ => ?_))
   | exact ih0 _ _ _ _ _ _
   | exact ih1 _ _ _ _ _ _ _
   | exact LeO.none _
   | refine LeO.ite ?_ ?_
   | refine LeO.bind ?_ (fun _ => ?_)
set_option maxHeartbeats 8000000 in
set_option maxRecDepth 100000 in
theorem spec_l5Pick.calls (k : Nat) (A0 : Option Addr) (c0 : Nat) (l0 : List (S101)) (A1 : Option Addr) (c1 : Nat) (l1 : List Int) (a2 : Int) (a3 : Int) (r : Int) (w : World) (hr0 : Kd.C k101 w A0 l0.length l0) (hc0 : l0.length ≤ c0) (hr1 : Kd.C (Kd.int .i64) w A1 l1.length l1) (hc1 : l1.length ≤ c1) (h : spec_l5Pick.f k l0 l1 a2 a3 = some r) :
  Calls Try.prog 159 #[.slice A0 l0.length c0, .slice A1 l1.length c1, .int .i64 a2, .int .i64 a3] w fun e w' => e = .returned (.int .i64 r) ∧ Drawn0 w w' := by
 have HR0 := Aside0.mk hr0
 have HC0 := Aside0.mk hc0
 clear hr0 hc0
 have HR1 := Aside0.mk hr1
 have HC1 := Aside0.mk hc1
 clear hr1 hc1
 have H : (spec_l5Pick.l0 k l0 l1 a2 a3 (-1) 0) = some r := h
 clear h
 have H' := Aside0.mk H
 clear H
 go_enter Try.func159, Try.ntmps159
 go_wp2
 repeat (go_quiet (fail); try go_wp2)
 go_loopg [9, 10] k (fun kq v9 v10 w' => ∃ (x9_1 : Int) (x10_1 : Int), v9 = .int .i64 x9_1 ∧ v10 = .int .i64 x10_1 ∧ Aside0 (spec_l5Pick.l0 kq l0 l1 a2 a3 x9_1 x10_1 = some r) ∧ Aside0 (kq ≤ k) ∧ Drawn0 w w')
 case atStart => exact ⟨((-1)), (0), (by first | rfl | (simp; done) | (simp [*]; done)), (by first | rfl | (simp; done) | (simp [*]; done)), H', ⟨Nat.le_refl _⟩, by repeat (first | exact Drawn0.refl _ | apply Drawn0.step)⟩
 case round =>
  clear H'
  try clear c1
  try clear p2
  obtain ⟨x9_1, x10_1, rfl, rfl, HA, HK1, ⟨m1, rfl⟩⟩ := hrel
  cases gk with
  | zero => exact absurd HA.out (by simp [spec_l5Pick.l0])
  | succ k1 =>
   have H := HA.out
   clear HA
   simp only [spec_l5Pick.l0] at H
   by_cases c5 : x10_1 < (l0.length : Int)
   ·rw [if_pos c5] at H
    have c5b0 : decide (x10_1 < (l0.length : Int)) = true := decide_eq_true c5
    clear c5
    have HC6 := Aside0.mk H
    clear H
    go_upto_region 5 with (fail)
    repeat (go_quiet (fail); go_upto_region 5 with (fail))
    go_cut [30] (fun v30 wc => ∃ (kq : Nat) (x30_5 : Bool), v30 = .bool x30_5 ∧ Aside0 (spec_l5Pick.j1 kq l0 l1 a2 a3 x9_1 x10_1 x30_5 = some r) ∧ Aside0 (kq ≤ k1) ∧ Drawn0 w wc)
    case first =>
     have H := HC6.out
     clear HC6
     by_cases c7 : 0 ≤ x10_1
     ·rw [if_pos c7] at H
      have c7b0 : decide (0 ≤ x10_1) = true := decide_eq_true c7
      clear c7
      (first | rw [c7b0] | (simp only [i64_w, i32_w]; rw [c7b0]) | skip)
      by_cases c8 : x10_1 < (l1.length : Int)
      ·rw [if_pos c8] at H
       have c8b0 : decide (x10_1 < (l1.length : Int)) = true := decide_eq_true c8
       clear c8
       by_cases c9 : (rd l1 x10_1) = 0
       ·rw [if_pos c9] at H
        have c9b0 : ((rd l1 x10_1) == 0) = true := beq_iff_eq.mpr c9
        have c9b1 : ((rd l1 x10_1) != 0) = false := bne_eq_false_iff_eq.mpr c9
        clear c9
        have H' := Aside0.mk H
        clear H
        have p1151 : 0 ≤ (x10_1 : Int) := of_decide_eq_true (by first | (with_reducible assumption) | assumption)
        have q1151 : x10_1 < (l1.length : Int) := of_decide_eq_true (by first | (with_reducible assumption) | assumption)
        obtain ⟨ad1151, e1151, hx1151_0⟩ := Kd.at_int HR1.out x10_1 p1151 q1151
        cases e1151
        replace p1151 := eq_true p1151
        replace q1151 := eq_true q1151
        go_wp2
        repeat (go_quiet (fail); try go_wp2)
        go_meet
        case rel => exact ⟨_, (true), (by first | rfl | (simp; done) | (simp [*]; done)), H', ⟨by have := HK1.out; first | omega | exact Nat.le_refl _⟩, by repeat (first | exact Drawn0.refl _ | apply Drawn0.step)⟩
       ·rw [if_neg c9] at H
        have c9b0 : ((rd l1 x10_1) == 0) = false := beq_eq_false_iff_ne.mpr c9
        have c9b1 : ((rd l1 x10_1) != 0) = true := bne_iff_ne.mpr c9
        have H' := Aside0.mk H
        clear H
        have p1151 : 0 ≤ (x10_1 : Int) := of_decide_eq_true (by first | (with_reducible assumption) | assumption)
        have q1151 : x10_1 < (l1.length : Int) := of_decide_eq_true (by first | (with_reducible assumption) | assumption)
        obtain ⟨ad1151, e1151, hx1151_0⟩ := Kd.at_int HR1.out x10_1 p1151 q1151
        cases e1151
        replace p1151 := eq_true p1151
        replace q1151 := eq_true q1151
        have p1152 : 0 ≤ (x10_1 : Int) := of_decide_eq_true (by first | (with_reducible assumption) | assumption)
        have q1152 : x10_1 < (l0.length : Int) := of_decide_eq_true (by first | (with_reducible assumption) | assumption)
        obtain ⟨ad1152, e1152, hx1152_0, hx1152_1, hx1152_2, hx1152_3⟩ := at_T101 HR0.out x10_1 p1152 q1152
        cases e1152
        replace p1152 := eq_true p1152
        replace q1152 := eq_true q1152
        go_wp2
        repeat (go_quiet (fail); try go_wp2)
        go_meet
        case rel => exact ⟨_, (decide (((rd_T101 l0 x10_1).f2) > a2)), (by first | rfl | (simp; done) | (simp [*]; done)), H', ⟨by have := HK1.out; first | omega | exact Nat.le_refl _⟩, by repeat (first | exact Drawn0.refl _ | apply Drawn0.step)⟩
      ·rw [if_neg c8] at H
       exact absurd H (by simp)
     ·rw [if_neg c7] at H
      exact absurd H (by simp)
    case rest =>
     clear HC6
     try clear c1
     try clear p1
     try clear q1
     try clear hx1
     try clear p2
     try clear c5
     try clear c5b0
     try clear c7
     try clear c7b0
     try clear c8
     try clear c8b0
     try clear c9
     try clear c9b0
     try clear c9b1
     try clear hx1151_0
     try clear hx1152_0
     try clear hx1152_1
     try clear hx1152_2
     try clear hx1152_3
     try clear p1151
     try clear p1152
     try clear p2
     try clear q1151
     try clear q1152
     obtain ⟨kq, x30_5, rfl, HA, HJ5, ⟨mc5, rfl⟩⟩ := hcut
     cases kq with
     | zero => exact absurd HA.out (by simp [spec_l5Pick.j1])
     | succ kj5 =>
      have H := HA.out
      clear HA
      simp only [spec_l5Pick.j1] at H
      by_cases c10 : x30_5 = true
      ·subst c10
       have H1 : (spec_l5Pick.l0 kj5 l0 l1 a2 a3 x9_1 (wrap64 (x10_1 + 1))) = some r := by rw [if_pos rfl] at H; exact H
       clear H
       have H := H1
       clear H1
       have H' := Aside0.mk H
       clear H
       go_wp2
       repeat (go_quiet (fail); try go_wp2)
       go_roundg kj5
       case measure => have := HK1.out; have := HJ5.out; omega
       case rel => exact ⟨(x9_1), (wrap64 (x10_1 + 1)), (by first | rfl | (simp; done) | (simp [*]; done)), (by first | rfl | (simp; done) | (simp [*]; done)), H', ⟨by have := HK1.out; have := HJ5.out; omega⟩, by repeat (first | exact Drawn0.refl _ | apply Drawn0.step)⟩
      ·replace c10 := Bool.eq_false_iff.mpr c10
       subst c10
       have H1 : (if x9_1 < 0 then (spec_l5Pick.l0 kj5 l0 l1 a2 a3 x10_1 (wrap64 (x10_1 + 1))) else (if a3 = 2 then (if 0 ≤ x10_1 then (if x10_1 < (l1.length : Int) then (if 0 ≤ x9_1 then (if x9_1 < (l1.length : Int) then (if (rd l1 x10_1) < (rd l1 x9_1) then (spec_l5Pick.l0 kj5 l0 l1 a2 a3 x10_1 (wrap64 (x10_1 + 1))) else (if a3 = 4 then (if x10_1 < (l0.length : Int) then (if x9_1 < (l0.length : Int) then (if ((rd_T101 l0 x10_1).f3) < ((rd_T101 l0 x9_1).f3) then (spec_l5Pick.l0 kj5 l0 l1 a2 a3 x10_1 (wrap64 (x10_1 + 1))) else (spec_l5Pick.l0 kj5 l0 l1 a2 a3 x9_1 (wrap64 (x10_1 + 1)))) else (none)) else (none)) else (spec_l5Pick.l0 kj5 l0 l1 a2 a3 x9_1 (wrap64 (x10_1 + 1))))) else (none)) else (none)) else (none)) else (none)) else (if a3 = 4 then (if 0 ≤ x10_1 then (if x10_1 < (l0.length : Int) then (if 0 ≤ x9_1 then (if x9_1 < (l0.length : Int) then (if ((rd_T101 l0 x10_1).f3) < ((rd_T101 l0 x9_1).f3) then (spec_l5Pick.l0 kj5 l0 l1 a2 a3 x10_1 (wrap64 (x10_1 + 1))) else (spec_l5Pick.l0 kj5 l0 l1 a2 a3 x9_1 (wrap64 (x10_1 + 1)))) else (none)) else (none)) else (none)) else (none)) else (spec_l5Pick.l0 kj5 l0 l1 a2 a3 x9_1 (wrap64 (x10_1 + 1)))))) = some r := by rw [if_neg (show ¬ (false = true) by decide)] at H; exact H
       clear H
       have H := H1
       clear H1
       by_cases c11 : x9_1 < 0
       ·rw [if_pos c11] at H
        have c11b0 : decide (x9_1 < 0) = true := decide_eq_true c11
        clear c11
        have H' := Aside0.mk H
        clear H
        go_wp2
        repeat (go_quiet (fail); try go_wp2)
        go_roundg kj5
        case measure => have := HK1.out; have := HJ5.out; omega
        case rel => exact ⟨(x10_1), (wrap64 (x10_1 + 1)), (by first | rfl | (simp; done) | (simp [*]; done)), (by first | rfl | (simp; done) | (simp [*]; done)), H', ⟨by have := HK1.out; have := HJ5.out; omega⟩, by repeat (first | exact Drawn0.refl _ | apply Drawn0.step)⟩
       ·rw [if_neg c11] at H
        have c11b0 : decide (x9_1 < 0) = false := decide_eq_false c11
        clear c11
        by_cases c12 : a3 = 2
        ·rw [if_pos c12] at H
         have c12b0 : (a3 == 2) = true := beq_iff_eq.mpr c12
         have c12b1 : (a3 != 2) = false := bne_eq_false_iff_eq.mpr c12
         clear c12
         by_cases c13 : 0 ≤ x10_1
         ·rw [if_pos c13] at H
          have c13b0 : decide (0 ≤ x10_1) = true := decide_eq_true c13
          clear c13
          by_cases c14 : x10_1 < (l1.length : Int)
          ·rw [if_pos c14] at H
           have c14b0 : decide (x10_1 < (l1.length : Int)) = true := decide_eq_true c14
           clear c14
           by_cases c15 : 0 ≤ x9_1
           ·rw [if_pos c15] at H
            have c15b0 : decide (0 ≤ x9_1) = true := decide_eq_true c15
            clear c15
            by_cases c16 : x9_1 < (l1.length : Int)
            ·rw [if_pos c16] at H
             have c16b0 : decide (x9_1 < (l1.length : Int)) = true := decide_eq_true c16
             clear c16
             by_cases c17 : (rd l1 x10_1) < (rd l1 x9_1)
             ·rw [if_pos c17] at H
              have c17b0 : decide ((rd l1 x10_1) < (rd l1 x9_1)) = true := decide_eq_true c17
              clear c17
              have H' := Aside0.mk H
              clear H
              have p1153 : 0 ≤ (x10_1 : Int) := of_decide_eq_true (by first | (with_reducible assumption) | assumption)
              have q1153 : x10_1 < (l1.length : Int) := of_decide_eq_true (by first | (with_reducible assumption) | assumption)
              obtain ⟨ad1153, e1153, hx1153_0⟩ := Kd.at_int HR1.out x10_1 p1153 q1153
              cases e1153
              replace p1153 := eq_true p1153
              replace q1153 := eq_true q1153
              have p1154 : 0 ≤ (x9_1 : Int) := of_decide_eq_true (by first | (with_reducible assumption) | assumption)
              have q1154 : x9_1 < (l1.length : Int) := of_decide_eq_true (by first | (with_reducible assumption) | assumption)
              obtain ⟨ad1154, e1154, hx1154_0⟩ := Kd.at_int HR1.out x9_1 p1154 q1154
              obtain rfl : ad1153 = ad1154 := (by injection e1154)
              replace p1154 := eq_true p1154
              replace q1154 := eq_true q1154
              go_wp2
              repeat (go_quiet (fail); try go_wp2)
              go_roundg kj5
              case measure => have := HK1.out; have := HJ5.out; omega
              case rel => exact ⟨(x10_1), (wrap64 (x10_1 + 1)), (by first | rfl | (simp; done) | (simp [*]; done)), (by first | rfl | (simp; done) | (simp [*]; done)), H', ⟨by have := HK1.out; have := HJ5.out; omega⟩, by repeat (first | exact Drawn0.refl _ | apply Drawn0.step)⟩
             ·rw [if_neg c17] at H
              have c17b0 : decide ((rd l1 x10_1) < (rd l1 x9_1)) = false := decide_eq_false c17
              clear c17
              by_cases c18 : a3 = 4
              ·rw [if_pos c18] at H
               have c18b0 : (a3 == 4) = true := beq_iff_eq.mpr c18
               have c18b1 : (a3 != 4) = false := bne_eq_false_iff_eq.mpr c18
               clear c18
               by_cases c19 : x10_1 < (l0.length : Int)
               ·rw [if_pos c19] at H
                have c19b0 : decide (x10_1 < (l0.length : Int)) = true := decide_eq_true c19
                clear c19
                by_cases c20 : x9_1 < (l0.length : Int)
                ·rw [if_pos c20] at H
                 have c20b0 : decide (x9_1 < (l0.length : Int)) = true := decide_eq_true c20
                 clear c20
                 by_cases c21 : ((rd_T101 l0 x10_1).f3) < ((rd_T101 l0 x9_1).f3)
                 ·rw [if_pos c21] at H
                  have c21b0 : decide (((rd_T101 l0 x10_1).f3) < ((rd_T101 l0 x9_1).f3)) = true := decide_eq_true c21
                  clear c21
                  have H' := Aside0.mk H
                  clear H
                  have p1153 : 0 ≤ (x10_1 : Int) := of_decide_eq_true (by first | (with_reducible assumption) | assumption)
                  have q1153 : x10_1 < (l1.length : Int) := of_decide_eq_true (by first | (with_reducible assumption) | assumption)
                  obtain ⟨ad1153, e1153, hx1153_0⟩ := Kd.at_int HR1.out x10_1 p1153 q1153
                  cases e1153
                  replace p1153 := eq_true p1153
                  replace q1153 := eq_true q1153
                  have p1154 : 0 ≤ (x9_1 : Int) := of_decide_eq_true (by first | (with_reducible assumption) | assumption)
                  have q1154 : x9_1 < (l1.length : Int) := of_decide_eq_true (by first | (with_reducible assumption) | assumption)
                  obtain ⟨ad1154, e1154, hx1154_0⟩ := Kd.at_int HR1.out x9_1 p1154 q1154
                  obtain rfl : ad1153 = ad1154 := (by injection e1154)
                  replace p1154 := eq_true p1154
                  replace q1154 := eq_true q1154
                  have p1155 : 0 ≤ (x10_1 : Int) := of_decide_eq_true (by first | (with_reducible assumption) | assumption)
                  have q1155 : x10_1 < (l0.length : Int) := of_decide_eq_true (by first | (with_reducible assumption) | assumption)
                  obtain ⟨ad1155, e1155, hx1155_0, hx1155_1, hx1155_2, hx1155_3⟩ := at_T101 HR0.out x10_1 p1155 q1155
                  cases e1155
                  replace p1155 := eq_true p1155
                  replace q1155 := eq_true q1155
                  have p1156 : 0 ≤ (x9_1 : Int) := of_decide_eq_true (by first | (with_reducible assumption) | assumption)
                  have q1156 : x9_1 < (l0.length : Int) := of_decide_eq_true (by first | (with_reducible assumption) | assumption)
                  obtain ⟨ad1156, e1156, hx1156_0, hx1156_1, hx1156_2, hx1156_3⟩ := at_T101 HR0.out x9_1 p1156 q1156
                  obtain rfl : ad1155 = ad1156 := (by injection e1156)
                  replace p1156 := eq_true p1156
                  replace q1156 := eq_true q1156
                  go_wp2
                  repeat (go_quiet (fail); try go_wp2)
                  go_roundg kj5
                  case measure => have := HK1.out; have := HJ5.out; omega
                  case rel => exact ⟨(x10_1), (wrap64 (x10_1 + 1)), (by first | rfl | (simp; done) | (simp [*]; done)), (by first | rfl | (simp; done) | (simp [*]; done)), H', ⟨by have := HK1.out; have := HJ5.out; omega⟩, by repeat (first | exact Drawn0.refl _ | apply Drawn0.step)⟩
                 ·rw [if_neg c21] at H
                  have c21b0 : decide (((rd_T101 l0 x10_1).f3) < ((rd_T101 l0 x9_1).f3)) = false := decide_eq_false c21
                  clear c21
                  have H' := Aside0.mk H
                  clear H
                  have p1153 : 0 ≤ (x10_1 : Int) := of_decide_eq_true (by first | (with_reducible assumption) | assumption)
                  have q1153 : x10_1 < (l1.length : Int) := of_decide_eq_true (by first | (with_reducible assumption) | assumption)
                  obtain ⟨ad1153, e1153, hx1153_0⟩ := Kd.at_int HR1.out x10_1 p1153 q1153
                  cases e1153
                  replace p1153 := eq_true p1153
                  replace q1153 := eq_true q1153
                  have p1154 : 0 ≤ (x9_1 : Int) := of_decide_eq_true (by first | (with_reducible assumption) | assumption)
                  have q1154 : x9_1 < (l1.length : Int) := of_decide_eq_true (by first | (with_reducible assumption) | assumption)
                  obtain ⟨ad1154, e1154, hx1154_0⟩ := Kd.at_int HR1.out x9_1 p1154 q1154
                  obtain rfl : ad1153 = ad1154 := (by injection e1154)
                  replace p1154 := eq_true p1154
                  replace q1154 := eq_true q1154
                  have p1155 : 0 ≤ (x10_1 : Int) := of_decide_eq_true (by first | (with_reducible assumption) | assumption)
                  have q1155 : x10_1 < (l0.length : Int) := of_decide_eq_true (by first | (with_reducible assumption) | assumption)
                  obtain ⟨ad1155, e1155, hx1155_0, hx1155_1, hx1155_2, hx1155_3⟩ := at_T101 HR0.out x10_1 p1155 q1155
                  cases e1155
                  replace p1155 := eq_true p1155
                  replace q1155 := eq_true q1155
                  have p1156 : 0 ≤ (x9_1 : Int) := of_decide_eq_true (by first | (with_reducible assumption) | assumption)
                  have q1156 : x9_1 < (l0.length : Int) := of_decide_eq_true (by first | (with_reducible assumption) | assumption)
                  obtain ⟨ad1156, e1156, hx1156_0, hx1156_1, hx1156_2, hx1156_3⟩ := at_T101 HR0.out x9_1 p1156 q1156
                  obtain rfl : ad1155 = ad1156 := (by injection e1156)
                  replace p1156 := eq_true p1156
                  replace q1156 := eq_true q1156
                  go_wp2
                  repeat (go_quiet (fail); try go_wp2)
                  go_roundg kj5
                  case measure => have := HK1.out; have := HJ5.out; omega
                  case rel => exact ⟨(x9_1), (wrap64 (x10_1 + 1)), (by first | rfl | (simp; done) | (simp [*]; done)), (by first | rfl | (simp; done) | (simp [*]; done)), H', ⟨by have := HK1.out; have := HJ5.out; omega⟩, by repeat (first | exact Drawn0.refl _ | apply Drawn0.step)⟩
                ·rw [if_neg c20] at H
                 exact absurd H (by simp)
               ·rw [if_neg c19] at H
                exact absurd H (by simp)
              ·rw [if_neg c18] at H
               have c18b0 : (a3 == 4) = false := beq_eq_false_iff_ne.mpr c18
               have c18b1 : (a3 != 4) = true := bne_iff_ne.mpr c18
               have H' := Aside0.mk H
               clear H
               have p1153 : 0 ≤ (x10_1 : Int) := of_decide_eq_true (by first | (with_reducible assumption) | assumption)
               have q1153 : x10_1 < (l1.length : Int) := of_decide_eq_true (by first | (with_reducible assumption) | assumption)
               obtain ⟨ad1153, e1153, hx1153_0⟩ := Kd.at_int HR1.out x10_1 p1153 q1153
               cases e1153
               replace p1153 := eq_true p1153
               replace q1153 := eq_true q1153
               have p1154 : 0 ≤ (x9_1 : Int) := of_decide_eq_true (by first | (with_reducible assumption) | assumption)
               have q1154 : x9_1 < (l1.length : Int) := of_decide_eq_true (by first | (with_reducible assumption) | assumption)
               obtain ⟨ad1154, e1154, hx1154_0⟩ := Kd.at_int HR1.out x9_1 p1154 q1154
               obtain rfl : ad1153 = ad1154 := (by injection e1154)
               replace p1154 := eq_true p1154
               replace q1154 := eq_true q1154
               go_wp2
               repeat (go_quiet (fail); try go_wp2)
               go_roundg kj5
               case measure => have := HK1.out; have := HJ5.out; omega
               case rel => exact ⟨(x9_1), (wrap64 (x10_1 + 1)), (by first | rfl | (simp; done) | (simp [*]; done)), (by first | rfl | (simp; done) | (simp [*]; done)), H', ⟨by have := HK1.out; have := HJ5.out; omega⟩, by repeat (first | exact Drawn0.refl _ | apply Drawn0.step)⟩
            ·rw [if_neg c16] at H
             exact absurd H (by simp)
           ·rw [if_neg c15] at H
            exact absurd H (by simp)
          ·rw [if_neg c14] at H
           exact absurd H (by simp)
         ·rw [if_neg c13] at H
          exact absurd H (by simp)
        ·rw [if_neg c12] at H
         have c12b0 : (a3 == 2) = false := beq_eq_false_iff_ne.mpr c12
         have c12b1 : (a3 != 2) = true := bne_iff_ne.mpr c12
         by_cases c22 : a3 = 4
         ·rw [if_pos c22] at H
          have c22b0 : (a3 == 4) = true := beq_iff_eq.mpr c22
          have c22b1 : (a3 != 4) = false := bne_eq_false_iff_eq.mpr c22
          clear c22
          by_cases c23 : 0 ≤ x10_1
          ·rw [if_pos c23] at H
           have c23b0 : decide (0 ≤ x10_1) = true := decide_eq_true c23
           clear c23
           by_cases c24 : x10_1 < (l0.length : Int)
           ·rw [if_pos c24] at H
            have c24b0 : decide (x10_1 < (l0.length : Int)) = true := decide_eq_true c24
            clear c24
            by_cases c25 : 0 ≤ x9_1
            ·rw [if_pos c25] at H
             have c25b0 : decide (0 ≤ x9_1) = true := decide_eq_true c25
             clear c25
             by_cases c26 : x9_1 < (l0.length : Int)
             ·rw [if_pos c26] at H
              have c26b0 : decide (x9_1 < (l0.length : Int)) = true := decide_eq_true c26
              clear c26
              by_cases c27 : ((rd_T101 l0 x10_1).f3) < ((rd_T101 l0 x9_1).f3)
              ·rw [if_pos c27] at H
               have c27b0 : decide (((rd_T101 l0 x10_1).f3) < ((rd_T101 l0 x9_1).f3)) = true := decide_eq_true c27
               clear c27
               have H' := Aside0.mk H
               clear H
               have p1157 : 0 ≤ (x10_1 : Int) := of_decide_eq_true (by first | (with_reducible assumption) | assumption)
               have q1157 : x10_1 < (l0.length : Int) := of_decide_eq_true (by first | (with_reducible assumption) | assumption)
               obtain ⟨ad1157, e1157, hx1157_0, hx1157_1, hx1157_2, hx1157_3⟩ := at_T101 HR0.out x10_1 p1157 q1157
               cases e1157
               replace p1157 := eq_true p1157
               replace q1157 := eq_true q1157
               have p1158 : 0 ≤ (x9_1 : Int) := of_decide_eq_true (by first | (with_reducible assumption) | assumption)
               have q1158 : x9_1 < (l0.length : Int) := of_decide_eq_true (by first | (with_reducible assumption) | assumption)
               obtain ⟨ad1158, e1158, hx1158_0, hx1158_1, hx1158_2, hx1158_3⟩ := at_T101 HR0.out x9_1 p1158 q1158
               obtain rfl : ad1157 = ad1158 := (by injection e1158)
               replace p1158 := eq_true p1158
               replace q1158 := eq_true q1158
               go_wp2
               repeat (go_quiet (fail); try go_wp2)
               go_roundg kj5
               case measure => have := HK1.out; have := HJ5.out; omega
               case rel => exact ⟨(x10_1), (wrap64 (x10_1 + 1)), (by first | rfl | (simp; done) | (simp [*]; done)), (by first | rfl | (simp; done) | (simp [*]; done)), H', ⟨by have := HK1.out; have := HJ5.out; omega⟩, by repeat (first | exact Drawn0.refl _ | apply Drawn0.step)⟩
              ·rw [if_neg c27] at H
               have c27b0 : decide (((rd_T101 l0 x10_1).f3) < ((rd_T101 l0 x9_1).f3)) = false := decide_eq_false c27
               clear c27
               have H' := Aside0.mk H
               clear H
               have p1157 : 0 ≤ (x10_1 : Int) := of_decide_eq_true (by first | (with_reducible assumption) | assumption)
               have q1157 : x10_1 < (l0.length : Int) := of_decide_eq_true (by first | (with_reducible assumption) | assumption)
               obtain ⟨ad1157, e1157, hx1157_0, hx1157_1, hx1157_2, hx1157_3⟩ := at_T101 HR0.out x10_1 p1157 q1157
               cases e1157
               replace p1157 := eq_true p1157
               replace q1157 := eq_true q1157
               have p1158 : 0 ≤ (x9_1 : Int) := of_decide_eq_true (by first | (with_reducible assumption) | assumption)
               have q1158 : x9_1 < (l0.length : Int) := of_decide_eq_true (by first | (with_reducible assumption) | assumption)
               obtain ⟨ad1158, e1158, hx1158_0, hx1158_1, hx1158_2, hx1158_3⟩ := at_T101 HR0.out x9_1 p1158 q1158
               obtain rfl : ad1157 = ad1158 := (by injection e1158)
               replace p1158 := eq_true p1158
               replace q1158 := eq_true q1158
               go_wp2
               repeat (go_quiet (fail); try go_wp2)
               go_roundg kj5
               case measure => have := HK1.out; have := HJ5.out; omega
               case rel => exact ⟨(x9_1), (wrap64 (x10_1 + 1)), (by first | rfl | (simp; done) | (simp [*]; done)), (by first | rfl | (simp; done) | (simp [*]; done)), H', ⟨by have := HK1.out; have := HJ5.out; omega⟩, by repeat (first | exact Drawn0.refl _ | apply Drawn0.step)⟩
             ·rw [if_neg c26] at H
              exact absurd H (by simp)
            ·rw [if_neg c25] at H
             exact absurd H (by simp)
           ·rw [if_neg c24] at H
            exact absurd H (by simp)
          ·rw [if_neg c23] at H
           exact absurd H (by simp)
         ·rw [if_neg c22] at H
          have c22b0 : (a3 == 4) = false := beq_eq_false_iff_ne.mpr c22
          have c22b1 : (a3 != 4) = true := bne_iff_ne.mpr c22
          have H' := Aside0.mk H
          clear H
          go_wp2
          repeat (go_quiet (fail); try go_wp2)
          go_roundg kj5
          case measure => have := HK1.out; have := HJ5.out; omega
          case rel => exact ⟨(x9_1), (wrap64 (x10_1 + 1)), (by first | rfl | (simp; done) | (simp [*]; done)), (by first | rfl | (simp; done) | (simp [*]; done)), H', ⟨by have := HK1.out; have := HJ5.out; omega⟩, by repeat (first | exact Drawn0.refl _ | apply Drawn0.step)⟩
   ·rw [if_neg c5] at H
    have c5b0 : decide (x10_1 < (l0.length : Int)) = false := decide_eq_false c5
    clear c5
    obtain rfl := Option.some.inj H
    go_wp2
    repeat (go_quiet (fail); try go_wp2)
    go_ret
    exact ⟨by first | rfl | (simp; done) | (simp [*]; done), by repeat (first | exact Drawn0.refl _ | apply Drawn0.step)⟩

/-! ### spec_l5Choose: function 119 -/
mutual
def spec_l5Choose.l0 : Nat → List (S101) → Int → Int → List (S130) → List Int → Int → Int → Option ((List (S130)))
 | 0, _, _, _, _, _, _, _ => none
 | k + 1, x0, x2, x3, x9, x10, x11, x12 => if x12 < (x10.length : Int) then (if 0 ≤ x12 then (spec_l5Choose.l0 k x0 x2 x3 x9 x10 (wrap64 (x11 + (rd x10 x12))) (wrap64 (x12 + 1))) else (none)) else (spec_l5Choose.l1 k x0 x3 x9 x10 x11 x2)
def spec_l5Choose.l1 : Nat → List (S101) → Int → List (S130) → List Int → Int → Int → Option ((List (S130)))
 | 0, _, _, _, _, _, _ => none
 | k + 1, x0, x3, x9, x10, x11, x13 => if x11 > 0 then ((spec_l5Pick.f k x0 x10 x13 x3).bind fun t1166 => (if t1166 < 0 then (spec_l5Choose.l1 k x0 x3 x9 x10 x11 (wrap64 (x13 + 1))) else (if (wrap64 ((x9.length : Int) - 1)) ≥ 0 then (if 0 ≤ (wrap64 ((x9.length : Int) - 1)) then (if (wrap64 ((x9.length : Int) - 1)) < (x9.length : Int) then (if ((rd_T130 x9 (wrap64 ((x9.length : Int) - 1))).f0) = t1166 then (if ((rd_T130 x9 (wrap64 ((x9.length : Int) - 1))).f2) = x13 then (if 0 ≤ t1166 then (if t1166 < (x10.length : Int) then (spec_l5Choose.l1 k x0 x3 (x9.set ((wrap64 ((x9.length : Int) - 1)) : Int).toNat (⟨(rd_T130 x9 (wrap64 ((x9.length : Int) - 1))).f0, (rd_T130 x9 (wrap64 ((x9.length : Int) - 1))).f1, wrap64 (x13 + 1)⟩ : S130)) (x10.set (t1166 : Int).toNat (wrap64 ((rd x10 t1166) - 1))) (wrap64 (x11 - 1)) (wrap64 (x13 + 1))) else (none)) else (none)) else (if x9.length < 5864062014805 then (if 0 ≤ t1166 then (if t1166 < (x10.length : Int) then (spec_l5Choose.l1 k x0 x3 (x9 ++ [(⟨t1166, x13, wrap64 (x13 + 1)⟩ : S130)]) (x10.set (t1166 : Int).toNat (wrap64 ((rd x10 t1166) - 1))) (wrap64 (x11 - 1)) (wrap64 (x13 + 1))) else (none)) else (none)) else (none))) else (if x9.length < 5864062014805 then (if 0 ≤ t1166 then (if t1166 < (x10.length : Int) then (spec_l5Choose.l1 k x0 x3 (x9 ++ [(⟨t1166, x13, wrap64 (x13 + 1)⟩ : S130)]) (x10.set (t1166 : Int).toNat (wrap64 ((rd x10 t1166) - 1))) (wrap64 (x11 - 1)) (wrap64 (x13 + 1))) else (none)) else (none)) else (none))) else (none)) else (none)) else (if x9.length < 5864062014805 then (if 0 ≤ t1166 then (if t1166 < (x10.length : Int) then (spec_l5Choose.l1 k x0 x3 (x9 ++ [(⟨t1166, x13, wrap64 (x13 + 1)⟩ : S130)]) (x10.set (t1166 : Int).toNat (wrap64 ((rd x10 t1166) - 1))) (wrap64 (x11 - 1)) (wrap64 (x13 + 1))) else (none)) else (none)) else (none))))) else (some x9)
end
def spec_l5Choose.f (k : Nat) (l0 : List (S101)) (l1 : List Int) (a2 : Int) (a3 : Int) : Option ((List (S130))) := (spec_l1Own.f l1).bind fun t1162 => (spec_l5Choose.l0 k l0 a2 a3 (([] : List (S130))) t1162 0 0)
theorem spec_l5Choose.mono_l : ∀ k, (∀ y0 y1 y2 y3 y4 y5 y6, LeO (spec_l5Choose.l0 k y0 y1 y2 y3 y4 y5 y6) (spec_l5Choose.l0 (k + 1) y0 y1 y2 y3 y4 y5 y6)) ∧ (∀ y0 y1 y2 y3 y4 y5, LeO (spec_l5Choose.l1 k y0 y1 y2 y3 y4 y5) (spec_l5Choose.l1 (k + 1) y0 y1 y2 y3 y4 y5))
 | 0 => ⟨fun _ _ _ _ _ _ _ r h => by simp [spec_l5Choose.l0] at h, fun _ _ _ _ _ _ r h => by simp [spec_l5Choose.l1] at h⟩
 | k + 1 => by
  obtain ⟨ih0, ih1⟩ := spec_l5Choose.mono_l k
  refine ⟨?_, ?_⟩
  ·intro y0 y1 y2 y3 y4 y5 y6
   unfold spec_l5Choose.l0
   repeat' first
   | (with_reducible exact ih0 _ _ _ _ _ _ _)
   | (with_reducible exact ih1 _ _ _ _ _ _)
   | (with_reducible exact spec_l5Pick.mono _ _ _ _ _)
   | (with_reducible exact LeO.refl _)
   | (with_reducible exact LeO.none _)
   | (with_reducible refine LeO.ite ?_ ?_)
   | (with_reducible refine LeO.bind ?_ (fun _ => ?_))
   | exact ih0 _ _ _ _ _ _ _
   | exact ih1 _ _ _ _ _ _
   | exact spec_l5Pick.mono _ _ _ _ _
   | exact LeO.none _
   | refine LeO.ite ?_ ?_
   | refine LeO.bind ?_ (fun _ => ?_)
  ·intro y0 y1 y2 y3 y4 y5
   unfold spec_l5Choose.l1
   repeat' first
   | (with_reducible exact ih0 _ _ _ _ _ _ _)
   | (with_reducible exact ih1 _ _ _ _ _ _)
   | (with_reducible exact spec_l5Pick.mono _ _ _ _ _)
   | (with_reducible exact LeO.refl _)
   | (with_reducible exact LeO.none _)
   | (with_reducible refine LeO.ite ?_ ?_)
   | (with_reducible refine LeO.bind ?_ (fun _ => ?_))
   | exact ih0 _ _ _ _ _ _ _
   | exact ih1 _ _ _ _ _ _
   | exact spec_l5Pick.mono _ _ _ _ _
   | exact LeO.none _
   | refine LeO.ite ?_ ?_
   | refine LeO.bind ?_ (fun _ => ?_)
theorem spec_l5Choose.mono : ∀ a0 a1 a2 a3 k, LeO (spec_l5Choose.f k a0 a1 a2 a3) (spec_l5Choose.f (k + 1) a0 a1 a2 a3) := by
 intro a0 a1 a2 a3 k
 obtain ⟨ih0, ih1⟩ := spec_l5Choose.mono_l k
 unfold spec_l5Choose.f
 repeat' first
   | (with_reducible exact ih0 _ _ _ _ _ _ _)
   | (with_reducible exact ih1 _ _ _ _ _ _)
   | (with_reducible exact spec_l5Pick.mono _ _ _ _ _)
   | (with_reducible exact LeO.refl _)
   | (with_reducible exact LeO.none _)
   | (with_reducible refine LeO.ite ?_ ?_)
   | (with_reducible refine LeO.bind ?_ (fun _ => ?_))
   | exact ih0 _ _ _ _ _ _ _
   | exact ih1 _ _ _ _ _ _
   | exact spec_l5Pick.mono _ _ _ _ _
   | exact LeO.none _
   | refine LeO.ite ?_ ?_
   | refine LeO.bind ?_ (fun _ => ?_)
set_option maxHeartbeats 8000000 in
set_option maxRecDepth 100000 in
theorem spec_l5Choose.calls (k : Nat) (A0 : Option Addr) (c0 : Nat) (l0 : List (S101)) (A1 : Option Addr) (c1 : Nat) (l1 : List Int) (a2 : Int) (a3 : Int) (r : List (S130)) (w : World) (hr0 : Kd.C k101 w A0 l0.length l0) (hc0 : l0.length ≤ c0) (hr1 : Kd.C (Kd.int .i64) w A1 l1.length l1) (hc1 : l1.length ≤ c1) (h : spec_l5Choose.f k l0 l1 a2 a3 = some r) :
  Calls Try.prog 119 #[.slice A0 l0.length c0, .slice A1 l1.length c1, .int .i64 a2, .int .i64 a3] w fun e w' => ∃ v0_ : Value, e = .returned (v0_) ∧ Kd.R k130 130 w' w.heap.size (fun _ => True) v0_ r ∧ Below w.heap.size w w' := by
 have hu130 := Try.underlying130
 have HR0 := Aside0.mk hr0
 have HC0 := Aside0.mk hc0
 clear hr0 hc0
 have HR1 := Aside0.mk hr1
 have HC1 := Aside0.mk hc1
 clear hr1 hc1
 have HB := Aside0.mk (Below.refl w.heap.size w)
 have H : ((spec_l1Own.f l1).bind fun t1162 => (spec_l5Choose.l0 k l0 a2 a3 (([] : List (S130))) t1162 0 0)) = some r := h
 clear h
 obtain ⟨y1159, hy1159⟩ : ∃ y_ : List (S130), y_ = (([] : List (S130))) := ⟨_, rfl⟩
 replace H : ((spec_l1Own.f l1).bind fun t1162 => (spec_l5Choose.l0 k l0 a2 a3 y1159 t1162 0 0)) = some r := by first | (rw [hy1159]; with_reducible exact H) | (have H2_ := (Option.bind_some _ _).symm.trans H; rw [hy1159]; with_reducible exact H2_) | (have H2_ := (Option.bind_some _ _).symm.trans H; with_reducible exact H2_) | with_reducible exact H | (rw [hy1159]; exact H) | exact H
 have Ny1159 := Aside0.mk hy1159
 clear hy1159
 replace H := Option.bind_eq_some_iff.mp H
 obtain ⟨t1162, A50, H⟩ := H
 replace H : (spec_l5Choose.l0 k l0 a2 a3 y1159 t1162 0 0) = some r := H
 have A5 := Aside0.mk A50
 clear A50
 have H' := Aside0.mk H
 clear H
 go_enter Try.func119, Try.ntmps119
 go_wp2_with (first | ((with_reducible refine gate_dst (N := 16) rfl ?_); refine Kd.R_lit k130 _ 130 ?hg (N := 16) ?hd (xs := ([] : List (S130))) (inner := []) (ok := fun _ => True) (okp := fun _ => True) ?hr ?hp (fun _ hk => hk) trivial (Below.refl _ _) (Nat.le_refl _) (by simp) ?_; (case hd => rfl); (case hg => rfl); (case hr => first | (go_simp; done) | (go_simp; rfl)); (case hp => exact (Reps.none _ _)); intro v1160 w6 ho7 hb hg_ hnew_; clear hg_ hnew_; (first | rw [← Ny1159.out] at ho7 | (simp only [Int.reduceToNat] at ho7; rw [← Ny1159.out] at ho7)); have n0_ := Aside0.mk (Kd.R_lower ho7 (below_size (by repeat (first | (with_reducible first | exact HB.out | apply below_alloc | apply pw_below_drewN | apply below_drew1) | exact HB.out)))); have n1_ := Aside0.mk (below_step (by repeat (first | (with_reducible first | exact HB.out | apply below_alloc | apply pw_below_drewN | apply below_drew1) | exact HB.out)) hb); clear HB; have HO1161 := n0_; have HB := n1_; clear n0_ n1_; clear hb ho7) | ((with_reducible refine gate_callee (f := 113) rfl ?_); refine goesL_ (some 18) rfl rfl Try.func113 (by kernel_rfl) rfl #[.slice A1 l1.length c1] rfl (by (try simp only [List.map_toArray, List.map_cons, List.map_nil]); first | done | rfl | (simp only [List.length_drop, List.length_take]; rfl)) ?_; (with_reducible refine (spec_l1Own.calls _ _ l1 t1162 _ ?side1 ?side2 A5.out).mono ?_); (case side1 => repeat (first | exact (Kd.C_below HR1.out HB.out) | (with_reducible refine Kd.C_alloc ?_ _) | (with_reducible refine Kd.C_drewN ?_ _) | (with_reducible refine Kd.C_drew ?_))); (case side2 => exact HC1.out); rintro e w8 ⟨v1163, rfl, ho0, hb⟩; refine ⟨_, rfl, ?_⟩; have n0_ := Aside0.mk (Kd.R_below (by (with_reducible repeat (first | apply Kd.R_alloc | apply Kd.R_drewN | apply Kd.R_drew)); exact HO1161.out) hb); have n1_ := Aside0.mk (Kd.R_lower ho0 (below_size (by repeat (first | (with_reducible first | exact HB.out | apply below_alloc | apply pw_below_drewN | apply below_drew1) | exact HB.out)))); have n2_ := Aside0.mk (below_step (by repeat (first | (with_reducible first | exact HB.out | apply below_alloc | apply pw_below_drewN | apply below_drew1) | exact HB.out)) hb); clear HO1161; clear HB; have HO1161 := n0_; have HO1164 := n1_; have HB := n2_; clear n0_ n1_ n2_; (try clear hb); (try clear hb2); (try clear hk); (try clear hi); (try clear ho0)))
 go_loopg [11, 12] k (fun kq v11 v12 w' => ∃ (x11_1 : Int) (x12_1 : Int), v11 = .int .i64 x11_1 ∧ v12 = .int .i64 x12_1 ∧ Aside0 (spec_l5Choose.l0 kq l0 a2 a3 y1159 t1162 x11_1 x12_1 = some r) ∧ Aside0 (kq ≤ k) ∧ Aside0 (Kd.R k130 130 w' w.heap.size (fun _ => True) v1160 y1159) ∧ Aside0 (Kd.R (Kd.int .i64) 3 w' w.heap.size (fun _ => True) v1163 t1162) ∧ Aside0 (Below w.heap.size w w'))
 case atStart => exact ⟨(0), (0), (by first | rfl | (simp; done) | (simp [*]; done)), (by first | rfl | (simp; done) | (simp [*]; done)), H', ⟨Nat.le_refl _⟩, ⟨by (with_reducible repeat (first | apply Kd.R_alloc | apply Kd.R_drewN | apply Kd.R_drew)); exact HO1161.out⟩, ⟨by (with_reducible repeat (first | apply Kd.R_alloc | apply Kd.R_drewN | apply Kd.R_drew)); exact HO1164.out⟩, ⟨by repeat (first | (with_reducible first | exact HB.out | apply below_alloc | apply pw_below_drewN | apply below_drew1) | exact HB.out)⟩⟩
 case round =>
  clear H'
  try clear c1
  try clear p2
  obtain ⟨x11_1, x12_1, rfl, rfl, HA, HK1, HO_9, HO_10, HB⟩ := hrel
  cases gk with
  | zero => exact absurd HA.out (by simp [spec_l5Choose.l0])
  | succ k1 =>
   have H := HA.out
   clear HA
   simp only [spec_l5Choose.l0] at H
   by_cases c9 : x12_1 < (t1162.length : Int)
   ·rw [if_pos c9] at H
    have c9b0 : decide (x12_1 < (t1162.length : Int)) = true := decide_eq_true c9
    clear c9
    by_cases c10 : 0 ≤ x12_1
    ·rw [if_pos c10] at H
     have c10b0 : decide (0 ≤ x12_1) = true := decide_eq_true c10
     clear c10
     have H' := Aside0.mk H
     clear H
     obtain ⟨Ao11, co11, eo11⟩ := Kd.R_slice HO_10.out
     subst eo11
     have p1165 : 0 ≤ (x12_1 : Int) := of_decide_eq_true (by first | (with_reducible assumption) | assumption)
     have q1165 : x12_1 < (t1162.length : Int) := of_decide_eq_true (by first | (with_reducible assumption) | assumption)
     obtain ⟨ad1165, e1165, hx1165_0⟩ := Kd.at_int (Kd.R_reads' HO_10.out).2.2 x12_1 p1165 q1165
     cases e1165
     replace p1165 := eq_true p1165
     replace q1165 := eq_true q1165
     go_wp2
     go_roundg k1
     case measure => have := HK1.out; omega
     case rel => exact ⟨(wrap64 (x11_1 + (rd t1162 x12_1))), (wrap64 (x12_1 + 1)), (by first | rfl | (simp; done) | (simp [*]; done)), (by first | rfl | (simp; done) | (simp [*]; done)), H', ⟨by have := HK1.out; omega⟩, ⟨by (with_reducible repeat (first | apply Kd.R_alloc | apply Kd.R_drewN | apply Kd.R_drew)); exact HO_9.out⟩, ⟨by (with_reducible repeat (first | apply Kd.R_alloc | apply Kd.R_drewN | apply Kd.R_drew)); exact HO_10.out⟩, ⟨by repeat (first | (with_reducible first | exact HB.out | apply below_alloc | apply pw_below_drewN | apply below_drew1) | exact HB.out)⟩⟩
    ·rw [if_neg c10] at H
     exact absurd H (by simp)
   ·rw [if_neg c9] at H
    have c9b0 : decide (x12_1 < (t1162.length : Int)) = false := decide_eq_false c9
    clear c9
    have H' := Aside0.mk H
    clear H
    obtain ⟨Ao12, co12, eo12⟩ := Kd.R_slice HO_10.out
    subst eo12
    go_wp2
    go_loopg [9, 11, 13] k1 (fun kq v9 v11 v13 w' => ∃ (x9_2 : List (S130)) (x10_2 : List Int) (x11_2 : Int) (x13_2 : Int), v11 = .int .i64 x11_2 ∧ v13 = .int .i64 x13_2 ∧ Aside0 (spec_l5Choose.l1 kq l0 a3 x9_2 x10_2 x11_2 x13_2 = some r) ∧ Aside0 (kq ≤ k1) ∧ Aside0 (Kd.R k130 130 w' w.heap.size (fun _ => True) v9 x9_2) ∧ Aside0 (Kd.R (Kd.int .i64) 3 w' w.heap.size (fun _ => True) (.slice Ao12 t1162.length co12) x10_2) ∧ Aside0 (Below w.heap.size w w'))
    case atStart => exact ⟨(y1159), (t1162), (x11_1), (a2), (by first | rfl | (simp; done) | (simp [*]; done)), (by first | rfl | (simp; done) | (simp [*]; done)), H', ⟨Nat.le_refl _⟩, ⟨by (with_reducible repeat (first | apply Kd.R_alloc | apply Kd.R_drewN | apply Kd.R_drew)); exact HO_9.out⟩, ⟨by (with_reducible repeat (first | apply Kd.R_alloc | apply Kd.R_drewN | apply Kd.R_drew)); exact HO_10.out⟩, ⟨by repeat (first | (with_reducible first | exact HB.out | apply below_alloc | apply pw_below_drewN | apply below_drew1) | exact HB.out)⟩⟩
    case round =>
     clear H'
     try clear c1
     try clear p1
     try clear q1
     try clear hx1
     try clear p2
     try clear p6
     try clear c9
     try clear c9b0
     try clear c10
     try clear c10b0
     try clear c11
     try clear p11
     try clear q11
     try clear hx11
     try clear hx1165_0
     try clear p1165
     try clear p2
     try clear q1165
     obtain ⟨x9_2, x10_2, x11_2, x13_2, rfl, rfl, HA, HK2, HO_9, HO_10, HB⟩ := hrel
     have hl10_2 := (Kd.R_reads' HO_10.out).1
     rw [hl10_2] at HO_10
     (try simp only [hl10_2])
     (try simp only [hl10_2] at HO_9)
     cases gk with
     | zero => exact absurd HA.out (by simp [spec_l5Choose.l1])
     | succ k2 =>
      have H := HA.out
      clear HA
      simp only [spec_l5Choose.l1] at H
      by_cases c13 : x11_2 > 0
      ·rw [if_pos c13] at H
       have c13b0 : decide (0 < x11_2) = true := decide_eq_true c13
       clear c13
       replace H := Option.bind_eq_some_iff.mp H
       obtain ⟨t1166, A140, H⟩ := H
       replace H : (if t1166 < 0 then (spec_l5Choose.l1 k2 l0 a3 x9_2 x10_2 x11_2 (wrap64 (x13_2 + 1))) else (if (wrap64 ((x9_2.length : Int) - 1)) ≥ 0 then (if 0 ≤ (wrap64 ((x9_2.length : Int) - 1)) then (if (wrap64 ((x9_2.length : Int) - 1)) < (x9_2.length : Int) then (if ((rd_T130 x9_2 (wrap64 ((x9_2.length : Int) - 1))).f0) = t1166 then (if ((rd_T130 x9_2 (wrap64 ((x9_2.length : Int) - 1))).f2) = x13_2 then (if 0 ≤ t1166 then (if t1166 < (x10_2.length : Int) then (spec_l5Choose.l1 k2 l0 a3 (x9_2.set ((wrap64 ((x9_2.length : Int) - 1)) : Int).toNat (⟨(rd_T130 x9_2 (wrap64 ((x9_2.length : Int) - 1))).f0, (rd_T130 x9_2 (wrap64 ((x9_2.length : Int) - 1))).f1, wrap64 (x13_2 + 1)⟩ : S130)) (x10_2.set (t1166 : Int).toNat (wrap64 ((rd x10_2 t1166) - 1))) (wrap64 (x11_2 - 1)) (wrap64 (x13_2 + 1))) else (none)) else (none)) else (if x9_2.length < 5864062014805 then (if 0 ≤ t1166 then (if t1166 < (x10_2.length : Int) then (spec_l5Choose.l1 k2 l0 a3 (x9_2 ++ [(⟨t1166, x13_2, wrap64 (x13_2 + 1)⟩ : S130)]) (x10_2.set (t1166 : Int).toNat (wrap64 ((rd x10_2 t1166) - 1))) (wrap64 (x11_2 - 1)) (wrap64 (x13_2 + 1))) else (none)) else (none)) else (none))) else (if x9_2.length < 5864062014805 then (if 0 ≤ t1166 then (if t1166 < (x10_2.length : Int) then (spec_l5Choose.l1 k2 l0 a3 (x9_2 ++ [(⟨t1166, x13_2, wrap64 (x13_2 + 1)⟩ : S130)]) (x10_2.set (t1166 : Int).toNat (wrap64 ((rd x10_2 t1166) - 1))) (wrap64 (x11_2 - 1)) (wrap64 (x13_2 + 1))) else (none)) else (none)) else (none))) else (none)) else (none)) else (if x9_2.length < 5864062014805 then (if 0 ≤ t1166 then (if t1166 < (x10_2.length : Int) then (spec_l5Choose.l1 k2 l0 a3 (x9_2 ++ [(⟨t1166, x13_2, wrap64 (x13_2 + 1)⟩ : S130)]) (x10_2.set (t1166 : Int).toNat (wrap64 ((rd x10_2 t1166) - 1))) (wrap64 (x11_2 - 1)) (wrap64 (x13_2 + 1))) else (none)) else (none)) else (none)))) = some r := H
       have A14 := Aside0.mk A140
       clear A140
       by_cases c15 : t1166 < 0
       ·rw [if_pos c15] at H
        have c15b0 : decide (t1166 < 0) = true := decide_eq_true c15
        clear c15
        have H' := Aside0.mk H
        clear H
        go_wp2_with (first | ((with_reducible refine gate_callee (f := 159) rfl ?_); refine goesL_ (some 40) rfl rfl Try.func159 (by kernel_rfl) rfl #[.slice A0 l0.length c0, .slice Ao12 x10_2.length co12, .int .i64 x13_2, .int .i64 a3] rfl (by (try simp only [List.map_toArray, List.map_cons, List.map_nil]); first | done | rfl | (simp only [List.length_drop, List.length_take]; rfl)) ?_; (with_reducible refine (spec_l5Pick.calls k2 _ _ l0 _ _ x10_2 x13_2 a3 t1166 _ ?side1 ?side2 ?side3 ?side4 A14.out).mono ?_); (case side1 => repeat (first | exact (Kd.C_below HR0.out HB.out) | (with_reducible refine Kd.C_alloc ?_ _) | (with_reducible refine Kd.C_drewN ?_ _) | (with_reducible refine Kd.C_drew ?_))); (case side2 => exact HC0.out); (case side3 => repeat (first | exact (Kd.R_reads' HO_10.out).2.2 | (with_reducible refine Kd.C_alloc ?_ _) | (with_reducible refine Kd.C_drewN ?_ _) | (with_reducible refine Kd.C_drew ?_))); (case side4 => exact (Kd.R_reads' HO_10.out).2.1); rintro e w' ⟨rfl, ⟨nd, rfl⟩⟩; refine ⟨_, rfl, ?_⟩))
        (try simp only [← hl10_2])
        go_roundg k2
        case measure => have := HK1.out; have := HK2.out; omega
        case rel => exact ⟨(x9_2), (x10_2), (x11_2), (wrap64 (x13_2 + 1)), (by first | rfl | (simp; done) | (simp [*]; done)), (by first | rfl | (simp; done) | (simp [*]; done)), H', ⟨by have := HK1.out; have := HK2.out; omega⟩, ⟨by (try simp only [hl10_2]); (with_reducible repeat (first | apply Kd.R_alloc | apply Kd.R_drewN | apply Kd.R_drew)); exact HO_9.out⟩, ⟨by (try simp only [hl10_2]); (with_reducible repeat (first | apply Kd.R_alloc | apply Kd.R_drewN | apply Kd.R_drew)); exact HO_10.out⟩, ⟨by repeat (first | (with_reducible first | exact HB.out | apply below_alloc | apply pw_below_drewN | apply below_drew1) | exact HB.out)⟩⟩
       ·rw [if_neg c15] at H
        have c15b0 : decide (t1166 < 0) = false := decide_eq_false c15
        clear c15
        by_cases c16 : (wrap64 ((x9_2.length : Int) - 1)) ≥ 0
        ·rw [if_pos c16] at H
         have c16b0 : decide (0 ≤ (wrap64 ((x9_2.length : Int) - 1))) = true := decide_eq_true c16
         clear c16
         obtain ⟨ji17, hji17⟩ : ∃ j_ : Int, (wrap64 ((x9_2.length : Int) - 1)) = j_ := ⟨_, rfl⟩
         replace H : (if 0 ≤ (ji17) then (if (ji17) < (x9_2.length : Int) then (if ((rd_T130 x9_2 (ji17)).f0) = t1166 then (if ((rd_T130 x9_2 (ji17)).f2) = x13_2 then (if 0 ≤ t1166 then (if t1166 < (x10_2.length : Int) then (spec_l5Choose.l1 k2 l0 a3 (x9_2.set ((ji17) : Int).toNat (⟨(rd_T130 x9_2 (ji17)).f0, (rd_T130 x9_2 (ji17)).f1, wrap64 (x13_2 + 1)⟩ : S130)) (x10_2.set (t1166 : Int).toNat (wrap64 ((rd x10_2 t1166) - 1))) (wrap64 (x11_2 - 1)) (wrap64 (x13_2 + 1))) else (none)) else (none)) else (if x9_2.length < 5864062014805 then (if 0 ≤ t1166 then (if t1166 < (x10_2.length : Int) then (spec_l5Choose.l1 k2 l0 a3 (x9_2 ++ [(⟨t1166, x13_2, wrap64 (x13_2 + 1)⟩ : S130)]) (x10_2.set (t1166 : Int).toNat (wrap64 ((rd x10_2 t1166) - 1))) (wrap64 (x11_2 - 1)) (wrap64 (x13_2 + 1))) else (none)) else (none)) else (none))) else (if x9_2.length < 5864062014805 then (if 0 ≤ t1166 then (if t1166 < (x10_2.length : Int) then (spec_l5Choose.l1 k2 l0 a3 (x9_2 ++ [(⟨t1166, x13_2, wrap64 (x13_2 + 1)⟩ : S130)]) (x10_2.set (t1166 : Int).toNat (wrap64 ((rd x10_2 t1166) - 1))) (wrap64 (x11_2 - 1)) (wrap64 (x13_2 + 1))) else (none)) else (none)) else (none))) else (none)) else (none)) = some r := by first | (rw [hji17] at H; exact H) | (simp only [hji17] at H ⊢; exact H)
         (try rw [hji17] at c16b0)
         (try rw [hji17] at A14)
         have hji17w : (IntKind.i64.wrap ((x9_2.length : Int) - 1)) = ji17 := (i64_w _).trans hji17
         by_cases c18 : 0 ≤ (ji17)
         ·rw [if_pos c18] at H
          have c18b0 : decide (0 ≤ (ji17)) = true := decide_eq_true c18
          clear c18
          by_cases c19 : (ji17) < (x9_2.length : Int)
          ·rw [if_pos c19] at H
           have c19b0 : decide ((ji17) < (x9_2.length : Int)) = true := decide_eq_true c19
           clear c19
           by_cases c20 : ((rd_T130 x9_2 (ji17)).f0) = t1166
           ·rw [if_pos c20] at H
            have c20b0 : (((rd_T130 x9_2 (ji17)).f0) == t1166) = true := beq_iff_eq.mpr c20
            have c20b1 : (((rd_T130 x9_2 (ji17)).f0) != t1166) = false := bne_eq_false_iff_eq.mpr c20
            clear c20
            by_cases c21 : ((rd_T130 x9_2 (ji17)).f2) = x13_2
            ·rw [if_pos c21] at H
             have c21b0 : (((rd_T130 x9_2 (ji17)).f2) == x13_2) = true := beq_iff_eq.mpr c21
             have c21b1 : (((rd_T130 x9_2 (ji17)).f2) != x13_2) = false := bne_eq_false_iff_eq.mpr c21
             clear c21
             obtain ⟨y1169, hy1169⟩ : ∃ y_ : List (S130), y_ = (x9_2.set ((ji17) : Int).toNat (⟨(rd_T130 x9_2 (ji17)).f0, (rd_T130 x9_2 (ji17)).f1, wrap64 (x13_2 + 1)⟩ : S130)) := ⟨_, rfl⟩
             replace H : (if 0 ≤ t1166 then (if t1166 < (x10_2.length : Int) then (spec_l5Choose.l1 k2 l0 a3 y1169 (x10_2.set (t1166 : Int).toNat (wrap64 ((rd x10_2 t1166) - 1))) (wrap64 (x11_2 - 1)) (wrap64 (x13_2 + 1))) else (none)) else (none)) = some r := by first | (rw [hy1169]; with_reducible exact H) | (have H2_ := (Option.bind_some _ _).symm.trans H; rw [hy1169]; with_reducible exact H2_) | (have H2_ := (Option.bind_some _ _).symm.trans H; with_reducible exact H2_) | with_reducible exact H | (rw [hy1169]; exact H) | exact H
             have Ny1169 := Aside0.mk hy1169
             clear hy1169
             by_cases c23 : 0 ≤ t1166
             ·rw [if_pos c23] at H
              have c23b0 : decide (0 ≤ t1166) = true := decide_eq_true c23
              clear c23
              by_cases c24 : t1166 < (x10_2.length : Int)
              ·rw [if_pos c24] at H
               have c24b0 : decide (t1166 < (x10_2.length : Int)) = true := decide_eq_true c24
               clear c24
               obtain ⟨y1171, hy1171⟩ : ∃ y_ : List Int, y_ = (x10_2.set (t1166 : Int).toNat (wrap64 ((rd x10_2 t1166) - 1))) := ⟨_, rfl⟩
               replace H : (spec_l5Choose.l1 k2 l0 a3 y1169 y1171 (wrap64 (x11_2 - 1)) (wrap64 (x13_2 + 1))) = some r := by first | (rw [hy1171]; with_reducible exact H) | (have H2_ := (Option.bind_some _ _).symm.trans H; rw [hy1171]; with_reducible exact H2_) | (have H2_ := (Option.bind_some _ _).symm.trans H; with_reducible exact H2_) | with_reducible exact H | (rw [hy1171]; exact H) | exact H
               have Ny1171 := Aside0.mk hy1171
               clear hy1171
               have H' := Aside0.mk H
               clear H
               go_wp2_with (first | ((with_reducible refine gate_callee (f := 159) rfl ?_); refine goesL_ (some 40) rfl rfl Try.func159 (by kernel_rfl) rfl #[.slice A0 l0.length c0, .slice Ao12 x10_2.length co12, .int .i64 x13_2, .int .i64 a3] rfl (by (try simp only [List.map_toArray, List.map_cons, List.map_nil]); first | done | rfl | (simp only [List.length_drop, List.length_take]; rfl)) ?_; (with_reducible refine (spec_l5Pick.calls k2 _ _ l0 _ _ x10_2 x13_2 a3 t1166 _ ?side1 ?side2 ?side3 ?side4 A14.out).mono ?_); (case side1 => repeat (first | exact (Kd.C_below HR0.out HB.out) | (with_reducible refine Kd.C_alloc ?_ _) | (with_reducible refine Kd.C_drewN ?_ _) | (with_reducible refine Kd.C_drew ?_))); (case side2 => exact HC0.out); (case side3 => repeat (first | exact (Kd.R_reads' HO_10.out).2.2 | (with_reducible refine Kd.C_alloc ?_ _) | (with_reducible refine Kd.C_drewN ?_ _) | (with_reducible refine Kd.C_drew ?_))); (case side4 => exact (Kd.R_reads' HO_10.out).2.1); rintro e w' ⟨rfl, ⟨nd, rfl⟩⟩; refine ⟨_, rfl, ?_⟩; (try (rw [drewN_self wr]; generalize hq_ : World.drewN wr _ = wr; have n0_ : Aside0 (Kd.R (Kd.int .i64) 3 wr w.heap.size (fun _ => True) (.slice Ao12 x10_2.length co12) x10_2) := ⟨by rw [← hq_]; exact (by (with_reducible repeat (first | apply Kd.R_alloc | apply Kd.R_drewN | apply Kd.R_drew)); exact HO_10.out)⟩; have n1_ : Aside0 (Kd.R k130 130 wr w.heap.size (fun _ => True) u9 x9_2) := ⟨by rw [← hq_]; exact (by (with_reducible repeat (first | apply Kd.R_alloc | apply Kd.R_drewN | apply Kd.R_drew)); exact HO_9.out)⟩; have n2_ : Aside0 (Below w.heap.size w wr) := ⟨by rw [← hq_]; exact (by repeat (first | (with_reducible first | exact HB.out | apply below_alloc | apply pw_below_drewN | apply below_drew1) | exact HB.out))⟩; (try replace hx1165_0 := cell_at hq_ hx1165_0); (try replace hx25_0 := cell_at hq_ hx25_0); (try replace hf25_0 := frz_at hq_ hf25_0); (try replace hx1167_0 := cell_at hq_ hx1167_0); (try replace hx1167_1 := cell_at hq_ hx1167_1); (try replace hx1167_2 := cell_at hq_ hx1167_2); clear HO_10 HO_9 HB hq_; have HO_10 := n0_; have HO_9 := n1_; have HB := n2_; clear n0_ n1_ n2_)); obtain ⟨Ao26, co26, eo26⟩ := Kd.R_slice HO_9.out; subst eo26; have p1167 : 0 ≤ ((ji17) : Int) := of_decide_eq_true (by first | (with_reducible assumption) | assumption); have q1167 : (ji17) < (x9_2.length : Int) := of_decide_eq_true (by first | (with_reducible assumption) | assumption); obtain ⟨ad1167, e1167, hx1167_0, hx1167_1, hx1167_2⟩ := at_T130 (Kd.R_reads' HO_9.out).2.2 (ji17) p1167 q1167; cases e1167; replace p1167 := eq_true p1167; replace q1167 := eq_true q1167; have p1168 : 0 ≤ ((ji17) : Int) := of_decide_eq_true (by first | (with_reducible assumption) | assumption); have q1168 : (ji17) < (x9_2.length : Int) := of_decide_eq_true (by first | (with_reducible assumption) | assumption); obtain ⟨ad1168, e1168, hx1168_0, hx1168_1, hx1168_2⟩ := at_T130 (Kd.R_reads' HO_9.out).2.2 (ji17) p1168 q1168; obtain rfl : ad1167 = ad1168 := (by injection e1168); replace p1168 := eq_true p1168; replace q1168 := eq_true q1168; have p22 : 0 ≤ ((ji17) : Int) := of_decide_eq_true (by first | (with_reducible assumption) | assumption); have q22 : ((ji17) : Int) < ((x9_2.length : Int) : Int) := of_decide_eq_true (by first | (with_reducible assumption) | assumption); obtain ⟨go22, co22, eo22, gb22, gl22, cl22, HG22⟩ := Kd.R_form HO_9.out (by omega); (first | cases eo22 | (injection eo22 with ea_ en_ ec_; (first | subst ea_ | (injection ea_ with ea_; subst ea_)); subst ec_; clear en_)); have GB22 := Aside0.mk gb22; have GG22 := Aside0.mk HG22; clear gb22 gl22 HG22; (first | simp only [add_plain] at hx1167_0 | skip); (first | simp only [add_plain] at hx1167_1 | skip); (first | simp only [add_plain] at hx1167_2 | skip); (first | simp only [add_plain] at hx1168_0 | skip); (first | simp only [add_plain] at hx1168_1 | skip); (first | simp only [add_plain] at hx1168_2 | skip); obtain ⟨ce22, hcl22, hM22, hcc22, hfr22⟩ := Kd.R_elem HO_9.out z130 ((ji17) : Int) p22 q22; obtain rfl := k130_openM hM22; have hx22_0 : wr.cell? ⟨go22, ((ji17) : Int).toNat * 3, none⟩ = some (.int .i64 ((rd_T130 x9_2 (ji17)).f0)) := hcc22 0 _ rfl; have hx22_1 : wr.cell? ⟨go22, ((ji17) : Int).toNat * 3 + 1, none⟩ = some (.int .i64 ((rd_T130 x9_2 (ji17)).f1)) := hcc22 1 _ rfl; have hx22_2 : wr.cell? ⟨go22, ((ji17) : Int).toNat * 3 + 2, none⟩ = some (.int .i64 ((rd_T130 x9_2 (ji17)).f2)) := hcc22 2 _ rfl; have hf22_0 : wr.frozen? ⟨go22, ((ji17) : Int).toNat * 3, none⟩ = false := hfr22 0; have hf22_1 : wr.frozen? ⟨go22, ((ji17) : Int).toNat * 3 + 1, none⟩ = false := hfr22 1; have hf22_2 : wr.frozen? ⟨go22, ((ji17) : Int).toNat * 3 + 2, none⟩ = false := hfr22 2; clear hcl22 hcc22 hfr22; (try clear hM22); replace p22 := eq_true p22; replace q22 := eq_true q22; have HX27 := Aside0.mk (show Kd.R k130 130 wr w.heap.size (fun _ => True) (.slice (some ⟨go22, 0, none⟩) x9_2.length co26) x9_2 from (by (with_reducible repeat (first | apply Kd.R_alloc | apply Kd.R_drewN | apply Kd.R_drew)); exact HO_9.out)); obtain ⟨ce27, hcl27, hM27, hcc27, hfr27⟩ := Kd.R_elem HX27.out z130 ((ji17) : Int) (of_decide_eq_true (by first | (with_reducible assumption) | assumption)) (by have h_ : ((ji17) : Int) < ((x9_2.length : Int) : Int) := of_decide_eq_true (by first | (with_reducible assumption) | assumption); first | exact h_ | (have e_ := (Kd.R_reads' HO_9.out).1; omega) | simpa using h_); obtain rfl := k130_openM hM27; have HP27 := Kd.R_seg HX27.out ((ji17) : Int) (of_decide_eq_true (by first | (with_reducible assumption) | assumption)) (by have h_ : ((ji17) : Int) < ((x9_2.length : Int) : Int) := of_decide_eq_true (by first | (with_reducible assumption) | assumption); first | exact h_ | (have e_ := (Kd.R_reads' HO_9.out).1; omega) | simpa using h_) (seg := [.int .i64 (wrap64 (x13_2 + 1))]) (j := 2) hcl27 hcc27 (show 3 ≤ 3 from by decide) (x' := (⟨(rd_T130 x9_2 (ji17)).f0, (rd_T130 x9_2 (ji17)).f1, wrap64 (x13_2 + 1)⟩ : S130)) (k130_mkM _ _ _ (⟨(rd_T130 x9_2 (ji17)).f0, (rd_T130 x9_2 (ji17)).f1, wrap64 (x13_2 + 1)⟩ : S130) ) (fun _ hk => hk); have hx27_2 := hcc27 2 _ rfl; (try simp only [show (k130).sz = 3 from rfl, Nat.mul_one, Nat.add_zero] at hx27_2); have hf27_2 := hfr27 2; (try simp only [show (k130).sz = 3 from rfl, Nat.mul_one, Nat.add_zero] at hf27_2); clear hcl27 hcc27 hfr27; (try clear hM27)) | ((with_reducible refine gate_store (t := 3) (p := 71) rfl ?_); refine store_event (t := 3) (p := 71) (v := ?vo_w28) (w1 := (wr.setCell ⟨go22, ((ji17) : Int).toNat * 3 + 2, none⟩ (.int .i64 (wrap64 (x13_2 + 1))))) ?hg ?ho ?hn ?hr ?_; (case ho => rfl); (case hg => rfl); (case hn => rfl); (case hr => first | (go_simp; done) | (go_simp; rfl)); intro w28 hw; have hg : wr.grownBy w28 (some go22) := (by rw [hw]; exact HP27.2); have hp_ : Kd.R k130 130 w28 w.heap.size (fun _ => True) (.slice (some ⟨go22, 0, none⟩) x9_2.length co26) y1169 := (by rw [hw, Ny1169.out]; exact HP27.1); clear HP27; have n0_ := Aside0.mk (hp_); have n1_ := Aside0.mk (Kd.R_over' (v := (.slice (some ⟨go22, 0, none⟩) x9_2.length co26)) (by (with_reducible repeat (first | apply Kd.R_alloc | apply Kd.R_drewN | apply Kd.R_drew)); exact HO_10.out) (Kd.R_typed HO_9.out) (by decide) hg); have n2_ := Aside0.mk ((by rw [hw]; exact below_set (HB.out) GB22.out : Below w.heap.size w w28)); clear HO_9; clear HO_10; clear HB; have HO_9 := n0_; have HO_10 := n1_; have HB := n2_; clear n0_ n1_ n2_; clear hg hw hp_; have p1170 : 0 ≤ (t1166 : Int) := of_decide_eq_true (by first | (with_reducible assumption) | assumption); have q1170 : t1166 < (x10_2.length : Int) := of_decide_eq_true (by first | (with_reducible assumption) | assumption); obtain ⟨ad1170, e1170, hx1170_0⟩ := Kd.at_int (Kd.R_reads' HO_10.out).2.2 t1166 p1170 q1170; cases e1170; replace p1170 := eq_true p1170; replace q1170 := eq_true q1170; have p25 : 0 ≤ (t1166 : Int) := of_decide_eq_true (by first | (with_reducible assumption) | assumption); have q25 : (t1166 : Int) < ((x10_2.length : Int) : Int) := of_decide_eq_true (by first | (with_reducible assumption) | assumption); obtain ⟨go25, co25, eo25, gb25, gl25, cl25, HG25⟩ := Kd.R_form HO_10.out (by omega); (first | cases eo25 | (injection eo25 with ea_ en_ ec_; (first | subst ea_ | (injection ea_ with ea_; subst ea_)); subst ec_; clear en_)); have GB25 := Aside0.mk gb25; have GG25 := Aside0.mk HG25; clear gb25 gl25 HG25; (first | simp only [add_plain] at hx1170_0 | skip); obtain ⟨hx25_0, hf25_0⟩ := Kd.R_celln 0 HO_10.out (t1166 : Int) p25 q25; replace p25 := eq_true p25; replace q25 := eq_true q25; obtain ⟨hy29_, hz29_⟩ := Kd.R_celln 0 HO_10.out (t1166 : Int) (of_decide_eq_true (by first | (with_reducible assumption) | assumption)) (of_decide_eq_true (by first | (with_reducible assumption) | assumption)); have HP29 := Kd.R_putg HO_10.out (t1166 : Int) (wrap64 ((rd x10_2 t1166) - 1))) | ((with_reducible refine gate_store (t := 3) (p := 87) rfl ?_); refine store_event (t := 3) (p := 87) (v := ?vo_w30) (w1 := (w28.setCell ⟨go25, (t1166 : Int).toNat, none⟩ (.int .i64 (wrap64 ((rd x10_2 t1166) - 1))))) ?hg ?ho ?hn ?hr ?_; (case ho => rfl); (case hg => rfl); (case hn => rfl); (case hr => first | (go_simp; done) | (go_simp; rfl)); intro w30 hw; have hg : w28.grownBy w30 (some go25) := (by rw [hw]; exact HP29.2); have hp_ : Kd.R (Kd.int .i64) 3 w30 w.heap.size (fun _ => True) (.slice (some ⟨go25, 0, none⟩) x10_2.length co12) y1171 := (by rw [hw, Ny1171.out]; exact HP29.1); clear HP29; have n0_ := Aside0.mk (Kd.R_over' (v := (.slice (some ⟨go25, 0, none⟩) x10_2.length co12)) (by (with_reducible repeat (first | apply Kd.R_alloc | apply Kd.R_drewN | apply Kd.R_drew)); exact HO_9.out) (Kd.R_typed HO_10.out) (by decide) hg); have n1_ := Aside0.mk (hp_); have n2_ := Aside0.mk ((by rw [hw]; exact below_set (HB.out) GB25.out : Below w.heap.size w w30)); clear HO_9; clear HO_10; clear HB; have HO_9 := n0_; have HO_10 := n1_; have HB := n2_; clear n0_ n1_ n2_; clear hg hw hp_))
               (try simp only [← hl10_2])
               go_roundg k2
               case measure => have := HK1.out; have := HK2.out; omega
               case rel => exact ⟨(y1169), (y1171), (wrap64 (x11_2 - 1)), (wrap64 (x13_2 + 1)), (by first | rfl | (simp; done) | (simp [*]; done)), (by first | rfl | (simp; done) | (simp [*]; done)), H', ⟨by have := HK1.out; have := HK2.out; omega⟩, ⟨by (try simp only [hl10_2]); (with_reducible repeat (first | apply Kd.R_alloc | apply Kd.R_drewN | apply Kd.R_drew)); exact HO_9.out⟩, ⟨by (try simp only [hl10_2]); (with_reducible repeat (first | apply Kd.R_alloc | apply Kd.R_drewN | apply Kd.R_drew)); exact HO_10.out⟩, ⟨by repeat (first | (with_reducible first | exact HB.out | apply below_alloc | apply pw_below_drewN | apply below_drew1) | exact HB.out)⟩⟩
              ·rw [if_neg c24] at H
               exact absurd H (by simp)
             ·rw [if_neg c23] at H
              exact absurd H (by simp)
            ·rw [if_neg c21] at H
             have c21b0 : (((rd_T130 x9_2 (ji17)).f2) == x13_2) = false := beq_eq_false_iff_ne.mpr c21
             have c21b1 : (((rd_T130 x9_2 (ji17)).f2) != x13_2) = true := bne_iff_ne.mpr c21
             by_cases c31 : x9_2.length < 5864062014805
             ·rw [if_pos c31] at H
              have LMc31 := Aside0.mk c31
              clear c31
              obtain ⟨y1172, hy1172⟩ : ∃ y_ : List (S130), y_ = (x9_2 ++ [(⟨t1166, x13_2, wrap64 (x13_2 + 1)⟩ : S130)]) := ⟨_, rfl⟩
              replace H : (if 0 ≤ t1166 then (if t1166 < (x10_2.length : Int) then (spec_l5Choose.l1 k2 l0 a3 y1172 (x10_2.set (t1166 : Int).toNat (wrap64 ((rd x10_2 t1166) - 1))) (wrap64 (x11_2 - 1)) (wrap64 (x13_2 + 1))) else (none)) else (none)) = some r := by first | (rw [hy1172]; with_reducible exact H) | (have H2_ := (Option.bind_some _ _).symm.trans H; rw [hy1172]; with_reducible exact H2_) | (have H2_ := (Option.bind_some _ _).symm.trans H; with_reducible exact H2_) | with_reducible exact H | (rw [hy1172]; exact H) | exact H
              have Ny1172 := Aside0.mk hy1172
              clear hy1172
              by_cases c32 : 0 ≤ t1166
              ·rw [if_pos c32] at H
               have c32b0 : decide (0 ≤ t1166) = true := decide_eq_true c32
               clear c32
               by_cases c33 : t1166 < (x10_2.length : Int)
               ·rw [if_pos c33] at H
                have c33b0 : decide (t1166 < (x10_2.length : Int)) = true := decide_eq_true c33
                clear c33
                obtain ⟨y1176, hy1176⟩ : ∃ y_ : List Int, y_ = (x10_2.set (t1166 : Int).toNat (wrap64 ((rd x10_2 t1166) - 1))) := ⟨_, rfl⟩
                replace H : (spec_l5Choose.l1 k2 l0 a3 y1172 y1176 (wrap64 (x11_2 - 1)) (wrap64 (x13_2 + 1))) = some r := by first | (rw [hy1176]; with_reducible exact H) | (have H2_ := (Option.bind_some _ _).symm.trans H; rw [hy1176]; with_reducible exact H2_) | (have H2_ := (Option.bind_some _ _).symm.trans H; with_reducible exact H2_) | with_reducible exact H | (rw [hy1176]; exact H) | exact H
                have Ny1176 := Aside0.mk hy1176
                clear hy1176
                have H' := Aside0.mk H
                clear H
                go_wp2_with (first | ((with_reducible refine gate_callee (f := 159) rfl ?_); refine goesL_ (some 40) rfl rfl Try.func159 (by kernel_rfl) rfl #[.slice A0 l0.length c0, .slice Ao12 x10_2.length co12, .int .i64 x13_2, .int .i64 a3] rfl (by (try simp only [List.map_toArray, List.map_cons, List.map_nil]); first | done | rfl | (simp only [List.length_drop, List.length_take]; rfl)) ?_; (with_reducible refine (spec_l5Pick.calls k2 _ _ l0 _ _ x10_2 x13_2 a3 t1166 _ ?side1 ?side2 ?side3 ?side4 A14.out).mono ?_); (case side1 => repeat (first | exact (Kd.C_below HR0.out HB.out) | (with_reducible refine Kd.C_alloc ?_ _) | (with_reducible refine Kd.C_drewN ?_ _) | (with_reducible refine Kd.C_drew ?_))); (case side2 => exact HC0.out); (case side3 => repeat (first | exact (Kd.R_reads' HO_10.out).2.2 | (with_reducible refine Kd.C_alloc ?_ _) | (with_reducible refine Kd.C_drewN ?_ _) | (with_reducible refine Kd.C_drew ?_))); (case side4 => exact (Kd.R_reads' HO_10.out).2.1); rintro e w' ⟨rfl, ⟨nd, rfl⟩⟩; refine ⟨_, rfl, ?_⟩; (try (rw [drewN_self wr]; generalize hq_ : World.drewN wr _ = wr; have n0_ : Aside0 (Kd.R (Kd.int .i64) 3 wr w.heap.size (fun _ => True) (.slice Ao12 x10_2.length co12) x10_2) := ⟨by rw [← hq_]; exact (by (with_reducible repeat (first | apply Kd.R_alloc | apply Kd.R_drewN | apply Kd.R_drew)); exact HO_10.out)⟩; have n1_ : Aside0 (Kd.R k130 130 wr w.heap.size (fun _ => True) u9 x9_2) := ⟨by rw [← hq_]; exact (by (with_reducible repeat (first | apply Kd.R_alloc | apply Kd.R_drewN | apply Kd.R_drew)); exact HO_9.out)⟩; have n2_ : Aside0 (Below w.heap.size w wr) := ⟨by rw [← hq_]; exact (by repeat (first | (with_reducible first | exact HB.out | apply below_alloc | apply pw_below_drewN | apply below_drew1) | exact HB.out))⟩; (try replace hx1165_0 := cell_at hq_ hx1165_0); (try replace hx25_0 := cell_at hq_ hx25_0); (try replace hf25_0 := frz_at hq_ hf25_0); (try replace hx1167_0 := cell_at hq_ hx1167_0); (try replace hx1167_1 := cell_at hq_ hx1167_1); (try replace hx1167_2 := cell_at hq_ hx1167_2); (try replace hx34_0 := cell_at hq_ hx34_0); (try replace hf34_0 := frz_at hq_ hf34_0); clear HO_10 HO_9 HB hq_; have HO_10 := n0_; have HO_9 := n1_; have HB := n2_; clear n0_ n1_ n2_)); obtain ⟨Ao35, co35, eo35⟩ := Kd.R_slice HO_9.out; subst eo35; have p1167 : 0 ≤ ((ji17) : Int) := of_decide_eq_true (by first | (with_reducible assumption) | assumption); have q1167 : (ji17) < (x9_2.length : Int) := of_decide_eq_true (by first | (with_reducible assumption) | assumption); obtain ⟨ad1167, e1167, hx1167_0, hx1167_1, hx1167_2⟩ := at_T130 (Kd.R_reads' HO_9.out).2.2 (ji17) p1167 q1167; cases e1167; replace p1167 := eq_true p1167; replace q1167 := eq_true q1167; have p1168 : 0 ≤ ((ji17) : Int) := of_decide_eq_true (by first | (with_reducible assumption) | assumption); have q1168 : (ji17) < (x9_2.length : Int) := of_decide_eq_true (by first | (with_reducible assumption) | assumption); obtain ⟨ad1168, e1168, hx1168_0, hx1168_1, hx1168_2⟩ := at_T130 (Kd.R_reads' HO_9.out).2.2 (ji17) p1168 q1168; obtain rfl : ad1167 = ad1168 := (by injection e1168); replace p1168 := eq_true p1168; replace q1168 := eq_true q1168) | ((with_reducible refine gate_builtin (b := .append) (xs := #[.tmp 72, .tmp 78]) rfl ?_); at_builtin; refine Kd.R_append k130 (w0 := w) w.heap.size rfl (.tmp 72) (.tmp 78) 72 130 (.agg #[(.int .i64 0), (.int .i64 0), (.int .i64 0)]) 24 rfl Try.underlying72 info130 rfl (by decide) (by omega) (.slice (some ad1167) x9_2.length co35) x9_2 (⟨t1166, x13_2, wrap64 (x13_2 + 1)⟩ : S130) [.int .i64 t1166, .int .i64 x13_2, .int .i64 (wrap64 (x13_2 + 1))] (fun _ => True) (fun _ => False) rfl rfl ?aP (fun _ hk => hk.elim) ?aF ?aO ?aB ?aS ?aL ?_; (case aP => exact k130_mkM _ _ _ (⟨t1166, x13_2, wrap64 (x13_2 + 1)⟩ : S130)); (case aB => exact (by repeat (first | (with_reducible first | exact HB.out | apply below_alloc | apply pw_below_drewN | apply below_drew1) | exact HB.out))); (case aF => exact (fun _ _ => trivial)); (case aO => exact (by (with_reducible repeat (first | apply Kd.R_alloc | apply Kd.R_drewN | apply Kd.R_drew)); exact HO_9.out)); (case aS => exact (below_size (by repeat (first | (with_reducible first | exact HB.out | apply below_alloc | apply pw_below_drewN | apply below_drew1) | exact HB.out)))); (case aL => have := LMc31.out; omega); intro v1173 w36 ho hb hg hat; rw [← Ny1172.out] at ho; have n0_ := Aside0.mk (Kd.R_over' (by (with_reducible repeat (first | apply Kd.R_alloc | apply Kd.R_drewN | apply Kd.R_drew)); exact HO_10.out) (Kd.R_typed (by (with_reducible repeat (first | apply Kd.R_alloc | apply Kd.R_drewN | apply Kd.R_drew)); exact HO_9.out)) (by decide) hg); have n1_ := Aside0.mk (hb); have n2_ := Aside0.mk (ho); clear HO_10; clear HB; clear HO_9; have HO_10 := n0_; have HB := n1_; have HO1174 := n2_; clear n0_ n1_ n2_; clear ho hb hg hat; have p1175 : 0 ≤ (t1166 : Int) := of_decide_eq_true (by first | (with_reducible assumption) | assumption); have q1175 : t1166 < (x10_2.length : Int) := of_decide_eq_true (by first | (with_reducible assumption) | assumption); obtain ⟨ad1175, e1175, hx1175_0⟩ := Kd.at_int (Kd.R_reads' HO_10.out).2.2 t1166 p1175 q1175; cases e1175; replace p1175 := eq_true p1175; replace q1175 := eq_true q1175; have p34 : 0 ≤ (t1166 : Int) := of_decide_eq_true (by first | (with_reducible assumption) | assumption); have q34 : (t1166 : Int) < ((x10_2.length : Int) : Int) := of_decide_eq_true (by first | (with_reducible assumption) | assumption); obtain ⟨go34, co34, eo34, gb34, gl34, cl34, HG34⟩ := Kd.R_form HO_10.out (by omega); (first | cases eo34 | (injection eo34 with ea_ en_ ec_; (first | subst ea_ | (injection ea_ with ea_; subst ea_)); subst ec_; clear en_)); have GB34 := Aside0.mk gb34; have GG34 := Aside0.mk HG34; clear gb34 gl34 HG34; (first | simp only [add_plain] at hx1175_0 | skip); obtain ⟨hx34_0, hf34_0⟩ := Kd.R_celln 0 HO_10.out (t1166 : Int) p34 q34; replace p34 := eq_true p34; replace q34 := eq_true q34; obtain ⟨hy37_, hz37_⟩ := Kd.R_celln 0 HO_10.out (t1166 : Int) (of_decide_eq_true (by first | (with_reducible assumption) | assumption)) (of_decide_eq_true (by first | (with_reducible assumption) | assumption)); have HP37 := Kd.R_putg HO_10.out (t1166 : Int) (wrap64 ((rd x10_2 t1166) - 1))) | ((with_reducible refine gate_store (t := 3) (p := 87) rfl ?_); refine store_event (t := 3) (p := 87) (v := ?vo_w38) (w1 := (w36.setCell ⟨go34, (t1166 : Int).toNat, none⟩ (.int .i64 (wrap64 ((rd x10_2 t1166) - 1))))) ?hg ?ho ?hn ?hr ?_; (case ho => rfl); (case hg => rfl); (case hn => rfl); (case hr => first | (go_simp; done) | (go_simp; rfl)); intro w38 hw; have hg : w36.grownBy w38 (some go34) := (by rw [hw]; exact HP37.2); have hp_ : Kd.R (Kd.int .i64) 3 w38 w.heap.size (fun _ => True) (.slice (some ⟨go34, 0, none⟩) x10_2.length co12) y1176 := (by rw [hw, Ny1176.out]; exact HP37.1); clear HP37; have n0_ := Aside0.mk (hp_); have n1_ := Aside0.mk (Kd.R_over' (v := (.slice (some ⟨go34, 0, none⟩) x10_2.length co12)) (by (with_reducible repeat (first | apply Kd.R_alloc | apply Kd.R_drewN | apply Kd.R_drew)); exact HO1174.out) (Kd.R_typed HO_10.out) (by decide) hg); have n2_ := Aside0.mk ((by rw [hw]; exact below_set (HB.out) GB34.out : Below w.heap.size w w38)); clear HO_10; clear HO1174; clear HB; have HO_10 := n0_; have HO1174 := n1_; have HB := n2_; clear n0_ n1_ n2_; clear hg hw hp_))
                (try simp only [← hl10_2])
                go_roundg k2
                case measure => have := HK1.out; have := HK2.out; omega
                case rel => exact ⟨(y1172), (y1176), (wrap64 (x11_2 - 1)), (wrap64 (x13_2 + 1)), (by first | rfl | (simp; done) | (simp [*]; done)), (by first | rfl | (simp; done) | (simp [*]; done)), H', ⟨by have := HK1.out; have := HK2.out; omega⟩, ⟨by (try simp only [hl10_2]); (with_reducible repeat (first | apply Kd.R_alloc | apply Kd.R_drewN | apply Kd.R_drew)); exact HO1174.out⟩, ⟨by (try simp only [hl10_2]); (with_reducible repeat (first | apply Kd.R_alloc | apply Kd.R_drewN | apply Kd.R_drew)); exact HO_10.out⟩, ⟨by repeat (first | (with_reducible first | exact HB.out | apply below_alloc | apply pw_below_drewN | apply below_drew1) | exact HB.out)⟩⟩
               ·rw [if_neg c33] at H
                exact absurd H (by simp)
              ·rw [if_neg c32] at H
               exact absurd H (by simp)
             ·rw [if_neg c31] at H
              exact absurd H (by simp)
           ·rw [if_neg c20] at H
            have c20b0 : (((rd_T130 x9_2 (ji17)).f0) == t1166) = false := beq_eq_false_iff_ne.mpr c20
            have c20b1 : (((rd_T130 x9_2 (ji17)).f0) != t1166) = true := bne_iff_ne.mpr c20
            by_cases c39 : x9_2.length < 5864062014805
            ·rw [if_pos c39] at H
             have LMc39 := Aside0.mk c39
             clear c39
             obtain ⟨y1177, hy1177⟩ : ∃ y_ : List (S130), y_ = (x9_2 ++ [(⟨t1166, x13_2, wrap64 (x13_2 + 1)⟩ : S130)]) := ⟨_, rfl⟩
             replace H : (if 0 ≤ t1166 then (if t1166 < (x10_2.length : Int) then (spec_l5Choose.l1 k2 l0 a3 y1177 (x10_2.set (t1166 : Int).toNat (wrap64 ((rd x10_2 t1166) - 1))) (wrap64 (x11_2 - 1)) (wrap64 (x13_2 + 1))) else (none)) else (none)) = some r := by first | (rw [hy1177]; with_reducible exact H) | (have H2_ := (Option.bind_some _ _).symm.trans H; rw [hy1177]; with_reducible exact H2_) | (have H2_ := (Option.bind_some _ _).symm.trans H; with_reducible exact H2_) | with_reducible exact H | (rw [hy1177]; exact H) | exact H
             have Ny1177 := Aside0.mk hy1177
             clear hy1177
             by_cases c40 : 0 ≤ t1166
             ·rw [if_pos c40] at H
              have c40b0 : decide (0 ≤ t1166) = true := decide_eq_true c40
              clear c40
              by_cases c41 : t1166 < (x10_2.length : Int)
              ·rw [if_pos c41] at H
               have c41b0 : decide (t1166 < (x10_2.length : Int)) = true := decide_eq_true c41
               clear c41
               obtain ⟨y1181, hy1181⟩ : ∃ y_ : List Int, y_ = (x10_2.set (t1166 : Int).toNat (wrap64 ((rd x10_2 t1166) - 1))) := ⟨_, rfl⟩
               replace H : (spec_l5Choose.l1 k2 l0 a3 y1177 y1181 (wrap64 (x11_2 - 1)) (wrap64 (x13_2 + 1))) = some r := by first | (rw [hy1181]; with_reducible exact H) | (have H2_ := (Option.bind_some _ _).symm.trans H; rw [hy1181]; with_reducible exact H2_) | (have H2_ := (Option.bind_some _ _).symm.trans H; with_reducible exact H2_) | with_reducible exact H | (rw [hy1181]; exact H) | exact H
               have Ny1181 := Aside0.mk hy1181
               clear hy1181
               have H' := Aside0.mk H
               clear H
               go_wp2_with (first | ((with_reducible refine gate_callee (f := 159) rfl ?_); refine goesL_ (some 40) rfl rfl Try.func159 (by kernel_rfl) rfl #[.slice A0 l0.length c0, .slice Ao12 x10_2.length co12, .int .i64 x13_2, .int .i64 a3] rfl (by (try simp only [List.map_toArray, List.map_cons, List.map_nil]); first | done | rfl | (simp only [List.length_drop, List.length_take]; rfl)) ?_; (with_reducible refine (spec_l5Pick.calls k2 _ _ l0 _ _ x10_2 x13_2 a3 t1166 _ ?side1 ?side2 ?side3 ?side4 A14.out).mono ?_); (case side1 => repeat (first | exact (Kd.C_below HR0.out HB.out) | (with_reducible refine Kd.C_alloc ?_ _) | (with_reducible refine Kd.C_drewN ?_ _) | (with_reducible refine Kd.C_drew ?_))); (case side2 => exact HC0.out); (case side3 => repeat (first | exact (Kd.R_reads' HO_10.out).2.2 | (with_reducible refine Kd.C_alloc ?_ _) | (with_reducible refine Kd.C_drewN ?_ _) | (with_reducible refine Kd.C_drew ?_))); (case side4 => exact (Kd.R_reads' HO_10.out).2.1); rintro e w' ⟨rfl, ⟨nd, rfl⟩⟩; refine ⟨_, rfl, ?_⟩; (try (rw [drewN_self wr]; generalize hq_ : World.drewN wr _ = wr; have n0_ : Aside0 (Kd.R (Kd.int .i64) 3 wr w.heap.size (fun _ => True) (.slice Ao12 x10_2.length co12) x10_2) := ⟨by rw [← hq_]; exact (by (with_reducible repeat (first | apply Kd.R_alloc | apply Kd.R_drewN | apply Kd.R_drew)); exact HO_10.out)⟩; have n1_ : Aside0 (Kd.R k130 130 wr w.heap.size (fun _ => True) u9 x9_2) := ⟨by rw [← hq_]; exact (by (with_reducible repeat (first | apply Kd.R_alloc | apply Kd.R_drewN | apply Kd.R_drew)); exact HO_9.out)⟩; have n2_ : Aside0 (Below w.heap.size w wr) := ⟨by rw [← hq_]; exact (by repeat (first | (with_reducible first | exact HB.out | apply below_alloc | apply pw_below_drewN | apply below_drew1) | exact HB.out))⟩; (try replace hx1165_0 := cell_at hq_ hx1165_0); (try replace hx25_0 := cell_at hq_ hx25_0); (try replace hf25_0 := frz_at hq_ hf25_0); (try replace hx1167_0 := cell_at hq_ hx1167_0); (try replace hx1167_1 := cell_at hq_ hx1167_1); (try replace hx1167_2 := cell_at hq_ hx1167_2); (try replace hx34_0 := cell_at hq_ hx34_0); (try replace hf34_0 := frz_at hq_ hf34_0); (try replace hx42_0 := cell_at hq_ hx42_0); (try replace hf42_0 := frz_at hq_ hf42_0); clear HO_10 HO_9 HB hq_; have HO_10 := n0_; have HO_9 := n1_; have HB := n2_; clear n0_ n1_ n2_)); obtain ⟨Ao43, co43, eo43⟩ := Kd.R_slice HO_9.out; subst eo43; have p1167 : 0 ≤ ((ji17) : Int) := of_decide_eq_true (by first | (with_reducible assumption) | assumption); have q1167 : (ji17) < (x9_2.length : Int) := of_decide_eq_true (by first | (with_reducible assumption) | assumption); obtain ⟨ad1167, e1167, hx1167_0, hx1167_1, hx1167_2⟩ := at_T130 (Kd.R_reads' HO_9.out).2.2 (ji17) p1167 q1167; cases e1167; replace p1167 := eq_true p1167; replace q1167 := eq_true q1167) | ((with_reducible refine gate_builtin (b := .append) (xs := #[.tmp 72, .tmp 78]) rfl ?_); at_builtin; refine Kd.R_append k130 (w0 := w) w.heap.size rfl (.tmp 72) (.tmp 78) 72 130 (.agg #[(.int .i64 0), (.int .i64 0), (.int .i64 0)]) 24 rfl Try.underlying72 info130 rfl (by decide) (by omega) (.slice (some ad1167) x9_2.length co43) x9_2 (⟨t1166, x13_2, wrap64 (x13_2 + 1)⟩ : S130) [.int .i64 t1166, .int .i64 x13_2, .int .i64 (wrap64 (x13_2 + 1))] (fun _ => True) (fun _ => False) rfl rfl ?aP (fun _ hk => hk.elim) ?aF ?aO ?aB ?aS ?aL ?_; (case aP => exact k130_mkM _ _ _ (⟨t1166, x13_2, wrap64 (x13_2 + 1)⟩ : S130)); (case aB => exact (by repeat (first | (with_reducible first | exact HB.out | apply below_alloc | apply pw_below_drewN | apply below_drew1) | exact HB.out))); (case aF => exact (fun _ _ => trivial)); (case aO => exact (by (with_reducible repeat (first | apply Kd.R_alloc | apply Kd.R_drewN | apply Kd.R_drew)); exact HO_9.out)); (case aS => exact (below_size (by repeat (first | (with_reducible first | exact HB.out | apply below_alloc | apply pw_below_drewN | apply below_drew1) | exact HB.out)))); (case aL => have := LMc39.out; omega); intro v1178 w44 ho hb hg hat; rw [← Ny1177.out] at ho; have n0_ := Aside0.mk (Kd.R_over' (by (with_reducible repeat (first | apply Kd.R_alloc | apply Kd.R_drewN | apply Kd.R_drew)); exact HO_10.out) (Kd.R_typed (by (with_reducible repeat (first | apply Kd.R_alloc | apply Kd.R_drewN | apply Kd.R_drew)); exact HO_9.out)) (by decide) hg); have n1_ := Aside0.mk (hb); have n2_ := Aside0.mk (ho); clear HO_10; clear HB; clear HO_9; have HO_10 := n0_; have HB := n1_; have HO1179 := n2_; clear n0_ n1_ n2_; clear ho hb hg hat; have p1180 : 0 ≤ (t1166 : Int) := of_decide_eq_true (by first | (with_reducible assumption) | assumption); have q1180 : t1166 < (x10_2.length : Int) := of_decide_eq_true (by first | (with_reducible assumption) | assumption); obtain ⟨ad1180, e1180, hx1180_0⟩ := Kd.at_int (Kd.R_reads' HO_10.out).2.2 t1166 p1180 q1180; cases e1180; replace p1180 := eq_true p1180; replace q1180 := eq_true q1180; have p42 : 0 ≤ (t1166 : Int) := of_decide_eq_true (by first | (with_reducible assumption) | assumption); have q42 : (t1166 : Int) < ((x10_2.length : Int) : Int) := of_decide_eq_true (by first | (with_reducible assumption) | assumption); obtain ⟨go42, co42, eo42, gb42, gl42, cl42, HG42⟩ := Kd.R_form HO_10.out (by omega); (first | cases eo42 | (injection eo42 with ea_ en_ ec_; (first | subst ea_ | (injection ea_ with ea_; subst ea_)); subst ec_; clear en_)); have GB42 := Aside0.mk gb42; have GG42 := Aside0.mk HG42; clear gb42 gl42 HG42; (first | simp only [add_plain] at hx1180_0 | skip); obtain ⟨hx42_0, hf42_0⟩ := Kd.R_celln 0 HO_10.out (t1166 : Int) p42 q42; replace p42 := eq_true p42; replace q42 := eq_true q42; obtain ⟨hy45_, hz45_⟩ := Kd.R_celln 0 HO_10.out (t1166 : Int) (of_decide_eq_true (by first | (with_reducible assumption) | assumption)) (of_decide_eq_true (by first | (with_reducible assumption) | assumption)); have HP45 := Kd.R_putg HO_10.out (t1166 : Int) (wrap64 ((rd x10_2 t1166) - 1))) | ((with_reducible refine gate_store (t := 3) (p := 87) rfl ?_); refine store_event (t := 3) (p := 87) (v := ?vo_w46) (w1 := (w44.setCell ⟨go42, (t1166 : Int).toNat, none⟩ (.int .i64 (wrap64 ((rd x10_2 t1166) - 1))))) ?hg ?ho ?hn ?hr ?_; (case ho => rfl); (case hg => rfl); (case hn => rfl); (case hr => first | (go_simp; done) | (go_simp; rfl)); intro w46 hw; have hg : w44.grownBy w46 (some go42) := (by rw [hw]; exact HP45.2); have hp_ : Kd.R (Kd.int .i64) 3 w46 w.heap.size (fun _ => True) (.slice (some ⟨go42, 0, none⟩) x10_2.length co12) y1181 := (by rw [hw, Ny1181.out]; exact HP45.1); clear HP45; have n0_ := Aside0.mk (hp_); have n1_ := Aside0.mk (Kd.R_over' (v := (.slice (some ⟨go42, 0, none⟩) x10_2.length co12)) (by (with_reducible repeat (first | apply Kd.R_alloc | apply Kd.R_drewN | apply Kd.R_drew)); exact HO1179.out) (Kd.R_typed HO_10.out) (by decide) hg); have n2_ := Aside0.mk ((by rw [hw]; exact below_set (HB.out) GB42.out : Below w.heap.size w w46)); clear HO_10; clear HO1179; clear HB; have HO_10 := n0_; have HO1179 := n1_; have HB := n2_; clear n0_ n1_ n2_; clear hg hw hp_))
               (try simp only [← hl10_2])
               go_roundg k2
               case measure => have := HK1.out; have := HK2.out; omega
               case rel => exact ⟨(y1177), (y1181), (wrap64 (x11_2 - 1)), (wrap64 (x13_2 + 1)), (by first | rfl | (simp; done) | (simp [*]; done)), (by first | rfl | (simp; done) | (simp [*]; done)), H', ⟨by have := HK1.out; have := HK2.out; omega⟩, ⟨by (try simp only [hl10_2]); (with_reducible repeat (first | apply Kd.R_alloc | apply Kd.R_drewN | apply Kd.R_drew)); exact HO1179.out⟩, ⟨by (try simp only [hl10_2]); (with_reducible repeat (first | apply Kd.R_alloc | apply Kd.R_drewN | apply Kd.R_drew)); exact HO_10.out⟩, ⟨by repeat (first | (with_reducible first | exact HB.out | apply below_alloc | apply pw_below_drewN | apply below_drew1) | exact HB.out)⟩⟩
              ·rw [if_neg c41] at H
               exact absurd H (by simp)
             ·rw [if_neg c40] at H
              exact absurd H (by simp)
            ·rw [if_neg c39] at H
             exact absurd H (by simp)
          ·rw [if_neg c19] at H
           exact absurd H (by simp)
         ·rw [if_neg c18] at H
          exact absurd H (by simp)
        ·rw [if_neg c16] at H
         have c16b0 : decide (0 ≤ (wrap64 ((x9_2.length : Int) - 1))) = false := decide_eq_false c16
         clear c16
         by_cases c47 : x9_2.length < 5864062014805
         ·rw [if_pos c47] at H
          have LMc47 := Aside0.mk c47
          clear c47
          obtain ⟨y1182, hy1182⟩ : ∃ y_ : List (S130), y_ = (x9_2 ++ [(⟨t1166, x13_2, wrap64 (x13_2 + 1)⟩ : S130)]) := ⟨_, rfl⟩
          replace H : (if 0 ≤ t1166 then (if t1166 < (x10_2.length : Int) then (spec_l5Choose.l1 k2 l0 a3 y1182 (x10_2.set (t1166 : Int).toNat (wrap64 ((rd x10_2 t1166) - 1))) (wrap64 (x11_2 - 1)) (wrap64 (x13_2 + 1))) else (none)) else (none)) = some r := by first | (rw [hy1182]; with_reducible exact H) | (have H2_ := (Option.bind_some _ _).symm.trans H; rw [hy1182]; with_reducible exact H2_) | (have H2_ := (Option.bind_some _ _).symm.trans H; with_reducible exact H2_) | with_reducible exact H | (rw [hy1182]; exact H) | exact H
          have Ny1182 := Aside0.mk hy1182
          clear hy1182
          by_cases c48 : 0 ≤ t1166
          ·rw [if_pos c48] at H
           have c48b0 : decide (0 ≤ t1166) = true := decide_eq_true c48
           clear c48
           by_cases c49 : t1166 < (x10_2.length : Int)
           ·rw [if_pos c49] at H
            have c49b0 : decide (t1166 < (x10_2.length : Int)) = true := decide_eq_true c49
            clear c49
            obtain ⟨y1186, hy1186⟩ : ∃ y_ : List Int, y_ = (x10_2.set (t1166 : Int).toNat (wrap64 ((rd x10_2 t1166) - 1))) := ⟨_, rfl⟩
            replace H : (spec_l5Choose.l1 k2 l0 a3 y1182 y1186 (wrap64 (x11_2 - 1)) (wrap64 (x13_2 + 1))) = some r := by first | (rw [hy1186]; with_reducible exact H) | (have H2_ := (Option.bind_some _ _).symm.trans H; rw [hy1186]; with_reducible exact H2_) | (have H2_ := (Option.bind_some _ _).symm.trans H; with_reducible exact H2_) | with_reducible exact H | (rw [hy1186]; exact H) | exact H
            have Ny1186 := Aside0.mk hy1186
            clear hy1186
            have H' := Aside0.mk H
            clear H
            go_wp2_with (first | ((with_reducible refine gate_callee (f := 159) rfl ?_); refine goesL_ (some 40) rfl rfl Try.func159 (by kernel_rfl) rfl #[.slice A0 l0.length c0, .slice Ao12 x10_2.length co12, .int .i64 x13_2, .int .i64 a3] rfl (by (try simp only [List.map_toArray, List.map_cons, List.map_nil]); first | done | rfl | (simp only [List.length_drop, List.length_take]; rfl)) ?_; (with_reducible refine (spec_l5Pick.calls k2 _ _ l0 _ _ x10_2 x13_2 a3 t1166 _ ?side1 ?side2 ?side3 ?side4 A14.out).mono ?_); (case side1 => repeat (first | exact (Kd.C_below HR0.out HB.out) | (with_reducible refine Kd.C_alloc ?_ _) | (with_reducible refine Kd.C_drewN ?_ _) | (with_reducible refine Kd.C_drew ?_))); (case side2 => exact HC0.out); (case side3 => repeat (first | exact (Kd.R_reads' HO_10.out).2.2 | (with_reducible refine Kd.C_alloc ?_ _) | (with_reducible refine Kd.C_drewN ?_ _) | (with_reducible refine Kd.C_drew ?_))); (case side4 => exact (Kd.R_reads' HO_10.out).2.1); rintro e w' ⟨rfl, ⟨nd, rfl⟩⟩; refine ⟨_, rfl, ?_⟩; (try (rw [drewN_self wr]; generalize hq_ : World.drewN wr _ = wr; have n0_ : Aside0 (Kd.R (Kd.int .i64) 3 wr w.heap.size (fun _ => True) (.slice Ao12 x10_2.length co12) x10_2) := ⟨by rw [← hq_]; exact (by (with_reducible repeat (first | apply Kd.R_alloc | apply Kd.R_drewN | apply Kd.R_drew)); exact HO_10.out)⟩; have n1_ : Aside0 (Kd.R k130 130 wr w.heap.size (fun _ => True) u9 x9_2) := ⟨by rw [← hq_]; exact (by (with_reducible repeat (first | apply Kd.R_alloc | apply Kd.R_drewN | apply Kd.R_drew)); exact HO_9.out)⟩; have n2_ : Aside0 (Below w.heap.size w wr) := ⟨by rw [← hq_]; exact (by repeat (first | (with_reducible first | exact HB.out | apply below_alloc | apply pw_below_drewN | apply below_drew1) | exact HB.out))⟩; (try replace hx1165_0 := cell_at hq_ hx1165_0); (try replace hx25_0 := cell_at hq_ hx25_0); (try replace hf25_0 := frz_at hq_ hf25_0); (try replace hx1167_0 := cell_at hq_ hx1167_0); (try replace hx1167_1 := cell_at hq_ hx1167_1); (try replace hx1167_2 := cell_at hq_ hx1167_2); (try replace hx34_0 := cell_at hq_ hx34_0); (try replace hf34_0 := frz_at hq_ hf34_0); (try replace hx42_0 := cell_at hq_ hx42_0); (try replace hf42_0 := frz_at hq_ hf42_0); (try replace hx50_0 := cell_at hq_ hx50_0); (try replace hf50_0 := frz_at hq_ hf50_0); (try replace hx1185_0 := cell_at hq_ hx1185_0); clear HO_10 HO_9 HB hq_; have HO_10 := n0_; have HO_9 := n1_; have HB := n2_; clear n0_ n1_ n2_)); obtain ⟨Ao51, co51, eo51⟩ := Kd.R_slice HO_9.out; subst eo51) | ((with_reducible refine gate_builtin (b := .append) (xs := #[.tmp 72, .tmp 78]) rfl ?_); at_builtin; refine Kd.R_append k130 (w0 := w) w.heap.size rfl (.tmp 72) (.tmp 78) 72 130 (.agg #[(.int .i64 0), (.int .i64 0), (.int .i64 0)]) 24 rfl Try.underlying72 info130 rfl (by decide) (by omega) (.slice Ao51 x9_2.length co51) x9_2 (⟨t1166, x13_2, wrap64 (x13_2 + 1)⟩ : S130) [.int .i64 t1166, .int .i64 x13_2, .int .i64 (wrap64 (x13_2 + 1))] (fun _ => True) (fun _ => False) rfl rfl ?aP (fun _ hk => hk.elim) ?aF ?aO ?aB ?aS ?aL ?_; (case aP => exact k130_mkM _ _ _ (⟨t1166, x13_2, wrap64 (x13_2 + 1)⟩ : S130)); (case aB => exact (by repeat (first | (with_reducible first | exact HB.out | apply below_alloc | apply pw_below_drewN | apply below_drew1) | exact HB.out))); (case aF => exact (fun _ _ => trivial)); (case aO => exact (by (with_reducible repeat (first | apply Kd.R_alloc | apply Kd.R_drewN | apply Kd.R_drew)); exact HO_9.out)); (case aS => exact (below_size (by repeat (first | (with_reducible first | exact HB.out | apply below_alloc | apply pw_below_drewN | apply below_drew1) | exact HB.out)))); (case aL => have := LMc47.out; omega); intro v1183 w52 ho hb hg hat; rw [← Ny1182.out] at ho; have n0_ := Aside0.mk (Kd.R_over' (by (with_reducible repeat (first | apply Kd.R_alloc | apply Kd.R_drewN | apply Kd.R_drew)); exact HO_10.out) (Kd.R_typed (by (with_reducible repeat (first | apply Kd.R_alloc | apply Kd.R_drewN | apply Kd.R_drew)); exact HO_9.out)) (by decide) hg); have n1_ := Aside0.mk (hb); have n2_ := Aside0.mk (ho); clear HO_10; clear HB; clear HO_9; have HO_10 := n0_; have HB := n1_; have HO1184 := n2_; clear n0_ n1_ n2_; clear ho hb hg hat; have p1185 : 0 ≤ (t1166 : Int) := of_decide_eq_true (by first | (with_reducible assumption) | assumption); have q1185 : t1166 < (x10_2.length : Int) := of_decide_eq_true (by first | (with_reducible assumption) | assumption); obtain ⟨ad1185, e1185, hx1185_0⟩ := Kd.at_int (Kd.R_reads' HO_10.out).2.2 t1166 p1185 q1185; cases e1185; replace p1185 := eq_true p1185; replace q1185 := eq_true q1185; have p50 : 0 ≤ (t1166 : Int) := of_decide_eq_true (by first | (with_reducible assumption) | assumption); have q50 : (t1166 : Int) < ((x10_2.length : Int) : Int) := of_decide_eq_true (by first | (with_reducible assumption) | assumption); obtain ⟨go50, co50, eo50, gb50, gl50, cl50, HG50⟩ := Kd.R_form HO_10.out (by omega); (first | cases eo50 | (injection eo50 with ea_ en_ ec_; (first | subst ea_ | (injection ea_ with ea_; subst ea_)); subst ec_; clear en_)); have GB50 := Aside0.mk gb50; have GG50 := Aside0.mk HG50; clear gb50 gl50 HG50; (first | simp only [add_plain] at hx1185_0 | skip); obtain ⟨hx50_0, hf50_0⟩ := Kd.R_celln 0 HO_10.out (t1166 : Int) p50 q50; replace p50 := eq_true p50; replace q50 := eq_true q50; obtain ⟨hy53_, hz53_⟩ := Kd.R_celln 0 HO_10.out (t1166 : Int) (of_decide_eq_true (by first | (with_reducible assumption) | assumption)) (of_decide_eq_true (by first | (with_reducible assumption) | assumption)); have HP53 := Kd.R_putg HO_10.out (t1166 : Int) (wrap64 ((rd x10_2 t1166) - 1))) | ((with_reducible refine gate_store (t := 3) (p := 87) rfl ?_); refine store_event (t := 3) (p := 87) (v := ?vo_w54) (w1 := (w52.setCell ⟨go50, (t1166 : Int).toNat, none⟩ (.int .i64 (wrap64 ((rd x10_2 t1166) - 1))))) ?hg ?ho ?hn ?hr ?_; (case ho => rfl); (case hg => rfl); (case hn => rfl); (case hr => first | (go_simp; done) | (go_simp; rfl)); intro w54 hw; have hg : w52.grownBy w54 (some go50) := (by rw [hw]; exact HP53.2); have hp_ : Kd.R (Kd.int .i64) 3 w54 w.heap.size (fun _ => True) (.slice (some ⟨go50, 0, none⟩) x10_2.length co12) y1186 := (by rw [hw, Ny1186.out]; exact HP53.1); clear HP53; have n0_ := Aside0.mk (hp_); have n1_ := Aside0.mk (Kd.R_over' (v := (.slice (some ⟨go50, 0, none⟩) x10_2.length co12)) (by (with_reducible repeat (first | apply Kd.R_alloc | apply Kd.R_drewN | apply Kd.R_drew)); exact HO1184.out) (Kd.R_typed HO_10.out) (by decide) hg); have n2_ := Aside0.mk ((by rw [hw]; exact below_set (HB.out) GB50.out : Below w.heap.size w w54)); clear HO_10; clear HO1184; clear HB; have HO_10 := n0_; have HO1184 := n1_; have HB := n2_; clear n0_ n1_ n2_; clear hg hw hp_))
            (try simp only [← hl10_2])
            go_roundg k2
            case measure => have := HK1.out; have := HK2.out; omega
            case rel => exact ⟨(y1182), (y1186), (wrap64 (x11_2 - 1)), (wrap64 (x13_2 + 1)), (by first | rfl | (simp; done) | (simp [*]; done)), (by first | rfl | (simp; done) | (simp [*]; done)), H', ⟨by have := HK1.out; have := HK2.out; omega⟩, ⟨by (try simp only [hl10_2]); (with_reducible repeat (first | apply Kd.R_alloc | apply Kd.R_drewN | apply Kd.R_drew)); exact HO1184.out⟩, ⟨by (try simp only [hl10_2]); (with_reducible repeat (first | apply Kd.R_alloc | apply Kd.R_drewN | apply Kd.R_drew)); exact HO_10.out⟩, ⟨by repeat (first | (with_reducible first | exact HB.out | apply below_alloc | apply pw_below_drewN | apply below_drew1) | exact HB.out)⟩⟩
           ·rw [if_neg c49] at H
            exact absurd H (by simp)
          ·rw [if_neg c48] at H
           exact absurd H (by simp)
         ·rw [if_neg c47] at H
          exact absurd H (by simp)
      ·rw [if_neg c13] at H
       have c13b0 : decide (0 < x11_2) = false := decide_eq_false c13
       clear c13
       obtain rfl := Option.some.inj H
       go_wp2
       go_ret
       exact ⟨_, by first | rfl | (simp [errW_none, errW_some] <;> rfl) | (simp [*, errW_none, errW_some] <;> rfl), by (with_reducible repeat (first | apply Kd.R_alloc | apply Kd.R_drewN | apply Kd.R_drew)); exact HO_9.out, by repeat (first | (with_reducible first | exact HB.out | apply below_alloc | apply pw_below_drewN | apply below_drew1) | exact HB.out)⟩

/-! ### spec_l5Rests: function 120 -/
def spec_l5Rests.l0 : Nat → List (S101) → List Int → Int → Option (List Int)
 | 0, _, _, _ => none
 | k + 1, x0, x3, x4 => if x4 < (x0.length : Int) then (if 0 ≤ x4 then (if x3.length < 17592186044416 then (spec_l5Rests.l0 k x0 (x3 ++ [(rd_T101 x0 x4).f0]) (wrap64 (x4 + 1))) else (none)) else (none)) else (some x3)
def spec_l5Rests.f (k : Nat) (l0 : List (S101)) : Option (List Int) := spec_l5Rests.l0 k l0 (([] : List Int)) 0
theorem spec_l5Rests.mono_l : ∀ k, (∀ y0 y1 y2, LeO (spec_l5Rests.l0 k y0 y1 y2) (spec_l5Rests.l0 (k + 1) y0 y1 y2))
 | 0 => fun _ _ _ r h => by simp [spec_l5Rests.l0] at h
 | k + 1 => by
  have ih0 := spec_l5Rests.mono_l k
  ·intro y0 y1 y2
   unfold spec_l5Rests.l0
   repeat' first
   | (with_reducible exact ih0 _ _ _)
   | (with_reducible exact LeO.refl _)
   | (with_reducible exact LeO.none _)
   | (with_reducible refine LeO.ite ?_ ?_)
   | (with_reducible refine LeO.bind ?_ (fun _ => ?_))
   | exact ih0 _ _ _
   | exact LeO.none _
   | refine LeO.ite ?_ ?_
   | refine LeO.bind ?_ (fun _ => ?_)
theorem spec_l5Rests.mono : ∀ a0 k, LeO (spec_l5Rests.f k a0) (spec_l5Rests.f (k + 1) a0) := by
 intro a0 k
 have ih0 := spec_l5Rests.mono_l k
 unfold spec_l5Rests.f
 repeat' first
   | (with_reducible exact ih0 _ _ _)
   | (with_reducible exact LeO.refl _)
   | (with_reducible exact LeO.none _)
   | (with_reducible refine LeO.ite ?_ ?_)
   | (with_reducible refine LeO.bind ?_ (fun _ => ?_))
   | exact ih0 _ _ _
   | exact LeO.none _
   | refine LeO.ite ?_ ?_
   | refine LeO.bind ?_ (fun _ => ?_)
set_option maxHeartbeats 8000000 in
set_option maxRecDepth 100000 in
theorem spec_l5Rests.calls (k : Nat) (A0 : Option Addr) (c0 : Nat) (l0 : List (S101)) (r : List Int) (w : World) (hr0 : Kd.C k101 w A0 l0.length l0) (hc0 : l0.length ≤ c0) (h : spec_l5Rests.f k l0 = some r) :
  Calls Try.prog 120 #[.slice A0 l0.length c0] w fun e w' => ∃ v0_ : Value, e = .returned (v0_) ∧ Kd.R (Kd.int .i64) 3 w' w.heap.size (fun _ => True) v0_ r ∧ Below w.heap.size w w' := by
 have HR0 := Aside0.mk hr0
 have HC0 := Aside0.mk hc0
 clear hr0 hc0
 have HB := Aside0.mk (Below.refl w.heap.size w)
 have H : (spec_l5Rests.l0 k l0 (([] : List Int)) 0) = some r := h
 clear h
 obtain ⟨y1187, hy1187⟩ : ∃ y_ : List Int, y_ = (([] : List Int)) := ⟨_, rfl⟩
 replace H : (spec_l5Rests.l0 k l0 y1187 0) = some r := by first | (rw [hy1187]; with_reducible exact H) | (have H2_ := (Option.bind_some _ _).symm.trans H; rw [hy1187]; with_reducible exact H2_) | (have H2_ := (Option.bind_some _ _).symm.trans H; with_reducible exact H2_) | with_reducible exact H | (rw [hy1187]; exact H) | exact H
 have Ny1187 := Aside0.mk hy1187
 clear hy1187
 have H' := Aside0.mk H
 clear H
 go_enter Try.func120, Try.ntmps120
 go_wp2_with (first | ((with_reducible refine gate_dst (N := 5) rfl ?_); refine Kd.R_lit (Kd.int .i64) _ 3 ?hg (N := 5) ?hd (xs := ([] : List Int)) (inner := []) (ok := fun _ => True) (okp := fun _ => True) ?hr ?hp (fun _ hk => hk) trivial (Below.refl _ _) (Nat.le_refl _) (by simp) ?_; (case hd => rfl); (case hg => rfl); (case hr => first | (go_simp; done) | (go_simp; rfl)); (case hp => exact (Reps.none _ _)); intro v1188 w2 ho3 hb hg_ hnew_; clear hg_ hnew_; (first | rw [← Ny1187.out] at ho3 | (simp only [Int.reduceToNat] at ho3; rw [← Ny1187.out] at ho3)); have n0_ := Aside0.mk (Kd.R_lower ho3 (below_size (by repeat (first | (with_reducible first | exact HB.out | apply below_alloc | apply pw_below_drewN | apply below_drew1) | exact HB.out)))); have n1_ := Aside0.mk (below_step (by repeat (first | (with_reducible first | exact HB.out | apply below_alloc | apply pw_below_drewN | apply below_drew1) | exact HB.out)) hb); clear HB; have HO1189 := n0_; have HB := n1_; clear n0_ n1_; clear hb ho3))
 go_loopg [3, 4] k (fun kq v3 v4 w' => ∃ (x3_1 : List Int) (x4_1 : Int), v4 = .int .i64 x4_1 ∧ Aside0 (spec_l5Rests.l0 kq l0 x3_1 x4_1 = some r) ∧ Aside0 (kq ≤ k) ∧ Aside0 (Kd.R (Kd.int .i64) 3 w' w.heap.size (fun _ => True) v3 x3_1) ∧ Aside0 (Below w.heap.size w w'))
 case atStart => exact ⟨(y1187), (0), (by first | rfl | (simp; done) | (simp [*]; done)), H', ⟨Nat.le_refl _⟩, ⟨by (with_reducible repeat (first | apply Kd.R_alloc | apply Kd.R_drewN | apply Kd.R_drew)); exact HO1189.out⟩, ⟨by repeat (first | (with_reducible first | exact HB.out | apply below_alloc | apply pw_below_drewN | apply below_drew1) | exact HB.out)⟩⟩
 case round =>
  clear H'
  try clear c1
  try clear p2
  obtain ⟨x3_1, x4_1, rfl, HA, HK1, HO_3, HB⟩ := hrel
  cases gk with
  | zero => exact absurd HA.out (by simp [spec_l5Rests.l0])
  | succ k1 =>
   have H := HA.out
   clear HA
   simp only [spec_l5Rests.l0] at H
   by_cases c4 : x4_1 < (l0.length : Int)
   ·rw [if_pos c4] at H
    have c4b0 : decide (x4_1 < (l0.length : Int)) = true := decide_eq_true c4
    clear c4
    by_cases c5 : 0 ≤ x4_1
    ·rw [if_pos c5] at H
     have c5b0 : decide (0 ≤ x4_1) = true := decide_eq_true c5
     clear c5
     by_cases c6 : x3_1.length < 17592186044416
     ·rw [if_pos c6] at H
      have LMc6 := Aside0.mk c6
      clear c6
      obtain ⟨y1191, hy1191⟩ : ∃ y_ : List Int, y_ = (x3_1 ++ [(rd_T101 l0 x4_1).f0]) := ⟨_, rfl⟩
      replace H : (spec_l5Rests.l0 k1 l0 y1191 (wrap64 (x4_1 + 1))) = some r := by first | (rw [hy1191]; with_reducible exact H) | (have H2_ := (Option.bind_some _ _).symm.trans H; rw [hy1191]; with_reducible exact H2_) | (have H2_ := (Option.bind_some _ _).symm.trans H; with_reducible exact H2_) | with_reducible exact H | (rw [hy1191]; exact H) | exact H
      have Ny1191 := Aside0.mk hy1191
      clear hy1191
      have H' := Aside0.mk H
      clear H
      have p1190 : 0 ≤ (x4_1 : Int) := of_decide_eq_true (by first | (with_reducible assumption) | assumption)
      have q1190 : x4_1 < (l0.length : Int) := of_decide_eq_true (by first | (with_reducible assumption) | assumption)
      obtain ⟨ad1190, e1190, hx1190_0, hx1190_1, hx1190_2, hx1190_3⟩ := at_T101 HR0.out x4_1 p1190 q1190
      cases e1190
      replace hx1190_0 := (HB.out.cell (World.block_lt_of_cell? w _ hx1190_0)).trans hx1190_0
      replace hx1190_1 := (HB.out.cell (World.block_lt_of_cell? w _ hx1190_1)).trans hx1190_1
      replace hx1190_2 := (HB.out.cell (World.block_lt_of_cell? w _ hx1190_2)).trans hx1190_2
      replace hx1190_3 := (HB.out.cell (World.block_lt_of_cell? w _ hx1190_3)).trans hx1190_3
      replace p1190 := eq_true p1190
      replace q1190 := eq_true q1190
      go_wp2_with (first | ((with_reducible refine gate_builtin (b := .append) (xs := #[.tmp 12, .tmp 18]) rfl ?_); at_builtin; refine Kd.R_append (Kd.int .i64) (w0 := w) w.heap.size rfl (.tmp 12) (.tmp 18) 23 3 (.int .i64 0) 8 rfl Try.underlying23 info3 rfl (by decide) (by omega) u3 x3_1 ((rd_T101 l0 x4_1).f0) [.int .i64 ((rd_T101 l0 x4_1).f0)] (fun _ => True) (fun _ => False) rfl rfl ?aP (fun _ hk => hk.elim) ?aF ?aO ?aB ?aS ?aL ?_; (case aP => exact rfl); (case aB => exact (by repeat (first | (with_reducible first | exact HB.out | apply below_alloc | apply pw_below_drewN | apply below_drew1) | exact HB.out))); (case aF => exact (fun _ _ => trivial)); (case aO => exact (by (with_reducible repeat (first | apply Kd.R_alloc | apply Kd.R_drewN | apply Kd.R_drew)); exact HO_3.out)); (case aS => exact (below_size (by repeat (first | (with_reducible first | exact HB.out | apply below_alloc | apply pw_below_drewN | apply below_drew1) | exact HB.out)))); (case aL => have := LMc6.out; omega); intro v1192 w7 ho hb hg hat; rw [← Ny1191.out] at ho; have n0_ := Aside0.mk (hb); have n1_ := Aside0.mk (ho); clear HB; clear HO_3; have HB := n0_; have HO1193 := n1_; clear n0_ n1_; clear ho hb hg hat))
      go_roundg k1
      case measure => have := HK1.out; omega
      case rel => exact ⟨(y1191), (wrap64 (x4_1 + 1)), (by first | rfl | (simp; done) | (simp [*]; done)), H', ⟨by have := HK1.out; omega⟩, ⟨by (with_reducible repeat (first | apply Kd.R_alloc | apply Kd.R_drewN | apply Kd.R_drew)); exact HO1193.out⟩, ⟨by repeat (first | (with_reducible first | exact HB.out | apply below_alloc | apply pw_below_drewN | apply below_drew1) | exact HB.out)⟩⟩
     ·rw [if_neg c6] at H
      exact absurd H (by simp)
    ·rw [if_neg c5] at H
     exact absurd H (by simp)
   ·rw [if_neg c4] at H
    have c4b0 : decide (x4_1 < (l0.length : Int)) = false := decide_eq_false c4
    clear c4
    obtain rfl := Option.some.inj H
    go_wp2
    go_ret
    exact ⟨_, by first | rfl | (simp [errW_none, errW_some] <;> rfl) | (simp [*, errW_none, errW_some] <;> rfl), by (with_reducible repeat (first | apply Kd.R_alloc | apply Kd.R_drewN | apply Kd.R_drew)); exact HO_3.out, by repeat (first | (with_reducible first | exact HB.out | apply below_alloc | apply pw_below_drewN | apply below_drew1) | exact HB.out)⟩

end Go.Proofs.Ytdjjbdmnbmhmpaa.X
