-- Written by a program of this session (wip/gen/xp.py, over the kit's printer). Not trusted: Lean checks it.
import Derived.Test.YtoagdnojoodloaaX0
import Derived.Test.YtoagdnojoodloaaXf12
import Derived.Test.YtoagdnojoodloaaXf93
namespace Go.Proofs.Ytoagdnojoodloaa.X
open Go.RowKit Go.Proofs.YtoagdnojoodloaaW.PrintWords Go.Proofs.YtoagdnojoodloaaW.PrintLast Go.Proofs.YtoagdnojoodloaaW.PrintMore
attribute [local go_sem] max2_int min2_int max_two min_two max_three min_three max_four min_four   -- for this text's walks alone
set_option linter.unusedVariables false
set_option linter.unusedSimpArgs false

/-! ### impl_choose: function 72 -/
mutual
def impl_choose.l0 : Nat → List (S61) → List Int → Int → List Int → List Int → Int → Int → List (S61) → Int → Int → Option ((List (S92)) × List Int)
 | 0, _, _, _, _, _, _, _, _, _, _ => none
 | k + 1, x0, x1, x2, x8, x9, x10, x11, x27, x28, x29 => if x29 < x28 then (if 0 ≤ x29 then (if x29 < (x27.length : Int) then ((impl_has.f k x1 x29).bind fun t385 => (if t385 = true then (impl_choose.l0 k x0 x1 x2 x8 x9 x10 x11 x27 x28 (wrap64 (x29 + 1))) else (if x29 < (x8.length : Int) then (impl_choose.l0 k x0 x1 x2 (x8.set (x29 : Int).toNat ((rd_T61 x27 x29).f0)) x9 (wrap64 (x10 + ((rd_T61 x27 x29).f0))) x11 x27 x28 (wrap64 (x29 + 1))) else (none)))) else (none)) else (none)) else (impl_choose.l1 k x0 x2 x8 x9 x10 x11 x1 (x1.length : Int) 0)
def impl_choose.l1 : Nat → List (S61) → Int → List Int → List Int → Int → Int → List Int → Int → Int → Option ((List (S92)) × List Int)
 | 0, _, _, _, _, _, _, _, _, _ => none
 | k + 1, x0, x2, x8, x9, x10, x11, x48, x49, x50 => if x50 < x49 then (if 0 ≤ x50 then (if x50 < (x48.length : Int) then (if 0 ≤ (rd x48 x50) then (if (rd x48 x50) < (x0.length : Int) then (if (rd x48 x50) < (x9.length : Int) then (impl_choose.l1 k x0 x2 x8 (x9.set ((rd x48 x50) : Int).toNat (wrap64 ((mx x11 ((rd_T61 x0 (rd x48 x50)).f2)) + ((rd_T61 x0 (rd x48 x50)).f0)))) x10 (wrap64 ((mx x11 ((rd_T61 x0 (rd x48 x50)).f2)) + ((rd_T61 x0 (rd x48 x50)).f0))) x48 x49 (wrap64 (x50 + 1))) else (none)) else (none)) else (none)) else (none)) else (none)) else (impl_choose.l2 k x0 x2 x8 x9 x10 x11 ([] : List (S92)))
def impl_choose.l2 : Nat → List (S61) → Int → List Int → List Int → Int → Int → List (S92) → Option ((List (S92)) × List Int)
 | 0, _, _, _, _, _, _, _ => none
 | k + 1, x0, x2, x8, x9, x10, x11, x16 => if x10 > 0 then (impl_choose.l3 k x0 x2 x8 x9 x10 x11 x16 (-1) x0 (x0.length : Int) 0) else (some (x16, x9))
def impl_choose.l3 : Nat → List (S61) → Int → List Int → List Int → Int → Int → List (S92) → Int → List (S61) → Int → Int → Option ((List (S92)) × List Int)
 | 0, _, _, _, _, _, _, _, _, _, _, _ => none
 | k + 1, x0, x2, x8, x9, x10, x11, x16, x17, x76, x77, x78 => if x78 < x77 then (if 0 ≤ x78 then (if x78 < (x76.length : Int) then (if x78 < (x8.length : Int) then (if (rd x8 x78) = 0 then (impl_choose.j4 k x0 x2 x8 x9 x10 x11 x16 x17 x78 x76 x77 x78 true ((rd_T61 x76 x78).f0) ((rd_T61 x76 x78).f1) ((rd_T61 x76 x78).f2) ((rd_T61 x76 x78).f3)) else (impl_choose.j4 k x0 x2 x8 x9 x10 x11 x16 x17 x78 x76 x77 x78 (decide (((rd_T61 x76 x78).f2) > x11)) ((rd_T61 x76 x78).f0) ((rd_T61 x76 x78).f1) ((rd_T61 x76 x78).f2) ((rd_T61 x76 x78).f3))) else (none)) else (none)) else (none)) else (if x17 < 0 then (impl_choose.l2 k x0 x2 x8 x9 x10 (wrap64 (x11 + 1)) x16) else (if (wrap64 ((x16.length : Int) - 1)) ≥ 0 then (if 0 ≤ (wrap64 ((x16.length : Int) - 1)) then (if (wrap64 ((x16.length : Int) - 1)) < (x16.length : Int) then (if ((rd_T92 x16 (wrap64 ((x16.length : Int) - 1))).f0) = x17 then (if ((rd_T92 x16 (wrap64 ((x16.length : Int) - 1))).f2) = x11 then (if 0 ≤ x17 then (if x17 < (x8.length : Int) then (if x17 < (x9.length : Int) then (impl_choose.l2 k x0 x2 (x8.set (x17 : Int).toNat (wrap64 ((rd x8 x17) - 1))) (x9.set (x17 : Int).toNat (wrap64 (x11 + 1))) (wrap64 (x10 - 1)) (wrap64 (x11 + 1)) (x16.set ((wrap64 ((x16.length : Int) - 1)) : Int).toNat (⟨(rd_T92 x16 (wrap64 ((x16.length : Int) - 1))).f0, (rd_T92 x16 (wrap64 ((x16.length : Int) - 1))).f1, wrap64 (((rd_T92 x16 (wrap64 ((x16.length : Int) - 1))).f2) + 1)⟩ : S92))) else (none)) else (none)) else (none)) else (if x16.length < 5864062014805 then (if 0 ≤ x17 then (if x17 < (x8.length : Int) then (if x17 < (x9.length : Int) then (impl_choose.l2 k x0 x2 (x8.set (x17 : Int).toNat (wrap64 ((rd x8 x17) - 1))) (x9.set (x17 : Int).toNat (wrap64 (x11 + 1))) (wrap64 (x10 - 1)) (wrap64 (x11 + 1)) (x16 ++ [(⟨x17, x11, wrap64 (x11 + 1)⟩ : S92)])) else (none)) else (none)) else (none)) else (none))) else (if x16.length < 5864062014805 then (if 0 ≤ x17 then (if x17 < (x8.length : Int) then (if x17 < (x9.length : Int) then (impl_choose.l2 k x0 x2 (x8.set (x17 : Int).toNat (wrap64 ((rd x8 x17) - 1))) (x9.set (x17 : Int).toNat (wrap64 (x11 + 1))) (wrap64 (x10 - 1)) (wrap64 (x11 + 1)) (x16 ++ [(⟨x17, x11, wrap64 (x11 + 1)⟩ : S92)])) else (none)) else (none)) else (none)) else (none))) else (none)) else (none)) else (if x16.length < 5864062014805 then (if 0 ≤ x17 then (if x17 < (x8.length : Int) then (if x17 < (x9.length : Int) then (impl_choose.l2 k x0 x2 (x8.set (x17 : Int).toNat (wrap64 ((rd x8 x17) - 1))) (x9.set (x17 : Int).toNat (wrap64 (x11 + 1))) (wrap64 (x10 - 1)) (wrap64 (x11 + 1)) (x16 ++ [(⟨x17, x11, wrap64 (x11 + 1)⟩ : S92)])) else (none)) else (none)) else (none)) else (none))))
def impl_choose.j4 : Nat → List (S61) → Int → List Int → List Int → Int → Int → List (S92) → Int → Int → List (S61) → Int → Int → Bool → Int → Int → Int → Int → Option ((List (S92)) × List Int)
 | 0, _, _, _, _, _, _, _, _, _, _, _, _, _, _, _, _, _ => none
 | k + 1, x0, x2, x8, x9, x10, x11, x16, x17, x18, x76, x77, x78, x93, x393000, x393001, x393002, x393003 => if x93 = true then (impl_choose.l3 k x0 x2 x8 x9 x10 x11 x16 x17 x76 x77 (wrap64 (x78 + 1))) else (if x17 < 0 then (impl_choose.l3 k x0 x2 x8 x9 x10 x11 x16 x18 x76 x77 (wrap64 (x78 + 1))) else (if x2 = 2 then (if 0 ≤ x18 then (if x18 < (x8.length : Int) then (if 0 ≤ x17 then (if x17 < (x8.length : Int) then (if (rd x8 x18) < (rd x8 x17) then (impl_choose.l3 k x0 x2 x8 x9 x10 x11 x16 x18 x76 x77 (wrap64 (x78 + 1))) else (impl_choose.l3 k x0 x2 x8 x9 x10 x11 x16 x17 x76 x77 (wrap64 (x78 + 1)))) else (none)) else (none)) else (none)) else (none)) else (if 0 ≤ x17 then (if x17 < (x0.length : Int) then (if x393003 < ((rd_T61 x0 x17).f3) then (impl_choose.l3 k x0 x2 x8 x9 x10 x11 x16 x18 x76 x77 (wrap64 (x78 + 1))) else (impl_choose.l3 k x0 x2 x8 x9 x10 x11 x16 x17 x76 x77 (wrap64 (x78 + 1)))) else (none)) else (none))))
end
def impl_choose.f (k : Nat) (l0 : List (S61)) (l1 : List Int) (a2 : Int) : Option ((List (S92)) × List Int) := if 0 ≤ (l0.length : Int) then (if ((l0.length : Int) : Int).toNat ≤ 35184372088832 then (impl_choose.l0 k l0 l1 a2 (List.replicate ((l0.length : Int) : Int).toNat 0) (List.replicate ((l0.length : Int) : Int).toNat 0) 0 0 l0 (l0.length : Int) 0) else (none)) else (none)
theorem impl_choose.mono_l : ∀ k, (∀ y0 y1 y2 y3 y4 y5 y6 y7 y8 y9, LeO (impl_choose.l0 k y0 y1 y2 y3 y4 y5 y6 y7 y8 y9) (impl_choose.l0 (k + 1) y0 y1 y2 y3 y4 y5 y6 y7 y8 y9)) ∧ (∀ y0 y1 y2 y3 y4 y5 y6 y7 y8, LeO (impl_choose.l1 k y0 y1 y2 y3 y4 y5 y6 y7 y8) (impl_choose.l1 (k + 1) y0 y1 y2 y3 y4 y5 y6 y7 y8)) ∧ (∀ y0 y1 y2 y3 y4 y5 y6, LeO (impl_choose.l2 k y0 y1 y2 y3 y4 y5 y6) (impl_choose.l2 (k + 1) y0 y1 y2 y3 y4 y5 y6)) ∧ (∀ y0 y1 y2 y3 y4 y5 y6 y7 y8 y9 y10, LeO (impl_choose.l3 k y0 y1 y2 y3 y4 y5 y6 y7 y8 y9 y10) (impl_choose.l3 (k + 1) y0 y1 y2 y3 y4 y5 y6 y7 y8 y9 y10)) ∧ (∀ y0 y1 y2 y3 y4 y5 y6 y7 y8 y9 y10 y11 y12 y13 y14 y15 y16, LeO (impl_choose.j4 k y0 y1 y2 y3 y4 y5 y6 y7 y8 y9 y10 y11 y12 y13 y14 y15 y16) (impl_choose.j4 (k + 1) y0 y1 y2 y3 y4 y5 y6 y7 y8 y9 y10 y11 y12 y13 y14 y15 y16))
 | 0 => ⟨fun _ _ _ _ _ _ _ _ _ _ r h => by simp [impl_choose.l0] at h, fun _ _ _ _ _ _ _ _ _ r h => by simp [impl_choose.l1] at h, fun _ _ _ _ _ _ _ r h => by simp [impl_choose.l2] at h, fun _ _ _ _ _ _ _ _ _ _ _ r h => by simp [impl_choose.l3] at h, fun _ _ _ _ _ _ _ _ _ _ _ _ _ _ _ _ _ r h => by simp [impl_choose.j4] at h⟩
 | k + 1 => by
  obtain ⟨ih0, ih1, ih2, ih3, ih4⟩ := impl_choose.mono_l k
  refine ⟨?_, ?_, ?_, ?_, ?_⟩
  ·intro y0 y1 y2 y3 y4 y5 y6 y7 y8 y9
   unfold impl_choose.l0
   repeat' first
   | (with_reducible exact ih0 _ _ _ _ _ _ _ _ _ _)
   | (with_reducible exact ih1 _ _ _ _ _ _ _ _ _)
   | (with_reducible exact ih2 _ _ _ _ _ _ _)
   | (with_reducible exact ih3 _ _ _ _ _ _ _ _ _ _ _)
   | (with_reducible exact ih4 _ _ _ _ _ _ _ _ _ _ _ _ _ _ _ _ _)
   | (with_reducible exact impl_has.mono _ _ _)
   | (with_reducible exact LeO.refl _)
   | (with_reducible exact LeO.none _)
   | (with_reducible refine LeO.ite ?_ ?_)
   | (with_reducible refine LeO.bind ?_ (fun _ => ?_))
   | exact ih0 _ _ _ _ _ _ _ _ _ _
   | exact ih1 _ _ _ _ _ _ _ _ _
   | exact ih2 _ _ _ _ _ _ _
   | exact ih3 _ _ _ _ _ _ _ _ _ _ _
   | exact ih4 _ _ _ _ _ _ _ _ _ _ _ _ _ _ _ _ _
   | exact impl_has.mono _ _ _
   | exact LeO.none _
   | refine LeO.ite ?_ ?_
   | refine LeO.bind ?_ (fun _ => ?_)
  ·intro y0 y1 y2 y3 y4 y5 y6 y7 y8
   unfold impl_choose.l1
   repeat' first
   | (with_reducible exact ih0 _ _ _ _ _ _ _ _ _ _)
   | (with_reducible exact ih1 _ _ _ _ _ _ _ _ _)
   | (with_reducible exact ih2 _ _ _ _ _ _ _)
   | (with_reducible exact ih3 _ _ _ _ _ _ _ _ _ _ _)
   | (with_reducible exact ih4 _ _ _ _ _ _ _ _ _ _ _ _ _ _ _ _ _)
   | (with_reducible exact impl_has.mono _ _ _)
   | (with_reducible exact LeO.refl _)
   | (with_reducible exact LeO.none _)
   | (with_reducible refine LeO.ite ?_ ?_)
   | (with_reducible refine LeO.bind ?_ (fun _ => ?_))
   | exact ih0 _ _ _ _ _ _ _ _ _ _
   | exact ih1 _ _ _ _ _ _ _ _ _
   | exact ih2 _ _ _ _ _ _ _
   | exact ih3 _ _ _ _ _ _ _ _ _ _ _
   | exact ih4 _ _ _ _ _ _ _ _ _ _ _ _ _ _ _ _ _
   | exact impl_has.mono _ _ _
   | exact LeO.none _
   | refine LeO.ite ?_ ?_
   | refine LeO.bind ?_ (fun _ => ?_)
  ·intro y0 y1 y2 y3 y4 y5 y6
   unfold impl_choose.l2
   repeat' first
   | (with_reducible exact ih0 _ _ _ _ _ _ _ _ _ _)
   | (with_reducible exact ih1 _ _ _ _ _ _ _ _ _)
   | (with_reducible exact ih2 _ _ _ _ _ _ _)
   | (with_reducible exact ih3 _ _ _ _ _ _ _ _ _ _ _)
   | (with_reducible exact ih4 _ _ _ _ _ _ _ _ _ _ _ _ _ _ _ _ _)
   | (with_reducible exact impl_has.mono _ _ _)
   | (with_reducible exact LeO.refl _)
   | (with_reducible exact LeO.none _)
   | (with_reducible refine LeO.ite ?_ ?_)
   | (with_reducible refine LeO.bind ?_ (fun _ => ?_))
   | exact ih0 _ _ _ _ _ _ _ _ _ _
   | exact ih1 _ _ _ _ _ _ _ _ _
   | exact ih2 _ _ _ _ _ _ _
   | exact ih3 _ _ _ _ _ _ _ _ _ _ _
   | exact ih4 _ _ _ _ _ _ _ _ _ _ _ _ _ _ _ _ _
   | exact impl_has.mono _ _ _
   | exact LeO.none _
   | refine LeO.ite ?_ ?_
   | refine LeO.bind ?_ (fun _ => ?_)
  ·intro y0 y1 y2 y3 y4 y5 y6 y7 y8 y9 y10
   unfold impl_choose.l3
   repeat' first
   | (with_reducible exact ih0 _ _ _ _ _ _ _ _ _ _)
   | (with_reducible exact ih1 _ _ _ _ _ _ _ _ _)
   | (with_reducible exact ih2 _ _ _ _ _ _ _)
   | (with_reducible exact ih3 _ _ _ _ _ _ _ _ _ _ _)
   | (with_reducible exact ih4 _ _ _ _ _ _ _ _ _ _ _ _ _ _ _ _ _)
   | (with_reducible exact impl_has.mono _ _ _)
   | (with_reducible exact LeO.refl _)
   | (with_reducible exact LeO.none _)
   | (with_reducible refine LeO.ite ?_ ?_)
   | (with_reducible refine LeO.bind ?_ (fun _ => ?_))
   | exact ih0 _ _ _ _ _ _ _ _ _ _
   | exact ih1 _ _ _ _ _ _ _ _ _
   | exact ih2 _ _ _ _ _ _ _
   | exact ih3 _ _ _ _ _ _ _ _ _ _ _
   | exact ih4 _ _ _ _ _ _ _ _ _ _ _ _ _ _ _ _ _
   | exact impl_has.mono _ _ _
   | exact LeO.none _
   | refine LeO.ite ?_ ?_
   | refine LeO.bind ?_ (fun _ => ?_)
  ·intro y0 y1 y2 y3 y4 y5 y6 y7 y8 y9 y10 y11 y12 y13 y14 y15 y16
   unfold impl_choose.j4
   repeat' first
   | (with_reducible exact ih0 _ _ _ _ _ _ _ _ _ _)
   | (with_reducible exact ih1 _ _ _ _ _ _ _ _ _)
   | (with_reducible exact ih2 _ _ _ _ _ _ _)
   | (with_reducible exact ih3 _ _ _ _ _ _ _ _ _ _ _)
   | (with_reducible exact ih4 _ _ _ _ _ _ _ _ _ _ _ _ _ _ _ _ _)
   | (with_reducible exact impl_has.mono _ _ _)
   | (with_reducible exact LeO.refl _)
   | (with_reducible exact LeO.none _)
   | (with_reducible refine LeO.ite ?_ ?_)
   | (with_reducible refine LeO.bind ?_ (fun _ => ?_))
   | exact ih0 _ _ _ _ _ _ _ _ _ _
   | exact ih1 _ _ _ _ _ _ _ _ _
   | exact ih2 _ _ _ _ _ _ _
   | exact ih3 _ _ _ _ _ _ _ _ _ _ _
   | exact ih4 _ _ _ _ _ _ _ _ _ _ _ _ _ _ _ _ _
   | exact impl_has.mono _ _ _
   | exact LeO.none _
   | refine LeO.ite ?_ ?_
   | refine LeO.bind ?_ (fun _ => ?_)
theorem impl_choose.mono : ∀ a0 a1 a2 k, LeO (impl_choose.f k a0 a1 a2) (impl_choose.f (k + 1) a0 a1 a2) := by
 intro a0 a1 a2 k
 obtain ⟨ih0, ih1, ih2, ih3, ih4⟩ := impl_choose.mono_l k
 unfold impl_choose.f
 repeat' first
   | (with_reducible exact ih0 _ _ _ _ _ _ _ _ _ _)
   | (with_reducible exact ih1 _ _ _ _ _ _ _ _ _)
   | (with_reducible exact ih2 _ _ _ _ _ _ _)
   | (with_reducible exact ih3 _ _ _ _ _ _ _ _ _ _ _)
   | (with_reducible exact ih4 _ _ _ _ _ _ _ _ _ _ _ _ _ _ _ _ _)
   | (with_reducible exact impl_has.mono _ _ _)
   | (with_reducible exact LeO.refl _)
   | (with_reducible exact LeO.none _)
   | (with_reducible refine LeO.ite ?_ ?_)
   | (with_reducible refine LeO.bind ?_ (fun _ => ?_))
   | exact ih0 _ _ _ _ _ _ _ _ _ _
   | exact ih1 _ _ _ _ _ _ _ _ _
   | exact ih2 _ _ _ _ _ _ _
   | exact ih3 _ _ _ _ _ _ _ _ _ _ _
   | exact ih4 _ _ _ _ _ _ _ _ _ _ _ _ _ _ _ _ _
   | exact impl_has.mono _ _ _
   | exact LeO.none _
   | refine LeO.ite ?_ ?_
   | refine LeO.bind ?_ (fun _ => ?_)
set_option maxHeartbeats 8000000 in
set_option maxRecDepth 100000 in
theorem impl_choose.calls (k : Nat) (A0 : Option Addr) (c0 : Nat) (l0 : List (S61)) (A1 : Option Addr) (c1 : Nat) (l1 : List Int) (a2 : Int) (r1 : List (S92)) (r2 : List Int) (w : World) (hr0 : Kd.C k61 w A0 l0.length l0) (hc0 : l0.length ≤ c0) (hr1 : Kd.C (Kd.int .i64) w A1 l1.length l1) (hc1 : l1.length ≤ c1) (h : impl_choose.f k l0 l1 a2 = some (r1, r2)) :
  Calls Try.prog 72 #[.slice A0 l0.length c0, .slice A1 l1.length c1, .int .i64 a2] w fun e w' => ∃ v0_ v1_ : Value, e = .returned (.tuple #[v0_, v1_]) ∧ Kd.R k92 92 w' w.heap.size (fun _ => True) v0_ r1 ∧ Kd.R (Kd.int .i64) 3 w' w.heap.size (fun _ => True) v1_ r2 ∧ Below w.heap.size w w' := by
 have hu61 := Try.underlying61
 have hu92 := Try.underlying92
 have HR0 := Aside0.mk hr0
 have HC0 := Aside0.mk hc0
 clear hr0 hc0
 have HR1 := Aside0.mk hr1
 have HC1 := Aside0.mk hc1
 clear hr1 hc1
 have HB := Aside0.mk (Below.refl w.heap.size w)
 have H : (if 0 ≤ (l0.length : Int) then (if ((l0.length : Int) : Int).toNat ≤ 35184372088832 then (impl_choose.l0 k l0 l1 a2 (List.replicate ((l0.length : Int) : Int).toNat 0) (List.replicate ((l0.length : Int) : Int).toNat 0) 0 0 l0 (l0.length : Int) 0) else (none)) else (none)) = some (r1, r2) := h
 clear h
 by_cases c4 : 0 ≤ (l0.length : Int)
 rotate_left
 ·rw [if_neg c4] at H
  exact absurd H (by simp)
 rw [if_pos c4] at H
 have c4b0 := eq_true c4
 have c4b1 : decide (0 ≤ (l0.length : Int)) = true := decide_eq_true c4
 clear c4
 by_cases c5 : ((l0.length : Int) : Int).toNat ≤ 35184372088832
 rotate_left
 ·rw [if_neg c5] at H
  exact absurd H (by simp)
 rw [if_pos c5] at H
 have c5b0 := eq_true c5
 have c5b1 : decide (((l0.length : Int) : Int).toNat ≤ 35184372088832) = true := decide_eq_true c5
 clear c5
 obtain ⟨y377, hy377⟩ : ∃ y_ : List Int, y_ = (List.replicate ((l0.length : Int) : Int).toNat 0) := ⟨_, rfl⟩
 replace H : (impl_choose.l0 k l0 l1 a2 y377 (List.replicate ((l0.length : Int) : Int).toNat 0) 0 0 l0 (l0.length : Int) 0) = some (r1, r2) := by first | (rw [hy377]; with_reducible exact H) | (have H2_ := (Option.bind_some _ _).symm.trans H; rw [hy377]; with_reducible exact H2_) | (have H2_ := (Option.bind_some _ _).symm.trans H; with_reducible exact H2_) | with_reducible exact H | (rw [hy377]; exact H) | exact H
 have Ny377 := Aside0.mk hy377
 clear hy377
 obtain ⟨y380, hy380⟩ : ∃ y_ : List Int, y_ = (List.replicate ((l0.length : Int) : Int).toNat 0) := ⟨_, rfl⟩
 replace H : (impl_choose.l0 k l0 l1 a2 y377 y380 0 0 l0 (l0.length : Int) 0) = some (r1, r2) := by first | (rw [hy380]; with_reducible exact H) | (have H2_ := (Option.bind_some _ _).symm.trans H; rw [hy380]; with_reducible exact H2_) | (have H2_ := (Option.bind_some _ _).symm.trans H; with_reducible exact H2_) | with_reducible exact H | (rw [hy380]; exact H) | exact H
 have Ny380 := Aside0.mk hy380
 clear hy380
 have H' := Aside0.mk H
 clear H
 go_enter Try.func72, Try.ntmps72
 have go_ := True.intro
 repeat ((first | go_quiet (first | ((with_reducible refine gate_dst (N := 23) rfl ?_); refine Kd.R_make (Kd.int .i64) _ 3 rfl (N := 23) rfl 23 _ _ rfl (l0.length : Int) rfl rfl Try.underlying23 (.int .i64 0) 8 info3 rfl (by decide) (by omega) 0 (ok := fun _ => True) (okp := fun _ => True) rfl (fun _ hk => hk) trivial (of_decide_eq_true (by first | (with_reducible assumption) | assumption)) (Nat.le_trans (Nat.mul_le_mul_right _ (of_decide_eq_true (by first | (with_reducible assumption) | assumption) : (l0.length : Int).toNat ≤ 35184372088832)) (by omega)) (Below.refl _ _) (Nat.le_refl _) ?_; intro v378 w6 ho7 hb hg_ hnew_; clear hg_ hnew_; (first | rw [← Ny377.out] at ho7 | (simp only [Int.reduceToNat] at ho7; rw [← Ny377.out] at ho7)); have n0_ := Aside0.mk (Kd.R_lower ho7 (below_size (bw HB.out))); have n1_ := Aside0.mk (below_step (bw HB.out) hb); have HO379 := n0_; replace HB := n1_; clear n0_ n1_; clear hb ho7) | ((with_reducible refine gate_dst (N := 26) rfl ?_); refine Kd.R_make (Kd.int .i64) _ 3 rfl (N := 26) rfl 23 _ _ rfl (l0.length : Int) rfl rfl Try.underlying23 (.int .i64 0) 8 info3 rfl (by decide) (by omega) 0 (ok := fun _ => True) (okp := fun _ => True) rfl (fun _ hk => hk) trivial (of_decide_eq_true (by first | (with_reducible assumption) | assumption)) (Nat.le_trans (Nat.mul_le_mul_right _ (of_decide_eq_true (by first | (with_reducible assumption) | assumption) : (l0.length : Int).toNat ≤ 35184372088832)) (by omega)) (Below.refl _ _) (Nat.le_refl _) ?_; intro v381 w8 ho9 hb hg_ hnew_; clear hg_ hnew_; (first | rw [← Ny380.out] at ho9 | (simp only [Int.reduceToNat] at ho9; rw [← Ny380.out] at ho9)); have n0_ := Aside0.mk (Kd.R_elder' (bR HO379.out) (Kd.R_base ho9) hb); have n1_ := Aside0.mk (Kd.R_lower (Kd.R_new' ho9 (Kd.R_lt (bR HO379.out))) (below_size (bw HB.out))); have n2_ := Aside0.mk (below_step (bw HB.out) hb); replace HO379 := n0_; have HO382 := n1_; replace HB := n2_; clear n0_ n1_ n2_; clear hb ho9)) | clear go_); go_wp2_with (first | ((with_reducible refine gate_dst (N := 23) rfl ?_); refine Kd.R_make (Kd.int .i64) _ 3 rfl (N := 23) rfl 23 _ _ rfl (l0.length : Int) rfl rfl Try.underlying23 (.int .i64 0) 8 info3 rfl (by decide) (by omega) 0 (ok := fun _ => True) (okp := fun _ => True) rfl (fun _ hk => hk) trivial (of_decide_eq_true (by first | (with_reducible assumption) | assumption)) (Nat.le_trans (Nat.mul_le_mul_right _ (of_decide_eq_true (by first | (with_reducible assumption) | assumption) : (l0.length : Int).toNat ≤ 35184372088832)) (by omega)) (Below.refl _ _) (Nat.le_refl _) ?_; intro v378 w6 ho7 hb hg_ hnew_; clear hg_ hnew_; (first | rw [← Ny377.out] at ho7 | (simp only [Int.reduceToNat] at ho7; rw [← Ny377.out] at ho7)); have n0_ := Aside0.mk (Kd.R_lower ho7 (below_size (bw HB.out))); have n1_ := Aside0.mk (below_step (bw HB.out) hb); have HO379 := n0_; replace HB := n1_; clear n0_ n1_; clear hb ho7) | ((with_reducible refine gate_dst (N := 26) rfl ?_); refine Kd.R_make (Kd.int .i64) _ 3 rfl (N := 26) rfl 23 _ _ rfl (l0.length : Int) rfl rfl Try.underlying23 (.int .i64 0) 8 info3 rfl (by decide) (by omega) 0 (ok := fun _ => True) (okp := fun _ => True) rfl (fun _ hk => hk) trivial (of_decide_eq_true (by first | (with_reducible assumption) | assumption)) (Nat.le_trans (Nat.mul_le_mul_right _ (of_decide_eq_true (by first | (with_reducible assumption) | assumption) : (l0.length : Int).toNat ≤ 35184372088832)) (by omega)) (Below.refl _ _) (Nat.le_refl _) ?_; intro v381 w8 ho9 hb hg_ hnew_; clear hg_ hnew_; (first | rw [← Ny380.out] at ho9 | (simp only [Int.reduceToNat] at ho9; rw [← Ny380.out] at ho9)); have n0_ := Aside0.mk (Kd.R_elder' (bR HO379.out) (Kd.R_base ho9) hb); have n1_ := Aside0.mk (Kd.R_lower (Kd.R_new' ho9 (Kd.R_lt (bR HO379.out))) (below_size (bw HB.out))); have n2_ := Aside0.mk (below_step (bw HB.out) hb); replace HO379 := n0_; have HO382 := n1_; replace HB := n2_; clear n0_ n1_ n2_; clear hb ho9)))
 go_loopg [10, 29] k (fun kq v10 v29 w' => ∃ (x8_1 : List Int) (x10_1 : Int) (x29_1 : Int), v10 = .int .i64 x10_1 ∧ v29 = .int .i64 x29_1 ∧ Aside0 (impl_choose.l0 kq l0 l1 a2 x8_1 y380 x10_1 0 l0 (l0.length : Int) x29_1 = some (r1, r2)) ∧ Aside0 (kq ≤ k) ∧ Aside0 (Kd.R (Kd.int .i64) 3 w' w.heap.size (fun k_ => some k_ ≠ (v381 : Value).ownBlock) v378 x8_1) ∧ Aside0 (Kd.R (Kd.int .i64) 3 w' w.heap.size (fun k_ => some k_ ≠ (v378 : Value).ownBlock) v381 y380) ∧ Aside0 (Below w.heap.size w w'))
 case atStart => exact ⟨(y377), (0), (0), (by first | rfl | (simp; done) | (simp [*]; done)), (by first | rfl | (simp; done) | (simp [*]; done)), H', ⟨Nat.le_refl _⟩, ⟨by (with_reducible repeat (first | apply Kd.R_alloc | apply Kd.R_drewN | apply Kd.R_drew)); exact Kd.R_mono HO379.out (fun _ hk => hk.2)⟩, ⟨by (with_reducible repeat (first | apply Kd.R_alloc | apply Kd.R_drewN | apply Kd.R_drew)); exact Kd.R_mono HO382.out (fun _ hk => hk.2)⟩, ⟨bw HB.out⟩⟩
 case round =>
  clear H'
  try clear c1
  try clear p2
  try clear c4
  try clear c4b0
  try clear c4b1
  try clear c5
  try clear c5b0
  try clear c5b1
  try clear c7
  obtain ⟨x8_1, x10_1, x29_1, rfl, rfl, HA, HK1, HO_8, HO_9, HB⟩ := hrel
  cases gk with
  | zero => exact absurd HA.out (by simp [impl_choose.l0])
  | succ k1 =>
   have H := HA.out
   clear HA
   simp only [impl_choose.l0] at H
   by_cases c10 : x29_1 < (l0.length : Int)
   ·rw [if_pos c10] at H
    have c10b0 : decide (x29_1 < (l0.length : Int)) = true := decide_eq_true c10
    clear c10
    by_cases c11 : 0 ≤ x29_1
    rotate_left
    ·rw [if_neg c11] at H
     exact absurd H (by simp)
    rw [if_pos c11] at H
    have c11b0 : decide (0 ≤ x29_1) = true := decide_eq_true c11
    clear c11
    by_cases c12 : x29_1 < (l0.length : Int)
    rotate_left
    ·rw [if_neg c12] at H
     exact absurd H (by simp)
    rw [if_pos c12] at H
    have c12b0 : decide (x29_1 < (l0.length : Int)) = true := decide_eq_true c12
    clear c12
    replace H := Option.bind_eq_some_iff.mp H
    obtain ⟨t385, A130, H⟩ := H
    replace H : (if t385 = true then (impl_choose.l0 k1 l0 l1 a2 x8_1 y380 x10_1 0 l0 (l0.length : Int) (wrap64 (x29_1 + 1))) else (if x29_1 < (x8_1.length : Int) then (impl_choose.l0 k1 l0 l1 a2 (x8_1.set (x29_1 : Int).toNat ((rd_T61 l0 x29_1).f0)) y380 (wrap64 (x10_1 + ((rd_T61 l0 x29_1).f0))) 0 l0 (l0.length : Int) (wrap64 (x29_1 + 1))) else (none))) = some (r1, r2) := H
    have A13 := Aside0.mk A130
    clear A130
    by_cases c14 : t385 = true
    ·subst c14
     have H1 : (impl_choose.l0 k1 l0 l1 a2 x8_1 y380 x10_1 0 l0 (l0.length : Int) (wrap64 (x29_1 + 1))) = some (r1, r2) := by rw [if_pos rfl] at H; exact H
     clear H
     have H := H1
     clear H1
     have H' := Aside0.mk H
     clear H
     have p383 : 0 ≤ (x29_1 : Int) := of_decide_eq_true (by first | (with_reducible assumption) | assumption)
     have q383 : x29_1 < (l0.length : Int) := of_decide_eq_true (by first | (with_reducible assumption) | assumption)
     obtain ⟨ad383, e383, hx383_0, hx383_1, hx383_2, hx383_3⟩ := at_T61 HR0.out x29_1 p383 q383
     cases e383
     replace hx383_0 := (HB.out.cell (World.block_lt_of_cell? w _ hx383_0)).trans hx383_0
     replace hx383_1 := (HB.out.cell (World.block_lt_of_cell? w _ hx383_1)).trans hx383_1
     replace hx383_2 := (HB.out.cell (World.block_lt_of_cell? w _ hx383_2)).trans hx383_2
     replace hx383_3 := (HB.out.cell (World.block_lt_of_cell? w _ hx383_3)).trans hx383_3
     replace p383 := eq_true p383
     replace q383 := eq_true q383
     have go_ := True.intro
     repeat ((first | go_quiet (first | ((with_reducible refine gate_dst (N := 13) rfl ?_); refine box_event ?hg (N := 13) ?hd (cs := #[.int .i64 0, .int .i64 0, .int .i64 0, .int .i64 0]) (t := 61) ?hr ?_; (case hd => rfl); (case hg => rfl); (case hr => first | (go_simp; done) | (go_simp; rfl)); intro gb384 hg w15 hbox hb; have n0_ := Aside0.mk (Kd.R_below (bR HO_8.out) hb); have n1_ := Aside0.mk (Kd.R_below (bR HO_9.out) hb); have n2_ := Aside0.mk (below_step (bw HB.out) hb); have n3_ := Aside0.mk (hbox); have n4_ := ge_ hg HB.out; have n5_ := ge_ hg HB.out; replace HO_8 := n0_; replace HO_9 := n1_; replace HB := n2_; have BK384 := n3_; have GW384 := n4_; have GE384 := n5_; clear n0_ n1_ n2_ n3_ n4_ n5_; clear hb hbox hg; obtain ⟨hcz16_0, hcz16_1, hcz16_2, hcz16_3, hfz16_0, hfz16_1, hfz16_2, hfz16_3⟩ := bz4 BK384.out) | (go_at_call 93; (with_reducible refine (impl_has.calls k1 _ _ l1 x29_1 true _ ?side1 ?side2 A13.out).mono ?_); (case side1 => exact Kd.C_below HR1.out (by repeat (first | (with_reducible first | exact bw HB.out | refine bset ?_ | apply bA | apply bN | apply bD) | exact HB.out))); (case side2 => exact HC1.out); rintro e w' ⟨rfl, ⟨nd, rfl⟩⟩; (try first | exact ⟨rfl, _, World.drewN_drewN _ _ _⟩ | exact ⟨rfl, _, Eq.trans (World.drewN_drewN _ _ _) (congrArg (World.drewN _) (Nat.add_assoc _ _ _))⟩))) | clear go_); go_wp2_with (first | ((with_reducible refine gate_dst (N := 13) rfl ?_); refine box_event ?hg (N := 13) ?hd (cs := #[.int .i64 0, .int .i64 0, .int .i64 0, .int .i64 0]) (t := 61) ?hr ?_; (case hd => rfl); (case hg => rfl); (case hr => first | (go_simp; done) | (go_simp; rfl)); intro gb384 hg w15 hbox hb; have n0_ := Aside0.mk (Kd.R_below (bR HO_8.out) hb); have n1_ := Aside0.mk (Kd.R_below (bR HO_9.out) hb); have n2_ := Aside0.mk (below_step (bw HB.out) hb); have n3_ := Aside0.mk (hbox); have n4_ := ge_ hg HB.out; have n5_ := ge_ hg HB.out; replace HO_8 := n0_; replace HO_9 := n1_; replace HB := n2_; have BK384 := n3_; have GW384 := n4_; have GE384 := n5_; clear n0_ n1_ n2_ n3_ n4_ n5_; clear hb hbox hg; obtain ⟨hcz16_0, hcz16_1, hcz16_2, hcz16_3, hfz16_0, hfz16_1, hfz16_2, hfz16_3⟩ := bz4 BK384.out) | (go_at_call 93; (with_reducible refine (impl_has.calls k1 _ _ l1 x29_1 true _ ?side1 ?side2 A13.out).mono ?_); (case side1 => exact Kd.C_below HR1.out (by repeat (first | (with_reducible first | exact bw HB.out | refine bset ?_ | apply bA | apply bN | apply bD) | exact HB.out))); (case side2 => exact HC1.out); rintro e w' ⟨rfl, ⟨nd, rfl⟩⟩; (try first | exact ⟨rfl, _, World.drewN_drewN _ _ _⟩ | exact ⟨rfl, _, Eq.trans (World.drewN_drewN _ _ _) (congrArg (World.drewN _) (Nat.add_assoc _ _ _))⟩))))
     go_roundg k1
     case measure => have := HK1.out; omega
     case rel => exact ⟨(x8_1), (x10_1), (wrap64 (x29_1 + 1)), (by first | rfl | (simp; done) | (simp [*]; done)), (by first | rfl | (simp; done) | (simp [*]; done)), H', ⟨by have := HK1.out; omega⟩, ⟨by (with_reducible repeat (first | apply Kd.R_alloc | apply Kd.R_drewN | apply Kd.R_drew)); exact Kd.R_mono (Kd.R_far (p := ⟨gb384, 3, none⟩) (Kd.R_far (p := ⟨gb384, 2, none⟩) (Kd.R_far (p := ⟨gb384, 1, none⟩) (Kd.R_far (p := ⟨gb384, 0, none⟩) (Kd.R_types HO_8.out BK384.out (by decide)) (fun _ hk => hk.2) (.int .i64 ((rd_T61 l0 x29_1).f0))) (fun _ hk => hk.2) (.int .i64 ((rd_T61 l0 x29_1).f1))) (fun _ hk => hk.2) (.int .i64 ((rd_T61 l0 x29_1).f2))) (fun _ hk => hk.2) (.int .i64 ((rd_T61 l0 x29_1).f3))) (fun _ hk => hk.1)⟩, ⟨by (with_reducible repeat (first | apply Kd.R_alloc | apply Kd.R_drewN | apply Kd.R_drew)); exact Kd.R_mono (Kd.R_far (p := ⟨gb384, 3, none⟩) (Kd.R_far (p := ⟨gb384, 2, none⟩) (Kd.R_far (p := ⟨gb384, 1, none⟩) (Kd.R_far (p := ⟨gb384, 0, none⟩) (Kd.R_types HO_9.out BK384.out (by decide)) (fun _ hk => hk.2) (.int .i64 ((rd_T61 l0 x29_1).f0))) (fun _ hk => hk.2) (.int .i64 ((rd_T61 l0 x29_1).f1))) (fun _ hk => hk.2) (.int .i64 ((rd_T61 l0 x29_1).f2))) (fun _ hk => hk.2) (.int .i64 ((rd_T61 l0 x29_1).f3))) (fun _ hk => hk.1)⟩, ⟨by repeat (first | (with_reducible first | exact bw HB.out | refine bset ?_ | apply bA | apply bN | apply bD) | exact HB.out)⟩⟩
    replace c14 := Bool.eq_false_iff.mpr c14
    subst c14
    have H1 : (if x29_1 < (x8_1.length : Int) then (impl_choose.l0 k1 l0 l1 a2 (x8_1.set (x29_1 : Int).toNat ((rd_T61 l0 x29_1).f0)) y380 (wrap64 (x10_1 + ((rd_T61 l0 x29_1).f0))) 0 l0 (l0.length : Int) (wrap64 (x29_1 + 1))) else (none)) = some (r1, r2) := by rw [if_neg (show ¬ (false = true) by decide)] at H; exact H
    clear H
    have H := H1
    clear H1
    by_cases c17 : x29_1 < (x8_1.length : Int)
    rotate_left
    ·rw [if_neg c17] at H
     exact absurd H (by simp)
    rw [if_pos c17] at H
    have c17b0 : decide (x29_1 < (x8_1.length : Int)) = true := decide_eq_true c17
    clear c17
    obtain ⟨y386, hy386⟩ : ∃ y_ : List Int, y_ = (x8_1.set (x29_1 : Int).toNat ((rd_T61 l0 x29_1).f0)) := ⟨_, rfl⟩
    replace H : (impl_choose.l0 k1 l0 l1 a2 y386 y380 (wrap64 (x10_1 + ((rd_T61 l0 x29_1).f0))) 0 l0 (l0.length : Int) (wrap64 (x29_1 + 1))) = some (r1, r2) := by first | (rw [hy386]; with_reducible exact H) | (have H2_ := (Option.bind_some _ _).symm.trans H; rw [hy386]; with_reducible exact H2_) | (have H2_ := (Option.bind_some _ _).symm.trans H; with_reducible exact H2_) | with_reducible exact H | (rw [hy386]; exact H) | exact H
    have Ny386 := Aside0.mk hy386
    clear hy386
    have H' := Aside0.mk H
    clear H
    have p383 : 0 ≤ (x29_1 : Int) := of_decide_eq_true (by first | (with_reducible assumption) | assumption)
    have q383 : x29_1 < (l0.length : Int) := of_decide_eq_true (by first | (with_reducible assumption) | assumption)
    obtain ⟨ad383, e383, hx383_0, hx383_1, hx383_2, hx383_3⟩ := at_T61 HR0.out x29_1 p383 q383
    cases e383
    replace hx383_0 := (HB.out.cell (World.block_lt_of_cell? w _ hx383_0)).trans hx383_0
    replace hx383_1 := (HB.out.cell (World.block_lt_of_cell? w _ hx383_1)).trans hx383_1
    replace hx383_2 := (HB.out.cell (World.block_lt_of_cell? w _ hx383_2)).trans hx383_2
    replace hx383_3 := (HB.out.cell (World.block_lt_of_cell? w _ hx383_3)).trans hx383_3
    replace p383 := eq_true p383
    replace q383 := eq_true q383
    have go_ := True.intro
    repeat ((first | go_quiet (first | ((with_reducible refine gate_dst (N := 13) rfl ?_); refine box_event ?hg (N := 13) ?hd (cs := #[.int .i64 0, .int .i64 0, .int .i64 0, .int .i64 0]) (t := 61) ?hr ?_; (case hd => rfl); (case hg => rfl); (case hr => first | (go_simp; done) | (go_simp; rfl)); intro gb384 hg w19 hbox hb; have n0_ := Aside0.mk (Kd.R_below (bR HO_8.out) hb); have n1_ := Aside0.mk (Kd.R_below (bR HO_9.out) hb); have n2_ := Aside0.mk (below_step (bw HB.out) hb); have n3_ := Aside0.mk (hbox); have n4_ := ge_ hg HB.out; have n5_ := ge_ hg HB.out; replace HO_8 := n0_; replace HO_9 := n1_; replace HB := n2_; have BK384 := n3_; have GW384 := n4_; have GE384 := n5_; clear n0_ n1_ n2_ n3_ n4_ n5_; clear hb hbox hg; obtain ⟨hcz20_0, hcz20_1, hcz20_2, hcz20_3, hfz20_0, hfz20_1, hfz20_2, hfz20_3⟩ := bz4 BK384.out) | ((with_reducible refine gate_store (t := 61) (p := 13) rfl ?_); (try (rw [drewN_self w19]; generalize hq_ : World.drewN w19 _ = w19; have n0_ := Aside0.mk (Kd.R_at hq_ HO_8.out); have n1_ := Aside0.mk (Kd.R_at hq_ HO_9.out); have n2_ := Aside0.mk (blk_at hq_ BK384.out); have n3_ := Aside0.mk (below_at hq_ HB.out); (try replace hx383_0 := cell_at hq_ hx383_0); (try replace hx383_1 := cell_at hq_ hx383_1); (try replace hx383_2 := cell_at hq_ hx383_2); (try replace hx383_3 := cell_at hq_ hx383_3); (try replace hx18_0 := cell_at hq_ hx18_0); (try replace hf18_0 := frz_at hq_ hf18_0); clear hq_ HO_8 HO_9 BK384 HB; have HO_8 := n0_; have HO_9 := n1_; have BK384 := n2_; have HB := n3_; clear n0_ n1_ n2_ n3_)); refine store_event (t := 61) (p := 13) (v := ?vo_w21) (w1 := ((((w19.setCell ⟨gb384, 0, none⟩ (.int .i64 ((rd_T61 l0 x29_1).f0))).setCell ⟨gb384, 1, none⟩ (.int .i64 ((rd_T61 l0 x29_1).f1))).setCell ⟨gb384, 2, none⟩ (.int .i64 ((rd_T61 l0 x29_1).f2))).setCell ⟨gb384, 3, none⟩ (.int .i64 ((rd_T61 l0 x29_1).f3)))) ?hg ?ho ?hn ?hr ?_; (case ho => rfl); (case hg => rfl); (case hn => rfl); (case hr => first | (go_simp; done) | (go_simp; rfl)); intro w21 hw; have n0_ : Aside0 (Kd.R (Kd.int .i64) 3 w21 w.heap.size (fun k_ => some k_ ≠ (v381 : Value).ownBlock) v378 x8_1) := ⟨(by rw [hw]; exact (by (with_reducible repeat (first | apply Kd.R_alloc | apply Kd.R_drewN | apply Kd.R_drew)); exact Kd.R_mono (Kd.R_far (p := ⟨gb384, 3, none⟩) (Kd.R_far (p := ⟨gb384, 2, none⟩) (Kd.R_far (p := ⟨gb384, 1, none⟩) (Kd.R_far (p := ⟨gb384, 0, none⟩) (Kd.R_types HO_8.out BK384.out (by decide)) (fun _ hk => hk.2) (.int .i64 ((rd_T61 l0 x29_1).f0))) (fun _ hk => hk.2) (.int .i64 ((rd_T61 l0 x29_1).f1))) (fun _ hk => hk.2) (.int .i64 ((rd_T61 l0 x29_1).f2))) (fun _ hk => hk.2) (.int .i64 ((rd_T61 l0 x29_1).f3))) (fun _ hk => hk.1)))⟩; have n1_ : Aside0 (Kd.R (Kd.int .i64) 3 w21 w.heap.size (fun k_ => some k_ ≠ (v378 : Value).ownBlock) v381 y380) := ⟨(by rw [hw]; exact (by (with_reducible repeat (first | apply Kd.R_alloc | apply Kd.R_drewN | apply Kd.R_drew)); exact Kd.R_mono (Kd.R_far (p := ⟨gb384, 3, none⟩) (Kd.R_far (p := ⟨gb384, 2, none⟩) (Kd.R_far (p := ⟨gb384, 1, none⟩) (Kd.R_far (p := ⟨gb384, 0, none⟩) (Kd.R_types HO_9.out BK384.out (by decide)) (fun _ hk => hk.2) (.int .i64 ((rd_T61 l0 x29_1).f0))) (fun _ hk => hk.2) (.int .i64 ((rd_T61 l0 x29_1).f1))) (fun _ hk => hk.2) (.int .i64 ((rd_T61 l0 x29_1).f2))) (fun _ hk => hk.2) (.int .i64 ((rd_T61 l0 x29_1).f3))) (fun _ hk => hk.1)))⟩; have n2_ : Aside0 (w21.heap[gb384]? = some (.cells #[.int .i64 ((rd_T61 l0 x29_1).f0), .int .i64 ((rd_T61 l0 x29_1).f1), .int .i64 ((rd_T61 l0 x29_1).f2), .int .i64 ((rd_T61 l0 x29_1).f3)] 61 (0, 0))) := ⟨(by rw [hw]; exact (by (with_reducible repeat (first | refine blk_drewN ?_ _ | refine blk_drew ?_ | refine blk_alloc ?_ _)); refine blk_put (cs := #[.int .i64 ((rd_T61 l0 x29_1).f0), .int .i64 ((rd_T61 l0 x29_1).f1), .int .i64 ((rd_T61 l0 x29_1).f2), .int .i64 0]) ?_ 3 _ rfl; (with_reducible repeat (first | refine blk_drewN ?_ _ | refine blk_drew ?_ | refine blk_alloc ?_ _)); refine blk_put (cs := #[.int .i64 ((rd_T61 l0 x29_1).f0), .int .i64 ((rd_T61 l0 x29_1).f1), .int .i64 0, .int .i64 0]) ?_ 2 _ rfl; (with_reducible repeat (first | refine blk_drewN ?_ _ | refine blk_drew ?_ | refine blk_alloc ?_ _)); refine blk_put (cs := #[.int .i64 ((rd_T61 l0 x29_1).f0), .int .i64 0, .int .i64 0, .int .i64 0]) ?_ 1 _ rfl; (with_reducible repeat (first | refine blk_drewN ?_ _ | refine blk_drew ?_ | refine blk_alloc ?_ _)); refine blk_put (cs := #[.int .i64 0, .int .i64 0, .int .i64 0, .int .i64 0]) ?_ 0 _ rfl; exact bs BK384.out))⟩; have n3_ : Aside0 (Below w.heap.size w w21) := ⟨(by rw [hw]; exact (by repeat (first | (with_reducible first | exact bw HB.out | refine bset ?_ | apply bA | apply bN | apply bD) | exact HB.out)))⟩; clear hw; replace HO_8 := n0_; replace HO_9 := n1_; replace BK384 := n2_; replace HB := n3_; clear n0_ n1_ n2_ n3_) | (go_at_call 93; (with_reducible refine (impl_has.calls k1 _ _ l1 x29_1 false _ ?side1 ?side2 A13.out).mono ?_); (case side1 => first | exact bC HR1.out HB.out | exact Kd.C_below HR1.out HB.out); (case side2 => exact HC1.out); rintro e w' ⟨rfl, ⟨nd, rfl⟩⟩; (try first | exact ⟨rfl, _, World.drewN_drewN _ _ _⟩ | exact ⟨rfl, _, Eq.trans (World.drewN_drewN _ _ _) (congrArg (World.drewN _) (Nat.add_assoc _ _ _))⟩); obtain ⟨hcz22_0, hcz22_1, hcz22_2, hcz22_3, hfz22_0, hfz22_1, hfz22_2, hfz22_3⟩ := bz4 BK384.out; have p18 : 0 ≤ (x29_1 : Int) := of_decide_eq_true (by first | (with_reducible assumption) | assumption); have q18 : (x29_1 : Int) < ((x8_1.length : Int) : Int) := of_decide_eq_true (by first | (with_reducible assumption) | assumption); obtain ⟨go18, co18, eo18, gb18, gl18, cl18, HG18⟩ := Kd.R_form HO_8.out (by omega); (first | cases eo18 | (injection eo18 with ea_ en_ ec_; (first | subst ea_ | (injection ea_ with ea_; subst ea_)); subst ec_; clear en_)); have GB18 := Aside0.mk gb18; have GG18 := Aside0.mk HG18; clear gb18 gl18 HG18; obtain ⟨hx18_0, hf18_0⟩ := Kd.R_celln 0 HO_8.out (x29_1 : Int) p18 q18; replace p18 := eq_true p18; replace q18 := eq_true q18; obtain ⟨hy23_, hz23_⟩ := Kd.R_celln 0 HO_8.out (x29_1 : Int) (of_decide_eq_true (by first | (with_reducible assumption) | assumption)) (of_decide_eq_true (by first | (with_reducible assumption) | assumption)); have HP23 := Kd.R_putg HO_8.out (x29_1 : Int) ((rd_T61 l0 x29_1).f0)) | ((with_reducible refine gate_store (t := 3) (p := 42) rfl ?_); (try (rw [drewN_self w21]; generalize hq_ : World.drewN w21 _ = w21; have n0_ := Aside0.mk (Kd.R_at hq_ HO_8.out); have n1_ := Aside0.mk (Kd.R_at hq_ HO_9.out); have n2_ := Aside0.mk (blk_at hq_ BK384.out); have n3_ := Aside0.mk (below_at hq_ HB.out); (try replace hx383_0 := cell_at hq_ hx383_0); (try replace hx383_1 := cell_at hq_ hx383_1); (try replace hx383_2 := cell_at hq_ hx383_2); (try replace hx383_3 := cell_at hq_ hx383_3); (try replace hx18_0 := cell_at hq_ hx18_0); (try replace hf18_0 := frz_at hq_ hf18_0); clear hq_ HO_8 HO_9 BK384 HB; have HO_8 := n0_; have HO_9 := n1_; have BK384 := n2_; have HB := n3_; clear n0_ n1_ n2_ n3_; (try (obtain ⟨hy23_, hz23_⟩ := Kd.R_celln 0 HO_8.out (x29_1 : Int) (of_decide_eq_true (by first | (with_reducible assumption) | assumption)) (of_decide_eq_true (by first | (with_reducible assumption) | assumption)))); (try (have HP23 := Kd.R_putg HO_8.out (x29_1 : Int) ((rd_T61 l0 x29_1).f0))))); refine store_event (t := 3) (p := 42) (v := ?vo_w24) (w1 := (w21.setCell ⟨go18, (x29_1 : Int).toNat, none⟩ (.int .i64 ((rd_T61 l0 x29_1).f0)))) ?hg ?ho ?hn ?hr ?_; (case ho => rfl); (case hg => rfl); (case hn => rfl); (case hr => first | (go_simp; done) | (go_simp; rfl)); intro w24 hw; have hg : w21.grownBy w24 (some go18) := (by rw [hw]; exact HP23.2); have hp_ : Kd.R (Kd.int .i64) 3 w24 w.heap.size (fun k_ => some k_ ≠ (v381 : Value).ownBlock) (.slice (some ⟨go18, 0, none⟩) x8_1.length co18) y386 := (by rw [hw, Ny386.out]; exact HP23.1); clear HP23; have n0_ := Aside0.mk (hp_); have n1_ := Aside0.mk (Kd.R_after (v := (.slice (some ⟨go18, 0, none⟩) x8_1.length co18)) (v1 := (.slice (some ⟨go18, 0, none⟩) x8_1.length co18)) (ok := (fun _ => True)) (by (with_reducible repeat (first | apply Kd.R_alloc | apply Kd.R_drewN | apply Kd.R_drew)); exact Kd.R_mono HO_9.out (fun _ hk => ⟨trivial, hk⟩)) hg (.inl rfl)); have n2_ := Aside0.mk (blk_grown (bs BK384.out) hg (Kd.R_ne HO_8.out BK384.out (by decide))); have n3_ := Aside0.mk ((by rw [hw]; exact below_set (HB.out) GB18.out : Below w.heap.size w w24)); replace HO_8 := n0_; replace HO_9 := n1_; replace BK384 := n2_; replace HB := n3_; clear n0_ n1_ n2_ n3_; clear hg hw hp_; obtain ⟨hcz25_0, hcz25_1, hcz25_2, hcz25_3, hfz25_0, hfz25_1, hfz25_2, hfz25_3⟩ := bz4 BK384.out)) | clear go_); go_wp2_with (first | ((with_reducible refine gate_dst (N := 13) rfl ?_); refine box_event ?hg (N := 13) ?hd (cs := #[.int .i64 0, .int .i64 0, .int .i64 0, .int .i64 0]) (t := 61) ?hr ?_; (case hd => rfl); (case hg => rfl); (case hr => first | (go_simp; done) | (go_simp; rfl)); intro gb384 hg w19 hbox hb; have n0_ := Aside0.mk (Kd.R_below (bR HO_8.out) hb); have n1_ := Aside0.mk (Kd.R_below (bR HO_9.out) hb); have n2_ := Aside0.mk (below_step (bw HB.out) hb); have n3_ := Aside0.mk (hbox); have n4_ := ge_ hg HB.out; have n5_ := ge_ hg HB.out; replace HO_8 := n0_; replace HO_9 := n1_; replace HB := n2_; have BK384 := n3_; have GW384 := n4_; have GE384 := n5_; clear n0_ n1_ n2_ n3_ n4_ n5_; clear hb hbox hg; obtain ⟨hcz20_0, hcz20_1, hcz20_2, hcz20_3, hfz20_0, hfz20_1, hfz20_2, hfz20_3⟩ := bz4 BK384.out) | ((with_reducible refine gate_store (t := 61) (p := 13) rfl ?_); (try (rw [drewN_self w19]; generalize hq_ : World.drewN w19 _ = w19; have n0_ := Aside0.mk (Kd.R_at hq_ HO_8.out); have n1_ := Aside0.mk (Kd.R_at hq_ HO_9.out); have n2_ := Aside0.mk (blk_at hq_ BK384.out); have n3_ := Aside0.mk (below_at hq_ HB.out); (try replace hx383_0 := cell_at hq_ hx383_0); (try replace hx383_1 := cell_at hq_ hx383_1); (try replace hx383_2 := cell_at hq_ hx383_2); (try replace hx383_3 := cell_at hq_ hx383_3); (try replace hx18_0 := cell_at hq_ hx18_0); (try replace hf18_0 := frz_at hq_ hf18_0); clear hq_ HO_8 HO_9 BK384 HB; have HO_8 := n0_; have HO_9 := n1_; have BK384 := n2_; have HB := n3_; clear n0_ n1_ n2_ n3_)); refine store_event (t := 61) (p := 13) (v := ?vo_w21) (w1 := ((((w19.setCell ⟨gb384, 0, none⟩ (.int .i64 ((rd_T61 l0 x29_1).f0))).setCell ⟨gb384, 1, none⟩ (.int .i64 ((rd_T61 l0 x29_1).f1))).setCell ⟨gb384, 2, none⟩ (.int .i64 ((rd_T61 l0 x29_1).f2))).setCell ⟨gb384, 3, none⟩ (.int .i64 ((rd_T61 l0 x29_1).f3)))) ?hg ?ho ?hn ?hr ?_; (case ho => rfl); (case hg => rfl); (case hn => rfl); (case hr => first | (go_simp; done) | (go_simp; rfl)); intro w21 hw; have n0_ : Aside0 (Kd.R (Kd.int .i64) 3 w21 w.heap.size (fun k_ => some k_ ≠ (v381 : Value).ownBlock) v378 x8_1) := ⟨(by rw [hw]; exact (by (with_reducible repeat (first | apply Kd.R_alloc | apply Kd.R_drewN | apply Kd.R_drew)); exact Kd.R_mono (Kd.R_far (p := ⟨gb384, 3, none⟩) (Kd.R_far (p := ⟨gb384, 2, none⟩) (Kd.R_far (p := ⟨gb384, 1, none⟩) (Kd.R_far (p := ⟨gb384, 0, none⟩) (Kd.R_types HO_8.out BK384.out (by decide)) (fun _ hk => hk.2) (.int .i64 ((rd_T61 l0 x29_1).f0))) (fun _ hk => hk.2) (.int .i64 ((rd_T61 l0 x29_1).f1))) (fun _ hk => hk.2) (.int .i64 ((rd_T61 l0 x29_1).f2))) (fun _ hk => hk.2) (.int .i64 ((rd_T61 l0 x29_1).f3))) (fun _ hk => hk.1)))⟩; have n1_ : Aside0 (Kd.R (Kd.int .i64) 3 w21 w.heap.size (fun k_ => some k_ ≠ (v378 : Value).ownBlock) v381 y380) := ⟨(by rw [hw]; exact (by (with_reducible repeat (first | apply Kd.R_alloc | apply Kd.R_drewN | apply Kd.R_drew)); exact Kd.R_mono (Kd.R_far (p := ⟨gb384, 3, none⟩) (Kd.R_far (p := ⟨gb384, 2, none⟩) (Kd.R_far (p := ⟨gb384, 1, none⟩) (Kd.R_far (p := ⟨gb384, 0, none⟩) (Kd.R_types HO_9.out BK384.out (by decide)) (fun _ hk => hk.2) (.int .i64 ((rd_T61 l0 x29_1).f0))) (fun _ hk => hk.2) (.int .i64 ((rd_T61 l0 x29_1).f1))) (fun _ hk => hk.2) (.int .i64 ((rd_T61 l0 x29_1).f2))) (fun _ hk => hk.2) (.int .i64 ((rd_T61 l0 x29_1).f3))) (fun _ hk => hk.1)))⟩; have n2_ : Aside0 (w21.heap[gb384]? = some (.cells #[.int .i64 ((rd_T61 l0 x29_1).f0), .int .i64 ((rd_T61 l0 x29_1).f1), .int .i64 ((rd_T61 l0 x29_1).f2), .int .i64 ((rd_T61 l0 x29_1).f3)] 61 (0, 0))) := ⟨(by rw [hw]; exact (by (with_reducible repeat (first | refine blk_drewN ?_ _ | refine blk_drew ?_ | refine blk_alloc ?_ _)); refine blk_put (cs := #[.int .i64 ((rd_T61 l0 x29_1).f0), .int .i64 ((rd_T61 l0 x29_1).f1), .int .i64 ((rd_T61 l0 x29_1).f2), .int .i64 0]) ?_ 3 _ rfl; (with_reducible repeat (first | refine blk_drewN ?_ _ | refine blk_drew ?_ | refine blk_alloc ?_ _)); refine blk_put (cs := #[.int .i64 ((rd_T61 l0 x29_1).f0), .int .i64 ((rd_T61 l0 x29_1).f1), .int .i64 0, .int .i64 0]) ?_ 2 _ rfl; (with_reducible repeat (first | refine blk_drewN ?_ _ | refine blk_drew ?_ | refine blk_alloc ?_ _)); refine blk_put (cs := #[.int .i64 ((rd_T61 l0 x29_1).f0), .int .i64 0, .int .i64 0, .int .i64 0]) ?_ 1 _ rfl; (with_reducible repeat (first | refine blk_drewN ?_ _ | refine blk_drew ?_ | refine blk_alloc ?_ _)); refine blk_put (cs := #[.int .i64 0, .int .i64 0, .int .i64 0, .int .i64 0]) ?_ 0 _ rfl; exact bs BK384.out))⟩; have n3_ : Aside0 (Below w.heap.size w w21) := ⟨(by rw [hw]; exact (by repeat (first | (with_reducible first | exact bw HB.out | refine bset ?_ | apply bA | apply bN | apply bD) | exact HB.out)))⟩; clear hw; replace HO_8 := n0_; replace HO_9 := n1_; replace BK384 := n2_; replace HB := n3_; clear n0_ n1_ n2_ n3_) | (go_at_call 93; (with_reducible refine (impl_has.calls k1 _ _ l1 x29_1 false _ ?side1 ?side2 A13.out).mono ?_); (case side1 => first | exact bC HR1.out HB.out | exact Kd.C_below HR1.out HB.out); (case side2 => exact HC1.out); rintro e w' ⟨rfl, ⟨nd, rfl⟩⟩; (try first | exact ⟨rfl, _, World.drewN_drewN _ _ _⟩ | exact ⟨rfl, _, Eq.trans (World.drewN_drewN _ _ _) (congrArg (World.drewN _) (Nat.add_assoc _ _ _))⟩); obtain ⟨hcz22_0, hcz22_1, hcz22_2, hcz22_3, hfz22_0, hfz22_1, hfz22_2, hfz22_3⟩ := bz4 BK384.out; have p18 : 0 ≤ (x29_1 : Int) := of_decide_eq_true (by first | (with_reducible assumption) | assumption); have q18 : (x29_1 : Int) < ((x8_1.length : Int) : Int) := of_decide_eq_true (by first | (with_reducible assumption) | assumption); obtain ⟨go18, co18, eo18, gb18, gl18, cl18, HG18⟩ := Kd.R_form HO_8.out (by omega); (first | cases eo18 | (injection eo18 with ea_ en_ ec_; (first | subst ea_ | (injection ea_ with ea_; subst ea_)); subst ec_; clear en_)); have GB18 := Aside0.mk gb18; have GG18 := Aside0.mk HG18; clear gb18 gl18 HG18; obtain ⟨hx18_0, hf18_0⟩ := Kd.R_celln 0 HO_8.out (x29_1 : Int) p18 q18; replace p18 := eq_true p18; replace q18 := eq_true q18; obtain ⟨hy23_, hz23_⟩ := Kd.R_celln 0 HO_8.out (x29_1 : Int) (of_decide_eq_true (by first | (with_reducible assumption) | assumption)) (of_decide_eq_true (by first | (with_reducible assumption) | assumption)); have HP23 := Kd.R_putg HO_8.out (x29_1 : Int) ((rd_T61 l0 x29_1).f0)) | ((with_reducible refine gate_store (t := 3) (p := 42) rfl ?_); (try (rw [drewN_self w21]; generalize hq_ : World.drewN w21 _ = w21; have n0_ := Aside0.mk (Kd.R_at hq_ HO_8.out); have n1_ := Aside0.mk (Kd.R_at hq_ HO_9.out); have n2_ := Aside0.mk (blk_at hq_ BK384.out); have n3_ := Aside0.mk (below_at hq_ HB.out); (try replace hx383_0 := cell_at hq_ hx383_0); (try replace hx383_1 := cell_at hq_ hx383_1); (try replace hx383_2 := cell_at hq_ hx383_2); (try replace hx383_3 := cell_at hq_ hx383_3); (try replace hx18_0 := cell_at hq_ hx18_0); (try replace hf18_0 := frz_at hq_ hf18_0); clear hq_ HO_8 HO_9 BK384 HB; have HO_8 := n0_; have HO_9 := n1_; have BK384 := n2_; have HB := n3_; clear n0_ n1_ n2_ n3_; (try (obtain ⟨hy23_, hz23_⟩ := Kd.R_celln 0 HO_8.out (x29_1 : Int) (of_decide_eq_true (by first | (with_reducible assumption) | assumption)) (of_decide_eq_true (by first | (with_reducible assumption) | assumption)))); (try (have HP23 := Kd.R_putg HO_8.out (x29_1 : Int) ((rd_T61 l0 x29_1).f0))))); refine store_event (t := 3) (p := 42) (v := ?vo_w24) (w1 := (w21.setCell ⟨go18, (x29_1 : Int).toNat, none⟩ (.int .i64 ((rd_T61 l0 x29_1).f0)))) ?hg ?ho ?hn ?hr ?_; (case ho => rfl); (case hg => rfl); (case hn => rfl); (case hr => first | (go_simp; done) | (go_simp; rfl)); intro w24 hw; have hg : w21.grownBy w24 (some go18) := (by rw [hw]; exact HP23.2); have hp_ : Kd.R (Kd.int .i64) 3 w24 w.heap.size (fun k_ => some k_ ≠ (v381 : Value).ownBlock) (.slice (some ⟨go18, 0, none⟩) x8_1.length co18) y386 := (by rw [hw, Ny386.out]; exact HP23.1); clear HP23; have n0_ := Aside0.mk (hp_); have n1_ := Aside0.mk (Kd.R_after (v := (.slice (some ⟨go18, 0, none⟩) x8_1.length co18)) (v1 := (.slice (some ⟨go18, 0, none⟩) x8_1.length co18)) (ok := (fun _ => True)) (by (with_reducible repeat (first | apply Kd.R_alloc | apply Kd.R_drewN | apply Kd.R_drew)); exact Kd.R_mono HO_9.out (fun _ hk => ⟨trivial, hk⟩)) hg (.inl rfl)); have n2_ := Aside0.mk (blk_grown (bs BK384.out) hg (Kd.R_ne HO_8.out BK384.out (by decide))); have n3_ := Aside0.mk ((by rw [hw]; exact below_set (HB.out) GB18.out : Below w.heap.size w w24)); replace HO_8 := n0_; replace HO_9 := n1_; replace BK384 := n2_; replace HB := n3_; clear n0_ n1_ n2_ n3_; clear hg hw hp_; obtain ⟨hcz25_0, hcz25_1, hcz25_2, hcz25_3, hfz25_0, hfz25_1, hfz25_2, hfz25_3⟩ := bz4 BK384.out)))
    go_roundg k1
    case measure => have := HK1.out; omega
    case rel => exact ⟨(y386), (wrap64 (x10_1 + ((rd_T61 l0 x29_1).f0))), (wrap64 (x29_1 + 1)), (by first | rfl | (simp; done) | (simp [*]; done)), (by first | rfl | (simp; done) | (simp [*]; done)), H', ⟨by have := HK1.out; omega⟩, ⟨bR HO_8.out⟩, ⟨by (with_reducible repeat (first | apply Kd.R_alloc | apply Kd.R_drewN | apply Kd.R_drew)); exact Kd.R_mono HO_9.out (fun _ hk => hk.2)⟩, ⟨by repeat (first | (with_reducible first | exact bw HB.out | refine bset ?_ | apply bA | apply bN | apply bD) | exact HB.out)⟩⟩
   rw [if_neg c10] at H
   have c10b0 : decide (x29_1 < (l0.length : Int)) = false := decide_eq_false c10
   clear c10
   have H' := Aside0.mk H
   clear H
   go_wp2
   repeat (go_quiet (fail); try go_wp2)
   go_loopg [11, 50] k1 (fun kq v11 v50 w' => ∃ (x9_2 : List Int) (x11_2 : Int) (x50_2 : Int), v11 = .int .i64 x11_2 ∧ v50 = .int .i64 x50_2 ∧ Aside0 (impl_choose.l1 kq l0 a2 x8_1 x9_2 x10_1 x11_2 l1 (l1.length : Int) x50_2 = some (r1, r2)) ∧ Aside0 (kq ≤ k1) ∧ Aside0 (Kd.R (Kd.int .i64) 3 w' w.heap.size (fun k_ => some k_ ≠ (v381 : Value).ownBlock) v378 x8_1) ∧ Aside0 (Kd.R (Kd.int .i64) 3 w' w.heap.size (fun k_ => some k_ ≠ (v378 : Value).ownBlock) v381 x9_2) ∧ Aside0 (Below w.heap.size w w'))
   case atStart => exact ⟨(y380), (0), (0), (by first | rfl | (simp; done) | (simp [*]; done)), (by first | rfl | (simp; done) | (simp [*]; done)), H', ⟨Nat.le_refl _⟩, ⟨bR HO_8.out⟩, ⟨bR HO_9.out⟩, ⟨bw HB.out⟩⟩
   case round =>
    clear H'
    try clear c1
    try clear p1
    try clear q1
    try clear hx1
    try clear p2
    try clear p3
    try clear q3
    try clear hx3
    try clear c4
    try clear c4b0
    try clear c4b1
    try clear c5
    try clear c5b0
    try clear c5b1
    try clear p6
    try clear c7
    try clear c10
    try clear c10b0
    try clear c11
    try clear c11b0
    try clear c12
    try clear c12b0
    try clear c14
    try clear c17
    try clear c17b0
    try clear p18
    try clear q18
    try clear hx18
    try clear hf18
    try clear hcz16_0
    try clear hcz16_1
    try clear hcz16_2
    try clear hcz16_3
    try clear hcz20_0
    try clear hcz20_1
    try clear hcz20_2
    try clear hcz20_3
    try clear hcz22_0
    try clear hcz22_1
    try clear hcz22_2
    try clear hcz22_3
    try clear hcz25_0
    try clear hcz25_1
    try clear hcz25_2
    try clear hcz25_3
    try clear hfz16_0
    try clear hfz16_1
    try clear hfz16_2
    try clear hfz16_3
    try clear hfz20_0
    try clear hfz20_1
    try clear hfz20_2
    try clear hfz20_3
    try clear hfz22_0
    try clear hfz22_1
    try clear hfz22_2
    try clear hfz22_3
    try clear hfz25_0
    try clear hfz25_1
    try clear hfz25_2
    try clear hfz25_3
    try clear hx18_0
    try clear hx383_0
    try clear hx383_1
    try clear hx383_2
    try clear hx383_3
    try clear p18
    try clear p2
    try clear p383
    try clear q18
    try clear q383
    obtain ⟨x9_2, x11_2, x50_2, rfl, rfl, HA, HK2, HO_8, HO_9, HB⟩ := hrel
    cases gk with
    | zero => exact absurd HA.out (by simp [impl_choose.l1])
    | succ k2 =>
     have H := HA.out
     clear HA
     simp only [impl_choose.l1] at H
     by_cases c26 : x50_2 < (l1.length : Int)
     ·rw [if_pos c26] at H
      have c26b0 : decide (x50_2 < (l1.length : Int)) = true := decide_eq_true c26
      clear c26
      by_cases c27 : 0 ≤ x50_2
      rotate_left
      ·rw [if_neg c27] at H
       exact absurd H (by simp)
      rw [if_pos c27] at H
      have c27b0 : decide (0 ≤ x50_2) = true := decide_eq_true c27
      clear c27
      by_cases c28 : x50_2 < (l1.length : Int)
      rotate_left
      ·rw [if_neg c28] at H
       exact absurd H (by simp)
      rw [if_pos c28] at H
      have c28b0 : decide (x50_2 < (l1.length : Int)) = true := decide_eq_true c28
      clear c28
      by_cases c29 : 0 ≤ (rd l1 x50_2)
      rotate_left
      ·rw [if_neg c29] at H
       exact absurd H (by simp)
      rw [if_pos c29] at H
      have c29b0 : decide (0 ≤ (rd l1 x50_2)) = true := decide_eq_true c29
      clear c29
      by_cases c30 : (rd l1 x50_2) < (l0.length : Int)
      rotate_left
      ·rw [if_neg c30] at H
       exact absurd H (by simp)
      rw [if_pos c30] at H
      have c30b0 : decide ((rd l1 x50_2) < (l0.length : Int)) = true := decide_eq_true c30
      clear c30
      obtain ⟨ji31, hji31⟩ : ∃ j_ : Int, (mx x11_2 ((rd_T61 l0 (rd l1 x50_2)).f2)) = j_ := ⟨_, rfl⟩
      replace H : (if (rd l1 x50_2) < (x9_2.length : Int) then (impl_choose.l1 k2 l0 a2 x8_1 (x9_2.set ((rd l1 x50_2) : Int).toNat (wrap64 ((ji31) + ((rd_T61 l0 (rd l1 x50_2)).f0)))) x10_1 (wrap64 ((ji31) + ((rd_T61 l0 (rd l1 x50_2)).f0))) l1 (l1.length : Int) (wrap64 (x50_2 + 1))) else (none)) = some (r1, r2) := by first | (rw [hji31] at H; exact H) | (simp only [hji31] at H ⊢; exact H)
      have hji31_ : (if x11_2 < ((rd_T61 l0 (rd l1 x50_2)).f2) then ((rd_T61 l0 (rd l1 x50_2)).f2) else x11_2) = ji31 := hji31
      by_cases c32 : (rd l1 x50_2) < (x9_2.length : Int)
      rotate_left
      ·rw [if_neg c32] at H
       exact absurd H (by simp)
      rw [if_pos c32] at H
      have c32b0 : decide ((rd l1 x50_2) < (x9_2.length : Int)) = true := decide_eq_true c32
      clear c32
      obtain ⟨y390, hy390⟩ : ∃ y_ : List Int, y_ = (x9_2.set ((rd l1 x50_2) : Int).toNat (wrap64 ((ji31) + ((rd_T61 l0 (rd l1 x50_2)).f0)))) := ⟨_, rfl⟩
      replace H : (impl_choose.l1 k2 l0 a2 x8_1 y390 x10_1 (wrap64 ((ji31) + ((rd_T61 l0 (rd l1 x50_2)).f0))) l1 (l1.length : Int) (wrap64 (x50_2 + 1))) = some (r1, r2) := by first | (rw [hy390]; with_reducible exact H) | (have H2_ := (Option.bind_some _ _).symm.trans H; rw [hy390]; with_reducible exact H2_) | (have H2_ := (Option.bind_some _ _).symm.trans H; with_reducible exact H2_) | with_reducible exact H | (rw [hy390]; exact H) | exact H
      have Ny390 := Aside0.mk hy390
      clear hy390
      have H' := Aside0.mk H
      clear H
      have p387 : 0 ≤ (x50_2 : Int) := of_decide_eq_true (by first | (with_reducible assumption) | assumption)
      have q387 : x50_2 < (l1.length : Int) := of_decide_eq_true (by first | (with_reducible assumption) | assumption)
      obtain ⟨ad387, e387, hx387_0⟩ := Kd.at_int HR1.out x50_2 p387 q387
      cases e387
      replace hx387_0 := (HB.out.cell (World.block_lt_of_cell? w _ hx387_0)).trans hx387_0
      replace p387 := eq_true p387
      replace q387 := eq_true q387
      have p388 : 0 ≤ ((rd l1 x50_2) : Int) := of_decide_eq_true (by first | (with_reducible assumption) | assumption)
      have q388 : (rd l1 x50_2) < (l0.length : Int) := of_decide_eq_true (by first | (with_reducible assumption) | assumption)
      obtain ⟨ad388, e388, hx388_0, hx388_1, hx388_2, hx388_3⟩ := at_T61 HR0.out (rd l1 x50_2) p388 q388
      cases e388
      replace hx388_0 := (HB.out.cell (World.block_lt_of_cell? w _ hx388_0)).trans hx388_0
      replace hx388_1 := (HB.out.cell (World.block_lt_of_cell? w _ hx388_1)).trans hx388_1
      replace hx388_2 := (HB.out.cell (World.block_lt_of_cell? w _ hx388_2)).trans hx388_2
      replace hx388_3 := (HB.out.cell (World.block_lt_of_cell? w _ hx388_3)).trans hx388_3
      replace p388 := eq_true p388
      replace q388 := eq_true q388
      have p389 : 0 ≤ ((rd l1 x50_2) : Int) := of_decide_eq_true (by first | (with_reducible assumption) | assumption)
      have q389 : (rd l1 x50_2) < (l0.length : Int) := of_decide_eq_true (by first | (with_reducible assumption) | assumption)
      obtain ⟨ad389, e389, hx389_0, hx389_1, hx389_2, hx389_3⟩ := at_T61 HR0.out (rd l1 x50_2) p389 q389
      obtain rfl : ad388 = ad389 := (by injection e389)
      replace hx389_0 := (HB.out.cell (World.block_lt_of_cell? w _ hx389_0)).trans hx389_0
      replace hx389_1 := (HB.out.cell (World.block_lt_of_cell? w _ hx389_1)).trans hx389_1
      replace hx389_2 := (HB.out.cell (World.block_lt_of_cell? w _ hx389_2)).trans hx389_2
      replace hx389_3 := (HB.out.cell (World.block_lt_of_cell? w _ hx389_3)).trans hx389_3
      replace p389 := eq_true p389
      replace q389 := eq_true q389
      have p33 : 0 ≤ ((rd l1 x50_2) : Int) := of_decide_eq_true (by first | (with_reducible assumption) | assumption)
      have q33 : ((rd l1 x50_2) : Int) < ((x9_2.length : Int) : Int) := of_decide_eq_true (by first | (with_reducible assumption) | assumption)
      obtain ⟨go33, co33, eo33, gb33, gl33, cl33, HG33⟩ := Kd.R_form HO_9.out (by omega)
      (first | cases eo33 | (injection eo33 with ea_ en_ ec_; (first | subst ea_ | (injection ea_ with ea_; subst ea_)); subst ec_; clear en_))
      have GB33 := Aside0.mk gb33
      have GG33 := Aside0.mk HG33
      clear gb33 gl33 HG33
      obtain ⟨hx33_0, hf33_0⟩ := Kd.R_celln 0 HO_9.out ((rd l1 x50_2) : Int) p33 q33
      replace p33 := eq_true p33
      replace q33 := eq_true q33
      have HP34 := Kd.R_putg HO_9.out ((rd l1 x50_2) : Int) (wrap64 ((ji31) + ((rd_T61 l0 (rd l1 x50_2)).f0)))
      have go_ := True.intro
      repeat ((first | go_quiet (first | ((with_reducible refine gate_store (t := 3) (p := 70) rfl ?_); (try (rw [drewN_self wr]; generalize hq_ : World.drewN wr _ = wr; have n0_ := Aside0.mk (Kd.R_at hq_ HO_8.out); have n1_ := Aside0.mk (Kd.R_at hq_ HO_9.out); have n2_ := Aside0.mk (below_at hq_ HB.out); (try replace hx383_0 := cell_at hq_ hx383_0); (try replace hx383_1 := cell_at hq_ hx383_1); (try replace hx383_2 := cell_at hq_ hx383_2); (try replace hx383_3 := cell_at hq_ hx383_3); (try replace hx18_0 := cell_at hq_ hx18_0); (try replace hf18_0 := frz_at hq_ hf18_0); (try replace hx387_0 := cell_at hq_ hx387_0); (try replace hx388_0 := cell_at hq_ hx388_0); (try replace hx388_1 := cell_at hq_ hx388_1); (try replace hx388_2 := cell_at hq_ hx388_2); (try replace hx388_3 := cell_at hq_ hx388_3); (try replace hx389_0 := cell_at hq_ hx389_0); (try replace hx389_1 := cell_at hq_ hx389_1); (try replace hx389_2 := cell_at hq_ hx389_2); (try replace hx389_3 := cell_at hq_ hx389_3); (try replace hx33_0 := cell_at hq_ hx33_0); (try replace hf33_0 := frz_at hq_ hf33_0); clear hq_ HO_8 HO_9 HB; have HO_8 := n0_; have HO_9 := n1_; have HB := n2_; clear n0_ n1_ n2_; (try (have HP34 := Kd.R_putg HO_9.out ((rd l1 x50_2) : Int) (wrap64 ((ji31) + ((rd_T61 l0 (rd l1 x50_2)).f0))))))); refine store_event (t := 3) (p := 70) (v := ?vo_w35) (w1 := (wr.setCell ⟨go33, ((rd l1 x50_2) : Int).toNat, none⟩ (.int .i64 (wrap64 ((ji31) + ((rd_T61 l0 (rd l1 x50_2)).f0)))))) ?hg ?ho ?hn ?hr ?_; (case ho => rfl); (case hg => rfl); (case hn => rfl); (case hr => first | (go_simp; done) | (go_simp; rfl)); intro w35 hw; have hg : wr.grownBy w35 (some go33) := (by rw [hw]; exact HP34.2); have hp_ : Kd.R (Kd.int .i64) 3 w35 w.heap.size (fun k_ => some k_ ≠ (v378 : Value).ownBlock) (.slice (some ⟨go33, 0, none⟩) x9_2.length co33) y390 := (by rw [hw, Ny390.out]; exact HP34.1); clear HP34; have n0_ := Aside0.mk (Kd.R_after (v := (.slice (some ⟨go33, 0, none⟩) x9_2.length co33)) (v1 := (.slice (some ⟨go33, 0, none⟩) x9_2.length co33)) (ok := (fun _ => True)) (by (with_reducible repeat (first | apply Kd.R_alloc | apply Kd.R_drewN | apply Kd.R_drew)); exact Kd.R_mono HO_8.out (fun _ hk => ⟨trivial, hk⟩)) hg (.inl rfl)); have n1_ := Aside0.mk (hp_); have n2_ := Aside0.mk ((by rw [hw]; exact below_set (HB.out) GB33.out : Below w.heap.size w w35)); replace HO_8 := n0_; replace HO_9 := n1_; replace HB := n2_; clear n0_ n1_ n2_; clear hg hw hp_)) | clear go_); go_wp2_with (first | ((with_reducible refine gate_store (t := 3) (p := 70) rfl ?_); (try (rw [drewN_self wr]; generalize hq_ : World.drewN wr _ = wr; have n0_ := Aside0.mk (Kd.R_at hq_ HO_8.out); have n1_ := Aside0.mk (Kd.R_at hq_ HO_9.out); have n2_ := Aside0.mk (below_at hq_ HB.out); (try replace hx383_0 := cell_at hq_ hx383_0); (try replace hx383_1 := cell_at hq_ hx383_1); (try replace hx383_2 := cell_at hq_ hx383_2); (try replace hx383_3 := cell_at hq_ hx383_3); (try replace hx18_0 := cell_at hq_ hx18_0); (try replace hf18_0 := frz_at hq_ hf18_0); (try replace hx387_0 := cell_at hq_ hx387_0); (try replace hx388_0 := cell_at hq_ hx388_0); (try replace hx388_1 := cell_at hq_ hx388_1); (try replace hx388_2 := cell_at hq_ hx388_2); (try replace hx388_3 := cell_at hq_ hx388_3); (try replace hx389_0 := cell_at hq_ hx389_0); (try replace hx389_1 := cell_at hq_ hx389_1); (try replace hx389_2 := cell_at hq_ hx389_2); (try replace hx389_3 := cell_at hq_ hx389_3); (try replace hx33_0 := cell_at hq_ hx33_0); (try replace hf33_0 := frz_at hq_ hf33_0); clear hq_ HO_8 HO_9 HB; have HO_8 := n0_; have HO_9 := n1_; have HB := n2_; clear n0_ n1_ n2_; (try (have HP34 := Kd.R_putg HO_9.out ((rd l1 x50_2) : Int) (wrap64 ((ji31) + ((rd_T61 l0 (rd l1 x50_2)).f0))))))); refine store_event (t := 3) (p := 70) (v := ?vo_w35) (w1 := (wr.setCell ⟨go33, ((rd l1 x50_2) : Int).toNat, none⟩ (.int .i64 (wrap64 ((ji31) + ((rd_T61 l0 (rd l1 x50_2)).f0)))))) ?hg ?ho ?hn ?hr ?_; (case ho => rfl); (case hg => rfl); (case hn => rfl); (case hr => first | (go_simp; done) | (go_simp; rfl)); intro w35 hw; have hg : wr.grownBy w35 (some go33) := (by rw [hw]; exact HP34.2); have hp_ : Kd.R (Kd.int .i64) 3 w35 w.heap.size (fun k_ => some k_ ≠ (v378 : Value).ownBlock) (.slice (some ⟨go33, 0, none⟩) x9_2.length co33) y390 := (by rw [hw, Ny390.out]; exact HP34.1); clear HP34; have n0_ := Aside0.mk (Kd.R_after (v := (.slice (some ⟨go33, 0, none⟩) x9_2.length co33)) (v1 := (.slice (some ⟨go33, 0, none⟩) x9_2.length co33)) (ok := (fun _ => True)) (by (with_reducible repeat (first | apply Kd.R_alloc | apply Kd.R_drewN | apply Kd.R_drew)); exact Kd.R_mono HO_8.out (fun _ hk => ⟨trivial, hk⟩)) hg (.inl rfl)); have n1_ := Aside0.mk (hp_); have n2_ := Aside0.mk ((by rw [hw]; exact below_set (HB.out) GB33.out : Below w.heap.size w w35)); replace HO_8 := n0_; replace HO_9 := n1_; replace HB := n2_; clear n0_ n1_ n2_; clear hg hw hp_)))
      go_roundg k2
      case measure => have := HK1.out; have := HK2.out; omega
      case rel => exact ⟨(y390), (wrap64 ((ji31) + ((rd_T61 l0 (rd l1 x50_2)).f0))), (wrap64 (x50_2 + 1)), (by first | rfl | (simp; done) | (simp only [← hji31] <;> (first | rfl | simp)) | (simp [*]; done)), (by first | rfl | (simp; done) | (simp [*]; done)), H', ⟨by have := HK1.out; have := HK2.out; omega⟩, ⟨by (with_reducible repeat (first | apply Kd.R_alloc | apply Kd.R_drewN | apply Kd.R_drew)); exact Kd.R_mono HO_8.out (fun _ hk => hk.2)⟩, ⟨bR HO_9.out⟩, ⟨bw HB.out⟩⟩
     rw [if_neg c26] at H
     have c26b0 : decide (x50_2 < (l1.length : Int)) = false := decide_eq_false c26
     clear c26
     have H' := Aside0.mk H
     clear H
     go_wp2
     repeat (go_quiet (fail); try go_wp2)
     go_loopg [10, 11, 16] k2 (fun kq v10 v11 v16 w' => ∃ (x8_3 : List Int) (x9_3 : List Int) (x10_3 : Int) (x11_3 : Int) (x16_3 : List (S92)), v10 = .int .i64 x10_3 ∧ v11 = .int .i64 x11_3 ∧ Aside0 (impl_choose.l2 kq l0 a2 x8_3 x9_3 x10_3 x11_3 x16_3 = some (r1, r2)) ∧ Aside0 (kq ≤ k2) ∧ Aside0 (Kd.R (Kd.int .i64) 3 w' w.heap.size (fun k_ => some k_ ≠ (v381 : Value).ownBlock) v378 x8_3) ∧ Aside0 (Kd.R (Kd.int .i64) 3 w' w.heap.size (fun k_ => some k_ ≠ (v378 : Value).ownBlock) v381 x9_3) ∧ Aside0 (Kd.R k92 92 w' w.heap.size (fun _ => True) v16 x16_3) ∧ Aside0 (Below w.heap.size w w'))
     case atStart => exact ⟨(x8_1), (x9_2), (x10_1), (x11_2), (([] : List (S92))), (by first | rfl | (simp; done) | (simp [*]; done)), (by first | rfl | (simp; done) | (simp [*]; done)), H', ⟨Nat.le_refl _⟩, ⟨bR HO_8.out⟩, ⟨bR HO_9.out⟩, ⟨by first | exact Kd.R_nil _ _ _ _ _ | exact Kd.N_nil _ _ _ _ _ | exact Kd.V_nil _ _ _ _ _ | exact Kd.Q_nil _ _ _ _ _ | exact Kd.S_nil _ _ _ _ _⟩, ⟨bw HB.out⟩⟩
     case round =>
      clear H'
      try clear c1
      try clear p1
      try clear q1
      try clear hx1
      try clear c2
      try clear p2
      try clear c3
      try clear p3
      try clear q3
      try clear hx3
      try clear hf3
      try clear c4
      try clear c4b0
      try clear c4b1
      try clear c5
      try clear c5b0
      try clear c5b1
      try clear p6
      try clear c7
      try clear c10
      try clear c10b0
      try clear c11
      try clear c11b0
      try clear c12
      try clear c12b0
      try clear c14
      try clear c17
      try clear c17b0
      try clear p18
      try clear q18
      try clear hx18
      try clear hf18
      try clear c26
      try clear c26b0
      try clear c27
      try clear c27b0
      try clear c28
      try clear c28b0
      try clear c29
      try clear c29b0
      try clear c30
      try clear c30b0
      try clear c32
      try clear c32b0
      try clear p33
      try clear q33
      try clear hx33
      try clear hf33
      try clear hcz16_0
      try clear hcz16_1
      try clear hcz16_2
      try clear hcz16_3
      try clear hcz20_0
      try clear hcz20_1
      try clear hcz20_2
      try clear hcz20_3
      try clear hcz22_0
      try clear hcz22_1
      try clear hcz22_2
      try clear hcz22_3
      try clear hcz25_0
      try clear hcz25_1
      try clear hcz25_2
      try clear hcz25_3
      try clear hfz16_0
      try clear hfz16_1
      try clear hfz16_2
      try clear hfz16_3
      try clear hfz20_0
      try clear hfz20_1
      try clear hfz20_2
      try clear hfz20_3
      try clear hfz22_0
      try clear hfz22_1
      try clear hfz22_2
      try clear hfz22_3
      try clear hfz25_0
      try clear hfz25_1
      try clear hfz25_2
      try clear hfz25_3
      try clear hx18_0
      try clear hx33_0
      try clear hx383_0
      try clear hx383_1
      try clear hx383_2
      try clear hx383_3
      try clear hx387_0
      try clear hx388_0
      try clear hx388_1
      try clear hx388_2
      try clear hx388_3
      try clear hx389_0
      try clear hx389_1
      try clear hx389_2
      try clear hx389_3
      try clear p1
      try clear p18
      try clear p2
      try clear p3
      try clear p33
      try clear p383
      try clear p387
      try clear p388
      try clear p389
      try clear p6
      try clear q1
      try clear q18
      try clear q3
      try clear q33
      try clear q383
      try clear q387
      try clear q388
      try clear q389
      obtain ⟨x8_3, x9_3, x10_3, x11_3, x16_3, rfl, rfl, HA, HK3, HO_8, HO_9, HO_16, HB⟩ := hrel
      cases gk with
      | zero => exact absurd HA.out (by simp [impl_choose.l2])
      | succ k3 =>
       have H := HA.out
       clear HA
       simp only [impl_choose.l2] at H
       by_cases c36 : x10_3 > 0
       rotate_left
       ·rw [if_neg c36] at H
        have c36b0 : decide (0 < x10_3) = false := decide_eq_false c36
        clear c36
        simp only [Option.some.injEq, Prod.mk.injEq] at H
        obtain ⟨rfl, rfl⟩ := H
        go_wp2
        repeat (go_quiet (fail); try go_wp2)
        go_ret2
        exact ⟨_, _, by first | rfl | (simp [errW_none, errW_some] <;> rfl) | (simp [*, errW_none, errW_some] <;> rfl), by (with_reducible repeat (first | apply Kd.R_alloc | apply Kd.R_drewN | apply Kd.R_drew)); exact HO_16.out, by (with_reducible repeat (first | apply Kd.R_alloc | apply Kd.R_drewN | apply Kd.R_drew)); exact Kd.R_mono HO_9.out (fun _ hk => trivial), bw HB.out⟩
       rw [if_pos c36] at H
       have c36b0 : decide (0 < x10_3) = true := decide_eq_true c36
       clear c36
       have H' := Aside0.mk H
       clear H
       go_wp2
       repeat (go_quiet (fail); try go_wp2)
       go_loopg [17, 78] k3 (fun kq v17 v78 w' => ∃ (x17_4 : Int) (x78_4 : Int), v17 = .int .i64 x17_4 ∧ v78 = .int .i64 x78_4 ∧ Aside0 (impl_choose.l3 kq l0 a2 x8_3 x9_3 x10_3 x11_3 x16_3 x17_4 l0 (l0.length : Int) x78_4 = some (r1, r2)) ∧ Aside0 (kq ≤ k3) ∧ Aside0 (Kd.R (Kd.int .i64) 3 w' w.heap.size (fun k_ => some k_ ≠ (v381 : Value).ownBlock) v378 x8_3) ∧ Aside0 (Kd.R (Kd.int .i64) 3 w' w.heap.size (fun k_ => some k_ ≠ (v378 : Value).ownBlock) v381 x9_3) ∧ Aside0 (Kd.R k92 92 w' w.heap.size (fun _ => True) u16 x16_3) ∧ Aside0 (Below w.heap.size w w'))
       case atStart => exact ⟨((-1)), (0), (by first | rfl | (simp; done) | (simp [*]; done)), (by first | rfl | (simp; done) | (simp [*]; done)), H', ⟨Nat.le_refl _⟩, ⟨bR HO_8.out⟩, ⟨bR HO_9.out⟩, ⟨bR HO_16.out⟩, ⟨bw HB.out⟩⟩
       case round =>
        clear H'
        try clear c1
        try clear p1
        try clear q1
        try clear hx1
        try clear c2
        try clear p2
        try clear c3
        try clear p3
        try clear q3
        try clear hx3
        try clear hf3
        try clear c4
        try clear c4b0
        try clear c4b1
        try clear c5
        try clear c5b0
        try clear c5b1
        try clear p6
        try clear c7
        try clear c10
        try clear c10b0
        try clear c11
        try clear c11b0
        try clear c12
        try clear c12b0
        try clear c14
        try clear c17
        try clear c17b0
        try clear p18
        try clear q18
        try clear hx18
        try clear hf18
        try clear c26
        try clear c26b0
        try clear c27
        try clear c27b0
        try clear c28
        try clear c28b0
        try clear c29
        try clear c29b0
        try clear c30
        try clear c30b0
        try clear c32
        try clear c32b0
        try clear p33
        try clear q33
        try clear hx33
        try clear hf33
        try clear c36
        try clear c36b0
        try clear hcz16_0
        try clear hcz16_1
        try clear hcz16_2
        try clear hcz16_3
        try clear hcz20_0
        try clear hcz20_1
        try clear hcz20_2
        try clear hcz20_3
        try clear hcz22_0
        try clear hcz22_1
        try clear hcz22_2
        try clear hcz22_3
        try clear hcz25_0
        try clear hcz25_1
        try clear hcz25_2
        try clear hcz25_3
        try clear hfz16_0
        try clear hfz16_1
        try clear hfz16_2
        try clear hfz16_3
        try clear hfz20_0
        try clear hfz20_1
        try clear hfz20_2
        try clear hfz20_3
        try clear hfz22_0
        try clear hfz22_1
        try clear hfz22_2
        try clear hfz22_3
        try clear hfz25_0
        try clear hfz25_1
        try clear hfz25_2
        try clear hfz25_3
        try clear hx18_0
        try clear hx33_0
        try clear hx383_0
        try clear hx383_1
        try clear hx383_2
        try clear hx383_3
        try clear hx387_0
        try clear hx388_0
        try clear hx388_1
        try clear hx388_2
        try clear hx388_3
        try clear hx389_0
        try clear hx389_1
        try clear hx389_2
        try clear hx389_3
        try clear p1
        try clear p18
        try clear p2
        try clear p3
        try clear p33
        try clear p383
        try clear p387
        try clear p388
        try clear p389
        try clear p6
        try clear q1
        try clear q18
        try clear q3
        try clear q33
        try clear q383
        try clear q387
        try clear q388
        try clear q389
        obtain ⟨x17_4, x78_4, rfl, rfl, HA, HK4, HO_8, HO_9, HO_16, HB⟩ := hrel
        cases gk with
        | zero => exact absurd HA.out (by simp [impl_choose.l3])
        | succ k4 =>
         have H := HA.out
         clear HA
         simp only [impl_choose.l3] at H
         by_cases c37 : x78_4 < (l0.length : Int)
         ·rw [if_pos c37] at H
          have c37b0 : decide (x78_4 < (l0.length : Int)) = true := decide_eq_true c37
          clear c37
          by_cases c38 : 0 ≤ x78_4
          rotate_left
          ·rw [if_neg c38] at H
           exact absurd H (by simp)
          rw [if_pos c38] at H
          have c38b0 : decide (0 ≤ x78_4) = true := decide_eq_true c38
          clear c38
          by_cases c39 : x78_4 < (l0.length : Int)
          rotate_left
          ·rw [if_neg c39] at H
           exact absurd H (by simp)
          rw [if_pos c39] at H
          have c39b0 : decide (x78_4 < (l0.length : Int)) = true := decide_eq_true c39
          clear c39
          have HC40 := Aside0.mk H
          clear H
          have p391 : 0 ≤ (x78_4 : Int) := of_decide_eq_true (by first | (with_reducible assumption) | assumption)
          have q391 : x78_4 < (l0.length : Int) := of_decide_eq_true (by first | (with_reducible assumption) | assumption)
          obtain ⟨ad391, e391, hx391_0, hx391_1, hx391_2, hx391_3⟩ := at_T61 HR0.out x78_4 p391 q391
          cases e391
          replace hx391_0 := (HB.out.cell (World.block_lt_of_cell? w _ hx391_0)).trans hx391_0
          replace hx391_1 := (HB.out.cell (World.block_lt_of_cell? w _ hx391_1)).trans hx391_1
          replace hx391_2 := (HB.out.cell (World.block_lt_of_cell? w _ hx391_2)).trans hx391_2
          replace hx391_3 := (HB.out.cell (World.block_lt_of_cell? w _ hx391_3)).trans hx391_3
          replace p391 := eq_true p391
          replace q391 := eq_true q391
          go_upto_region 24 with (first | ((with_reducible refine gate_dst (N := 19) rfl ?_); refine box_event ?hg (N := 19) ?hd (cs := #[.int .i64 0, .int .i64 0, .int .i64 0, .int .i64 0]) (t := 61) ?hr ?_; (case hd => rfl); (case hg => rfl); (case hr => first | (go_simp; done) | (go_simp; rfl)); intro gb392 hg w41 hbox hb; have n0_ := Aside0.mk (Kd.R_below (bR HO_8.out) hb); have n1_ := Aside0.mk (Kd.R_below (bR HO_9.out) hb); have n2_ := Aside0.mk (Kd.R_below (bR HO_16.out) hb); have n3_ := Aside0.mk (below_step (bw HB.out) hb); have n4_ := Aside0.mk (hbox); have n5_ := ge_ hg HB.out; have n6_ := ge_ hg HB.out; replace HO_8 := n0_; replace HO_9 := n1_; replace HO_16 := n2_; replace HB := n3_; have BK392 := n4_; have GW392 := n5_; have GE392 := n6_; clear n0_ n1_ n2_ n3_ n4_ n5_ n6_; clear hb hbox hg; obtain ⟨hcz42_0, hcz42_1, hcz42_2, hcz42_3, hfz42_0, hfz42_1, hfz42_2, hfz42_3⟩ := bz4 BK392.out))
          repeat (go_quiet (first | ((with_reducible refine gate_dst (N := 19) rfl ?_); refine box_event ?hg (N := 19) ?hd (cs := #[.int .i64 0, .int .i64 0, .int .i64 0, .int .i64 0]) (t := 61) ?hr ?_; (case hd => rfl); (case hg => rfl); (case hr => first | (go_simp; done) | (go_simp; rfl)); intro gb392 hg w41 hbox hb; have n0_ := Aside0.mk (Kd.R_below (bR HO_8.out) hb); have n1_ := Aside0.mk (Kd.R_below (bR HO_9.out) hb); have n2_ := Aside0.mk (Kd.R_below (bR HO_16.out) hb); have n3_ := Aside0.mk (below_step (bw HB.out) hb); have n4_ := Aside0.mk (hbox); have n5_ := ge_ hg HB.out; have n6_ := ge_ hg HB.out; replace HO_8 := n0_; replace HO_9 := n1_; replace HO_16 := n2_; replace HB := n3_; have BK392 := n4_; have GW392 := n5_; have GE392 := n6_; clear n0_ n1_ n2_ n3_ n4_ n5_ n6_; clear hb hbox hg; obtain ⟨hcz42_0, hcz42_1, hcz42_2, hcz42_3, hfz42_0, hfz42_1, hfz42_2, hfz42_3⟩ := bz4 BK392.out)); go_upto_region 24 with (first | ((with_reducible refine gate_dst (N := 19) rfl ?_); refine box_event ?hg (N := 19) ?hd (cs := #[.int .i64 0, .int .i64 0, .int .i64 0, .int .i64 0]) (t := 61) ?hr ?_; (case hd => rfl); (case hg => rfl); (case hr => first | (go_simp; done) | (go_simp; rfl)); intro gb392 hg w41 hbox hb; have n0_ := Aside0.mk (Kd.R_below (bR HO_8.out) hb); have n1_ := Aside0.mk (Kd.R_below (bR HO_9.out) hb); have n2_ := Aside0.mk (Kd.R_below (bR HO_16.out) hb); have n3_ := Aside0.mk (below_step (bw HB.out) hb); have n4_ := Aside0.mk (hbox); have n5_ := ge_ hg HB.out; have n6_ := ge_ hg HB.out; replace HO_8 := n0_; replace HO_9 := n1_; replace HO_16 := n2_; replace HB := n3_; have BK392 := n4_; have GW392 := n5_; have GE392 := n6_; clear n0_ n1_ n2_ n3_ n4_ n5_ n6_; clear hb hbox hg; obtain ⟨hcz42_0, hcz42_1, hcz42_2, hcz42_3, hfz42_0, hfz42_1, hfz42_2, hfz42_3⟩ := bz4 BK392.out)))
          (try simp only [Act.put, List.setIfInBounds_toArray, List.set_cons_zero, List.set_cons_succ])
          go_cut [93] (fun v93 wc => ∃ (kq : Nat) (x93_39 : Bool), v93 = .bool x93_39 ∧ Aside0 (impl_choose.j4 kq l0 a2 x8_3 x9_3 x10_3 x11_3 x16_3 x17_4 x78_4 l0 (l0.length : Int) x78_4 x93_39 ((rd_T61 l0 x78_4).f0) ((rd_T61 l0 x78_4).f1) ((rd_T61 l0 x78_4).f2) ((rd_T61 l0 x78_4).f3) = some (r1, r2)) ∧ Aside0 (kq ≤ k4) ∧ Aside0 (Kd.R (Kd.int .i64) 3 wc w.heap.size (fun k_ => some k_ ≠ (v381 : Value).ownBlock) v378 x8_3) ∧ Aside0 (Kd.R (Kd.int .i64) 3 wc w.heap.size (fun k_ => some k_ ≠ (v378 : Value).ownBlock) v381 x9_3) ∧ Aside0 (Kd.R k92 92 wc w.heap.size (fun _ => True) u16 x16_3) ∧ Aside0 (wc.heap[gb392]? = some (.cells #[.int .i64 ((rd_T61 l0 x78_4).f0), .int .i64 ((rd_T61 l0 x78_4).f1), .int .i64 ((rd_T61 l0 x78_4).f2), .int .i64 ((rd_T61 l0 x78_4).f3)] 61 (0, 0))) ∧ Aside0 (Below w.heap.size w wc))
          case first =>
           have H := HC40.out
           clear HC40
           by_cases c43 : x78_4 < (x8_3.length : Int)
           rotate_left
           ·rw [if_neg c43] at H
            exact absurd H (by simp)
           rw [if_pos c43] at H
           have c43b0 : decide (x78_4 < (x8_3.length : Int)) = true := decide_eq_true c43
           clear c43
           (first | rw [c43b0] | (simp only [i64_w, i32_w]; rw [c43b0]) | skip)
           by_cases c44 : (rd x8_3 x78_4) = 0
           ·rw [if_pos c44] at H
            have c44b0 : ((rd x8_3 x78_4) == 0) = true := beq_iff_eq.mpr c44
            have c44b1 : ((rd x8_3 x78_4) != 0) = false := bne_eq_false_iff_eq.mpr c44
            clear c44
            have H' := Aside0.mk H
            clear H
            obtain ⟨Ao45, co45, eo45⟩ := Kd.R_slice HO_8.out
            subst eo45
            have p393 : 0 ≤ (x78_4 : Int) := of_decide_eq_true (by first | (with_reducible assumption) | assumption)
            have q393 : x78_4 < (x8_3.length : Int) := of_decide_eq_true (by first | (with_reducible assumption) | assumption)
            obtain ⟨ad393, e393, hx393_0⟩ := Kd.at_int (Kd.R_reads' HO_8.out).2.2 x78_4 p393 q393
            cases e393
            have hn393_0 : ad393.block ≠ gb392 := Kd.own_blk (Kd.R_ne HO_8.out BK392.out (by decide))
            have hn393_1 : ad393.block ≠ gb392 := Kd.own_blk (Kd.R_ne HO_8.out BK392.out (by decide))
            have hn393_2 : ad393.block ≠ gb392 := Kd.own_blk (Kd.R_ne HO_8.out BK392.out (by decide))
            have hn393_3 : ad393.block ≠ gb392 := Kd.own_blk (Kd.R_ne HO_8.out BK392.out (by decide))
            replace hx393_0 := (cell_far (p := ⟨gb392, 0, none⟩) (by first | (rw [add_block]; exact hn393_0) | (show (Addr.add _ _).block ≠ _; rw [add_block]; exact hn393_0) | exact hn393_0) (.int .i64 ((rd_T61 l0 x78_4).f0))).trans hx393_0
            replace hx393_0 := (cell_far (p := ⟨gb392, 1, none⟩) (by first | (rw [add_block]; exact hn393_1) | (show (Addr.add _ _).block ≠ _; rw [add_block]; exact hn393_1) | exact hn393_1) (.int .i64 ((rd_T61 l0 x78_4).f1))).trans hx393_0
            replace hx393_0 := (cell_far (p := ⟨gb392, 2, none⟩) (by first | (rw [add_block]; exact hn393_2) | (show (Addr.add _ _).block ≠ _; rw [add_block]; exact hn393_2) | exact hn393_2) (.int .i64 ((rd_T61 l0 x78_4).f2))).trans hx393_0
            replace hx393_0 := (cell_far (p := ⟨gb392, 3, none⟩) (by first | (rw [add_block]; exact hn393_3) | (show (Addr.add _ _).block ≠ _; rw [add_block]; exact hn393_3) | exact hn393_3) (.int .i64 ((rd_T61 l0 x78_4).f3))).trans hx393_0
            (try have hy393_0 := fun (n_ : Nat) => (show ((((((w41.drewN n_).setCell ⟨gb392, 0, none⟩ (.int .i64 ((rd_T61 l0 x78_4).f0))).setCell ⟨gb392, 1, none⟩ (.int .i64 ((rd_T61 l0 x78_4).f1))).setCell ⟨gb392, 2, none⟩ (.int .i64 ((rd_T61 l0 x78_4).f2))).setCell ⟨gb392, 3, none⟩ (.int .i64 ((rd_T61 l0 x78_4).f3)))).cell? _ = some _ from hx393_0))
            clear hn393_0
            clear hn393_1
            clear hn393_2
            clear hn393_3
            replace p393 := eq_true p393
            replace q393 := eq_true q393
            go_wp2
            repeat (go_quiet (fail); try go_wp2)
            go_meet
            case rel => exact ⟨_, (true), (by first | rfl | (simp; done) | (simp [*]; done)), H', ⟨by have := HK1.out; have := HK2.out; have := HK3.out; have := HK4.out; first | omega | exact Nat.le_refl _⟩, ⟨by (with_reducible repeat (first | apply Kd.R_alloc | apply Kd.R_drewN | apply Kd.R_drew)); exact Kd.R_mono (Kd.R_far (p := ⟨gb392, 3, none⟩) (Kd.R_far (p := ⟨gb392, 2, none⟩) (Kd.R_far (p := ⟨gb392, 1, none⟩) (Kd.R_far (p := ⟨gb392, 0, none⟩) (Kd.R_types HO_8.out BK392.out (by decide)) (fun _ hk => hk.2) (.int .i64 ((rd_T61 l0 x78_4).f0))) (fun _ hk => hk.2) (.int .i64 ((rd_T61 l0 x78_4).f1))) (fun _ hk => hk.2) (.int .i64 ((rd_T61 l0 x78_4).f2))) (fun _ hk => hk.2) (.int .i64 ((rd_T61 l0 x78_4).f3))) (fun _ hk => hk.1)⟩, ⟨by (with_reducible repeat (first | apply Kd.R_alloc | apply Kd.R_drewN | apply Kd.R_drew)); exact Kd.R_mono (Kd.R_far (p := ⟨gb392, 3, none⟩) (Kd.R_far (p := ⟨gb392, 2, none⟩) (Kd.R_far (p := ⟨gb392, 1, none⟩) (Kd.R_far (p := ⟨gb392, 0, none⟩) (Kd.R_types HO_9.out BK392.out (by decide)) (fun _ hk => hk.2) (.int .i64 ((rd_T61 l0 x78_4).f0))) (fun _ hk => hk.2) (.int .i64 ((rd_T61 l0 x78_4).f1))) (fun _ hk => hk.2) (.int .i64 ((rd_T61 l0 x78_4).f2))) (fun _ hk => hk.2) (.int .i64 ((rd_T61 l0 x78_4).f3))) (fun _ hk => hk.1)⟩, ⟨by (with_reducible repeat (first | apply Kd.R_alloc | apply Kd.R_drewN | apply Kd.R_drew)); exact Kd.R_mono (Kd.R_far (p := ⟨gb392, 3, none⟩) (Kd.R_far (p := ⟨gb392, 2, none⟩) (Kd.R_far (p := ⟨gb392, 1, none⟩) (Kd.R_far (p := ⟨gb392, 0, none⟩) (Kd.R_types HO_16.out BK392.out (by decide)) (fun _ hk => hk.2) (.int .i64 ((rd_T61 l0 x78_4).f0))) (fun _ hk => hk.2) (.int .i64 ((rd_T61 l0 x78_4).f1))) (fun _ hk => hk.2) (.int .i64 ((rd_T61 l0 x78_4).f2))) (fun _ hk => hk.2) (.int .i64 ((rd_T61 l0 x78_4).f3))) (fun _ hk => trivial)⟩, ⟨by (with_reducible repeat (first | refine blk_drewN ?_ _ | refine blk_drew ?_ | refine blk_alloc ?_ _)); refine blk_put (cs := #[.int .i64 ((rd_T61 l0 x78_4).f0), .int .i64 ((rd_T61 l0 x78_4).f1), .int .i64 ((rd_T61 l0 x78_4).f2), .int .i64 0]) ?_ 3 _ rfl; (with_reducible repeat (first | refine blk_drewN ?_ _ | refine blk_drew ?_ | refine blk_alloc ?_ _)); refine blk_put (cs := #[.int .i64 ((rd_T61 l0 x78_4).f0), .int .i64 ((rd_T61 l0 x78_4).f1), .int .i64 0, .int .i64 0]) ?_ 2 _ rfl; (with_reducible repeat (first | refine blk_drewN ?_ _ | refine blk_drew ?_ | refine blk_alloc ?_ _)); refine blk_put (cs := #[.int .i64 ((rd_T61 l0 x78_4).f0), .int .i64 0, .int .i64 0, .int .i64 0]) ?_ 1 _ rfl; (with_reducible repeat (first | refine blk_drewN ?_ _ | refine blk_drew ?_ | refine blk_alloc ?_ _)); refine blk_put (cs := #[.int .i64 0, .int .i64 0, .int .i64 0, .int .i64 0]) ?_ 0 _ rfl; exact bs BK392.out⟩, ⟨by repeat (first | (with_reducible first | exact bw HB.out | refine bset ?_ | apply bA | apply bN | apply bD) | exact HB.out)⟩⟩
           rw [if_neg c44] at H
           have c44b0 : ((rd x8_3 x78_4) == 0) = false := beq_eq_false_iff_ne.mpr c44
           have c44b1 : ((rd x8_3 x78_4) != 0) = true := bne_iff_ne.mpr c44
           have H' := Aside0.mk H
           clear H
           obtain ⟨Ao46, co46, eo46⟩ := Kd.R_slice HO_8.out
           subst eo46
           have p393 : 0 ≤ (x78_4 : Int) := of_decide_eq_true (by first | (with_reducible assumption) | assumption)
           have q393 : x78_4 < (x8_3.length : Int) := of_decide_eq_true (by first | (with_reducible assumption) | assumption)
           obtain ⟨ad393, e393, hx393_0⟩ := Kd.at_int (Kd.R_reads' HO_8.out).2.2 x78_4 p393 q393
           cases e393
           have hn393_0 : ad393.block ≠ gb392 := Kd.own_blk (Kd.R_ne HO_8.out BK392.out (by decide))
           have hn393_1 : ad393.block ≠ gb392 := Kd.own_blk (Kd.R_ne HO_8.out BK392.out (by decide))
           have hn393_2 : ad393.block ≠ gb392 := Kd.own_blk (Kd.R_ne HO_8.out BK392.out (by decide))
           have hn393_3 : ad393.block ≠ gb392 := Kd.own_blk (Kd.R_ne HO_8.out BK392.out (by decide))
           replace hx393_0 := (cell_far (p := ⟨gb392, 0, none⟩) (by first | (rw [add_block]; exact hn393_0) | (show (Addr.add _ _).block ≠ _; rw [add_block]; exact hn393_0) | exact hn393_0) (.int .i64 ((rd_T61 l0 x78_4).f0))).trans hx393_0
           replace hx393_0 := (cell_far (p := ⟨gb392, 1, none⟩) (by first | (rw [add_block]; exact hn393_1) | (show (Addr.add _ _).block ≠ _; rw [add_block]; exact hn393_1) | exact hn393_1) (.int .i64 ((rd_T61 l0 x78_4).f1))).trans hx393_0
           replace hx393_0 := (cell_far (p := ⟨gb392, 2, none⟩) (by first | (rw [add_block]; exact hn393_2) | (show (Addr.add _ _).block ≠ _; rw [add_block]; exact hn393_2) | exact hn393_2) (.int .i64 ((rd_T61 l0 x78_4).f2))).trans hx393_0
           replace hx393_0 := (cell_far (p := ⟨gb392, 3, none⟩) (by first | (rw [add_block]; exact hn393_3) | (show (Addr.add _ _).block ≠ _; rw [add_block]; exact hn393_3) | exact hn393_3) (.int .i64 ((rd_T61 l0 x78_4).f3))).trans hx393_0
           (try have hy393_0 := fun (n_ : Nat) => (show ((((((w41.drewN n_).setCell ⟨gb392, 0, none⟩ (.int .i64 ((rd_T61 l0 x78_4).f0))).setCell ⟨gb392, 1, none⟩ (.int .i64 ((rd_T61 l0 x78_4).f1))).setCell ⟨gb392, 2, none⟩ (.int .i64 ((rd_T61 l0 x78_4).f2))).setCell ⟨gb392, 3, none⟩ (.int .i64 ((rd_T61 l0 x78_4).f3)))).cell? _ = some _ from hx393_0))
           clear hn393_0
           clear hn393_1
           clear hn393_2
           clear hn393_3
           replace p393 := eq_true p393
           replace q393 := eq_true q393
           obtain ⟨hcz47_0, hcz47_1, hcz47_2, hcz47_3, hfz47_0, hfz47_1, hfz47_2, hfz47_3⟩ := bz4 BK392.out
           go_wp2
           repeat (go_quiet (fail); try go_wp2)
           go_meet
           case rel => exact ⟨_, (decide (((rd_T61 l0 x78_4).f2) > x11_3)), (by first | rfl | (simp; done) | (simp [*]; done)), H', ⟨by have := HK1.out; have := HK2.out; have := HK3.out; have := HK4.out; first | omega | exact Nat.le_refl _⟩, ⟨by (with_reducible repeat (first | apply Kd.R_alloc | apply Kd.R_drewN | apply Kd.R_drew)); exact Kd.R_mono (Kd.R_far (p := ⟨gb392, 3, none⟩) (Kd.R_far (p := ⟨gb392, 2, none⟩) (Kd.R_far (p := ⟨gb392, 1, none⟩) (Kd.R_far (p := ⟨gb392, 0, none⟩) (Kd.R_types HO_8.out BK392.out (by decide)) (fun _ hk => hk.2) (.int .i64 ((rd_T61 l0 x78_4).f0))) (fun _ hk => hk.2) (.int .i64 ((rd_T61 l0 x78_4).f1))) (fun _ hk => hk.2) (.int .i64 ((rd_T61 l0 x78_4).f2))) (fun _ hk => hk.2) (.int .i64 ((rd_T61 l0 x78_4).f3))) (fun _ hk => hk.1)⟩, ⟨by (with_reducible repeat (first | apply Kd.R_alloc | apply Kd.R_drewN | apply Kd.R_drew)); exact Kd.R_mono (Kd.R_far (p := ⟨gb392, 3, none⟩) (Kd.R_far (p := ⟨gb392, 2, none⟩) (Kd.R_far (p := ⟨gb392, 1, none⟩) (Kd.R_far (p := ⟨gb392, 0, none⟩) (Kd.R_types HO_9.out BK392.out (by decide)) (fun _ hk => hk.2) (.int .i64 ((rd_T61 l0 x78_4).f0))) (fun _ hk => hk.2) (.int .i64 ((rd_T61 l0 x78_4).f1))) (fun _ hk => hk.2) (.int .i64 ((rd_T61 l0 x78_4).f2))) (fun _ hk => hk.2) (.int .i64 ((rd_T61 l0 x78_4).f3))) (fun _ hk => hk.1)⟩, ⟨by (with_reducible repeat (first | apply Kd.R_alloc | apply Kd.R_drewN | apply Kd.R_drew)); exact Kd.R_mono (Kd.R_far (p := ⟨gb392, 3, none⟩) (Kd.R_far (p := ⟨gb392, 2, none⟩) (Kd.R_far (p := ⟨gb392, 1, none⟩) (Kd.R_far (p := ⟨gb392, 0, none⟩) (Kd.R_types HO_16.out BK392.out (by decide)) (fun _ hk => hk.2) (.int .i64 ((rd_T61 l0 x78_4).f0))) (fun _ hk => hk.2) (.int .i64 ((rd_T61 l0 x78_4).f1))) (fun _ hk => hk.2) (.int .i64 ((rd_T61 l0 x78_4).f2))) (fun _ hk => hk.2) (.int .i64 ((rd_T61 l0 x78_4).f3))) (fun _ hk => trivial)⟩, ⟨by (with_reducible repeat (first | refine blk_drewN ?_ _ | refine blk_drew ?_ | refine blk_alloc ?_ _)); refine blk_put (cs := #[.int .i64 ((rd_T61 l0 x78_4).f0), .int .i64 ((rd_T61 l0 x78_4).f1), .int .i64 ((rd_T61 l0 x78_4).f2), .int .i64 0]) ?_ 3 _ rfl; (with_reducible repeat (first | refine blk_drewN ?_ _ | refine blk_drew ?_ | refine blk_alloc ?_ _)); refine blk_put (cs := #[.int .i64 ((rd_T61 l0 x78_4).f0), .int .i64 ((rd_T61 l0 x78_4).f1), .int .i64 0, .int .i64 0]) ?_ 2 _ rfl; (with_reducible repeat (first | refine blk_drewN ?_ _ | refine blk_drew ?_ | refine blk_alloc ?_ _)); refine blk_put (cs := #[.int .i64 ((rd_T61 l0 x78_4).f0), .int .i64 0, .int .i64 0, .int .i64 0]) ?_ 1 _ rfl; (with_reducible repeat (first | refine blk_drewN ?_ _ | refine blk_drew ?_ | refine blk_alloc ?_ _)); refine blk_put (cs := #[.int .i64 0, .int .i64 0, .int .i64 0, .int .i64 0]) ?_ 0 _ rfl; exact bs BK392.out⟩, ⟨by repeat (first | (with_reducible first | exact bw HB.out | refine bset ?_ | apply bA | apply bN | apply bD) | exact HB.out)⟩⟩
          case rest =>
           clear HC40
           try clear c1
           try clear p1
           try clear q1
           try clear hx1
           try clear c2
           try clear p2
           try clear c3
           try clear p3
           try clear q3
           try clear hx3
           try clear hf3
           try clear c4
           try clear c4b0
           try clear c4b1
           try clear c5
           try clear c5b0
           try clear c5b1
           try clear p6
           try clear c7
           try clear c10
           try clear c10b0
           try clear c11
           try clear c11b0
           try clear c12
           try clear c12b0
           try clear c14
           try clear c17
           try clear c17b0
           try clear p18
           try clear q18
           try clear hx18
           try clear hf18
           try clear c26
           try clear c26b0
           try clear c27
           try clear c27b0
           try clear c28
           try clear c28b0
           try clear c29
           try clear c29b0
           try clear c30
           try clear c30b0
           try clear c32
           try clear c32b0
           try clear p33
           try clear q33
           try clear hx33
           try clear hf33
           try clear c36
           try clear c36b0
           try clear c37
           try clear c37b0
           try clear c38
           try clear c38b0
           try clear p38
           try clear q38
           try clear hx38
           try clear c39
           try clear c39b0
           try clear p39
           try clear q39
           try clear hx39
           try clear c43
           try clear c43b0
           try clear c44
           try clear c44b0
           try clear c44b1
           try clear hcz16_0
           try clear hcz16_1
           try clear hcz16_2
           try clear hcz16_3
           try clear hcz20_0
           try clear hcz20_1
           try clear hcz20_2
           try clear hcz20_3
           try clear hcz22_0
           try clear hcz22_1
           try clear hcz22_2
           try clear hcz22_3
           try clear hcz25_0
           try clear hcz25_1
           try clear hcz25_2
           try clear hcz25_3
           try clear hcz42_0
           try clear hcz42_1
           try clear hcz42_2
           try clear hcz42_3
           try clear hcz47_0
           try clear hcz47_1
           try clear hcz47_2
           try clear hcz47_3
           try clear hfz16_0
           try clear hfz16_1
           try clear hfz16_2
           try clear hfz16_3
           try clear hfz20_0
           try clear hfz20_1
           try clear hfz20_2
           try clear hfz20_3
           try clear hfz22_0
           try clear hfz22_1
           try clear hfz22_2
           try clear hfz22_3
           try clear hfz25_0
           try clear hfz25_1
           try clear hfz25_2
           try clear hfz25_3
           try clear hfz42_0
           try clear hfz42_1
           try clear hfz42_2
           try clear hfz42_3
           try clear hfz47_0
           try clear hfz47_1
           try clear hfz47_2
           try clear hfz47_3
           try clear hx18_0
           try clear hx33_0
           try clear hx383_0
           try clear hx383_1
           try clear hx383_2
           try clear hx383_3
           try clear hx387_0
           try clear hx388_0
           try clear hx388_1
           try clear hx388_2
           try clear hx388_3
           try clear hx389_0
           try clear hx389_1
           try clear hx389_2
           try clear hx389_3
           try clear hx391_0
           try clear hx391_1
           try clear hx391_2
           try clear hx391_3
           try clear hx393_0
           try clear p1
           try clear p18
           try clear p2
           try clear p3
           try clear p33
           try clear p383
           try clear p387
           try clear p388
           try clear p389
           try clear p391
           try clear p393
           try clear p6
           try clear q1
           try clear q18
           try clear q3
           try clear q33
           try clear q383
           try clear q387
           try clear q388
           try clear q389
           try clear q391
           try clear q393
           obtain ⟨kq, x93_39, rfl, HA, HJ39, HO_8, HO_9, HO_16, BK392, HB⟩ := hcut
           cases kq with
           | zero => exact absurd HA.out (by simp [impl_choose.j4])
           | succ kj39 =>
            have H := HA.out
            clear HA
            simp only [impl_choose.j4] at H
            by_cases c48 : x93_39 = true
            ·subst c48
             have H1 : (impl_choose.l3 kj39 l0 a2 x8_3 x9_3 x10_3 x11_3 x16_3 x17_4 l0 (l0.length : Int) (wrap64 (x78_4 + 1))) = some (r1, r2) := by rw [if_pos rfl] at H; exact H
             clear H
             have H := H1
             clear H1
             have H' := Aside0.mk H
             clear H
             go_wp2
             repeat (go_quiet (fail); try go_wp2)
             go_roundg kj39
             case measure => have := HK1.out; have := HK2.out; have := HK3.out; have := HK4.out; have := HJ39.out; omega
             case rel => exact ⟨(x17_4), (wrap64 (x78_4 + 1)), (by first | rfl | (simp; done) | (simp [*]; done)), (by first | rfl | (simp; done) | (simp [*]; done)), H', ⟨by have := HK1.out; have := HK2.out; have := HK3.out; have := HK4.out; have := HJ39.out; omega⟩, ⟨bR HO_8.out⟩, ⟨bR HO_9.out⟩, ⟨bR HO_16.out⟩, ⟨by repeat (first | (with_reducible first | exact bw HB.out | refine bset ?_ | apply bA | apply bN | apply bD) | exact HB.out)⟩⟩
            replace c48 := Bool.eq_false_iff.mpr c48
            subst c48
            have H1 : (if x17_4 < 0 then (impl_choose.l3 kj39 l0 a2 x8_3 x9_3 x10_3 x11_3 x16_3 x78_4 l0 (l0.length : Int) (wrap64 (x78_4 + 1))) else (if a2 = 2 then (if 0 ≤ x78_4 then (if x78_4 < (x8_3.length : Int) then (if 0 ≤ x17_4 then (if x17_4 < (x8_3.length : Int) then (if (rd x8_3 x78_4) < (rd x8_3 x17_4) then (impl_choose.l3 kj39 l0 a2 x8_3 x9_3 x10_3 x11_3 x16_3 x78_4 l0 (l0.length : Int) (wrap64 (x78_4 + 1))) else (impl_choose.l3 kj39 l0 a2 x8_3 x9_3 x10_3 x11_3 x16_3 x17_4 l0 (l0.length : Int) (wrap64 (x78_4 + 1)))) else (none)) else (none)) else (none)) else (none)) else (if 0 ≤ x17_4 then (if x17_4 < (l0.length : Int) then (if ((rd_T61 l0 x78_4).f3) < ((rd_T61 l0 x17_4).f3) then (impl_choose.l3 kj39 l0 a2 x8_3 x9_3 x10_3 x11_3 x16_3 x78_4 l0 (l0.length : Int) (wrap64 (x78_4 + 1))) else (impl_choose.l3 kj39 l0 a2 x8_3 x9_3 x10_3 x11_3 x16_3 x17_4 l0 (l0.length : Int) (wrap64 (x78_4 + 1)))) else (none)) else (none)))) = some (r1, r2) := by rw [if_neg (show ¬ (false = true) by decide)] at H; exact H
            clear H
            have H := H1
            clear H1
            by_cases c49 : x17_4 < 0
            ·rw [if_pos c49] at H
             have c49b0 : decide (x17_4 < 0) = true := decide_eq_true c49
             clear c49
             have H' := Aside0.mk H
             clear H
             go_wp2
             repeat (go_quiet (fail); try go_wp2)
             go_roundg kj39
             case measure => have := HK1.out; have := HK2.out; have := HK3.out; have := HK4.out; have := HJ39.out; omega
             case rel => exact ⟨(x78_4), (wrap64 (x78_4 + 1)), (by first | rfl | (simp; done) | (simp [*]; done)), (by first | rfl | (simp; done) | (simp [*]; done)), H', ⟨by have := HK1.out; have := HK2.out; have := HK3.out; have := HK4.out; have := HJ39.out; omega⟩, ⟨bR HO_8.out⟩, ⟨bR HO_9.out⟩, ⟨bR HO_16.out⟩, ⟨by repeat (first | (with_reducible first | exact bw HB.out | refine bset ?_ | apply bA | apply bN | apply bD) | exact HB.out)⟩⟩
            rw [if_neg c49] at H
            have c49b0 : decide (x17_4 < 0) = false := decide_eq_false c49
            clear c49
            by_cases c50 : a2 = 2
            rotate_left
            ·rw [if_neg c50] at H
             have c50b0 : (a2 == 2) = false := beq_eq_false_iff_ne.mpr c50
             have c50b1 : (a2 != 2) = true := bne_iff_ne.mpr c50
             by_cases c58 : 0 ≤ x17_4
             rotate_left
             ·rw [if_neg c58] at H
              exact absurd H (by simp)
             rw [if_pos c58] at H
             have c58b0 : decide (0 ≤ x17_4) = true := decide_eq_true c58
             clear c58
             by_cases c59 : x17_4 < (l0.length : Int)
             rotate_left
             ·rw [if_neg c59] at H
              exact absurd H (by simp)
             rw [if_pos c59] at H
             have c59b0 : decide (x17_4 < (l0.length : Int)) = true := decide_eq_true c59
             clear c59
             by_cases c60 : ((rd_T61 l0 x78_4).f3) < ((rd_T61 l0 x17_4).f3)
             ·rw [if_pos c60] at H
              have c60b0 : decide (((rd_T61 l0 x78_4).f3) < ((rd_T61 l0 x17_4).f3)) = true := decide_eq_true c60
              clear c60
              have H' := Aside0.mk H
              clear H
              obtain ⟨hcz61_0, hcz61_1, hcz61_2, hcz61_3, hfz61_0, hfz61_1, hfz61_2, hfz61_3⟩ := bz4 BK392.out
              have p396 : 0 ≤ (x17_4 : Int) := of_decide_eq_true (by first | (with_reducible assumption) | assumption)
              have q396 : x17_4 < (l0.length : Int) := of_decide_eq_true (by first | (with_reducible assumption) | assumption)
              obtain ⟨ad396, e396, hx396_0, hx396_1, hx396_2, hx396_3⟩ := at_T61 HR0.out x17_4 p396 q396
              obtain rfl : ad391 = ad396 := (by injection e396)
              replace hx396_0 := (HB.out.cell (World.block_lt_of_cell? w _ hx396_0)).trans hx396_0
              replace hx396_1 := (HB.out.cell (World.block_lt_of_cell? w _ hx396_1)).trans hx396_1
              replace hx396_2 := (HB.out.cell (World.block_lt_of_cell? w _ hx396_2)).trans hx396_2
              replace hx396_3 := (HB.out.cell (World.block_lt_of_cell? w _ hx396_3)).trans hx396_3
              replace p396 := eq_true p396
              replace q396 := eq_true q396
              go_wp2
              repeat (go_quiet (fail); try go_wp2)
              go_roundg kj39
              case measure => have := HK1.out; have := HK2.out; have := HK3.out; have := HK4.out; have := HJ39.out; omega
              case rel => exact ⟨(x78_4), (wrap64 (x78_4 + 1)), (by first | rfl | (simp; done) | (simp [*]; done)), (by first | rfl | (simp; done) | (simp [*]; done)), H', ⟨by have := HK1.out; have := HK2.out; have := HK3.out; have := HK4.out; have := HJ39.out; omega⟩, ⟨bR HO_8.out⟩, ⟨bR HO_9.out⟩, ⟨bR HO_16.out⟩, ⟨by repeat (first | (with_reducible first | exact bw HB.out | refine bset ?_ | apply bA | apply bN | apply bD) | exact HB.out)⟩⟩
             rw [if_neg c60] at H
             have c60b0 : decide (((rd_T61 l0 x78_4).f3) < ((rd_T61 l0 x17_4).f3)) = false := decide_eq_false c60
             clear c60
             have H' := Aside0.mk H
             clear H
             obtain ⟨hcz62_0, hcz62_1, hcz62_2, hcz62_3, hfz62_0, hfz62_1, hfz62_2, hfz62_3⟩ := bz4 BK392.out
             have p396 : 0 ≤ (x17_4 : Int) := of_decide_eq_true (by first | (with_reducible assumption) | assumption)
             have q396 : x17_4 < (l0.length : Int) := of_decide_eq_true (by first | (with_reducible assumption) | assumption)
             obtain ⟨ad396, e396, hx396_0, hx396_1, hx396_2, hx396_3⟩ := at_T61 HR0.out x17_4 p396 q396
             obtain rfl : ad391 = ad396 := (by injection e396)
             replace hx396_0 := (HB.out.cell (World.block_lt_of_cell? w _ hx396_0)).trans hx396_0
             replace hx396_1 := (HB.out.cell (World.block_lt_of_cell? w _ hx396_1)).trans hx396_1
             replace hx396_2 := (HB.out.cell (World.block_lt_of_cell? w _ hx396_2)).trans hx396_2
             replace hx396_3 := (HB.out.cell (World.block_lt_of_cell? w _ hx396_3)).trans hx396_3
             replace p396 := eq_true p396
             replace q396 := eq_true q396
             go_wp2
             repeat (go_quiet (fail); try go_wp2)
             go_roundg kj39
             case measure => have := HK1.out; have := HK2.out; have := HK3.out; have := HK4.out; have := HJ39.out; omega
             case rel => exact ⟨(x17_4), (wrap64 (x78_4 + 1)), (by first | rfl | (simp; done) | (simp [*]; done)), (by first | rfl | (simp; done) | (simp [*]; done)), H', ⟨by have := HK1.out; have := HK2.out; have := HK3.out; have := HK4.out; have := HJ39.out; omega⟩, ⟨bR HO_8.out⟩, ⟨bR HO_9.out⟩, ⟨bR HO_16.out⟩, ⟨by repeat (first | (with_reducible first | exact bw HB.out | refine bset ?_ | apply bA | apply bN | apply bD) | exact HB.out)⟩⟩
            rw [if_pos c50] at H
            have c50b0 : (a2 == 2) = true := beq_iff_eq.mpr c50
            have c50b1 : (a2 != 2) = false := bne_eq_false_iff_eq.mpr c50
            clear c50
            by_cases c51 : 0 ≤ x78_4
            rotate_left
            ·rw [if_neg c51] at H
             exact absurd H (by simp)
            rw [if_pos c51] at H
            have c51b0 : decide (0 ≤ x78_4) = true := decide_eq_true c51
            clear c51
            by_cases c52 : x78_4 < (x8_3.length : Int)
            rotate_left
            ·rw [if_neg c52] at H
             exact absurd H (by simp)
            rw [if_pos c52] at H
            have c52b0 : decide (x78_4 < (x8_3.length : Int)) = true := decide_eq_true c52
            clear c52
            by_cases c53 : 0 ≤ x17_4
            rotate_left
            ·rw [if_neg c53] at H
             exact absurd H (by simp)
            rw [if_pos c53] at H
            have c53b0 : decide (0 ≤ x17_4) = true := decide_eq_true c53
            clear c53
            by_cases c54 : x17_4 < (x8_3.length : Int)
            rotate_left
            ·rw [if_neg c54] at H
             exact absurd H (by simp)
            rw [if_pos c54] at H
            have c54b0 : decide (x17_4 < (x8_3.length : Int)) = true := decide_eq_true c54
            clear c54
            by_cases c55 : (rd x8_3 x78_4) < (rd x8_3 x17_4)
            ·rw [if_pos c55] at H
             have c55b0 : decide ((rd x8_3 x78_4) < (rd x8_3 x17_4)) = true := decide_eq_true c55
             clear c55
             have H' := Aside0.mk H
             clear H
             obtain ⟨Ao56, co56, eo56⟩ := Kd.R_slice HO_8.out
             subst eo56
             have p394 : 0 ≤ (x78_4 : Int) := of_decide_eq_true (by first | (with_reducible assumption) | assumption)
             have q394 : x78_4 < (x8_3.length : Int) := of_decide_eq_true (by first | (with_reducible assumption) | assumption)
             obtain ⟨ad394, e394, hx394_0⟩ := Kd.at_int (Kd.R_reads' HO_8.out).2.2 x78_4 p394 q394
             cases e394
             replace p394 := eq_true p394
             replace q394 := eq_true q394
             have p395 : 0 ≤ (x17_4 : Int) := of_decide_eq_true (by first | (with_reducible assumption) | assumption)
             have q395 : x17_4 < (x8_3.length : Int) := of_decide_eq_true (by first | (with_reducible assumption) | assumption)
             obtain ⟨ad395, e395, hx395_0⟩ := Kd.at_int (Kd.R_reads' HO_8.out).2.2 x17_4 p395 q395
             obtain rfl : ad394 = ad395 := (by injection e395)
             replace p395 := eq_true p395
             replace q395 := eq_true q395
             go_wp2
             repeat (go_quiet (fail); try go_wp2)
             go_roundg kj39
             case measure => have := HK1.out; have := HK2.out; have := HK3.out; have := HK4.out; have := HJ39.out; omega
             case rel => exact ⟨(x78_4), (wrap64 (x78_4 + 1)), (by first | rfl | (simp; done) | (simp [*]; done)), (by first | rfl | (simp; done) | (simp [*]; done)), H', ⟨by have := HK1.out; have := HK2.out; have := HK3.out; have := HK4.out; have := HJ39.out; omega⟩, ⟨bR HO_8.out⟩, ⟨bR HO_9.out⟩, ⟨bR HO_16.out⟩, ⟨by repeat (first | (with_reducible first | exact bw HB.out | refine bset ?_ | apply bA | apply bN | apply bD) | exact HB.out)⟩⟩
            rw [if_neg c55] at H
            have c55b0 : decide ((rd x8_3 x78_4) < (rd x8_3 x17_4)) = false := decide_eq_false c55
            clear c55
            have H' := Aside0.mk H
            clear H
            obtain ⟨Ao57, co57, eo57⟩ := Kd.R_slice HO_8.out
            subst eo57
            have p394 : 0 ≤ (x78_4 : Int) := of_decide_eq_true (by first | (with_reducible assumption) | assumption)
            have q394 : x78_4 < (x8_3.length : Int) := of_decide_eq_true (by first | (with_reducible assumption) | assumption)
            obtain ⟨ad394, e394, hx394_0⟩ := Kd.at_int (Kd.R_reads' HO_8.out).2.2 x78_4 p394 q394
            cases e394
            replace p394 := eq_true p394
            replace q394 := eq_true q394
            have p395 : 0 ≤ (x17_4 : Int) := of_decide_eq_true (by first | (with_reducible assumption) | assumption)
            have q395 : x17_4 < (x8_3.length : Int) := of_decide_eq_true (by first | (with_reducible assumption) | assumption)
            obtain ⟨ad395, e395, hx395_0⟩ := Kd.at_int (Kd.R_reads' HO_8.out).2.2 x17_4 p395 q395
            obtain rfl : ad394 = ad395 := (by injection e395)
            replace p395 := eq_true p395
            replace q395 := eq_true q395
            go_wp2
            repeat (go_quiet (fail); try go_wp2)
            go_roundg kj39
            case measure => have := HK1.out; have := HK2.out; have := HK3.out; have := HK4.out; have := HJ39.out; omega
            case rel => exact ⟨(x17_4), (wrap64 (x78_4 + 1)), (by first | rfl | (simp; done) | (simp [*]; done)), (by first | rfl | (simp; done) | (simp [*]; done)), H', ⟨by have := HK1.out; have := HK2.out; have := HK3.out; have := HK4.out; have := HJ39.out; omega⟩, ⟨bR HO_8.out⟩, ⟨bR HO_9.out⟩, ⟨bR HO_16.out⟩, ⟨by repeat (first | (with_reducible first | exact bw HB.out | refine bset ?_ | apply bA | apply bN | apply bD) | exact HB.out)⟩⟩
         rw [if_neg c37] at H
         have c37b0 : decide (x78_4 < (l0.length : Int)) = false := decide_eq_false c37
         clear c37
         by_cases c63 : x17_4 < 0
         ·rw [if_pos c63] at H
          have c63b0 : decide (x17_4 < 0) = true := decide_eq_true c63
          clear c63
          have H' := Aside0.mk H
          clear H
          go_wp2
          repeat (go_quiet (fail); try go_wp2)
          go_roundg k4
          case measure => have := HK1.out; have := HK2.out; have := HK3.out; have := HK4.out; omega
          case rel => exact ⟨(x8_3), (x9_3), (x10_3), (wrap64 (x11_3 + 1)), (x16_3), (by first | rfl | (simp; done) | (simp [*]; done)), (by first | rfl | (simp; done) | (simp [*]; done)), H', ⟨by have := HK1.out; have := HK2.out; have := HK3.out; have := HK4.out; omega⟩, ⟨bR HO_8.out⟩, ⟨bR HO_9.out⟩, ⟨bR HO_16.out⟩, ⟨bw HB.out⟩⟩
         rw [if_neg c63] at H
         have c63b0 : decide (x17_4 < 0) = false := decide_eq_false c63
         clear c63
         by_cases c64 : (wrap64 ((x16_3.length : Int) - 1)) ≥ 0
         rotate_left
         ·rw [if_neg c64] at H
          have c64b0 : decide (0 ≤ (wrap64 ((x16_3.length : Int) - 1))) = false := decide_eq_false c64
          clear c64
          by_cases c110 : x16_3.length < 5864062014805
          rotate_left
          ·rw [if_neg c110] at H
           exact absurd H (by simp)
          rw [if_pos c110] at H
          have LMc110 := Aside0.mk c110
          clear c110
          obtain ⟨y416, hy416⟩ : ∃ y_ : List (S92), y_ = (x16_3 ++ [(⟨x17_4, x11_3, wrap64 (x11_3 + 1)⟩ : S92)]) := ⟨_, rfl⟩
          replace H : (if 0 ≤ x17_4 then (if x17_4 < (x8_3.length : Int) then (if x17_4 < (x9_3.length : Int) then (impl_choose.l2 k4 l0 a2 (x8_3.set (x17_4 : Int).toNat (wrap64 ((rd x8_3 x17_4) - 1))) (x9_3.set (x17_4 : Int).toNat (wrap64 (x11_3 + 1))) (wrap64 (x10_3 - 1)) (wrap64 (x11_3 + 1)) y416) else (none)) else (none)) else (none)) = some (r1, r2) := by first | (rw [hy416]; with_reducible exact H) | (have H2_ := (Option.bind_some _ _).symm.trans H; rw [hy416]; with_reducible exact H2_) | (have H2_ := (Option.bind_some _ _).symm.trans H; with_reducible exact H2_) | with_reducible exact H | (rw [hy416]; exact H) | exact H
          have Ny416 := Aside0.mk hy416
          clear hy416
          by_cases c111 : 0 ≤ x17_4
          rotate_left
          ·rw [if_neg c111] at H
           exact absurd H (by simp)
          rw [if_pos c111] at H
          have c111b0 : decide (0 ≤ x17_4) = true := decide_eq_true c111
          clear c111
          by_cases c112 : x17_4 < (x8_3.length : Int)
          rotate_left
          ·rw [if_neg c112] at H
           exact absurd H (by simp)
          rw [if_pos c112] at H
          have c112b0 : decide (x17_4 < (x8_3.length : Int)) = true := decide_eq_true c112
          clear c112
          obtain ⟨y420, hy420⟩ : ∃ y_ : List Int, y_ = (x8_3.set (x17_4 : Int).toNat (wrap64 ((rd x8_3 x17_4) - 1))) := ⟨_, rfl⟩
          replace H : (if x17_4 < (x9_3.length : Int) then (impl_choose.l2 k4 l0 a2 y420 (x9_3.set (x17_4 : Int).toNat (wrap64 (x11_3 + 1))) (wrap64 (x10_3 - 1)) (wrap64 (x11_3 + 1)) y416) else (none)) = some (r1, r2) := by first | (rw [hy420]; with_reducible exact H) | (have H2_ := (Option.bind_some _ _).symm.trans H; rw [hy420]; with_reducible exact H2_) | (have H2_ := (Option.bind_some _ _).symm.trans H; with_reducible exact H2_) | with_reducible exact H | (rw [hy420]; exact H) | exact H
          have Ny420 := Aside0.mk hy420
          clear hy420
          by_cases c114 : x17_4 < (x9_3.length : Int)
          rotate_left
          ·rw [if_neg c114] at H
           exact absurd H (by simp)
          rw [if_pos c114] at H
          have c114b0 : decide (x17_4 < (x9_3.length : Int)) = true := decide_eq_true c114
          clear c114
          obtain ⟨y421, hy421⟩ : ∃ y_ : List Int, y_ = (x9_3.set (x17_4 : Int).toNat (wrap64 (x11_3 + 1))) := ⟨_, rfl⟩
          replace H : (impl_choose.l2 k4 l0 a2 y420 y421 (wrap64 (x10_3 - 1)) (wrap64 (x11_3 + 1)) y416) = some (r1, r2) := by first | (rw [hy421]; with_reducible exact H) | (have H2_ := (Option.bind_some _ _).symm.trans H; rw [hy421]; with_reducible exact H2_) | (have H2_ := (Option.bind_some _ _).symm.trans H; with_reducible exact H2_) | with_reducible exact H | (rw [hy421]; exact H) | exact H
          have Ny421 := Aside0.mk hy421
          clear hy421
          have H' := Aside0.mk H
          clear H
          obtain ⟨Ao116, co116, eo116⟩ := Kd.R_slice HO_16.out
          subst eo116
          have go_ := True.intro
          repeat ((first | go_quiet (first | ((with_reducible refine gate_builtin (b := .append) (xs := #[.tmp 160, .tmp 166]) rfl ?_); at_builtin; refine Kd.R_append k92 (w0 := w) w.heap.size rfl (.tmp 160) (.tmp 166) 89 92 (.agg #[(.int .i64 0), (.int .i64 0), (.int .i64 0)]) 24 rfl Try.underlying89 info92 rfl (by decide) (by omega) (.slice Ao116 x16_3.length co116) x16_3 (⟨x17_4, x11_3, wrap64 (x11_3 + 1)⟩ : S92) [.int .i64 x17_4, .int .i64 x11_3, .int .i64 (wrap64 (x11_3 + 1))] (fun _ => True) (fun _ => False) rfl rfl ?aP (fun _ hk => hk.elim) ?aF ?aO ?aB ?aS ?aL ?_; (case aP => exact k92_mkM _ _ _ (⟨x17_4, x11_3, wrap64 (x11_3 + 1)⟩ : S92)); (case aB => exact (bw HB.out)); (case aF => exact (fun _ _ => trivial)); (case aO => exact (bR HO_16.out)); (case aS => exact (below_size (bw HB.out))); (case aL => have := LMc110.out; omega); intro v417 w117 ho hb hg hat; rw [← Ny416.out] at ho; have n0_ := Aside0.mk (Kd.R_over' (bR HO_8.out) (Kd.R_typed (bR HO_16.out)) (by decide) hg); have n1_ := Aside0.mk (Kd.R_over' (bR HO_9.out) (Kd.R_typed (bR HO_16.out)) (by decide) hg); have n2_ := Aside0.mk (hb); have n3_ := Aside0.mk (ho); clear HO_16; replace HO_8 := n0_; replace HO_9 := n1_; replace HB := n2_; have HO418 := n3_; clear n0_ n1_ n2_ n3_; clear ho hb hg hat; obtain ⟨Ao118, co118, eo118⟩ := Kd.R_slice HO_8.out; subst eo118; have p419 : 0 ≤ (x17_4 : Int) := of_decide_eq_true (by first | (with_reducible assumption) | assumption); have q419 : x17_4 < (x8_3.length : Int) := of_decide_eq_true (by first | (with_reducible assumption) | assumption); obtain ⟨ad419, e419, hx419_0⟩ := Kd.at_int (Kd.R_reads' HO_8.out).2.2 x17_4 p419 q419; cases e419; replace p419 := eq_true p419; replace q419 := eq_true q419; have p113 : 0 ≤ (x17_4 : Int) := of_decide_eq_true (by first | (with_reducible assumption) | assumption); have q113 : (x17_4 : Int) < ((x8_3.length : Int) : Int) := of_decide_eq_true (by first | (with_reducible assumption) | assumption); obtain ⟨go113, co113, eo113, gb113, gl113, cl113, HG113⟩ := Kd.R_form HO_8.out (by omega); (first | cases eo113 | (injection eo113 with ea_ en_ ec_; (first | subst ea_ | (injection ea_ with ea_; subst ea_)); subst ec_; clear en_)); have GB113 := Aside0.mk gb113; have GG113 := Aside0.mk HG113; clear gb113 gl113 HG113; (first | simp only [add_plain] at hx419_0 | skip); obtain ⟨hx113_0, hf113_0⟩ := Kd.R_celln 0 HO_8.out (x17_4 : Int) p113 q113; replace p113 := eq_true p113; replace q113 := eq_true q113; obtain ⟨hy119_, hz119_⟩ := Kd.R_celln 0 HO_8.out (x17_4 : Int) (of_decide_eq_true (by first | (with_reducible assumption) | assumption)) (of_decide_eq_true (by first | (with_reducible assumption) | assumption)); have HP119 := Kd.R_putg HO_8.out (x17_4 : Int) (wrap64 ((rd x8_3 x17_4) - 1))) | ((with_reducible refine gate_store (t := 3) (p := 173) rfl ?_); (try (rw [drewN_self w117]; generalize hq_ : World.drewN w117 _ = w117; have n0_ := Aside0.mk (Kd.R_at hq_ HO_8.out); have n1_ := Aside0.mk (Kd.R_at hq_ HO_9.out); have n2_ := Aside0.mk (Kd.R_at hq_ HO418.out); have n3_ := Aside0.mk (below_at hq_ HB.out); (try replace hx397_0 := cell_at hq_ hx397_0); (try replace hx397_1 := cell_at hq_ hx397_1); (try replace hx397_2 := cell_at hq_ hx397_2); (try replace hx398_0 := cell_at hq_ hx398_0); (try replace hx398_1 := cell_at hq_ hx398_1); (try replace hx398_2 := cell_at hq_ hx398_2); (try replace hx87_0 := cell_at hq_ hx87_0); (try replace hf87_0 := frz_at hq_ hf87_0); (try replace hx407_0 := cell_at hq_ hx407_0); (try replace hx100_0 := cell_at hq_ hx100_0); (try replace hf100_0 := frz_at hq_ hf100_0); (try replace hx413_0 := cell_at hq_ hx413_0); (try replace hx113_0 := cell_at hq_ hx113_0); (try replace hf113_0 := frz_at hq_ hf113_0); (try replace hx419_0 := cell_at hq_ hx419_0); clear hq_ HO_8 HO_9 HO418 HB; have HO_8 := n0_; have HO_9 := n1_; have HO418 := n2_; have HB := n3_; clear n0_ n1_ n2_ n3_; (try (obtain ⟨hy119_, hz119_⟩ := Kd.R_celln 0 HO_8.out (x17_4 : Int) (of_decide_eq_true (by first | (with_reducible assumption) | assumption)) (of_decide_eq_true (by first | (with_reducible assumption) | assumption)))); (try (have HP119 := Kd.R_putg HO_8.out (x17_4 : Int) (wrap64 ((rd x8_3 x17_4) - 1)))))); refine store_event (t := 3) (p := 173) (v := ?vo_w120) (w1 := (w117.setCell ⟨go113, (x17_4 : Int).toNat, none⟩ (.int .i64 (wrap64 ((rd x8_3 x17_4) - 1))))) ?hg ?ho ?hn ?hr ?_; (case ho => rfl); (case hg => rfl); (case hn => rfl); (case hr => first | (go_simp; done) | (go_simp; rfl)); intro w120 hw; have hg : w117.grownBy w120 (some go113) := (by rw [hw]; exact HP119.2); have hp_ : Kd.R (Kd.int .i64) 3 w120 w.heap.size (fun k_ => some k_ ≠ (v381 : Value).ownBlock) (.slice (some ⟨go113, 0, none⟩) x8_3.length co118) y420 := (by rw [hw, Ny420.out]; exact HP119.1); clear HP119; have n0_ := Aside0.mk (hp_); have n1_ := Aside0.mk (Kd.R_after (v := (.slice (some ⟨go113, 0, none⟩) x8_3.length co118)) (v1 := (.slice (some ⟨go113, 0, none⟩) x8_3.length co118)) (ok := (fun _ => True)) (by (with_reducible repeat (first | apply Kd.R_alloc | apply Kd.R_drewN | apply Kd.R_drew)); exact Kd.R_mono HO_9.out (fun _ hk => ⟨trivial, hk⟩)) hg (.inl rfl)); have n2_ := Aside0.mk (Kd.R_over' (v := (.slice (some ⟨go113, 0, none⟩) x8_3.length co118)) (bR HO418.out) (Kd.R_typed HO_8.out) (by decide) hg); have n3_ := Aside0.mk ((by rw [hw]; exact below_set (HB.out) GB113.out : Below w.heap.size w w120)); replace HO_8 := n0_; replace HO_9 := n1_; replace HO418 := n2_; replace HB := n3_; clear n0_ n1_ n2_ n3_; clear hg hw hp_; have p115 : 0 ≤ (x17_4 : Int) := of_decide_eq_true (by first | (with_reducible assumption) | assumption); have q115 : (x17_4 : Int) < ((x9_3.length : Int) : Int) := of_decide_eq_true (by first | (with_reducible assumption) | assumption); obtain ⟨go115, co115, eo115, gb115, gl115, cl115, HG115⟩ := Kd.R_form HO_9.out (by omega); (first | cases eo115 | (injection eo115 with ea_ en_ ec_; (first | subst ea_ | (injection ea_ with ea_; subst ea_)); subst ec_; clear en_)); have GB115 := Aside0.mk gb115; have GG115 := Aside0.mk HG115; clear gb115 gl115 HG115; obtain ⟨hx115_0, hf115_0⟩ := Kd.R_celln 0 HO_9.out (x17_4 : Int) p115 q115; replace p115 := eq_true p115; replace q115 := eq_true q115; have n_ := Aside0.mk (Kd.R_mono (ok' := (fun k_ => some k_ ≠ (.slice (some ⟨go113, 0, none⟩) x8_3.length co118 : Value).ownBlock)) HO_9.out (fun k_ hk => hk.2)); clear HO_9; have HO_9 := n_; clear n_; obtain ⟨hy121_, hz121_⟩ := Kd.R_celln 0 HO_9.out (x17_4 : Int) (of_decide_eq_true (by first | (with_reducible assumption) | assumption)) (of_decide_eq_true (by first | (with_reducible assumption) | assumption)); have HP121 := Kd.R_putg HO_9.out (x17_4 : Int) (wrap64 (x11_3 + 1))) | ((with_reducible refine gate_store (t := 3) (p := 180) rfl ?_); (try (rw [drewN_self w120]; generalize hq_ : World.drewN w120 _ = w120; have n0_ := Aside0.mk (Kd.R_at hq_ HO_8.out); have n1_ := Aside0.mk (Kd.R_at hq_ HO_9.out); have n2_ := Aside0.mk (Kd.R_at hq_ HO418.out); have n3_ := Aside0.mk (below_at hq_ HB.out); (try replace hx397_0 := cell_at hq_ hx397_0); (try replace hx397_1 := cell_at hq_ hx397_1); (try replace hx397_2 := cell_at hq_ hx397_2); (try replace hx398_0 := cell_at hq_ hx398_0); (try replace hx398_1 := cell_at hq_ hx398_1); (try replace hx398_2 := cell_at hq_ hx398_2); (try replace hx87_0 := cell_at hq_ hx87_0); (try replace hf87_0 := frz_at hq_ hf87_0); (try replace hx407_0 := cell_at hq_ hx407_0); (try replace hx100_0 := cell_at hq_ hx100_0); (try replace hf100_0 := frz_at hq_ hf100_0); (try replace hx413_0 := cell_at hq_ hx413_0); (try replace hx113_0 := cell_at hq_ hx113_0); (try replace hf113_0 := frz_at hq_ hf113_0); (try replace hx419_0 := cell_at hq_ hx419_0); clear hq_ HO_8 HO_9 HO418 HB; have HO_8 := n0_; have HO_9 := n1_; have HO418 := n2_; have HB := n3_; clear n0_ n1_ n2_ n3_; (try (have n_ := Aside0.mk (Kd.R_mono (ok' := (fun k_ => some k_ ≠ (.slice (some ⟨go113, 0, none⟩) x8_3.length co118 : Value).ownBlock)) HO_9.out (fun k_ hk => hk.2)); clear HO_9; have HO_9 := n_; clear n_)); (try (obtain ⟨hy121_, hz121_⟩ := Kd.R_celln 0 HO_9.out (x17_4 : Int) (of_decide_eq_true (by first | (with_reducible assumption) | assumption)) (of_decide_eq_true (by first | (with_reducible assumption) | assumption)))); (try (have HP121 := Kd.R_putg HO_9.out (x17_4 : Int) (wrap64 (x11_3 + 1)))))); refine store_event (t := 3) (p := 180) (v := ?vo_w122) (w1 := (w120.setCell ⟨go115, (x17_4 : Int).toNat, none⟩ (.int .i64 (wrap64 (x11_3 + 1))))) ?hg ?ho ?hn ?hr ?_; (case ho => rfl); (case hg => rfl); (case hn => rfl); (case hr => first | (go_simp; done) | (go_simp; rfl)); intro w122 hw; have hg : w120.grownBy w122 (some go115) := (by rw [hw]; exact HP121.2); have hp_ : Kd.R (Kd.int .i64) 3 w122 w.heap.size (fun k_ => some k_ ≠ (.slice (some ⟨go113, 0, none⟩) x8_3.length co118 : Value).ownBlock) (.slice (some ⟨go115, 0, none⟩) x9_3.length co115) y421 := (by rw [hw, Ny421.out]; exact HP121.1); clear HP121; have n0_ := Aside0.mk (Kd.R_after (v := (.slice (some ⟨go115, 0, none⟩) x9_3.length co115)) (v1 := (.slice (some ⟨go115, 0, none⟩) x9_3.length co115)) (ok := (fun _ => True)) (by (with_reducible repeat (first | apply Kd.R_alloc | apply Kd.R_drewN | apply Kd.R_drew)); exact Kd.R_mono HO_8.out (fun _ hk => ⟨trivial, hk⟩)) hg (.inl rfl)); have n1_ := Aside0.mk (hp_); have n2_ := Aside0.mk (Kd.R_over' (v := (.slice (some ⟨go115, 0, none⟩) x9_3.length co115)) (bR HO418.out) (Kd.R_typed HO_9.out) (by decide) hg); have n3_ := Aside0.mk ((by rw [hw]; exact below_set (HB.out) GB115.out : Below w.heap.size w w122)); replace HO_8 := n0_; replace HO_9 := n1_; replace HO418 := n2_; replace HB := n3_; clear n0_ n1_ n2_ n3_; clear hg hw hp_)) | clear go_); go_wp2_with (first | ((with_reducible refine gate_builtin (b := .append) (xs := #[.tmp 160, .tmp 166]) rfl ?_); at_builtin; refine Kd.R_append k92 (w0 := w) w.heap.size rfl (.tmp 160) (.tmp 166) 89 92 (.agg #[(.int .i64 0), (.int .i64 0), (.int .i64 0)]) 24 rfl Try.underlying89 info92 rfl (by decide) (by omega) (.slice Ao116 x16_3.length co116) x16_3 (⟨x17_4, x11_3, wrap64 (x11_3 + 1)⟩ : S92) [.int .i64 x17_4, .int .i64 x11_3, .int .i64 (wrap64 (x11_3 + 1))] (fun _ => True) (fun _ => False) rfl rfl ?aP (fun _ hk => hk.elim) ?aF ?aO ?aB ?aS ?aL ?_; (case aP => exact k92_mkM _ _ _ (⟨x17_4, x11_3, wrap64 (x11_3 + 1)⟩ : S92)); (case aB => exact (bw HB.out)); (case aF => exact (fun _ _ => trivial)); (case aO => exact (bR HO_16.out)); (case aS => exact (below_size (bw HB.out))); (case aL => have := LMc110.out; omega); intro v417 w117 ho hb hg hat; rw [← Ny416.out] at ho; have n0_ := Aside0.mk (Kd.R_over' (bR HO_8.out) (Kd.R_typed (bR HO_16.out)) (by decide) hg); have n1_ := Aside0.mk (Kd.R_over' (bR HO_9.out) (Kd.R_typed (bR HO_16.out)) (by decide) hg); have n2_ := Aside0.mk (hb); have n3_ := Aside0.mk (ho); clear HO_16; replace HO_8 := n0_; replace HO_9 := n1_; replace HB := n2_; have HO418 := n3_; clear n0_ n1_ n2_ n3_; clear ho hb hg hat; obtain ⟨Ao118, co118, eo118⟩ := Kd.R_slice HO_8.out; subst eo118; have p419 : 0 ≤ (x17_4 : Int) := of_decide_eq_true (by first | (with_reducible assumption) | assumption); have q419 : x17_4 < (x8_3.length : Int) := of_decide_eq_true (by first | (with_reducible assumption) | assumption); obtain ⟨ad419, e419, hx419_0⟩ := Kd.at_int (Kd.R_reads' HO_8.out).2.2 x17_4 p419 q419; cases e419; replace p419 := eq_true p419; replace q419 := eq_true q419; have p113 : 0 ≤ (x17_4 : Int) := of_decide_eq_true (by first | (with_reducible assumption) | assumption); have q113 : (x17_4 : Int) < ((x8_3.length : Int) : Int) := of_decide_eq_true (by first | (with_reducible assumption) | assumption); obtain ⟨go113, co113, eo113, gb113, gl113, cl113, HG113⟩ := Kd.R_form HO_8.out (by omega); (first | cases eo113 | (injection eo113 with ea_ en_ ec_; (first | subst ea_ | (injection ea_ with ea_; subst ea_)); subst ec_; clear en_)); have GB113 := Aside0.mk gb113; have GG113 := Aside0.mk HG113; clear gb113 gl113 HG113; (first | simp only [add_plain] at hx419_0 | skip); obtain ⟨hx113_0, hf113_0⟩ := Kd.R_celln 0 HO_8.out (x17_4 : Int) p113 q113; replace p113 := eq_true p113; replace q113 := eq_true q113; obtain ⟨hy119_, hz119_⟩ := Kd.R_celln 0 HO_8.out (x17_4 : Int) (of_decide_eq_true (by first | (with_reducible assumption) | assumption)) (of_decide_eq_true (by first | (with_reducible assumption) | assumption)); have HP119 := Kd.R_putg HO_8.out (x17_4 : Int) (wrap64 ((rd x8_3 x17_4) - 1))) | ((with_reducible refine gate_store (t := 3) (p := 173) rfl ?_); (try (rw [drewN_self w117]; generalize hq_ : World.drewN w117 _ = w117; have n0_ := Aside0.mk (Kd.R_at hq_ HO_8.out); have n1_ := Aside0.mk (Kd.R_at hq_ HO_9.out); have n2_ := Aside0.mk (Kd.R_at hq_ HO418.out); have n3_ := Aside0.mk (below_at hq_ HB.out); (try replace hx397_0 := cell_at hq_ hx397_0); (try replace hx397_1 := cell_at hq_ hx397_1); (try replace hx397_2 := cell_at hq_ hx397_2); (try replace hx398_0 := cell_at hq_ hx398_0); (try replace hx398_1 := cell_at hq_ hx398_1); (try replace hx398_2 := cell_at hq_ hx398_2); (try replace hx87_0 := cell_at hq_ hx87_0); (try replace hf87_0 := frz_at hq_ hf87_0); (try replace hx407_0 := cell_at hq_ hx407_0); (try replace hx100_0 := cell_at hq_ hx100_0); (try replace hf100_0 := frz_at hq_ hf100_0); (try replace hx413_0 := cell_at hq_ hx413_0); (try replace hx113_0 := cell_at hq_ hx113_0); (try replace hf113_0 := frz_at hq_ hf113_0); (try replace hx419_0 := cell_at hq_ hx419_0); clear hq_ HO_8 HO_9 HO418 HB; have HO_8 := n0_; have HO_9 := n1_; have HO418 := n2_; have HB := n3_; clear n0_ n1_ n2_ n3_; (try (obtain ⟨hy119_, hz119_⟩ := Kd.R_celln 0 HO_8.out (x17_4 : Int) (of_decide_eq_true (by first | (with_reducible assumption) | assumption)) (of_decide_eq_true (by first | (with_reducible assumption) | assumption)))); (try (have HP119 := Kd.R_putg HO_8.out (x17_4 : Int) (wrap64 ((rd x8_3 x17_4) - 1)))))); refine store_event (t := 3) (p := 173) (v := ?vo_w120) (w1 := (w117.setCell ⟨go113, (x17_4 : Int).toNat, none⟩ (.int .i64 (wrap64 ((rd x8_3 x17_4) - 1))))) ?hg ?ho ?hn ?hr ?_; (case ho => rfl); (case hg => rfl); (case hn => rfl); (case hr => first | (go_simp; done) | (go_simp; rfl)); intro w120 hw; have hg : w117.grownBy w120 (some go113) := (by rw [hw]; exact HP119.2); have hp_ : Kd.R (Kd.int .i64) 3 w120 w.heap.size (fun k_ => some k_ ≠ (v381 : Value).ownBlock) (.slice (some ⟨go113, 0, none⟩) x8_3.length co118) y420 := (by rw [hw, Ny420.out]; exact HP119.1); clear HP119; have n0_ := Aside0.mk (hp_); have n1_ := Aside0.mk (Kd.R_after (v := (.slice (some ⟨go113, 0, none⟩) x8_3.length co118)) (v1 := (.slice (some ⟨go113, 0, none⟩) x8_3.length co118)) (ok := (fun _ => True)) (by (with_reducible repeat (first | apply Kd.R_alloc | apply Kd.R_drewN | apply Kd.R_drew)); exact Kd.R_mono HO_9.out (fun _ hk => ⟨trivial, hk⟩)) hg (.inl rfl)); have n2_ := Aside0.mk (Kd.R_over' (v := (.slice (some ⟨go113, 0, none⟩) x8_3.length co118)) (bR HO418.out) (Kd.R_typed HO_8.out) (by decide) hg); have n3_ := Aside0.mk ((by rw [hw]; exact below_set (HB.out) GB113.out : Below w.heap.size w w120)); replace HO_8 := n0_; replace HO_9 := n1_; replace HO418 := n2_; replace HB := n3_; clear n0_ n1_ n2_ n3_; clear hg hw hp_; have p115 : 0 ≤ (x17_4 : Int) := of_decide_eq_true (by first | (with_reducible assumption) | assumption); have q115 : (x17_4 : Int) < ((x9_3.length : Int) : Int) := of_decide_eq_true (by first | (with_reducible assumption) | assumption); obtain ⟨go115, co115, eo115, gb115, gl115, cl115, HG115⟩ := Kd.R_form HO_9.out (by omega); (first | cases eo115 | (injection eo115 with ea_ en_ ec_; (first | subst ea_ | (injection ea_ with ea_; subst ea_)); subst ec_; clear en_)); have GB115 := Aside0.mk gb115; have GG115 := Aside0.mk HG115; clear gb115 gl115 HG115; obtain ⟨hx115_0, hf115_0⟩ := Kd.R_celln 0 HO_9.out (x17_4 : Int) p115 q115; replace p115 := eq_true p115; replace q115 := eq_true q115; have n_ := Aside0.mk (Kd.R_mono (ok' := (fun k_ => some k_ ≠ (.slice (some ⟨go113, 0, none⟩) x8_3.length co118 : Value).ownBlock)) HO_9.out (fun k_ hk => hk.2)); clear HO_9; have HO_9 := n_; clear n_; obtain ⟨hy121_, hz121_⟩ := Kd.R_celln 0 HO_9.out (x17_4 : Int) (of_decide_eq_true (by first | (with_reducible assumption) | assumption)) (of_decide_eq_true (by first | (with_reducible assumption) | assumption)); have HP121 := Kd.R_putg HO_9.out (x17_4 : Int) (wrap64 (x11_3 + 1))) | ((with_reducible refine gate_store (t := 3) (p := 180) rfl ?_); (try (rw [drewN_self w120]; generalize hq_ : World.drewN w120 _ = w120; have n0_ := Aside0.mk (Kd.R_at hq_ HO_8.out); have n1_ := Aside0.mk (Kd.R_at hq_ HO_9.out); have n2_ := Aside0.mk (Kd.R_at hq_ HO418.out); have n3_ := Aside0.mk (below_at hq_ HB.out); (try replace hx397_0 := cell_at hq_ hx397_0); (try replace hx397_1 := cell_at hq_ hx397_1); (try replace hx397_2 := cell_at hq_ hx397_2); (try replace hx398_0 := cell_at hq_ hx398_0); (try replace hx398_1 := cell_at hq_ hx398_1); (try replace hx398_2 := cell_at hq_ hx398_2); (try replace hx87_0 := cell_at hq_ hx87_0); (try replace hf87_0 := frz_at hq_ hf87_0); (try replace hx407_0 := cell_at hq_ hx407_0); (try replace hx100_0 := cell_at hq_ hx100_0); (try replace hf100_0 := frz_at hq_ hf100_0); (try replace hx413_0 := cell_at hq_ hx413_0); (try replace hx113_0 := cell_at hq_ hx113_0); (try replace hf113_0 := frz_at hq_ hf113_0); (try replace hx419_0 := cell_at hq_ hx419_0); clear hq_ HO_8 HO_9 HO418 HB; have HO_8 := n0_; have HO_9 := n1_; have HO418 := n2_; have HB := n3_; clear n0_ n1_ n2_ n3_; (try (have n_ := Aside0.mk (Kd.R_mono (ok' := (fun k_ => some k_ ≠ (.slice (some ⟨go113, 0, none⟩) x8_3.length co118 : Value).ownBlock)) HO_9.out (fun k_ hk => hk.2)); clear HO_9; have HO_9 := n_; clear n_)); (try (obtain ⟨hy121_, hz121_⟩ := Kd.R_celln 0 HO_9.out (x17_4 : Int) (of_decide_eq_true (by first | (with_reducible assumption) | assumption)) (of_decide_eq_true (by first | (with_reducible assumption) | assumption)))); (try (have HP121 := Kd.R_putg HO_9.out (x17_4 : Int) (wrap64 (x11_3 + 1)))))); refine store_event (t := 3) (p := 180) (v := ?vo_w122) (w1 := (w120.setCell ⟨go115, (x17_4 : Int).toNat, none⟩ (.int .i64 (wrap64 (x11_3 + 1))))) ?hg ?ho ?hn ?hr ?_; (case ho => rfl); (case hg => rfl); (case hn => rfl); (case hr => first | (go_simp; done) | (go_simp; rfl)); intro w122 hw; have hg : w120.grownBy w122 (some go115) := (by rw [hw]; exact HP121.2); have hp_ : Kd.R (Kd.int .i64) 3 w122 w.heap.size (fun k_ => some k_ ≠ (.slice (some ⟨go113, 0, none⟩) x8_3.length co118 : Value).ownBlock) (.slice (some ⟨go115, 0, none⟩) x9_3.length co115) y421 := (by rw [hw, Ny421.out]; exact HP121.1); clear HP121; have n0_ := Aside0.mk (Kd.R_after (v := (.slice (some ⟨go115, 0, none⟩) x9_3.length co115)) (v1 := (.slice (some ⟨go115, 0, none⟩) x9_3.length co115)) (ok := (fun _ => True)) (by (with_reducible repeat (first | apply Kd.R_alloc | apply Kd.R_drewN | apply Kd.R_drew)); exact Kd.R_mono HO_8.out (fun _ hk => ⟨trivial, hk⟩)) hg (.inl rfl)); have n1_ := Aside0.mk (hp_); have n2_ := Aside0.mk (Kd.R_over' (v := (.slice (some ⟨go115, 0, none⟩) x9_3.length co115)) (bR HO418.out) (Kd.R_typed HO_9.out) (by decide) hg); have n3_ := Aside0.mk ((by rw [hw]; exact below_set (HB.out) GB115.out : Below w.heap.size w w122)); replace HO_8 := n0_; replace HO_9 := n1_; replace HO418 := n2_; replace HB := n3_; clear n0_ n1_ n2_ n3_; clear hg hw hp_)))
          go_roundg k4
          case measure => have := HK1.out; have := HK2.out; have := HK3.out; have := HK4.out; omega
          case rel => exact ⟨(y420), (y421), (wrap64 (x10_3 - 1)), (wrap64 (x11_3 + 1)), (y416), (by first | rfl | (simp; done) | (simp [*]; done)), (by first | rfl | (simp; done) | (simp [*]; done)), H', ⟨by have := HK1.out; have := HK2.out; have := HK3.out; have := HK4.out; omega⟩, ⟨by (with_reducible repeat (first | apply Kd.R_alloc | apply Kd.R_drewN | apply Kd.R_drew)); exact Kd.R_mono HO_8.out (fun _ hk => hk.2)⟩, ⟨bR HO_9.out⟩, ⟨bR HO418.out⟩, ⟨bw HB.out⟩⟩
         rw [if_pos c64] at H
         have c64b0 : decide (0 ≤ (wrap64 ((x16_3.length : Int) - 1))) = true := decide_eq_true c64
         clear c64
         obtain ⟨ji65, hji65⟩ : ∃ j_ : Int, (wrap64 ((x16_3.length : Int) - 1)) = j_ := ⟨_, rfl⟩
         replace H : (if 0 ≤ (ji65) then (if (ji65) < (x16_3.length : Int) then (if ((rd_T92 x16_3 (ji65)).f0) = x17_4 then (if ((rd_T92 x16_3 (ji65)).f2) = x11_3 then (if 0 ≤ x17_4 then (if x17_4 < (x8_3.length : Int) then (if x17_4 < (x9_3.length : Int) then (impl_choose.l2 k4 l0 a2 (x8_3.set (x17_4 : Int).toNat (wrap64 ((rd x8_3 x17_4) - 1))) (x9_3.set (x17_4 : Int).toNat (wrap64 (x11_3 + 1))) (wrap64 (x10_3 - 1)) (wrap64 (x11_3 + 1)) (x16_3.set ((ji65) : Int).toNat (⟨(rd_T92 x16_3 (ji65)).f0, (rd_T92 x16_3 (ji65)).f1, wrap64 (((rd_T92 x16_3 (ji65)).f2) + 1)⟩ : S92))) else (none)) else (none)) else (none)) else (if x16_3.length < 5864062014805 then (if 0 ≤ x17_4 then (if x17_4 < (x8_3.length : Int) then (if x17_4 < (x9_3.length : Int) then (impl_choose.l2 k4 l0 a2 (x8_3.set (x17_4 : Int).toNat (wrap64 ((rd x8_3 x17_4) - 1))) (x9_3.set (x17_4 : Int).toNat (wrap64 (x11_3 + 1))) (wrap64 (x10_3 - 1)) (wrap64 (x11_3 + 1)) (x16_3 ++ [(⟨x17_4, x11_3, wrap64 (x11_3 + 1)⟩ : S92)])) else (none)) else (none)) else (none)) else (none))) else (if x16_3.length < 5864062014805 then (if 0 ≤ x17_4 then (if x17_4 < (x8_3.length : Int) then (if x17_4 < (x9_3.length : Int) then (impl_choose.l2 k4 l0 a2 (x8_3.set (x17_4 : Int).toNat (wrap64 ((rd x8_3 x17_4) - 1))) (x9_3.set (x17_4 : Int).toNat (wrap64 (x11_3 + 1))) (wrap64 (x10_3 - 1)) (wrap64 (x11_3 + 1)) (x16_3 ++ [(⟨x17_4, x11_3, wrap64 (x11_3 + 1)⟩ : S92)])) else (none)) else (none)) else (none)) else (none))) else (none)) else (none)) = some (r1, r2) := by first | (rw [hji65] at H; exact H) | (simp only [hji65] at H ⊢; exact H)
         (try rw [hji65] at c64b0)
         have hji65w : (IntKind.i64.wrap ((x16_3.length : Int) - 1)) = ji65 := (i64_w _).trans hji65
         by_cases c66 : 0 ≤ (ji65)
         rotate_left
         ·rw [if_neg c66] at H
          exact absurd H (by simp)
         rw [if_pos c66] at H
         have c66b0 : decide (0 ≤ (ji65)) = true := decide_eq_true c66
         clear c66
         by_cases c67 : (ji65) < (x16_3.length : Int)
         rotate_left
         ·rw [if_neg c67] at H
          exact absurd H (by simp)
         rw [if_pos c67] at H
         have c67b0 : decide ((ji65) < (x16_3.length : Int)) = true := decide_eq_true c67
         clear c67
         by_cases c68 : ((rd_T92 x16_3 (ji65)).f0) = x17_4
         rotate_left
         ·rw [if_neg c68] at H
          have c68b0 : (((rd_T92 x16_3 (ji65)).f0) == x17_4) = false := beq_eq_false_iff_ne.mpr c68
          have c68b1 : (((rd_T92 x16_3 (ji65)).f0) != x17_4) = true := bne_iff_ne.mpr c68
          by_cases c97 : x16_3.length < 5864062014805
          rotate_left
          ·rw [if_neg c97] at H
           exact absurd H (by simp)
          rw [if_pos c97] at H
          have LMc97 := Aside0.mk c97
          clear c97
          obtain ⟨y410, hy410⟩ : ∃ y_ : List (S92), y_ = (x16_3 ++ [(⟨x17_4, x11_3, wrap64 (x11_3 + 1)⟩ : S92)]) := ⟨_, rfl⟩
          replace H : (if 0 ≤ x17_4 then (if x17_4 < (x8_3.length : Int) then (if x17_4 < (x9_3.length : Int) then (impl_choose.l2 k4 l0 a2 (x8_3.set (x17_4 : Int).toNat (wrap64 ((rd x8_3 x17_4) - 1))) (x9_3.set (x17_4 : Int).toNat (wrap64 (x11_3 + 1))) (wrap64 (x10_3 - 1)) (wrap64 (x11_3 + 1)) y410) else (none)) else (none)) else (none)) = some (r1, r2) := by first | (rw [hy410]; with_reducible exact H) | (have H2_ := (Option.bind_some _ _).symm.trans H; rw [hy410]; with_reducible exact H2_) | (have H2_ := (Option.bind_some _ _).symm.trans H; with_reducible exact H2_) | with_reducible exact H | (rw [hy410]; exact H) | exact H
          have Ny410 := Aside0.mk hy410
          clear hy410
          by_cases c98 : 0 ≤ x17_4
          rotate_left
          ·rw [if_neg c98] at H
           exact absurd H (by simp)
          rw [if_pos c98] at H
          have c98b0 : decide (0 ≤ x17_4) = true := decide_eq_true c98
          clear c98
          by_cases c99 : x17_4 < (x8_3.length : Int)
          rotate_left
          ·rw [if_neg c99] at H
           exact absurd H (by simp)
          rw [if_pos c99] at H
          have c99b0 : decide (x17_4 < (x8_3.length : Int)) = true := decide_eq_true c99
          clear c99
          obtain ⟨y414, hy414⟩ : ∃ y_ : List Int, y_ = (x8_3.set (x17_4 : Int).toNat (wrap64 ((rd x8_3 x17_4) - 1))) := ⟨_, rfl⟩
          replace H : (if x17_4 < (x9_3.length : Int) then (impl_choose.l2 k4 l0 a2 y414 (x9_3.set (x17_4 : Int).toNat (wrap64 (x11_3 + 1))) (wrap64 (x10_3 - 1)) (wrap64 (x11_3 + 1)) y410) else (none)) = some (r1, r2) := by first | (rw [hy414]; with_reducible exact H) | (have H2_ := (Option.bind_some _ _).symm.trans H; rw [hy414]; with_reducible exact H2_) | (have H2_ := (Option.bind_some _ _).symm.trans H; with_reducible exact H2_) | with_reducible exact H | (rw [hy414]; exact H) | exact H
          have Ny414 := Aside0.mk hy414
          clear hy414
          by_cases c101 : x17_4 < (x9_3.length : Int)
          rotate_left
          ·rw [if_neg c101] at H
           exact absurd H (by simp)
          rw [if_pos c101] at H
          have c101b0 : decide (x17_4 < (x9_3.length : Int)) = true := decide_eq_true c101
          clear c101
          obtain ⟨y415, hy415⟩ : ∃ y_ : List Int, y_ = (x9_3.set (x17_4 : Int).toNat (wrap64 (x11_3 + 1))) := ⟨_, rfl⟩
          replace H : (impl_choose.l2 k4 l0 a2 y414 y415 (wrap64 (x10_3 - 1)) (wrap64 (x11_3 + 1)) y410) = some (r1, r2) := by first | (rw [hy415]; with_reducible exact H) | (have H2_ := (Option.bind_some _ _).symm.trans H; rw [hy415]; with_reducible exact H2_) | (have H2_ := (Option.bind_some _ _).symm.trans H; with_reducible exact H2_) | with_reducible exact H | (rw [hy415]; exact H) | exact H
          have Ny415 := Aside0.mk hy415
          clear hy415
          have H' := Aside0.mk H
          clear H
          obtain ⟨Ao103, co103, eo103⟩ := Kd.R_slice HO_16.out
          subst eo103
          have p397 : 0 ≤ ((ji65) : Int) := of_decide_eq_true (by first | (with_reducible assumption) | assumption)
          have q397 : (ji65) < (x16_3.length : Int) := of_decide_eq_true (by first | (with_reducible assumption) | assumption)
          obtain ⟨ad397, e397, hx397_0, hx397_1, hx397_2⟩ := at_T92 (Kd.R_reads' HO_16.out).2.2 (ji65) p397 q397
          cases e397
          replace p397 := eq_true p397
          replace q397 := eq_true q397
          have go_ := True.intro
          repeat ((first | go_quiet (first | ((with_reducible refine gate_builtin (b := .append) (xs := #[.tmp 160, .tmp 166]) rfl ?_); at_builtin; refine Kd.R_append k92 (w0 := w) w.heap.size rfl (.tmp 160) (.tmp 166) 89 92 (.agg #[(.int .i64 0), (.int .i64 0), (.int .i64 0)]) 24 rfl Try.underlying89 info92 rfl (by decide) (by omega) (.slice (some ad397) x16_3.length co103) x16_3 (⟨x17_4, x11_3, wrap64 (x11_3 + 1)⟩ : S92) [.int .i64 x17_4, .int .i64 x11_3, .int .i64 (wrap64 (x11_3 + 1))] (fun _ => True) (fun _ => False) rfl rfl ?aP (fun _ hk => hk.elim) ?aF ?aO ?aB ?aS ?aL ?_; (case aP => exact k92_mkM _ _ _ (⟨x17_4, x11_3, wrap64 (x11_3 + 1)⟩ : S92)); (case aB => exact (bw HB.out)); (case aF => exact (fun _ _ => trivial)); (case aO => exact (bR HO_16.out)); (case aS => exact (below_size (bw HB.out))); (case aL => have := LMc97.out; omega); intro v411 w104 ho hb hg hat; rw [← Ny410.out] at ho; have n0_ := Aside0.mk (Kd.R_over' (bR HO_8.out) (Kd.R_typed (bR HO_16.out)) (by decide) hg); have n1_ := Aside0.mk (Kd.R_over' (bR HO_9.out) (Kd.R_typed (bR HO_16.out)) (by decide) hg); have n2_ := Aside0.mk (hb); have n3_ := Aside0.mk (ho); clear HO_16; replace HO_8 := n0_; replace HO_9 := n1_; replace HB := n2_; have HO412 := n3_; clear n0_ n1_ n2_ n3_; clear ho hb hg hat; obtain ⟨Ao105, co105, eo105⟩ := Kd.R_slice HO_8.out; subst eo105; have p413 : 0 ≤ (x17_4 : Int) := of_decide_eq_true (by first | (with_reducible assumption) | assumption); have q413 : x17_4 < (x8_3.length : Int) := of_decide_eq_true (by first | (with_reducible assumption) | assumption); obtain ⟨ad413, e413, hx413_0⟩ := Kd.at_int (Kd.R_reads' HO_8.out).2.2 x17_4 p413 q413; cases e413; replace p413 := eq_true p413; replace q413 := eq_true q413; have p100 : 0 ≤ (x17_4 : Int) := of_decide_eq_true (by first | (with_reducible assumption) | assumption); have q100 : (x17_4 : Int) < ((x8_3.length : Int) : Int) := of_decide_eq_true (by first | (with_reducible assumption) | assumption); obtain ⟨go100, co100, eo100, gb100, gl100, cl100, HG100⟩ := Kd.R_form HO_8.out (by omega); (first | cases eo100 | (injection eo100 with ea_ en_ ec_; (first | subst ea_ | (injection ea_ with ea_; subst ea_)); subst ec_; clear en_)); have GB100 := Aside0.mk gb100; have GG100 := Aside0.mk HG100; clear gb100 gl100 HG100; (first | simp only [add_plain] at hx413_0 | skip); obtain ⟨hx100_0, hf100_0⟩ := Kd.R_celln 0 HO_8.out (x17_4 : Int) p100 q100; replace p100 := eq_true p100; replace q100 := eq_true q100; obtain ⟨hy106_, hz106_⟩ := Kd.R_celln 0 HO_8.out (x17_4 : Int) (of_decide_eq_true (by first | (with_reducible assumption) | assumption)) (of_decide_eq_true (by first | (with_reducible assumption) | assumption)); have HP106 := Kd.R_putg HO_8.out (x17_4 : Int) (wrap64 ((rd x8_3 x17_4) - 1))) | ((with_reducible refine gate_store (t := 3) (p := 173) rfl ?_); (try (rw [drewN_self w104]; generalize hq_ : World.drewN w104 _ = w104; have n0_ := Aside0.mk (Kd.R_at hq_ HO_8.out); have n1_ := Aside0.mk (Kd.R_at hq_ HO_9.out); have n2_ := Aside0.mk (Kd.R_at hq_ HO412.out); have n3_ := Aside0.mk (below_at hq_ HB.out); (try replace hx73_0 := cell_at hq_ hx73_0); (try replace hf73_0 := frz_at hq_ hf73_0); (try replace hx401_0 := cell_at hq_ hx401_0); (try replace hx397_0 := cell_at hq_ hx397_0); (try replace hx397_1 := cell_at hq_ hx397_1); (try replace hx397_2 := cell_at hq_ hx397_2); (try replace hx398_0 := cell_at hq_ hx398_0); (try replace hx398_1 := cell_at hq_ hx398_1); (try replace hx398_2 := cell_at hq_ hx398_2); (try replace hx87_0 := cell_at hq_ hx87_0); (try replace hf87_0 := frz_at hq_ hf87_0); (try replace hx407_0 := cell_at hq_ hx407_0); (try replace hx100_0 := cell_at hq_ hx100_0); (try replace hf100_0 := frz_at hq_ hf100_0); (try replace hx413_0 := cell_at hq_ hx413_0); clear hq_ HO_8 HO_9 HO412 HB; have HO_8 := n0_; have HO_9 := n1_; have HO412 := n2_; have HB := n3_; clear n0_ n1_ n2_ n3_; (try (obtain ⟨hy106_, hz106_⟩ := Kd.R_celln 0 HO_8.out (x17_4 : Int) (of_decide_eq_true (by first | (with_reducible assumption) | assumption)) (of_decide_eq_true (by first | (with_reducible assumption) | assumption)))); (try (have HP106 := Kd.R_putg HO_8.out (x17_4 : Int) (wrap64 ((rd x8_3 x17_4) - 1)))))); refine store_event (t := 3) (p := 173) (v := ?vo_w107) (w1 := (w104.setCell ⟨go100, (x17_4 : Int).toNat, none⟩ (.int .i64 (wrap64 ((rd x8_3 x17_4) - 1))))) ?hg ?ho ?hn ?hr ?_; (case ho => rfl); (case hg => rfl); (case hn => rfl); (case hr => first | (go_simp; done) | (go_simp; rfl)); intro w107 hw; have hg : w104.grownBy w107 (some go100) := (by rw [hw]; exact HP106.2); have hp_ : Kd.R (Kd.int .i64) 3 w107 w.heap.size (fun k_ => some k_ ≠ (v381 : Value).ownBlock) (.slice (some ⟨go100, 0, none⟩) x8_3.length co105) y414 := (by rw [hw, Ny414.out]; exact HP106.1); clear HP106; have n0_ := Aside0.mk (hp_); have n1_ := Aside0.mk (Kd.R_after (v := (.slice (some ⟨go100, 0, none⟩) x8_3.length co105)) (v1 := (.slice (some ⟨go100, 0, none⟩) x8_3.length co105)) (ok := (fun _ => True)) (by (with_reducible repeat (first | apply Kd.R_alloc | apply Kd.R_drewN | apply Kd.R_drew)); exact Kd.R_mono HO_9.out (fun _ hk => ⟨trivial, hk⟩)) hg (.inl rfl)); have n2_ := Aside0.mk (Kd.R_over' (v := (.slice (some ⟨go100, 0, none⟩) x8_3.length co105)) (bR HO412.out) (Kd.R_typed HO_8.out) (by decide) hg); have n3_ := Aside0.mk ((by rw [hw]; exact below_set (HB.out) GB100.out : Below w.heap.size w w107)); replace HO_8 := n0_; replace HO_9 := n1_; replace HO412 := n2_; replace HB := n3_; clear n0_ n1_ n2_ n3_; clear hg hw hp_; have p102 : 0 ≤ (x17_4 : Int) := of_decide_eq_true (by first | (with_reducible assumption) | assumption); have q102 : (x17_4 : Int) < ((x9_3.length : Int) : Int) := of_decide_eq_true (by first | (with_reducible assumption) | assumption); obtain ⟨go102, co102, eo102, gb102, gl102, cl102, HG102⟩ := Kd.R_form HO_9.out (by omega); (first | cases eo102 | (injection eo102 with ea_ en_ ec_; (first | subst ea_ | (injection ea_ with ea_; subst ea_)); subst ec_; clear en_)); have GB102 := Aside0.mk gb102; have GG102 := Aside0.mk HG102; clear gb102 gl102 HG102; obtain ⟨hx102_0, hf102_0⟩ := Kd.R_celln 0 HO_9.out (x17_4 : Int) p102 q102; replace p102 := eq_true p102; replace q102 := eq_true q102; have n_ := Aside0.mk (Kd.R_mono (ok' := (fun k_ => some k_ ≠ (.slice (some ⟨go100, 0, none⟩) x8_3.length co105 : Value).ownBlock)) HO_9.out (fun k_ hk => hk.2)); clear HO_9; have HO_9 := n_; clear n_; obtain ⟨hy108_, hz108_⟩ := Kd.R_celln 0 HO_9.out (x17_4 : Int) (of_decide_eq_true (by first | (with_reducible assumption) | assumption)) (of_decide_eq_true (by first | (with_reducible assumption) | assumption)); have HP108 := Kd.R_putg HO_9.out (x17_4 : Int) (wrap64 (x11_3 + 1))) | ((with_reducible refine gate_store (t := 3) (p := 180) rfl ?_); (try (rw [drewN_self w107]; generalize hq_ : World.drewN w107 _ = w107; have n0_ := Aside0.mk (Kd.R_at hq_ HO_8.out); have n1_ := Aside0.mk (Kd.R_at hq_ HO_9.out); have n2_ := Aside0.mk (Kd.R_at hq_ HO412.out); have n3_ := Aside0.mk (below_at hq_ HB.out); (try replace hx73_0 := cell_at hq_ hx73_0); (try replace hf73_0 := frz_at hq_ hf73_0); (try replace hx401_0 := cell_at hq_ hx401_0); (try replace hx397_0 := cell_at hq_ hx397_0); (try replace hx397_1 := cell_at hq_ hx397_1); (try replace hx397_2 := cell_at hq_ hx397_2); (try replace hx398_0 := cell_at hq_ hx398_0); (try replace hx398_1 := cell_at hq_ hx398_1); (try replace hx398_2 := cell_at hq_ hx398_2); (try replace hx87_0 := cell_at hq_ hx87_0); (try replace hf87_0 := frz_at hq_ hf87_0); (try replace hx407_0 := cell_at hq_ hx407_0); (try replace hx100_0 := cell_at hq_ hx100_0); (try replace hf100_0 := frz_at hq_ hf100_0); (try replace hx413_0 := cell_at hq_ hx413_0); clear hq_ HO_8 HO_9 HO412 HB; have HO_8 := n0_; have HO_9 := n1_; have HO412 := n2_; have HB := n3_; clear n0_ n1_ n2_ n3_; (try (have n_ := Aside0.mk (Kd.R_mono (ok' := (fun k_ => some k_ ≠ (.slice (some ⟨go100, 0, none⟩) x8_3.length co105 : Value).ownBlock)) HO_9.out (fun k_ hk => hk.2)); clear HO_9; have HO_9 := n_; clear n_)); (try (obtain ⟨hy108_, hz108_⟩ := Kd.R_celln 0 HO_9.out (x17_4 : Int) (of_decide_eq_true (by first | (with_reducible assumption) | assumption)) (of_decide_eq_true (by first | (with_reducible assumption) | assumption)))); (try (have HP108 := Kd.R_putg HO_9.out (x17_4 : Int) (wrap64 (x11_3 + 1)))))); refine store_event (t := 3) (p := 180) (v := ?vo_w109) (w1 := (w107.setCell ⟨go102, (x17_4 : Int).toNat, none⟩ (.int .i64 (wrap64 (x11_3 + 1))))) ?hg ?ho ?hn ?hr ?_; (case ho => rfl); (case hg => rfl); (case hn => rfl); (case hr => first | (go_simp; done) | (go_simp; rfl)); intro w109 hw; have hg : w107.grownBy w109 (some go102) := (by rw [hw]; exact HP108.2); have hp_ : Kd.R (Kd.int .i64) 3 w109 w.heap.size (fun k_ => some k_ ≠ (.slice (some ⟨go100, 0, none⟩) x8_3.length co105 : Value).ownBlock) (.slice (some ⟨go102, 0, none⟩) x9_3.length co102) y415 := (by rw [hw, Ny415.out]; exact HP108.1); clear HP108; have n0_ := Aside0.mk (Kd.R_after (v := (.slice (some ⟨go102, 0, none⟩) x9_3.length co102)) (v1 := (.slice (some ⟨go102, 0, none⟩) x9_3.length co102)) (ok := (fun _ => True)) (by (with_reducible repeat (first | apply Kd.R_alloc | apply Kd.R_drewN | apply Kd.R_drew)); exact Kd.R_mono HO_8.out (fun _ hk => ⟨trivial, hk⟩)) hg (.inl rfl)); have n1_ := Aside0.mk (hp_); have n2_ := Aside0.mk (Kd.R_over' (v := (.slice (some ⟨go102, 0, none⟩) x9_3.length co102)) (bR HO412.out) (Kd.R_typed HO_9.out) (by decide) hg); have n3_ := Aside0.mk ((by rw [hw]; exact below_set (HB.out) GB102.out : Below w.heap.size w w109)); replace HO_8 := n0_; replace HO_9 := n1_; replace HO412 := n2_; replace HB := n3_; clear n0_ n1_ n2_ n3_; clear hg hw hp_)) | clear go_); go_wp2_with (first | ((with_reducible refine gate_builtin (b := .append) (xs := #[.tmp 160, .tmp 166]) rfl ?_); at_builtin; refine Kd.R_append k92 (w0 := w) w.heap.size rfl (.tmp 160) (.tmp 166) 89 92 (.agg #[(.int .i64 0), (.int .i64 0), (.int .i64 0)]) 24 rfl Try.underlying89 info92 rfl (by decide) (by omega) (.slice (some ad397) x16_3.length co103) x16_3 (⟨x17_4, x11_3, wrap64 (x11_3 + 1)⟩ : S92) [.int .i64 x17_4, .int .i64 x11_3, .int .i64 (wrap64 (x11_3 + 1))] (fun _ => True) (fun _ => False) rfl rfl ?aP (fun _ hk => hk.elim) ?aF ?aO ?aB ?aS ?aL ?_; (case aP => exact k92_mkM _ _ _ (⟨x17_4, x11_3, wrap64 (x11_3 + 1)⟩ : S92)); (case aB => exact (bw HB.out)); (case aF => exact (fun _ _ => trivial)); (case aO => exact (bR HO_16.out)); (case aS => exact (below_size (bw HB.out))); (case aL => have := LMc97.out; omega); intro v411 w104 ho hb hg hat; rw [← Ny410.out] at ho; have n0_ := Aside0.mk (Kd.R_over' (bR HO_8.out) (Kd.R_typed (bR HO_16.out)) (by decide) hg); have n1_ := Aside0.mk (Kd.R_over' (bR HO_9.out) (Kd.R_typed (bR HO_16.out)) (by decide) hg); have n2_ := Aside0.mk (hb); have n3_ := Aside0.mk (ho); clear HO_16; replace HO_8 := n0_; replace HO_9 := n1_; replace HB := n2_; have HO412 := n3_; clear n0_ n1_ n2_ n3_; clear ho hb hg hat; obtain ⟨Ao105, co105, eo105⟩ := Kd.R_slice HO_8.out; subst eo105; have p413 : 0 ≤ (x17_4 : Int) := of_decide_eq_true (by first | (with_reducible assumption) | assumption); have q413 : x17_4 < (x8_3.length : Int) := of_decide_eq_true (by first | (with_reducible assumption) | assumption); obtain ⟨ad413, e413, hx413_0⟩ := Kd.at_int (Kd.R_reads' HO_8.out).2.2 x17_4 p413 q413; cases e413; replace p413 := eq_true p413; replace q413 := eq_true q413; have p100 : 0 ≤ (x17_4 : Int) := of_decide_eq_true (by first | (with_reducible assumption) | assumption); have q100 : (x17_4 : Int) < ((x8_3.length : Int) : Int) := of_decide_eq_true (by first | (with_reducible assumption) | assumption); obtain ⟨go100, co100, eo100, gb100, gl100, cl100, HG100⟩ := Kd.R_form HO_8.out (by omega); (first | cases eo100 | (injection eo100 with ea_ en_ ec_; (first | subst ea_ | (injection ea_ with ea_; subst ea_)); subst ec_; clear en_)); have GB100 := Aside0.mk gb100; have GG100 := Aside0.mk HG100; clear gb100 gl100 HG100; (first | simp only [add_plain] at hx413_0 | skip); obtain ⟨hx100_0, hf100_0⟩ := Kd.R_celln 0 HO_8.out (x17_4 : Int) p100 q100; replace p100 := eq_true p100; replace q100 := eq_true q100; obtain ⟨hy106_, hz106_⟩ := Kd.R_celln 0 HO_8.out (x17_4 : Int) (of_decide_eq_true (by first | (with_reducible assumption) | assumption)) (of_decide_eq_true (by first | (with_reducible assumption) | assumption)); have HP106 := Kd.R_putg HO_8.out (x17_4 : Int) (wrap64 ((rd x8_3 x17_4) - 1))) | ((with_reducible refine gate_store (t := 3) (p := 173) rfl ?_); (try (rw [drewN_self w104]; generalize hq_ : World.drewN w104 _ = w104; have n0_ := Aside0.mk (Kd.R_at hq_ HO_8.out); have n1_ := Aside0.mk (Kd.R_at hq_ HO_9.out); have n2_ := Aside0.mk (Kd.R_at hq_ HO412.out); have n3_ := Aside0.mk (below_at hq_ HB.out); (try replace hx73_0 := cell_at hq_ hx73_0); (try replace hf73_0 := frz_at hq_ hf73_0); (try replace hx401_0 := cell_at hq_ hx401_0); (try replace hx397_0 := cell_at hq_ hx397_0); (try replace hx397_1 := cell_at hq_ hx397_1); (try replace hx397_2 := cell_at hq_ hx397_2); (try replace hx398_0 := cell_at hq_ hx398_0); (try replace hx398_1 := cell_at hq_ hx398_1); (try replace hx398_2 := cell_at hq_ hx398_2); (try replace hx87_0 := cell_at hq_ hx87_0); (try replace hf87_0 := frz_at hq_ hf87_0); (try replace hx407_0 := cell_at hq_ hx407_0); (try replace hx100_0 := cell_at hq_ hx100_0); (try replace hf100_0 := frz_at hq_ hf100_0); (try replace hx413_0 := cell_at hq_ hx413_0); clear hq_ HO_8 HO_9 HO412 HB; have HO_8 := n0_; have HO_9 := n1_; have HO412 := n2_; have HB := n3_; clear n0_ n1_ n2_ n3_; (try (obtain ⟨hy106_, hz106_⟩ := Kd.R_celln 0 HO_8.out (x17_4 : Int) (of_decide_eq_true (by first | (with_reducible assumption) | assumption)) (of_decide_eq_true (by first | (with_reducible assumption) | assumption)))); (try (have HP106 := Kd.R_putg HO_8.out (x17_4 : Int) (wrap64 ((rd x8_3 x17_4) - 1)))))); refine store_event (t := 3) (p := 173) (v := ?vo_w107) (w1 := (w104.setCell ⟨go100, (x17_4 : Int).toNat, none⟩ (.int .i64 (wrap64 ((rd x8_3 x17_4) - 1))))) ?hg ?ho ?hn ?hr ?_; (case ho => rfl); (case hg => rfl); (case hn => rfl); (case hr => first | (go_simp; done) | (go_simp; rfl)); intro w107 hw; have hg : w104.grownBy w107 (some go100) := (by rw [hw]; exact HP106.2); have hp_ : Kd.R (Kd.int .i64) 3 w107 w.heap.size (fun k_ => some k_ ≠ (v381 : Value).ownBlock) (.slice (some ⟨go100, 0, none⟩) x8_3.length co105) y414 := (by rw [hw, Ny414.out]; exact HP106.1); clear HP106; have n0_ := Aside0.mk (hp_); have n1_ := Aside0.mk (Kd.R_after (v := (.slice (some ⟨go100, 0, none⟩) x8_3.length co105)) (v1 := (.slice (some ⟨go100, 0, none⟩) x8_3.length co105)) (ok := (fun _ => True)) (by (with_reducible repeat (first | apply Kd.R_alloc | apply Kd.R_drewN | apply Kd.R_drew)); exact Kd.R_mono HO_9.out (fun _ hk => ⟨trivial, hk⟩)) hg (.inl rfl)); have n2_ := Aside0.mk (Kd.R_over' (v := (.slice (some ⟨go100, 0, none⟩) x8_3.length co105)) (bR HO412.out) (Kd.R_typed HO_8.out) (by decide) hg); have n3_ := Aside0.mk ((by rw [hw]; exact below_set (HB.out) GB100.out : Below w.heap.size w w107)); replace HO_8 := n0_; replace HO_9 := n1_; replace HO412 := n2_; replace HB := n3_; clear n0_ n1_ n2_ n3_; clear hg hw hp_; have p102 : 0 ≤ (x17_4 : Int) := of_decide_eq_true (by first | (with_reducible assumption) | assumption); have q102 : (x17_4 : Int) < ((x9_3.length : Int) : Int) := of_decide_eq_true (by first | (with_reducible assumption) | assumption); obtain ⟨go102, co102, eo102, gb102, gl102, cl102, HG102⟩ := Kd.R_form HO_9.out (by omega); (first | cases eo102 | (injection eo102 with ea_ en_ ec_; (first | subst ea_ | (injection ea_ with ea_; subst ea_)); subst ec_; clear en_)); have GB102 := Aside0.mk gb102; have GG102 := Aside0.mk HG102; clear gb102 gl102 HG102; obtain ⟨hx102_0, hf102_0⟩ := Kd.R_celln 0 HO_9.out (x17_4 : Int) p102 q102; replace p102 := eq_true p102; replace q102 := eq_true q102; have n_ := Aside0.mk (Kd.R_mono (ok' := (fun k_ => some k_ ≠ (.slice (some ⟨go100, 0, none⟩) x8_3.length co105 : Value).ownBlock)) HO_9.out (fun k_ hk => hk.2)); clear HO_9; have HO_9 := n_; clear n_; obtain ⟨hy108_, hz108_⟩ := Kd.R_celln 0 HO_9.out (x17_4 : Int) (of_decide_eq_true (by first | (with_reducible assumption) | assumption)) (of_decide_eq_true (by first | (with_reducible assumption) | assumption)); have HP108 := Kd.R_putg HO_9.out (x17_4 : Int) (wrap64 (x11_3 + 1))) | ((with_reducible refine gate_store (t := 3) (p := 180) rfl ?_); (try (rw [drewN_self w107]; generalize hq_ : World.drewN w107 _ = w107; have n0_ := Aside0.mk (Kd.R_at hq_ HO_8.out); have n1_ := Aside0.mk (Kd.R_at hq_ HO_9.out); have n2_ := Aside0.mk (Kd.R_at hq_ HO412.out); have n3_ := Aside0.mk (below_at hq_ HB.out); (try replace hx73_0 := cell_at hq_ hx73_0); (try replace hf73_0 := frz_at hq_ hf73_0); (try replace hx401_0 := cell_at hq_ hx401_0); (try replace hx397_0 := cell_at hq_ hx397_0); (try replace hx397_1 := cell_at hq_ hx397_1); (try replace hx397_2 := cell_at hq_ hx397_2); (try replace hx398_0 := cell_at hq_ hx398_0); (try replace hx398_1 := cell_at hq_ hx398_1); (try replace hx398_2 := cell_at hq_ hx398_2); (try replace hx87_0 := cell_at hq_ hx87_0); (try replace hf87_0 := frz_at hq_ hf87_0); (try replace hx407_0 := cell_at hq_ hx407_0); (try replace hx100_0 := cell_at hq_ hx100_0); (try replace hf100_0 := frz_at hq_ hf100_0); (try replace hx413_0 := cell_at hq_ hx413_0); clear hq_ HO_8 HO_9 HO412 HB; have HO_8 := n0_; have HO_9 := n1_; have HO412 := n2_; have HB := n3_; clear n0_ n1_ n2_ n3_; (try (have n_ := Aside0.mk (Kd.R_mono (ok' := (fun k_ => some k_ ≠ (.slice (some ⟨go100, 0, none⟩) x8_3.length co105 : Value).ownBlock)) HO_9.out (fun k_ hk => hk.2)); clear HO_9; have HO_9 := n_; clear n_)); (try (obtain ⟨hy108_, hz108_⟩ := Kd.R_celln 0 HO_9.out (x17_4 : Int) (of_decide_eq_true (by first | (with_reducible assumption) | assumption)) (of_decide_eq_true (by first | (with_reducible assumption) | assumption)))); (try (have HP108 := Kd.R_putg HO_9.out (x17_4 : Int) (wrap64 (x11_3 + 1)))))); refine store_event (t := 3) (p := 180) (v := ?vo_w109) (w1 := (w107.setCell ⟨go102, (x17_4 : Int).toNat, none⟩ (.int .i64 (wrap64 (x11_3 + 1))))) ?hg ?ho ?hn ?hr ?_; (case ho => rfl); (case hg => rfl); (case hn => rfl); (case hr => first | (go_simp; done) | (go_simp; rfl)); intro w109 hw; have hg : w107.grownBy w109 (some go102) := (by rw [hw]; exact HP108.2); have hp_ : Kd.R (Kd.int .i64) 3 w109 w.heap.size (fun k_ => some k_ ≠ (.slice (some ⟨go100, 0, none⟩) x8_3.length co105 : Value).ownBlock) (.slice (some ⟨go102, 0, none⟩) x9_3.length co102) y415 := (by rw [hw, Ny415.out]; exact HP108.1); clear HP108; have n0_ := Aside0.mk (Kd.R_after (v := (.slice (some ⟨go102, 0, none⟩) x9_3.length co102)) (v1 := (.slice (some ⟨go102, 0, none⟩) x9_3.length co102)) (ok := (fun _ => True)) (by (with_reducible repeat (first | apply Kd.R_alloc | apply Kd.R_drewN | apply Kd.R_drew)); exact Kd.R_mono HO_8.out (fun _ hk => ⟨trivial, hk⟩)) hg (.inl rfl)); have n1_ := Aside0.mk (hp_); have n2_ := Aside0.mk (Kd.R_over' (v := (.slice (some ⟨go102, 0, none⟩) x9_3.length co102)) (bR HO412.out) (Kd.R_typed HO_9.out) (by decide) hg); have n3_ := Aside0.mk ((by rw [hw]; exact below_set (HB.out) GB102.out : Below w.heap.size w w109)); replace HO_8 := n0_; replace HO_9 := n1_; replace HO412 := n2_; replace HB := n3_; clear n0_ n1_ n2_ n3_; clear hg hw hp_)))
          go_roundg k4
          case measure => have := HK1.out; have := HK2.out; have := HK3.out; have := HK4.out; omega
          case rel => exact ⟨(y414), (y415), (wrap64 (x10_3 - 1)), (wrap64 (x11_3 + 1)), (y410), (by first | rfl | (simp; done) | (simp [*]; done)), (by first | rfl | (simp; done) | (simp [*]; done)), H', ⟨by have := HK1.out; have := HK2.out; have := HK3.out; have := HK4.out; omega⟩, ⟨by (with_reducible repeat (first | apply Kd.R_alloc | apply Kd.R_drewN | apply Kd.R_drew)); exact Kd.R_mono HO_8.out (fun _ hk => hk.2)⟩, ⟨bR HO_9.out⟩, ⟨bR HO412.out⟩, ⟨bw HB.out⟩⟩
         rw [if_pos c68] at H
         have c68b0 : (((rd_T92 x16_3 (ji65)).f0) == x17_4) = true := beq_iff_eq.mpr c68
         have c68b1 : (((rd_T92 x16_3 (ji65)).f0) != x17_4) = false := bne_eq_false_iff_eq.mpr c68
         clear c68
         by_cases c69 : ((rd_T92 x16_3 (ji65)).f2) = x11_3
         rotate_left
         ·rw [if_neg c69] at H
          have c69b0 : (((rd_T92 x16_3 (ji65)).f2) == x11_3) = false := beq_eq_false_iff_ne.mpr c69
          have c69b1 : (((rd_T92 x16_3 (ji65)).f2) != x11_3) = true := bne_iff_ne.mpr c69
          by_cases c84 : x16_3.length < 5864062014805
          rotate_left
          ·rw [if_neg c84] at H
           exact absurd H (by simp)
          rw [if_pos c84] at H
          have LMc84 := Aside0.mk c84
          clear c84
          obtain ⟨y404, hy404⟩ : ∃ y_ : List (S92), y_ = (x16_3 ++ [(⟨x17_4, x11_3, wrap64 (x11_3 + 1)⟩ : S92)]) := ⟨_, rfl⟩
          replace H : (if 0 ≤ x17_4 then (if x17_4 < (x8_3.length : Int) then (if x17_4 < (x9_3.length : Int) then (impl_choose.l2 k4 l0 a2 (x8_3.set (x17_4 : Int).toNat (wrap64 ((rd x8_3 x17_4) - 1))) (x9_3.set (x17_4 : Int).toNat (wrap64 (x11_3 + 1))) (wrap64 (x10_3 - 1)) (wrap64 (x11_3 + 1)) y404) else (none)) else (none)) else (none)) = some (r1, r2) := by first | (rw [hy404]; with_reducible exact H) | (have H2_ := (Option.bind_some _ _).symm.trans H; rw [hy404]; with_reducible exact H2_) | (have H2_ := (Option.bind_some _ _).symm.trans H; with_reducible exact H2_) | with_reducible exact H | (rw [hy404]; exact H) | exact H
          have Ny404 := Aside0.mk hy404
          clear hy404
          by_cases c85 : 0 ≤ x17_4
          rotate_left
          ·rw [if_neg c85] at H
           exact absurd H (by simp)
          rw [if_pos c85] at H
          have c85b0 : decide (0 ≤ x17_4) = true := decide_eq_true c85
          clear c85
          by_cases c86 : x17_4 < (x8_3.length : Int)
          rotate_left
          ·rw [if_neg c86] at H
           exact absurd H (by simp)
          rw [if_pos c86] at H
          have c86b0 : decide (x17_4 < (x8_3.length : Int)) = true := decide_eq_true c86
          clear c86
          obtain ⟨y408, hy408⟩ : ∃ y_ : List Int, y_ = (x8_3.set (x17_4 : Int).toNat (wrap64 ((rd x8_3 x17_4) - 1))) := ⟨_, rfl⟩
          replace H : (if x17_4 < (x9_3.length : Int) then (impl_choose.l2 k4 l0 a2 y408 (x9_3.set (x17_4 : Int).toNat (wrap64 (x11_3 + 1))) (wrap64 (x10_3 - 1)) (wrap64 (x11_3 + 1)) y404) else (none)) = some (r1, r2) := by first | (rw [hy408]; with_reducible exact H) | (have H2_ := (Option.bind_some _ _).symm.trans H; rw [hy408]; with_reducible exact H2_) | (have H2_ := (Option.bind_some _ _).symm.trans H; with_reducible exact H2_) | with_reducible exact H | (rw [hy408]; exact H) | exact H
          have Ny408 := Aside0.mk hy408
          clear hy408
          by_cases c88 : x17_4 < (x9_3.length : Int)
          rotate_left
          ·rw [if_neg c88] at H
           exact absurd H (by simp)
          rw [if_pos c88] at H
          have c88b0 : decide (x17_4 < (x9_3.length : Int)) = true := decide_eq_true c88
          clear c88
          obtain ⟨y409, hy409⟩ : ∃ y_ : List Int, y_ = (x9_3.set (x17_4 : Int).toNat (wrap64 (x11_3 + 1))) := ⟨_, rfl⟩
          replace H : (impl_choose.l2 k4 l0 a2 y408 y409 (wrap64 (x10_3 - 1)) (wrap64 (x11_3 + 1)) y404) = some (r1, r2) := by first | (rw [hy409]; with_reducible exact H) | (have H2_ := (Option.bind_some _ _).symm.trans H; rw [hy409]; with_reducible exact H2_) | (have H2_ := (Option.bind_some _ _).symm.trans H; with_reducible exact H2_) | with_reducible exact H | (rw [hy409]; exact H) | exact H
          have Ny409 := Aside0.mk hy409
          clear hy409
          have H' := Aside0.mk H
          clear H
          obtain ⟨Ao90, co90, eo90⟩ := Kd.R_slice HO_16.out
          subst eo90
          have p397 : 0 ≤ ((ji65) : Int) := of_decide_eq_true (by first | (with_reducible assumption) | assumption)
          have q397 : (ji65) < (x16_3.length : Int) := of_decide_eq_true (by first | (with_reducible assumption) | assumption)
          obtain ⟨ad397, e397, hx397_0, hx397_1, hx397_2⟩ := at_T92 (Kd.R_reads' HO_16.out).2.2 (ji65) p397 q397
          cases e397
          replace p397 := eq_true p397
          replace q397 := eq_true q397
          have p398 : 0 ≤ ((ji65) : Int) := of_decide_eq_true (by first | (with_reducible assumption) | assumption)
          have q398 : (ji65) < (x16_3.length : Int) := of_decide_eq_true (by first | (with_reducible assumption) | assumption)
          obtain ⟨ad398, e398, hx398_0, hx398_1, hx398_2⟩ := at_T92 (Kd.R_reads' HO_16.out).2.2 (ji65) p398 q398
          obtain rfl : ad397 = ad398 := (by injection e398)
          replace p398 := eq_true p398
          replace q398 := eq_true q398
          have go_ := True.intro
          repeat ((first | go_quiet (first | ((with_reducible refine gate_builtin (b := .append) (xs := #[.tmp 160, .tmp 166]) rfl ?_); at_builtin; refine Kd.R_append k92 (w0 := w) w.heap.size rfl (.tmp 160) (.tmp 166) 89 92 (.agg #[(.int .i64 0), (.int .i64 0), (.int .i64 0)]) 24 rfl Try.underlying89 info92 rfl (by decide) (by omega) (.slice (some ad397) x16_3.length co90) x16_3 (⟨x17_4, x11_3, wrap64 (x11_3 + 1)⟩ : S92) [.int .i64 x17_4, .int .i64 x11_3, .int .i64 (wrap64 (x11_3 + 1))] (fun _ => True) (fun _ => False) rfl rfl ?aP (fun _ hk => hk.elim) ?aF ?aO ?aB ?aS ?aL ?_; (case aP => exact k92_mkM _ _ _ (⟨x17_4, x11_3, wrap64 (x11_3 + 1)⟩ : S92)); (case aB => exact (bw HB.out)); (case aF => exact (fun _ _ => trivial)); (case aO => exact (bR HO_16.out)); (case aS => exact (below_size (bw HB.out))); (case aL => have := LMc84.out; omega); intro v405 w91 ho hb hg hat; rw [← Ny404.out] at ho; have n0_ := Aside0.mk (Kd.R_over' (bR HO_8.out) (Kd.R_typed (bR HO_16.out)) (by decide) hg); have n1_ := Aside0.mk (Kd.R_over' (bR HO_9.out) (Kd.R_typed (bR HO_16.out)) (by decide) hg); have n2_ := Aside0.mk (hb); have n3_ := Aside0.mk (ho); clear HO_16; replace HO_8 := n0_; replace HO_9 := n1_; replace HB := n2_; have HO406 := n3_; clear n0_ n1_ n2_ n3_; clear ho hb hg hat; obtain ⟨Ao92, co92, eo92⟩ := Kd.R_slice HO_8.out; subst eo92; have p407 : 0 ≤ (x17_4 : Int) := of_decide_eq_true (by first | (with_reducible assumption) | assumption); have q407 : x17_4 < (x8_3.length : Int) := of_decide_eq_true (by first | (with_reducible assumption) | assumption); obtain ⟨ad407, e407, hx407_0⟩ := Kd.at_int (Kd.R_reads' HO_8.out).2.2 x17_4 p407 q407; cases e407; replace p407 := eq_true p407; replace q407 := eq_true q407; have p87 : 0 ≤ (x17_4 : Int) := of_decide_eq_true (by first | (with_reducible assumption) | assumption); have q87 : (x17_4 : Int) < ((x8_3.length : Int) : Int) := of_decide_eq_true (by first | (with_reducible assumption) | assumption); obtain ⟨go87, co87, eo87, gb87, gl87, cl87, HG87⟩ := Kd.R_form HO_8.out (by omega); (first | cases eo87 | (injection eo87 with ea_ en_ ec_; (first | subst ea_ | (injection ea_ with ea_; subst ea_)); subst ec_; clear en_)); have GB87 := Aside0.mk gb87; have GG87 := Aside0.mk HG87; clear gb87 gl87 HG87; (first | simp only [add_plain] at hx407_0 | skip); obtain ⟨hx87_0, hf87_0⟩ := Kd.R_celln 0 HO_8.out (x17_4 : Int) p87 q87; replace p87 := eq_true p87; replace q87 := eq_true q87; obtain ⟨hy93_, hz93_⟩ := Kd.R_celln 0 HO_8.out (x17_4 : Int) (of_decide_eq_true (by first | (with_reducible assumption) | assumption)) (of_decide_eq_true (by first | (with_reducible assumption) | assumption)); have HP93 := Kd.R_putg HO_8.out (x17_4 : Int) (wrap64 ((rd x8_3 x17_4) - 1))) | ((with_reducible refine gate_store (t := 3) (p := 173) rfl ?_); (try (rw [drewN_self w91]; generalize hq_ : World.drewN w91 _ = w91; have n0_ := Aside0.mk (Kd.R_at hq_ HO_8.out); have n1_ := Aside0.mk (Kd.R_at hq_ HO_9.out); have n2_ := Aside0.mk (Kd.R_at hq_ HO406.out); have n3_ := Aside0.mk (below_at hq_ HB.out); (try replace hx397_0 := cell_at hq_ hx397_0); (try replace hx397_1 := cell_at hq_ hx397_1); (try replace hx397_2 := cell_at hq_ hx397_2); (try replace hx398_0 := cell_at hq_ hx398_0); (try replace hx398_1 := cell_at hq_ hx398_1); (try replace hx398_2 := cell_at hq_ hx398_2); (try replace hx399_0 := cell_at hq_ hx399_0); (try replace hx399_1 := cell_at hq_ hx399_1); (try replace hx399_2 := cell_at hq_ hx399_2); (try replace hx73_0 := cell_at hq_ hx73_0); (try replace hf73_0 := frz_at hq_ hf73_0); (try replace hx401_0 := cell_at hq_ hx401_0); (try replace hx87_0 := cell_at hq_ hx87_0); (try replace hf87_0 := frz_at hq_ hf87_0); (try replace hx407_0 := cell_at hq_ hx407_0); clear hq_ HO_8 HO_9 HO406 HB; have HO_8 := n0_; have HO_9 := n1_; have HO406 := n2_; have HB := n3_; clear n0_ n1_ n2_ n3_; (try (obtain ⟨hy93_, hz93_⟩ := Kd.R_celln 0 HO_8.out (x17_4 : Int) (of_decide_eq_true (by first | (with_reducible assumption) | assumption)) (of_decide_eq_true (by first | (with_reducible assumption) | assumption)))); (try (have HP93 := Kd.R_putg HO_8.out (x17_4 : Int) (wrap64 ((rd x8_3 x17_4) - 1)))))); refine store_event (t := 3) (p := 173) (v := ?vo_w94) (w1 := (w91.setCell ⟨go87, (x17_4 : Int).toNat, none⟩ (.int .i64 (wrap64 ((rd x8_3 x17_4) - 1))))) ?hg ?ho ?hn ?hr ?_; (case ho => rfl); (case hg => rfl); (case hn => rfl); (case hr => first | (go_simp; done) | (go_simp; rfl)); intro w94 hw; have hg : w91.grownBy w94 (some go87) := (by rw [hw]; exact HP93.2); have hp_ : Kd.R (Kd.int .i64) 3 w94 w.heap.size (fun k_ => some k_ ≠ (v381 : Value).ownBlock) (.slice (some ⟨go87, 0, none⟩) x8_3.length co92) y408 := (by rw [hw, Ny408.out]; exact HP93.1); clear HP93; have n0_ := Aside0.mk (hp_); have n1_ := Aside0.mk (Kd.R_after (v := (.slice (some ⟨go87, 0, none⟩) x8_3.length co92)) (v1 := (.slice (some ⟨go87, 0, none⟩) x8_3.length co92)) (ok := (fun _ => True)) (by (with_reducible repeat (first | apply Kd.R_alloc | apply Kd.R_drewN | apply Kd.R_drew)); exact Kd.R_mono HO_9.out (fun _ hk => ⟨trivial, hk⟩)) hg (.inl rfl)); have n2_ := Aside0.mk (Kd.R_over' (v := (.slice (some ⟨go87, 0, none⟩) x8_3.length co92)) (bR HO406.out) (Kd.R_typed HO_8.out) (by decide) hg); have n3_ := Aside0.mk ((by rw [hw]; exact below_set (HB.out) GB87.out : Below w.heap.size w w94)); replace HO_8 := n0_; replace HO_9 := n1_; replace HO406 := n2_; replace HB := n3_; clear n0_ n1_ n2_ n3_; clear hg hw hp_; have p89 : 0 ≤ (x17_4 : Int) := of_decide_eq_true (by first | (with_reducible assumption) | assumption); have q89 : (x17_4 : Int) < ((x9_3.length : Int) : Int) := of_decide_eq_true (by first | (with_reducible assumption) | assumption); obtain ⟨go89, co89, eo89, gb89, gl89, cl89, HG89⟩ := Kd.R_form HO_9.out (by omega); (first | cases eo89 | (injection eo89 with ea_ en_ ec_; (first | subst ea_ | (injection ea_ with ea_; subst ea_)); subst ec_; clear en_)); have GB89 := Aside0.mk gb89; have GG89 := Aside0.mk HG89; clear gb89 gl89 HG89; obtain ⟨hx89_0, hf89_0⟩ := Kd.R_celln 0 HO_9.out (x17_4 : Int) p89 q89; replace p89 := eq_true p89; replace q89 := eq_true q89; have n_ := Aside0.mk (Kd.R_mono (ok' := (fun k_ => some k_ ≠ (.slice (some ⟨go87, 0, none⟩) x8_3.length co92 : Value).ownBlock)) HO_9.out (fun k_ hk => hk.2)); clear HO_9; have HO_9 := n_; clear n_; obtain ⟨hy95_, hz95_⟩ := Kd.R_celln 0 HO_9.out (x17_4 : Int) (of_decide_eq_true (by first | (with_reducible assumption) | assumption)) (of_decide_eq_true (by first | (with_reducible assumption) | assumption)); have HP95 := Kd.R_putg HO_9.out (x17_4 : Int) (wrap64 (x11_3 + 1))) | ((with_reducible refine gate_store (t := 3) (p := 180) rfl ?_); (try (rw [drewN_self w94]; generalize hq_ : World.drewN w94 _ = w94; have n0_ := Aside0.mk (Kd.R_at hq_ HO_8.out); have n1_ := Aside0.mk (Kd.R_at hq_ HO_9.out); have n2_ := Aside0.mk (Kd.R_at hq_ HO406.out); have n3_ := Aside0.mk (below_at hq_ HB.out); (try replace hx397_0 := cell_at hq_ hx397_0); (try replace hx397_1 := cell_at hq_ hx397_1); (try replace hx397_2 := cell_at hq_ hx397_2); (try replace hx398_0 := cell_at hq_ hx398_0); (try replace hx398_1 := cell_at hq_ hx398_1); (try replace hx398_2 := cell_at hq_ hx398_2); (try replace hx399_0 := cell_at hq_ hx399_0); (try replace hx399_1 := cell_at hq_ hx399_1); (try replace hx399_2 := cell_at hq_ hx399_2); (try replace hx73_0 := cell_at hq_ hx73_0); (try replace hf73_0 := frz_at hq_ hf73_0); (try replace hx401_0 := cell_at hq_ hx401_0); (try replace hx87_0 := cell_at hq_ hx87_0); (try replace hf87_0 := frz_at hq_ hf87_0); (try replace hx407_0 := cell_at hq_ hx407_0); clear hq_ HO_8 HO_9 HO406 HB; have HO_8 := n0_; have HO_9 := n1_; have HO406 := n2_; have HB := n3_; clear n0_ n1_ n2_ n3_; (try (have n_ := Aside0.mk (Kd.R_mono (ok' := (fun k_ => some k_ ≠ (.slice (some ⟨go87, 0, none⟩) x8_3.length co92 : Value).ownBlock)) HO_9.out (fun k_ hk => hk.2)); clear HO_9; have HO_9 := n_; clear n_)); (try (obtain ⟨hy95_, hz95_⟩ := Kd.R_celln 0 HO_9.out (x17_4 : Int) (of_decide_eq_true (by first | (with_reducible assumption) | assumption)) (of_decide_eq_true (by first | (with_reducible assumption) | assumption)))); (try (have HP95 := Kd.R_putg HO_9.out (x17_4 : Int) (wrap64 (x11_3 + 1)))))); refine store_event (t := 3) (p := 180) (v := ?vo_w96) (w1 := (w94.setCell ⟨go89, (x17_4 : Int).toNat, none⟩ (.int .i64 (wrap64 (x11_3 + 1))))) ?hg ?ho ?hn ?hr ?_; (case ho => rfl); (case hg => rfl); (case hn => rfl); (case hr => first | (go_simp; done) | (go_simp; rfl)); intro w96 hw; have hg : w94.grownBy w96 (some go89) := (by rw [hw]; exact HP95.2); have hp_ : Kd.R (Kd.int .i64) 3 w96 w.heap.size (fun k_ => some k_ ≠ (.slice (some ⟨go87, 0, none⟩) x8_3.length co92 : Value).ownBlock) (.slice (some ⟨go89, 0, none⟩) x9_3.length co89) y409 := (by rw [hw, Ny409.out]; exact HP95.1); clear HP95; have n0_ := Aside0.mk (Kd.R_after (v := (.slice (some ⟨go89, 0, none⟩) x9_3.length co89)) (v1 := (.slice (some ⟨go89, 0, none⟩) x9_3.length co89)) (ok := (fun _ => True)) (by (with_reducible repeat (first | apply Kd.R_alloc | apply Kd.R_drewN | apply Kd.R_drew)); exact Kd.R_mono HO_8.out (fun _ hk => ⟨trivial, hk⟩)) hg (.inl rfl)); have n1_ := Aside0.mk (hp_); have n2_ := Aside0.mk (Kd.R_over' (v := (.slice (some ⟨go89, 0, none⟩) x9_3.length co89)) (bR HO406.out) (Kd.R_typed HO_9.out) (by decide) hg); have n3_ := Aside0.mk ((by rw [hw]; exact below_set (HB.out) GB89.out : Below w.heap.size w w96)); replace HO_8 := n0_; replace HO_9 := n1_; replace HO406 := n2_; replace HB := n3_; clear n0_ n1_ n2_ n3_; clear hg hw hp_)) | clear go_); go_wp2_with (first | ((with_reducible refine gate_builtin (b := .append) (xs := #[.tmp 160, .tmp 166]) rfl ?_); at_builtin; refine Kd.R_append k92 (w0 := w) w.heap.size rfl (.tmp 160) (.tmp 166) 89 92 (.agg #[(.int .i64 0), (.int .i64 0), (.int .i64 0)]) 24 rfl Try.underlying89 info92 rfl (by decide) (by omega) (.slice (some ad397) x16_3.length co90) x16_3 (⟨x17_4, x11_3, wrap64 (x11_3 + 1)⟩ : S92) [.int .i64 x17_4, .int .i64 x11_3, .int .i64 (wrap64 (x11_3 + 1))] (fun _ => True) (fun _ => False) rfl rfl ?aP (fun _ hk => hk.elim) ?aF ?aO ?aB ?aS ?aL ?_; (case aP => exact k92_mkM _ _ _ (⟨x17_4, x11_3, wrap64 (x11_3 + 1)⟩ : S92)); (case aB => exact (bw HB.out)); (case aF => exact (fun _ _ => trivial)); (case aO => exact (bR HO_16.out)); (case aS => exact (below_size (bw HB.out))); (case aL => have := LMc84.out; omega); intro v405 w91 ho hb hg hat; rw [← Ny404.out] at ho; have n0_ := Aside0.mk (Kd.R_over' (bR HO_8.out) (Kd.R_typed (bR HO_16.out)) (by decide) hg); have n1_ := Aside0.mk (Kd.R_over' (bR HO_9.out) (Kd.R_typed (bR HO_16.out)) (by decide) hg); have n2_ := Aside0.mk (hb); have n3_ := Aside0.mk (ho); clear HO_16; replace HO_8 := n0_; replace HO_9 := n1_; replace HB := n2_; have HO406 := n3_; clear n0_ n1_ n2_ n3_; clear ho hb hg hat; obtain ⟨Ao92, co92, eo92⟩ := Kd.R_slice HO_8.out; subst eo92; have p407 : 0 ≤ (x17_4 : Int) := of_decide_eq_true (by first | (with_reducible assumption) | assumption); have q407 : x17_4 < (x8_3.length : Int) := of_decide_eq_true (by first | (with_reducible assumption) | assumption); obtain ⟨ad407, e407, hx407_0⟩ := Kd.at_int (Kd.R_reads' HO_8.out).2.2 x17_4 p407 q407; cases e407; replace p407 := eq_true p407; replace q407 := eq_true q407; have p87 : 0 ≤ (x17_4 : Int) := of_decide_eq_true (by first | (with_reducible assumption) | assumption); have q87 : (x17_4 : Int) < ((x8_3.length : Int) : Int) := of_decide_eq_true (by first | (with_reducible assumption) | assumption); obtain ⟨go87, co87, eo87, gb87, gl87, cl87, HG87⟩ := Kd.R_form HO_8.out (by omega); (first | cases eo87 | (injection eo87 with ea_ en_ ec_; (first | subst ea_ | (injection ea_ with ea_; subst ea_)); subst ec_; clear en_)); have GB87 := Aside0.mk gb87; have GG87 := Aside0.mk HG87; clear gb87 gl87 HG87; (first | simp only [add_plain] at hx407_0 | skip); obtain ⟨hx87_0, hf87_0⟩ := Kd.R_celln 0 HO_8.out (x17_4 : Int) p87 q87; replace p87 := eq_true p87; replace q87 := eq_true q87; obtain ⟨hy93_, hz93_⟩ := Kd.R_celln 0 HO_8.out (x17_4 : Int) (of_decide_eq_true (by first | (with_reducible assumption) | assumption)) (of_decide_eq_true (by first | (with_reducible assumption) | assumption)); have HP93 := Kd.R_putg HO_8.out (x17_4 : Int) (wrap64 ((rd x8_3 x17_4) - 1))) | ((with_reducible refine gate_store (t := 3) (p := 173) rfl ?_); (try (rw [drewN_self w91]; generalize hq_ : World.drewN w91 _ = w91; have n0_ := Aside0.mk (Kd.R_at hq_ HO_8.out); have n1_ := Aside0.mk (Kd.R_at hq_ HO_9.out); have n2_ := Aside0.mk (Kd.R_at hq_ HO406.out); have n3_ := Aside0.mk (below_at hq_ HB.out); (try replace hx397_0 := cell_at hq_ hx397_0); (try replace hx397_1 := cell_at hq_ hx397_1); (try replace hx397_2 := cell_at hq_ hx397_2); (try replace hx398_0 := cell_at hq_ hx398_0); (try replace hx398_1 := cell_at hq_ hx398_1); (try replace hx398_2 := cell_at hq_ hx398_2); (try replace hx399_0 := cell_at hq_ hx399_0); (try replace hx399_1 := cell_at hq_ hx399_1); (try replace hx399_2 := cell_at hq_ hx399_2); (try replace hx73_0 := cell_at hq_ hx73_0); (try replace hf73_0 := frz_at hq_ hf73_0); (try replace hx401_0 := cell_at hq_ hx401_0); (try replace hx87_0 := cell_at hq_ hx87_0); (try replace hf87_0 := frz_at hq_ hf87_0); (try replace hx407_0 := cell_at hq_ hx407_0); clear hq_ HO_8 HO_9 HO406 HB; have HO_8 := n0_; have HO_9 := n1_; have HO406 := n2_; have HB := n3_; clear n0_ n1_ n2_ n3_; (try (obtain ⟨hy93_, hz93_⟩ := Kd.R_celln 0 HO_8.out (x17_4 : Int) (of_decide_eq_true (by first | (with_reducible assumption) | assumption)) (of_decide_eq_true (by first | (with_reducible assumption) | assumption)))); (try (have HP93 := Kd.R_putg HO_8.out (x17_4 : Int) (wrap64 ((rd x8_3 x17_4) - 1)))))); refine store_event (t := 3) (p := 173) (v := ?vo_w94) (w1 := (w91.setCell ⟨go87, (x17_4 : Int).toNat, none⟩ (.int .i64 (wrap64 ((rd x8_3 x17_4) - 1))))) ?hg ?ho ?hn ?hr ?_; (case ho => rfl); (case hg => rfl); (case hn => rfl); (case hr => first | (go_simp; done) | (go_simp; rfl)); intro w94 hw; have hg : w91.grownBy w94 (some go87) := (by rw [hw]; exact HP93.2); have hp_ : Kd.R (Kd.int .i64) 3 w94 w.heap.size (fun k_ => some k_ ≠ (v381 : Value).ownBlock) (.slice (some ⟨go87, 0, none⟩) x8_3.length co92) y408 := (by rw [hw, Ny408.out]; exact HP93.1); clear HP93; have n0_ := Aside0.mk (hp_); have n1_ := Aside0.mk (Kd.R_after (v := (.slice (some ⟨go87, 0, none⟩) x8_3.length co92)) (v1 := (.slice (some ⟨go87, 0, none⟩) x8_3.length co92)) (ok := (fun _ => True)) (by (with_reducible repeat (first | apply Kd.R_alloc | apply Kd.R_drewN | apply Kd.R_drew)); exact Kd.R_mono HO_9.out (fun _ hk => ⟨trivial, hk⟩)) hg (.inl rfl)); have n2_ := Aside0.mk (Kd.R_over' (v := (.slice (some ⟨go87, 0, none⟩) x8_3.length co92)) (bR HO406.out) (Kd.R_typed HO_8.out) (by decide) hg); have n3_ := Aside0.mk ((by rw [hw]; exact below_set (HB.out) GB87.out : Below w.heap.size w w94)); replace HO_8 := n0_; replace HO_9 := n1_; replace HO406 := n2_; replace HB := n3_; clear n0_ n1_ n2_ n3_; clear hg hw hp_; have p89 : 0 ≤ (x17_4 : Int) := of_decide_eq_true (by first | (with_reducible assumption) | assumption); have q89 : (x17_4 : Int) < ((x9_3.length : Int) : Int) := of_decide_eq_true (by first | (with_reducible assumption) | assumption); obtain ⟨go89, co89, eo89, gb89, gl89, cl89, HG89⟩ := Kd.R_form HO_9.out (by omega); (first | cases eo89 | (injection eo89 with ea_ en_ ec_; (first | subst ea_ | (injection ea_ with ea_; subst ea_)); subst ec_; clear en_)); have GB89 := Aside0.mk gb89; have GG89 := Aside0.mk HG89; clear gb89 gl89 HG89; obtain ⟨hx89_0, hf89_0⟩ := Kd.R_celln 0 HO_9.out (x17_4 : Int) p89 q89; replace p89 := eq_true p89; replace q89 := eq_true q89; have n_ := Aside0.mk (Kd.R_mono (ok' := (fun k_ => some k_ ≠ (.slice (some ⟨go87, 0, none⟩) x8_3.length co92 : Value).ownBlock)) HO_9.out (fun k_ hk => hk.2)); clear HO_9; have HO_9 := n_; clear n_; obtain ⟨hy95_, hz95_⟩ := Kd.R_celln 0 HO_9.out (x17_4 : Int) (of_decide_eq_true (by first | (with_reducible assumption) | assumption)) (of_decide_eq_true (by first | (with_reducible assumption) | assumption)); have HP95 := Kd.R_putg HO_9.out (x17_4 : Int) (wrap64 (x11_3 + 1))) | ((with_reducible refine gate_store (t := 3) (p := 180) rfl ?_); (try (rw [drewN_self w94]; generalize hq_ : World.drewN w94 _ = w94; have n0_ := Aside0.mk (Kd.R_at hq_ HO_8.out); have n1_ := Aside0.mk (Kd.R_at hq_ HO_9.out); have n2_ := Aside0.mk (Kd.R_at hq_ HO406.out); have n3_ := Aside0.mk (below_at hq_ HB.out); (try replace hx397_0 := cell_at hq_ hx397_0); (try replace hx397_1 := cell_at hq_ hx397_1); (try replace hx397_2 := cell_at hq_ hx397_2); (try replace hx398_0 := cell_at hq_ hx398_0); (try replace hx398_1 := cell_at hq_ hx398_1); (try replace hx398_2 := cell_at hq_ hx398_2); (try replace hx399_0 := cell_at hq_ hx399_0); (try replace hx399_1 := cell_at hq_ hx399_1); (try replace hx399_2 := cell_at hq_ hx399_2); (try replace hx73_0 := cell_at hq_ hx73_0); (try replace hf73_0 := frz_at hq_ hf73_0); (try replace hx401_0 := cell_at hq_ hx401_0); (try replace hx87_0 := cell_at hq_ hx87_0); (try replace hf87_0 := frz_at hq_ hf87_0); (try replace hx407_0 := cell_at hq_ hx407_0); clear hq_ HO_8 HO_9 HO406 HB; have HO_8 := n0_; have HO_9 := n1_; have HO406 := n2_; have HB := n3_; clear n0_ n1_ n2_ n3_; (try (have n_ := Aside0.mk (Kd.R_mono (ok' := (fun k_ => some k_ ≠ (.slice (some ⟨go87, 0, none⟩) x8_3.length co92 : Value).ownBlock)) HO_9.out (fun k_ hk => hk.2)); clear HO_9; have HO_9 := n_; clear n_)); (try (obtain ⟨hy95_, hz95_⟩ := Kd.R_celln 0 HO_9.out (x17_4 : Int) (of_decide_eq_true (by first | (with_reducible assumption) | assumption)) (of_decide_eq_true (by first | (with_reducible assumption) | assumption)))); (try (have HP95 := Kd.R_putg HO_9.out (x17_4 : Int) (wrap64 (x11_3 + 1)))))); refine store_event (t := 3) (p := 180) (v := ?vo_w96) (w1 := (w94.setCell ⟨go89, (x17_4 : Int).toNat, none⟩ (.int .i64 (wrap64 (x11_3 + 1))))) ?hg ?ho ?hn ?hr ?_; (case ho => rfl); (case hg => rfl); (case hn => rfl); (case hr => first | (go_simp; done) | (go_simp; rfl)); intro w96 hw; have hg : w94.grownBy w96 (some go89) := (by rw [hw]; exact HP95.2); have hp_ : Kd.R (Kd.int .i64) 3 w96 w.heap.size (fun k_ => some k_ ≠ (.slice (some ⟨go87, 0, none⟩) x8_3.length co92 : Value).ownBlock) (.slice (some ⟨go89, 0, none⟩) x9_3.length co89) y409 := (by rw [hw, Ny409.out]; exact HP95.1); clear HP95; have n0_ := Aside0.mk (Kd.R_after (v := (.slice (some ⟨go89, 0, none⟩) x9_3.length co89)) (v1 := (.slice (some ⟨go89, 0, none⟩) x9_3.length co89)) (ok := (fun _ => True)) (by (with_reducible repeat (first | apply Kd.R_alloc | apply Kd.R_drewN | apply Kd.R_drew)); exact Kd.R_mono HO_8.out (fun _ hk => ⟨trivial, hk⟩)) hg (.inl rfl)); have n1_ := Aside0.mk (hp_); have n2_ := Aside0.mk (Kd.R_over' (v := (.slice (some ⟨go89, 0, none⟩) x9_3.length co89)) (bR HO406.out) (Kd.R_typed HO_9.out) (by decide) hg); have n3_ := Aside0.mk ((by rw [hw]; exact below_set (HB.out) GB89.out : Below w.heap.size w w96)); replace HO_8 := n0_; replace HO_9 := n1_; replace HO406 := n2_; replace HB := n3_; clear n0_ n1_ n2_ n3_; clear hg hw hp_)))
          go_roundg k4
          case measure => have := HK1.out; have := HK2.out; have := HK3.out; have := HK4.out; omega
          case rel => exact ⟨(y408), (y409), (wrap64 (x10_3 - 1)), (wrap64 (x11_3 + 1)), (y404), (by first | rfl | (simp; done) | (simp [*]; done)), (by first | rfl | (simp; done) | (simp [*]; done)), H', ⟨by have := HK1.out; have := HK2.out; have := HK3.out; have := HK4.out; omega⟩, ⟨by (with_reducible repeat (first | apply Kd.R_alloc | apply Kd.R_drewN | apply Kd.R_drew)); exact Kd.R_mono HO_8.out (fun _ hk => hk.2)⟩, ⟨bR HO_9.out⟩, ⟨bR HO406.out⟩, ⟨bw HB.out⟩⟩
         rw [if_pos c69] at H
         have c69b0 : (((rd_T92 x16_3 (ji65)).f2) == x11_3) = true := beq_iff_eq.mpr c69
         have c69b1 : (((rd_T92 x16_3 (ji65)).f2) != x11_3) = false := bne_eq_false_iff_eq.mpr c69
         clear c69
         obtain ⟨y400, hy400⟩ : ∃ y_ : List (S92), y_ = (x16_3.set ((ji65) : Int).toNat (⟨(rd_T92 x16_3 (ji65)).f0, (rd_T92 x16_3 (ji65)).f1, wrap64 (((rd_T92 x16_3 (ji65)).f2) + 1)⟩ : S92)) := ⟨_, rfl⟩
         replace H : (if 0 ≤ x17_4 then (if x17_4 < (x8_3.length : Int) then (if x17_4 < (x9_3.length : Int) then (impl_choose.l2 k4 l0 a2 (x8_3.set (x17_4 : Int).toNat (wrap64 ((rd x8_3 x17_4) - 1))) (x9_3.set (x17_4 : Int).toNat (wrap64 (x11_3 + 1))) (wrap64 (x10_3 - 1)) (wrap64 (x11_3 + 1)) y400) else (none)) else (none)) else (none)) = some (r1, r2) := by first | (rw [hy400]; with_reducible exact H) | (have H2_ := (Option.bind_some _ _).symm.trans H; rw [hy400]; with_reducible exact H2_) | (have H2_ := (Option.bind_some _ _).symm.trans H; with_reducible exact H2_) | with_reducible exact H | (rw [hy400]; exact H) | exact H
         have Ny400 := Aside0.mk hy400
         clear hy400
         by_cases c71 : 0 ≤ x17_4
         rotate_left
         ·rw [if_neg c71] at H
          exact absurd H (by simp)
         rw [if_pos c71] at H
         have c71b0 : decide (0 ≤ x17_4) = true := decide_eq_true c71
         clear c71
         by_cases c72 : x17_4 < (x8_3.length : Int)
         rotate_left
         ·rw [if_neg c72] at H
          exact absurd H (by simp)
         rw [if_pos c72] at H
         have c72b0 : decide (x17_4 < (x8_3.length : Int)) = true := decide_eq_true c72
         clear c72
         obtain ⟨y402, hy402⟩ : ∃ y_ : List Int, y_ = (x8_3.set (x17_4 : Int).toNat (wrap64 ((rd x8_3 x17_4) - 1))) := ⟨_, rfl⟩
         replace H : (if x17_4 < (x9_3.length : Int) then (impl_choose.l2 k4 l0 a2 y402 (x9_3.set (x17_4 : Int).toNat (wrap64 (x11_3 + 1))) (wrap64 (x10_3 - 1)) (wrap64 (x11_3 + 1)) y400) else (none)) = some (r1, r2) := by first | (rw [hy402]; with_reducible exact H) | (have H2_ := (Option.bind_some _ _).symm.trans H; rw [hy402]; with_reducible exact H2_) | (have H2_ := (Option.bind_some _ _).symm.trans H; with_reducible exact H2_) | with_reducible exact H | (rw [hy402]; exact H) | exact H
         have Ny402 := Aside0.mk hy402
         clear hy402
         by_cases c74 : x17_4 < (x9_3.length : Int)
         rotate_left
         ·rw [if_neg c74] at H
          exact absurd H (by simp)
         rw [if_pos c74] at H
         have c74b0 : decide (x17_4 < (x9_3.length : Int)) = true := decide_eq_true c74
         clear c74
         obtain ⟨y403, hy403⟩ : ∃ y_ : List Int, y_ = (x9_3.set (x17_4 : Int).toNat (wrap64 (x11_3 + 1))) := ⟨_, rfl⟩
         replace H : (impl_choose.l2 k4 l0 a2 y402 y403 (wrap64 (x10_3 - 1)) (wrap64 (x11_3 + 1)) y400) = some (r1, r2) := by first | (rw [hy403]; with_reducible exact H) | (have H2_ := (Option.bind_some _ _).symm.trans H; rw [hy403]; with_reducible exact H2_) | (have H2_ := (Option.bind_some _ _).symm.trans H; with_reducible exact H2_) | with_reducible exact H | (rw [hy403]; exact H) | exact H
         have Ny403 := Aside0.mk hy403
         clear hy403
         have H' := Aside0.mk H
         clear H
         obtain ⟨Ao76, co76, eo76⟩ := Kd.R_slice HO_16.out
         subst eo76
         have p397 : 0 ≤ ((ji65) : Int) := of_decide_eq_true (by first | (with_reducible assumption) | assumption)
         have q397 : (ji65) < (x16_3.length : Int) := of_decide_eq_true (by first | (with_reducible assumption) | assumption)
         obtain ⟨ad397, e397, hx397_0, hx397_1, hx397_2⟩ := at_T92 (Kd.R_reads' HO_16.out).2.2 (ji65) p397 q397
         cases e397
         replace p397 := eq_true p397
         replace q397 := eq_true q397
         have p398 : 0 ≤ ((ji65) : Int) := of_decide_eq_true (by first | (with_reducible assumption) | assumption)
         have q398 : (ji65) < (x16_3.length : Int) := of_decide_eq_true (by first | (with_reducible assumption) | assumption)
         obtain ⟨ad398, e398, hx398_0, hx398_1, hx398_2⟩ := at_T92 (Kd.R_reads' HO_16.out).2.2 (ji65) p398 q398
         obtain rfl : ad397 = ad398 := (by injection e398)
         replace p398 := eq_true p398
         replace q398 := eq_true q398
         have p399 : 0 ≤ ((ji65) : Int) := of_decide_eq_true (by first | (with_reducible assumption) | assumption)
         have q399 : (ji65) < (x16_3.length : Int) := of_decide_eq_true (by first | (with_reducible assumption) | assumption)
         obtain ⟨ad399, e399, hx399_0, hx399_1, hx399_2⟩ := at_T92 (Kd.R_reads' HO_16.out).2.2 (ji65) p399 q399
         obtain rfl : ad397 = ad399 := (by injection e399)
         replace p399 := eq_true p399
         replace q399 := eq_true q399
         have p70 : 0 ≤ ((ji65) : Int) := of_decide_eq_true (by first | (with_reducible assumption) | assumption)
         have q70 : ((ji65) : Int) < ((x16_3.length : Int) : Int) := of_decide_eq_true (by first | (with_reducible assumption) | assumption)
         obtain ⟨go70, co70, eo70, gb70, gl70, cl70, HG70⟩ := Kd.R_form HO_16.out (by omega)
         (first | cases eo70 | (injection eo70 with ea_ en_ ec_; (first | subst ea_ | (injection ea_ with ea_; subst ea_)); subst ec_; clear en_))
         have GB70 := Aside0.mk gb70
         have GG70 := Aside0.mk HG70
         clear gb70 gl70 HG70
         (first | simp only [add_plain] at hx397_0 | skip)
         (first | simp only [add_plain] at hx397_1 | skip)
         (first | simp only [add_plain] at hx397_2 | skip)
         (first | simp only [add_plain] at hx398_0 | skip)
         (first | simp only [add_plain] at hx398_1 | skip)
         (first | simp only [add_plain] at hx398_2 | skip)
         (first | simp only [add_plain] at hx399_0 | skip)
         (first | simp only [add_plain] at hx399_1 | skip)
         (first | simp only [add_plain] at hx399_2 | skip)
         obtain ⟨ce70, hcl70, hM70, hcc70, hfr70⟩ := Kd.R_elem HO_16.out z92 ((ji65) : Int) p70 q70
         obtain rfl := k92_openM hM70
         have hx70_0 : wr.cell? ⟨go70, ((ji65) : Int).toNat * 3, none⟩ = some (.int .i64 ((rd_T92 x16_3 (ji65)).f0)) := hcc70 0 _ rfl
         have hx70_1 : wr.cell? ⟨go70, ((ji65) : Int).toNat * 3 + 1, none⟩ = some (.int .i64 ((rd_T92 x16_3 (ji65)).f1)) := hcc70 1 _ rfl
         have hx70_2 : wr.cell? ⟨go70, ((ji65) : Int).toNat * 3 + 2, none⟩ = some (.int .i64 ((rd_T92 x16_3 (ji65)).f2)) := hcc70 2 _ rfl
         have hf70_0 : wr.frozen? ⟨go70, ((ji65) : Int).toNat * 3, none⟩ = false := hfr70 0
         have hf70_1 : wr.frozen? ⟨go70, ((ji65) : Int).toNat * 3 + 1, none⟩ = false := hfr70 1
         have hf70_2 : wr.frozen? ⟨go70, ((ji65) : Int).toNat * 3 + 2, none⟩ = false := hfr70 2
         clear hcl70 hcc70 hfr70; (try clear hM70)
         replace p70 := eq_true p70
         replace q70 := eq_true q70
         have HX77 := Aside0.mk (show Kd.R k92 92 wr w.heap.size (fun _ => True) (.slice (some ⟨go70, 0, none⟩) x16_3.length co76) x16_3 from (bR HO_16.out))
         obtain ⟨ce77, hcl77, hM77, hcc77, hfr77⟩ := Kd.R_elem HX77.out z92 ((ji65) : Int) (of_decide_eq_true (by first | (with_reducible assumption) | assumption)) (by have h_ : ((ji65) : Int) < ((x16_3.length : Int) : Int) := of_decide_eq_true (by first | (with_reducible assumption) | assumption); first | exact h_ | (have e_ := (Kd.R_reads' HO_16.out).1; omega) | simpa using h_)
         obtain rfl := k92_openM hM77
         have HP77 := Kd.R_seg HX77.out ((ji65) : Int) (of_decide_eq_true (by first | (with_reducible assumption) | assumption)) (by have h_ : ((ji65) : Int) < ((x16_3.length : Int) : Int) := of_decide_eq_true (by first | (with_reducible assumption) | assumption); first | exact h_ | (have e_ := (Kd.R_reads' HO_16.out).1; omega) | simpa using h_) (seg := [.int .i64 (wrap64 (((rd_T92 x16_3 (ji65)).f2) + 1))]) (j := 2) hcl77 hcc77 (show 3 ≤ 3 from by decide) (x' := (⟨(rd_T92 x16_3 (ji65)).f0, (rd_T92 x16_3 (ji65)).f1, wrap64 (((rd_T92 x16_3 (ji65)).f2) + 1)⟩ : S92)) (k92_mkM _ _ _ (⟨(rd_T92 x16_3 (ji65)).f0, (rd_T92 x16_3 (ji65)).f1, wrap64 (((rd_T92 x16_3 (ji65)).f2) + 1)⟩ : S92) ) (fun _ hk => hk)
         have hx77_2 := hcc77 2 _ rfl
         (try simp only [show (k92).sz = 3 from rfl, Nat.mul_one, Nat.add_zero] at hx77_2)
         have hf77_2 := hfr77 2
         (try simp only [show (k92).sz = 3 from rfl, Nat.mul_one, Nat.add_zero] at hf77_2)
         clear hcl77 hcc77 hfr77; (try clear hM77)
         have go_ := True.intro
         repeat ((first | go_quiet (first | ((with_reducible refine gate_store (t := 3) (p := 159) rfl ?_); (try (rw [drewN_self wr]; generalize hq_ : World.drewN wr _ = wr; have n0_ := Aside0.mk (Kd.R_at hq_ HO_8.out); have n1_ := Aside0.mk (Kd.R_at hq_ HO_9.out); have n2_ := Aside0.mk (Kd.R_at hq_ HO_16.out); have n3_ := Aside0.mk (below_at hq_ HB.out); (try replace hx394_0 := cell_at hq_ hx394_0); (try replace hx395_0 := cell_at hq_ hx395_0); (try replace hx396_0 := cell_at hq_ hx396_0); (try replace hx396_1 := cell_at hq_ hx396_1); (try replace hx396_2 := cell_at hq_ hx396_2); (try replace hx396_3 := cell_at hq_ hx396_3); (try replace hx397_0 := cell_at hq_ hx397_0); (try replace hx397_1 := cell_at hq_ hx397_1); (try replace hx397_2 := cell_at hq_ hx397_2); (try replace hx398_0 := cell_at hq_ hx398_0); (try replace hx398_1 := cell_at hq_ hx398_1); (try replace hx398_2 := cell_at hq_ hx398_2); (try replace hx399_0 := cell_at hq_ hx399_0); (try replace hx399_1 := cell_at hq_ hx399_1); (try replace hx399_2 := cell_at hq_ hx399_2); (try replace hx73_0 := cell_at hq_ hx73_0); (try replace hf73_0 := frz_at hq_ hf73_0); (try replace hx401_0 := cell_at hq_ hx401_0); clear hq_ HO_8 HO_9 HO_16 HB; have HO_8 := n0_; have HO_9 := n1_; have HO_16 := n2_; have HB := n3_; clear n0_ n1_ n2_ n3_; (try (have HX77 := Aside0.mk (show Kd.R k92 92 wr w.heap.size (fun _ => True) (.slice (some ⟨go70, 0, none⟩) x16_3.length co76) x16_3 from (bR HO_16.out)))); (try (obtain ⟨ce77, hcl77, hM77, hcc77, hfr77⟩ := Kd.R_elem HX77.out z92 ((ji65) : Int) (of_decide_eq_true (by first | (with_reducible assumption) | assumption)) (by have h_ : ((ji65) : Int) < ((x16_3.length : Int) : Int) := of_decide_eq_true (by first | (with_reducible assumption) | assumption); first | exact h_ | (have e_ := (Kd.R_reads' HO_16.out).1; omega) | simpa using h_))); (try (obtain rfl := k92_openM hM77)); (try (have HP77 := Kd.R_seg HX77.out ((ji65) : Int) (of_decide_eq_true (by first | (with_reducible assumption) | assumption)) (by have h_ : ((ji65) : Int) < ((x16_3.length : Int) : Int) := of_decide_eq_true (by first | (with_reducible assumption) | assumption); first | exact h_ | (have e_ := (Kd.R_reads' HO_16.out).1; omega) | simpa using h_) (seg := [.int .i64 (wrap64 (((rd_T92 x16_3 (ji65)).f2) + 1))]) (j := 2) hcl77 hcc77 (show 3 ≤ 3 from by decide) (x' := (⟨(rd_T92 x16_3 (ji65)).f0, (rd_T92 x16_3 (ji65)).f1, wrap64 (((rd_T92 x16_3 (ji65)).f2) + 1)⟩ : S92)) (k92_mkM _ _ _ (⟨(rd_T92 x16_3 (ji65)).f0, (rd_T92 x16_3 (ji65)).f1, wrap64 (((rd_T92 x16_3 (ji65)).f2) + 1)⟩ : S92) ) (fun _ hk => hk))); (try (have hx77_2 := hcc77 2 _ rfl)); (try (try simp only [show (k92).sz = 3 from rfl, Nat.mul_one, Nat.add_zero] at hx77_2)); (try (have hf77_2 := hfr77 2)); (try (try simp only [show (k92).sz = 3 from rfl, Nat.mul_one, Nat.add_zero] at hf77_2)); (try (clear hcl77 hcc77 hfr77 hM77)))); refine store_event (t := 3) (p := 159) (v := ?vo_w78) (w1 := (wr.setCell ⟨go70, ((ji65) : Int).toNat * 3 + 2, none⟩ (.int .i64 (wrap64 (((rd_T92 x16_3 (ji65)).f2) + 1))))) ?hg ?ho ?hn ?hr ?_; (case ho => rfl); (case hg => rfl); (case hn => rfl); (case hr => first | (go_simp; done) | (go_simp; rfl)); intro w78 hw; have hg : wr.grownBy w78 (some go70) := (by rw [hw]; exact HP77.2); have hp_ : Kd.R k92 92 w78 w.heap.size (fun _ => True) (.slice (some ⟨go70, 0, none⟩) x16_3.length co76) y400 := (by rw [hw, Ny400.out]; exact HP77.1); clear HP77; have n0_ := Aside0.mk (Kd.R_over' (v := (.slice (some ⟨go70, 0, none⟩) x16_3.length co76)) (bR HO_8.out) (Kd.R_typed HO_16.out) (by decide) hg); have n1_ := Aside0.mk (Kd.R_over' (v := (.slice (some ⟨go70, 0, none⟩) x16_3.length co76)) (bR HO_9.out) (Kd.R_typed HO_16.out) (by decide) hg); have n2_ := Aside0.mk (hp_); have n3_ := Aside0.mk ((by rw [hw]; exact below_set (HB.out) GB70.out : Below w.heap.size w w78)); replace HO_8 := n0_; replace HO_9 := n1_; replace HO_16 := n2_; replace HB := n3_; clear n0_ n1_ n2_ n3_; clear hg hw hp_; obtain ⟨Ao79, co79, eo79⟩ := Kd.R_slice HO_8.out; subst eo79; have p401 : 0 ≤ (x17_4 : Int) := of_decide_eq_true (by first | (with_reducible assumption) | assumption); have q401 : x17_4 < (x8_3.length : Int) := of_decide_eq_true (by first | (with_reducible assumption) | assumption); obtain ⟨ad401, e401, hx401_0⟩ := Kd.at_int (Kd.R_reads' HO_8.out).2.2 x17_4 p401 q401; cases e401; replace p401 := eq_true p401; replace q401 := eq_true q401; have p73 : 0 ≤ (x17_4 : Int) := of_decide_eq_true (by first | (with_reducible assumption) | assumption); have q73 : (x17_4 : Int) < ((x8_3.length : Int) : Int) := of_decide_eq_true (by first | (with_reducible assumption) | assumption); obtain ⟨go73, co73, eo73, gb73, gl73, cl73, HG73⟩ := Kd.R_form HO_8.out (by omega); (first | cases eo73 | (injection eo73 with ea_ en_ ec_; (first | subst ea_ | (injection ea_ with ea_; subst ea_)); subst ec_; clear en_)); have GB73 := Aside0.mk gb73; have GG73 := Aside0.mk HG73; clear gb73 gl73 HG73; (first | simp only [add_plain] at hx401_0 | skip); obtain ⟨hx73_0, hf73_0⟩ := Kd.R_celln 0 HO_8.out (x17_4 : Int) p73 q73; replace p73 := eq_true p73; replace q73 := eq_true q73; obtain ⟨hy80_, hz80_⟩ := Kd.R_celln 0 HO_8.out (x17_4 : Int) (of_decide_eq_true (by first | (with_reducible assumption) | assumption)) (of_decide_eq_true (by first | (with_reducible assumption) | assumption)); have HP80 := Kd.R_putg HO_8.out (x17_4 : Int) (wrap64 ((rd x8_3 x17_4) - 1))) | ((with_reducible refine gate_store (t := 3) (p := 173) rfl ?_); (try (rw [drewN_self w78]; generalize hq_ : World.drewN w78 _ = w78; have n0_ := Aside0.mk (Kd.R_at hq_ HO_8.out); have n1_ := Aside0.mk (Kd.R_at hq_ HO_9.out); have n2_ := Aside0.mk (Kd.R_at hq_ HO_16.out); have n3_ := Aside0.mk (below_at hq_ HB.out); (try replace hx394_0 := cell_at hq_ hx394_0); (try replace hx395_0 := cell_at hq_ hx395_0); (try replace hx396_0 := cell_at hq_ hx396_0); (try replace hx396_1 := cell_at hq_ hx396_1); (try replace hx396_2 := cell_at hq_ hx396_2); (try replace hx396_3 := cell_at hq_ hx396_3); (try replace hx397_0 := cell_at hq_ hx397_0); (try replace hx397_1 := cell_at hq_ hx397_1); (try replace hx397_2 := cell_at hq_ hx397_2); (try replace hx398_0 := cell_at hq_ hx398_0); (try replace hx398_1 := cell_at hq_ hx398_1); (try replace hx398_2 := cell_at hq_ hx398_2); (try replace hx399_0 := cell_at hq_ hx399_0); (try replace hx399_1 := cell_at hq_ hx399_1); (try replace hx399_2 := cell_at hq_ hx399_2); (try replace hx73_0 := cell_at hq_ hx73_0); (try replace hf73_0 := frz_at hq_ hf73_0); (try replace hx401_0 := cell_at hq_ hx401_0); clear hq_ HO_8 HO_9 HO_16 HB; have HO_8 := n0_; have HO_9 := n1_; have HO_16 := n2_; have HB := n3_; clear n0_ n1_ n2_ n3_; (try (obtain ⟨hy80_, hz80_⟩ := Kd.R_celln 0 HO_8.out (x17_4 : Int) (of_decide_eq_true (by first | (with_reducible assumption) | assumption)) (of_decide_eq_true (by first | (with_reducible assumption) | assumption)))); (try (have HP80 := Kd.R_putg HO_8.out (x17_4 : Int) (wrap64 ((rd x8_3 x17_4) - 1)))))); refine store_event (t := 3) (p := 173) (v := ?vo_w81) (w1 := (w78.setCell ⟨go73, (x17_4 : Int).toNat, none⟩ (.int .i64 (wrap64 ((rd x8_3 x17_4) - 1))))) ?hg ?ho ?hn ?hr ?_; (case ho => rfl); (case hg => rfl); (case hn => rfl); (case hr => first | (go_simp; done) | (go_simp; rfl)); intro w81 hw; have hg : w78.grownBy w81 (some go73) := (by rw [hw]; exact HP80.2); have hp_ : Kd.R (Kd.int .i64) 3 w81 w.heap.size (fun k_ => some k_ ≠ (v381 : Value).ownBlock) (.slice (some ⟨go73, 0, none⟩) x8_3.length co79) y402 := (by rw [hw, Ny402.out]; exact HP80.1); clear HP80; have n0_ := Aside0.mk (hp_); have n1_ := Aside0.mk (Kd.R_after (v := (.slice (some ⟨go73, 0, none⟩) x8_3.length co79)) (v1 := (.slice (some ⟨go73, 0, none⟩) x8_3.length co79)) (ok := (fun _ => True)) (by (with_reducible repeat (first | apply Kd.R_alloc | apply Kd.R_drewN | apply Kd.R_drew)); exact Kd.R_mono HO_9.out (fun _ hk => ⟨trivial, hk⟩)) hg (.inl rfl)); have n2_ := Aside0.mk (Kd.R_over' (v := (.slice (some ⟨go73, 0, none⟩) x8_3.length co79)) (bR HO_16.out) (Kd.R_typed HO_8.out) (by decide) hg); have n3_ := Aside0.mk ((by rw [hw]; exact below_set (HB.out) GB73.out : Below w.heap.size w w81)); replace HO_8 := n0_; replace HO_9 := n1_; replace HO_16 := n2_; replace HB := n3_; clear n0_ n1_ n2_ n3_; clear hg hw hp_; have p75 : 0 ≤ (x17_4 : Int) := of_decide_eq_true (by first | (with_reducible assumption) | assumption); have q75 : (x17_4 : Int) < ((x9_3.length : Int) : Int) := of_decide_eq_true (by first | (with_reducible assumption) | assumption); obtain ⟨go75, co75, eo75, gb75, gl75, cl75, HG75⟩ := Kd.R_form HO_9.out (by omega); (first | cases eo75 | (injection eo75 with ea_ en_ ec_; (first | subst ea_ | (injection ea_ with ea_; subst ea_)); subst ec_; clear en_)); have GB75 := Aside0.mk gb75; have GG75 := Aside0.mk HG75; clear gb75 gl75 HG75; obtain ⟨hx75_0, hf75_0⟩ := Kd.R_celln 0 HO_9.out (x17_4 : Int) p75 q75; replace p75 := eq_true p75; replace q75 := eq_true q75; have n_ := Aside0.mk (Kd.R_mono (ok' := (fun k_ => some k_ ≠ (.slice (some ⟨go73, 0, none⟩) x8_3.length co79 : Value).ownBlock)) HO_9.out (fun k_ hk => hk.2)); clear HO_9; have HO_9 := n_; clear n_; obtain ⟨hy82_, hz82_⟩ := Kd.R_celln 0 HO_9.out (x17_4 : Int) (of_decide_eq_true (by first | (with_reducible assumption) | assumption)) (of_decide_eq_true (by first | (with_reducible assumption) | assumption)); have HP82 := Kd.R_putg HO_9.out (x17_4 : Int) (wrap64 (x11_3 + 1))) | ((with_reducible refine gate_store (t := 3) (p := 180) rfl ?_); (try (rw [drewN_self w81]; generalize hq_ : World.drewN w81 _ = w81; have n0_ := Aside0.mk (Kd.R_at hq_ HO_8.out); have n1_ := Aside0.mk (Kd.R_at hq_ HO_9.out); have n2_ := Aside0.mk (Kd.R_at hq_ HO_16.out); have n3_ := Aside0.mk (below_at hq_ HB.out); (try replace hx394_0 := cell_at hq_ hx394_0); (try replace hx395_0 := cell_at hq_ hx395_0); (try replace hx396_0 := cell_at hq_ hx396_0); (try replace hx396_1 := cell_at hq_ hx396_1); (try replace hx396_2 := cell_at hq_ hx396_2); (try replace hx396_3 := cell_at hq_ hx396_3); (try replace hx397_0 := cell_at hq_ hx397_0); (try replace hx397_1 := cell_at hq_ hx397_1); (try replace hx397_2 := cell_at hq_ hx397_2); (try replace hx398_0 := cell_at hq_ hx398_0); (try replace hx398_1 := cell_at hq_ hx398_1); (try replace hx398_2 := cell_at hq_ hx398_2); (try replace hx399_0 := cell_at hq_ hx399_0); (try replace hx399_1 := cell_at hq_ hx399_1); (try replace hx399_2 := cell_at hq_ hx399_2); (try replace hx73_0 := cell_at hq_ hx73_0); (try replace hf73_0 := frz_at hq_ hf73_0); (try replace hx401_0 := cell_at hq_ hx401_0); clear hq_ HO_8 HO_9 HO_16 HB; have HO_8 := n0_; have HO_9 := n1_; have HO_16 := n2_; have HB := n3_; clear n0_ n1_ n2_ n3_; (try (have n_ := Aside0.mk (Kd.R_mono (ok' := (fun k_ => some k_ ≠ (.slice (some ⟨go73, 0, none⟩) x8_3.length co79 : Value).ownBlock)) HO_9.out (fun k_ hk => hk.2)); clear HO_9; have HO_9 := n_; clear n_)); (try (obtain ⟨hy82_, hz82_⟩ := Kd.R_celln 0 HO_9.out (x17_4 : Int) (of_decide_eq_true (by first | (with_reducible assumption) | assumption)) (of_decide_eq_true (by first | (with_reducible assumption) | assumption)))); (try (have HP82 := Kd.R_putg HO_9.out (x17_4 : Int) (wrap64 (x11_3 + 1)))))); refine store_event (t := 3) (p := 180) (v := ?vo_w83) (w1 := (w81.setCell ⟨go75, (x17_4 : Int).toNat, none⟩ (.int .i64 (wrap64 (x11_3 + 1))))) ?hg ?ho ?hn ?hr ?_; (case ho => rfl); (case hg => rfl); (case hn => rfl); (case hr => first | (go_simp; done) | (go_simp; rfl)); intro w83 hw; have hg : w81.grownBy w83 (some go75) := (by rw [hw]; exact HP82.2); have hp_ : Kd.R (Kd.int .i64) 3 w83 w.heap.size (fun k_ => some k_ ≠ (.slice (some ⟨go73, 0, none⟩) x8_3.length co79 : Value).ownBlock) (.slice (some ⟨go75, 0, none⟩) x9_3.length co75) y403 := (by rw [hw, Ny403.out]; exact HP82.1); clear HP82; have n0_ := Aside0.mk (Kd.R_after (v := (.slice (some ⟨go75, 0, none⟩) x9_3.length co75)) (v1 := (.slice (some ⟨go75, 0, none⟩) x9_3.length co75)) (ok := (fun _ => True)) (by (with_reducible repeat (first | apply Kd.R_alloc | apply Kd.R_drewN | apply Kd.R_drew)); exact Kd.R_mono HO_8.out (fun _ hk => ⟨trivial, hk⟩)) hg (.inl rfl)); have n1_ := Aside0.mk (hp_); have n2_ := Aside0.mk (Kd.R_over' (v := (.slice (some ⟨go75, 0, none⟩) x9_3.length co75)) (bR HO_16.out) (Kd.R_typed HO_9.out) (by decide) hg); have n3_ := Aside0.mk ((by rw [hw]; exact below_set (HB.out) GB75.out : Below w.heap.size w w83)); replace HO_8 := n0_; replace HO_9 := n1_; replace HO_16 := n2_; replace HB := n3_; clear n0_ n1_ n2_ n3_; clear hg hw hp_)) | clear go_); go_wp2_with (first | ((with_reducible refine gate_store (t := 3) (p := 159) rfl ?_); (try (rw [drewN_self wr]; generalize hq_ : World.drewN wr _ = wr; have n0_ := Aside0.mk (Kd.R_at hq_ HO_8.out); have n1_ := Aside0.mk (Kd.R_at hq_ HO_9.out); have n2_ := Aside0.mk (Kd.R_at hq_ HO_16.out); have n3_ := Aside0.mk (below_at hq_ HB.out); (try replace hx394_0 := cell_at hq_ hx394_0); (try replace hx395_0 := cell_at hq_ hx395_0); (try replace hx396_0 := cell_at hq_ hx396_0); (try replace hx396_1 := cell_at hq_ hx396_1); (try replace hx396_2 := cell_at hq_ hx396_2); (try replace hx396_3 := cell_at hq_ hx396_3); (try replace hx397_0 := cell_at hq_ hx397_0); (try replace hx397_1 := cell_at hq_ hx397_1); (try replace hx397_2 := cell_at hq_ hx397_2); (try replace hx398_0 := cell_at hq_ hx398_0); (try replace hx398_1 := cell_at hq_ hx398_1); (try replace hx398_2 := cell_at hq_ hx398_2); (try replace hx399_0 := cell_at hq_ hx399_0); (try replace hx399_1 := cell_at hq_ hx399_1); (try replace hx399_2 := cell_at hq_ hx399_2); (try replace hx73_0 := cell_at hq_ hx73_0); (try replace hf73_0 := frz_at hq_ hf73_0); (try replace hx401_0 := cell_at hq_ hx401_0); clear hq_ HO_8 HO_9 HO_16 HB; have HO_8 := n0_; have HO_9 := n1_; have HO_16 := n2_; have HB := n3_; clear n0_ n1_ n2_ n3_; (try (have HX77 := Aside0.mk (show Kd.R k92 92 wr w.heap.size (fun _ => True) (.slice (some ⟨go70, 0, none⟩) x16_3.length co76) x16_3 from (bR HO_16.out)))); (try (obtain ⟨ce77, hcl77, hM77, hcc77, hfr77⟩ := Kd.R_elem HX77.out z92 ((ji65) : Int) (of_decide_eq_true (by first | (with_reducible assumption) | assumption)) (by have h_ : ((ji65) : Int) < ((x16_3.length : Int) : Int) := of_decide_eq_true (by first | (with_reducible assumption) | assumption); first | exact h_ | (have e_ := (Kd.R_reads' HO_16.out).1; omega) | simpa using h_))); (try (obtain rfl := k92_openM hM77)); (try (have HP77 := Kd.R_seg HX77.out ((ji65) : Int) (of_decide_eq_true (by first | (with_reducible assumption) | assumption)) (by have h_ : ((ji65) : Int) < ((x16_3.length : Int) : Int) := of_decide_eq_true (by first | (with_reducible assumption) | assumption); first | exact h_ | (have e_ := (Kd.R_reads' HO_16.out).1; omega) | simpa using h_) (seg := [.int .i64 (wrap64 (((rd_T92 x16_3 (ji65)).f2) + 1))]) (j := 2) hcl77 hcc77 (show 3 ≤ 3 from by decide) (x' := (⟨(rd_T92 x16_3 (ji65)).f0, (rd_T92 x16_3 (ji65)).f1, wrap64 (((rd_T92 x16_3 (ji65)).f2) + 1)⟩ : S92)) (k92_mkM _ _ _ (⟨(rd_T92 x16_3 (ji65)).f0, (rd_T92 x16_3 (ji65)).f1, wrap64 (((rd_T92 x16_3 (ji65)).f2) + 1)⟩ : S92) ) (fun _ hk => hk))); (try (have hx77_2 := hcc77 2 _ rfl)); (try (try simp only [show (k92).sz = 3 from rfl, Nat.mul_one, Nat.add_zero] at hx77_2)); (try (have hf77_2 := hfr77 2)); (try (try simp only [show (k92).sz = 3 from rfl, Nat.mul_one, Nat.add_zero] at hf77_2)); (try (clear hcl77 hcc77 hfr77 hM77)))); refine store_event (t := 3) (p := 159) (v := ?vo_w78) (w1 := (wr.setCell ⟨go70, ((ji65) : Int).toNat * 3 + 2, none⟩ (.int .i64 (wrap64 (((rd_T92 x16_3 (ji65)).f2) + 1))))) ?hg ?ho ?hn ?hr ?_; (case ho => rfl); (case hg => rfl); (case hn => rfl); (case hr => first | (go_simp; done) | (go_simp; rfl)); intro w78 hw; have hg : wr.grownBy w78 (some go70) := (by rw [hw]; exact HP77.2); have hp_ : Kd.R k92 92 w78 w.heap.size (fun _ => True) (.slice (some ⟨go70, 0, none⟩) x16_3.length co76) y400 := (by rw [hw, Ny400.out]; exact HP77.1); clear HP77; have n0_ := Aside0.mk (Kd.R_over' (v := (.slice (some ⟨go70, 0, none⟩) x16_3.length co76)) (bR HO_8.out) (Kd.R_typed HO_16.out) (by decide) hg); have n1_ := Aside0.mk (Kd.R_over' (v := (.slice (some ⟨go70, 0, none⟩) x16_3.length co76)) (bR HO_9.out) (Kd.R_typed HO_16.out) (by decide) hg); have n2_ := Aside0.mk (hp_); have n3_ := Aside0.mk ((by rw [hw]; exact below_set (HB.out) GB70.out : Below w.heap.size w w78)); replace HO_8 := n0_; replace HO_9 := n1_; replace HO_16 := n2_; replace HB := n3_; clear n0_ n1_ n2_ n3_; clear hg hw hp_; obtain ⟨Ao79, co79, eo79⟩ := Kd.R_slice HO_8.out; subst eo79; have p401 : 0 ≤ (x17_4 : Int) := of_decide_eq_true (by first | (with_reducible assumption) | assumption); have q401 : x17_4 < (x8_3.length : Int) := of_decide_eq_true (by first | (with_reducible assumption) | assumption); obtain ⟨ad401, e401, hx401_0⟩ := Kd.at_int (Kd.R_reads' HO_8.out).2.2 x17_4 p401 q401; cases e401; replace p401 := eq_true p401; replace q401 := eq_true q401; have p73 : 0 ≤ (x17_4 : Int) := of_decide_eq_true (by first | (with_reducible assumption) | assumption); have q73 : (x17_4 : Int) < ((x8_3.length : Int) : Int) := of_decide_eq_true (by first | (with_reducible assumption) | assumption); obtain ⟨go73, co73, eo73, gb73, gl73, cl73, HG73⟩ := Kd.R_form HO_8.out (by omega); (first | cases eo73 | (injection eo73 with ea_ en_ ec_; (first | subst ea_ | (injection ea_ with ea_; subst ea_)); subst ec_; clear en_)); have GB73 := Aside0.mk gb73; have GG73 := Aside0.mk HG73; clear gb73 gl73 HG73; (first | simp only [add_plain] at hx401_0 | skip); obtain ⟨hx73_0, hf73_0⟩ := Kd.R_celln 0 HO_8.out (x17_4 : Int) p73 q73; replace p73 := eq_true p73; replace q73 := eq_true q73; obtain ⟨hy80_, hz80_⟩ := Kd.R_celln 0 HO_8.out (x17_4 : Int) (of_decide_eq_true (by first | (with_reducible assumption) | assumption)) (of_decide_eq_true (by first | (with_reducible assumption) | assumption)); have HP80 := Kd.R_putg HO_8.out (x17_4 : Int) (wrap64 ((rd x8_3 x17_4) - 1))) | ((with_reducible refine gate_store (t := 3) (p := 173) rfl ?_); (try (rw [drewN_self w78]; generalize hq_ : World.drewN w78 _ = w78; have n0_ := Aside0.mk (Kd.R_at hq_ HO_8.out); have n1_ := Aside0.mk (Kd.R_at hq_ HO_9.out); have n2_ := Aside0.mk (Kd.R_at hq_ HO_16.out); have n3_ := Aside0.mk (below_at hq_ HB.out); (try replace hx394_0 := cell_at hq_ hx394_0); (try replace hx395_0 := cell_at hq_ hx395_0); (try replace hx396_0 := cell_at hq_ hx396_0); (try replace hx396_1 := cell_at hq_ hx396_1); (try replace hx396_2 := cell_at hq_ hx396_2); (try replace hx396_3 := cell_at hq_ hx396_3); (try replace hx397_0 := cell_at hq_ hx397_0); (try replace hx397_1 := cell_at hq_ hx397_1); (try replace hx397_2 := cell_at hq_ hx397_2); (try replace hx398_0 := cell_at hq_ hx398_0); (try replace hx398_1 := cell_at hq_ hx398_1); (try replace hx398_2 := cell_at hq_ hx398_2); (try replace hx399_0 := cell_at hq_ hx399_0); (try replace hx399_1 := cell_at hq_ hx399_1); (try replace hx399_2 := cell_at hq_ hx399_2); (try replace hx73_0 := cell_at hq_ hx73_0); (try replace hf73_0 := frz_at hq_ hf73_0); (try replace hx401_0 := cell_at hq_ hx401_0); clear hq_ HO_8 HO_9 HO_16 HB; have HO_8 := n0_; have HO_9 := n1_; have HO_16 := n2_; have HB := n3_; clear n0_ n1_ n2_ n3_; (try (obtain ⟨hy80_, hz80_⟩ := Kd.R_celln 0 HO_8.out (x17_4 : Int) (of_decide_eq_true (by first | (with_reducible assumption) | assumption)) (of_decide_eq_true (by first | (with_reducible assumption) | assumption)))); (try (have HP80 := Kd.R_putg HO_8.out (x17_4 : Int) (wrap64 ((rd x8_3 x17_4) - 1)))))); refine store_event (t := 3) (p := 173) (v := ?vo_w81) (w1 := (w78.setCell ⟨go73, (x17_4 : Int).toNat, none⟩ (.int .i64 (wrap64 ((rd x8_3 x17_4) - 1))))) ?hg ?ho ?hn ?hr ?_; (case ho => rfl); (case hg => rfl); (case hn => rfl); (case hr => first | (go_simp; done) | (go_simp; rfl)); intro w81 hw; have hg : w78.grownBy w81 (some go73) := (by rw [hw]; exact HP80.2); have hp_ : Kd.R (Kd.int .i64) 3 w81 w.heap.size (fun k_ => some k_ ≠ (v381 : Value).ownBlock) (.slice (some ⟨go73, 0, none⟩) x8_3.length co79) y402 := (by rw [hw, Ny402.out]; exact HP80.1); clear HP80; have n0_ := Aside0.mk (hp_); have n1_ := Aside0.mk (Kd.R_after (v := (.slice (some ⟨go73, 0, none⟩) x8_3.length co79)) (v1 := (.slice (some ⟨go73, 0, none⟩) x8_3.length co79)) (ok := (fun _ => True)) (by (with_reducible repeat (first | apply Kd.R_alloc | apply Kd.R_drewN | apply Kd.R_drew)); exact Kd.R_mono HO_9.out (fun _ hk => ⟨trivial, hk⟩)) hg (.inl rfl)); have n2_ := Aside0.mk (Kd.R_over' (v := (.slice (some ⟨go73, 0, none⟩) x8_3.length co79)) (bR HO_16.out) (Kd.R_typed HO_8.out) (by decide) hg); have n3_ := Aside0.mk ((by rw [hw]; exact below_set (HB.out) GB73.out : Below w.heap.size w w81)); replace HO_8 := n0_; replace HO_9 := n1_; replace HO_16 := n2_; replace HB := n3_; clear n0_ n1_ n2_ n3_; clear hg hw hp_; have p75 : 0 ≤ (x17_4 : Int) := of_decide_eq_true (by first | (with_reducible assumption) | assumption); have q75 : (x17_4 : Int) < ((x9_3.length : Int) : Int) := of_decide_eq_true (by first | (with_reducible assumption) | assumption); obtain ⟨go75, co75, eo75, gb75, gl75, cl75, HG75⟩ := Kd.R_form HO_9.out (by omega); (first | cases eo75 | (injection eo75 with ea_ en_ ec_; (first | subst ea_ | (injection ea_ with ea_; subst ea_)); subst ec_; clear en_)); have GB75 := Aside0.mk gb75; have GG75 := Aside0.mk HG75; clear gb75 gl75 HG75; obtain ⟨hx75_0, hf75_0⟩ := Kd.R_celln 0 HO_9.out (x17_4 : Int) p75 q75; replace p75 := eq_true p75; replace q75 := eq_true q75; have n_ := Aside0.mk (Kd.R_mono (ok' := (fun k_ => some k_ ≠ (.slice (some ⟨go73, 0, none⟩) x8_3.length co79 : Value).ownBlock)) HO_9.out (fun k_ hk => hk.2)); clear HO_9; have HO_9 := n_; clear n_; obtain ⟨hy82_, hz82_⟩ := Kd.R_celln 0 HO_9.out (x17_4 : Int) (of_decide_eq_true (by first | (with_reducible assumption) | assumption)) (of_decide_eq_true (by first | (with_reducible assumption) | assumption)); have HP82 := Kd.R_putg HO_9.out (x17_4 : Int) (wrap64 (x11_3 + 1))) | ((with_reducible refine gate_store (t := 3) (p := 180) rfl ?_); (try (rw [drewN_self w81]; generalize hq_ : World.drewN w81 _ = w81; have n0_ := Aside0.mk (Kd.R_at hq_ HO_8.out); have n1_ := Aside0.mk (Kd.R_at hq_ HO_9.out); have n2_ := Aside0.mk (Kd.R_at hq_ HO_16.out); have n3_ := Aside0.mk (below_at hq_ HB.out); (try replace hx394_0 := cell_at hq_ hx394_0); (try replace hx395_0 := cell_at hq_ hx395_0); (try replace hx396_0 := cell_at hq_ hx396_0); (try replace hx396_1 := cell_at hq_ hx396_1); (try replace hx396_2 := cell_at hq_ hx396_2); (try replace hx396_3 := cell_at hq_ hx396_3); (try replace hx397_0 := cell_at hq_ hx397_0); (try replace hx397_1 := cell_at hq_ hx397_1); (try replace hx397_2 := cell_at hq_ hx397_2); (try replace hx398_0 := cell_at hq_ hx398_0); (try replace hx398_1 := cell_at hq_ hx398_1); (try replace hx398_2 := cell_at hq_ hx398_2); (try replace hx399_0 := cell_at hq_ hx399_0); (try replace hx399_1 := cell_at hq_ hx399_1); (try replace hx399_2 := cell_at hq_ hx399_2); (try replace hx73_0 := cell_at hq_ hx73_0); (try replace hf73_0 := frz_at hq_ hf73_0); (try replace hx401_0 := cell_at hq_ hx401_0); clear hq_ HO_8 HO_9 HO_16 HB; have HO_8 := n0_; have HO_9 := n1_; have HO_16 := n2_; have HB := n3_; clear n0_ n1_ n2_ n3_; (try (have n_ := Aside0.mk (Kd.R_mono (ok' := (fun k_ => some k_ ≠ (.slice (some ⟨go73, 0, none⟩) x8_3.length co79 : Value).ownBlock)) HO_9.out (fun k_ hk => hk.2)); clear HO_9; have HO_9 := n_; clear n_)); (try (obtain ⟨hy82_, hz82_⟩ := Kd.R_celln 0 HO_9.out (x17_4 : Int) (of_decide_eq_true (by first | (with_reducible assumption) | assumption)) (of_decide_eq_true (by first | (with_reducible assumption) | assumption)))); (try (have HP82 := Kd.R_putg HO_9.out (x17_4 : Int) (wrap64 (x11_3 + 1)))))); refine store_event (t := 3) (p := 180) (v := ?vo_w83) (w1 := (w81.setCell ⟨go75, (x17_4 : Int).toNat, none⟩ (.int .i64 (wrap64 (x11_3 + 1))))) ?hg ?ho ?hn ?hr ?_; (case ho => rfl); (case hg => rfl); (case hn => rfl); (case hr => first | (go_simp; done) | (go_simp; rfl)); intro w83 hw; have hg : w81.grownBy w83 (some go75) := (by rw [hw]; exact HP82.2); have hp_ : Kd.R (Kd.int .i64) 3 w83 w.heap.size (fun k_ => some k_ ≠ (.slice (some ⟨go73, 0, none⟩) x8_3.length co79 : Value).ownBlock) (.slice (some ⟨go75, 0, none⟩) x9_3.length co75) y403 := (by rw [hw, Ny403.out]; exact HP82.1); clear HP82; have n0_ := Aside0.mk (Kd.R_after (v := (.slice (some ⟨go75, 0, none⟩) x9_3.length co75)) (v1 := (.slice (some ⟨go75, 0, none⟩) x9_3.length co75)) (ok := (fun _ => True)) (by (with_reducible repeat (first | apply Kd.R_alloc | apply Kd.R_drewN | apply Kd.R_drew)); exact Kd.R_mono HO_8.out (fun _ hk => ⟨trivial, hk⟩)) hg (.inl rfl)); have n1_ := Aside0.mk (hp_); have n2_ := Aside0.mk (Kd.R_over' (v := (.slice (some ⟨go75, 0, none⟩) x9_3.length co75)) (bR HO_16.out) (Kd.R_typed HO_9.out) (by decide) hg); have n3_ := Aside0.mk ((by rw [hw]; exact below_set (HB.out) GB75.out : Below w.heap.size w w83)); replace HO_8 := n0_; replace HO_9 := n1_; replace HO_16 := n2_; replace HB := n3_; clear n0_ n1_ n2_ n3_; clear hg hw hp_)))
         go_roundg k4
         case measure => have := HK1.out; have := HK2.out; have := HK3.out; have := HK4.out; omega
         case rel => exact ⟨(y402), (y403), (wrap64 (x10_3 - 1)), (wrap64 (x11_3 + 1)), (y400), (by first | rfl | (simp; done) | (simp [*]; done)), (by first | rfl | (simp; done) | (simp [*]; done)), H', ⟨by have := HK1.out; have := HK2.out; have := HK3.out; have := HK4.out; omega⟩, ⟨by (with_reducible repeat (first | apply Kd.R_alloc | apply Kd.R_drewN | apply Kd.R_drew)); exact Kd.R_mono HO_8.out (fun _ hk => hk.2)⟩, ⟨bR HO_9.out⟩, ⟨bR HO_16.out⟩, ⟨bw HB.out⟩⟩

/-! ### impl_prefixBound: function 39 -/
def impl_prefixBound.f (k : Nat) (l0 : List (S61)) (l1 : List Int) (a2 : Int) : Option (Int) := (impl_choose.f k l0 l1 a2).bind fun bt422 => ((impl_valueOfEnds.f k l0 bt422.2 a2).bind fun t428 => (some t428))
theorem impl_prefixBound.mono : ∀ a0 a1 a2 k, LeO (impl_prefixBound.f k a0 a1 a2) (impl_prefixBound.f (k + 1) a0 a1 a2) := by
 intro a0 a1 a2 k
 unfold impl_prefixBound.f
 repeat' first
   | (with_reducible exact impl_choose.mono _ _ _ _)
   | (with_reducible exact impl_valueOfEnds.mono _ _ _ _)
   | (with_reducible exact LeO.refl _)
   | (with_reducible exact LeO.none _)
   | (with_reducible refine LeO.ite ?_ ?_)
   | (with_reducible refine LeO.bind ?_ (fun _ => ?_))
   | exact impl_choose.mono _ _ _ _
   | exact impl_valueOfEnds.mono _ _ _ _
   | exact LeO.none _
   | refine LeO.ite ?_ ?_
   | refine LeO.bind ?_ (fun _ => ?_)
set_option maxHeartbeats 8000000 in
set_option maxRecDepth 100000 in
theorem impl_prefixBound.calls (k : Nat) (A0 : Option Addr) (c0 : Nat) (l0 : List (S61)) (A1 : Option Addr) (c1 : Nat) (l1 : List Int) (a2 : Int) (r : Int) (w : World) (hr0 : Kd.C k61 w A0 l0.length l0) (hc0 : l0.length ≤ c0) (hr1 : Kd.C (Kd.int .i64) w A1 l1.length l1) (hc1 : l1.length ≤ c1) (h : impl_prefixBound.f k l0 l1 a2 = some r) :
  Calls Try.prog 39 #[.slice A0 l0.length c0, .slice A1 l1.length c1, .int .i64 a2] w fun e w' => e = .returned (.int .i64 r) ∧ Below w.heap.size w w' := by
 have HR0 := Aside0.mk hr0
 have HC0 := Aside0.mk hc0
 clear hr0 hc0
 have HR1 := Aside0.mk hr1
 have HC1 := Aside0.mk hc1
 clear hr1 hc1
 have HB := Aside0.mk (Below.refl w.heap.size w)
 have H : ((impl_choose.f k l0 l1 a2).bind fun bt422 => ((impl_valueOfEnds.f k l0 bt422.2 a2).bind fun t428 => (some t428))) = some r := h
 clear h
 replace H := Option.bind_eq_some_iff.mp H
 obtain ⟨⟨t422, t423⟩, A40, H⟩ := H
 replace H : ((impl_valueOfEnds.f k l0 t423 a2).bind fun t428 => (some t428)) = some r := H
 have A4 := Aside0.mk A40
 clear A40
 replace H := Option.bind_eq_some_iff.mp H
 obtain ⟨t428, A50, H⟩ := H
 replace H : (some t428) = some r := H
 have A5 := Aside0.mk A50
 clear A50
 obtain rfl := Option.some.inj H
 go_enter Try.func39, Try.ntmps39
 go_wp2_with (first | ((with_reducible refine gate_callee (f := 72) rfl ?_); refine goesL_ (some 13) rfl rfl Try.func72 (by kernel_rfl) rfl #[.slice A0 l0.length c0, .slice A1 l1.length c1, .int .i64 a2] rfl (by (try simp only [mA_]); first | done | rfl | (simp only [List.length_drop, List.length_take]; rfl)) ?_; (with_reducible refine (impl_choose.calls k _ _ l0 _ _ l1 a2 t422 t423 _ ?side1 ?side2 ?side3 ?side4 A4.out).mono ?_); (case side1 => repeat (first | exact HR0.out | (with_reducible refine Kd.C_alloc ?_ _) | (with_reducible refine Kd.C_drewN ?_ _) | (with_reducible refine Kd.C_drew ?_))); (case side2 => exact HC0.out); (case side3 => repeat (first | exact HR1.out | (with_reducible refine Kd.C_alloc ?_ _) | (with_reducible refine Kd.C_drewN ?_ _) | (with_reducible refine Kd.C_drew ?_))); (case side4 => exact HC1.out); rintro e w6 ⟨v424, v426, rfl, ho0, ho1, hb⟩; refine ⟨_, rfl, ?_⟩; have n0_ := Aside0.mk (Kd.R_lower ho0 (below_size (bw HB.out))); have n1_ := Aside0.mk (Kd.R_lower ho1 (below_size (bw HB.out))); have n2_ := Aside0.mk (below_step (bw HB.out) hb); have HO425 := n0_; have HO427 := n1_; replace HB := n2_; clear n0_ n1_ n2_; (try clear hb); (try clear hb2); (try clear hk); (try clear hi); (try clear ho0); (try clear ho1); obtain ⟨Ao7, co7, eo7⟩ := Kd.R_slice HO427.out; subst eo7) | ((with_reducible refine gate_callee (f := 65) rfl ?_); refine goesL_ (some 19) rfl rfl Try.func65 (by kernel_rfl) rfl #[.slice A0 l0.length c0, .slice Ao7 t423.length co7, .int .i64 a2] rfl (by (try simp only [mA_]); first | done | rfl | (simp only [List.length_drop, List.length_take]; rfl)) ?_; (with_reducible refine (impl_valueOfEnds.calls k _ _ l0 _ _ t423 a2 t428 _ ?side1 ?side2 ?side3 ?side4 A5.out).mono ?_); (case side1 => first | exact bC HR0.out HB.out | exact Kd.C_below HR0.out HB.out); (case side2 => exact HC0.out); (case side3 => repeat (first | exact (Kd.R_reads' HO427.out).2.2 | (with_reducible refine Kd.C_alloc ?_ _) | (with_reducible refine Kd.C_drewN ?_ _) | (with_reducible refine Kd.C_drew ?_))); (case side4 => exact (Kd.R_reads' HO427.out).2.1); rintro e w8 ⟨rfl, hb⟩; refine ⟨_, rfl, ?_⟩; have n0_ := Aside0.mk (Kd.R_below (bR HO425.out) hb); have n1_ := Aside0.mk (Kd.R_below (bR HO427.out) hb); have n2_ := Aside0.mk (below_step (bw HB.out) hb); replace HO425 := n0_; replace HO427 := n1_; replace HB := n2_; clear n0_ n1_ n2_; (try clear hb); (try clear hb2); (try clear hk); (try clear hi)))
 go_ret
 exact ⟨by first | rfl | (simp [errW_none, errW_some] <;> rfl) | (simp [*, errW_none, errW_some] <;> rfl), bw HB.out⟩

end Go.Proofs.Ytoagdnojoodloaa.X
