-- Written by a program of this session (wip/gen/xp.py, over the kit's printer). Not trusted: Lean checks it.
import Derived.Test.YtoagdnojoodloaaX0
import Derived.Test.YtoagdnojoodloaaXf12
import Derived.Test.YtoagdnojoodloaaXf17
import Derived.Test.YtoagdnojoodloaaXf27
import Derived.Test.YtoagdnojoodloaaXf7
namespace Go.Proofs.Ytoagdnojoodloaa.X
open Go.RowKit Go.Proofs.YtoagdnojoodloaaW.PrintWords Go.Proofs.YtoagdnojoodloaaW.PrintLast Go.Proofs.YtoagdnojoodloaaW.PrintMore
attribute [local go_sem] max2_int min2_int max_two min_two max_three min_three max_four min_four   -- for this text's walks alone
set_option linter.unusedVariables false
set_option linter.unusedSimpArgs false

/-! ### impl_IsDispatcher: function 76 -/
abbrev q76_0 : Array Bool := ⟨rl_ [31] false⟩
abbrev q76_3 : Array Bool := ⟨rl_ [3, 28] true⟩
abbrev q76_4 : Array Bool := ⟨rl_ [4, 27] true⟩
abbrev q76_6 : Array Bool := ⟨rl_ [6, 25] true⟩
abbrev q76_11 : Array Bool := ⟨rl_ [11, 20] true⟩
abbrev q76_12 : Array Bool := ⟨rl_ [12, 19] true⟩
abbrev q76_13 : Array Bool := ⟨rl_ [13, 18] true⟩
abbrev q76_21 : Array Bool := ⟨rl_ [19, 1, 1, 4, 1, 5] true⟩
abbrev q76_22 : Array Bool := ⟨rl_ [21, 4, 1, 5] true⟩
abbrev q76_23 : Array Bool := ⟨rl_ [22, 3, 1, 5] true⟩
abbrev q76_26 : Array Bool := ⟨rl_ [26, 5] true⟩
abbrev q76_27 : Array Bool := ⟨rl_ [27, 4] true⟩
abbrev q76_29 : Array Bool := ⟨rl_ [29, 2] true⟩
abbrev q76_41 : Array Bool := ⟨rl_ [38] false⟩
abbrev q76_49 : Array Bool := ⟨rl_ [7, 3, 1, 27] true⟩
abbrev q76_52 : Array Bool := ⟨rl_ [11, 27] true⟩
abbrev q76_53 : Array Bool := ⟨rl_ [12, 26] true⟩
abbrev q76_63 : Array Bool := ⟨rl_ [22, 16] true⟩
abbrev q76_64 : Array Bool := ⟨rl_ [23, 15] true⟩
abbrev q76_74 : Array Bool := ⟨rl_ [33, 5] true⟩
abbrev q76_75 : Array Bool := ⟨rl_ [34, 4] true⟩
abbrev q76_83 : Array Bool := ⟨rl_ [18, 3, 1, 16] true⟩
abbrev q76_89 : Array Bool := ⟨rl_ [29, 3, 1, 5] true⟩
abbrev q76_98 : Array Bool := ⟨rl_ [20] false⟩
abbrev q76_101 : Array Bool := ⟨rl_ [3, 17] true⟩
abbrev q76_102 : Array Bool := ⟨rl_ [4, 16] true⟩
abbrev q76_107 : Array Bool := ⟨rl_ [9, 11] true⟩
abbrev q76_108 : Array Bool := ⟨rl_ [10, 10] true⟩
abbrev q76_115 : Array Bool := ⟨rl_ [17, 3] true⟩
abbrev q76_121 : Array Bool := ⟨rl_ [13, 2, 1, 4] true⟩
abbrev q76_122 : Array Bool := ⟨rl_ [14, 1, 1, 4] true⟩
abbrev q76_123 : Array Bool := ⟨rl_ [14, 1, 2, 3] true⟩
mutual
def impl_IsDispatcher.j0 : Nat → Bool → Int → Int → Int → List (S61) → List (S98) → Option (Bool)
 | 0, _, _, _, _, _, _ => none
 | k + 1, x28, x523000, x523001, x523002, x523003, x523004 => if x28 = true then (some false) else (impl_IsDispatcher.l0 k x523004 (x523004.length : Int) 0 x523000 x523001 x523002 x523003 x523004)
def impl_IsDispatcher.l0 : Nat → List (S98) → Int → Int → Int → Int → Int → List (S61) → List (S98) → Option (Bool)
 | 0, _, _, _, _, _, _, _, _ => none
 | k + 1, x30, x31, x32, x523000, x523001, x523002, x523003, x523004 => if x32 < x31 then (if 0 ≤ x32 then (if x32 < (x30.length : Int) then ((impl_isNumber.f ((rd_T98 x30 x32).f0) (x523003.length : Int)).bind fun t529 => (if t529 = true then ((impl_isNumber.f ((rd_T98 x30 x32).f1) x523000).bind fun t530 => (if t530 = true then (if 0 ≤ ((rd_T98 x30 x32).f0) then (if ((rd_T98 x30 x32).f0) < (x523003.length : Int) then ((impl_within.f ((rd_T98 x30 x32).f2) ((rd_T61 x523003 ((rd_T98 x30 x32).f0)).f2) (wrap64 (x523002 - 1))).bind fun t532 => (impl_IsDispatcher.j2 k x32 x30 x31 x32 (!t532) x523000 x523001 x523002 x523003 x523004 ((rd_T98 x30 x32).f0) ((rd_T98 x30 x32).f1) ((rd_T98 x30 x32).f2))) else (none)) else (none)) else (impl_IsDispatcher.j2 k x32 x30 x31 x32 true x523000 x523001 x523002 x523003 x523004 ((rd_T98 x30 x32).f0) ((rd_T98 x30 x32).f1) ((rd_T98 x30 x32).f2)))) else (impl_IsDispatcher.j2 k x32 x30 x31 x32 true x523000 x523001 x523002 x523003 x523004 ((rd_T98 x30 x32).f0) ((rd_T98 x30 x32).f1) ((rd_T98 x30 x32).f2)))) else (none)) else (none)) else (some true)
def impl_IsDispatcher.j2 : Nat → Int → List (S98) → Int → Int → Bool → Int → Int → Int → List (S61) → List (S98) → Int → Int → Int → Option (Bool)
 | 0, _, _, _, _, _, _, _, _, _, _, _, _, _ => none
 | k + 1, x3, x30, x31, x32, x67, x523000, x523001, x523002, x523003, x523004, x529000, x529001, x529002 => if x67 = true then (some false) else (if x3 > 0 then (if 0 ≤ (wrap64 (x3 - 1)) then (if (wrap64 (x3 - 1)) < (x523004.length : Int) then (if ((rd_T98 x523004 (wrap64 (x3 - 1))).f2) > x529002 then (impl_IsDispatcher.j3 k x3 x30 x31 x32 true x523000 x523001 x523002 x523003 x523004 x529000 x529001 x529002) else (if ((rd_T98 x523004 (wrap64 (x3 - 1))).f2) = x529002 then (impl_IsDispatcher.j3 k x3 x30 x31 x32 (decide (((rd_T98 x523004 (wrap64 (x3 - 1))).f1) ≥ x529001)) x523000 x523001 x523002 x523003 x523004 x529000 x529001 x529002) else (impl_IsDispatcher.j3 k x3 x30 x31 x32 false x523000 x523001 x523002 x523003 x523004 x529000 x529001 x529002))) else (none)) else (none)) else (impl_IsDispatcher.j3 k x3 x30 x31 x32 false x523000 x523001 x523002 x523003 x523004 x529000 x529001 x529002))
def impl_IsDispatcher.j3 : Nat → Int → List (S98) → Int → Int → Bool → Int → Int → Int → List (S61) → List (S98) → Int → Int → Int → Option (Bool)
 | 0, _, _, _, _, _, _, _, _, _, _, _, _, _ => none
 | k + 1, x3, x30, x31, x32, x105, x523000, x523001, x523002, x523003, x523004, x529000, x529001, x529002 => if x105 = true then (some false) else (if 0 ≤ x3 then (if x3 ≤ (x523004.length : Int) then ((some (x523004.take (x3 : Int).toNat : List (S98))).bind fun y536 => (impl_IsDispatcher.l1 k x30 x31 x32 y536 (y536.length : Int) 0 x523000 x523001 x523002 x523003 x523004 x529000 x529001 x529002)) else (none)) else (none))
def impl_IsDispatcher.l1 : Nat → List (S98) → Int → Int → List (S98) → Int → Int → Int → Int → Int → List (S61) → List (S98) → Int → Int → Int → Option (Bool)
 | 0, _, _, _, _, _, _, _, _, _, _, _, _, _, _ => none
 | k + 1, x30, x31, x32, x109, x110, x111, x523000, x523001, x523002, x523003, x523004, x529000, x529001, x529002 => if x111 < x110 then (if 0 ≤ x111 then (if x111 < (x109.length : Int) then (if ((rd_T98 x109 x111).f0) = x529000 then (some false) else (if ((rd_T98 x109 x111).f1) = x529001 then ((impl_Dispatcher_endOf.f x523000 x523001 x523002 x523003 x523004 ((rd_T98 x109 x111).f0) ((rd_T98 x109 x111).f1) ((rd_T98 x109 x111).f2)).bind fun t542 => (if t542 > x529002 then (some false) else (impl_IsDispatcher.l1 k x30 x31 x32 x109 x110 (wrap64 (x111 + 1)) x523000 x523001 x523002 x523003 x523004 x529000 x529001 x529002))) else (impl_IsDispatcher.l1 k x30 x31 x32 x109 x110 (wrap64 (x111 + 1)) x523000 x523001 x523002 x523003 x523004 x529000 x529001 x529002))) else (none)) else (none)) else (impl_IsDispatcher.l0 k x30 x31 (wrap64 (x32 + 1)) x523000 x523001 x523002 x523003 x523004)
end
def impl_IsDispatcher.f (k : Nat) (a0_0 : Int) (a0_1 : Int) (a0_2 : Int) (l0_3 : List (S61)) (l0_4 : List (S98)) : Option (Bool) := (impl_within.f a0_0 1 4).bind fun t523 => (if t523 = true then ((impl_within.f a0_1 1 4).bind fun t524 => (if t524 = true then ((impl_within.f a0_2 0 1000).bind fun t525 => (if t525 = true then ((impl_IsJobs.f k l0_3).bind fun t526 => (impl_IsDispatcher.j0 k (!t526) a0_0 a0_1 a0_2 l0_3 l0_4)) else (impl_IsDispatcher.j0 k true a0_0 a0_1 a0_2 l0_3 l0_4))) else (impl_IsDispatcher.j0 k true a0_0 a0_1 a0_2 l0_3 l0_4))) else (impl_IsDispatcher.j0 k true a0_0 a0_1 a0_2 l0_3 l0_4))
theorem impl_IsDispatcher.mono_l : ∀ k, (∀ y0 y1 y2 y3 y4 y5, LeO (impl_IsDispatcher.j0 k y0 y1 y2 y3 y4 y5) (impl_IsDispatcher.j0 (k + 1) y0 y1 y2 y3 y4 y5)) ∧ (∀ y0 y1 y2 y3 y4 y5 y6 y7, LeO (impl_IsDispatcher.l0 k y0 y1 y2 y3 y4 y5 y6 y7) (impl_IsDispatcher.l0 (k + 1) y0 y1 y2 y3 y4 y5 y6 y7)) ∧ (∀ y0 y1 y2 y3 y4 y5 y6 y7 y8 y9 y10 y11 y12, LeO (impl_IsDispatcher.j2 k y0 y1 y2 y3 y4 y5 y6 y7 y8 y9 y10 y11 y12) (impl_IsDispatcher.j2 (k + 1) y0 y1 y2 y3 y4 y5 y6 y7 y8 y9 y10 y11 y12)) ∧ (∀ y0 y1 y2 y3 y4 y5 y6 y7 y8 y9 y10 y11 y12, LeO (impl_IsDispatcher.j3 k y0 y1 y2 y3 y4 y5 y6 y7 y8 y9 y10 y11 y12) (impl_IsDispatcher.j3 (k + 1) y0 y1 y2 y3 y4 y5 y6 y7 y8 y9 y10 y11 y12)) ∧ (∀ y0 y1 y2 y3 y4 y5 y6 y7 y8 y9 y10 y11 y12 y13, LeO (impl_IsDispatcher.l1 k y0 y1 y2 y3 y4 y5 y6 y7 y8 y9 y10 y11 y12 y13) (impl_IsDispatcher.l1 (k + 1) y0 y1 y2 y3 y4 y5 y6 y7 y8 y9 y10 y11 y12 y13))
 | 0 => ⟨fun _ _ _ _ _ _ r h => by simp [impl_IsDispatcher.j0] at h, fun _ _ _ _ _ _ _ _ r h => by simp [impl_IsDispatcher.l0] at h, fun _ _ _ _ _ _ _ _ _ _ _ _ _ r h => by simp [impl_IsDispatcher.j2] at h, fun _ _ _ _ _ _ _ _ _ _ _ _ _ r h => by simp [impl_IsDispatcher.j3] at h, fun _ _ _ _ _ _ _ _ _ _ _ _ _ _ r h => by simp [impl_IsDispatcher.l1] at h⟩
 | k + 1 => by
  obtain ⟨ih0, ih1, ih2, ih3, ih4⟩ := impl_IsDispatcher.mono_l k
  refine ⟨?_, ?_, ?_, ?_, ?_⟩
  ·intro y0 y1 y2 y3 y4 y5
   unfold impl_IsDispatcher.j0
   repeat' first
   | (with_reducible exact ih0 _ _ _ _ _ _)
   | (with_reducible exact ih1 _ _ _ _ _ _ _ _)
   | (with_reducible exact ih2 _ _ _ _ _ _ _ _ _ _ _ _ _)
   | (with_reducible exact ih3 _ _ _ _ _ _ _ _ _ _ _ _ _)
   | (with_reducible exact ih4 _ _ _ _ _ _ _ _ _ _ _ _ _ _)
   | (with_reducible exact impl_IsJobs.mono _ _)
   | (with_reducible exact LeO.refl _)
   | (with_reducible exact LeO.none _)
   | (with_reducible refine LeO.ite ?_ ?_)
   | (with_reducible refine LeO.bind ?_ (fun _ => ?_))
   | exact ih0 _ _ _ _ _ _
   | exact ih1 _ _ _ _ _ _ _ _
   | exact ih2 _ _ _ _ _ _ _ _ _ _ _ _ _
   | exact ih3 _ _ _ _ _ _ _ _ _ _ _ _ _
   | exact ih4 _ _ _ _ _ _ _ _ _ _ _ _ _ _
   | exact impl_IsJobs.mono _ _
   | exact LeO.none _
   | refine LeO.ite ?_ ?_
   | refine LeO.bind ?_ (fun _ => ?_)
  ·intro y0 y1 y2 y3 y4 y5 y6 y7
   unfold impl_IsDispatcher.l0
   repeat' first
   | (with_reducible exact ih0 _ _ _ _ _ _)
   | (with_reducible exact ih1 _ _ _ _ _ _ _ _)
   | (with_reducible exact ih2 _ _ _ _ _ _ _ _ _ _ _ _ _)
   | (with_reducible exact ih3 _ _ _ _ _ _ _ _ _ _ _ _ _)
   | (with_reducible exact ih4 _ _ _ _ _ _ _ _ _ _ _ _ _ _)
   | (with_reducible exact impl_IsJobs.mono _ _)
   | (with_reducible exact LeO.refl _)
   | (with_reducible exact LeO.none _)
   | (with_reducible refine LeO.ite ?_ ?_)
   | (with_reducible refine LeO.bind ?_ (fun _ => ?_))
   | exact ih0 _ _ _ _ _ _
   | exact ih1 _ _ _ _ _ _ _ _
   | exact ih2 _ _ _ _ _ _ _ _ _ _ _ _ _
   | exact ih3 _ _ _ _ _ _ _ _ _ _ _ _ _
   | exact ih4 _ _ _ _ _ _ _ _ _ _ _ _ _ _
   | exact impl_IsJobs.mono _ _
   | exact LeO.none _
   | refine LeO.ite ?_ ?_
   | refine LeO.bind ?_ (fun _ => ?_)
  ·intro y0 y1 y2 y3 y4 y5 y6 y7 y8 y9 y10 y11 y12
   unfold impl_IsDispatcher.j2
   repeat' first
   | (with_reducible exact ih0 _ _ _ _ _ _)
   | (with_reducible exact ih1 _ _ _ _ _ _ _ _)
   | (with_reducible exact ih2 _ _ _ _ _ _ _ _ _ _ _ _ _)
   | (with_reducible exact ih3 _ _ _ _ _ _ _ _ _ _ _ _ _)
   | (with_reducible exact ih4 _ _ _ _ _ _ _ _ _ _ _ _ _ _)
   | (with_reducible exact impl_IsJobs.mono _ _)
   | (with_reducible exact LeO.refl _)
   | (with_reducible exact LeO.none _)
   | (with_reducible refine LeO.ite ?_ ?_)
   | (with_reducible refine LeO.bind ?_ (fun _ => ?_))
   | exact ih0 _ _ _ _ _ _
   | exact ih1 _ _ _ _ _ _ _ _
   | exact ih2 _ _ _ _ _ _ _ _ _ _ _ _ _
   | exact ih3 _ _ _ _ _ _ _ _ _ _ _ _ _
   | exact ih4 _ _ _ _ _ _ _ _ _ _ _ _ _ _
   | exact impl_IsJobs.mono _ _
   | exact LeO.none _
   | refine LeO.ite ?_ ?_
   | refine LeO.bind ?_ (fun _ => ?_)
  ·intro y0 y1 y2 y3 y4 y5 y6 y7 y8 y9 y10 y11 y12
   unfold impl_IsDispatcher.j3
   repeat' first
   | (with_reducible exact ih0 _ _ _ _ _ _)
   | (with_reducible exact ih1 _ _ _ _ _ _ _ _)
   | (with_reducible exact ih2 _ _ _ _ _ _ _ _ _ _ _ _ _)
   | (with_reducible exact ih3 _ _ _ _ _ _ _ _ _ _ _ _ _)
   | (with_reducible exact ih4 _ _ _ _ _ _ _ _ _ _ _ _ _ _)
   | (with_reducible exact impl_IsJobs.mono _ _)
   | (with_reducible exact LeO.refl _)
   | (with_reducible exact LeO.none _)
   | (with_reducible refine LeO.ite ?_ ?_)
   | (with_reducible refine LeO.bind ?_ (fun _ => ?_))
   | exact ih0 _ _ _ _ _ _
   | exact ih1 _ _ _ _ _ _ _ _
   | exact ih2 _ _ _ _ _ _ _ _ _ _ _ _ _
   | exact ih3 _ _ _ _ _ _ _ _ _ _ _ _ _
   | exact ih4 _ _ _ _ _ _ _ _ _ _ _ _ _ _
   | exact impl_IsJobs.mono _ _
   | exact LeO.none _
   | refine LeO.ite ?_ ?_
   | refine LeO.bind ?_ (fun _ => ?_)
  ·intro y0 y1 y2 y3 y4 y5 y6 y7 y8 y9 y10 y11 y12 y13
   unfold impl_IsDispatcher.l1
   repeat' first
   | (with_reducible exact ih0 _ _ _ _ _ _)
   | (with_reducible exact ih1 _ _ _ _ _ _ _ _)
   | (with_reducible exact ih2 _ _ _ _ _ _ _ _ _ _ _ _ _)
   | (with_reducible exact ih3 _ _ _ _ _ _ _ _ _ _ _ _ _)
   | (with_reducible exact ih4 _ _ _ _ _ _ _ _ _ _ _ _ _ _)
   | (with_reducible exact impl_IsJobs.mono _ _)
   | (with_reducible exact LeO.refl _)
   | (with_reducible exact LeO.none _)
   | (with_reducible refine LeO.ite ?_ ?_)
   | (with_reducible refine LeO.bind ?_ (fun _ => ?_))
   | exact ih0 _ _ _ _ _ _
   | exact ih1 _ _ _ _ _ _ _ _
   | exact ih2 _ _ _ _ _ _ _ _ _ _ _ _ _
   | exact ih3 _ _ _ _ _ _ _ _ _ _ _ _ _
   | exact ih4 _ _ _ _ _ _ _ _ _ _ _ _ _ _
   | exact impl_IsJobs.mono _ _
   | exact LeO.none _
   | refine LeO.ite ?_ ?_
   | refine LeO.bind ?_ (fun _ => ?_)
theorem impl_IsDispatcher.mono : ∀ a0 a1 a2 a3 a4 k, LeO (impl_IsDispatcher.f k a0 a1 a2 a3 a4) (impl_IsDispatcher.f (k + 1) a0 a1 a2 a3 a4) := by
 intro a0 a1 a2 a3 a4 k
 obtain ⟨ih0, ih1, ih2, ih3, ih4⟩ := impl_IsDispatcher.mono_l k
 unfold impl_IsDispatcher.f
 repeat' first
   | (with_reducible exact ih0 _ _ _ _ _ _)
   | (with_reducible exact ih1 _ _ _ _ _ _ _ _)
   | (with_reducible exact ih2 _ _ _ _ _ _ _ _ _ _ _ _ _)
   | (with_reducible exact ih3 _ _ _ _ _ _ _ _ _ _ _ _ _)
   | (with_reducible exact ih4 _ _ _ _ _ _ _ _ _ _ _ _ _ _)
   | (with_reducible exact impl_IsJobs.mono _ _)
   | (with_reducible exact LeO.refl _)
   | (with_reducible exact LeO.none _)
   | (with_reducible refine LeO.ite ?_ ?_)
   | (with_reducible refine LeO.bind ?_ (fun _ => ?_))
   | exact ih0 _ _ _ _ _ _
   | exact ih1 _ _ _ _ _ _ _ _
   | exact ih2 _ _ _ _ _ _ _ _ _ _ _ _ _
   | exact ih3 _ _ _ _ _ _ _ _ _ _ _ _ _
   | exact ih4 _ _ _ _ _ _ _ _ _ _ _ _ _ _
   | exact impl_IsJobs.mono _ _
   | exact LeO.none _
   | refine LeO.ite ?_ ?_
   | refine LeO.bind ?_ (fun _ => ?_)
def impl_IsDispatcher.T6 : Bool × List (List Nat × List Nat) := (true, [([], []), ([0], [0]), ([], []), ([2], [2]), ([3], [3]), ([1, 4], [1, 4]), ([5], [5]), ([6, 5], [6]), ([7], [7]), ([8, 7], [7, 8]), ([7], [7]), ([10, 7], [7, 10]), ([9, 11, 7, 7], [7, 9, 11]), ([12, 7], [7, 12]), ([7, 13], [7, 13]), ([14, 12], [14]), ([15], [15]), ([16, 15], [15, 16]), ([15], [15]), ([18, 15], [15, 18]), ([15], [15]), ([20, 15], [15, 20]), ([19, 21, 15], [15, 19, 21]), ([22, 15], [15, 22]), ([23, 15], [15, 23]), ([15], [15]), ([25, 15], [15, 25]), ([26, 15], [15, 26]), ([17, 24, 27, 15, 15], [15, 17, 24, 27]), ([28, 15], [15, 28]), ([15, 29], [15, 29])])
def impl_IsDispatcher.B6 : List Nat := [0, 1, 0, 4, 12, 31, 63, 127, 255, 511, 255, 1279, 4095, 8191, 16383, 32767, 65535, 131071, 65535, 327679, 65535, 1114111, 3997695, 8191999, 16580607, 65535, 33619967, 100728831, 268435455, 536870911, 1073741823]
theorem impl_IsDispatcher.tab6 : rtab .any (opsOf Try.f76 6) = impl_IsDispatcher.T6 := by kernel_rfl
theorem impl_IsDispatcher.bits6 : waitsOk impl_IsDispatcher.T6.2 impl_IsDispatcher.B6 = true := by kernel_rfl
def impl_IsDispatcher.T8 : Bool × List (List Nat × List Nat) := (true, [([], []), ([0], [0]), ([1], [1]), ([2], [2]), ([3, 2], [2, 3]), ([2], [2]), ([5, 2], [2, 5]), ([4, 6, 2], [2, 4, 6]), ([7, 2], [2, 7]), ([8, 2], [2, 8]), ([2], [2]), ([10, 2], [2, 10]), ([9, 11, 2], [2, 9, 11]), ([12, 2, 2], [2, 12]), ([13], [13]), ([14, 13], [13, 14]), ([13], [13]), ([16, 13], [13, 16]), ([15, 17, 13], [13, 15, 17]), ([18, 13], [13, 18]), ([19, 13], [13, 19]), ([13], [13]), ([21, 13], [13, 21]), ([20, 22, 13], [13, 20, 22]), ([23, 13, 13], [13, 23]), ([24], [24]), ([25, 24], [24, 25]), ([24], [24]), ([27, 24], [24, 27]), ([26, 28, 24], [24, 26, 28]), ([29, 24], [24, 29]), ([30, 24], [24, 30]), ([24], [24]), ([32, 24], [24, 32]), ([31, 33, 24], [24, 31, 33]), ([24, 34, 13], [13, 24, 34]), ([13, 35, 2], [2, 13, 35]), ([2, 36], [2, 36])])
def impl_IsDispatcher.B8 : List Nat := [0, 1, 3, 7, 15, 7, 39, 127, 255, 511, 7, 1031, 4095, 8191, 16383, 32767, 16383, 81919, 262143, 524287, 1048575, 16383, 2113535, 8388607, 16777215, 33554431, 67108863, 33554431, 167772159, 536870911, 1073741823, 2147483647, 33554431, 4328521727, 17179869183, 34359738367, 68719476735, 137438953471]
theorem impl_IsDispatcher.tab8 : rtab .any (opsOf Try.f76 8) = impl_IsDispatcher.T8 := by kernel_rfl
theorem impl_IsDispatcher.bits8 : waitsOk impl_IsDispatcher.T8.2 impl_IsDispatcher.B8 = true := by kernel_rfl
def impl_IsDispatcher.T13 : Bool × List (List Nat × List Nat) := (true, [([], []), ([0], [0]), ([], []), ([2], [2]), ([1, 3], [1, 3]), ([4], [4]), ([5], [5]), ([6, 5], [5, 6]), ([5], [5]), ([8, 5], [5, 8]), ([7, 9, 5], [5, 7, 9]), ([10, 5, 5], [5, 10]), ([11], [11]), ([11], [11]), ([12, 13, 11, 11], [11, 12, 13]), ([11], [11]), ([15, 11], [11, 15]), ([14, 16, 11], [11, 14, 16]), ([11, 17, 5], [5, 11, 17]), ([5, 18], [5, 18])])
def impl_IsDispatcher.B13 : List Nat := [0, 1, 0, 4, 15, 31, 63, 127, 63, 319, 1023, 2047, 4095, 4095, 16383, 4095, 36863, 131071, 262143, 524287]
theorem impl_IsDispatcher.tab13 : rtab .any (opsOf Try.f76 13) = impl_IsDispatcher.T13 := by kernel_rfl
theorem impl_IsDispatcher.bits13 : waitsOk impl_IsDispatcher.T13.2 impl_IsDispatcher.B13 = true := by kernel_rfl
set_option maxHeartbeats 8000000 in
set_option maxRecDepth 100000 in
theorem impl_IsDispatcher.calls (k : Nat) (a0_0 : Int) (a0_1 : Int) (a0_2 : Int) (A0_3 : Option Addr) (c0_3 : Nat) (l0_3 : List (S61)) (A0_4 : Option Addr) (c0_4 : Nat) (l0_4 : List (S98)) (r : Bool) (w : World) (hr0_3 : Kd.C k61 w A0_3 l0_3.length l0_3) (hc0_3 : l0_3.length ≤ c0_3) (hr0_4 : Kd.C k98 w A0_4 l0_4.length l0_4) (hc0_4 : l0_4.length ≤ c0_4) (h : impl_IsDispatcher.f k a0_0 a0_1 a0_2 l0_3 l0_4 = some r) :
  Calls Try.prog 76 #[.agg #[.int .i64 a0_0, .int .i64 a0_1, .int .i64 a0_2, .slice A0_3 l0_3.length c0_3, .slice A0_4 l0_4.length c0_4]] w fun e w' => e = .returned (.bool r) ∧ Below w.heap.size w w' := by
 have hu43 := Try.underlying43
 have hu98 := Try.underlying98
 have HR0_3 := Aside0.mk hr0_3
 have HC0_3 := Aside0.mk hc0_3
 clear hr0_3 hc0_3
 have HR0_4 := Aside0.mk hr0_4
 have HC0_4 := Aside0.mk hc0_4
 clear hr0_4 hc0_4
 have HB := Aside0.mk (Below.refl w.heap.size w)
 have H : ((impl_within.f a0_0 1 4).bind fun t523 => (if t523 = true then ((impl_within.f a0_1 1 4).bind fun t524 => (if t524 = true then ((impl_within.f a0_2 0 1000).bind fun t525 => (if t525 = true then ((impl_IsJobs.f k l0_3).bind fun t526 => (impl_IsDispatcher.j0 k (!t526) a0_0 a0_1 a0_2 l0_3 l0_4)) else (impl_IsDispatcher.j0 k true a0_0 a0_1 a0_2 l0_3 l0_4))) else (impl_IsDispatcher.j0 k true a0_0 a0_1 a0_2 l0_3 l0_4))) else (impl_IsDispatcher.j0 k true a0_0 a0_1 a0_2 l0_3 l0_4))) = some r := h
 clear h
 have HC2 := Aside0.mk H
 clear H
 go_enter Try.func76, Try.ntmps76
 go_upto_region 1 with (first | ((with_reducible refine gate_dst (N := 1) rfl ?_); refine box_event ?hg (N := 1) ?hd (cs := #[.int .i64 a0_0, .int .i64 a0_1, .int .i64 a0_2, .slice A0_3 l0_3.length c0_3, .slice A0_4 l0_4.length c0_4]) (t := 43) ?hr ?_; (case hd => rfl); (case hg => rfl); (case hr => first | (go_simp; done) | (go_simp; rfl)); intro gb522 hg w3 hbox hb; have n0_ := Aside0.mk (below_step (bw HB.out) hb); have n1_ := Aside0.mk (hbox); have n2_ := ge_ hg HB.out; have n3_ := ge_ hg HB.out; replace HB := n0_; have BK522 := n1_; have GW522 := n2_; have GE522 := n3_; clear n0_ n1_ n2_ n3_; clear hb hbox hg))
 (try simp only [Act.put, List.setIfInBounds_toArray, List.set_cons_zero, List.set_cons_succ])
 go_cut [28] (fun v28 wc => ∃ (kq : Nat) (x28_1 : Bool), v28 = .bool x28_1 ∧ Aside0 (impl_IsDispatcher.j0 kq x28_1 a0_0 a0_1 a0_2 l0_3 l0_4 = some r) ∧ Aside0 (kq ≤ k) ∧ Aside0 (wc.heap[gb522]? = some (.cells #[.int .i64 a0_0, .int .i64 a0_1, .int .i64 a0_2, (.slice A0_3 l0_3.length c0_3), (.slice A0_4 l0_4.length c0_4)] 43 (0, 0))) ∧ Aside0 (Below w.heap.size w wc))
 case first =>
  have H := HC2.out
  clear HC2
  replace H := Option.bind_eq_some_iff.mp H
  obtain ⟨t523, A40, H⟩ := H
  replace H : (if t523 = true then ((impl_within.f a0_1 1 4).bind fun t524 => (if t524 = true then ((impl_within.f a0_2 0 1000).bind fun t525 => (if t525 = true then ((impl_IsJobs.f k l0_3).bind fun t526 => (impl_IsDispatcher.j0 k (!t526) a0_0 a0_1 a0_2 l0_3 l0_4)) else (impl_IsDispatcher.j0 k true a0_0 a0_1 a0_2 l0_3 l0_4))) else (impl_IsDispatcher.j0 k true a0_0 a0_1 a0_2 l0_3 l0_4))) else (impl_IsDispatcher.j0 k true a0_0 a0_1 a0_2 l0_3 l0_4)) = some r := H
  have A4 := Aside0.mk A40
  clear A40
  by_cases c5 : t523 = true
  rotate_left
  ·replace c5 := Bool.eq_false_iff.mpr c5
   subst c5
   have H1 : (impl_IsDispatcher.j0 k true a0_0 a0_1 a0_2 l0_3 l0_4) = some r := by rw [if_neg (show ¬ (false = true) by decide)] at H; exact H
   clear H
   have H := H1
   clear H1
   have H' := Aside0.mk H
   clear H
   obtain ⟨hcz15_0, hcz15_1, hcz15_2, hcz15_3, hcz15_4, hfz15_0, hfz15_1, hfz15_2, hfz15_3, hfz15_4⟩ := bz5 BK522.out
   go_wp2_with (first | ((with_reducible refine gate_callee (f := 70) rfl ?_); refine goesL_ (some 9) rfl rfl Try.func70 (by kernel_rfl) rfl #[.int .i64 a0_0, .int .i64 1, .int .i64 4] rfl (by (try simp only [mA_]); first | done | rfl | (simp only [List.length_drop, List.length_take]; rfl)) ?_; (with_reducible refine (impl_within.calls a0_0 1 4 false _ A4.out).mono ?_); rintro e w' ⟨rfl, ⟨nd, rfl⟩⟩; refine ⟨_, rfl, ?_⟩))
   go_meet
   case rel => exact ⟨_, (true), (by first | rfl | (simp; done) | (simp [*]; done)), H', ⟨by first | omega | exact Nat.le_refl _⟩, ⟨bs BK522.out⟩, ⟨by repeat (first | (with_reducible first | exact bw HB.out | refine bset ?_ | apply bA | apply bN | apply bD) | exact HB.out)⟩⟩
  subst c5
  have H1 : ((impl_within.f a0_1 1 4).bind fun t524 => (if t524 = true then ((impl_within.f a0_2 0 1000).bind fun t525 => (if t525 = true then ((impl_IsJobs.f k l0_3).bind fun t526 => (impl_IsDispatcher.j0 k (!t526) a0_0 a0_1 a0_2 l0_3 l0_4)) else (impl_IsDispatcher.j0 k true a0_0 a0_1 a0_2 l0_3 l0_4))) else (impl_IsDispatcher.j0 k true a0_0 a0_1 a0_2 l0_3 l0_4))) = some r := by rw [if_pos rfl] at H; exact H
  clear H
  have H := H1
  clear H1
  replace H := Option.bind_eq_some_iff.mp H
  obtain ⟨t524, A60, H⟩ := H
  replace H : (if t524 = true then ((impl_within.f a0_2 0 1000).bind fun t525 => (if t525 = true then ((impl_IsJobs.f k l0_3).bind fun t526 => (impl_IsDispatcher.j0 k (!t526) a0_0 a0_1 a0_2 l0_3 l0_4)) else (impl_IsDispatcher.j0 k true a0_0 a0_1 a0_2 l0_3 l0_4))) else (impl_IsDispatcher.j0 k true a0_0 a0_1 a0_2 l0_3 l0_4)) = some r := H
  have A6 := Aside0.mk A60
  clear A60
  by_cases c7 : t524 = true
  rotate_left
  ·replace c7 := Bool.eq_false_iff.mpr c7
   subst c7
   have H1 : (impl_IsDispatcher.j0 k true a0_0 a0_1 a0_2 l0_3 l0_4) = some r := by rw [if_neg (show ¬ (false = true) by decide)] at H; exact H
   clear H
   have H := H1
   clear H1
   have H' := Aside0.mk H
   clear H
   obtain ⟨hcz14_0, hcz14_1, hcz14_2, hcz14_3, hcz14_4, hfz14_0, hfz14_1, hfz14_2, hfz14_3, hfz14_4⟩ := bz5 BK522.out
   go_wp2_with (first | ((with_reducible refine gate_callee (f := 70) rfl ?_); refine goesL_ (some 9) rfl rfl Try.func70 (by kernel_rfl) rfl #[.int .i64 a0_0, .int .i64 1, .int .i64 4] rfl (by (try simp only [mA_]); first | done | rfl | (simp only [List.length_drop, List.length_take]; rfl)) ?_; (with_reducible refine (impl_within.calls a0_0 1 4 true _ A4.out).mono ?_); rintro e w' ⟨rfl, ⟨nd, rfl⟩⟩; refine ⟨_, rfl, ?_⟩) | (go_at_call 70; (with_reducible refine (impl_within.calls a0_1 1 4 false _ A6.out).mono ?_); rintro e w' ⟨rfl, ⟨nd, rfl⟩⟩))
   go_meet
   case rel => exact ⟨_, (true), (by first | rfl | (simp; done) | (simp [*]; done)), H', ⟨by first | omega | exact Nat.le_refl _⟩, ⟨bs BK522.out⟩, ⟨by repeat (first | (with_reducible first | exact bw HB.out | refine bset ?_ | apply bA | apply bN | apply bD) | exact HB.out)⟩⟩
  subst c7
  have H1 : ((impl_within.f a0_2 0 1000).bind fun t525 => (if t525 = true then ((impl_IsJobs.f k l0_3).bind fun t526 => (impl_IsDispatcher.j0 k (!t526) a0_0 a0_1 a0_2 l0_3 l0_4)) else (impl_IsDispatcher.j0 k true a0_0 a0_1 a0_2 l0_3 l0_4))) = some r := by rw [if_pos rfl] at H; exact H
  clear H
  have H := H1
  clear H1
  replace H := Option.bind_eq_some_iff.mp H
  obtain ⟨t525, A80, H⟩ := H
  replace H : (if t525 = true then ((impl_IsJobs.f k l0_3).bind fun t526 => (impl_IsDispatcher.j0 k (!t526) a0_0 a0_1 a0_2 l0_3 l0_4)) else (impl_IsDispatcher.j0 k true a0_0 a0_1 a0_2 l0_3 l0_4)) = some r := H
  have A8 := Aside0.mk A80
  clear A80
  by_cases c9 : t525 = true
  rotate_left
  ·replace c9 := Bool.eq_false_iff.mpr c9
   subst c9
   have H1 : (impl_IsDispatcher.j0 k true a0_0 a0_1 a0_2 l0_3 l0_4) = some r := by rw [if_neg (show ¬ (false = true) by decide)] at H; exact H
   clear H
   have H := H1
   clear H1
   have H' := Aside0.mk H
   clear H
   obtain ⟨hcz13_0, hcz13_1, hcz13_2, hcz13_3, hcz13_4, hfz13_0, hfz13_1, hfz13_2, hfz13_3, hfz13_4⟩ := bz5 BK522.out
   go_wp2_with (first | ((with_reducible refine gate_callee (f := 70) rfl ?_); refine goesL_ (some 9) rfl rfl Try.func70 (by kernel_rfl) rfl #[.int .i64 a0_0, .int .i64 1, .int .i64 4] rfl (by (try simp only [mA_]); first | done | rfl | (simp only [List.length_drop, List.length_take]; rfl)) ?_; (with_reducible refine (impl_within.calls a0_0 1 4 true _ A4.out).mono ?_); rintro e w' ⟨rfl, ⟨nd, rfl⟩⟩; refine ⟨_, rfl, ?_⟩) | (go_at_call 70; (with_reducible refine (impl_within.calls a0_1 1 4 true _ A6.out).mono ?_); rintro e w' ⟨rfl, ⟨nd, rfl⟩⟩) | (go_at_call 70; (with_reducible refine (impl_within.calls a0_2 0 1000 false _ A8.out).mono ?_); rintro e w' ⟨rfl, ⟨nd, rfl⟩⟩))
   go_meet
   case rel => exact ⟨_, (true), (by first | rfl | (simp; done) | (simp [*]; done)), H', ⟨by first | omega | exact Nat.le_refl _⟩, ⟨bs BK522.out⟩, ⟨by repeat (first | (with_reducible first | exact bw HB.out | refine bset ?_ | apply bA | apply bN | apply bD) | exact HB.out)⟩⟩
  subst c9
  have H1 : ((impl_IsJobs.f k l0_3).bind fun t526 => (impl_IsDispatcher.j0 k (!t526) a0_0 a0_1 a0_2 l0_3 l0_4)) = some r := by rw [if_pos rfl] at H; exact H
  clear H
  have H := H1
  clear H1
  replace H := Option.bind_eq_some_iff.mp H
  obtain ⟨t526, A100, H⟩ := H
  replace H : (impl_IsDispatcher.j0 k (!t526) a0_0 a0_1 a0_2 l0_3 l0_4) = some r := H
  have A10 := Aside0.mk A100
  clear A100
  have H' := Aside0.mk H
  clear H
  obtain ⟨hcz11_0, hcz11_1, hcz11_2, hcz11_3, hcz11_4, hfz11_0, hfz11_1, hfz11_2, hfz11_3, hfz11_4⟩ := bz5 BK522.out
  go_wp2_with (first | ((with_reducible refine gate_callee (f := 70) rfl ?_); refine goesL_ (some 9) rfl rfl Try.func70 (by kernel_rfl) rfl #[.int .i64 a0_0, .int .i64 1, .int .i64 4] rfl (by (try simp only [mA_]); first | done | rfl | (simp only [List.length_drop, List.length_take]; rfl)) ?_; (with_reducible refine (impl_within.calls a0_0 1 4 true _ A4.out).mono ?_); rintro e w' ⟨rfl, ⟨nd, rfl⟩⟩; refine ⟨_, rfl, ?_⟩) | (go_at_call 70; (with_reducible refine (impl_within.calls a0_1 1 4 true _ A6.out).mono ?_); rintro e w' ⟨rfl, ⟨nd, rfl⟩⟩) | (go_at_call 70; (with_reducible refine (impl_within.calls a0_2 0 1000 true _ A8.out).mono ?_); rintro e w' ⟨rfl, ⟨nd, rfl⟩⟩) | (go_at_call 37; (with_reducible refine (impl_IsJobs.calls k _ _ l0_3 t526 _ ?side1 ?side2 A10.out).mono ?_); (case side1 => repeat (first | exact (Kd.C_below HR0_3.out (by repeat (first | (with_reducible first | exact bw HB.out | refine bset ?_ | apply bA | apply bN | apply bD) | exact HB.out))) | (with_reducible refine Kd.C_alloc ?_ _) | (with_reducible refine Kd.C_drewN ?_ _) | (with_reducible refine Kd.C_drew ?_))); (case side2 => exact HC0_3.out); rintro e w12 ⟨rfl, hb⟩; have n0_ := Aside0.mk (blk_below (bs BK522.out) hb); have n1_ := Aside0.mk (below_step (by repeat (first | (with_reducible first | exact bw HB.out | refine bset ?_ | apply bA | apply bN | apply bD) | exact HB.out)) hb); replace BK522 := n0_; replace HB := n1_; clear n0_ n1_; (try clear hb); (try clear hb2); (try clear hk); (try clear hi)))
  go_meet
  case rel => exact ⟨_, (!t526), (by first | rfl | (simp; done) | (simp [*]; done)), H', ⟨by first | omega | exact Nat.le_refl _⟩, ⟨bs BK522.out⟩, ⟨by repeat (first | (with_reducible first | exact bw HB.out | refine bset ?_ | apply bA | apply bN | apply bD) | exact HB.out)⟩⟩
 case rest =>
  clear HC2
  try clear p2
  try clear c5
  try clear c7
  try clear c9
  try clear hcz11_0
  try clear hcz11_1
  try clear hcz11_2
  try clear hcz11_3
  try clear hcz11_4
  try clear hcz13_0
  try clear hcz13_1
  try clear hcz13_2
  try clear hcz13_3
  try clear hcz13_4
  try clear hcz14_0
  try clear hcz14_1
  try clear hcz14_2
  try clear hcz14_3
  try clear hcz14_4
  try clear hcz15_0
  try clear hcz15_1
  try clear hcz15_2
  try clear hcz15_3
  try clear hcz15_4
  try clear hfz11_0
  try clear hfz11_1
  try clear hfz11_2
  try clear hfz11_3
  try clear hfz11_4
  try clear hfz13_0
  try clear hfz13_1
  try clear hfz13_2
  try clear hfz13_3
  try clear hfz13_4
  try clear hfz14_0
  try clear hfz14_1
  try clear hfz14_2
  try clear hfz14_3
  try clear hfz14_4
  try clear hfz15_0
  try clear hfz15_1
  try clear hfz15_2
  try clear hfz15_3
  try clear hfz15_4
  obtain ⟨kq, x28_1, rfl, HA, HJ1, BK522, HB⟩ := hcut
  cases kq with
  | zero => exact absurd HA.out (by simp [impl_IsDispatcher.j0])
  | succ kj1 =>
   have H := HA.out
   clear HA
   simp only [impl_IsDispatcher.j0] at H
   by_cases c16 : x28_1 = true
   ·subst c16
    have H1 : (some false) = some r := by rw [if_pos rfl] at H; exact H
    clear H
    have H := H1
    clear H1
    obtain rfl := Option.some.inj H
    go_wp2
    go_ret
    exact ⟨by first | rfl | (simp [errW_none, errW_some] <;> rfl) | (simp [*, errW_none, errW_some] <;> rfl), by repeat (first | (with_reducible first | exact bw HB.out | refine bset ?_ | apply bA | apply bN | apply bD) | exact HB.out)⟩
   replace c16 := Bool.eq_false_iff.mpr c16
   subst c16
   have H1 : (impl_IsDispatcher.l0 kj1 l0_4 (l0_4.length : Int) 0 a0_0 a0_1 a0_2 l0_3 l0_4) = some r := by rw [if_neg (show ¬ (false = true) by decide)] at H; exact H
   clear H
   have H := H1
   clear H1
   have H' := Aside0.mk H
   clear H
   obtain ⟨hcz17_0, hcz17_1, hcz17_2, hcz17_3, hcz17_4, hfz17_0, hfz17_1, hfz17_2, hfz17_3, hfz17_4⟩ := bz5 BK522.out
   go_wp2
   go_loopg [32] kj1 (fun kq v32 w' => ∃ (x32_2 : Int), v32 = .int .i64 x32_2 ∧ Aside0 (impl_IsDispatcher.l0 kq l0_4 (l0_4.length : Int) x32_2 a0_0 a0_1 a0_2 l0_3 l0_4 = some r) ∧ Aside0 (kq ≤ kj1) ∧ Aside0 (w'.heap[gb522]? = some (.cells #[.int .i64 a0_0, .int .i64 a0_1, .int .i64 a0_2, (.slice A0_3 l0_3.length c0_3), (.slice A0_4 l0_4.length c0_4)] 43 (0, 0))) ∧ Aside0 (Below w.heap.size w w'))
   case atStart => exact ⟨(0), (by first | rfl | (simp; done) | (simp [*]; done)), H', ⟨Nat.le_refl _⟩, ⟨bs BK522.out⟩, ⟨by repeat (first | (with_reducible first | exact bw HB.out | refine bset ?_ | apply bA | apply bN | apply bD) | exact HB.out)⟩⟩
   case round =>
    clear H'
    try clear c1
    try clear p2
    try clear c5
    try clear c7
    try clear c9
    try clear c16
    try clear hcz11_0
    try clear hcz11_1
    try clear hcz11_2
    try clear hcz11_3
    try clear hcz11_4
    try clear hcz13_0
    try clear hcz13_1
    try clear hcz13_2
    try clear hcz13_3
    try clear hcz13_4
    try clear hcz14_0
    try clear hcz14_1
    try clear hcz14_2
    try clear hcz14_3
    try clear hcz14_4
    try clear hcz15_0
    try clear hcz15_1
    try clear hcz15_2
    try clear hcz15_3
    try clear hcz15_4
    try clear hcz17_0
    try clear hcz17_1
    try clear hcz17_2
    try clear hcz17_3
    try clear hcz17_4
    try clear hfz11_0
    try clear hfz11_1
    try clear hfz11_2
    try clear hfz11_3
    try clear hfz11_4
    try clear hfz13_0
    try clear hfz13_1
    try clear hfz13_2
    try clear hfz13_3
    try clear hfz13_4
    try clear hfz14_0
    try clear hfz14_1
    try clear hfz14_2
    try clear hfz14_3
    try clear hfz14_4
    try clear hfz15_0
    try clear hfz15_1
    try clear hfz15_2
    try clear hfz15_3
    try clear hfz15_4
    try clear hfz17_0
    try clear hfz17_1
    try clear hfz17_2
    try clear hfz17_3
    try clear hfz17_4
    try clear p2
    obtain ⟨x32_2, rfl, HA, HK2, BK522, HB⟩ := hrel
    cases gk with
    | zero => exact absurd HA.out (by simp [impl_IsDispatcher.l0])
    | succ k2 =>
     have H := HA.out
     clear HA
     simp only [impl_IsDispatcher.l0] at H
     by_cases c18 : x32_2 < (l0_4.length : Int)
     rotate_left
     ·rw [if_neg c18] at H
      have c18b0 : decide (x32_2 < (l0_4.length : Int)) = false := decide_eq_false c18
      clear c18
      obtain rfl := Option.some.inj H
      go_wp2
      go_ret
      exact ⟨by first | rfl | (simp [errW_none, errW_some] <;> rfl) | (simp [*, errW_none, errW_some] <;> rfl), by repeat (first | (with_reducible first | exact bw HB.out | refine bset ?_ | apply bA | apply bN | apply bD) | exact HB.out)⟩
     rw [if_pos c18] at H
     have c18b0 : decide (x32_2 < (l0_4.length : Int)) = true := decide_eq_true c18
     clear c18
     by_cases c19 : 0 ≤ x32_2
     rotate_left
     ·rw [if_neg c19] at H
      exact absurd H (by simp)
     rw [if_pos c19] at H
     have c19b0 : decide (0 ≤ x32_2) = true := decide_eq_true c19
     clear c19
     by_cases c20 : x32_2 < (l0_4.length : Int)
     rotate_left
     ·rw [if_neg c20] at H
      exact absurd H (by simp)
     rw [if_pos c20] at H
     have c20b0 : decide (x32_2 < (l0_4.length : Int)) = true := decide_eq_true c20
     clear c20
     have HC21 := Aside0.mk H
     clear H
     have p527 : 0 ≤ (x32_2 : Int) := of_decide_eq_true (by first | (with_reducible assumption) | assumption)
     have q527 : x32_2 < (l0_4.length : Int) := of_decide_eq_true (by first | (with_reducible assumption) | assumption)
     obtain ⟨ad527, e527, hx527_0, hx527_1, hx527_2⟩ := at_T98 HR0_4.out x32_2 p527 q527
     cases e527
     replace hx527_0 := (HB.out.cell (World.block_lt_of_cell? w _ hx527_0)).trans hx527_0
     replace hx527_1 := (HB.out.cell (World.block_lt_of_cell? w _ hx527_1)).trans hx527_1
     replace hx527_2 := (HB.out.cell (World.block_lt_of_cell? w _ hx527_2)).trans hx527_2
     replace p527 := eq_true p527
     replace q527 := eq_true q527
     go_upto_region 6 with (first | ((with_reducible refine gate_dst (N := 4) rfl ?_); refine box_event ?hg (N := 4) ?hd (cs := #[.int .i64 0, .int .i64 0, .int .i64 0]) (t := 98) ?hr ?_; (case hd => rfl); (case hg => rfl); (case hr => first | (go_simp; done) | (go_simp; rfl)); intro gb528 hg w22 hbox hb; have n0_ := Aside0.mk (blk_below (bs BK522.out) hb); have n1_ := Aside0.mk (below_step (by repeat (first | (with_reducible first | exact bw HB.out | refine bset ?_ | apply bA | apply bN | apply bD) | exact HB.out)) hb); have n2_ := Aside0.mk (hbox); have n3_ := Aside0.mk ((by rw [hg]; exact (below_size (by repeat (first | (with_reducible first | exact bw HB.out | refine bset ?_ | apply bA | apply bN | apply bD) | exact HB.out))) : w.heap.size ≤ gb528)); have n4_ := Aside0.mk ((by rw [hg]; exact (below_size (by repeat (first | (with_reducible first | exact bw HB.out | refine bset ?_ | apply bA | apply bN | apply bD) | exact HB.out))) : w.heap.size ≤ gb528)); have n5_ := ne_ hg BK522.out; have n6_ := en_ hg BK522.out; replace BK522 := n0_; replace HB := n1_; have BK528 := n2_; have GW528 := n3_; have GE528 := n4_; have NB522_528 := n5_; have NB528_522 := n6_; clear n0_ n1_ n2_ n3_ n4_ n5_ n6_; clear hb hbox hg; have hnb23 := NB528_522.out; have hnc23 := NB522_528.out; obtain ⟨hcz24_0, hcz24_1, hcz24_2, hfz24_0, hfz24_1, hfz24_2⟩ := bz3 BK528.out))
     (try simp only [Act.put, List.setIfInBounds_toArray, List.set_cons_zero, List.set_cons_succ])
     go_cut [67] (fun v67 wc => ∃ (kq : Nat) (x67_20 : Bool), v67 = .bool x67_20 ∧ Aside0 (impl_IsDispatcher.j2 kq x32_2 l0_4 (l0_4.length : Int) x32_2 x67_20 a0_0 a0_1 a0_2 l0_3 l0_4 ((rd_T98 l0_4 x32_2).f0) ((rd_T98 l0_4 x32_2).f1) ((rd_T98 l0_4 x32_2).f2) = some r) ∧ Aside0 (kq ≤ k2) ∧ Aside0 (wc.heap[gb522]? = some (.cells #[.int .i64 a0_0, .int .i64 a0_1, .int .i64 a0_2, (.slice A0_3 l0_3.length c0_3), (.slice (some ad527) l0_4.length c0_4)] 43 (0, 0))) ∧ Aside0 (wc.heap[gb528]? = some (.cells #[.int .i64 ((rd_T98 l0_4 x32_2).f0), .int .i64 ((rd_T98 l0_4 x32_2).f1), .int .i64 ((rd_T98 l0_4 x32_2).f2)] 98 (0, 0))) ∧ Aside0 (Below w.heap.size w wc))
     case first =>
      have H := HC21.out
      clear HC21
      replace H := Option.bind_eq_some_iff.mp H
      obtain ⟨t529, A250, H⟩ := H
      replace H : (if t529 = true then ((impl_isNumber.f ((rd_T98 l0_4 x32_2).f1) a0_0).bind fun t530 => (if t530 = true then (if 0 ≤ ((rd_T98 l0_4 x32_2).f0) then (if ((rd_T98 l0_4 x32_2).f0) < (l0_3.length : Int) then ((impl_within.f ((rd_T98 l0_4 x32_2).f2) ((rd_T61 l0_3 ((rd_T98 l0_4 x32_2).f0)).f2) (wrap64 (a0_2 - 1))).bind fun t532 => (impl_IsDispatcher.j2 k2 x32_2 l0_4 (l0_4.length : Int) x32_2 (!t532) a0_0 a0_1 a0_2 l0_3 l0_4 ((rd_T98 l0_4 x32_2).f0) ((rd_T98 l0_4 x32_2).f1) ((rd_T98 l0_4 x32_2).f2))) else (none)) else (none)) else (impl_IsDispatcher.j2 k2 x32_2 l0_4 (l0_4.length : Int) x32_2 true a0_0 a0_1 a0_2 l0_3 l0_4 ((rd_T98 l0_4 x32_2).f0) ((rd_T98 l0_4 x32_2).f1) ((rd_T98 l0_4 x32_2).f2)))) else (impl_IsDispatcher.j2 k2 x32_2 l0_4 (l0_4.length : Int) x32_2 true a0_0 a0_1 a0_2 l0_3 l0_4 ((rd_T98 l0_4 x32_2).f0) ((rd_T98 l0_4 x32_2).f1) ((rd_T98 l0_4 x32_2).f2))) = some r := H
      have A25 := Aside0.mk A250
      clear A250
      by_cases c26 : t529 = true
      rotate_left
      ·replace c26 := Bool.eq_false_iff.mpr c26
       subst c26
       have H1 : (impl_IsDispatcher.j2 k2 x32_2 l0_4 (l0_4.length : Int) x32_2 true a0_0 a0_1 a0_2 l0_3 l0_4 ((rd_T98 l0_4 x32_2).f0) ((rd_T98 l0_4 x32_2).f1) ((rd_T98 l0_4 x32_2).f2)) = some r := by rw [if_neg (show ¬ (false = true) by decide)] at H; exact H
       clear H
       have H := H1
       clear H1
       have H' := Aside0.mk H
       clear H
       try go_wp2
       have n0_ : Aside0 ((((w22.setCell ⟨gb528, 0, none⟩ (.int .i64 ((rd_T98 l0_4 x32_2).f0))).setCell ⟨gb528, 1, none⟩ (.int .i64 ((rd_T98 l0_4 x32_2).f1))).setCell ⟨gb528, 2, none⟩ (.int .i64 ((rd_T98 l0_4 x32_2).f2))).heap[gb522]? = some (.cells #[.int .i64 a0_0, .int .i64 a0_1, .int .i64 a0_2, .slice A0_3 l0_3.length c0_3, .slice (some ad527) l0_4.length c0_4] 43 (0, 0))) := ⟨by (with_reducible repeat (first | refine blk_drewN ?_ _ | refine blk_drew ?_ | refine blk_alloc ?_ _)); refine blk_far ?_ NB522_528.out _; (with_reducible repeat (first | refine blk_drewN ?_ _ | refine blk_drew ?_ | refine blk_alloc ?_ _)); refine blk_far ?_ NB522_528.out _; (with_reducible repeat (first | refine blk_drewN ?_ _ | refine blk_drew ?_ | refine blk_alloc ?_ _)); refine blk_far ?_ NB522_528.out _; exact bs BK522.out⟩
       have n1_ : Aside0 ((((w22.setCell ⟨gb528, 0, none⟩ (.int .i64 ((rd_T98 l0_4 x32_2).f0))).setCell ⟨gb528, 1, none⟩ (.int .i64 ((rd_T98 l0_4 x32_2).f1))).setCell ⟨gb528, 2, none⟩ (.int .i64 ((rd_T98 l0_4 x32_2).f2))).heap[gb528]? = some (.cells #[.int .i64 ((rd_T98 l0_4 x32_2).f0), .int .i64 ((rd_T98 l0_4 x32_2).f1), .int .i64 ((rd_T98 l0_4 x32_2).f2)] 98 (0, 0))) := ⟨by (with_reducible repeat (first | refine blk_drewN ?_ _ | refine blk_drew ?_ | refine blk_alloc ?_ _)); refine blk_put (cs := #[.int .i64 ((rd_T98 l0_4 x32_2).f0), .int .i64 ((rd_T98 l0_4 x32_2).f1), .int .i64 0]) ?_ 2 _ rfl; (with_reducible repeat (first | refine blk_drewN ?_ _ | refine blk_drew ?_ | refine blk_alloc ?_ _)); refine blk_put (cs := #[.int .i64 ((rd_T98 l0_4 x32_2).f0), .int .i64 0, .int .i64 0]) ?_ 1 _ rfl; (with_reducible repeat (first | refine blk_drewN ?_ _ | refine blk_drew ?_ | refine blk_alloc ?_ _)); refine blk_put (cs := #[.int .i64 0, .int .i64 0, .int .i64 0]) ?_ 0 _ rfl; exact bs BK528.out⟩
       have n2_ : Aside0 (Below w.heap.size w (((w22.setCell ⟨gb528, 0, none⟩ (.int .i64 ((rd_T98 l0_4 x32_2).f0))).setCell ⟨gb528, 1, none⟩ (.int .i64 ((rd_T98 l0_4 x32_2).f1))).setCell ⟨gb528, 2, none⟩ (.int .i64 ((rd_T98 l0_4 x32_2).f2)))) := ⟨by repeat (first | (with_reducible first | exact bw HB.out | refine bset ?_ | apply bA | apply bN | apply bD) | exact HB.out)⟩
       (try clear BK522)
       (try clear BK528)
       (try clear HB)
       (try simp only [setCell_drewN])
       generalize (((w22.setCell ⟨gb528, 0, none⟩ (.int .i64 ((rd_T98 l0_4 x32_2).f0))).setCell ⟨gb528, 1, none⟩ (.int .i64 ((rd_T98 l0_4 x32_2).f1))).setCell ⟨gb528, 2, none⟩ (.int .i64 ((rd_T98 l0_4 x32_2).f2))) = w36 at n0_ n1_ n2_ ⊢
       have BK522 := n0_
       have BK528 := n1_
       have HB := n2_
       clear n0_ n1_ n2_
       have n0_ := Aside0.mk (blk_drew BK522.out)
       have n1_ := Aside0.mk (blk_drew BK528.out)
       have n2_ := Aside0.mk (below_drew1 HB.out)
       replace BK522 := n0_
       replace BK528 := n1_
       replace HB := n2_
       clear n0_ n1_ n2_
       refine start_ (n := 31) (S := fun w' => w'.cell? ⟨gb528, 0, none⟩ = some (.int .i64 ((rd_T98 l0_4 x32_2).f0)) ∧ w'.cell? ⟨gb528, 1, none⟩ = some (.int .i64 ((rd_T98 l0_4 x32_2).f1)) ∧ w'.cell? ⟨gb528, 2, none⟩ = some (.int .i64 ((rd_T98 l0_4 x32_2).f2)) ∧ w'.cell? ⟨gb522, 0, none⟩ = some (.int .i64 a0_0) ∧ w'.cell? ⟨gb522, 1, none⟩ = some (.int .i64 a0_1) ∧ w'.cell? ⟨gb522, 2, none⟩ = some (.int .i64 a0_2) ∧ w'.cell? ⟨gb522, 3, none⟩ = some (.slice A0_3 l0_3.length c0_3) ∧ w'.cell? ⟨gb522, 4, none⟩ = some (.slice (some ad527) l0_4.length c0_4)) (ds := []) q76_0 (by kernel_rfl) rfl rfl ⟨(blk_cell BK528.out 0).trans rfl, (blk_cell BK528.out 1).trans rfl, (blk_cell BK528.out 2).trans rfl, (blk_cell BK522.out 0).trans rfl, (blk_cell BK522.out 1).trans rfl, (blk_cell BK522.out 2).trans rfl, (blk_cell BK522.out 3).trans rfl, (blk_cell BK522.out 4).trans rfl⟩ (fun hHeld => ?_); refine with_tabW impl_IsDispatcher.tab6 impl_IsDispatcher.bits6 (fun HT_ HW_ => ?_)
       generalize w36.drew = w37 at BK522 BK528 HB hHeld ⊢
       refine pup_ (i := 0) (N := some 37) HT_ rfl rfl (by kernel_rfl) (fun _ _ _ h => h) (Or.inl ⟨by rfl, by intro w'; go_simp; with_reducible rfl⟩) (by simp only [aq_]; rfl) ?_
       refine pup_ (i := 2) (N := some 39) HT_ rfl rfl (by kernel_rfl) (fun _ _ _ h => h) (Or.inl ⟨by rfl, by intro w'; go_simp; with_reducible rfl⟩) (by simp only [aq_]; rfl) ?_
       refine take_ (i := 1) (N := some 38) (v := ?_) (a' := ?_) q76_3 rfl rfl (take_ofW HT_.out HW_.out (by kernel_rfl)) (fun _ _ _ h => h) (Or.inl ⟨by rfl, ?_⟩) hHeld ?_ ?_
       rotate_left
       ·rintro w' ⟨s0, s1, s2, s3, s4, s5, s6, s7⟩
        go_simp
        with_reducible rfl
       rotate_left
       ·simp only [aq_]
        rfl
       refine take_ (i := 3) (N := some 40) (v := ?_) (a' := ?_) q76_4 rfl rfl (take_ofW HT_.out HW_.out (by kernel_rfl)) (fun _ _ _ h => h) (Or.inl ⟨by rfl, ?_⟩) hHeld ?_ ?_
       rotate_left
       ·rintro w' ⟨s0, s1, s2, s3, s4, s5, s6, s7⟩
        go_simp
        with_reducible rfl
       rotate_left
       ·simp only [aq_]
        rfl
       refine pup_ (i := 4) (N := some 41) HT_ rfl rfl (by kernel_rfl) (fun _ _ _ h => h) (Or.inl ⟨by rfl, by intro w'; go_simp; with_reducible rfl⟩) (by simp only [aq_]; rfl) ?_
       refine one_ (i := 5) (N := some 42) q76_6 rfl rfl (one_of HT_.out (by kernel_rfl)) (by decide) (fun K hK => ?_)
       refine goes_ Try.func95 (by kernel_rfl) rfl #[.int .i64 ((rd_T98 l0_4 x32_2).f0), .int .i64 (l0_3.length : Int)] (by rfl) rfl rfl (by (try simp only [mA_]); first | done | rfl | (simp only [List.length_drop, List.length_take]; rfl)) ?_
       with_reducible refine (impl_isNumber.calls ((rd_T98 l0_4 x32_2).f0) (l0_3.length : Int) false _ A25.out).mono ?_
       rintro e w' ⟨rfl, ⟨nd, rfl⟩⟩
       refine ⟨_, rfl, ?_⟩
       refine hK.out _ _ ⟨(blk_cell BK528.out 0).trans rfl, (blk_cell BK528.out 1).trans rfl, (blk_cell BK528.out 2).trans rfl, (blk_cell BK522.out 0).trans rfl, (blk_cell BK522.out 1).trans rfl, (blk_cell BK522.out 2).trans rfl, (blk_cell BK522.out 3).trans rfl, (blk_cell BK522.out 4).trans rfl⟩ (fun hHeld => ?_)
       clear hK K
       refine norm_ (a' := ?_) ?_ ?_
       rotate_left
       ·show Act.put _ (some 42) _ = _
        simp only [aq_]
        rfl
       refine pup_ (i := 6) (N := some 43) HT_ rfl rfl (by kernel_rfl) (fun _ _ _ h => h) (Or.inl ⟨by rfl, by intro w'; go_simp; with_reducible rfl⟩) (by simp only [aq_]; rfl) ?_
       refine pup_ (i := 7) (N := some 44) HT_ rfl rfl (by kernel_rfl) (fun _ _ _ h => h) (Or.inl ⟨by rfl, by intro w'; go_simp; with_reducible rfl⟩) (by simp only [aq_]; rfl) ?_
       refine skp_ HT_ 8 (some 45) rfl rfl (by kernel_rfl) (fun _ _ _ h => h) (by rfl) (by simp only [aq_]; rfl) ?_
       refine skp_ HT_ 9 (some 46) rfl rfl (by kernel_rfl) (fun _ _ _ h => h) (by rfl) (by simp only [aq_]; rfl) ?_
       refine skp_ HT_ 10 (some 47) rfl rfl (by kernel_rfl) (fun _ _ _ h => h) (by rfl) (by simp only [aq_]; rfl) ?_
       refine skp_ HT_ 11 (some 48) rfl rfl (by kernel_rfl) (fun _ _ _ h => h) (by rfl) (by simp only [aq_]; rfl) ?_
       refine skp_ HT_ 12 (some 49) rfl rfl (by kernel_rfl) (fun _ _ _ h => h) (by rfl) (by simp only [aq_]; rfl) ?_
       refine skp_ HT_ 13 (some 50) rfl rfl (by kernel_rfl) (fun _ _ _ h => h) (by rfl) (by simp only [aq_]; rfl) ?_
       refine pup_ (i := 14) (N := some 51) HT_ rfl rfl (by kernel_rfl) (fun _ _ _ h => h) (Or.inl ⟨by rfl, by intro w'; go_simp; with_reducible rfl⟩) (by simp only [aq_]; rfl) ?_
       refine pup_ (i := 15) (N := some 52) HT_ rfl rfl (by kernel_rfl) (fun _ _ _ h => h) (Or.inl ⟨by rfl, by intro w'; go_simp; with_reducible rfl⟩) (by simp only [aq_]; rfl) ?_
       refine skp_ HT_ 16 (some 53) rfl rfl (by kernel_rfl) (fun _ _ _ h => h) (by rfl) (by simp only [aq_]; rfl) ?_
       refine skp_ HT_ 17 (some 54) rfl rfl (by kernel_rfl) (fun _ _ _ h => h) (by rfl) (by simp only [aq_]; rfl) ?_
       refine skp_ HT_ 18 (some 55) rfl rfl (by kernel_rfl) (fun _ _ _ h => h) (by rfl) (by simp only [aq_]; rfl) ?_
       refine skp_ HT_ 19 (some 56) rfl rfl (by kernel_rfl) (fun _ _ _ h => h) (by rfl) (by simp only [aq_]; rfl) ?_
       refine skp_ HT_ 20 (some 57) rfl rfl (by kernel_rfl) (fun _ _ _ h => h) (by rfl) (by simp only [aq_]; rfl) ?_
       refine skp_ HT_ 21 (some 58) rfl rfl (by kernel_rfl) (fun _ _ _ h => h) (by rfl) (by simp only [aq_]; rfl) ?_
       refine skp_ HT_ 22 (some 59) rfl rfl (by kernel_rfl) (fun _ _ _ h => h) (by rfl) (by simp only [aq_]; rfl) ?_
       refine skp_ HT_ 23 (some 60) rfl rfl (by kernel_rfl) (fun _ _ _ h => h) (by rfl) (by simp only [aq_]; rfl) ?_
       refine skp_ HT_ 24 (some 61) rfl rfl (by kernel_rfl) (fun _ _ _ h => h) (by rfl) (by simp only [aq_]; rfl) ?_
       refine skp_ HT_ 25 (some 62) rfl rfl (by kernel_rfl) (fun _ _ _ h => h) (by rfl) (by simp only [aq_]; rfl) ?_
       refine skp_ HT_ 26 (some 63) rfl rfl (by kernel_rfl) (fun _ _ _ h => h) (by rfl) (by simp only [aq_]; rfl) ?_
       refine skp_ HT_ 27 (some 64) rfl rfl (by kernel_rfl) (fun _ _ _ h => h) (by rfl) (by simp only [aq_]; rfl) ?_
       refine skp_ HT_ 28 (some 65) rfl rfl (by kernel_rfl) (fun _ _ _ h => h) (by rfl) (by simp only [aq_]; rfl) ?_
       refine skp_ HT_ 29 (some 66) rfl rfl (by kernel_rfl) (fun _ _ _ h => h) (by rfl) (by simp only [aq_]; rfl) ?_
       refine pup_ (i := 30) (N := some 67) HT_ rfl rfl (by kernel_rfl) (fun _ _ _ h => h) (Or.inl ⟨by rfl, by intro w'; go_simp; with_reducible rfl⟩) (by simp only [aq_]; rfl) ?_
       refine done_ (done_of HT_.out (by kernel_rfl)) ?_
       try go_wp2
       go_meet
       case rel => exact ⟨_, (true), (by first | rfl | (simp; done) | (simp [*]; done)), H', ⟨by have := HJ1.out; have := HK2.out; first | omega | exact Nat.le_refl _⟩, ⟨bs BK522.out⟩, ⟨bs BK528.out⟩, ⟨by repeat (first | (with_reducible first | exact bw HB.out | refine bset ?_ | apply bA | apply bN | apply bD) | exact HB.out)⟩⟩
      subst c26
      have H1 : ((impl_isNumber.f ((rd_T98 l0_4 x32_2).f1) a0_0).bind fun t530 => (if t530 = true then (if 0 ≤ ((rd_T98 l0_4 x32_2).f0) then (if ((rd_T98 l0_4 x32_2).f0) < (l0_3.length : Int) then ((impl_within.f ((rd_T98 l0_4 x32_2).f2) ((rd_T61 l0_3 ((rd_T98 l0_4 x32_2).f0)).f2) (wrap64 (a0_2 - 1))).bind fun t532 => (impl_IsDispatcher.j2 k2 x32_2 l0_4 (l0_4.length : Int) x32_2 (!t532) a0_0 a0_1 a0_2 l0_3 l0_4 ((rd_T98 l0_4 x32_2).f0) ((rd_T98 l0_4 x32_2).f1) ((rd_T98 l0_4 x32_2).f2))) else (none)) else (none)) else (impl_IsDispatcher.j2 k2 x32_2 l0_4 (l0_4.length : Int) x32_2 true a0_0 a0_1 a0_2 l0_3 l0_4 ((rd_T98 l0_4 x32_2).f0) ((rd_T98 l0_4 x32_2).f1) ((rd_T98 l0_4 x32_2).f2)))) = some r := by rw [if_pos rfl] at H; exact H
      clear H
      have H := H1
      clear H1
      replace H := Option.bind_eq_some_iff.mp H
      obtain ⟨t530, A270, H⟩ := H
      replace H : (if t530 = true then (if 0 ≤ ((rd_T98 l0_4 x32_2).f0) then (if ((rd_T98 l0_4 x32_2).f0) < (l0_3.length : Int) then ((impl_within.f ((rd_T98 l0_4 x32_2).f2) ((rd_T61 l0_3 ((rd_T98 l0_4 x32_2).f0)).f2) (wrap64 (a0_2 - 1))).bind fun t532 => (impl_IsDispatcher.j2 k2 x32_2 l0_4 (l0_4.length : Int) x32_2 (!t532) a0_0 a0_1 a0_2 l0_3 l0_4 ((rd_T98 l0_4 x32_2).f0) ((rd_T98 l0_4 x32_2).f1) ((rd_T98 l0_4 x32_2).f2))) else (none)) else (none)) else (impl_IsDispatcher.j2 k2 x32_2 l0_4 (l0_4.length : Int) x32_2 true a0_0 a0_1 a0_2 l0_3 l0_4 ((rd_T98 l0_4 x32_2).f0) ((rd_T98 l0_4 x32_2).f1) ((rd_T98 l0_4 x32_2).f2))) = some r := H
      have A27 := Aside0.mk A270
      clear A270
      by_cases c28 : t530 = true
      rotate_left
      ·replace c28 := Bool.eq_false_iff.mpr c28
       subst c28
       have H1 : (impl_IsDispatcher.j2 k2 x32_2 l0_4 (l0_4.length : Int) x32_2 true a0_0 a0_1 a0_2 l0_3 l0_4 ((rd_T98 l0_4 x32_2).f0) ((rd_T98 l0_4 x32_2).f1) ((rd_T98 l0_4 x32_2).f2)) = some r := by rw [if_neg (show ¬ (false = true) by decide)] at H; exact H
       clear H
       have H := H1
       clear H1
       have H' := Aside0.mk H
       clear H
       try go_wp2
       have n0_ : Aside0 ((((w22.setCell ⟨gb528, 0, none⟩ (.int .i64 ((rd_T98 l0_4 x32_2).f0))).setCell ⟨gb528, 1, none⟩ (.int .i64 ((rd_T98 l0_4 x32_2).f1))).setCell ⟨gb528, 2, none⟩ (.int .i64 ((rd_T98 l0_4 x32_2).f2))).heap[gb522]? = some (.cells #[.int .i64 a0_0, .int .i64 a0_1, .int .i64 a0_2, .slice A0_3 l0_3.length c0_3, .slice (some ad527) l0_4.length c0_4] 43 (0, 0))) := ⟨by (with_reducible repeat (first | refine blk_drewN ?_ _ | refine blk_drew ?_ | refine blk_alloc ?_ _)); refine blk_far ?_ NB522_528.out _; (with_reducible repeat (first | refine blk_drewN ?_ _ | refine blk_drew ?_ | refine blk_alloc ?_ _)); refine blk_far ?_ NB522_528.out _; (with_reducible repeat (first | refine blk_drewN ?_ _ | refine blk_drew ?_ | refine blk_alloc ?_ _)); refine blk_far ?_ NB522_528.out _; exact bs BK522.out⟩
       have n1_ : Aside0 ((((w22.setCell ⟨gb528, 0, none⟩ (.int .i64 ((rd_T98 l0_4 x32_2).f0))).setCell ⟨gb528, 1, none⟩ (.int .i64 ((rd_T98 l0_4 x32_2).f1))).setCell ⟨gb528, 2, none⟩ (.int .i64 ((rd_T98 l0_4 x32_2).f2))).heap[gb528]? = some (.cells #[.int .i64 ((rd_T98 l0_4 x32_2).f0), .int .i64 ((rd_T98 l0_4 x32_2).f1), .int .i64 ((rd_T98 l0_4 x32_2).f2)] 98 (0, 0))) := ⟨by (with_reducible repeat (first | refine blk_drewN ?_ _ | refine blk_drew ?_ | refine blk_alloc ?_ _)); refine blk_put (cs := #[.int .i64 ((rd_T98 l0_4 x32_2).f0), .int .i64 ((rd_T98 l0_4 x32_2).f1), .int .i64 0]) ?_ 2 _ rfl; (with_reducible repeat (first | refine blk_drewN ?_ _ | refine blk_drew ?_ | refine blk_alloc ?_ _)); refine blk_put (cs := #[.int .i64 ((rd_T98 l0_4 x32_2).f0), .int .i64 0, .int .i64 0]) ?_ 1 _ rfl; (with_reducible repeat (first | refine blk_drewN ?_ _ | refine blk_drew ?_ | refine blk_alloc ?_ _)); refine blk_put (cs := #[.int .i64 0, .int .i64 0, .int .i64 0]) ?_ 0 _ rfl; exact bs BK528.out⟩
       have n2_ : Aside0 (Below w.heap.size w (((w22.setCell ⟨gb528, 0, none⟩ (.int .i64 ((rd_T98 l0_4 x32_2).f0))).setCell ⟨gb528, 1, none⟩ (.int .i64 ((rd_T98 l0_4 x32_2).f1))).setCell ⟨gb528, 2, none⟩ (.int .i64 ((rd_T98 l0_4 x32_2).f2)))) := ⟨by repeat (first | (with_reducible first | exact bw HB.out | refine bset ?_ | apply bA | apply bN | apply bD) | exact HB.out)⟩
       (try clear BK522)
       (try clear BK528)
       (try clear HB)
       (try simp only [setCell_drewN])
       generalize (((w22.setCell ⟨gb528, 0, none⟩ (.int .i64 ((rd_T98 l0_4 x32_2).f0))).setCell ⟨gb528, 1, none⟩ (.int .i64 ((rd_T98 l0_4 x32_2).f1))).setCell ⟨gb528, 2, none⟩ (.int .i64 ((rd_T98 l0_4 x32_2).f2))) = w34 at n0_ n1_ n2_ ⊢
       have BK522 := n0_
       have BK528 := n1_
       have HB := n2_
       clear n0_ n1_ n2_
       have n0_ := Aside0.mk (blk_drew BK522.out)
       have n1_ := Aside0.mk (blk_drew BK528.out)
       have n2_ := Aside0.mk (below_drew1 HB.out)
       replace BK522 := n0_
       replace BK528 := n1_
       replace HB := n2_
       clear n0_ n1_ n2_
       refine start_ (n := 31) (S := fun w' => w'.cell? ⟨gb528, 0, none⟩ = some (.int .i64 ((rd_T98 l0_4 x32_2).f0)) ∧ w'.cell? ⟨gb528, 1, none⟩ = some (.int .i64 ((rd_T98 l0_4 x32_2).f1)) ∧ w'.cell? ⟨gb528, 2, none⟩ = some (.int .i64 ((rd_T98 l0_4 x32_2).f2)) ∧ w'.cell? ⟨gb522, 0, none⟩ = some (.int .i64 a0_0) ∧ w'.cell? ⟨gb522, 1, none⟩ = some (.int .i64 a0_1) ∧ w'.cell? ⟨gb522, 2, none⟩ = some (.int .i64 a0_2) ∧ w'.cell? ⟨gb522, 3, none⟩ = some (.slice A0_3 l0_3.length c0_3) ∧ w'.cell? ⟨gb522, 4, none⟩ = some (.slice (some ad527) l0_4.length c0_4)) (ds := []) q76_0 (by kernel_rfl) rfl rfl ⟨(blk_cell BK528.out 0).trans rfl, (blk_cell BK528.out 1).trans rfl, (blk_cell BK528.out 2).trans rfl, (blk_cell BK522.out 0).trans rfl, (blk_cell BK522.out 1).trans rfl, (blk_cell BK522.out 2).trans rfl, (blk_cell BK522.out 3).trans rfl, (blk_cell BK522.out 4).trans rfl⟩ (fun hHeld => ?_); refine with_tabW impl_IsDispatcher.tab6 impl_IsDispatcher.bits6 (fun HT_ HW_ => ?_)
       generalize w34.drew = w35 at BK522 BK528 HB hHeld ⊢
       refine pup_ (i := 0) (N := some 37) HT_ rfl rfl (by kernel_rfl) (fun _ _ _ h => h) (Or.inl ⟨by rfl, by intro w'; go_simp; with_reducible rfl⟩) (by simp only [aq_]; rfl) ?_
       refine pup_ (i := 2) (N := some 39) HT_ rfl rfl (by kernel_rfl) (fun _ _ _ h => h) (Or.inl ⟨by rfl, by intro w'; go_simp; with_reducible rfl⟩) (by simp only [aq_]; rfl) ?_
       refine take_ (i := 1) (N := some 38) (v := ?_) (a' := ?_) q76_3 rfl rfl (take_ofW HT_.out HW_.out (by kernel_rfl)) (fun _ _ _ h => h) (Or.inl ⟨by rfl, ?_⟩) hHeld ?_ ?_
       rotate_left
       ·rintro w' ⟨s0, s1, s2, s3, s4, s5, s6, s7⟩
        go_simp
        with_reducible rfl
       rotate_left
       ·simp only [aq_]
        rfl
       refine take_ (i := 3) (N := some 40) (v := ?_) (a' := ?_) q76_4 rfl rfl (take_ofW HT_.out HW_.out (by kernel_rfl)) (fun _ _ _ h => h) (Or.inl ⟨by rfl, ?_⟩) hHeld ?_ ?_
       rotate_left
       ·rintro w' ⟨s0, s1, s2, s3, s4, s5, s6, s7⟩
        go_simp
        with_reducible rfl
       rotate_left
       ·simp only [aq_]
        rfl
       refine pup_ (i := 4) (N := some 41) HT_ rfl rfl (by kernel_rfl) (fun _ _ _ h => h) (Or.inl ⟨by rfl, by intro w'; go_simp; with_reducible rfl⟩) (by simp only [aq_]; rfl) ?_
       refine one_ (i := 5) (N := some 42) q76_6 rfl rfl (one_of HT_.out (by kernel_rfl)) (by decide) (fun K hK => ?_)
       refine goes_ Try.func95 (by kernel_rfl) rfl #[.int .i64 ((rd_T98 l0_4 x32_2).f0), .int .i64 (l0_3.length : Int)] (by rfl) rfl rfl (by (try simp only [mA_]); first | done | rfl | (simp only [List.length_drop, List.length_take]; rfl)) ?_
       with_reducible refine (impl_isNumber.calls ((rd_T98 l0_4 x32_2).f0) (l0_3.length : Int) true _ A25.out).mono ?_
       rintro e w' ⟨rfl, ⟨nd, rfl⟩⟩
       refine ⟨_, rfl, ?_⟩
       refine hK.out _ _ ⟨(blk_cell BK528.out 0).trans rfl, (blk_cell BK528.out 1).trans rfl, (blk_cell BK528.out 2).trans rfl, (blk_cell BK522.out 0).trans rfl, (blk_cell BK522.out 1).trans rfl, (blk_cell BK522.out 2).trans rfl, (blk_cell BK522.out 3).trans rfl, (blk_cell BK522.out 4).trans rfl⟩ (fun hHeld => ?_)
       clear hK K
       refine norm_ (a' := ?_) ?_ ?_
       rotate_left
       ·show Act.put _ (some 42) _ = _
        simp only [aq_]
        rfl
       refine pup_ (i := 6) (N := some 43) HT_ rfl rfl (by kernel_rfl) (fun _ _ _ h => h) (Or.inl ⟨by rfl, by intro w'; go_simp; with_reducible rfl⟩) (by simp only [aq_]; rfl) ?_
       refine pup_ (i := 7) (N := some 44) HT_ rfl rfl (by kernel_rfl) (fun _ _ _ h => h) (Or.inl ⟨by rfl, by intro w'; go_simp; with_reducible rfl⟩) (by simp only [aq_]; rfl) ?_
       refine pup_ (i := 8) (N := some 45) HT_ rfl rfl (by kernel_rfl) (fun _ _ _ h => h) (Or.inl ⟨by rfl, by intro w'; go_simp; with_reducible rfl⟩) (by simp only [aq_]; rfl) ?_
       refine pup_ (i := 10) (N := some 47) HT_ rfl rfl (by kernel_rfl) (fun _ _ _ h => h) (Or.inl ⟨by rfl, by intro w'; go_simp; with_reducible rfl⟩) (by simp only [aq_]; rfl) ?_
       refine take_ (i := 9) (N := some 46) (v := ?_) (a' := ?_) q76_11 rfl rfl (take_ofW HT_.out HW_.out (by kernel_rfl)) (fun _ _ _ h => h) (Or.inl ⟨by rfl, ?_⟩) hHeld ?_ ?_
       rotate_left
       ·rintro w' ⟨s0, s1, s2, s3, s4, s5, s6, s7⟩
        go_simp
        with_reducible rfl
       rotate_left
       ·simp only [aq_]
        rfl
       refine take_ (i := 11) (N := some 48) (v := ?_) (a' := ?_) q76_12 rfl rfl (take_ofW HT_.out HW_.out (by kernel_rfl)) (fun _ _ _ h => h) (Or.inl ⟨by rfl, ?_⟩) hHeld ?_ ?_
       rotate_left
       ·rintro w' ⟨s0, s1, s2, s3, s4, s5, s6, s7⟩
        go_simp
        with_reducible rfl
       rotate_left
       ·simp only [aq_]
        rfl
       refine one_ (i := 12) (N := some 49) q76_13 rfl rfl (one_of HT_.out (by kernel_rfl)) (by decide) (fun K hK => ?_)
       refine goes_ Try.func95 (by kernel_rfl) rfl #[.int .i64 ((rd_T98 l0_4 x32_2).f1), .int .i64 a0_0] (by rfl) rfl rfl (by (try simp only [mA_]); first | done | rfl | (simp only [List.length_drop, List.length_take]; rfl)) ?_
       with_reducible refine (impl_isNumber.calls ((rd_T98 l0_4 x32_2).f1) a0_0 false _ A27.out).mono ?_
       rintro e w' ⟨rfl, ⟨nd, rfl⟩⟩
       refine ⟨_, rfl, ?_⟩
       refine hK.out _ _ ⟨(blk_cell BK528.out 0).trans rfl, (blk_cell BK528.out 1).trans rfl, (blk_cell BK528.out 2).trans rfl, (blk_cell BK522.out 0).trans rfl, (blk_cell BK522.out 1).trans rfl, (blk_cell BK522.out 2).trans rfl, (blk_cell BK522.out 3).trans rfl, (blk_cell BK522.out 4).trans rfl⟩ (fun hHeld => ?_)
       clear hK K
       refine norm_ (a' := ?_) ?_ ?_
       rotate_left
       ·show Act.put _ (some 49) _ = _
        simp only [aq_]
        rfl
       refine pup_ (i := 13) (N := some 50) HT_ rfl rfl (by kernel_rfl) (fun _ _ _ h => h) (Or.inl ⟨by rfl, by intro w'; go_simp; with_reducible rfl⟩) (by simp only [aq_]; rfl) ?_
       refine pup_ (i := 14) (N := some 51) HT_ rfl rfl (by kernel_rfl) (fun _ _ _ h => h) (Or.inl ⟨by rfl, by intro w'; go_simp; with_reducible rfl⟩) (by simp only [aq_]; rfl) ?_
       refine pup_ (i := 15) (N := some 52) HT_ rfl rfl (by kernel_rfl) (fun _ _ _ h => h) (Or.inl ⟨by rfl, by intro w'; go_simp; with_reducible rfl⟩) (by simp only [aq_]; rfl) ?_
       refine skp_ HT_ 16 (some 53) rfl rfl (by kernel_rfl) (fun _ _ _ h => h) (by rfl) (by simp only [aq_]; rfl) ?_
       refine skp_ HT_ 17 (some 54) rfl rfl (by kernel_rfl) (fun _ _ _ h => h) (by rfl) (by simp only [aq_]; rfl) ?_
       refine skp_ HT_ 18 (some 55) rfl rfl (by kernel_rfl) (fun _ _ _ h => h) (by rfl) (by simp only [aq_]; rfl) ?_
       refine skp_ HT_ 19 (some 56) rfl rfl (by kernel_rfl) (fun _ _ _ h => h) (by rfl) (by simp only [aq_]; rfl) ?_
       refine skp_ HT_ 20 (some 57) rfl rfl (by kernel_rfl) (fun _ _ _ h => h) (by rfl) (by simp only [aq_]; rfl) ?_
       refine skp_ HT_ 21 (some 58) rfl rfl (by kernel_rfl) (fun _ _ _ h => h) (by rfl) (by simp only [aq_]; rfl) ?_
       refine skp_ HT_ 22 (some 59) rfl rfl (by kernel_rfl) (fun _ _ _ h => h) (by rfl) (by simp only [aq_]; rfl) ?_
       refine skp_ HT_ 23 (some 60) rfl rfl (by kernel_rfl) (fun _ _ _ h => h) (by rfl) (by simp only [aq_]; rfl) ?_
       refine skp_ HT_ 24 (some 61) rfl rfl (by kernel_rfl) (fun _ _ _ h => h) (by rfl) (by simp only [aq_]; rfl) ?_
       refine skp_ HT_ 25 (some 62) rfl rfl (by kernel_rfl) (fun _ _ _ h => h) (by rfl) (by simp only [aq_]; rfl) ?_
       refine skp_ HT_ 26 (some 63) rfl rfl (by kernel_rfl) (fun _ _ _ h => h) (by rfl) (by simp only [aq_]; rfl) ?_
       refine skp_ HT_ 27 (some 64) rfl rfl (by kernel_rfl) (fun _ _ _ h => h) (by rfl) (by simp only [aq_]; rfl) ?_
       refine skp_ HT_ 28 (some 65) rfl rfl (by kernel_rfl) (fun _ _ _ h => h) (by rfl) (by simp only [aq_]; rfl) ?_
       refine skp_ HT_ 29 (some 66) rfl rfl (by kernel_rfl) (fun _ _ _ h => h) (by rfl) (by simp only [aq_]; rfl) ?_
       refine pup_ (i := 30) (N := some 67) HT_ rfl rfl (by kernel_rfl) (fun _ _ _ h => h) (Or.inl ⟨by rfl, by intro w'; go_simp; with_reducible rfl⟩) (by simp only [aq_]; rfl) ?_
       refine done_ (done_of HT_.out (by kernel_rfl)) ?_
       try go_wp2
       go_meet
       case rel => exact ⟨_, (true), (by first | rfl | (simp; done) | (simp [*]; done)), H', ⟨by have := HJ1.out; have := HK2.out; first | omega | exact Nat.le_refl _⟩, ⟨bs BK522.out⟩, ⟨bs BK528.out⟩, ⟨by repeat (first | (with_reducible first | exact bw HB.out | refine bset ?_ | apply bA | apply bN | apply bD) | exact HB.out)⟩⟩
      subst c28
      have H1 : (if 0 ≤ ((rd_T98 l0_4 x32_2).f0) then (if ((rd_T98 l0_4 x32_2).f0) < (l0_3.length : Int) then ((impl_within.f ((rd_T98 l0_4 x32_2).f2) ((rd_T61 l0_3 ((rd_T98 l0_4 x32_2).f0)).f2) (wrap64 (a0_2 - 1))).bind fun t532 => (impl_IsDispatcher.j2 k2 x32_2 l0_4 (l0_4.length : Int) x32_2 (!t532) a0_0 a0_1 a0_2 l0_3 l0_4 ((rd_T98 l0_4 x32_2).f0) ((rd_T98 l0_4 x32_2).f1) ((rd_T98 l0_4 x32_2).f2))) else (none)) else (none)) = some r := by rw [if_pos rfl] at H; exact H
      clear H
      have H := H1
      clear H1
      by_cases c29 : 0 ≤ ((rd_T98 l0_4 x32_2).f0)
      rotate_left
      ·rw [if_neg c29] at H
       exact absurd H (by simp)
      rw [if_pos c29] at H
      have c29b0 : decide (0 ≤ ((rd_T98 l0_4 x32_2).f0)) = true := decide_eq_true c29
      clear c29
      (first | rw [c29b0] | (simp only [i64_w, i32_w]; rw [c29b0]) | skip)
      by_cases c30 : ((rd_T98 l0_4 x32_2).f0) < (l0_3.length : Int)
      rotate_left
      ·rw [if_neg c30] at H
       exact absurd H (by simp)
      rw [if_pos c30] at H
      have c30b0 : decide (((rd_T98 l0_4 x32_2).f0) < (l0_3.length : Int)) = true := decide_eq_true c30
      clear c30
      replace H := Option.bind_eq_some_iff.mp H
      obtain ⟨t532, A310, H⟩ := H
      replace H : (impl_IsDispatcher.j2 k2 x32_2 l0_4 (l0_4.length : Int) x32_2 (!t532) a0_0 a0_1 a0_2 l0_3 l0_4 ((rd_T98 l0_4 x32_2).f0) ((rd_T98 l0_4 x32_2).f1) ((rd_T98 l0_4 x32_2).f2)) = some r := H
      have A31 := Aside0.mk A310
      clear A310
      have H' := Aside0.mk H
      clear H
      try go_wp2
      have n0_ : Aside0 ((((w22.setCell ⟨gb528, 0, none⟩ (.int .i64 ((rd_T98 l0_4 x32_2).f0))).setCell ⟨gb528, 1, none⟩ (.int .i64 ((rd_T98 l0_4 x32_2).f1))).setCell ⟨gb528, 2, none⟩ (.int .i64 ((rd_T98 l0_4 x32_2).f2))).heap[gb522]? = some (.cells #[.int .i64 a0_0, .int .i64 a0_1, .int .i64 a0_2, .slice A0_3 l0_3.length c0_3, .slice (some ad527) l0_4.length c0_4] 43 (0, 0))) := ⟨by (with_reducible repeat (first | refine blk_drewN ?_ _ | refine blk_drew ?_ | refine blk_alloc ?_ _)); refine blk_far ?_ NB522_528.out _; (with_reducible repeat (first | refine blk_drewN ?_ _ | refine blk_drew ?_ | refine blk_alloc ?_ _)); refine blk_far ?_ NB522_528.out _; (with_reducible repeat (first | refine blk_drewN ?_ _ | refine blk_drew ?_ | refine blk_alloc ?_ _)); refine blk_far ?_ NB522_528.out _; exact bs BK522.out⟩
      have n1_ : Aside0 ((((w22.setCell ⟨gb528, 0, none⟩ (.int .i64 ((rd_T98 l0_4 x32_2).f0))).setCell ⟨gb528, 1, none⟩ (.int .i64 ((rd_T98 l0_4 x32_2).f1))).setCell ⟨gb528, 2, none⟩ (.int .i64 ((rd_T98 l0_4 x32_2).f2))).heap[gb528]? = some (.cells #[.int .i64 ((rd_T98 l0_4 x32_2).f0), .int .i64 ((rd_T98 l0_4 x32_2).f1), .int .i64 ((rd_T98 l0_4 x32_2).f2)] 98 (0, 0))) := ⟨by (with_reducible repeat (first | refine blk_drewN ?_ _ | refine blk_drew ?_ | refine blk_alloc ?_ _)); refine blk_put (cs := #[.int .i64 ((rd_T98 l0_4 x32_2).f0), .int .i64 ((rd_T98 l0_4 x32_2).f1), .int .i64 0]) ?_ 2 _ rfl; (with_reducible repeat (first | refine blk_drewN ?_ _ | refine blk_drew ?_ | refine blk_alloc ?_ _)); refine blk_put (cs := #[.int .i64 ((rd_T98 l0_4 x32_2).f0), .int .i64 0, .int .i64 0]) ?_ 1 _ rfl; (with_reducible repeat (first | refine blk_drewN ?_ _ | refine blk_drew ?_ | refine blk_alloc ?_ _)); refine blk_put (cs := #[.int .i64 0, .int .i64 0, .int .i64 0]) ?_ 0 _ rfl; exact bs BK528.out⟩
      have n2_ : Aside0 (Below w.heap.size w (((w22.setCell ⟨gb528, 0, none⟩ (.int .i64 ((rd_T98 l0_4 x32_2).f0))).setCell ⟨gb528, 1, none⟩ (.int .i64 ((rd_T98 l0_4 x32_2).f1))).setCell ⟨gb528, 2, none⟩ (.int .i64 ((rd_T98 l0_4 x32_2).f2)))) := ⟨by repeat (first | (with_reducible first | exact bw HB.out | refine bset ?_ | apply bA | apply bN | apply bD) | exact HB.out)⟩
      (try clear BK522)
      (try clear BK528)
      (try clear HB)
      (try simp only [setCell_drewN])
      generalize (((w22.setCell ⟨gb528, 0, none⟩ (.int .i64 ((rd_T98 l0_4 x32_2).f0))).setCell ⟨gb528, 1, none⟩ (.int .i64 ((rd_T98 l0_4 x32_2).f1))).setCell ⟨gb528, 2, none⟩ (.int .i64 ((rd_T98 l0_4 x32_2).f2))) = w32 at n0_ n1_ n2_ ⊢
      have BK522 := n0_
      have BK528 := n1_
      have HB := n2_
      clear n0_ n1_ n2_
      have n0_ := Aside0.mk (blk_drew BK522.out)
      have n1_ := Aside0.mk (blk_drew BK528.out)
      have n2_ := Aside0.mk (below_drew1 HB.out)
      replace BK522 := n0_
      replace BK528 := n1_
      replace HB := n2_
      clear n0_ n1_ n2_
      have p531 : 0 ≤ (((rd_T98 l0_4 x32_2).f0) : Int) := of_decide_eq_true (by first | (with_reducible assumption) | assumption)
      have q531 : ((rd_T98 l0_4 x32_2).f0) < (l0_3.length : Int) := of_decide_eq_true (by first | (with_reducible assumption) | assumption)
      obtain ⟨ad531, e531, hx531_0, hx531_1, hx531_2, hx531_3⟩ := at_T61 HR0_3.out ((rd_T98 l0_4 x32_2).f0) p531 q531
      have hw531_3 := hx531_3
      have hw531_2 := hx531_2
      have hw531_1 := hx531_1
      have hw531_0 := hx531_0
      cases e531
      replace hx531_0 := (HB.out.cell (World.block_lt_of_cell? w _ hx531_0)).trans hx531_0
      replace hx531_1 := (HB.out.cell (World.block_lt_of_cell? w _ hx531_1)).trans hx531_1
      replace hx531_2 := (HB.out.cell (World.block_lt_of_cell? w _ hx531_2)).trans hx531_2
      replace hx531_3 := (HB.out.cell (World.block_lt_of_cell? w _ hx531_3)).trans hx531_3
      replace p531 := eq_true p531
      replace q531 := eq_true q531
      refine start_ (n := 31) (S := fun w' => w'.cell? ⟨gb528, 0, none⟩ = some (.int .i64 ((rd_T98 l0_4 x32_2).f0)) ∧ w'.cell? ⟨gb528, 1, none⟩ = some (.int .i64 ((rd_T98 l0_4 x32_2).f1)) ∧ w'.cell? ⟨gb528, 2, none⟩ = some (.int .i64 ((rd_T98 l0_4 x32_2).f2)) ∧ w'.cell? ⟨gb522, 0, none⟩ = some (.int .i64 a0_0) ∧ w'.cell? ⟨gb522, 1, none⟩ = some (.int .i64 a0_1) ∧ w'.cell? ⟨gb522, 2, none⟩ = some (.int .i64 a0_2) ∧ w'.cell? ⟨gb522, 3, none⟩ = some (.slice (some ad531) l0_3.length c0_3) ∧ w'.cell? ⟨gb522, 4, none⟩ = some (.slice (some ad527) l0_4.length c0_4) ∧ w'.cell? (ad531.add ((((rd_T98 l0_4 x32_2).f0)).toNat * 4)) = some (.int .i64 ((rd_T61 l0_3 ((rd_T98 l0_4 x32_2).f0)).f0)) ∧ w'.cell? ⟨(ad531.add ((((rd_T98 l0_4 x32_2).f0)).toNat * 4)).block, (ad531.add ((((rd_T98 l0_4 x32_2).f0)).toNat * 4)).off + 1, none⟩ = some (.int .i64 ((rd_T61 l0_3 ((rd_T98 l0_4 x32_2).f0)).f1)) ∧ w'.cell? ⟨(ad531.add ((((rd_T98 l0_4 x32_2).f0)).toNat * 4)).block, (ad531.add ((((rd_T98 l0_4 x32_2).f0)).toNat * 4)).off + 2, none⟩ = some (.int .i64 ((rd_T61 l0_3 ((rd_T98 l0_4 x32_2).f0)).f2)) ∧ w'.cell? ⟨(ad531.add ((((rd_T98 l0_4 x32_2).f0)).toNat * 4)).block, (ad531.add ((((rd_T98 l0_4 x32_2).f0)).toNat * 4)).off + 3, none⟩ = some (.int .i64 ((rd_T61 l0_3 ((rd_T98 l0_4 x32_2).f0)).f3))) (ds := []) q76_0 (by kernel_rfl) rfl rfl ⟨(blk_cell BK528.out 0).trans rfl, (blk_cell BK528.out 1).trans rfl, (blk_cell BK528.out 2).trans rfl, (blk_cell BK522.out 0).trans rfl, (blk_cell BK522.out 1).trans rfl, (blk_cell BK522.out 2).trans rfl, (blk_cell BK522.out 3).trans rfl, (blk_cell BK522.out 4).trans rfl, (bcl_ HB.out hw531_0 :), (bcl_ HB.out hw531_1 :), (bcl_ HB.out hw531_2 :), (bcl_ HB.out hw531_3 :)⟩ (fun hHeld => ?_); refine with_tabW impl_IsDispatcher.tab6 impl_IsDispatcher.bits6 (fun HT_ HW_ => ?_)
      generalize w32.drew = w33 at BK522 BK528 HB hx531_0 hx531_1 hx531_2 hx531_3 hHeld ⊢
      refine pup_ (i := 0) (N := some 37) HT_ rfl rfl (by kernel_rfl) (fun _ _ _ h => h) (Or.inl ⟨by rfl, by intro w'; go_simp; with_reducible rfl⟩) (by simp only [aq_]; rfl) ?_
      refine pup_ (i := 2) (N := some 39) HT_ rfl rfl (by kernel_rfl) (fun _ _ _ h => h) (Or.inl ⟨by rfl, by intro w'; go_simp; with_reducible rfl⟩) (by simp only [aq_]; rfl) ?_
      refine take_ (i := 1) (N := some 38) (v := ?_) (a' := ?_) q76_3 rfl rfl (take_ofW HT_.out HW_.out (by kernel_rfl)) (fun _ _ _ h => h) (Or.inl ⟨by rfl, ?_⟩) hHeld ?_ ?_
      rotate_left
      ·rintro w' ⟨s0, s1, s2, s3, s4, s5, s6, s7, s8, s9, s10, s11⟩
       go_simp
       with_reducible rfl
      rotate_left
      ·simp only [aq_]
       rfl
      refine take_ (i := 3) (N := some 40) (v := ?_) (a' := ?_) q76_4 rfl rfl (take_ofW HT_.out HW_.out (by kernel_rfl)) (fun _ _ _ h => h) (Or.inl ⟨by rfl, ?_⟩) hHeld ?_ ?_
      rotate_left
      ·rintro w' ⟨s0, s1, s2, s3, s4, s5, s6, s7, s8, s9, s10, s11⟩
       go_simp
       with_reducible rfl
      rotate_left
      ·simp only [aq_]
       rfl
      refine pup_ (i := 4) (N := some 41) HT_ rfl rfl (by kernel_rfl) (fun _ _ _ h => h) (Or.inl ⟨by rfl, by intro w'; go_simp; with_reducible rfl⟩) (by simp only [aq_]; rfl) ?_
      refine one_ (i := 5) (N := some 42) q76_6 rfl rfl (one_of HT_.out (by kernel_rfl)) (by decide) (fun K hK => ?_)
      refine goes_ Try.func95 (by kernel_rfl) rfl #[.int .i64 ((rd_T98 l0_4 x32_2).f0), .int .i64 (l0_3.length : Int)] (by rfl) rfl rfl (by (try simp only [mA_]); first | done | rfl | (simp only [List.length_drop, List.length_take]; rfl)) ?_
      with_reducible refine (impl_isNumber.calls ((rd_T98 l0_4 x32_2).f0) (l0_3.length : Int) true _ A25.out).mono ?_
      rintro e w' ⟨rfl, ⟨nd, rfl⟩⟩
      refine ⟨_, rfl, ?_⟩
      refine hK.out _ _ ⟨(blk_cell BK528.out 0).trans rfl, (blk_cell BK528.out 1).trans rfl, (blk_cell BK528.out 2).trans rfl, (blk_cell BK522.out 0).trans rfl, (blk_cell BK522.out 1).trans rfl, (blk_cell BK522.out 2).trans rfl, (blk_cell BK522.out 3).trans rfl, (blk_cell BK522.out 4).trans rfl, (bcl_ HB.out hw531_0 :), (bcl_ HB.out hw531_1 :), (bcl_ HB.out hw531_2 :), (bcl_ HB.out hw531_3 :)⟩ (fun hHeld => ?_)
      clear hK K
      refine norm_ (a' := ?_) ?_ ?_
      rotate_left
      ·show Act.put _ (some 42) _ = _
       simp only [aq_]
       rfl
      refine pup_ (i := 6) (N := some 43) HT_ rfl rfl (by kernel_rfl) (fun _ _ _ h => h) (Or.inl ⟨by rfl, by intro w'; go_simp; with_reducible rfl⟩) (by simp only [aq_]; rfl) ?_
      refine pup_ (i := 7) (N := some 44) HT_ rfl rfl (by kernel_rfl) (fun _ _ _ h => h) (Or.inl ⟨by rfl, by intro w'; go_simp; with_reducible rfl⟩) (by simp only [aq_]; rfl) ?_
      refine pup_ (i := 8) (N := some 45) HT_ rfl rfl (by kernel_rfl) (fun _ _ _ h => h) (Or.inl ⟨by rfl, by intro w'; go_simp; with_reducible rfl⟩) (by simp only [aq_]; rfl) ?_
      refine pup_ (i := 10) (N := some 47) HT_ rfl rfl (by kernel_rfl) (fun _ _ _ h => h) (Or.inl ⟨by rfl, by intro w'; go_simp; with_reducible rfl⟩) (by simp only [aq_]; rfl) ?_
      refine take_ (i := 9) (N := some 46) (v := ?_) (a' := ?_) q76_11 rfl rfl (take_ofW HT_.out HW_.out (by kernel_rfl)) (fun _ _ _ h => h) (Or.inl ⟨by rfl, ?_⟩) hHeld ?_ ?_
      rotate_left
      ·rintro w' ⟨s0, s1, s2, s3, s4, s5, s6, s7, s8, s9, s10, s11⟩
       go_simp
       with_reducible rfl
      rotate_left
      ·simp only [aq_]
       rfl
      refine take_ (i := 11) (N := some 48) (v := ?_) (a' := ?_) q76_12 rfl rfl (take_ofW HT_.out HW_.out (by kernel_rfl)) (fun _ _ _ h => h) (Or.inl ⟨by rfl, ?_⟩) hHeld ?_ ?_
      rotate_left
      ·rintro w' ⟨s0, s1, s2, s3, s4, s5, s6, s7, s8, s9, s10, s11⟩
       go_simp
       with_reducible rfl
      rotate_left
      ·simp only [aq_]
       rfl
      refine one_ (i := 12) (N := some 49) q76_13 rfl rfl (one_of HT_.out (by kernel_rfl)) (by decide) (fun K hK => ?_)
      refine goes_ Try.func95 (by kernel_rfl) rfl #[.int .i64 ((rd_T98 l0_4 x32_2).f1), .int .i64 a0_0] (by rfl) rfl rfl (by (try simp only [mA_]); first | done | rfl | (simp only [List.length_drop, List.length_take]; rfl)) ?_
      with_reducible refine (impl_isNumber.calls ((rd_T98 l0_4 x32_2).f1) a0_0 true _ A27.out).mono ?_
      rintro e w' ⟨rfl, ⟨nd, rfl⟩⟩
      refine ⟨_, rfl, ?_⟩
      refine hK.out _ _ ⟨(blk_cell BK528.out 0).trans rfl, (blk_cell BK528.out 1).trans rfl, (blk_cell BK528.out 2).trans rfl, (blk_cell BK522.out 0).trans rfl, (blk_cell BK522.out 1).trans rfl, (blk_cell BK522.out 2).trans rfl, (blk_cell BK522.out 3).trans rfl, (blk_cell BK522.out 4).trans rfl, (bcl_ HB.out hw531_0 :), (bcl_ HB.out hw531_1 :), (bcl_ HB.out hw531_2 :), (bcl_ HB.out hw531_3 :)⟩ (fun hHeld => ?_)
      clear hK K
      refine norm_ (a' := ?_) ?_ ?_
      rotate_left
      ·show Act.put _ (some 49) _ = _
       simp only [aq_]
       rfl
      refine pup_ (i := 13) (N := some 50) HT_ rfl rfl (by kernel_rfl) (fun _ _ _ h => h) (Or.inl ⟨by rfl, by intro w'; go_simp; with_reducible rfl⟩) (by simp only [aq_]; rfl) ?_
      refine pup_ (i := 14) (N := some 51) HT_ rfl rfl (by kernel_rfl) (fun _ _ _ h => h) (Or.inl ⟨by rfl, by intro w'; go_simp; with_reducible rfl⟩) (by simp only [aq_]; rfl) ?_
      refine pup_ (i := 15) (N := some 52) HT_ rfl rfl (by kernel_rfl) (fun _ _ _ h => h) (Or.inl ⟨by rfl, by intro w'; go_simp; with_reducible rfl⟩) (by simp only [aq_]; rfl) ?_
      refine pup_ (i := 16) (N := some 53) HT_ rfl rfl (by kernel_rfl) (fun _ _ _ h => h) (Or.inl ⟨by rfl, by intro w'; go_simp; with_reducible rfl⟩) (by simp only [aq_]; rfl) ?_
      refine pup_ (i := 18) (N := some 55) HT_ rfl rfl (by kernel_rfl) (fun _ _ _ h => h) (Or.inl ⟨by rfl, by intro w'; go_simp; with_reducible rfl⟩) (by simp only [aq_]; rfl) ?_
      refine pup_ (i := 20) (N := some 57) HT_ rfl rfl (by kernel_rfl) (fun _ _ _ h => h) (Or.inl ⟨by rfl, by intro w'; go_simp; with_reducible rfl⟩) (by simp only [aq_]; rfl) ?_
      refine pup_ (i := 25) (N := some 62) HT_ rfl rfl (by kernel_rfl) (fun _ _ _ h => h) (Or.inl ⟨by rfl, by intro w'; go_simp; with_reducible rfl⟩) (by simp only [aq_]; rfl) ?_
      refine take_ (i := 17) (N := some 54) (v := ?_) (a' := ?_) q76_21 rfl rfl (take_ofW HT_.out HW_.out (by kernel_rfl)) (fun _ _ _ h => h) (Or.inl ⟨by rfl, ?_⟩) hHeld ?_ ?_
      rotate_left
      ·rintro w' ⟨s0, s1, s2, s3, s4, s5, s6, s7, s8, s9, s10, s11⟩
       go_simp
       with_reducible rfl
      rotate_left
      ·simp only [aq_]
       rfl
      refine take_ (i := 19) (N := some 56) (v := ?_) (a' := ?_) q76_22 rfl rfl (take_ofW HT_.out HW_.out (by kernel_rfl)) (fun _ _ _ h => h) (Or.inl ⟨by rfl, ?_⟩) hHeld ?_ ?_
      rotate_left
      ·rintro w' ⟨s0, s1, s2, s3, s4, s5, s6, s7, s8, s9, s10, s11⟩
       go_simp
       with_reducible rfl
      rotate_left
      ·simp only [aq_]
       rfl
      refine take_ (i := 21) (N := some 58) (v := ?_) (a' := ?_) q76_23 rfl rfl (take_ofW HT_.out HW_.out (by kernel_rfl)) (fun _ _ _ h => h) (Or.inl ⟨by rfl, ?_⟩) hHeld ?_ ?_
      rotate_left
      ·rintro w' ⟨s0, s1, s2, s3, s4, s5, s6, s7, s8, s9, s10, s11⟩
       go_simp
       with_reducible rfl
      rotate_left
      ·simp only [aq_]
       rfl
      refine pup_ (i := 22) (N := some 59) HT_ rfl rfl (by kernel_rfl) (fun _ _ _ h => h) (Or.inl ⟨by rfl, by intro w'; go_simp; with_reducible rfl⟩) (by simp only [aq_]; rfl) ?_
      refine pup_ (i := 23) (N := some 60) HT_ rfl rfl (by kernel_rfl) (fun _ _ _ h => h) (Or.inl ⟨by rfl, by intro w'; go_simp; with_reducible rfl⟩) (by simp only [aq_]; rfl) ?_
      refine take_ (i := 24) (N := some 61) (v := ?_) (a' := ?_) q76_26 rfl rfl (take_ofW HT_.out HW_.out (by kernel_rfl)) (fun _ _ _ h => h) (Or.inl ⟨by rfl, ?_⟩) hHeld ?_ ?_
      rotate_left
      ·rintro w' ⟨s0, s1, s2, s3, s4, s5, s6, s7, s8, s9, s10, s11⟩
       go_simp
       with_reducible rfl
      rotate_left
      ·simp only [aq_]
       rfl
      refine take_ (i := 26) (N := some 63) (v := ?_) (a' := ?_) q76_27 rfl rfl (take_ofW HT_.out HW_.out (by kernel_rfl)) (fun _ _ _ h => h) (Or.inl ⟨by rfl, ?_⟩) hHeld ?_ ?_
      rotate_left
      ·rintro w' ⟨s0, s1, s2, s3, s4, s5, s6, s7, s8, s9, s10, s11⟩
       go_simp
       with_reducible rfl
      rotate_left
      ·simp only [aq_]
       rfl
      refine pup_ (i := 27) (N := some 64) HT_ rfl rfl (by kernel_rfl) (fun _ _ _ h => h) (Or.inl ⟨by rfl, by intro w'; go_simp; with_reducible rfl⟩) (by simp only [aq_]; rfl) ?_
      refine one_ (i := 28) (N := some 65) q76_29 rfl rfl (one_of HT_.out (by kernel_rfl)) (by decide) (fun K hK => ?_)
      refine goes_ Try.func70 (by kernel_rfl) rfl #[.int .i64 ((rd_T98 l0_4 x32_2).f2), .int .i64 ((rd_T61 l0_3 ((rd_T98 l0_4 x32_2).f0)).f2), .int .i64 (wrap64 (a0_2 - 1))] (by rfl) rfl rfl (by (try simp only [mA_]); first | done | rfl | (simp only [List.length_drop, List.length_take]; rfl)) ?_
      with_reducible refine (impl_within.calls ((rd_T98 l0_4 x32_2).f2) ((rd_T61 l0_3 ((rd_T98 l0_4 x32_2).f0)).f2) (wrap64 (a0_2 - 1)) t532 _ A31.out).mono ?_
      rintro e w' ⟨rfl, ⟨nd, rfl⟩⟩
      refine ⟨_, rfl, ?_⟩
      refine hK.out _ _ ⟨(blk_cell BK528.out 0).trans rfl, (blk_cell BK528.out 1).trans rfl, (blk_cell BK528.out 2).trans rfl, (blk_cell BK522.out 0).trans rfl, (blk_cell BK522.out 1).trans rfl, (blk_cell BK522.out 2).trans rfl, (blk_cell BK522.out 3).trans rfl, (blk_cell BK522.out 4).trans rfl, (bcl_ HB.out hw531_0 :), (bcl_ HB.out hw531_1 :), (bcl_ HB.out hw531_2 :), (bcl_ HB.out hw531_3 :)⟩ (fun hHeld => ?_)
      clear hK K
      refine norm_ (a' := ?_) ?_ ?_
      rotate_left
      ·show Act.put _ (some 65) _ = _
       simp only [aq_]
       rfl
      refine pup_ (i := 29) (N := some 66) HT_ rfl rfl (by kernel_rfl) (fun _ _ _ h => h) (Or.inl ⟨by rfl, by intro w'; go_simp; with_reducible rfl⟩) (by simp only [aq_]; rfl) ?_
      refine pup_ (i := 30) (N := some 67) HT_ rfl rfl (by kernel_rfl) (fun _ _ _ h => h) (Or.inl ⟨by rfl, by intro w'; go_simp; with_reducible rfl⟩) (by simp only [aq_]; rfl) ?_
      refine done_ (done_of HT_.out (by kernel_rfl)) ?_
      try go_wp2
      go_meet
      case rel => exact ⟨_, (!t532), (by first | rfl | (simp; done) | (simp [*]; done)), H', ⟨by have := HJ1.out; have := HK2.out; first | omega | exact Nat.le_refl _⟩, ⟨bs BK522.out⟩, ⟨bs BK528.out⟩, ⟨by repeat (first | (with_reducible first | exact bw HB.out | refine bset ?_ | apply bA | apply bN | apply bD) | exact HB.out)⟩⟩
     case rest =>
      clear HC21
      try clear c2
      try clear p2
      try clear c3
      try clear p6
      try clear c7
      try clear c9
      try clear c26
      try clear c28
      try clear c29
      try clear c30
      obtain ⟨kq, x67_20, rfl, HA, HJ20, BK522, BK528, HB⟩ := hcut
      cases kq with
      | zero => exact absurd HA.out (by simp [impl_IsDispatcher.j2])
      | succ kj20 =>
       have H := HA.out
       clear HA
       simp only [impl_IsDispatcher.j2] at H
       by_cases c38 : x67_20 = true
       ·subst c38
        have H1 : (some false) = some r := by rw [if_pos rfl] at H; exact H
        clear H
        have H := H1
        clear H1
        obtain rfl := Option.some.inj H
        go_wp2
        go_ret
        exact ⟨by first | rfl | (simp [errW_none, errW_some] <;> rfl) | (simp [*, errW_none, errW_some] <;> rfl), by repeat (first | (with_reducible first | exact bw HB.out | refine bset ?_ | apply bA | apply bN | apply bD) | exact HB.out)⟩
       replace c38 := Bool.eq_false_iff.mpr c38
       subst c38
       have H1 : (if x32_2 > 0 then (if 0 ≤ (wrap64 (x32_2 - 1)) then (if (wrap64 (x32_2 - 1)) < (l0_4.length : Int) then (if ((rd_T98 l0_4 (wrap64 (x32_2 - 1))).f2) > ((rd_T98 l0_4 x32_2).f2) then (impl_IsDispatcher.j3 kj20 x32_2 l0_4 (l0_4.length : Int) x32_2 true a0_0 a0_1 a0_2 l0_3 l0_4 ((rd_T98 l0_4 x32_2).f0) ((rd_T98 l0_4 x32_2).f1) ((rd_T98 l0_4 x32_2).f2)) else (if ((rd_T98 l0_4 (wrap64 (x32_2 - 1))).f2) = ((rd_T98 l0_4 x32_2).f2) then (impl_IsDispatcher.j3 kj20 x32_2 l0_4 (l0_4.length : Int) x32_2 (decide (((rd_T98 l0_4 (wrap64 (x32_2 - 1))).f1) ≥ ((rd_T98 l0_4 x32_2).f1))) a0_0 a0_1 a0_2 l0_3 l0_4 ((rd_T98 l0_4 x32_2).f0) ((rd_T98 l0_4 x32_2).f1) ((rd_T98 l0_4 x32_2).f2)) else (impl_IsDispatcher.j3 kj20 x32_2 l0_4 (l0_4.length : Int) x32_2 false a0_0 a0_1 a0_2 l0_3 l0_4 ((rd_T98 l0_4 x32_2).f0) ((rd_T98 l0_4 x32_2).f1) ((rd_T98 l0_4 x32_2).f2)))) else (none)) else (none)) else (impl_IsDispatcher.j3 kj20 x32_2 l0_4 (l0_4.length : Int) x32_2 false a0_0 a0_1 a0_2 l0_3 l0_4 ((rd_T98 l0_4 x32_2).f0) ((rd_T98 l0_4 x32_2).f1) ((rd_T98 l0_4 x32_2).f2))) = some r := by rw [if_neg (show ¬ (false = true) by decide)] at H; exact H
       clear H
       have H := H1
       clear H1
       have HC39 := Aside0.mk H
       clear H
       go_upto_region 8 with (fail)
       go_cut [105] (fun v105 wc => ∃ (kq : Nat) (x105_38 : Bool), v105 = .bool x105_38 ∧ Aside0 (impl_IsDispatcher.j3 kq x32_2 l0_4 (l0_4.length : Int) x32_2 x105_38 a0_0 a0_1 a0_2 l0_3 l0_4 ((rd_T98 l0_4 x32_2).f0) ((rd_T98 l0_4 x32_2).f1) ((rd_T98 l0_4 x32_2).f2) = some r) ∧ Aside0 (kq ≤ kj20) ∧ Aside0 (wc.heap[gb522]? = some (.cells #[.int .i64 a0_0, .int .i64 a0_1, .int .i64 a0_2, (.slice A0_3 l0_3.length c0_3), (.slice (some ad527) l0_4.length c0_4)] 43 (0, 0))) ∧ Aside0 (wc.heap[gb528]? = some (.cells #[.int .i64 ((rd_T98 l0_4 x32_2).f0), .int .i64 ((rd_T98 l0_4 x32_2).f1), .int .i64 ((rd_T98 l0_4 x32_2).f2)] 98 (0, 0))) ∧ Aside0 (Below w.heap.size w wc))
       case first =>
        have H := HC39.out
        clear HC39
        by_cases c40 : x32_2 > 0
        rotate_left
        ·rw [if_neg c40] at H
         have c40b0 : decide (0 < x32_2) = false := decide_eq_false c40
         clear c40
         (first | rw [c40b0] | (simp only [i64_w, i32_w]; rw [c40b0]) | skip)
         have H' := Aside0.mk H
         clear H
         try go_wp2
         have n0_ := Aside0.mk (blk_drew BK522.out)
         have n1_ := Aside0.mk (blk_drew BK528.out)
         have n2_ := Aside0.mk (below_drew1 HB.out)
         replace BK522 := n0_
         replace BK528 := n1_
         replace HB := n2_
         clear n0_ n1_ n2_
         refine start_ (n := 38) (S := fun w' => True) (ds := []) q76_41 (by kernel_rfl) rfl rfl trivial (fun hHeld => ?_); refine with_tabW impl_IsDispatcher.tab8 impl_IsDispatcher.bits8 (fun HT_ HW_ => ?_)
         generalize wc.drew = w49 at BK522 BK528 HB hHeld ⊢
         refine pup_ (i := 0) (N := some 68) HT_ rfl rfl (by kernel_rfl) (fun _ _ _ h => h) (Or.inl ⟨by rfl, by intro w'; go_simp; with_reducible rfl⟩) (by simp only [aq_]; rfl) ?_
         refine pup_ (i := 1) (N := some 69) HT_ rfl rfl (by kernel_rfl) (fun _ _ _ h => h) (Or.inl ⟨by rfl, by intro w'; go_simp; with_reducible rfl⟩) (by simp only [aq_]; rfl) ?_
         refine pup_ (i := 2) (N := some 70) HT_ rfl rfl (by kernel_rfl) (fun _ _ _ h => h) (Or.inl ⟨by rfl, by intro w'; go_simp; with_reducible rfl⟩) (by simp only [aq_]; rfl) ?_
         refine skp_ HT_ 3 (some 71) rfl rfl (by kernel_rfl) (fun _ _ _ h => h) (by rfl) (by simp only [aq_]; rfl) ?_
         refine skp_ HT_ 4 (some 72) rfl rfl (by kernel_rfl) (fun _ _ _ h => h) (by rfl) (by simp only [aq_]; rfl) ?_
         refine skp_ HT_ 5 (some 73) rfl rfl (by kernel_rfl) (fun _ _ _ h => h) (by rfl) (by simp only [aq_]; rfl) ?_
         refine skp_ HT_ 6 (some 74) rfl rfl (by kernel_rfl) (fun _ _ _ h => h) (by rfl) (by simp only [aq_]; rfl) ?_
         refine skp_ HT_ 7 (some 75) rfl rfl (by kernel_rfl) (fun _ _ _ h => h) (by rfl) (by simp only [aq_]; rfl) ?_
         refine skp_ HT_ 8 (some 76) rfl rfl (by kernel_rfl) (fun _ _ _ h => h) (by rfl) (by simp only [aq_]; rfl) ?_
         refine skp_ HT_ 9 (some 77) rfl rfl (by kernel_rfl) (fun _ _ _ h => h) (by rfl) (by simp only [aq_]; rfl) ?_
         refine skp_ HT_ 10 (some 78) rfl rfl (by kernel_rfl) (fun _ _ _ h => h) (by rfl) (by simp only [aq_]; rfl) ?_
         refine skp_ HT_ 11 (some 79) rfl rfl (by kernel_rfl) (fun _ _ _ h => h) (by rfl) (by simp only [aq_]; rfl) ?_
         refine skp_ HT_ 12 (some 80) rfl rfl (by kernel_rfl) (fun _ _ _ h => h) (by rfl) (by simp only [aq_]; rfl) ?_
         refine skp_ HT_ 13 (some 81) rfl rfl (by kernel_rfl) (fun _ _ _ h => h) (by rfl) (by simp only [aq_]; rfl) ?_
         refine skp_ HT_ 14 (some 82) rfl rfl (by kernel_rfl) (fun _ _ _ h => h) (by rfl) (by simp only [aq_]; rfl) ?_
         refine skp_ HT_ 15 (some 83) rfl rfl (by kernel_rfl) (fun _ _ _ h => h) (by rfl) (by simp only [aq_]; rfl) ?_
         refine skp_ HT_ 16 (some 84) rfl rfl (by kernel_rfl) (fun _ _ _ h => h) (by rfl) (by simp only [aq_]; rfl) ?_
         refine skp_ HT_ 17 (some 85) rfl rfl (by kernel_rfl) (fun _ _ _ h => h) (by rfl) (by simp only [aq_]; rfl) ?_
         refine skp_ HT_ 18 (some 86) rfl rfl (by kernel_rfl) (fun _ _ _ h => h) (by rfl) (by simp only [aq_]; rfl) ?_
         refine skp_ HT_ 19 (some 87) rfl rfl (by kernel_rfl) (fun _ _ _ h => h) (by rfl) (by simp only [aq_]; rfl) ?_
         refine skp_ HT_ 20 (some 88) rfl rfl (by kernel_rfl) (fun _ _ _ h => h) (by rfl) (by simp only [aq_]; rfl) ?_
         refine skp_ HT_ 21 (some 89) rfl rfl (by kernel_rfl) (fun _ _ _ h => h) (by rfl) (by simp only [aq_]; rfl) ?_
         refine skp_ HT_ 22 (some 90) rfl rfl (by kernel_rfl) (fun _ _ _ h => h) (by rfl) (by simp only [aq_]; rfl) ?_
         refine skp_ HT_ 23 (some 91) rfl rfl (by kernel_rfl) (fun _ _ _ h => h) (by rfl) (by simp only [aq_]; rfl) ?_
         refine skp_ HT_ 24 (some 92) rfl rfl (by kernel_rfl) (fun _ _ _ h => h) (by rfl) (by simp only [aq_]; rfl) ?_
         refine skp_ HT_ 25 (some 93) rfl rfl (by kernel_rfl) (fun _ _ _ h => h) (by rfl) (by simp only [aq_]; rfl) ?_
         refine skp_ HT_ 26 (some 94) rfl rfl (by kernel_rfl) (fun _ _ _ h => h) (by rfl) (by simp only [aq_]; rfl) ?_
         refine skp_ HT_ 27 (some 95) rfl rfl (by kernel_rfl) (fun _ _ _ h => h) (by rfl) (by simp only [aq_]; rfl) ?_
         refine skp_ HT_ 28 (some 96) rfl rfl (by kernel_rfl) (fun _ _ _ h => h) (by rfl) (by simp only [aq_]; rfl) ?_
         refine skp_ HT_ 29 (some 97) rfl rfl (by kernel_rfl) (fun _ _ _ h => h) (by rfl) (by simp only [aq_]; rfl) ?_
         refine skp_ HT_ 30 (some 98) rfl rfl (by kernel_rfl) (fun _ _ _ h => h) (by rfl) (by simp only [aq_]; rfl) ?_
         refine skp_ HT_ 31 (some 99) rfl rfl (by kernel_rfl) (fun _ _ _ h => h) (by rfl) (by simp only [aq_]; rfl) ?_
         refine skp_ HT_ 32 (some 100) rfl rfl (by kernel_rfl) (fun _ _ _ h => h) (by rfl) (by simp only [aq_]; rfl) ?_
         refine skp_ HT_ 33 (some 101) rfl rfl (by kernel_rfl) (fun _ _ _ h => h) (by rfl) (by simp only [aq_]; rfl) ?_
         refine skp_ HT_ 34 (some 102) rfl rfl (by kernel_rfl) (fun _ _ _ h => h) (by rfl) (by simp only [aq_]; rfl) ?_
         refine skp_ HT_ 35 (some 103) rfl rfl (by kernel_rfl) (fun _ _ _ h => h) (by rfl) (by simp only [aq_]; rfl) ?_
         refine skp_ HT_ 36 (some 104) rfl rfl (by kernel_rfl) (fun _ _ _ h => h) (by rfl) (by simp only [aq_]; rfl) ?_
         refine pup_ (i := 37) (N := some 105) HT_ rfl rfl (by kernel_rfl) (fun _ _ _ h => h) (Or.inl ⟨by rfl, by intro w'; go_simp; with_reducible rfl⟩) (by simp only [aq_]; rfl) ?_
         refine done_ (done_of HT_.out (by kernel_rfl)) ?_
         try go_wp2
         go_meet
         case rel => exact ⟨_, (false), (by first | rfl | (simp; done) | (simp [*]; done)), H', ⟨by have := HJ1.out; have := HK2.out; have := HJ20.out; first | omega | exact Nat.le_refl _⟩, ⟨bs BK522.out⟩, ⟨bs BK528.out⟩, ⟨by repeat (first | (with_reducible first | exact bw HB.out | refine bset ?_ | apply bA | apply bN | apply bD) | exact HB.out)⟩⟩
        rw [if_pos c40] at H
        have c40b0 : decide (0 < x32_2) = true := decide_eq_true c40
        clear c40
        (first | rw [c40b0] | (simp only [i64_w, i32_w]; rw [c40b0]) | skip)
        obtain ⟨ji41, hji41⟩ : ∃ j_ : Int, (wrap64 (x32_2 - 1)) = j_ := ⟨_, rfl⟩
        replace H : (if 0 ≤ (ji41) then (if (ji41) < (l0_4.length : Int) then (if ((rd_T98 l0_4 (ji41)).f2) > ((rd_T98 l0_4 x32_2).f2) then (impl_IsDispatcher.j3 kj20 x32_2 l0_4 (l0_4.length : Int) x32_2 true a0_0 a0_1 a0_2 l0_3 l0_4 ((rd_T98 l0_4 x32_2).f0) ((rd_T98 l0_4 x32_2).f1) ((rd_T98 l0_4 x32_2).f2)) else (if ((rd_T98 l0_4 (ji41)).f2) = ((rd_T98 l0_4 x32_2).f2) then (impl_IsDispatcher.j3 kj20 x32_2 l0_4 (l0_4.length : Int) x32_2 (decide (((rd_T98 l0_4 (ji41)).f1) ≥ ((rd_T98 l0_4 x32_2).f1))) a0_0 a0_1 a0_2 l0_3 l0_4 ((rd_T98 l0_4 x32_2).f0) ((rd_T98 l0_4 x32_2).f1) ((rd_T98 l0_4 x32_2).f2)) else (impl_IsDispatcher.j3 kj20 x32_2 l0_4 (l0_4.length : Int) x32_2 false a0_0 a0_1 a0_2 l0_3 l0_4 ((rd_T98 l0_4 x32_2).f0) ((rd_T98 l0_4 x32_2).f1) ((rd_T98 l0_4 x32_2).f2)))) else (none)) else (none)) = some r := by first | (rw [hji41] at H; exact H) | (simp only [hji41] at H ⊢; exact H)
        have hji41w : (IntKind.i64.wrap (x32_2 - 1)) = ji41 := (i64_w _).trans hji41
        by_cases c42 : 0 ≤ (ji41)
        rotate_left
        ·rw [if_neg c42] at H
         exact absurd H (by simp)
        rw [if_pos c42] at H
        have c42b0 : decide (0 ≤ (ji41)) = true := decide_eq_true c42
        clear c42
        by_cases c43 : (ji41) < (l0_4.length : Int)
        rotate_left
        ·rw [if_neg c43] at H
         exact absurd H (by simp)
        rw [if_pos c43] at H
        have c43b0 : decide ((ji41) < (l0_4.length : Int)) = true := decide_eq_true c43
        clear c43
        by_cases c44 : ((rd_T98 l0_4 (ji41)).f2) > ((rd_T98 l0_4 x32_2).f2)
        ·rw [if_pos c44] at H
         have c44b0 : decide (((rd_T98 l0_4 x32_2).f2) < ((rd_T98 l0_4 (ji41)).f2)) = true := decide_eq_true c44
         clear c44
         have H' := Aside0.mk H
         clear H
         try go_wp2
         have n0_ := Aside0.mk (blk_drew BK522.out)
         have n1_ := Aside0.mk (blk_drew BK528.out)
         have n2_ := Aside0.mk (below_drew1 HB.out)
         replace BK522 := n0_
         replace BK528 := n1_
         replace HB := n2_
         clear n0_ n1_ n2_
         have p533 : 0 ≤ ((ji41) : Int) := of_decide_eq_true (by first | (with_reducible assumption) | assumption)
         have q533 : (ji41) < (l0_4.length : Int) := of_decide_eq_true (by first | (with_reducible assumption) | assumption)
         obtain ⟨ad533, e533, hx533_0, hx533_1, hx533_2⟩ := at_T98 HR0_4.out (ji41) p533 q533
         have hw533_2 := hx533_2
         have hw533_1 := hx533_1
         have hw533_0 := hx533_0
         obtain rfl : ad527 = ad533 := (by injection e533)
         replace hx533_0 := (HB.out.cell (World.block_lt_of_cell? w _ hx533_0)).trans hx533_0
         replace hx533_1 := (HB.out.cell (World.block_lt_of_cell? w _ hx533_1)).trans hx533_1
         replace hx533_2 := (HB.out.cell (World.block_lt_of_cell? w _ hx533_2)).trans hx533_2
         replace p533 := eq_true p533
         replace q533 := eq_true q533
         refine start_ (n := 38) (S := fun w' => w'.cell? ⟨gb522, 0, none⟩ = some (.int .i64 a0_0) ∧ w'.cell? ⟨gb522, 1, none⟩ = some (.int .i64 a0_1) ∧ w'.cell? ⟨gb522, 2, none⟩ = some (.int .i64 a0_2) ∧ w'.cell? ⟨gb522, 3, none⟩ = some (.slice A0_3 l0_3.length c0_3) ∧ w'.cell? ⟨gb522, 4, none⟩ = some (.slice (some ad527) l0_4.length c0_4) ∧ w'.cell? ⟨gb528, 0, none⟩ = some (.int .i64 ((rd_T98 l0_4 x32_2).f0)) ∧ w'.cell? ⟨gb528, 1, none⟩ = some (.int .i64 ((rd_T98 l0_4 x32_2).f1)) ∧ w'.cell? ⟨gb528, 2, none⟩ = some (.int .i64 ((rd_T98 l0_4 x32_2).f2)) ∧ w'.cell? (ad527.add (((ji41)).toNat * 3)) = some (.int .i64 ((rd_T98 l0_4 (ji41)).f0)) ∧ w'.cell? ⟨(ad527.add (((ji41)).toNat * 3)).block, (ad527.add (((ji41)).toNat * 3)).off + 1, none⟩ = some (.int .i64 ((rd_T98 l0_4 (ji41)).f1)) ∧ w'.cell? ⟨(ad527.add (((ji41)).toNat * 3)).block, (ad527.add (((ji41)).toNat * 3)).off + 2, none⟩ = some (.int .i64 ((rd_T98 l0_4 (ji41)).f2))) (ds := []) q76_41 (by kernel_rfl) rfl rfl ⟨(blk_cell BK522.out 0).trans rfl, (blk_cell BK522.out 1).trans rfl, (blk_cell BK522.out 2).trans rfl, (blk_cell BK522.out 3).trans rfl, (blk_cell BK522.out 4).trans rfl, (blk_cell BK528.out 0).trans rfl, (blk_cell BK528.out 1).trans rfl, (blk_cell BK528.out 2).trans rfl, (bcl_ HB.out hw533_0 :), (bcl_ HB.out hw533_1 :), (bcl_ HB.out hw533_2 :)⟩ (fun hHeld => ?_); refine with_tabW impl_IsDispatcher.tab8 impl_IsDispatcher.bits8 (fun HT_ HW_ => ?_)
         generalize wc.drew = w45 at BK522 BK528 HB hx533_0 hx533_1 hx533_2 hHeld ⊢
         refine pup_ (i := 0) (N := some 68) HT_ rfl rfl (by kernel_rfl) (fun _ _ _ h => h) (Or.inl ⟨by rfl, by intro w'; go_simp; with_reducible rfl⟩) (by simp only [aq_]; rfl) ?_
         refine pup_ (i := 1) (N := some 69) HT_ rfl rfl (by kernel_rfl) (fun _ _ _ h => h) (Or.inl ⟨by rfl, by intro w'; go_simp; with_reducible rfl⟩) (by simp only [aq_]; rfl) ?_
         refine pup_ (i := 2) (N := some 70) HT_ rfl rfl (by kernel_rfl) (fun _ _ _ h => h) (Or.inl ⟨by rfl, by intro w'; go_simp; with_reducible rfl⟩) (by simp only [aq_]; rfl) ?_
         refine pup_ (i := 3) (N := some 71) HT_ rfl rfl (by kernel_rfl) (fun _ _ _ h => h) (Or.inl ⟨by rfl, by intro w'; go_simp; with_reducible rfl⟩) (by simp only [aq_]; rfl) ?_
         refine pup_ (i := 5) (N := some 73) HT_ rfl rfl (by kernel_rfl) (fun _ _ _ h => h) (Or.inl ⟨by rfl, by intro w'; go_simp; with_reducible rfl⟩) (by simp only [aq_]; rfl) ?_
         refine pup_ (i := 6) (N := some 74) HT_ rfl rfl (by kernel_rfl) (fun _ _ _ h => h) (Or.inl ⟨by rfl, by intro w'; go_simp; with_reducible rfl⟩) (by simp only [aq_]; rfl) ?_
         refine pup_ (i := 10) (N := some 78) HT_ rfl rfl (by kernel_rfl) (fun _ _ _ h => h) (Or.inl ⟨by rfl, by intro w'; go_simp; with_reducible rfl⟩) (by simp only [aq_]; rfl) ?_
         refine take_ (i := 4) (N := some 72) (v := ?_) (a' := ?_) q76_49 rfl rfl (take_ofW HT_.out HW_.out (by kernel_rfl)) (fun _ _ _ h => h) (Or.inl ⟨by rfl, ?_⟩) hHeld ?_ ?_
         rotate_left
         ·rintro w' ⟨s0, s1, s2, s3, s4, s5, s6, s7, s8, s9, s10⟩
          go_simp
          with_reducible rfl
         rotate_left
         ·simp only [aq_]
          rfl
         refine pup_ (i := 7) (N := some 75) HT_ rfl rfl (by kernel_rfl) (fun _ _ _ h => h) (Or.inl ⟨by rfl, by intro w'; go_simp; with_reducible rfl⟩) (by simp only [aq_]; rfl) ?_
         refine pup_ (i := 8) (N := some 76) HT_ rfl rfl (by kernel_rfl) (fun _ _ _ h => h) (Or.inl ⟨by rfl, by intro w'; go_simp; with_reducible rfl⟩) (by simp only [aq_]; rfl) ?_
         refine take_ (i := 9) (N := some 77) (v := ?_) (a' := ?_) q76_52 rfl rfl (take_ofW HT_.out HW_.out (by kernel_rfl)) (fun _ _ _ h => h) (Or.inl ⟨by rfl, ?_⟩) hHeld ?_ ?_
         rotate_left
         ·rintro w' ⟨s0, s1, s2, s3, s4, s5, s6, s7, s8, s9, s10⟩
          go_simp
          with_reducible rfl
         rotate_left
         ·simp only [aq_]
          rfl
         refine take_ (i := 11) (N := some 79) (v := ?_) (a' := ?_) q76_53 rfl rfl (take_ofW HT_.out HW_.out (by kernel_rfl)) (fun _ _ _ h => h) (Or.inl ⟨by rfl, ?_⟩) hHeld ?_ ?_
         rotate_left
         ·rintro w' ⟨s0, s1, s2, s3, s4, s5, s6, s7, s8, s9, s10⟩
          go_simp
          with_reducible rfl
         rotate_left
         ·simp only [aq_]
          rfl
         refine pup_ (i := 12) (N := some 80) HT_ rfl rfl (by kernel_rfl) (fun _ _ _ h => h) (Or.inl ⟨by rfl, by intro w'; go_simp; with_reducible rfl⟩) (by simp only [aq_]; rfl) ?_
         refine pup_ (i := 13) (N := some 81) HT_ rfl rfl (by kernel_rfl) (fun _ _ _ h => h) (Or.inl ⟨by rfl, by intro w'; go_simp; with_reducible rfl⟩) (by simp only [aq_]; rfl) ?_
         refine skp_ HT_ 14 (some 82) rfl rfl (by kernel_rfl) (fun _ _ _ h => h) (by rfl) (by simp only [aq_]; rfl) ?_
         refine skp_ HT_ 15 (some 83) rfl rfl (by kernel_rfl) (fun _ _ _ h => h) (by rfl) (by simp only [aq_]; rfl) ?_
         refine skp_ HT_ 16 (some 84) rfl rfl (by kernel_rfl) (fun _ _ _ h => h) (by rfl) (by simp only [aq_]; rfl) ?_
         refine skp_ HT_ 17 (some 85) rfl rfl (by kernel_rfl) (fun _ _ _ h => h) (by rfl) (by simp only [aq_]; rfl) ?_
         refine skp_ HT_ 18 (some 86) rfl rfl (by kernel_rfl) (fun _ _ _ h => h) (by rfl) (by simp only [aq_]; rfl) ?_
         refine skp_ HT_ 19 (some 87) rfl rfl (by kernel_rfl) (fun _ _ _ h => h) (by rfl) (by simp only [aq_]; rfl) ?_
         refine skp_ HT_ 20 (some 88) rfl rfl (by kernel_rfl) (fun _ _ _ h => h) (by rfl) (by simp only [aq_]; rfl) ?_
         refine skp_ HT_ 21 (some 89) rfl rfl (by kernel_rfl) (fun _ _ _ h => h) (by rfl) (by simp only [aq_]; rfl) ?_
         refine skp_ HT_ 22 (some 90) rfl rfl (by kernel_rfl) (fun _ _ _ h => h) (by rfl) (by simp only [aq_]; rfl) ?_
         refine skp_ HT_ 23 (some 91) rfl rfl (by kernel_rfl) (fun _ _ _ h => h) (by rfl) (by simp only [aq_]; rfl) ?_
         refine skp_ HT_ 24 (some 92) rfl rfl (by kernel_rfl) (fun _ _ _ h => h) (by rfl) (by simp only [aq_]; rfl) ?_
         refine skp_ HT_ 25 (some 93) rfl rfl (by kernel_rfl) (fun _ _ _ h => h) (by rfl) (by simp only [aq_]; rfl) ?_
         refine skp_ HT_ 26 (some 94) rfl rfl (by kernel_rfl) (fun _ _ _ h => h) (by rfl) (by simp only [aq_]; rfl) ?_
         refine skp_ HT_ 27 (some 95) rfl rfl (by kernel_rfl) (fun _ _ _ h => h) (by rfl) (by simp only [aq_]; rfl) ?_
         refine skp_ HT_ 28 (some 96) rfl rfl (by kernel_rfl) (fun _ _ _ h => h) (by rfl) (by simp only [aq_]; rfl) ?_
         refine skp_ HT_ 29 (some 97) rfl rfl (by kernel_rfl) (fun _ _ _ h => h) (by rfl) (by simp only [aq_]; rfl) ?_
         refine skp_ HT_ 30 (some 98) rfl rfl (by kernel_rfl) (fun _ _ _ h => h) (by rfl) (by simp only [aq_]; rfl) ?_
         refine skp_ HT_ 31 (some 99) rfl rfl (by kernel_rfl) (fun _ _ _ h => h) (by rfl) (by simp only [aq_]; rfl) ?_
         refine skp_ HT_ 32 (some 100) rfl rfl (by kernel_rfl) (fun _ _ _ h => h) (by rfl) (by simp only [aq_]; rfl) ?_
         refine skp_ HT_ 33 (some 101) rfl rfl (by kernel_rfl) (fun _ _ _ h => h) (by rfl) (by simp only [aq_]; rfl) ?_
         refine skp_ HT_ 34 (some 102) rfl rfl (by kernel_rfl) (fun _ _ _ h => h) (by rfl) (by simp only [aq_]; rfl) ?_
         refine skp_ HT_ 35 (some 103) rfl rfl (by kernel_rfl) (fun _ _ _ h => h) (by rfl) (by simp only [aq_]; rfl) ?_
         refine pup_ (i := 36) (N := some 104) HT_ rfl rfl (by kernel_rfl) (fun _ _ _ h => h) (Or.inl ⟨by rfl, by intro w'; go_simp; with_reducible rfl⟩) (by simp only [aq_]; rfl) ?_
         refine pup_ (i := 37) (N := some 105) HT_ rfl rfl (by kernel_rfl) (fun _ _ _ h => h) (Or.inl ⟨by rfl, by intro w'; go_simp; with_reducible rfl⟩) (by simp only [aq_]; rfl) ?_
         refine done_ (done_of HT_.out (by kernel_rfl)) ?_
         try go_wp2
         go_meet
         case rel => exact ⟨_, (true), (by first | rfl | (simp; done) | (simp [*]; done)), H', ⟨by have := HJ1.out; have := HK2.out; have := HJ20.out; first | omega | exact Nat.le_refl _⟩, ⟨bs BK522.out⟩, ⟨bs BK528.out⟩, ⟨by repeat (first | (with_reducible first | exact bw HB.out | refine bset ?_ | apply bA | apply bN | apply bD) | exact HB.out)⟩⟩
        rw [if_neg c44] at H
        have c44b0 : decide (((rd_T98 l0_4 x32_2).f2) < ((rd_T98 l0_4 (ji41)).f2)) = false := decide_eq_false c44
        clear c44
        by_cases c46 : ((rd_T98 l0_4 (ji41)).f2) = ((rd_T98 l0_4 x32_2).f2)
        rotate_left
        ·rw [if_neg c46] at H
         have c46b0 : (((rd_T98 l0_4 (ji41)).f2) == ((rd_T98 l0_4 x32_2).f2)) = false := beq_eq_false_iff_ne.mpr c46
         have c46b1 : (((rd_T98 l0_4 (ji41)).f2) != ((rd_T98 l0_4 x32_2).f2)) = true := bne_iff_ne.mpr c46
         have H' := Aside0.mk H
         clear H
         try go_wp2
         have n0_ := Aside0.mk (blk_drew BK522.out)
         have n1_ := Aside0.mk (blk_drew BK528.out)
         have n2_ := Aside0.mk (below_drew1 HB.out)
         replace BK522 := n0_
         replace BK528 := n1_
         replace HB := n2_
         clear n0_ n1_ n2_
         have p533 : 0 ≤ ((ji41) : Int) := of_decide_eq_true (by first | (with_reducible assumption) | assumption)
         have q533 : (ji41) < (l0_4.length : Int) := of_decide_eq_true (by first | (with_reducible assumption) | assumption)
         obtain ⟨ad533, e533, hx533_0, hx533_1, hx533_2⟩ := at_T98 HR0_4.out (ji41) p533 q533
         have hw533_2 := hx533_2
         have hw533_1 := hx533_1
         have hw533_0 := hx533_0
         obtain rfl : ad527 = ad533 := (by injection e533)
         replace hx533_0 := (HB.out.cell (World.block_lt_of_cell? w _ hx533_0)).trans hx533_0
         replace hx533_1 := (HB.out.cell (World.block_lt_of_cell? w _ hx533_1)).trans hx533_1
         replace hx533_2 := (HB.out.cell (World.block_lt_of_cell? w _ hx533_2)).trans hx533_2
         replace p533 := eq_true p533
         replace q533 := eq_true q533
         have p534 : 0 ≤ ((ji41) : Int) := of_decide_eq_true (by first | (with_reducible assumption) | assumption)
         have q534 : (ji41) < (l0_4.length : Int) := of_decide_eq_true (by first | (with_reducible assumption) | assumption)
         obtain ⟨ad534, e534, hx534_0, hx534_1, hx534_2⟩ := at_T98 HR0_4.out (ji41) p534 q534
         have hw534_2 := hx534_2
         have hw534_1 := hx534_1
         have hw534_0 := hx534_0
         obtain rfl : ad527 = ad534 := (by injection e534)
         replace hx534_0 := (HB.out.cell (World.block_lt_of_cell? w _ hx534_0)).trans hx534_0
         replace hx534_1 := (HB.out.cell (World.block_lt_of_cell? w _ hx534_1)).trans hx534_1
         replace hx534_2 := (HB.out.cell (World.block_lt_of_cell? w _ hx534_2)).trans hx534_2
         replace p534 := eq_true p534
         replace q534 := eq_true q534
         refine start_ (n := 38) (S := fun w' => w'.cell? ⟨gb522, 0, none⟩ = some (.int .i64 a0_0) ∧ w'.cell? ⟨gb522, 1, none⟩ = some (.int .i64 a0_1) ∧ w'.cell? ⟨gb522, 2, none⟩ = some (.int .i64 a0_2) ∧ w'.cell? ⟨gb522, 3, none⟩ = some (.slice A0_3 l0_3.length c0_3) ∧ w'.cell? ⟨gb522, 4, none⟩ = some (.slice (some ad527) l0_4.length c0_4) ∧ w'.cell? ⟨gb528, 0, none⟩ = some (.int .i64 ((rd_T98 l0_4 x32_2).f0)) ∧ w'.cell? ⟨gb528, 1, none⟩ = some (.int .i64 ((rd_T98 l0_4 x32_2).f1)) ∧ w'.cell? ⟨gb528, 2, none⟩ = some (.int .i64 ((rd_T98 l0_4 x32_2).f2)) ∧ w'.cell? (ad527.add (((ji41)).toNat * 3)) = some (.int .i64 ((rd_T98 l0_4 (ji41)).f0)) ∧ w'.cell? ⟨(ad527.add (((ji41)).toNat * 3)).block, (ad527.add (((ji41)).toNat * 3)).off + 1, none⟩ = some (.int .i64 ((rd_T98 l0_4 (ji41)).f1)) ∧ w'.cell? ⟨(ad527.add (((ji41)).toNat * 3)).block, (ad527.add (((ji41)).toNat * 3)).off + 2, none⟩ = some (.int .i64 ((rd_T98 l0_4 (ji41)).f2)) ∧ w'.cell? (ad527.add (((ji41)).toNat * 3)) = some (.int .i64 ((rd_T98 l0_4 (ji41)).f0)) ∧ w'.cell? ⟨(ad527.add (((ji41)).toNat * 3)).block, (ad527.add (((ji41)).toNat * 3)).off + 1, none⟩ = some (.int .i64 ((rd_T98 l0_4 (ji41)).f1)) ∧ w'.cell? ⟨(ad527.add (((ji41)).toNat * 3)).block, (ad527.add (((ji41)).toNat * 3)).off + 2, none⟩ = some (.int .i64 ((rd_T98 l0_4 (ji41)).f2))) (ds := []) q76_41 (by kernel_rfl) rfl rfl ⟨(blk_cell BK522.out 0).trans rfl, (blk_cell BK522.out 1).trans rfl, (blk_cell BK522.out 2).trans rfl, (blk_cell BK522.out 3).trans rfl, (blk_cell BK522.out 4).trans rfl, (blk_cell BK528.out 0).trans rfl, (blk_cell BK528.out 1).trans rfl, (blk_cell BK528.out 2).trans rfl, (bcl_ HB.out hw533_0 :), (bcl_ HB.out hw533_1 :), (bcl_ HB.out hw533_2 :), (bcl_ HB.out hw534_0 :), (bcl_ HB.out hw534_1 :), (bcl_ HB.out hw534_2 :)⟩ (fun hHeld => ?_); refine with_tabW impl_IsDispatcher.tab8 impl_IsDispatcher.bits8 (fun HT_ HW_ => ?_)
         generalize wc.drew = w48 at BK522 BK528 HB hx533_0 hx533_1 hx533_2 hx534_0 hx534_1 hx534_2 hHeld ⊢
         refine pup_ (i := 0) (N := some 68) HT_ rfl rfl (by kernel_rfl) (fun _ _ _ h => h) (Or.inl ⟨by rfl, by intro w'; go_simp; with_reducible rfl⟩) (by simp only [aq_]; rfl) ?_
         refine pup_ (i := 1) (N := some 69) HT_ rfl rfl (by kernel_rfl) (fun _ _ _ h => h) (Or.inl ⟨by rfl, by intro w'; go_simp; with_reducible rfl⟩) (by simp only [aq_]; rfl) ?_
         refine pup_ (i := 2) (N := some 70) HT_ rfl rfl (by kernel_rfl) (fun _ _ _ h => h) (Or.inl ⟨by rfl, by intro w'; go_simp; with_reducible rfl⟩) (by simp only [aq_]; rfl) ?_
         refine pup_ (i := 3) (N := some 71) HT_ rfl rfl (by kernel_rfl) (fun _ _ _ h => h) (Or.inl ⟨by rfl, by intro w'; go_simp; with_reducible rfl⟩) (by simp only [aq_]; rfl) ?_
         refine pup_ (i := 5) (N := some 73) HT_ rfl rfl (by kernel_rfl) (fun _ _ _ h => h) (Or.inl ⟨by rfl, by intro w'; go_simp; with_reducible rfl⟩) (by simp only [aq_]; rfl) ?_
         refine pup_ (i := 6) (N := some 74) HT_ rfl rfl (by kernel_rfl) (fun _ _ _ h => h) (Or.inl ⟨by rfl, by intro w'; go_simp; with_reducible rfl⟩) (by simp only [aq_]; rfl) ?_
         refine pup_ (i := 10) (N := some 78) HT_ rfl rfl (by kernel_rfl) (fun _ _ _ h => h) (Or.inl ⟨by rfl, by intro w'; go_simp; with_reducible rfl⟩) (by simp only [aq_]; rfl) ?_
         refine take_ (i := 4) (N := some 72) (v := ?_) (a' := ?_) q76_49 rfl rfl (take_ofW HT_.out HW_.out (by kernel_rfl)) (fun _ _ _ h => h) (Or.inl ⟨by rfl, ?_⟩) hHeld ?_ ?_
         rotate_left
         ·rintro w' ⟨s0, s1, s2, s3, s4, s5, s6, s7, s8, s9, s10, s11, s12, s13⟩
          go_simp
          with_reducible rfl
         rotate_left
         ·simp only [aq_]
          rfl
         refine pup_ (i := 7) (N := some 75) HT_ rfl rfl (by kernel_rfl) (fun _ _ _ h => h) (Or.inl ⟨by rfl, by intro w'; go_simp; with_reducible rfl⟩) (by simp only [aq_]; rfl) ?_
         refine pup_ (i := 8) (N := some 76) HT_ rfl rfl (by kernel_rfl) (fun _ _ _ h => h) (Or.inl ⟨by rfl, by intro w'; go_simp; with_reducible rfl⟩) (by simp only [aq_]; rfl) ?_
         refine take_ (i := 9) (N := some 77) (v := ?_) (a' := ?_) q76_52 rfl rfl (take_ofW HT_.out HW_.out (by kernel_rfl)) (fun _ _ _ h => h) (Or.inl ⟨by rfl, ?_⟩) hHeld ?_ ?_
         rotate_left
         ·rintro w' ⟨s0, s1, s2, s3, s4, s5, s6, s7, s8, s9, s10, s11, s12, s13⟩
          go_simp
          with_reducible rfl
         rotate_left
         ·simp only [aq_]
          rfl
         refine take_ (i := 11) (N := some 79) (v := ?_) (a' := ?_) q76_53 rfl rfl (take_ofW HT_.out HW_.out (by kernel_rfl)) (fun _ _ _ h => h) (Or.inl ⟨by rfl, ?_⟩) hHeld ?_ ?_
         rotate_left
         ·rintro w' ⟨s0, s1, s2, s3, s4, s5, s6, s7, s8, s9, s10, s11, s12, s13⟩
          go_simp
          with_reducible rfl
         rotate_left
         ·simp only [aq_]
          rfl
         refine pup_ (i := 12) (N := some 80) HT_ rfl rfl (by kernel_rfl) (fun _ _ _ h => h) (Or.inl ⟨by rfl, by intro w'; go_simp; with_reducible rfl⟩) (by simp only [aq_]; rfl) ?_
         refine pup_ (i := 13) (N := some 81) HT_ rfl rfl (by kernel_rfl) (fun _ _ _ h => h) (Or.inl ⟨by rfl, by intro w'; go_simp; with_reducible rfl⟩) (by simp only [aq_]; rfl) ?_
         refine pup_ (i := 14) (N := some 82) HT_ rfl rfl (by kernel_rfl) (fun _ _ _ h => h) (Or.inl ⟨by rfl, by intro w'; go_simp; with_reducible rfl⟩) (by simp only [aq_]; rfl) ?_
         refine pup_ (i := 16) (N := some 84) HT_ rfl rfl (by kernel_rfl) (fun _ _ _ h => h) (Or.inl ⟨by rfl, by intro w'; go_simp; with_reducible rfl⟩) (by simp only [aq_]; rfl) ?_
         refine pup_ (i := 17) (N := some 85) HT_ rfl rfl (by kernel_rfl) (fun _ _ _ h => h) (Or.inl ⟨by rfl, by intro w'; go_simp; with_reducible rfl⟩) (by simp only [aq_]; rfl) ?_
         refine pup_ (i := 21) (N := some 89) HT_ rfl rfl (by kernel_rfl) (fun _ _ _ h => h) (Or.inl ⟨by rfl, by intro w'; go_simp; with_reducible rfl⟩) (by simp only [aq_]; rfl) ?_
         refine take_ (i := 15) (N := some 83) (v := ?_) (a' := ?_) q76_83 rfl rfl (take_ofW HT_.out HW_.out (by kernel_rfl)) (fun _ _ _ h => h) (Or.inl ⟨by rfl, ?_⟩) hHeld ?_ ?_
         rotate_left
         ·rintro w' ⟨s0, s1, s2, s3, s4, s5, s6, s7, s8, s9, s10, s11, s12, s13⟩
          go_simp
          with_reducible rfl
         rotate_left
         ·simp only [aq_]
          rfl
         refine pup_ (i := 18) (N := some 86) HT_ rfl rfl (by kernel_rfl) (fun _ _ _ h => h) (Or.inl ⟨by rfl, by intro w'; go_simp; with_reducible rfl⟩) (by simp only [aq_]; rfl) ?_
         refine pup_ (i := 19) (N := some 87) HT_ rfl rfl (by kernel_rfl) (fun _ _ _ h => h) (Or.inl ⟨by rfl, by intro w'; go_simp; with_reducible rfl⟩) (by simp only [aq_]; rfl) ?_
         refine take_ (i := 20) (N := some 88) (v := ?_) (a' := ?_) q76_63 rfl rfl (take_ofW HT_.out HW_.out (by kernel_rfl)) (fun _ _ _ h => h) (Or.inl ⟨by rfl, ?_⟩) hHeld ?_ ?_
         rotate_left
         ·rintro w' ⟨s0, s1, s2, s3, s4, s5, s6, s7, s8, s9, s10, s11, s12, s13⟩
          go_simp
          with_reducible rfl
         rotate_left
         ·simp only [aq_]
          rfl
         refine take_ (i := 22) (N := some 90) (v := ?_) (a' := ?_) q76_64 rfl rfl (take_ofW HT_.out HW_.out (by kernel_rfl)) (fun _ _ _ h => h) (Or.inl ⟨by rfl, ?_⟩) hHeld ?_ ?_
         rotate_left
         ·rintro w' ⟨s0, s1, s2, s3, s4, s5, s6, s7, s8, s9, s10, s11, s12, s13⟩
          go_simp
          with_reducible rfl
         rotate_left
         ·simp only [aq_]
          rfl
         refine pup_ (i := 23) (N := some 91) HT_ rfl rfl (by kernel_rfl) (fun _ _ _ h => h) (Or.inl ⟨by rfl, by intro w'; go_simp; with_reducible rfl⟩) (by simp only [aq_]; rfl) ?_
         refine pup_ (i := 24) (N := some 92) HT_ rfl rfl (by kernel_rfl) (fun _ _ _ h => h) (Or.inl ⟨by rfl, by intro w'; go_simp; with_reducible rfl⟩) (by simp only [aq_]; rfl) ?_
         refine skp_ HT_ 25 (some 93) rfl rfl (by kernel_rfl) (fun _ _ _ h => h) (by rfl) (by simp only [aq_]; rfl) ?_
         refine skp_ HT_ 26 (some 94) rfl rfl (by kernel_rfl) (fun _ _ _ h => h) (by rfl) (by simp only [aq_]; rfl) ?_
         refine skp_ HT_ 27 (some 95) rfl rfl (by kernel_rfl) (fun _ _ _ h => h) (by rfl) (by simp only [aq_]; rfl) ?_
         refine skp_ HT_ 28 (some 96) rfl rfl (by kernel_rfl) (fun _ _ _ h => h) (by rfl) (by simp only [aq_]; rfl) ?_
         refine skp_ HT_ 29 (some 97) rfl rfl (by kernel_rfl) (fun _ _ _ h => h) (by rfl) (by simp only [aq_]; rfl) ?_
         refine skp_ HT_ 30 (some 98) rfl rfl (by kernel_rfl) (fun _ _ _ h => h) (by rfl) (by simp only [aq_]; rfl) ?_
         refine skp_ HT_ 31 (some 99) rfl rfl (by kernel_rfl) (fun _ _ _ h => h) (by rfl) (by simp only [aq_]; rfl) ?_
         refine skp_ HT_ 32 (some 100) rfl rfl (by kernel_rfl) (fun _ _ _ h => h) (by rfl) (by simp only [aq_]; rfl) ?_
         refine skp_ HT_ 33 (some 101) rfl rfl (by kernel_rfl) (fun _ _ _ h => h) (by rfl) (by simp only [aq_]; rfl) ?_
         refine skp_ HT_ 34 (some 102) rfl rfl (by kernel_rfl) (fun _ _ _ h => h) (by rfl) (by simp only [aq_]; rfl) ?_
         refine pup_ (i := 35) (N := some 103) HT_ rfl rfl (by kernel_rfl) (fun _ _ _ h => h) (Or.inl ⟨by rfl, by intro w'; go_simp; with_reducible rfl⟩) (by simp only [aq_]; rfl) ?_
         refine pup_ (i := 36) (N := some 104) HT_ rfl rfl (by kernel_rfl) (fun _ _ _ h => h) (Or.inl ⟨by rfl, by intro w'; go_simp; with_reducible rfl⟩) (by simp only [aq_]; rfl) ?_
         refine pup_ (i := 37) (N := some 105) HT_ rfl rfl (by kernel_rfl) (fun _ _ _ h => h) (Or.inl ⟨by rfl, by intro w'; go_simp; with_reducible rfl⟩) (by simp only [aq_]; rfl) ?_
         refine done_ (done_of HT_.out (by kernel_rfl)) ?_
         try go_wp2
         go_meet
         case rel => exact ⟨_, (false), (by first | rfl | (simp; done) | (simp [*]; done)), H', ⟨by have := HJ1.out; have := HK2.out; have := HJ20.out; first | omega | exact Nat.le_refl _⟩, ⟨bs BK522.out⟩, ⟨bs BK528.out⟩, ⟨by repeat (first | (with_reducible first | exact bw HB.out | refine bset ?_ | apply bA | apply bN | apply bD) | exact HB.out)⟩⟩
        rw [if_pos c46] at H
        have c46b0 : (((rd_T98 l0_4 (ji41)).f2) == ((rd_T98 l0_4 x32_2).f2)) = true := beq_iff_eq.mpr c46
        have c46b1 : (((rd_T98 l0_4 (ji41)).f2) != ((rd_T98 l0_4 x32_2).f2)) = false := bne_eq_false_iff_eq.mpr c46
        clear c46
        have H' := Aside0.mk H
        clear H
        try go_wp2
        have n0_ := Aside0.mk (blk_drew BK522.out)
        have n1_ := Aside0.mk (blk_drew BK528.out)
        have n2_ := Aside0.mk (below_drew1 HB.out)
        replace BK522 := n0_
        replace BK528 := n1_
        replace HB := n2_
        clear n0_ n1_ n2_
        have p533 : 0 ≤ ((ji41) : Int) := of_decide_eq_true (by first | (with_reducible assumption) | assumption)
        have q533 : (ji41) < (l0_4.length : Int) := of_decide_eq_true (by first | (with_reducible assumption) | assumption)
        obtain ⟨ad533, e533, hx533_0, hx533_1, hx533_2⟩ := at_T98 HR0_4.out (ji41) p533 q533
        have hw533_2 := hx533_2
        have hw533_1 := hx533_1
        have hw533_0 := hx533_0
        obtain rfl : ad527 = ad533 := (by injection e533)
        replace hx533_0 := (HB.out.cell (World.block_lt_of_cell? w _ hx533_0)).trans hx533_0
        replace hx533_1 := (HB.out.cell (World.block_lt_of_cell? w _ hx533_1)).trans hx533_1
        replace hx533_2 := (HB.out.cell (World.block_lt_of_cell? w _ hx533_2)).trans hx533_2
        replace p533 := eq_true p533
        replace q533 := eq_true q533
        have p534 : 0 ≤ ((ji41) : Int) := of_decide_eq_true (by first | (with_reducible assumption) | assumption)
        have q534 : (ji41) < (l0_4.length : Int) := of_decide_eq_true (by first | (with_reducible assumption) | assumption)
        obtain ⟨ad534, e534, hx534_0, hx534_1, hx534_2⟩ := at_T98 HR0_4.out (ji41) p534 q534
        have hw534_2 := hx534_2
        have hw534_1 := hx534_1
        have hw534_0 := hx534_0
        obtain rfl : ad527 = ad534 := (by injection e534)
        replace hx534_0 := (HB.out.cell (World.block_lt_of_cell? w _ hx534_0)).trans hx534_0
        replace hx534_1 := (HB.out.cell (World.block_lt_of_cell? w _ hx534_1)).trans hx534_1
        replace hx534_2 := (HB.out.cell (World.block_lt_of_cell? w _ hx534_2)).trans hx534_2
        replace p534 := eq_true p534
        replace q534 := eq_true q534
        have p535 : 0 ≤ ((ji41) : Int) := of_decide_eq_true (by first | (with_reducible assumption) | assumption)
        have q535 : (ji41) < (l0_4.length : Int) := of_decide_eq_true (by first | (with_reducible assumption) | assumption)
        obtain ⟨ad535, e535, hx535_0, hx535_1, hx535_2⟩ := at_T98 HR0_4.out (ji41) p535 q535
        have hw535_2 := hx535_2
        have hw535_1 := hx535_1
        have hw535_0 := hx535_0
        obtain rfl : ad527 = ad535 := (by injection e535)
        replace hx535_0 := (HB.out.cell (World.block_lt_of_cell? w _ hx535_0)).trans hx535_0
        replace hx535_1 := (HB.out.cell (World.block_lt_of_cell? w _ hx535_1)).trans hx535_1
        replace hx535_2 := (HB.out.cell (World.block_lt_of_cell? w _ hx535_2)).trans hx535_2
        replace p535 := eq_true p535
        replace q535 := eq_true q535
        refine start_ (n := 38) (S := fun w' => w'.cell? ⟨gb522, 0, none⟩ = some (.int .i64 a0_0) ∧ w'.cell? ⟨gb522, 1, none⟩ = some (.int .i64 a0_1) ∧ w'.cell? ⟨gb522, 2, none⟩ = some (.int .i64 a0_2) ∧ w'.cell? ⟨gb522, 3, none⟩ = some (.slice A0_3 l0_3.length c0_3) ∧ w'.cell? ⟨gb522, 4, none⟩ = some (.slice (some ad527) l0_4.length c0_4) ∧ w'.cell? ⟨gb528, 0, none⟩ = some (.int .i64 ((rd_T98 l0_4 x32_2).f0)) ∧ w'.cell? ⟨gb528, 1, none⟩ = some (.int .i64 ((rd_T98 l0_4 x32_2).f1)) ∧ w'.cell? ⟨gb528, 2, none⟩ = some (.int .i64 ((rd_T98 l0_4 x32_2).f2)) ∧ w'.cell? (ad527.add (((ji41)).toNat * 3)) = some (.int .i64 ((rd_T98 l0_4 (ji41)).f0)) ∧ w'.cell? ⟨(ad527.add (((ji41)).toNat * 3)).block, (ad527.add (((ji41)).toNat * 3)).off + 1, none⟩ = some (.int .i64 ((rd_T98 l0_4 (ji41)).f1)) ∧ w'.cell? ⟨(ad527.add (((ji41)).toNat * 3)).block, (ad527.add (((ji41)).toNat * 3)).off + 2, none⟩ = some (.int .i64 ((rd_T98 l0_4 (ji41)).f2)) ∧ w'.cell? (ad527.add (((ji41)).toNat * 3)) = some (.int .i64 ((rd_T98 l0_4 (ji41)).f0)) ∧ w'.cell? ⟨(ad527.add (((ji41)).toNat * 3)).block, (ad527.add (((ji41)).toNat * 3)).off + 1, none⟩ = some (.int .i64 ((rd_T98 l0_4 (ji41)).f1)) ∧ w'.cell? ⟨(ad527.add (((ji41)).toNat * 3)).block, (ad527.add (((ji41)).toNat * 3)).off + 2, none⟩ = some (.int .i64 ((rd_T98 l0_4 (ji41)).f2)) ∧ w'.cell? (ad527.add (((ji41)).toNat * 3)) = some (.int .i64 ((rd_T98 l0_4 (ji41)).f0)) ∧ w'.cell? ⟨(ad527.add (((ji41)).toNat * 3)).block, (ad527.add (((ji41)).toNat * 3)).off + 1, none⟩ = some (.int .i64 ((rd_T98 l0_4 (ji41)).f1)) ∧ w'.cell? ⟨(ad527.add (((ji41)).toNat * 3)).block, (ad527.add (((ji41)).toNat * 3)).off + 2, none⟩ = some (.int .i64 ((rd_T98 l0_4 (ji41)).f2))) (ds := []) q76_41 (by kernel_rfl) rfl rfl ⟨(blk_cell BK522.out 0).trans rfl, (blk_cell BK522.out 1).trans rfl, (blk_cell BK522.out 2).trans rfl, (blk_cell BK522.out 3).trans rfl, (blk_cell BK522.out 4).trans rfl, (blk_cell BK528.out 0).trans rfl, (blk_cell BK528.out 1).trans rfl, (blk_cell BK528.out 2).trans rfl, (bcl_ HB.out hw533_0 :), (bcl_ HB.out hw533_1 :), (bcl_ HB.out hw533_2 :), (bcl_ HB.out hw534_0 :), (bcl_ HB.out hw534_1 :), (bcl_ HB.out hw534_2 :), (bcl_ HB.out hw535_0 :), (bcl_ HB.out hw535_1 :), (bcl_ HB.out hw535_2 :)⟩ (fun hHeld => ?_); refine with_tabW impl_IsDispatcher.tab8 impl_IsDispatcher.bits8 (fun HT_ HW_ => ?_)
        generalize wc.drew = w47 at BK522 BK528 HB hx533_0 hx533_1 hx533_2 hx534_0 hx534_1 hx534_2 hx535_0 hx535_1 hx535_2 hHeld ⊢
        refine pup_ (i := 0) (N := some 68) HT_ rfl rfl (by kernel_rfl) (fun _ _ _ h => h) (Or.inl ⟨by rfl, by intro w'; go_simp; with_reducible rfl⟩) (by simp only [aq_]; rfl) ?_
        refine pup_ (i := 1) (N := some 69) HT_ rfl rfl (by kernel_rfl) (fun _ _ _ h => h) (Or.inl ⟨by rfl, by intro w'; go_simp; with_reducible rfl⟩) (by simp only [aq_]; rfl) ?_
        refine pup_ (i := 2) (N := some 70) HT_ rfl rfl (by kernel_rfl) (fun _ _ _ h => h) (Or.inl ⟨by rfl, by intro w'; go_simp; with_reducible rfl⟩) (by simp only [aq_]; rfl) ?_
        refine pup_ (i := 3) (N := some 71) HT_ rfl rfl (by kernel_rfl) (fun _ _ _ h => h) (Or.inl ⟨by rfl, by intro w'; go_simp; with_reducible rfl⟩) (by simp only [aq_]; rfl) ?_
        refine pup_ (i := 5) (N := some 73) HT_ rfl rfl (by kernel_rfl) (fun _ _ _ h => h) (Or.inl ⟨by rfl, by intro w'; go_simp; with_reducible rfl⟩) (by simp only [aq_]; rfl) ?_
        refine pup_ (i := 6) (N := some 74) HT_ rfl rfl (by kernel_rfl) (fun _ _ _ h => h) (Or.inl ⟨by rfl, by intro w'; go_simp; with_reducible rfl⟩) (by simp only [aq_]; rfl) ?_
        refine pup_ (i := 10) (N := some 78) HT_ rfl rfl (by kernel_rfl) (fun _ _ _ h => h) (Or.inl ⟨by rfl, by intro w'; go_simp; with_reducible rfl⟩) (by simp only [aq_]; rfl) ?_
        refine take_ (i := 4) (N := some 72) (v := ?_) (a' := ?_) q76_49 rfl rfl (take_ofW HT_.out HW_.out (by kernel_rfl)) (fun _ _ _ h => h) (Or.inl ⟨by rfl, ?_⟩) hHeld ?_ ?_
        rotate_left
        ·rintro w' ⟨s0, s1, s2, s3, s4, s5, s6, s7, s8, s9, s10, s11, s12, s13, s14, s15, s16⟩
         go_simp
         with_reducible rfl
        rotate_left
        ·simp only [aq_]
         rfl
        refine pup_ (i := 7) (N := some 75) HT_ rfl rfl (by kernel_rfl) (fun _ _ _ h => h) (Or.inl ⟨by rfl, by intro w'; go_simp; with_reducible rfl⟩) (by simp only [aq_]; rfl) ?_
        refine pup_ (i := 8) (N := some 76) HT_ rfl rfl (by kernel_rfl) (fun _ _ _ h => h) (Or.inl ⟨by rfl, by intro w'; go_simp; with_reducible rfl⟩) (by simp only [aq_]; rfl) ?_
        refine take_ (i := 9) (N := some 77) (v := ?_) (a' := ?_) q76_52 rfl rfl (take_ofW HT_.out HW_.out (by kernel_rfl)) (fun _ _ _ h => h) (Or.inl ⟨by rfl, ?_⟩) hHeld ?_ ?_
        rotate_left
        ·rintro w' ⟨s0, s1, s2, s3, s4, s5, s6, s7, s8, s9, s10, s11, s12, s13, s14, s15, s16⟩
         go_simp
         with_reducible rfl
        rotate_left
        ·simp only [aq_]
         rfl
        refine take_ (i := 11) (N := some 79) (v := ?_) (a' := ?_) q76_53 rfl rfl (take_ofW HT_.out HW_.out (by kernel_rfl)) (fun _ _ _ h => h) (Or.inl ⟨by rfl, ?_⟩) hHeld ?_ ?_
        rotate_left
        ·rintro w' ⟨s0, s1, s2, s3, s4, s5, s6, s7, s8, s9, s10, s11, s12, s13, s14, s15, s16⟩
         go_simp
         with_reducible rfl
        rotate_left
        ·simp only [aq_]
         rfl
        refine pup_ (i := 12) (N := some 80) HT_ rfl rfl (by kernel_rfl) (fun _ _ _ h => h) (Or.inl ⟨by rfl, by intro w'; go_simp; with_reducible rfl⟩) (by simp only [aq_]; rfl) ?_
        refine pup_ (i := 13) (N := some 81) HT_ rfl rfl (by kernel_rfl) (fun _ _ _ h => h) (Or.inl ⟨by rfl, by intro w'; go_simp; with_reducible rfl⟩) (by simp only [aq_]; rfl) ?_
        refine pup_ (i := 14) (N := some 82) HT_ rfl rfl (by kernel_rfl) (fun _ _ _ h => h) (Or.inl ⟨by rfl, by intro w'; go_simp; with_reducible rfl⟩) (by simp only [aq_]; rfl) ?_
        refine pup_ (i := 16) (N := some 84) HT_ rfl rfl (by kernel_rfl) (fun _ _ _ h => h) (Or.inl ⟨by rfl, by intro w'; go_simp; with_reducible rfl⟩) (by simp only [aq_]; rfl) ?_
        refine pup_ (i := 17) (N := some 85) HT_ rfl rfl (by kernel_rfl) (fun _ _ _ h => h) (Or.inl ⟨by rfl, by intro w'; go_simp; with_reducible rfl⟩) (by simp only [aq_]; rfl) ?_
        refine pup_ (i := 21) (N := some 89) HT_ rfl rfl (by kernel_rfl) (fun _ _ _ h => h) (Or.inl ⟨by rfl, by intro w'; go_simp; with_reducible rfl⟩) (by simp only [aq_]; rfl) ?_
        refine take_ (i := 15) (N := some 83) (v := ?_) (a' := ?_) q76_83 rfl rfl (take_ofW HT_.out HW_.out (by kernel_rfl)) (fun _ _ _ h => h) (Or.inl ⟨by rfl, ?_⟩) hHeld ?_ ?_
        rotate_left
        ·rintro w' ⟨s0, s1, s2, s3, s4, s5, s6, s7, s8, s9, s10, s11, s12, s13, s14, s15, s16⟩
         go_simp
         with_reducible rfl
        rotate_left
        ·simp only [aq_]
         rfl
        refine pup_ (i := 18) (N := some 86) HT_ rfl rfl (by kernel_rfl) (fun _ _ _ h => h) (Or.inl ⟨by rfl, by intro w'; go_simp; with_reducible rfl⟩) (by simp only [aq_]; rfl) ?_
        refine pup_ (i := 19) (N := some 87) HT_ rfl rfl (by kernel_rfl) (fun _ _ _ h => h) (Or.inl ⟨by rfl, by intro w'; go_simp; with_reducible rfl⟩) (by simp only [aq_]; rfl) ?_
        refine take_ (i := 20) (N := some 88) (v := ?_) (a' := ?_) q76_63 rfl rfl (take_ofW HT_.out HW_.out (by kernel_rfl)) (fun _ _ _ h => h) (Or.inl ⟨by rfl, ?_⟩) hHeld ?_ ?_
        rotate_left
        ·rintro w' ⟨s0, s1, s2, s3, s4, s5, s6, s7, s8, s9, s10, s11, s12, s13, s14, s15, s16⟩
         go_simp
         with_reducible rfl
        rotate_left
        ·simp only [aq_]
         rfl
        refine take_ (i := 22) (N := some 90) (v := ?_) (a' := ?_) q76_64 rfl rfl (take_ofW HT_.out HW_.out (by kernel_rfl)) (fun _ _ _ h => h) (Or.inl ⟨by rfl, ?_⟩) hHeld ?_ ?_
        rotate_left
        ·rintro w' ⟨s0, s1, s2, s3, s4, s5, s6, s7, s8, s9, s10, s11, s12, s13, s14, s15, s16⟩
         go_simp
         with_reducible rfl
        rotate_left
        ·simp only [aq_]
         rfl
        refine pup_ (i := 23) (N := some 91) HT_ rfl rfl (by kernel_rfl) (fun _ _ _ h => h) (Or.inl ⟨by rfl, by intro w'; go_simp; with_reducible rfl⟩) (by simp only [aq_]; rfl) ?_
        refine pup_ (i := 24) (N := some 92) HT_ rfl rfl (by kernel_rfl) (fun _ _ _ h => h) (Or.inl ⟨by rfl, by intro w'; go_simp; with_reducible rfl⟩) (by simp only [aq_]; rfl) ?_
        refine pup_ (i := 25) (N := some 93) HT_ rfl rfl (by kernel_rfl) (fun _ _ _ h => h) (Or.inl ⟨by rfl, by intro w'; go_simp; with_reducible rfl⟩) (by simp only [aq_]; rfl) ?_
        refine pup_ (i := 27) (N := some 95) HT_ rfl rfl (by kernel_rfl) (fun _ _ _ h => h) (Or.inl ⟨by rfl, by intro w'; go_simp; with_reducible rfl⟩) (by simp only [aq_]; rfl) ?_
        refine pup_ (i := 28) (N := some 96) HT_ rfl rfl (by kernel_rfl) (fun _ _ _ h => h) (Or.inl ⟨by rfl, by intro w'; go_simp; with_reducible rfl⟩) (by simp only [aq_]; rfl) ?_
        refine pup_ (i := 32) (N := some 100) HT_ rfl rfl (by kernel_rfl) (fun _ _ _ h => h) (Or.inl ⟨by rfl, by intro w'; go_simp; with_reducible rfl⟩) (by simp only [aq_]; rfl) ?_
        refine take_ (i := 26) (N := some 94) (v := ?_) (a' := ?_) q76_89 rfl rfl (take_ofW HT_.out HW_.out (by kernel_rfl)) (fun _ _ _ h => h) (Or.inl ⟨by rfl, ?_⟩) hHeld ?_ ?_
        rotate_left
        ·rintro w' ⟨s0, s1, s2, s3, s4, s5, s6, s7, s8, s9, s10, s11, s12, s13, s14, s15, s16⟩
         go_simp
         with_reducible rfl
        rotate_left
        ·simp only [aq_]
         rfl
        refine pup_ (i := 29) (N := some 97) HT_ rfl rfl (by kernel_rfl) (fun _ _ _ h => h) (Or.inl ⟨by rfl, by intro w'; go_simp; with_reducible rfl⟩) (by simp only [aq_]; rfl) ?_
        refine pup_ (i := 30) (N := some 98) HT_ rfl rfl (by kernel_rfl) (fun _ _ _ h => h) (Or.inl ⟨by rfl, by intro w'; go_simp; with_reducible rfl⟩) (by simp only [aq_]; rfl) ?_
        refine take_ (i := 31) (N := some 99) (v := ?_) (a' := ?_) q76_74 rfl rfl (take_ofW HT_.out HW_.out (by kernel_rfl)) (fun _ _ _ h => h) (Or.inl ⟨by rfl, ?_⟩) hHeld ?_ ?_
        rotate_left
        ·rintro w' ⟨s0, s1, s2, s3, s4, s5, s6, s7, s8, s9, s10, s11, s12, s13, s14, s15, s16⟩
         go_simp
         with_reducible rfl
        rotate_left
        ·simp only [aq_]
         rfl
        refine take_ (i := 33) (N := some 101) (v := ?_) (a' := ?_) q76_75 rfl rfl (take_ofW HT_.out HW_.out (by kernel_rfl)) (fun _ _ _ h => h) (Or.inl ⟨by rfl, ?_⟩) hHeld ?_ ?_
        rotate_left
        ·rintro w' ⟨s0, s1, s2, s3, s4, s5, s6, s7, s8, s9, s10, s11, s12, s13, s14, s15, s16⟩
         go_simp
         with_reducible rfl
        rotate_left
        ·simp only [aq_]
         rfl
        refine pup_ (i := 34) (N := some 102) HT_ rfl rfl (by kernel_rfl) (fun _ _ _ h => h) (Or.inl ⟨by rfl, by intro w'; go_simp; with_reducible rfl⟩) (by simp only [aq_]; rfl) ?_
        refine pup_ (i := 35) (N := some 103) HT_ rfl rfl (by kernel_rfl) (fun _ _ _ h => h) (Or.inl ⟨by rfl, by intro w'; go_simp; with_reducible rfl⟩) (by simp only [aq_]; rfl) ?_
        refine pup_ (i := 36) (N := some 104) HT_ rfl rfl (by kernel_rfl) (fun _ _ _ h => h) (Or.inl ⟨by rfl, by intro w'; go_simp; with_reducible rfl⟩) (by simp only [aq_]; rfl) ?_
        refine pup_ (i := 37) (N := some 105) HT_ rfl rfl (by kernel_rfl) (fun _ _ _ h => h) (Or.inl ⟨by rfl, by intro w'; go_simp; with_reducible rfl⟩) (by simp only [aq_]; rfl) ?_
        refine done_ (done_of HT_.out (by kernel_rfl)) ?_
        try go_wp2
        go_meet
        case rel => exact ⟨_, (decide (((rd_T98 l0_4 (ji41)).f1) ≥ ((rd_T98 l0_4 x32_2).f1))), (by first | rfl | (simp; done) | (simp only [← hji41] <;> (first | rfl | simp)) | (simp [*]; done)), H', ⟨by have := HJ1.out; have := HK2.out; have := HJ20.out; first | omega | exact Nat.le_refl _⟩, ⟨bs BK522.out⟩, ⟨bs BK528.out⟩, ⟨by repeat (first | (with_reducible first | exact bw HB.out | refine bset ?_ | apply bA | apply bN | apply bD) | exact HB.out)⟩⟩
       case rest =>
        clear HC39
        try clear p2
        try clear c4
        try clear p5
        try clear q5
        try clear hx5
        try clear c40
        try clear c40b0
        try clear c42
        try clear c43
        try clear c46
        try clear c46b0
        try clear c46b1
        try clear hx533_0
        try clear hx533_1
        try clear hx533_2
        try clear hx534_0
        try clear hx534_1
        try clear hx534_2
        try clear p533
        try clear p534
        try clear q533
        try clear q534
        obtain ⟨kq, x105_38, rfl, HA, HJ38, BK522, BK528, HB⟩ := hcut
        cases kq with
        | zero => exact absurd HA.out (by simp [impl_IsDispatcher.j3])
        | succ kj38 =>
         have H := HA.out
         clear HA
         simp only [impl_IsDispatcher.j3] at H
         by_cases c50 : x105_38 = true
         ·subst c50
          have H1 : (some false) = some r := by rw [if_pos rfl] at H; exact H
          clear H
          have H := H1
          clear H1
          obtain rfl := Option.some.inj H
          go_wp2
          go_ret
          exact ⟨by first | rfl | (simp [errW_none, errW_some] <;> rfl) | (simp [*, errW_none, errW_some] <;> rfl), by repeat (first | (with_reducible first | exact bw HB.out | refine bset ?_ | apply bA | apply bN | apply bD) | exact HB.out)⟩
         replace c50 := Bool.eq_false_iff.mpr c50
         subst c50
         have H1 : (if 0 ≤ x32_2 then (if x32_2 ≤ (l0_4.length : Int) then ((some (l0_4.take (x32_2 : Int).toNat : List (S98))).bind fun y536 => (impl_IsDispatcher.l1 kj38 l0_4 (l0_4.length : Int) x32_2 y536 (y536.length : Int) 0 a0_0 a0_1 a0_2 l0_3 l0_4 ((rd_T98 l0_4 x32_2).f0) ((rd_T98 l0_4 x32_2).f1) ((rd_T98 l0_4 x32_2).f2))) else (none)) else (none)) = some r := by rw [if_neg (show ¬ (false = true) by decide)] at H; exact H
         clear H
         have H := H1
         clear H1
         by_cases c51 : 0 ≤ x32_2
         rotate_left
         ·rw [if_neg c51] at H
          exact absurd H (by simp)
         rw [if_pos c51] at H
         have c51b0 := eq_true c51
         have c51b1 : decide (0 ≤ x32_2) = true := decide_eq_true c51
         clear c51
         by_cases c52 : x32_2 ≤ (l0_4.length : Int)
         rotate_left
         ·rw [if_neg c52] at H
          exact absurd H (by simp)
         rw [if_pos c52] at H
         have c52b0 := eq_true c52
         have c52b1 : decide (x32_2 ≤ (l0_4.length : Int)) = true := decide_eq_true c52
         clear c52
         obtain ⟨y536, hy536⟩ : ∃ y_ : List (S98), y_ = (l0_4.take (x32_2 : Int).toNat) := ⟨_, rfl⟩
         replace H : (impl_IsDispatcher.l1 kj38 l0_4 (l0_4.length : Int) x32_2 y536 (y536.length : Int) 0 a0_0 a0_1 a0_2 l0_3 l0_4 ((rd_T98 l0_4 x32_2).f0) ((rd_T98 l0_4 x32_2).f1) ((rd_T98 l0_4 x32_2).f2)) = some r := by first | (rw [hy536]; with_reducible exact H) | (have H2_ := (Option.bind_some _ _).symm.trans H; rw [hy536]; with_reducible exact H2_) | (have H2_ := (Option.bind_some _ _).symm.trans H; with_reducible exact H2_) | with_reducible exact H | (rw [hy536]; exact H) | exact H
         have Ny536 := Aside0.mk hy536
         clear hy536
         have H' := Aside0.mk H
         clear H
         have hnb53 := NB522_528.out
         have hnc53 := NB528_522.out
         obtain ⟨hcz54_0, hcz54_1, hcz54_2, hcz54_3, hcz54_4, hfz54_0, hfz54_1, hfz54_2, hfz54_3, hfz54_4⟩ := bz5 BK522.out
         have q55 : (x32_2 : Int) ≤ ((l0_4.length : Int) : Int) := of_decide_eq_true (by first | (with_reducible assumption) | assumption)
         obtain ⟨i055, hi055, _, hsz55, _⟩ := info_parts info98
         have hroom55 : l0_4.length ≤ c0_4 := HC0_4.out
         have hC55 : Kd.C k98 _ (some ad527) l0_4.length l0_4 := HR0_4.out
         have hcut55 := cut_to (P := Try.prog) 41 98 .i64 Try.underlying41 hi055 (some ad527) l0_4.length c0_4 x32_2 (of_decide_eq_true (by first | (with_reducible assumption) | assumption)) q55 hroom55
         have hr55 := Kd.C_take (m := (x32_2 : Int).toNat) hC55 (by omega)
         have hy55 : y536.length = (x32_2 : Int).toNat := (by rw [Ny536.out, List.length_take]; omega)
         rw [← Ny536.out] at hr55
         rw [← hy55] at hcut55
         have HR539 := Aside0.mk hr55
         have HC539 := Aside0.mk (show y536.length ≤ c0_4 from by omega)
         clear hr55 hC55 hroom55 hi055 hsz55
         have KY55 := Aside0.mk hy55
         clear hy55
         replace q55 := eq_true q55
         go_wp2
         go_loopg [111] kj38 (fun kq v111 w' => ∃ (x111_5 : Int), v111 = .int .i64 x111_5 ∧ Aside0 (impl_IsDispatcher.l1 kq l0_4 (l0_4.length : Int) x32_2 y536 (y536.length : Int) x111_5 a0_0 a0_1 a0_2 l0_3 l0_4 ((rd_T98 l0_4 x32_2).f0) ((rd_T98 l0_4 x32_2).f1) ((rd_T98 l0_4 x32_2).f2) = some r) ∧ Aside0 (kq ≤ kj38) ∧ Aside0 (w'.heap[gb522]? = some (.cells #[.int .i64 a0_0, .int .i64 a0_1, .int .i64 a0_2, (.slice A0_3 l0_3.length c0_3), (.slice (some ad527) l0_4.length c0_4)] 43 (0, 0))) ∧ Aside0 (w'.heap[gb528]? = some (.cells #[.int .i64 ((rd_T98 l0_4 x32_2).f0), .int .i64 ((rd_T98 l0_4 x32_2).f1), .int .i64 ((rd_T98 l0_4 x32_2).f2)] 98 (0, 0))) ∧ Aside0 (Below w.heap.size w w'))
         case atStart => exact ⟨(0), (by first | rfl | (simp; done) | (simp [*]; done)), H', ⟨Nat.le_refl _⟩, ⟨bs BK522.out⟩, ⟨bs BK528.out⟩, ⟨by repeat (first | (with_reducible first | exact bw HB.out | refine bset ?_ | apply bA | apply bN | apply bD) | exact HB.out)⟩⟩
         case round =>
          clear H'
          try clear p2
          try clear c4
          try clear c5
          try clear p5
          try clear q5
          try clear hx5
          try clear c40
          try clear c40b0
          try clear c42
          try clear c43
          try clear c46
          try clear c46b0
          try clear c46b1
          try clear c50
          try clear c51
          try clear c51b0
          try clear c51b1
          try clear c52
          try clear c52b0
          try clear c52b1
          try clear c53
          try clear p53
          try clear q53
          try clear hx53
          try clear q55
          try clear hcz54_0
          try clear hcz54_1
          try clear hcz54_2
          try clear hcz54_3
          try clear hcz54_4
          try clear hfz54_0
          try clear hfz54_1
          try clear hfz54_2
          try clear hfz54_3
          try clear hfz54_4
          try clear hx533_0
          try clear hx533_1
          try clear hx533_2
          try clear hx534_0
          try clear hx534_1
          try clear hx534_2
          try clear p2
          try clear p5
          try clear p533
          try clear p534
          try clear q5
          try clear q533
          try clear q534
          try clear q55
          obtain ⟨x111_5, rfl, HA, HK5, BK522, BK528, HB⟩ := hrel
          cases gk with
          | zero => exact absurd HA.out (by simp [impl_IsDispatcher.l1])
          | succ k5 =>
           have H := HA.out
           clear HA
           simp only [impl_IsDispatcher.l1] at H
           by_cases c56 : x111_5 < (y536.length : Int)
           rotate_left
           ·rw [if_neg c56] at H
            have c56b0 : decide (x111_5 < (y536.length : Int)) = false := decide_eq_false c56
            clear c56
            have H' := Aside0.mk H
            clear H
            go_wp2
            go_roundg k5
            case measure => have := HJ1.out; have := HK2.out; have := HJ20.out; have := HJ38.out; have := HK5.out; omega
            case rel => exact ⟨(wrap64 (x32_2 + 1)), (by first | rfl | (simp; done) | (simp [*]; done)), H', ⟨by have := HJ1.out; have := HK2.out; have := HJ20.out; have := HJ38.out; have := HK5.out; omega⟩, ⟨bs BK522.out⟩, ⟨by repeat (first | (with_reducible first | exact bw HB.out | refine bset ?_ | apply bA | apply bN | apply bD) | exact HB.out)⟩⟩
           rw [if_pos c56] at H
           have c56b0 : decide (x111_5 < (y536.length : Int)) = true := decide_eq_true c56
           clear c56
           by_cases c57 : 0 ≤ x111_5
           rotate_left
           ·rw [if_neg c57] at H
            exact absurd H (by simp)
           rw [if_pos c57] at H
           have c57b0 : decide (0 ≤ x111_5) = true := decide_eq_true c57
           clear c57
           by_cases c58 : x111_5 < (y536.length : Int)
           rotate_left
           ·rw [if_neg c58] at H
            exact absurd H (by simp)
           rw [if_pos c58] at H
           have c58b0 : decide (x111_5 < (y536.length : Int)) = true := decide_eq_true c58
           clear c58
           by_cases c59 : ((rd_T98 y536 x111_5).f0) = ((rd_T98 l0_4 x32_2).f0)
           ·rw [if_pos c59] at H
            have c59b0 : (((rd_T98 y536 x111_5).f0) == ((rd_T98 l0_4 x32_2).f0)) = true := beq_iff_eq.mpr c59
            have c59b1 : (((rd_T98 y536 x111_5).f0) != ((rd_T98 l0_4 x32_2).f0)) = false := bne_eq_false_iff_eq.mpr c59
            clear c59
            obtain rfl := Option.some.inj H
            have p540 : 0 ≤ (x111_5 : Int) := of_decide_eq_true (by first | (with_reducible assumption) | assumption)
            have q540 : x111_5 < (y536.length : Int) := of_decide_eq_true (by first | (with_reducible assumption) | assumption)
            obtain ⟨ad540, e540, hx540_0, hx540_1, hx540_2⟩ := at_T98 HR539.out x111_5 p540 q540
            obtain rfl : ad527 = ad540 := (by injection e540)
            replace hx540_0 := (HB.out.cell (World.block_lt_of_cell? w _ hx540_0)).trans hx540_0
            replace hx540_1 := (HB.out.cell (World.block_lt_of_cell? w _ hx540_1)).trans hx540_1
            replace hx540_2 := (HB.out.cell (World.block_lt_of_cell? w _ hx540_2)).trans hx540_2
            replace p540 := eq_true p540
            replace q540 := eq_true q540
            try go_wp2_with (first | ((with_reducible refine gate_dst (N := 6) rfl ?_); refine box_event ?hg (N := 6) ?hd (cs := #[.int .i64 0, .int .i64 0, .int .i64 0]) (t := 98) ?hr ?_; (case hd => rfl); (case hg => rfl); (case hr => first | (go_simp; done) | (go_simp; rfl)); intro gb541 hg w60 hbox hb; have n0_ := Aside0.mk (blk_below (bs BK522.out) hb); have n1_ := Aside0.mk (blk_below (bs BK528.out) hb); have n2_ := Aside0.mk (below_step (by repeat (first | (with_reducible first | exact bw HB.out | refine bset ?_ | apply bA | apply bN | apply bD) | exact HB.out)) hb); have n3_ := Aside0.mk (hbox); have n4_ := Aside0.mk ((by rw [hg]; exact (below_size (by repeat (first | (with_reducible first | exact bw HB.out | refine bset ?_ | apply bA | apply bN | apply bD) | exact HB.out))) : w.heap.size ≤ gb541)); have n5_ := Aside0.mk ((by rw [hg]; exact (below_size (by repeat (first | (with_reducible first | exact bw HB.out | refine bset ?_ | apply bA | apply bN | apply bD) | exact HB.out))) : w.heap.size ≤ gb541)); have n6_ := ne_ hg BK522.out; have n7_ := en_ hg BK522.out; have n8_ := ne_ hg BK528.out; have n9_ := en_ hg BK528.out; replace BK522 := n0_; replace BK528 := n1_; replace HB := n2_; have BK541 := n3_; have GW541 := n4_; have GE541 := n5_; have NB522_541 := n6_; have NB541_522 := n7_; have NB528_541 := n8_; have NB541_528 := n9_; clear n0_ n1_ n2_ n3_ n4_ n5_ n6_ n7_ n8_ n9_; clear hb hbox hg; have hnb61 := NB541_522.out; have hnc61 := NB522_541.out; have hnb62 := NB541_528.out; have hnc62 := NB528_541.out; obtain ⟨hcz63_0, hcz63_1, hcz63_2, hfz63_0, hfz63_1, hfz63_2⟩ := bz3 BK541.out))
            have n0_ : Aside0 ((((w60.setCell ⟨gb541, 0, none⟩ (.int .i64 ((rd_T98 y536 x111_5).f0))).setCell ⟨gb541, 1, none⟩ (.int .i64 ((rd_T98 y536 x111_5).f1))).setCell ⟨gb541, 2, none⟩ (.int .i64 ((rd_T98 y536 x111_5).f2))).heap[gb522]? = some (.cells #[.int .i64 a0_0, .int .i64 a0_1, .int .i64 a0_2, .slice A0_3 l0_3.length c0_3, .slice (some ad527) l0_4.length c0_4] 43 (0, 0))) := ⟨by (with_reducible repeat (first | refine blk_drewN ?_ _ | refine blk_drew ?_ | refine blk_alloc ?_ _)); refine blk_far ?_ NB522_541.out _; (with_reducible repeat (first | refine blk_drewN ?_ _ | refine blk_drew ?_ | refine blk_alloc ?_ _)); refine blk_far ?_ NB522_541.out _; (with_reducible repeat (first | refine blk_drewN ?_ _ | refine blk_drew ?_ | refine blk_alloc ?_ _)); refine blk_far ?_ NB522_541.out _; exact bs BK522.out⟩
            have n1_ : Aside0 ((((w60.setCell ⟨gb541, 0, none⟩ (.int .i64 ((rd_T98 y536 x111_5).f0))).setCell ⟨gb541, 1, none⟩ (.int .i64 ((rd_T98 y536 x111_5).f1))).setCell ⟨gb541, 2, none⟩ (.int .i64 ((rd_T98 y536 x111_5).f2))).heap[gb528]? = some (.cells #[.int .i64 ((rd_T98 l0_4 x32_2).f0), .int .i64 ((rd_T98 l0_4 x32_2).f1), .int .i64 ((rd_T98 l0_4 x32_2).f2)] 98 (0, 0))) := ⟨by (with_reducible repeat (first | refine blk_drewN ?_ _ | refine blk_drew ?_ | refine blk_alloc ?_ _)); refine blk_far ?_ NB528_541.out _; (with_reducible repeat (first | refine blk_drewN ?_ _ | refine blk_drew ?_ | refine blk_alloc ?_ _)); refine blk_far ?_ NB528_541.out _; (with_reducible repeat (first | refine blk_drewN ?_ _ | refine blk_drew ?_ | refine blk_alloc ?_ _)); refine blk_far ?_ NB528_541.out _; exact bs BK528.out⟩
            have n2_ : Aside0 ((((w60.setCell ⟨gb541, 0, none⟩ (.int .i64 ((rd_T98 y536 x111_5).f0))).setCell ⟨gb541, 1, none⟩ (.int .i64 ((rd_T98 y536 x111_5).f1))).setCell ⟨gb541, 2, none⟩ (.int .i64 ((rd_T98 y536 x111_5).f2))).heap[gb541]? = some (.cells #[.int .i64 ((rd_T98 y536 x111_5).f0), .int .i64 ((rd_T98 y536 x111_5).f1), .int .i64 ((rd_T98 y536 x111_5).f2)] 98 (0, 0))) := ⟨by (with_reducible repeat (first | refine blk_drewN ?_ _ | refine blk_drew ?_ | refine blk_alloc ?_ _)); refine blk_put (cs := #[.int .i64 ((rd_T98 y536 x111_5).f0), .int .i64 ((rd_T98 y536 x111_5).f1), .int .i64 0]) ?_ 2 _ rfl; (with_reducible repeat (first | refine blk_drewN ?_ _ | refine blk_drew ?_ | refine blk_alloc ?_ _)); refine blk_put (cs := #[.int .i64 ((rd_T98 y536 x111_5).f0), .int .i64 0, .int .i64 0]) ?_ 1 _ rfl; (with_reducible repeat (first | refine blk_drewN ?_ _ | refine blk_drew ?_ | refine blk_alloc ?_ _)); refine blk_put (cs := #[.int .i64 0, .int .i64 0, .int .i64 0]) ?_ 0 _ rfl; exact bs BK541.out⟩
            have n3_ : Aside0 (Below w.heap.size w (((w60.setCell ⟨gb541, 0, none⟩ (.int .i64 ((rd_T98 y536 x111_5).f0))).setCell ⟨gb541, 1, none⟩ (.int .i64 ((rd_T98 y536 x111_5).f1))).setCell ⟨gb541, 2, none⟩ (.int .i64 ((rd_T98 y536 x111_5).f2)))) := ⟨by repeat (first | (with_reducible first | exact bw HB.out | refine bset ?_ | apply bA | apply bN | apply bD) | exact HB.out)⟩
            (try clear BK522)
            (try clear BK528)
            (try clear BK541)
            (try clear HB)
            (try simp only [setCell_drewN])
            generalize (((w60.setCell ⟨gb541, 0, none⟩ (.int .i64 ((rd_T98 y536 x111_5).f0))).setCell ⟨gb541, 1, none⟩ (.int .i64 ((rd_T98 y536 x111_5).f1))).setCell ⟨gb541, 2, none⟩ (.int .i64 ((rd_T98 y536 x111_5).f2))) = w64 at n0_ n1_ n2_ n3_ ⊢
            have BK522 := n0_
            have BK528 := n1_
            have BK541 := n2_
            have HB := n3_
            clear n0_ n1_ n2_ n3_
            have n0_ := Aside0.mk (blk_drew BK522.out)
            have n1_ := Aside0.mk (blk_drew BK528.out)
            have n2_ := Aside0.mk (blk_drew BK541.out)
            have n3_ := Aside0.mk (below_drew1 HB.out)
            replace BK522 := n0_
            replace BK528 := n1_
            replace BK541 := n2_
            replace HB := n3_
            clear n0_ n1_ n2_ n3_
            refine start_ (n := 20) (S := fun w' => w'.cell? ⟨gb541, 0, none⟩ = some (.int .i64 ((rd_T98 y536 x111_5).f0)) ∧ w'.cell? ⟨gb541, 1, none⟩ = some (.int .i64 ((rd_T98 y536 x111_5).f1)) ∧ w'.cell? ⟨gb541, 2, none⟩ = some (.int .i64 ((rd_T98 y536 x111_5).f2)) ∧ w'.cell? ⟨gb528, 0, none⟩ = some (.int .i64 ((rd_T98 l0_4 x32_2).f0)) ∧ w'.cell? ⟨gb528, 1, none⟩ = some (.int .i64 ((rd_T98 l0_4 x32_2).f1)) ∧ w'.cell? ⟨gb528, 2, none⟩ = some (.int .i64 ((rd_T98 l0_4 x32_2).f2))) (ds := []) q76_98 (by kernel_rfl) rfl rfl ⟨(blk_cell BK541.out 0).trans rfl, (blk_cell BK541.out 1).trans rfl, (blk_cell BK541.out 2).trans rfl, (blk_cell BK528.out 0).trans rfl, (blk_cell BK528.out 1).trans rfl, (blk_cell BK528.out 2).trans rfl⟩ (fun hHeld => ?_); refine with_tabW impl_IsDispatcher.tab13 impl_IsDispatcher.bits13 (fun HT_ HW_ => ?_)
            generalize w64.drew = w65 at BK522 BK528 BK541 HB hHeld ⊢
            refine pup_ (i := 0) (N := some 115) HT_ rfl rfl (by kernel_rfl) (fun _ _ _ h => h) (Or.inl ⟨by rfl, by intro w'; go_simp; with_reducible rfl⟩) (by simp only [aq_]; rfl) ?_
            refine pup_ (i := 2) (N := some 117) HT_ rfl rfl (by kernel_rfl) (fun _ _ _ h => h) (Or.inl ⟨by rfl, by intro w'; go_simp; with_reducible rfl⟩) (by simp only [aq_]; rfl) ?_
            refine take_ (i := 1) (N := some 116) (v := ?_) (a' := ?_) q76_101 rfl rfl (take_ofW HT_.out HW_.out (by kernel_rfl)) (fun _ _ _ h => h) (Or.inl ⟨by rfl, ?_⟩) hHeld ?_ ?_
            rotate_left
            ·rintro w' ⟨s0, s1, s2, s3, s4, s5⟩
             go_simp
             with_reducible rfl
            rotate_left
            ·simp only [aq_]
             rfl
            refine take_ (i := 3) (N := some 118) (v := ?_) (a' := ?_) q76_102 rfl rfl (take_ofW HT_.out HW_.out (by kernel_rfl)) (fun _ _ _ h => h) (Or.inl ⟨by rfl, ?_⟩) hHeld ?_ ?_
            rotate_left
            ·rintro w' ⟨s0, s1, s2, s3, s4, s5⟩
             go_simp
             with_reducible rfl
            rotate_left
            ·simp only [aq_]
             rfl
            refine pup_ (i := 4) (N := some 119) HT_ rfl rfl (by kernel_rfl) (fun _ _ _ h => h) (Or.inl ⟨by rfl, by intro w'; go_simp; with_reducible rfl⟩) (by simp only [aq_]; rfl) ?_
            refine pup_ (i := 5) (N := some 120) HT_ rfl rfl (by kernel_rfl) (fun _ _ _ h => h) (Or.inl ⟨by rfl, by intro w'; go_simp; with_reducible rfl⟩) (by simp only [aq_]; rfl) ?_
            refine skp_ HT_ 6 (some 121) rfl rfl (by kernel_rfl) (fun _ _ _ h => h) (by rfl) (by simp only [aq_]; rfl) ?_
            refine skp_ HT_ 7 (some 122) rfl rfl (by kernel_rfl) (fun _ _ _ h => h) (by rfl) (by simp only [aq_]; rfl) ?_
            refine skp_ HT_ 8 (some 123) rfl rfl (by kernel_rfl) (fun _ _ _ h => h) (by rfl) (by simp only [aq_]; rfl) ?_
            refine skp_ HT_ 9 (some 124) rfl rfl (by kernel_rfl) (fun _ _ _ h => h) (by rfl) (by simp only [aq_]; rfl) ?_
            refine skp_ HT_ 10 (some 125) rfl rfl (by kernel_rfl) (fun _ _ _ h => h) (by rfl) (by simp only [aq_]; rfl) ?_
            refine skp_ HT_ 11 (some 126) rfl rfl (by kernel_rfl) (fun _ _ _ h => h) (by rfl) (by simp only [aq_]; rfl) ?_
            refine skp_ HT_ 12 (some 127) rfl rfl (by kernel_rfl) (fun _ _ _ h => h) (by rfl) (by simp only [aq_]; rfl) ?_
            refine skp_ HT_ 13 (some 128) rfl rfl (by kernel_rfl) (fun _ _ _ h => h) (by rfl) (by simp only [aq_]; rfl) ?_
            refine skp_ HT_ 14 (some 129) rfl rfl (by kernel_rfl) (fun _ _ _ h => h) (by rfl) (by simp only [aq_]; rfl) ?_
            refine skp_ HT_ 15 (some 130) rfl rfl (by kernel_rfl) (fun _ _ _ h => h) (by rfl) (by simp only [aq_]; rfl) ?_
            refine skp_ HT_ 16 (some 131) rfl rfl (by kernel_rfl) (fun _ _ _ h => h) (by rfl) (by simp only [aq_]; rfl) ?_
            refine skp_ HT_ 17 (some 132) rfl rfl (by kernel_rfl) (fun _ _ _ h => h) (by rfl) (by simp only [aq_]; rfl) ?_
            refine skp_ HT_ 18 (some 133) rfl rfl (by kernel_rfl) (fun _ _ _ h => h) (by rfl) (by simp only [aq_]; rfl) ?_
            refine pup_ (i := 19) (N := some 134) HT_ rfl rfl (by kernel_rfl) (fun _ _ _ h => h) (Or.inl ⟨by rfl, by intro w'; go_simp; with_reducible rfl⟩) (by simp only [aq_]; rfl) ?_
            refine done_ (done_of HT_.out (by kernel_rfl)) ?_
            try go_wp2
            go_ret
            exact ⟨by first | rfl | (simp [errW_none, errW_some] <;> rfl) | (simp [*, errW_none, errW_some] <;> rfl), by repeat (first | (with_reducible first | exact bw HB.out | refine bset ?_ | apply bA | apply bN | apply bD) | exact HB.out)⟩
           rw [if_neg c59] at H
           have c59b0 : (((rd_T98 y536 x111_5).f0) == ((rd_T98 l0_4 x32_2).f0)) = false := beq_eq_false_iff_ne.mpr c59
           have c59b1 : (((rd_T98 y536 x111_5).f0) != ((rd_T98 l0_4 x32_2).f0)) = true := bne_iff_ne.mpr c59
           by_cases c66 : ((rd_T98 y536 x111_5).f1) = ((rd_T98 l0_4 x32_2).f1)
           rotate_left
           ·rw [if_neg c66] at H
            have c66b0 : (((rd_T98 y536 x111_5).f1) == ((rd_T98 l0_4 x32_2).f1)) = false := beq_eq_false_iff_ne.mpr c66
            have c66b1 : (((rd_T98 y536 x111_5).f1) != ((rd_T98 l0_4 x32_2).f1)) = true := bne_iff_ne.mpr c66
            have H' := Aside0.mk H
            clear H
            have p540 : 0 ≤ (x111_5 : Int) := of_decide_eq_true (by first | (with_reducible assumption) | assumption)
            have q540 : x111_5 < (y536.length : Int) := of_decide_eq_true (by first | (with_reducible assumption) | assumption)
            obtain ⟨ad540, e540, hx540_0, hx540_1, hx540_2⟩ := at_T98 HR539.out x111_5 p540 q540
            obtain rfl : ad527 = ad540 := (by injection e540)
            replace hx540_0 := (HB.out.cell (World.block_lt_of_cell? w _ hx540_0)).trans hx540_0
            replace hx540_1 := (HB.out.cell (World.block_lt_of_cell? w _ hx540_1)).trans hx540_1
            replace hx540_2 := (HB.out.cell (World.block_lt_of_cell? w _ hx540_2)).trans hx540_2
            replace p540 := eq_true p540
            replace q540 := eq_true q540
            try go_wp2_with (first | ((with_reducible refine gate_dst (N := 6) rfl ?_); refine box_event ?hg (N := 6) ?hd (cs := #[.int .i64 0, .int .i64 0, .int .i64 0]) (t := 98) ?hr ?_; (case hd => rfl); (case hg => rfl); (case hr => first | (go_simp; done) | (go_simp; rfl)); intro gb541 hg w83 hbox hb; have n0_ := Aside0.mk (blk_below (bs BK522.out) hb); have n1_ := Aside0.mk (blk_below (bs BK528.out) hb); have n2_ := Aside0.mk (below_step (by repeat (first | (with_reducible first | exact bw HB.out | refine bset ?_ | apply bA | apply bN | apply bD) | exact HB.out)) hb); have n3_ := Aside0.mk (hbox); have n4_ := Aside0.mk ((by rw [hg]; exact (below_size (by repeat (first | (with_reducible first | exact bw HB.out | refine bset ?_ | apply bA | apply bN | apply bD) | exact HB.out))) : w.heap.size ≤ gb541)); have n5_ := Aside0.mk ((by rw [hg]; exact (below_size (by repeat (first | (with_reducible first | exact bw HB.out | refine bset ?_ | apply bA | apply bN | apply bD) | exact HB.out))) : w.heap.size ≤ gb541)); have n6_ := ne_ hg BK522.out; have n7_ := en_ hg BK522.out; have n8_ := ne_ hg BK528.out; have n9_ := en_ hg BK528.out; replace BK522 := n0_; replace BK528 := n1_; replace HB := n2_; have BK541 := n3_; have GW541 := n4_; have GE541 := n5_; have NB522_541 := n6_; have NB541_522 := n7_; have NB528_541 := n8_; have NB541_528 := n9_; clear n0_ n1_ n2_ n3_ n4_ n5_ n6_ n7_ n8_ n9_; clear hb hbox hg; have hnb84 := NB541_522.out; have hnc84 := NB522_541.out; have hnb85 := NB541_528.out; have hnc85 := NB528_541.out; obtain ⟨hcz86_0, hcz86_1, hcz86_2, hfz86_0, hfz86_1, hfz86_2⟩ := bz3 BK541.out))
            have n0_ : Aside0 ((((w83.setCell ⟨gb541, 0, none⟩ (.int .i64 ((rd_T98 y536 x111_5).f0))).setCell ⟨gb541, 1, none⟩ (.int .i64 ((rd_T98 y536 x111_5).f1))).setCell ⟨gb541, 2, none⟩ (.int .i64 ((rd_T98 y536 x111_5).f2))).heap[gb522]? = some (.cells #[.int .i64 a0_0, .int .i64 a0_1, .int .i64 a0_2, .slice A0_3 l0_3.length c0_3, .slice (some ad527) l0_4.length c0_4] 43 (0, 0))) := ⟨by (with_reducible repeat (first | refine blk_drewN ?_ _ | refine blk_drew ?_ | refine blk_alloc ?_ _)); refine blk_far ?_ NB522_541.out _; (with_reducible repeat (first | refine blk_drewN ?_ _ | refine blk_drew ?_ | refine blk_alloc ?_ _)); refine blk_far ?_ NB522_541.out _; (with_reducible repeat (first | refine blk_drewN ?_ _ | refine blk_drew ?_ | refine blk_alloc ?_ _)); refine blk_far ?_ NB522_541.out _; exact bs BK522.out⟩
            have n1_ : Aside0 ((((w83.setCell ⟨gb541, 0, none⟩ (.int .i64 ((rd_T98 y536 x111_5).f0))).setCell ⟨gb541, 1, none⟩ (.int .i64 ((rd_T98 y536 x111_5).f1))).setCell ⟨gb541, 2, none⟩ (.int .i64 ((rd_T98 y536 x111_5).f2))).heap[gb528]? = some (.cells #[.int .i64 ((rd_T98 l0_4 x32_2).f0), .int .i64 ((rd_T98 l0_4 x32_2).f1), .int .i64 ((rd_T98 l0_4 x32_2).f2)] 98 (0, 0))) := ⟨by (with_reducible repeat (first | refine blk_drewN ?_ _ | refine blk_drew ?_ | refine blk_alloc ?_ _)); refine blk_far ?_ NB528_541.out _; (with_reducible repeat (first | refine blk_drewN ?_ _ | refine blk_drew ?_ | refine blk_alloc ?_ _)); refine blk_far ?_ NB528_541.out _; (with_reducible repeat (first | refine blk_drewN ?_ _ | refine blk_drew ?_ | refine blk_alloc ?_ _)); refine blk_far ?_ NB528_541.out _; exact bs BK528.out⟩
            have n2_ : Aside0 ((((w83.setCell ⟨gb541, 0, none⟩ (.int .i64 ((rd_T98 y536 x111_5).f0))).setCell ⟨gb541, 1, none⟩ (.int .i64 ((rd_T98 y536 x111_5).f1))).setCell ⟨gb541, 2, none⟩ (.int .i64 ((rd_T98 y536 x111_5).f2))).heap[gb541]? = some (.cells #[.int .i64 ((rd_T98 y536 x111_5).f0), .int .i64 ((rd_T98 y536 x111_5).f1), .int .i64 ((rd_T98 y536 x111_5).f2)] 98 (0, 0))) := ⟨by (with_reducible repeat (first | refine blk_drewN ?_ _ | refine blk_drew ?_ | refine blk_alloc ?_ _)); refine blk_put (cs := #[.int .i64 ((rd_T98 y536 x111_5).f0), .int .i64 ((rd_T98 y536 x111_5).f1), .int .i64 0]) ?_ 2 _ rfl; (with_reducible repeat (first | refine blk_drewN ?_ _ | refine blk_drew ?_ | refine blk_alloc ?_ _)); refine blk_put (cs := #[.int .i64 ((rd_T98 y536 x111_5).f0), .int .i64 0, .int .i64 0]) ?_ 1 _ rfl; (with_reducible repeat (first | refine blk_drewN ?_ _ | refine blk_drew ?_ | refine blk_alloc ?_ _)); refine blk_put (cs := #[.int .i64 0, .int .i64 0, .int .i64 0]) ?_ 0 _ rfl; exact bs BK541.out⟩
            have n3_ : Aside0 (Below w.heap.size w (((w83.setCell ⟨gb541, 0, none⟩ (.int .i64 ((rd_T98 y536 x111_5).f0))).setCell ⟨gb541, 1, none⟩ (.int .i64 ((rd_T98 y536 x111_5).f1))).setCell ⟨gb541, 2, none⟩ (.int .i64 ((rd_T98 y536 x111_5).f2)))) := ⟨by repeat (first | (with_reducible first | exact bw HB.out | refine bset ?_ | apply bA | apply bN | apply bD) | exact HB.out)⟩
            (try clear BK522)
            (try clear BK528)
            (try clear BK541)
            (try clear HB)
            (try simp only [setCell_drewN])
            generalize (((w83.setCell ⟨gb541, 0, none⟩ (.int .i64 ((rd_T98 y536 x111_5).f0))).setCell ⟨gb541, 1, none⟩ (.int .i64 ((rd_T98 y536 x111_5).f1))).setCell ⟨gb541, 2, none⟩ (.int .i64 ((rd_T98 y536 x111_5).f2))) = w87 at n0_ n1_ n2_ n3_ ⊢
            have BK522 := n0_
            have BK528 := n1_
            have BK541 := n2_
            have HB := n3_
            clear n0_ n1_ n2_ n3_
            have n0_ := Aside0.mk (blk_drew BK522.out)
            have n1_ := Aside0.mk (blk_drew BK528.out)
            have n2_ := Aside0.mk (blk_drew BK541.out)
            have n3_ := Aside0.mk (below_drew1 HB.out)
            replace BK522 := n0_
            replace BK528 := n1_
            replace BK541 := n2_
            replace HB := n3_
            clear n0_ n1_ n2_ n3_
            refine start_ (n := 20) (S := fun w' => w'.cell? ⟨gb541, 0, none⟩ = some (.int .i64 ((rd_T98 y536 x111_5).f0)) ∧ w'.cell? ⟨gb541, 1, none⟩ = some (.int .i64 ((rd_T98 y536 x111_5).f1)) ∧ w'.cell? ⟨gb541, 2, none⟩ = some (.int .i64 ((rd_T98 y536 x111_5).f2)) ∧ w'.cell? ⟨gb528, 0, none⟩ = some (.int .i64 ((rd_T98 l0_4 x32_2).f0)) ∧ w'.cell? ⟨gb528, 1, none⟩ = some (.int .i64 ((rd_T98 l0_4 x32_2).f1)) ∧ w'.cell? ⟨gb528, 2, none⟩ = some (.int .i64 ((rd_T98 l0_4 x32_2).f2))) (ds := []) q76_98 (by kernel_rfl) rfl rfl ⟨(blk_cell BK541.out 0).trans rfl, (blk_cell BK541.out 1).trans rfl, (blk_cell BK541.out 2).trans rfl, (blk_cell BK528.out 0).trans rfl, (blk_cell BK528.out 1).trans rfl, (blk_cell BK528.out 2).trans rfl⟩ (fun hHeld => ?_); refine with_tabW impl_IsDispatcher.tab13 impl_IsDispatcher.bits13 (fun HT_ HW_ => ?_)
            generalize w87.drew = w88 at BK522 BK528 BK541 HB hHeld ⊢
            refine pup_ (i := 0) (N := some 115) HT_ rfl rfl (by kernel_rfl) (fun _ _ _ h => h) (Or.inl ⟨by rfl, by intro w'; go_simp; with_reducible rfl⟩) (by simp only [aq_]; rfl) ?_
            refine pup_ (i := 2) (N := some 117) HT_ rfl rfl (by kernel_rfl) (fun _ _ _ h => h) (Or.inl ⟨by rfl, by intro w'; go_simp; with_reducible rfl⟩) (by simp only [aq_]; rfl) ?_
            refine take_ (i := 1) (N := some 116) (v := ?_) (a' := ?_) q76_101 rfl rfl (take_ofW HT_.out HW_.out (by kernel_rfl)) (fun _ _ _ h => h) (Or.inl ⟨by rfl, ?_⟩) hHeld ?_ ?_
            rotate_left
            ·rintro w' ⟨s0, s1, s2, s3, s4, s5⟩
             go_simp
             with_reducible rfl
            rotate_left
            ·simp only [aq_]
             rfl
            refine take_ (i := 3) (N := some 118) (v := ?_) (a' := ?_) q76_102 rfl rfl (take_ofW HT_.out HW_.out (by kernel_rfl)) (fun _ _ _ h => h) (Or.inl ⟨by rfl, ?_⟩) hHeld ?_ ?_
            rotate_left
            ·rintro w' ⟨s0, s1, s2, s3, s4, s5⟩
             go_simp
             with_reducible rfl
            rotate_left
            ·simp only [aq_]
             rfl
            refine pup_ (i := 4) (N := some 119) HT_ rfl rfl (by kernel_rfl) (fun _ _ _ h => h) (Or.inl ⟨by rfl, by intro w'; go_simp; with_reducible rfl⟩) (by simp only [aq_]; rfl) ?_
            refine pup_ (i := 5) (N := some 120) HT_ rfl rfl (by kernel_rfl) (fun _ _ _ h => h) (Or.inl ⟨by rfl, by intro w'; go_simp; with_reducible rfl⟩) (by simp only [aq_]; rfl) ?_
            refine pup_ (i := 6) (N := some 121) HT_ rfl rfl (by kernel_rfl) (fun _ _ _ h => h) (Or.inl ⟨by rfl, by intro w'; go_simp; with_reducible rfl⟩) (by simp only [aq_]; rfl) ?_
            refine pup_ (i := 8) (N := some 123) HT_ rfl rfl (by kernel_rfl) (fun _ _ _ h => h) (Or.inl ⟨by rfl, by intro w'; go_simp; with_reducible rfl⟩) (by simp only [aq_]; rfl) ?_
            refine take_ (i := 7) (N := some 122) (v := ?_) (a' := ?_) q76_107 rfl rfl (take_ofW HT_.out HW_.out (by kernel_rfl)) (fun _ _ _ h => h) (Or.inl ⟨by rfl, ?_⟩) hHeld ?_ ?_
            rotate_left
            ·rintro w' ⟨s0, s1, s2, s3, s4, s5⟩
             go_simp
             with_reducible rfl
            rotate_left
            ·simp only [aq_]
             rfl
            refine take_ (i := 9) (N := some 124) (v := ?_) (a' := ?_) q76_108 rfl rfl (take_ofW HT_.out HW_.out (by kernel_rfl)) (fun _ _ _ h => h) (Or.inl ⟨by rfl, ?_⟩) hHeld ?_ ?_
            rotate_left
            ·rintro w' ⟨s0, s1, s2, s3, s4, s5⟩
             go_simp
             with_reducible rfl
            rotate_left
            ·simp only [aq_]
             rfl
            refine pup_ (i := 10) (N := some 125) HT_ rfl rfl (by kernel_rfl) (fun _ _ _ h => h) (Or.inl ⟨by rfl, by intro w'; go_simp; with_reducible rfl⟩) (by simp only [aq_]; rfl) ?_
            refine pup_ (i := 11) (N := some 126) HT_ rfl rfl (by kernel_rfl) (fun _ _ _ h => h) (Or.inl ⟨by rfl, by intro w'; go_simp; with_reducible rfl⟩) (by simp only [aq_]; rfl) ?_
            refine skp_ HT_ 12 (some 127) rfl rfl (by kernel_rfl) (fun _ _ _ h => h) (by rfl) (by simp only [aq_]; rfl) ?_
            refine skp_ HT_ 13 (some 128) rfl rfl (by kernel_rfl) (fun _ _ _ h => h) (by rfl) (by simp only [aq_]; rfl) ?_
            refine skp_ HT_ 14 (some 129) rfl rfl (by kernel_rfl) (fun _ _ _ h => h) (by rfl) (by simp only [aq_]; rfl) ?_
            refine skp_ HT_ 15 (some 130) rfl rfl (by kernel_rfl) (fun _ _ _ h => h) (by rfl) (by simp only [aq_]; rfl) ?_
            refine skp_ HT_ 16 (some 131) rfl rfl (by kernel_rfl) (fun _ _ _ h => h) (by rfl) (by simp only [aq_]; rfl) ?_
            refine skp_ HT_ 17 (some 132) rfl rfl (by kernel_rfl) (fun _ _ _ h => h) (by rfl) (by simp only [aq_]; rfl) ?_
            refine pup_ (i := 18) (N := some 133) HT_ rfl rfl (by kernel_rfl) (fun _ _ _ h => h) (Or.inl ⟨by rfl, by intro w'; go_simp; with_reducible rfl⟩) (by simp only [aq_]; rfl) ?_
            refine pup_ (i := 19) (N := some 134) HT_ rfl rfl (by kernel_rfl) (fun _ _ _ h => h) (Or.inl ⟨by rfl, by intro w'; go_simp; with_reducible rfl⟩) (by simp only [aq_]; rfl) ?_
            refine done_ (done_of HT_.out (by kernel_rfl)) ?_
            try go_wp2
            go_roundg k5
            case measure => have := HJ1.out; have := HK2.out; have := HJ20.out; have := HJ38.out; have := HK5.out; omega
            case rel => exact ⟨(wrap64 (x111_5 + 1)), (by first | rfl | (simp; done) | (simp [*]; done)), H', ⟨by have := HJ1.out; have := HK2.out; have := HJ20.out; have := HJ38.out; have := HK5.out; omega⟩, ⟨bs BK522.out⟩, ⟨bs BK528.out⟩, ⟨by repeat (first | (with_reducible first | exact bw HB.out | refine bset ?_ | apply bA | apply bN | apply bD) | exact HB.out)⟩⟩
           rw [if_pos c66] at H
           have c66b0 : (((rd_T98 y536 x111_5).f1) == ((rd_T98 l0_4 x32_2).f1)) = true := beq_iff_eq.mpr c66
           have c66b1 : (((rd_T98 y536 x111_5).f1) != ((rd_T98 l0_4 x32_2).f1)) = false := bne_eq_false_iff_eq.mpr c66
           clear c66
           replace H := Option.bind_eq_some_iff.mp H
           obtain ⟨t542, A670, H⟩ := H
           replace H : (if t542 > ((rd_T98 l0_4 x32_2).f2) then (some false) else (impl_IsDispatcher.l1 k5 l0_4 (l0_4.length : Int) x32_2 y536 (y536.length : Int) (wrap64 (x111_5 + 1)) a0_0 a0_1 a0_2 l0_3 l0_4 ((rd_T98 l0_4 x32_2).f0) ((rd_T98 l0_4 x32_2).f1) ((rd_T98 l0_4 x32_2).f2))) = some r := H
           have A67 := Aside0.mk A670
           clear A670
           by_cases c68 : t542 > ((rd_T98 l0_4 x32_2).f2)
           ·rw [if_pos c68] at H
            have c68b0 : decide (((rd_T98 l0_4 x32_2).f2) < t542) = true := decide_eq_true c68
            clear c68
            obtain rfl := Option.some.inj H
            have p540 : 0 ≤ (x111_5 : Int) := of_decide_eq_true (by first | (with_reducible assumption) | assumption)
            have q540 : x111_5 < (y536.length : Int) := of_decide_eq_true (by first | (with_reducible assumption) | assumption)
            obtain ⟨ad540, e540, hx540_0, hx540_1, hx540_2⟩ := at_T98 HR539.out x111_5 p540 q540
            obtain rfl : ad527 = ad540 := (by injection e540)
            replace hx540_0 := (HB.out.cell (World.block_lt_of_cell? w _ hx540_0)).trans hx540_0
            replace hx540_1 := (HB.out.cell (World.block_lt_of_cell? w _ hx540_1)).trans hx540_1
            replace hx540_2 := (HB.out.cell (World.block_lt_of_cell? w _ hx540_2)).trans hx540_2
            replace p540 := eq_true p540
            replace q540 := eq_true q540
            try go_wp2_with (first | ((with_reducible refine gate_dst (N := 6) rfl ?_); refine box_event ?hg (N := 6) ?hd (cs := #[.int .i64 0, .int .i64 0, .int .i64 0]) (t := 98) ?hr ?_; (case hd => rfl); (case hg => rfl); (case hr => first | (go_simp; done) | (go_simp; rfl)); intro gb541 hg w69 hbox hb; have n0_ := Aside0.mk (blk_below (bs BK522.out) hb); have n1_ := Aside0.mk (blk_below (bs BK528.out) hb); have n2_ := Aside0.mk (below_step (by repeat (first | (with_reducible first | exact bw HB.out | refine bset ?_ | apply bA | apply bN | apply bD) | exact HB.out)) hb); have n3_ := Aside0.mk (hbox); have n4_ := Aside0.mk ((by rw [hg]; exact (below_size (by repeat (first | (with_reducible first | exact bw HB.out | refine bset ?_ | apply bA | apply bN | apply bD) | exact HB.out))) : w.heap.size ≤ gb541)); have n5_ := Aside0.mk ((by rw [hg]; exact (below_size (by repeat (first | (with_reducible first | exact bw HB.out | refine bset ?_ | apply bA | apply bN | apply bD) | exact HB.out))) : w.heap.size ≤ gb541)); have n6_ := ne_ hg BK522.out; have n7_ := en_ hg BK522.out; have n8_ := ne_ hg BK528.out; have n9_ := en_ hg BK528.out; replace BK522 := n0_; replace BK528 := n1_; replace HB := n2_; have BK541 := n3_; have GW541 := n4_; have GE541 := n5_; have NB522_541 := n6_; have NB541_522 := n7_; have NB528_541 := n8_; have NB541_528 := n9_; clear n0_ n1_ n2_ n3_ n4_ n5_ n6_ n7_ n8_ n9_; clear hb hbox hg; have hnb70 := NB541_522.out; have hnc70 := NB522_541.out; have hnb71 := NB541_528.out; have hnc71 := NB528_541.out; obtain ⟨hcz72_0, hcz72_1, hcz72_2, hfz72_0, hfz72_1, hfz72_2⟩ := bz3 BK541.out))
            have n0_ : Aside0 ((((w69.setCell ⟨gb541, 0, none⟩ (.int .i64 ((rd_T98 y536 x111_5).f0))).setCell ⟨gb541, 1, none⟩ (.int .i64 ((rd_T98 y536 x111_5).f1))).setCell ⟨gb541, 2, none⟩ (.int .i64 ((rd_T98 y536 x111_5).f2))).heap[gb522]? = some (.cells #[.int .i64 a0_0, .int .i64 a0_1, .int .i64 a0_2, .slice A0_3 l0_3.length c0_3, .slice (some ad527) l0_4.length c0_4] 43 (0, 0))) := ⟨by (with_reducible repeat (first | refine blk_drewN ?_ _ | refine blk_drew ?_ | refine blk_alloc ?_ _)); refine blk_far ?_ NB522_541.out _; (with_reducible repeat (first | refine blk_drewN ?_ _ | refine blk_drew ?_ | refine blk_alloc ?_ _)); refine blk_far ?_ NB522_541.out _; (with_reducible repeat (first | refine blk_drewN ?_ _ | refine blk_drew ?_ | refine blk_alloc ?_ _)); refine blk_far ?_ NB522_541.out _; exact bs BK522.out⟩
            have n1_ : Aside0 ((((w69.setCell ⟨gb541, 0, none⟩ (.int .i64 ((rd_T98 y536 x111_5).f0))).setCell ⟨gb541, 1, none⟩ (.int .i64 ((rd_T98 y536 x111_5).f1))).setCell ⟨gb541, 2, none⟩ (.int .i64 ((rd_T98 y536 x111_5).f2))).heap[gb528]? = some (.cells #[.int .i64 ((rd_T98 l0_4 x32_2).f0), .int .i64 ((rd_T98 l0_4 x32_2).f1), .int .i64 ((rd_T98 l0_4 x32_2).f2)] 98 (0, 0))) := ⟨by (with_reducible repeat (first | refine blk_drewN ?_ _ | refine blk_drew ?_ | refine blk_alloc ?_ _)); refine blk_far ?_ NB528_541.out _; (with_reducible repeat (first | refine blk_drewN ?_ _ | refine blk_drew ?_ | refine blk_alloc ?_ _)); refine blk_far ?_ NB528_541.out _; (with_reducible repeat (first | refine blk_drewN ?_ _ | refine blk_drew ?_ | refine blk_alloc ?_ _)); refine blk_far ?_ NB528_541.out _; exact bs BK528.out⟩
            have n2_ : Aside0 ((((w69.setCell ⟨gb541, 0, none⟩ (.int .i64 ((rd_T98 y536 x111_5).f0))).setCell ⟨gb541, 1, none⟩ (.int .i64 ((rd_T98 y536 x111_5).f1))).setCell ⟨gb541, 2, none⟩ (.int .i64 ((rd_T98 y536 x111_5).f2))).heap[gb541]? = some (.cells #[.int .i64 ((rd_T98 y536 x111_5).f0), .int .i64 ((rd_T98 y536 x111_5).f1), .int .i64 ((rd_T98 y536 x111_5).f2)] 98 (0, 0))) := ⟨by (with_reducible repeat (first | refine blk_drewN ?_ _ | refine blk_drew ?_ | refine blk_alloc ?_ _)); refine blk_put (cs := #[.int .i64 ((rd_T98 y536 x111_5).f0), .int .i64 ((rd_T98 y536 x111_5).f1), .int .i64 0]) ?_ 2 _ rfl; (with_reducible repeat (first | refine blk_drewN ?_ _ | refine blk_drew ?_ | refine blk_alloc ?_ _)); refine blk_put (cs := #[.int .i64 ((rd_T98 y536 x111_5).f0), .int .i64 0, .int .i64 0]) ?_ 1 _ rfl; (with_reducible repeat (first | refine blk_drewN ?_ _ | refine blk_drew ?_ | refine blk_alloc ?_ _)); refine blk_put (cs := #[.int .i64 0, .int .i64 0, .int .i64 0]) ?_ 0 _ rfl; exact bs BK541.out⟩
            have n3_ : Aside0 (Below w.heap.size w (((w69.setCell ⟨gb541, 0, none⟩ (.int .i64 ((rd_T98 y536 x111_5).f0))).setCell ⟨gb541, 1, none⟩ (.int .i64 ((rd_T98 y536 x111_5).f1))).setCell ⟨gb541, 2, none⟩ (.int .i64 ((rd_T98 y536 x111_5).f2)))) := ⟨by repeat (first | (with_reducible first | exact bw HB.out | refine bset ?_ | apply bA | apply bN | apply bD) | exact HB.out)⟩
            (try clear BK522)
            (try clear BK528)
            (try clear BK541)
            (try clear HB)
            (try simp only [setCell_drewN])
            generalize (((w69.setCell ⟨gb541, 0, none⟩ (.int .i64 ((rd_T98 y536 x111_5).f0))).setCell ⟨gb541, 1, none⟩ (.int .i64 ((rd_T98 y536 x111_5).f1))).setCell ⟨gb541, 2, none⟩ (.int .i64 ((rd_T98 y536 x111_5).f2))) = w73 at n0_ n1_ n2_ n3_ ⊢
            have BK522 := n0_
            have BK528 := n1_
            have BK541 := n2_
            have HB := n3_
            clear n0_ n1_ n2_ n3_
            have n0_ := Aside0.mk (blk_drew BK522.out)
            have n1_ := Aside0.mk (blk_drew BK528.out)
            have n2_ := Aside0.mk (blk_drew BK541.out)
            have n3_ := Aside0.mk (below_drew1 HB.out)
            replace BK522 := n0_
            replace BK528 := n1_
            replace BK541 := n2_
            replace HB := n3_
            clear n0_ n1_ n2_ n3_
            refine start_ (n := 20) (S := fun w' => w'.cell? ⟨gb541, 0, none⟩ = some (.int .i64 ((rd_T98 y536 x111_5).f0)) ∧ w'.cell? ⟨gb541, 1, none⟩ = some (.int .i64 ((rd_T98 y536 x111_5).f1)) ∧ w'.cell? ⟨gb541, 2, none⟩ = some (.int .i64 ((rd_T98 y536 x111_5).f2)) ∧ w'.cell? ⟨gb528, 0, none⟩ = some (.int .i64 ((rd_T98 l0_4 x32_2).f0)) ∧ w'.cell? ⟨gb528, 1, none⟩ = some (.int .i64 ((rd_T98 l0_4 x32_2).f1)) ∧ w'.cell? ⟨gb528, 2, none⟩ = some (.int .i64 ((rd_T98 l0_4 x32_2).f2)) ∧ w'.cell? ⟨gb522, 0, none⟩ = some (.int .i64 a0_0) ∧ w'.cell? ⟨gb522, 1, none⟩ = some (.int .i64 a0_1) ∧ w'.cell? ⟨gb522, 2, none⟩ = some (.int .i64 a0_2) ∧ w'.cell? ⟨gb522, 3, none⟩ = some (.slice A0_3 l0_3.length c0_3) ∧ w'.cell? ⟨gb522, 4, none⟩ = some (.slice (some ad527) l0_4.length c0_4)) (ds := []) q76_98 (by kernel_rfl) rfl rfl ⟨(blk_cell BK541.out 0).trans rfl, (blk_cell BK541.out 1).trans rfl, (blk_cell BK541.out 2).trans rfl, (blk_cell BK528.out 0).trans rfl, (blk_cell BK528.out 1).trans rfl, (blk_cell BK528.out 2).trans rfl, (blk_cell BK522.out 0).trans rfl, (blk_cell BK522.out 1).trans rfl, (blk_cell BK522.out 2).trans rfl, (blk_cell BK522.out 3).trans rfl, (blk_cell BK522.out 4).trans rfl⟩ (fun hHeld => ?_); refine with_tabW impl_IsDispatcher.tab13 impl_IsDispatcher.bits13 (fun HT_ HW_ => ?_)
            generalize w73.drew = w74 at BK522 BK528 BK541 HB hHeld ⊢
            refine pup_ (i := 0) (N := some 115) HT_ rfl rfl (by kernel_rfl) (fun _ _ _ h => h) (Or.inl ⟨by rfl, by intro w'; go_simp; with_reducible rfl⟩) (by simp only [aq_]; rfl) ?_
            refine pup_ (i := 2) (N := some 117) HT_ rfl rfl (by kernel_rfl) (fun _ _ _ h => h) (Or.inl ⟨by rfl, by intro w'; go_simp; with_reducible rfl⟩) (by simp only [aq_]; rfl) ?_
            refine take_ (i := 1) (N := some 116) (v := ?_) (a' := ?_) q76_101 rfl rfl (take_ofW HT_.out HW_.out (by kernel_rfl)) (fun _ _ _ h => h) (Or.inl ⟨by rfl, ?_⟩) hHeld ?_ ?_
            rotate_left
            ·rintro w' ⟨s0, s1, s2, s3, s4, s5, s6, s7, s8, s9, s10⟩
             go_simp
             with_reducible rfl
            rotate_left
            ·simp only [aq_]
             rfl
            refine take_ (i := 3) (N := some 118) (v := ?_) (a' := ?_) q76_102 rfl rfl (take_ofW HT_.out HW_.out (by kernel_rfl)) (fun _ _ _ h => h) (Or.inl ⟨by rfl, ?_⟩) hHeld ?_ ?_
            rotate_left
            ·rintro w' ⟨s0, s1, s2, s3, s4, s5, s6, s7, s8, s9, s10⟩
             go_simp
             with_reducible rfl
            rotate_left
            ·simp only [aq_]
             rfl
            refine pup_ (i := 4) (N := some 119) HT_ rfl rfl (by kernel_rfl) (fun _ _ _ h => h) (Or.inl ⟨by rfl, by intro w'; go_simp; with_reducible rfl⟩) (by simp only [aq_]; rfl) ?_
            refine pup_ (i := 5) (N := some 120) HT_ rfl rfl (by kernel_rfl) (fun _ _ _ h => h) (Or.inl ⟨by rfl, by intro w'; go_simp; with_reducible rfl⟩) (by simp only [aq_]; rfl) ?_
            refine pup_ (i := 6) (N := some 121) HT_ rfl rfl (by kernel_rfl) (fun _ _ _ h => h) (Or.inl ⟨by rfl, by intro w'; go_simp; with_reducible rfl⟩) (by simp only [aq_]; rfl) ?_
            refine pup_ (i := 8) (N := some 123) HT_ rfl rfl (by kernel_rfl) (fun _ _ _ h => h) (Or.inl ⟨by rfl, by intro w'; go_simp; with_reducible rfl⟩) (by simp only [aq_]; rfl) ?_
            refine take_ (i := 7) (N := some 122) (v := ?_) (a' := ?_) q76_107 rfl rfl (take_ofW HT_.out HW_.out (by kernel_rfl)) (fun _ _ _ h => h) (Or.inl ⟨by rfl, ?_⟩) hHeld ?_ ?_
            rotate_left
            ·rintro w' ⟨s0, s1, s2, s3, s4, s5, s6, s7, s8, s9, s10⟩
             go_simp
             with_reducible rfl
            rotate_left
            ·simp only [aq_]
             rfl
            refine take_ (i := 9) (N := some 124) (v := ?_) (a' := ?_) q76_108 rfl rfl (take_ofW HT_.out HW_.out (by kernel_rfl)) (fun _ _ _ h => h) (Or.inl ⟨by rfl, ?_⟩) hHeld ?_ ?_
            rotate_left
            ·rintro w' ⟨s0, s1, s2, s3, s4, s5, s6, s7, s8, s9, s10⟩
             go_simp
             with_reducible rfl
            rotate_left
            ·simp only [aq_]
             rfl
            refine pup_ (i := 10) (N := some 125) HT_ rfl rfl (by kernel_rfl) (fun _ _ _ h => h) (Or.inl ⟨by rfl, by intro w'; go_simp; with_reducible rfl⟩) (by simp only [aq_]; rfl) ?_
            refine pup_ (i := 11) (N := some 126) HT_ rfl rfl (by kernel_rfl) (fun _ _ _ h => h) (Or.inl ⟨by rfl, by intro w'; go_simp; with_reducible rfl⟩) (by simp only [aq_]; rfl) ?_
            refine pup_ (i := 15) (N := some 130) HT_ rfl rfl (by kernel_rfl) (fun _ _ _ h => h) (Or.inl ⟨by rfl, by intro w'; go_simp; with_reducible rfl⟩) (by simp only [aq_]; rfl) ?_
            refine take_ (i := 12) (N := some 127) (v := ?_) (a' := ?_) q76_121 rfl rfl (take_ofW HT_.out HW_.out (by kernel_rfl)) (fun _ _ _ h => h) (Or.inl ⟨by rfl, ?_⟩) hHeld ?_ ?_
            rotate_left
            ·rintro w' ⟨s0, s1, s2, s3, s4, s5, s6, s7, s8, s9, s10⟩
             go_simp
             with_reducible rfl
            rotate_left
            ·simp only [aq_]
             rfl
            refine take_ (i := 13) (N := some 128) (v := ?_) (a' := ?_) q76_122 rfl rfl (take_ofW HT_.out HW_.out (by kernel_rfl)) (fun _ _ _ h => h) (Or.inl ⟨by rfl, ?_⟩) hHeld ?_ ?_
            rotate_left
            ·rintro w' ⟨s0, s1, s2, s3, s4, s5, s6, s7, s8, s9, s10⟩
             go_simp
             with_reducible rfl
            rotate_left
            ·simp only [aq_]
             rfl
            refine take_ (i := 16) (N := some 131) (v := ?_) (a' := ?_) q76_123 rfl rfl (take_ofW HT_.out HW_.out (by kernel_rfl)) (fun _ _ _ h => h) (Or.inl ⟨by rfl, ?_⟩) hHeld ?_ ?_
            rotate_left
            ·rintro w' ⟨s0, s1, s2, s3, s4, s5, s6, s7, s8, s9, s10⟩
             go_simp
             with_reducible rfl
            rotate_left
            ·simp only [aq_]
             rfl
            refine one_ (i := 14) (N := some 129) q76_115 rfl rfl (one_of HT_.out (by kernel_rfl)) (by decide) (fun K hK => ?_)
            refine goes_ Try.func96 (by kernel_rfl) rfl #[.agg #[.int .i64 a0_0, .int .i64 a0_1, .int .i64 a0_2, .slice A0_3 l0_3.length c0_3, .slice (some ad527) l0_4.length c0_4], .agg #[.int .i64 ((rd_T98 y536 x111_5).f0), .int .i64 ((rd_T98 y536 x111_5).f1), .int .i64 ((rd_T98 y536 x111_5).f2)]] (by rfl) rfl rfl (by (try simp only [mA_]); first | done | rfl | (simp only [List.length_drop, List.length_take]; rfl)) ?_
            with_reducible refine (impl_Dispatcher_endOf.calls a0_0 a0_1 a0_2 _ _ l0_3 _ _ l0_4 ((rd_T98 y536 x111_5).f0) ((rd_T98 y536 x111_5).f1) ((rd_T98 y536 x111_5).f2) t542 _ ?side1 ?side2 ?side3 ?side4 A67.out).mono ?_
            (case side1 => first | exact bC HR0_3.out HB.out | exact Kd.C_below HR0_3.out HB.out)
            (case side2 => exact HC0_3.out)
            (case side3 => first | exact bC HR0_4.out HB.out | exact Kd.C_below HR0_4.out HB.out)
            (case side4 => exact HC0_4.out)
            rintro e w75 ⟨rfl, hb⟩
            refine ⟨_, rfl, ?_⟩
            have n0_ := Aside0.mk (blk_below (bs BK522.out) hb)
            have n1_ := Aside0.mk (blk_below (bs BK528.out) hb)
            have n2_ := Aside0.mk (blk_below (bs BK541.out) hb)
            have n3_ := Aside0.mk (below_step (by repeat (first | (with_reducible first | exact bw HB.out | refine bset ?_ | apply bA | apply bN | apply bD) | exact HB.out)) hb)
            replace BK522 := n0_
            replace BK528 := n1_
            replace BK541 := n2_
            replace HB := n3_
            clear n0_ n1_ n2_ n3_
            (try clear hb)
            (try clear hb2)
            (try clear hk)
            (try clear hi)
            refine hK.out _ _ ⟨(blk_cell BK541.out 0).trans rfl, (blk_cell BK541.out 1).trans rfl, (blk_cell BK541.out 2).trans rfl, (blk_cell BK528.out 0).trans rfl, (blk_cell BK528.out 1).trans rfl, (blk_cell BK528.out 2).trans rfl, (blk_cell BK522.out 0).trans rfl, (blk_cell BK522.out 1).trans rfl, (blk_cell BK522.out 2).trans rfl, (blk_cell BK522.out 3).trans rfl, (blk_cell BK522.out 4).trans rfl⟩ (fun hHeld => ?_)
            clear hK K
            refine norm_ (a' := ?_) ?_ ?_
            rotate_left
            ·show Act.put _ (some 129) _ = _
             simp only [aq_]
             rfl
            refine pup_ (i := 17) (N := some 132) HT_ rfl rfl (by kernel_rfl) (fun _ _ _ h => h) (Or.inl ⟨by rfl, by intro w'; go_simp; with_reducible rfl⟩) (by simp only [aq_]; rfl) ?_
            refine pup_ (i := 18) (N := some 133) HT_ rfl rfl (by kernel_rfl) (fun _ _ _ h => h) (Or.inl ⟨by rfl, by intro w'; go_simp; with_reducible rfl⟩) (by simp only [aq_]; rfl) ?_
            refine pup_ (i := 19) (N := some 134) HT_ rfl rfl (by kernel_rfl) (fun _ _ _ h => h) (Or.inl ⟨by rfl, by intro w'; go_simp; with_reducible rfl⟩) (by simp only [aq_]; rfl) ?_
            refine done_ (done_of HT_.out (by kernel_rfl)) ?_
            try go_wp2
            go_ret
            exact ⟨by first | rfl | (simp [errW_none, errW_some] <;> rfl) | (simp [*, errW_none, errW_some] <;> rfl), by repeat (first | (with_reducible first | exact bw HB.out | refine bset ?_ | apply bA | apply bN | apply bD) | exact HB.out)⟩
           rw [if_neg c68] at H
           have c68b0 : decide (((rd_T98 l0_4 x32_2).f2) < t542) = false := decide_eq_false c68
           clear c68
           have H' := Aside0.mk H
           clear H
           have p540 : 0 ≤ (x111_5 : Int) := of_decide_eq_true (by first | (with_reducible assumption) | assumption)
           have q540 : x111_5 < (y536.length : Int) := of_decide_eq_true (by first | (with_reducible assumption) | assumption)
           obtain ⟨ad540, e540, hx540_0, hx540_1, hx540_2⟩ := at_T98 HR539.out x111_5 p540 q540
           obtain rfl : ad527 = ad540 := (by injection e540)
           replace hx540_0 := (HB.out.cell (World.block_lt_of_cell? w _ hx540_0)).trans hx540_0
           replace hx540_1 := (HB.out.cell (World.block_lt_of_cell? w _ hx540_1)).trans hx540_1
           replace hx540_2 := (HB.out.cell (World.block_lt_of_cell? w _ hx540_2)).trans hx540_2
           replace p540 := eq_true p540
           replace q540 := eq_true q540
           try go_wp2_with (first | ((with_reducible refine gate_dst (N := 6) rfl ?_); refine box_event ?hg (N := 6) ?hd (cs := #[.int .i64 0, .int .i64 0, .int .i64 0]) (t := 98) ?hr ?_; (case hd => rfl); (case hg => rfl); (case hr => first | (go_simp; done) | (go_simp; rfl)); intro gb541 hg w76 hbox hb; have n0_ := Aside0.mk (blk_below (bs BK522.out) hb); have n1_ := Aside0.mk (blk_below (bs BK528.out) hb); have n2_ := Aside0.mk (below_step (by repeat (first | (with_reducible first | exact bw HB.out | refine bset ?_ | apply bA | apply bN | apply bD) | exact HB.out)) hb); have n3_ := Aside0.mk (hbox); have n4_ := Aside0.mk ((by rw [hg]; exact (below_size (by repeat (first | (with_reducible first | exact bw HB.out | refine bset ?_ | apply bA | apply bN | apply bD) | exact HB.out))) : w.heap.size ≤ gb541)); have n5_ := Aside0.mk ((by rw [hg]; exact (below_size (by repeat (first | (with_reducible first | exact bw HB.out | refine bset ?_ | apply bA | apply bN | apply bD) | exact HB.out))) : w.heap.size ≤ gb541)); have n6_ := ne_ hg BK522.out; have n7_ := en_ hg BK522.out; have n8_ := ne_ hg BK528.out; have n9_ := en_ hg BK528.out; replace BK522 := n0_; replace BK528 := n1_; replace HB := n2_; have BK541 := n3_; have GW541 := n4_; have GE541 := n5_; have NB522_541 := n6_; have NB541_522 := n7_; have NB528_541 := n8_; have NB541_528 := n9_; clear n0_ n1_ n2_ n3_ n4_ n5_ n6_ n7_ n8_ n9_; clear hb hbox hg; have hnb77 := NB541_522.out; have hnc77 := NB522_541.out; have hnb78 := NB541_528.out; have hnc78 := NB528_541.out; obtain ⟨hcz79_0, hcz79_1, hcz79_2, hfz79_0, hfz79_1, hfz79_2⟩ := bz3 BK541.out))
           have n0_ : Aside0 ((((w76.setCell ⟨gb541, 0, none⟩ (.int .i64 ((rd_T98 y536 x111_5).f0))).setCell ⟨gb541, 1, none⟩ (.int .i64 ((rd_T98 y536 x111_5).f1))).setCell ⟨gb541, 2, none⟩ (.int .i64 ((rd_T98 y536 x111_5).f2))).heap[gb522]? = some (.cells #[.int .i64 a0_0, .int .i64 a0_1, .int .i64 a0_2, .slice A0_3 l0_3.length c0_3, .slice (some ad527) l0_4.length c0_4] 43 (0, 0))) := ⟨by (with_reducible repeat (first | refine blk_drewN ?_ _ | refine blk_drew ?_ | refine blk_alloc ?_ _)); refine blk_far ?_ NB522_541.out _; (with_reducible repeat (first | refine blk_drewN ?_ _ | refine blk_drew ?_ | refine blk_alloc ?_ _)); refine blk_far ?_ NB522_541.out _; (with_reducible repeat (first | refine blk_drewN ?_ _ | refine blk_drew ?_ | refine blk_alloc ?_ _)); refine blk_far ?_ NB522_541.out _; exact bs BK522.out⟩
           have n1_ : Aside0 ((((w76.setCell ⟨gb541, 0, none⟩ (.int .i64 ((rd_T98 y536 x111_5).f0))).setCell ⟨gb541, 1, none⟩ (.int .i64 ((rd_T98 y536 x111_5).f1))).setCell ⟨gb541, 2, none⟩ (.int .i64 ((rd_T98 y536 x111_5).f2))).heap[gb528]? = some (.cells #[.int .i64 ((rd_T98 l0_4 x32_2).f0), .int .i64 ((rd_T98 l0_4 x32_2).f1), .int .i64 ((rd_T98 l0_4 x32_2).f2)] 98 (0, 0))) := ⟨by (with_reducible repeat (first | refine blk_drewN ?_ _ | refine blk_drew ?_ | refine blk_alloc ?_ _)); refine blk_far ?_ NB528_541.out _; (with_reducible repeat (first | refine blk_drewN ?_ _ | refine blk_drew ?_ | refine blk_alloc ?_ _)); refine blk_far ?_ NB528_541.out _; (with_reducible repeat (first | refine blk_drewN ?_ _ | refine blk_drew ?_ | refine blk_alloc ?_ _)); refine blk_far ?_ NB528_541.out _; exact bs BK528.out⟩
           have n2_ : Aside0 ((((w76.setCell ⟨gb541, 0, none⟩ (.int .i64 ((rd_T98 y536 x111_5).f0))).setCell ⟨gb541, 1, none⟩ (.int .i64 ((rd_T98 y536 x111_5).f1))).setCell ⟨gb541, 2, none⟩ (.int .i64 ((rd_T98 y536 x111_5).f2))).heap[gb541]? = some (.cells #[.int .i64 ((rd_T98 y536 x111_5).f0), .int .i64 ((rd_T98 y536 x111_5).f1), .int .i64 ((rd_T98 y536 x111_5).f2)] 98 (0, 0))) := ⟨by (with_reducible repeat (first | refine blk_drewN ?_ _ | refine blk_drew ?_ | refine blk_alloc ?_ _)); refine blk_put (cs := #[.int .i64 ((rd_T98 y536 x111_5).f0), .int .i64 ((rd_T98 y536 x111_5).f1), .int .i64 0]) ?_ 2 _ rfl; (with_reducible repeat (first | refine blk_drewN ?_ _ | refine blk_drew ?_ | refine blk_alloc ?_ _)); refine blk_put (cs := #[.int .i64 ((rd_T98 y536 x111_5).f0), .int .i64 0, .int .i64 0]) ?_ 1 _ rfl; (with_reducible repeat (first | refine blk_drewN ?_ _ | refine blk_drew ?_ | refine blk_alloc ?_ _)); refine blk_put (cs := #[.int .i64 0, .int .i64 0, .int .i64 0]) ?_ 0 _ rfl; exact bs BK541.out⟩
           have n3_ : Aside0 (Below w.heap.size w (((w76.setCell ⟨gb541, 0, none⟩ (.int .i64 ((rd_T98 y536 x111_5).f0))).setCell ⟨gb541, 1, none⟩ (.int .i64 ((rd_T98 y536 x111_5).f1))).setCell ⟨gb541, 2, none⟩ (.int .i64 ((rd_T98 y536 x111_5).f2)))) := ⟨by repeat (first | (with_reducible first | exact bw HB.out | refine bset ?_ | apply bA | apply bN | apply bD) | exact HB.out)⟩
           (try clear BK522)
           (try clear BK528)
           (try clear BK541)
           (try clear HB)
           (try simp only [setCell_drewN])
           generalize (((w76.setCell ⟨gb541, 0, none⟩ (.int .i64 ((rd_T98 y536 x111_5).f0))).setCell ⟨gb541, 1, none⟩ (.int .i64 ((rd_T98 y536 x111_5).f1))).setCell ⟨gb541, 2, none⟩ (.int .i64 ((rd_T98 y536 x111_5).f2))) = w80 at n0_ n1_ n2_ n3_ ⊢
           have BK522 := n0_
           have BK528 := n1_
           have BK541 := n2_
           have HB := n3_
           clear n0_ n1_ n2_ n3_
           have n0_ := Aside0.mk (blk_drew BK522.out)
           have n1_ := Aside0.mk (blk_drew BK528.out)
           have n2_ := Aside0.mk (blk_drew BK541.out)
           have n3_ := Aside0.mk (below_drew1 HB.out)
           replace BK522 := n0_
           replace BK528 := n1_
           replace BK541 := n2_
           replace HB := n3_
           clear n0_ n1_ n2_ n3_
           refine start_ (n := 20) (S := fun w' => w'.cell? ⟨gb541, 0, none⟩ = some (.int .i64 ((rd_T98 y536 x111_5).f0)) ∧ w'.cell? ⟨gb541, 1, none⟩ = some (.int .i64 ((rd_T98 y536 x111_5).f1)) ∧ w'.cell? ⟨gb541, 2, none⟩ = some (.int .i64 ((rd_T98 y536 x111_5).f2)) ∧ w'.cell? ⟨gb528, 0, none⟩ = some (.int .i64 ((rd_T98 l0_4 x32_2).f0)) ∧ w'.cell? ⟨gb528, 1, none⟩ = some (.int .i64 ((rd_T98 l0_4 x32_2).f1)) ∧ w'.cell? ⟨gb528, 2, none⟩ = some (.int .i64 ((rd_T98 l0_4 x32_2).f2)) ∧ w'.cell? ⟨gb522, 0, none⟩ = some (.int .i64 a0_0) ∧ w'.cell? ⟨gb522, 1, none⟩ = some (.int .i64 a0_1) ∧ w'.cell? ⟨gb522, 2, none⟩ = some (.int .i64 a0_2) ∧ w'.cell? ⟨gb522, 3, none⟩ = some (.slice A0_3 l0_3.length c0_3) ∧ w'.cell? ⟨gb522, 4, none⟩ = some (.slice (some ad527) l0_4.length c0_4)) (ds := []) q76_98 (by kernel_rfl) rfl rfl ⟨(blk_cell BK541.out 0).trans rfl, (blk_cell BK541.out 1).trans rfl, (blk_cell BK541.out 2).trans rfl, (blk_cell BK528.out 0).trans rfl, (blk_cell BK528.out 1).trans rfl, (blk_cell BK528.out 2).trans rfl, (blk_cell BK522.out 0).trans rfl, (blk_cell BK522.out 1).trans rfl, (blk_cell BK522.out 2).trans rfl, (blk_cell BK522.out 3).trans rfl, (blk_cell BK522.out 4).trans rfl⟩ (fun hHeld => ?_); refine with_tabW impl_IsDispatcher.tab13 impl_IsDispatcher.bits13 (fun HT_ HW_ => ?_)
           generalize w80.drew = w81 at BK522 BK528 BK541 HB hHeld ⊢
           refine pup_ (i := 0) (N := some 115) HT_ rfl rfl (by kernel_rfl) (fun _ _ _ h => h) (Or.inl ⟨by rfl, by intro w'; go_simp; with_reducible rfl⟩) (by simp only [aq_]; rfl) ?_
           refine pup_ (i := 2) (N := some 117) HT_ rfl rfl (by kernel_rfl) (fun _ _ _ h => h) (Or.inl ⟨by rfl, by intro w'; go_simp; with_reducible rfl⟩) (by simp only [aq_]; rfl) ?_
           refine take_ (i := 1) (N := some 116) (v := ?_) (a' := ?_) q76_101 rfl rfl (take_ofW HT_.out HW_.out (by kernel_rfl)) (fun _ _ _ h => h) (Or.inl ⟨by rfl, ?_⟩) hHeld ?_ ?_
           rotate_left
           ·rintro w' ⟨s0, s1, s2, s3, s4, s5, s6, s7, s8, s9, s10⟩
            go_simp
            with_reducible rfl
           rotate_left
           ·simp only [aq_]
            rfl
           refine take_ (i := 3) (N := some 118) (v := ?_) (a' := ?_) q76_102 rfl rfl (take_ofW HT_.out HW_.out (by kernel_rfl)) (fun _ _ _ h => h) (Or.inl ⟨by rfl, ?_⟩) hHeld ?_ ?_
           rotate_left
           ·rintro w' ⟨s0, s1, s2, s3, s4, s5, s6, s7, s8, s9, s10⟩
            go_simp
            with_reducible rfl
           rotate_left
           ·simp only [aq_]
            rfl
           refine pup_ (i := 4) (N := some 119) HT_ rfl rfl (by kernel_rfl) (fun _ _ _ h => h) (Or.inl ⟨by rfl, by intro w'; go_simp; with_reducible rfl⟩) (by simp only [aq_]; rfl) ?_
           refine pup_ (i := 5) (N := some 120) HT_ rfl rfl (by kernel_rfl) (fun _ _ _ h => h) (Or.inl ⟨by rfl, by intro w'; go_simp; with_reducible rfl⟩) (by simp only [aq_]; rfl) ?_
           refine pup_ (i := 6) (N := some 121) HT_ rfl rfl (by kernel_rfl) (fun _ _ _ h => h) (Or.inl ⟨by rfl, by intro w'; go_simp; with_reducible rfl⟩) (by simp only [aq_]; rfl) ?_
           refine pup_ (i := 8) (N := some 123) HT_ rfl rfl (by kernel_rfl) (fun _ _ _ h => h) (Or.inl ⟨by rfl, by intro w'; go_simp; with_reducible rfl⟩) (by simp only [aq_]; rfl) ?_
           refine take_ (i := 7) (N := some 122) (v := ?_) (a' := ?_) q76_107 rfl rfl (take_ofW HT_.out HW_.out (by kernel_rfl)) (fun _ _ _ h => h) (Or.inl ⟨by rfl, ?_⟩) hHeld ?_ ?_
           rotate_left
           ·rintro w' ⟨s0, s1, s2, s3, s4, s5, s6, s7, s8, s9, s10⟩
            go_simp
            with_reducible rfl
           rotate_left
           ·simp only [aq_]
            rfl
           refine take_ (i := 9) (N := some 124) (v := ?_) (a' := ?_) q76_108 rfl rfl (take_ofW HT_.out HW_.out (by kernel_rfl)) (fun _ _ _ h => h) (Or.inl ⟨by rfl, ?_⟩) hHeld ?_ ?_
           rotate_left
           ·rintro w' ⟨s0, s1, s2, s3, s4, s5, s6, s7, s8, s9, s10⟩
            go_simp
            with_reducible rfl
           rotate_left
           ·simp only [aq_]
            rfl
           refine pup_ (i := 10) (N := some 125) HT_ rfl rfl (by kernel_rfl) (fun _ _ _ h => h) (Or.inl ⟨by rfl, by intro w'; go_simp; with_reducible rfl⟩) (by simp only [aq_]; rfl) ?_
           refine pup_ (i := 11) (N := some 126) HT_ rfl rfl (by kernel_rfl) (fun _ _ _ h => h) (Or.inl ⟨by rfl, by intro w'; go_simp; with_reducible rfl⟩) (by simp only [aq_]; rfl) ?_
           refine pup_ (i := 15) (N := some 130) HT_ rfl rfl (by kernel_rfl) (fun _ _ _ h => h) (Or.inl ⟨by rfl, by intro w'; go_simp; with_reducible rfl⟩) (by simp only [aq_]; rfl) ?_
           refine take_ (i := 12) (N := some 127) (v := ?_) (a' := ?_) q76_121 rfl rfl (take_ofW HT_.out HW_.out (by kernel_rfl)) (fun _ _ _ h => h) (Or.inl ⟨by rfl, ?_⟩) hHeld ?_ ?_
           rotate_left
           ·rintro w' ⟨s0, s1, s2, s3, s4, s5, s6, s7, s8, s9, s10⟩
            go_simp
            with_reducible rfl
           rotate_left
           ·simp only [aq_]
            rfl
           refine take_ (i := 13) (N := some 128) (v := ?_) (a' := ?_) q76_122 rfl rfl (take_ofW HT_.out HW_.out (by kernel_rfl)) (fun _ _ _ h => h) (Or.inl ⟨by rfl, ?_⟩) hHeld ?_ ?_
           rotate_left
           ·rintro w' ⟨s0, s1, s2, s3, s4, s5, s6, s7, s8, s9, s10⟩
            go_simp
            with_reducible rfl
           rotate_left
           ·simp only [aq_]
            rfl
           refine take_ (i := 16) (N := some 131) (v := ?_) (a' := ?_) q76_123 rfl rfl (take_ofW HT_.out HW_.out (by kernel_rfl)) (fun _ _ _ h => h) (Or.inl ⟨by rfl, ?_⟩) hHeld ?_ ?_
           rotate_left
           ·rintro w' ⟨s0, s1, s2, s3, s4, s5, s6, s7, s8, s9, s10⟩
            go_simp
            with_reducible rfl
           rotate_left
           ·simp only [aq_]
            rfl
           refine one_ (i := 14) (N := some 129) q76_115 rfl rfl (one_of HT_.out (by kernel_rfl)) (by decide) (fun K hK => ?_)
           refine goes_ Try.func96 (by kernel_rfl) rfl #[.agg #[.int .i64 a0_0, .int .i64 a0_1, .int .i64 a0_2, .slice A0_3 l0_3.length c0_3, .slice (some ad527) l0_4.length c0_4], .agg #[.int .i64 ((rd_T98 y536 x111_5).f0), .int .i64 ((rd_T98 y536 x111_5).f1), .int .i64 ((rd_T98 y536 x111_5).f2)]] (by rfl) rfl rfl (by (try simp only [mA_]); first | done | rfl | (simp only [List.length_drop, List.length_take]; rfl)) ?_
           with_reducible refine (impl_Dispatcher_endOf.calls a0_0 a0_1 a0_2 _ _ l0_3 _ _ l0_4 ((rd_T98 y536 x111_5).f0) ((rd_T98 y536 x111_5).f1) ((rd_T98 y536 x111_5).f2) t542 _ ?side1 ?side2 ?side3 ?side4 A67.out).mono ?_
           (case side1 => first | exact bC HR0_3.out HB.out | exact Kd.C_below HR0_3.out HB.out)
           (case side2 => exact HC0_3.out)
           (case side3 => first | exact bC HR0_4.out HB.out | exact Kd.C_below HR0_4.out HB.out)
           (case side4 => exact HC0_4.out)
           rintro e w82 ⟨rfl, hb⟩
           refine ⟨_, rfl, ?_⟩
           have n0_ := Aside0.mk (blk_below (bs BK522.out) hb)
           have n1_ := Aside0.mk (blk_below (bs BK528.out) hb)
           have n2_ := Aside0.mk (blk_below (bs BK541.out) hb)
           have n3_ := Aside0.mk (below_step (by repeat (first | (with_reducible first | exact bw HB.out | refine bset ?_ | apply bA | apply bN | apply bD) | exact HB.out)) hb)
           replace BK522 := n0_
           replace BK528 := n1_
           replace BK541 := n2_
           replace HB := n3_
           clear n0_ n1_ n2_ n3_
           (try clear hb)
           (try clear hb2)
           (try clear hk)
           (try clear hi)
           refine hK.out _ _ ⟨(blk_cell BK541.out 0).trans rfl, (blk_cell BK541.out 1).trans rfl, (blk_cell BK541.out 2).trans rfl, (blk_cell BK528.out 0).trans rfl, (blk_cell BK528.out 1).trans rfl, (blk_cell BK528.out 2).trans rfl, (blk_cell BK522.out 0).trans rfl, (blk_cell BK522.out 1).trans rfl, (blk_cell BK522.out 2).trans rfl, (blk_cell BK522.out 3).trans rfl, (blk_cell BK522.out 4).trans rfl⟩ (fun hHeld => ?_)
           clear hK K
           refine norm_ (a' := ?_) ?_ ?_
           rotate_left
           ·show Act.put _ (some 129) _ = _
            simp only [aq_]
            rfl
           refine pup_ (i := 17) (N := some 132) HT_ rfl rfl (by kernel_rfl) (fun _ _ _ h => h) (Or.inl ⟨by rfl, by intro w'; go_simp; with_reducible rfl⟩) (by simp only [aq_]; rfl) ?_
           refine pup_ (i := 18) (N := some 133) HT_ rfl rfl (by kernel_rfl) (fun _ _ _ h => h) (Or.inl ⟨by rfl, by intro w'; go_simp; with_reducible rfl⟩) (by simp only [aq_]; rfl) ?_
           refine pup_ (i := 19) (N := some 134) HT_ rfl rfl (by kernel_rfl) (fun _ _ _ h => h) (Or.inl ⟨by rfl, by intro w'; go_simp; with_reducible rfl⟩) (by simp only [aq_]; rfl) ?_
           refine done_ (done_of HT_.out (by kernel_rfl)) ?_
           try go_wp2
           go_roundg k5
           case measure => have := HJ1.out; have := HK2.out; have := HJ20.out; have := HJ38.out; have := HK5.out; omega
           case rel => exact ⟨(wrap64 (x111_5 + 1)), (by first | rfl | (simp; done) | (simp [*]; done)), H', ⟨by have := HJ1.out; have := HK2.out; have := HJ20.out; have := HJ38.out; have := HK5.out; omega⟩, ⟨bs BK522.out⟩, ⟨bs BK528.out⟩, ⟨by repeat (first | (with_reducible first | exact bw HB.out | refine bset ?_ | apply bA | apply bN | apply bD) | exact HB.out)⟩⟩

/-! ### impl_Dispatcher_ends: function 77 -/
abbrev q77_0 : Array Bool := ⟨rl_ [8] false⟩
abbrev q77_3 : Array Bool := ⟨rl_ [3, 5] true⟩
abbrev q77_4 : Array Bool := ⟨rl_ [4, 4] true⟩
abbrev q77_5 : Array Bool := ⟨rl_ [5, 3] true⟩
abbrev q77_6 : Array Bool := ⟨rl_ [6, 2] true⟩
abbrev q77_8 : Array Bool := ⟨rl_ [8] true⟩
mutual
def impl_Dispatcher_ends.l0 : Nat → List Int → Int → Int → Int → Int → Int → List (S61) → List (S98) → Option (List Int)
 | 0, _, _, _, _, _, _, _, _ => none
 | k + 1, x3, x8, x9, x544000, x544001, x544002, x544003, x544004 => if x9 < x8 then (if x3.length < 17592186044416 then (impl_Dispatcher_ends.l0 k (x3 ++ [(-1)]) x8 (wrap64 (x9 + 1)) x544000 x544001 x544002 x544003 x544004) else (none)) else (impl_Dispatcher_ends.l1 k x3 x544004 (x544004.length : Int) 0 x544000 x544001 x544002 x544003 x544004)
def impl_Dispatcher_ends.l1 : Nat → List Int → List (S98) → Int → Int → Int → Int → Int → List (S61) → List (S98) → Option (List Int)
 | 0, _, _, _, _, _, _, _, _, _ => none
 | k + 1, x3, x16, x17, x18, x544000, x544001, x544002, x544003, x544004 => if x18 < x17 then (if 0 ≤ x18 then (if x18 < (x16.length : Int) then ((impl_Dispatcher_endOf.f x544000 x544001 x544002 x544003 x544004 ((rd_T98 x16 x18).f0) ((rd_T98 x16 x18).f1) ((rd_T98 x16 x18).f2)).bind fun t549 => (if 0 ≤ ((rd_T98 x16 x18).f0) then (if ((rd_T98 x16 x18).f0) < (x3.length : Int) then (impl_Dispatcher_ends.l1 k (x3.set (((rd_T98 x16 x18).f0) : Int).toNat t549) x16 x17 (wrap64 (x18 + 1)) x544000 x544001 x544002 x544003 x544004) else (none)) else (none))) else (none)) else (none)) else (some x3)
end
def impl_Dispatcher_ends.f (k : Nat) (a0_0 : Int) (a0_1 : Int) (a0_2 : Int) (l0_3 : List (S61)) (l0_4 : List (S98)) : Option (List Int) := impl_Dispatcher_ends.l0 k ([] : List Int) (l0_3.length : Int) 0 a0_0 a0_1 a0_2 l0_3 l0_4
theorem impl_Dispatcher_ends.mono_l : ∀ k, (∀ y0 y1 y2 y3 y4 y5 y6 y7, LeO (impl_Dispatcher_ends.l0 k y0 y1 y2 y3 y4 y5 y6 y7) (impl_Dispatcher_ends.l0 (k + 1) y0 y1 y2 y3 y4 y5 y6 y7)) ∧ (∀ y0 y1 y2 y3 y4 y5 y6 y7 y8, LeO (impl_Dispatcher_ends.l1 k y0 y1 y2 y3 y4 y5 y6 y7 y8) (impl_Dispatcher_ends.l1 (k + 1) y0 y1 y2 y3 y4 y5 y6 y7 y8))
 | 0 => ⟨fun _ _ _ _ _ _ _ _ r h => by simp [impl_Dispatcher_ends.l0] at h, fun _ _ _ _ _ _ _ _ _ r h => by simp [impl_Dispatcher_ends.l1] at h⟩
 | k + 1 => by
  obtain ⟨ih0, ih1⟩ := impl_Dispatcher_ends.mono_l k
  refine ⟨?_, ?_⟩
  ·intro y0 y1 y2 y3 y4 y5 y6 y7
   unfold impl_Dispatcher_ends.l0
   repeat' first
   | (with_reducible exact ih0 _ _ _ _ _ _ _ _)
   | (with_reducible exact ih1 _ _ _ _ _ _ _ _ _)
   | (with_reducible exact LeO.refl _)
   | (with_reducible exact LeO.none _)
   | (with_reducible refine LeO.ite ?_ ?_)
   | (with_reducible refine LeO.bind ?_ (fun _ => ?_))
   | exact ih0 _ _ _ _ _ _ _ _
   | exact ih1 _ _ _ _ _ _ _ _ _
   | exact LeO.none _
   | refine LeO.ite ?_ ?_
   | refine LeO.bind ?_ (fun _ => ?_)
  ·intro y0 y1 y2 y3 y4 y5 y6 y7 y8
   unfold impl_Dispatcher_ends.l1
   repeat' first
   | (with_reducible exact ih0 _ _ _ _ _ _ _ _)
   | (with_reducible exact ih1 _ _ _ _ _ _ _ _ _)
   | (with_reducible exact LeO.refl _)
   | (with_reducible exact LeO.none _)
   | (with_reducible refine LeO.ite ?_ ?_)
   | (with_reducible refine LeO.bind ?_ (fun _ => ?_))
   | exact ih0 _ _ _ _ _ _ _ _
   | exact ih1 _ _ _ _ _ _ _ _ _
   | exact LeO.none _
   | refine LeO.ite ?_ ?_
   | refine LeO.bind ?_ (fun _ => ?_)
theorem impl_Dispatcher_ends.mono : ∀ a0 a1 a2 a3 a4 k, LeO (impl_Dispatcher_ends.f k a0 a1 a2 a3 a4) (impl_Dispatcher_ends.f (k + 1) a0 a1 a2 a3 a4) := by
 intro a0 a1 a2 a3 a4 k
 obtain ⟨ih0, ih1⟩ := impl_Dispatcher_ends.mono_l k
 unfold impl_Dispatcher_ends.f
 repeat' first
   | (with_reducible exact ih0 _ _ _ _ _ _ _ _)
   | (with_reducible exact ih1 _ _ _ _ _ _ _ _ _)
   | (with_reducible exact LeO.refl _)
   | (with_reducible exact LeO.none _)
   | (with_reducible refine LeO.ite ?_ ?_)
   | (with_reducible refine LeO.bind ?_ (fun _ => ?_))
   | exact ih0 _ _ _ _ _ _ _ _
   | exact ih1 _ _ _ _ _ _ _ _ _
   | exact LeO.none _
   | refine LeO.ite ?_ ?_
   | refine LeO.bind ?_ (fun _ => ?_)
def impl_Dispatcher_ends.T9 : Bool × List (List Nat × List Nat) := (true, [([], []), ([], []), ([1], [1]), ([], []), ([], []), ([3, 4], [3, 4]), ([0, 2, 0, 1, 2, 3, 4, 5], [0, 2]), ([6, 5, 5, 0, 1, 2, 3, 4, 5], [5, 6])])
def impl_Dispatcher_ends.B9 : List Nat := [0, 0, 2, 0, 0, 24, 63, 127]
theorem impl_Dispatcher_ends.tab9 : rtab .any (opsOf Try.f77 9) = impl_Dispatcher_ends.T9 := by kernel_rfl
theorem impl_Dispatcher_ends.bits9 : waitsOk impl_Dispatcher_ends.T9.2 impl_Dispatcher_ends.B9 = true := by kernel_rfl
set_option maxHeartbeats 8000000 in
set_option maxRecDepth 100000 in
theorem impl_Dispatcher_ends.calls (k : Nat) (a0_0 : Int) (a0_1 : Int) (a0_2 : Int) (A0_3 : Option Addr) (c0_3 : Nat) (l0_3 : List (S61)) (A0_4 : Option Addr) (c0_4 : Nat) (l0_4 : List (S98)) (r : List Int) (w : World) (hr0_3 : Kd.C k61 w A0_3 l0_3.length l0_3) (hc0_3 : l0_3.length ≤ c0_3) (hr0_4 : Kd.C k98 w A0_4 l0_4.length l0_4) (hc0_4 : l0_4.length ≤ c0_4) (h : impl_Dispatcher_ends.f k a0_0 a0_1 a0_2 l0_3 l0_4 = some r) :
  Calls Try.prog 77 #[.agg #[.int .i64 a0_0, .int .i64 a0_1, .int .i64 a0_2, .slice A0_3 l0_3.length c0_3, .slice A0_4 l0_4.length c0_4]] w fun e w' => ∃ v0_ : Value, e = .returned (v0_) ∧ Kd.R (Kd.int .i64) 3 w' w.heap.size (fun _ => True) v0_ r ∧ Below w.heap.size w w' := by
 have hu43 := Try.underlying43
 have hu98 := Try.underlying98
 have HR0_3 := Aside0.mk hr0_3
 have HC0_3 := Aside0.mk hc0_3
 clear hr0_3 hc0_3
 have HR0_4 := Aside0.mk hr0_4
 have HC0_4 := Aside0.mk hc0_4
 clear hr0_4 hc0_4
 have HB := Aside0.mk (Below.refl w.heap.size w)
 have H : (impl_Dispatcher_ends.l0 k ([] : List Int) (l0_3.length : Int) 0 a0_0 a0_1 a0_2 l0_3 l0_4) = some r := h
 clear h
 have H' := Aside0.mk H
 clear H
 go_enter Try.func77, Try.ntmps77
 go_wp2_with (first | ((with_reducible refine gate_dst (N := 1) rfl ?_); refine box_event ?hg (N := 1) ?hd (cs := #[.int .i64 a0_0, .int .i64 a0_1, .int .i64 a0_2, .slice A0_3 l0_3.length c0_3, .slice A0_4 l0_4.length c0_4]) (t := 43) ?hr ?_; (case hd => rfl); (case hg => rfl); (case hr => first | (go_simp; done) | (go_simp; rfl)); intro gb543 hg w2 hbox hb; have n0_ := Aside0.mk (below_step (bw HB.out) hb); have n1_ := Aside0.mk (hbox); have n2_ := ge_ hg HB.out; have n3_ := ge_ hg HB.out; replace HB := n0_; have BK543 := n1_; have GW543 := n2_; have GE543 := n3_; clear n0_ n1_ n2_ n3_; clear hb hbox hg; obtain ⟨hcz3_0, hcz3_1, hcz3_2, hcz3_3, hcz3_4, hfz3_0, hfz3_1, hfz3_2, hfz3_3, hfz3_4⟩ := bz5 BK543.out))
 go_loopg [3, 9] k (fun kq v3 v9 w' => ∃ (x3_1 : List Int) (x9_1 : Int), v9 = .int .i64 x9_1 ∧ Aside0 (impl_Dispatcher_ends.l0 kq x3_1 (l0_3.length : Int) x9_1 a0_0 a0_1 a0_2 l0_3 l0_4 = some r) ∧ Aside0 (kq ≤ k) ∧ Aside0 (Kd.R (Kd.int .i64) 3 w' w.heap.size (fun _ => True) v3 x3_1) ∧ Aside0 (w'.heap[gb543]? = some (.cells #[.int .i64 a0_0, .int .i64 a0_1, .int .i64 a0_2, (.slice A0_3 l0_3.length c0_3), (.slice A0_4 l0_4.length c0_4)] 43 (0, 0))) ∧ Aside0 (Below w.heap.size w w'))
 case atStart => exact ⟨(([] : List Int)), (0), (by first | rfl | (simp; done) | (simp [*]; done)), H', ⟨Nat.le_refl _⟩, ⟨by first | exact Kd.R_nil _ _ _ _ _ | exact Kd.N_nil _ _ _ _ _ | exact Kd.V_nil _ _ _ _ _ | exact Kd.Q_nil _ _ _ _ _ | exact Kd.S_nil _ _ _ _ _⟩, ⟨bs BK543.out⟩, ⟨by repeat (first | (with_reducible first | exact bw HB.out | refine bset ?_ | apply bA | apply bN | apply bD) | exact HB.out)⟩⟩
 case round =>
  clear H'
  try clear p2
  try clear hcz3_0
  try clear hcz3_1
  try clear hcz3_2
  try clear hcz3_3
  try clear hcz3_4
  try clear hfz3_0
  try clear hfz3_1
  try clear hfz3_2
  try clear hfz3_3
  try clear hfz3_4
  obtain ⟨x3_1, x9_1, rfl, HA, HK1, HO_3, BK543, HB⟩ := hrel
  cases gk with
  | zero => exact absurd HA.out (by simp [impl_Dispatcher_ends.l0])
  | succ k1 =>
   have H := HA.out
   clear HA
   simp only [impl_Dispatcher_ends.l0] at H
   by_cases c4 : x9_1 < (l0_3.length : Int)
   ·rw [if_pos c4] at H
    have c4b0 : decide (x9_1 < (l0_3.length : Int)) = true := decide_eq_true c4
    clear c4
    by_cases c5 : x3_1.length < 17592186044416
    rotate_left
    ·rw [if_neg c5] at H
     exact absurd H (by simp)
    rw [if_pos c5] at H
    have LMc5 := Aside0.mk c5
    clear c5
    obtain ⟨y544, hy544⟩ : ∃ y_ : List Int, y_ = (x3_1 ++ [(-1)]) := ⟨_, rfl⟩
    replace H : (impl_Dispatcher_ends.l0 k1 y544 (l0_3.length : Int) (wrap64 (x9_1 + 1)) a0_0 a0_1 a0_2 l0_3 l0_4) = some r := by first | (rw [hy544]; with_reducible exact H) | (have H2_ := (Option.bind_some _ _).symm.trans H; rw [hy544]; with_reducible exact H2_) | (have H2_ := (Option.bind_some _ _).symm.trans H; with_reducible exact H2_) | with_reducible exact H | (rw [hy544]; exact H) | exact H
    have Ny544 := Aside0.mk hy544
    clear hy544
    have H' := Aside0.mk H
    clear H
    go_wp2_with (first | ((with_reducible refine gate_builtin (b := .append) (xs := #[.tmp 11, .tmp 12]) rfl ?_); at_builtin; refine Kd.R_append (Kd.int .i64) (w0 := w) w.heap.size rfl (.tmp 11) (.tmp 12) 23 3 (.int .i64 0) 8 rfl Try.underlying23 info3 rfl (by decide) (by omega) u3 x3_1 (-1) [.int .i64 (-1)] (fun _ => True) (fun _ => False) rfl rfl ?aP (fun _ hk => hk.elim) ?aF ?aO ?aB ?aS ?aL ?_; (case aP => exact rfl); (case aB => exact (by repeat (first | (with_reducible first | exact bw HB.out | refine bset ?_ | apply bA | apply bN | apply bD) | exact HB.out))); (case aF => exact (fun _ _ => trivial)); (case aO => exact (bR HO_3.out)); (case aS => exact (below_size (by repeat (first | (with_reducible first | exact bw HB.out | refine bset ?_ | apply bA | apply bN | apply bD) | exact HB.out)))); (case aL => have := LMc5.out; omega); intro v545 w6 ho hb hg hat; rw [← Ny544.out] at ho; have n0_ := Aside0.mk (blk_grown (bs BK543.out) hg (Kd.R_ne HO_3.out BK543.out (by decide))); have n1_ := Aside0.mk (hb); have n2_ := Aside0.mk (ho); clear HO_3; replace BK543 := n0_; replace HB := n1_; have HO546 := n2_; clear n0_ n1_ n2_; clear ho hb hg hat))
    go_roundg k1
    case measure => have := HK1.out; omega
    case rel => exact ⟨(y544), (wrap64 (x9_1 + 1)), (by first | rfl | (simp; done) | (simp [*]; done)), H', ⟨by have := HK1.out; omega⟩, ⟨bR HO546.out⟩, ⟨bs BK543.out⟩, ⟨by repeat (first | (with_reducible first | exact bw HB.out | refine bset ?_ | apply bA | apply bN | apply bD) | exact HB.out)⟩⟩
   rw [if_neg c4] at H
   have c4b0 : decide (x9_1 < (l0_3.length : Int)) = false := decide_eq_false c4
   clear c4
   have H' := Aside0.mk H
   clear H
   obtain ⟨hcz7_0, hcz7_1, hcz7_2, hcz7_3, hcz7_4, hfz7_0, hfz7_1, hfz7_2, hfz7_3, hfz7_4⟩ := bz5 BK543.out
   go_wp2
   go_loopg [18] k1 (fun kq v18 w' => ∃ (x3_2 : List Int) (x18_2 : Int), v18 = .int .i64 x18_2 ∧ Aside0 (impl_Dispatcher_ends.l1 kq x3_2 l0_4 (l0_4.length : Int) x18_2 a0_0 a0_1 a0_2 l0_3 l0_4 = some r) ∧ Aside0 (kq ≤ k1) ∧ Aside0 (Kd.R (Kd.int .i64) 3 w' w.heap.size (fun _ => True) u3 x3_2) ∧ Aside0 (w'.heap[gb543]? = some (.cells #[.int .i64 a0_0, .int .i64 a0_1, .int .i64 a0_2, (.slice A0_3 l0_3.length c0_3), (.slice A0_4 l0_4.length c0_4)] 43 (0, 0))) ∧ Aside0 (Below w.heap.size w w'))
   case atStart => exact ⟨(x3_1), (0), (by first | rfl | (simp; done) | (simp [*]; done)), H', ⟨Nat.le_refl _⟩, ⟨bR HO_3.out⟩, ⟨bs BK543.out⟩, ⟨by repeat (first | (with_reducible first | exact bw HB.out | refine bset ?_ | apply bA | apply bN | apply bD) | exact HB.out)⟩⟩
   case round =>
    clear H'
    try clear p2
    try clear c4
    try clear c4b0
    try clear c5
    try clear p6
    try clear c7
    try clear hcz3_0
    try clear hcz3_1
    try clear hcz3_2
    try clear hcz3_3
    try clear hcz3_4
    try clear hcz7_0
    try clear hcz7_1
    try clear hcz7_2
    try clear hcz7_3
    try clear hcz7_4
    try clear hfz3_0
    try clear hfz3_1
    try clear hfz3_2
    try clear hfz3_3
    try clear hfz3_4
    try clear hfz7_0
    try clear hfz7_1
    try clear hfz7_2
    try clear hfz7_3
    try clear hfz7_4
    try clear p2
    obtain ⟨x3_2, x18_2, rfl, HA, HK2, HO_3, BK543, HB⟩ := hrel
    cases gk with
    | zero => exact absurd HA.out (by simp [impl_Dispatcher_ends.l1])
    | succ k2 =>
     have H := HA.out
     clear HA
     simp only [impl_Dispatcher_ends.l1] at H
     by_cases c8 : x18_2 < (l0_4.length : Int)
     rotate_left
     ·rw [if_neg c8] at H
      have c8b0 : decide (x18_2 < (l0_4.length : Int)) = false := decide_eq_false c8
      clear c8
      obtain rfl := Option.some.inj H
      go_wp2
      go_ret
      exact ⟨_, by first | rfl | (simp [errW_none, errW_some] <;> rfl) | (simp [*, errW_none, errW_some] <;> rfl), by (with_reducible repeat (first | apply Kd.R_alloc | apply Kd.R_drewN | apply Kd.R_drew)); exact HO_3.out, by repeat (first | (with_reducible first | exact bw HB.out | refine bset ?_ | apply bA | apply bN | apply bD) | exact HB.out)⟩
     rw [if_pos c8] at H
     have c8b0 : decide (x18_2 < (l0_4.length : Int)) = true := decide_eq_true c8
     clear c8
     by_cases c9 : 0 ≤ x18_2
     rotate_left
     ·rw [if_neg c9] at H
      exact absurd H (by simp)
     rw [if_pos c9] at H
     have c9b0 : decide (0 ≤ x18_2) = true := decide_eq_true c9
     clear c9
     by_cases c10 : x18_2 < (l0_4.length : Int)
     rotate_left
     ·rw [if_neg c10] at H
      exact absurd H (by simp)
     rw [if_pos c10] at H
     have c10b0 : decide (x18_2 < (l0_4.length : Int)) = true := decide_eq_true c10
     clear c10
     replace H := Option.bind_eq_some_iff.mp H
     obtain ⟨t549, A110, H⟩ := H
     replace H : (if 0 ≤ ((rd_T98 l0_4 x18_2).f0) then (if ((rd_T98 l0_4 x18_2).f0) < (x3_2.length : Int) then (impl_Dispatcher_ends.l1 k2 (x3_2.set (((rd_T98 l0_4 x18_2).f0) : Int).toNat t549) l0_4 (l0_4.length : Int) (wrap64 (x18_2 + 1)) a0_0 a0_1 a0_2 l0_3 l0_4) else (none)) else (none)) = some r := H
     have A11 := Aside0.mk A110
     clear A110
     by_cases c12 : 0 ≤ ((rd_T98 l0_4 x18_2).f0)
     rotate_left
     ·rw [if_neg c12] at H
      exact absurd H (by simp)
     rw [if_pos c12] at H
     have c12b0 : decide (0 ≤ ((rd_T98 l0_4 x18_2).f0)) = true := decide_eq_true c12
     clear c12
     by_cases c13 : ((rd_T98 l0_4 x18_2).f0) < (x3_2.length : Int)
     rotate_left
     ·rw [if_neg c13] at H
      exact absurd H (by simp)
     rw [if_pos c13] at H
     have c13b0 : decide (((rd_T98 l0_4 x18_2).f0) < (x3_2.length : Int)) = true := decide_eq_true c13
     clear c13
     obtain ⟨y550, hy550⟩ : ∃ y_ : List Int, y_ = (x3_2.set (((rd_T98 l0_4 x18_2).f0) : Int).toNat t549) := ⟨_, rfl⟩
     replace H : (impl_Dispatcher_ends.l1 k2 y550 l0_4 (l0_4.length : Int) (wrap64 (x18_2 + 1)) a0_0 a0_1 a0_2 l0_3 l0_4) = some r := by first | (rw [hy550]; with_reducible exact H) | (have H2_ := (Option.bind_some _ _).symm.trans H; rw [hy550]; with_reducible exact H2_) | (have H2_ := (Option.bind_some _ _).symm.trans H; with_reducible exact H2_) | with_reducible exact H | (rw [hy550]; exact H) | exact H
     have Ny550 := Aside0.mk hy550
     clear hy550
     have H' := Aside0.mk H
     clear H
     have p547 : 0 ≤ (x18_2 : Int) := of_decide_eq_true (by first | (with_reducible assumption) | assumption)
     have q547 : x18_2 < (l0_4.length : Int) := of_decide_eq_true (by first | (with_reducible assumption) | assumption)
     obtain ⟨ad547, e547, hx547_0, hx547_1, hx547_2⟩ := at_T98 HR0_4.out x18_2 p547 q547
     cases e547
     replace hx547_0 := (HB.out.cell (World.block_lt_of_cell? w _ hx547_0)).trans hx547_0
     replace hx547_1 := (HB.out.cell (World.block_lt_of_cell? w _ hx547_1)).trans hx547_1
     replace hx547_2 := (HB.out.cell (World.block_lt_of_cell? w _ hx547_2)).trans hx547_2
     replace p547 := eq_true p547
     replace q547 := eq_true q547
     try go_wp2_with (first | ((with_reducible refine gate_dst (N := 5) rfl ?_); refine box_event ?hg (N := 5) ?hd (cs := #[.int .i64 0, .int .i64 0, .int .i64 0]) (t := 98) ?hr ?_; (case hd => rfl); (case hg => rfl); (case hr => first | (go_simp; done) | (go_simp; rfl)); intro gb548 hg w15 hbox hb; have n0_ := Aside0.mk (Kd.R_below (bR HO_3.out) hb); have n1_ := Aside0.mk (blk_below (bs BK543.out) hb); have n2_ := Aside0.mk (below_step (by repeat (first | (with_reducible first | exact bw HB.out | refine bset ?_ | apply bA | apply bN | apply bD) | exact HB.out)) hb); have n3_ := Aside0.mk (hbox); have n4_ := Aside0.mk ((by rw [hg]; exact (below_size (by repeat (first | (with_reducible first | exact bw HB.out | refine bset ?_ | apply bA | apply bN | apply bD) | exact HB.out))) : w.heap.size ≤ gb548)); have n5_ := Aside0.mk ((by rw [hg]; exact (below_size (by repeat (first | (with_reducible first | exact bw HB.out | refine bset ?_ | apply bA | apply bN | apply bD) | exact HB.out))) : w.heap.size ≤ gb548)); have n6_ := ne_ hg BK543.out; have n7_ := en_ hg BK543.out; replace HO_3 := n0_; replace BK543 := n1_; replace HB := n2_; have BK548 := n3_; have GW548 := n4_; have GE548 := n5_; have NB543_548 := n6_; have NB548_543 := n7_; clear n0_ n1_ n2_ n3_ n4_ n5_ n6_ n7_; clear hb hbox hg; have hnb16 := NB548_543.out; have hnc16 := NB543_548.out; obtain ⟨hcz17_0, hcz17_1, hcz17_2, hfz17_0, hfz17_1, hfz17_2⟩ := bz3 BK548.out))
     have n0_ : Aside0 (Kd.R (Kd.int .i64) 3 (((w15.setCell ⟨gb548, 0, none⟩ (.int .i64 ((rd_T98 l0_4 x18_2).f0))).setCell ⟨gb548, 1, none⟩ (.int .i64 ((rd_T98 l0_4 x18_2).f1))).setCell ⟨gb548, 2, none⟩ (.int .i64 ((rd_T98 l0_4 x18_2).f2))) w.heap.size (fun _ => True) u3 x3_2) := ⟨by (with_reducible repeat (first | apply Kd.R_alloc | apply Kd.R_drewN | apply Kd.R_drew)); exact Kd.R_mono (Kd.R_far (p := ⟨gb548, 2, none⟩) (Kd.R_far (p := ⟨gb548, 1, none⟩) (Kd.R_far (p := ⟨gb548, 0, none⟩) (Kd.R_types HO_3.out BK548.out (by decide)) (fun _ hk => hk.2) (.int .i64 ((rd_T98 l0_4 x18_2).f0))) (fun _ hk => hk.2) (.int .i64 ((rd_T98 l0_4 x18_2).f1))) (fun _ hk => hk.2) (.int .i64 ((rd_T98 l0_4 x18_2).f2))) (fun _ hk => trivial)⟩
     have n1_ : Aside0 ((((w15.setCell ⟨gb548, 0, none⟩ (.int .i64 ((rd_T98 l0_4 x18_2).f0))).setCell ⟨gb548, 1, none⟩ (.int .i64 ((rd_T98 l0_4 x18_2).f1))).setCell ⟨gb548, 2, none⟩ (.int .i64 ((rd_T98 l0_4 x18_2).f2))).heap[gb543]? = some (.cells #[.int .i64 a0_0, .int .i64 a0_1, .int .i64 a0_2, .slice A0_3 l0_3.length c0_3, .slice (some ad547) l0_4.length c0_4] 43 (0, 0))) := ⟨by (with_reducible repeat (first | refine blk_drewN ?_ _ | refine blk_drew ?_ | refine blk_alloc ?_ _)); refine blk_far ?_ NB543_548.out _; (with_reducible repeat (first | refine blk_drewN ?_ _ | refine blk_drew ?_ | refine blk_alloc ?_ _)); refine blk_far ?_ NB543_548.out _; (with_reducible repeat (first | refine blk_drewN ?_ _ | refine blk_drew ?_ | refine blk_alloc ?_ _)); refine blk_far ?_ NB543_548.out _; exact bs BK543.out⟩
     have n2_ : Aside0 ((((w15.setCell ⟨gb548, 0, none⟩ (.int .i64 ((rd_T98 l0_4 x18_2).f0))).setCell ⟨gb548, 1, none⟩ (.int .i64 ((rd_T98 l0_4 x18_2).f1))).setCell ⟨gb548, 2, none⟩ (.int .i64 ((rd_T98 l0_4 x18_2).f2))).heap[gb548]? = some (.cells #[.int .i64 ((rd_T98 l0_4 x18_2).f0), .int .i64 ((rd_T98 l0_4 x18_2).f1), .int .i64 ((rd_T98 l0_4 x18_2).f2)] 98 (0, 0))) := ⟨by (with_reducible repeat (first | refine blk_drewN ?_ _ | refine blk_drew ?_ | refine blk_alloc ?_ _)); refine blk_put (cs := #[.int .i64 ((rd_T98 l0_4 x18_2).f0), .int .i64 ((rd_T98 l0_4 x18_2).f1), .int .i64 0]) ?_ 2 _ rfl; (with_reducible repeat (first | refine blk_drewN ?_ _ | refine blk_drew ?_ | refine blk_alloc ?_ _)); refine blk_put (cs := #[.int .i64 ((rd_T98 l0_4 x18_2).f0), .int .i64 0, .int .i64 0]) ?_ 1 _ rfl; (with_reducible repeat (first | refine blk_drewN ?_ _ | refine blk_drew ?_ | refine blk_alloc ?_ _)); refine blk_put (cs := #[.int .i64 0, .int .i64 0, .int .i64 0]) ?_ 0 _ rfl; exact bs BK548.out⟩
     have n3_ : Aside0 (Below w.heap.size w (((w15.setCell ⟨gb548, 0, none⟩ (.int .i64 ((rd_T98 l0_4 x18_2).f0))).setCell ⟨gb548, 1, none⟩ (.int .i64 ((rd_T98 l0_4 x18_2).f1))).setCell ⟨gb548, 2, none⟩ (.int .i64 ((rd_T98 l0_4 x18_2).f2)))) := ⟨by repeat (first | (with_reducible first | exact bw HB.out | refine bset ?_ | apply bA | apply bN | apply bD) | exact HB.out)⟩
     (try clear HO_3)
     (try clear BK543)
     (try clear BK548)
     (try clear HB)
     (try simp only [setCell_drewN])
     generalize (((w15.setCell ⟨gb548, 0, none⟩ (.int .i64 ((rd_T98 l0_4 x18_2).f0))).setCell ⟨gb548, 1, none⟩ (.int .i64 ((rd_T98 l0_4 x18_2).f1))).setCell ⟨gb548, 2, none⟩ (.int .i64 ((rd_T98 l0_4 x18_2).f2))) = w18 at n0_ n1_ n2_ n3_ ⊢
     have HO_3 := n0_
     have BK543 := n1_
     have BK548 := n2_
     have HB := n3_
     clear n0_ n1_ n2_ n3_
     have n0_ := Aside0.mk (Kd.R_drew HO_3.out)
     have n1_ := Aside0.mk (blk_drew BK543.out)
     have n2_ := Aside0.mk (blk_drew BK548.out)
     have n3_ := Aside0.mk (below_drew1 HB.out)
     replace HO_3 := n0_
     replace BK543 := n1_
     replace BK548 := n2_
     replace HB := n3_
     clear n0_ n1_ n2_ n3_
     refine start_ (n := 8) (S := fun w' => w'.cell? ⟨gb548, 0, none⟩ = some (.int .i64 ((rd_T98 l0_4 x18_2).f0)) ∧ w'.cell? ⟨gb548, 1, none⟩ = some (.int .i64 ((rd_T98 l0_4 x18_2).f1)) ∧ w'.cell? ⟨gb548, 2, none⟩ = some (.int .i64 ((rd_T98 l0_4 x18_2).f2)) ∧ w'.cell? ⟨gb543, 0, none⟩ = some (.int .i64 a0_0) ∧ w'.cell? ⟨gb543, 1, none⟩ = some (.int .i64 a0_1) ∧ w'.cell? ⟨gb543, 2, none⟩ = some (.int .i64 a0_2) ∧ w'.cell? ⟨gb543, 3, none⟩ = some (.slice A0_3 l0_3.length c0_3) ∧ w'.cell? ⟨gb543, 4, none⟩ = some (.slice (some ad547) l0_4.length c0_4)) (ds := [7]) q77_0 (by kernel_rfl) rfl rfl ⟨(blk_cell BK548.out 0).trans rfl, (blk_cell BK548.out 1).trans rfl, (blk_cell BK548.out 2).trans rfl, (blk_cell BK543.out 0).trans rfl, (blk_cell BK543.out 1).trans rfl, (blk_cell BK543.out 2).trans rfl, (blk_cell BK543.out 3).trans rfl, (blk_cell BK543.out 4).trans rfl⟩ (fun hHeld => ?_); refine with_tabW impl_Dispatcher_ends.tab9 impl_Dispatcher_ends.bits9 (fun HT_ HW_ => ?_)
     generalize w18.drew = w19 at HO_3 BK543 BK548 HB hHeld ⊢
     refine pup_ (i := 0) (N := some 22) HT_ rfl rfl (by kernel_rfl) (fun _ _ _ h => h) (Or.inl ⟨by rfl, by intro w'; go_simp; with_reducible rfl⟩) (by simp only [aq_]; rfl) ?_
     refine pup_ (i := 1) (N := some 23) HT_ rfl rfl (by kernel_rfl) (fun _ _ _ h => h) (Or.inl ⟨by rfl, by intro w'; go_simp; with_reducible rfl⟩) (by simp only [aq_]; rfl) ?_
     refine take_ (i := 2) (N := some 24) (v := ?_) (a' := ?_) q77_3 rfl rfl (take_ofW HT_.out HW_.out (by kernel_rfl)) (fun _ _ _ h => h) (Or.inl ⟨by rfl, ?_⟩) hHeld ?_ ?_
     rotate_left
     ·rintro w' ⟨s0, s1, s2, s3, s4, s5, s6, s7⟩
      go_simp
      with_reducible rfl
     rotate_left
     ·simp only [aq_]
      rfl
     refine take_ (i := 3) (N := some 25) (v := ?_) (a' := ?_) q77_4 rfl rfl (take_ofW HT_.out HW_.out (by kernel_rfl)) (fun _ _ _ h => h) (Or.inl ⟨by rfl, ?_⟩) hHeld ?_ ?_
     rotate_left
     ·rintro w' ⟨s0, s1, s2, s3, s4, s5, s6, s7⟩
      go_simp
      with_reducible rfl
     rotate_left
     ·simp only [aq_]
      rfl
     refine take_ (i := 4) (N := some 26) (v := ?_) (a' := ?_) q77_5 rfl rfl (take_ofW HT_.out HW_.out (by kernel_rfl)) (fun _ _ _ h => h) (Or.inl ⟨by rfl, ?_⟩) hHeld ?_ ?_
     rotate_left
     ·rintro w' ⟨s0, s1, s2, s3, s4, s5, s6, s7⟩
      go_simp
      with_reducible rfl
     rotate_left
     ·simp only [aq_]
      rfl
     refine one_ (i := 5) (N := some 27) q77_6 rfl rfl (one_of HT_.out (by kernel_rfl)) (by decide) (fun K hK => ?_)
     refine goes_ Try.func96 (by kernel_rfl) rfl #[.agg #[.int .i64 a0_0, .int .i64 a0_1, .int .i64 a0_2, .slice A0_3 l0_3.length c0_3, .slice (some ad547) l0_4.length c0_4], .agg #[.int .i64 ((rd_T98 l0_4 x18_2).f0), .int .i64 ((rd_T98 l0_4 x18_2).f1), .int .i64 ((rd_T98 l0_4 x18_2).f2)]] (by rfl) rfl rfl (by (try simp only [mA_]); first | done | rfl | (simp only [List.length_drop, List.length_take]; rfl)) ?_
     with_reducible refine (impl_Dispatcher_endOf.calls a0_0 a0_1 a0_2 _ _ l0_3 _ _ l0_4 ((rd_T98 l0_4 x18_2).f0) ((rd_T98 l0_4 x18_2).f1) ((rd_T98 l0_4 x18_2).f2) t549 _ ?side1 ?side2 ?side3 ?side4 A11.out).mono ?_
     (case side1 => first | exact bC HR0_3.out HB.out | exact Kd.C_below HR0_3.out HB.out)
     (case side2 => exact HC0_3.out)
     (case side3 => first | exact bC HR0_4.out HB.out | exact Kd.C_below HR0_4.out HB.out)
     (case side4 => exact HC0_4.out)
     rintro e w20 ⟨rfl, hb⟩
     refine ⟨_, rfl, ?_⟩
     have n0_ := Aside0.mk (Kd.R_below (bR HO_3.out) hb)
     have n1_ := Aside0.mk (blk_below (bs BK543.out) hb)
     have n2_ := Aside0.mk (blk_below (bs BK548.out) hb)
     have n3_ := Aside0.mk (below_step (by repeat (first | (with_reducible first | exact bw HB.out | refine bset ?_ | apply bA | apply bN | apply bD) | exact HB.out)) hb)
     replace HO_3 := n0_
     replace BK543 := n1_
     replace BK548 := n2_
     replace HB := n3_
     clear n0_ n1_ n2_ n3_
     (try clear hb)
     (try clear hb2)
     (try clear hk)
     (try clear hi)
     have p14 : 0 ≤ (((rd_T98 l0_4 x18_2).f0) : Int) := of_decide_eq_true (by first | (with_reducible assumption) | assumption)
     have q14 : (((rd_T98 l0_4 x18_2).f0) : Int) < ((x3_2.length : Int) : Int) := of_decide_eq_true (by first | (with_reducible assumption) | assumption)
     obtain ⟨go14, co14, eo14, gb14, gl14, cl14, HG14⟩ := Kd.R_form HO_3.out (by omega)
     (first | cases eo14 | (injection eo14 with ea_ en_ ec_; (first | subst ea_ | (injection ea_ with ea_; subst ea_)); subst ec_; clear en_))
     have GB14 := Aside0.mk gb14
     have GG14 := Aside0.mk HG14
     clear gb14 gl14 HG14
     obtain ⟨hx14_0, hf14_0⟩ := Kd.R_celln 0 HO_3.out (((rd_T98 l0_4 x18_2).f0) : Int) p14 q14
     replace p14 := eq_true p14
     replace q14 := eq_true q14
     have HP21 := Kd.R_putn HO_3.out (((rd_T98 l0_4 x18_2).f0) : Int) t549
     rw [← Ny550.out] at HP21
     have HQ21 := Aside0.mk HP21
     clear HP21
     refine hK.out _ _ ⟨(blk_cell BK548.out 0).trans rfl, (blk_cell BK548.out 1).trans rfl, (blk_cell BK548.out 2).trans rfl, (blk_cell BK543.out 0).trans rfl, (blk_cell BK543.out 1).trans rfl, (blk_cell BK543.out 2).trans rfl, (blk_cell BK543.out 3).trans rfl, (blk_cell BK543.out 4).trans rfl⟩ (fun hHeld => ?_)
     clear hK K
     refine norm_ (a' := ?_) ?_ ?_
     rotate_left
     ·show Act.put _ (some 27) _ = _
      simp only [aq_]
      rfl
     refine pup_ (i := 6) (N := some 28) HT_ rfl rfl (by kernel_rfl) (fun _ _ _ h => h) (Or.inl ⟨by rfl, by intro w'; go_simp; with_reducible rfl⟩) (by simp only [aq_]; rfl) ?_
     refine last_ (i := 7) (N := none) q77_8 rfl rfl (one_of HT_.out (by kernel_rfl)) (by decide) (fun K hK => ?_)
     refine skip_ (w1 := ?_) (by rfl) rfl ?_ ?_
     rotate_left
     ·go_simp
      rfl
     refine hK.out _ _ ?_
     clear hK K
     refine done_ (done_of HT_.out (by kernel_rfl)) ?_
     try go_wp2
     go_roundg k2
     case measure => have := HK1.out; have := HK2.out; omega
     case rel => exact ⟨(y550), (wrap64 (x18_2 + 1)), (by first | rfl | (simp; done) | (simp [*]; done)), H', ⟨by have := HK1.out; have := HK2.out; omega⟩, ⟨bR HQ21.out⟩, ⟨by (with_reducible repeat (first | refine blk_drewN ?_ _ | refine blk_drew ?_ | refine blk_alloc ?_ _)); refine blk_far ?_ (by have h_ := Kd.R_ne HO_3.out BK543.out (by decide); intro e_; exact h_ (by rw [e_]; rfl)) _; exact bs BK543.out⟩, ⟨by repeat (first | (with_reducible first | exact HB.out | apply below_alloc | apply pw_below_drewN | apply below_drew1 | refine below_set ?_ GB14.out | refine below_set ?_ GE543.out | refine below_set ?_ GE548.out) | exact HB.out)⟩⟩

end Go.Proofs.Ytoagdnojoodloaa.X
