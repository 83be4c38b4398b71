-- Written by a program of this session (wip/gen/xp.py, over the kit's printer). Not trusted: Lean checks it.
import Derived.Test.YtafdeppeacmpdaaX0
import Derived.Test.YtafdeppeacmpdaaXf76
import Derived.Test.YtafdeppeacmpdaaXf85
namespace Go.Proofs.Ytafdeppeacmpdaa.X
open Go.RowKit Go.Proofs.YtafdeppeacmpdaaW.PrintWords Go.Proofs.YtafdeppeacmpdaaW.PrintLast Go.Proofs.YtafdeppeacmpdaaW.PrintMore
attribute [local go_sem] max2_int min2_int max_two min_two max_three min_three max_four min_four   -- for this text's walks alone
set_option linter.unusedVariables false
set_option linter.unusedSimpArgs false

/-! ### impl_IsDispatcher: function 77 -/
abbrev q77_0 : Array Bool := ⟨rl_ [31] false⟩
abbrev q77_3 : Array Bool := ⟨rl_ [3, 28] true⟩
abbrev q77_4 : Array Bool := ⟨rl_ [4, 27] true⟩
abbrev q77_6 : Array Bool := ⟨rl_ [6, 25] true⟩
abbrev q77_11 : Array Bool := ⟨rl_ [11, 20] true⟩
abbrev q77_12 : Array Bool := ⟨rl_ [12, 19] true⟩
abbrev q77_13 : Array Bool := ⟨rl_ [13, 18] true⟩
abbrev q77_21 : Array Bool := ⟨rl_ [19, 1, 1, 4, 1, 5] true⟩
abbrev q77_22 : Array Bool := ⟨rl_ [21, 4, 1, 5] true⟩
abbrev q77_23 : Array Bool := ⟨rl_ [22, 3, 1, 5] true⟩
abbrev q77_26 : Array Bool := ⟨rl_ [26, 5] true⟩
abbrev q77_27 : Array Bool := ⟨rl_ [27, 4] true⟩
abbrev q77_29 : Array Bool := ⟨rl_ [29, 2] true⟩
abbrev q77_41 : Array Bool := ⟨rl_ [38] false⟩
abbrev q77_49 : Array Bool := ⟨rl_ [7, 3, 1, 27] true⟩
abbrev q77_52 : Array Bool := ⟨rl_ [11, 27] true⟩
abbrev q77_53 : Array Bool := ⟨rl_ [12, 26] true⟩
abbrev q77_63 : Array Bool := ⟨rl_ [22, 16] true⟩
abbrev q77_64 : Array Bool := ⟨rl_ [23, 15] true⟩
abbrev q77_74 : Array Bool := ⟨rl_ [33, 5] true⟩
abbrev q77_75 : Array Bool := ⟨rl_ [34, 4] true⟩
abbrev q77_83 : Array Bool := ⟨rl_ [18, 3, 1, 16] true⟩
abbrev q77_89 : Array Bool := ⟨rl_ [29, 3, 1, 5] true⟩
abbrev q77_98 : Array Bool := ⟨rl_ [20] false⟩
abbrev q77_101 : Array Bool := ⟨rl_ [3, 17] true⟩
abbrev q77_102 : Array Bool := ⟨rl_ [4, 16] true⟩
abbrev q77_107 : Array Bool := ⟨rl_ [9, 11] true⟩
abbrev q77_108 : Array Bool := ⟨rl_ [10, 10] true⟩
abbrev q77_115 : Array Bool := ⟨rl_ [17, 3] true⟩
abbrev q77_121 : Array Bool := ⟨rl_ [13, 2, 1, 4] true⟩
abbrev q77_122 : Array Bool := ⟨rl_ [14, 1, 1, 4] true⟩
abbrev q77_123 : Array Bool := ⟨rl_ [14, 1, 2, 3] true⟩
mutual
def impl_IsDispatcher.j0 : Nat → Bool → Int → Int → Int → List (S137) → List (S135) → Option (Bool)
 | 0, _, _, _, _, _, _ => none
 | k + 1, x28, x142000, x142001, x142002, x142003, x142004 => if x28 = true then (some false) else (impl_IsDispatcher.l0 k x142004 (x142004.length : Int) 0 x142000 x142001 x142002 x142003 x142004)
def impl_IsDispatcher.l0 : Nat → List (S135) → Int → Int → Int → Int → Int → List (S137) → List (S135) → Option (Bool)
 | 0, _, _, _, _, _, _, _, _ => none
 | k + 1, x30, x31, x32, x142000, x142001, x142002, x142003, x142004 => if x32 < x31 then (if 0 ≤ x32 then (if x32 < (x30.length : Int) then ((impl_isNumber.f ((rd_T135 x30 x32).f0) (x142003.length : Int)).bind fun t148 => (if t148 = true then ((impl_isNumber.f ((rd_T135 x30 x32).f1) x142000).bind fun t149 => (if t149 = true then (if 0 ≤ ((rd_T135 x30 x32).f0) then (if ((rd_T135 x30 x32).f0) < (x142003.length : Int) then ((impl_within.f ((rd_T135 x30 x32).f2) ((rd_T137 x142003 ((rd_T135 x30 x32).f0)).f2) (wrap64 (x142002 - 1))).bind fun t151 => (impl_IsDispatcher.j2 k x32 x30 x31 x32 (!t151) x142000 x142001 x142002 x142003 x142004 ((rd_T135 x30 x32).f0) ((rd_T135 x30 x32).f1) ((rd_T135 x30 x32).f2))) else (none)) else (none)) else (impl_IsDispatcher.j2 k x32 x30 x31 x32 true x142000 x142001 x142002 x142003 x142004 ((rd_T135 x30 x32).f0) ((rd_T135 x30 x32).f1) ((rd_T135 x30 x32).f2)))) else (impl_IsDispatcher.j2 k x32 x30 x31 x32 true x142000 x142001 x142002 x142003 x142004 ((rd_T135 x30 x32).f0) ((rd_T135 x30 x32).f1) ((rd_T135 x30 x32).f2)))) else (none)) else (none)) else (some true)
def impl_IsDispatcher.j2 : Nat → Int → List (S135) → Int → Int → Bool → Int → Int → Int → List (S137) → List (S135) → Int → Int → Int → Option (Bool)
 | 0, _, _, _, _, _, _, _, _, _, _, _, _, _ => none
 | k + 1, x3, x30, x31, x32, x67, x142000, x142001, x142002, x142003, x142004, x148000, x148001, x148002 => if x67 = true then (some false) else (if x3 > 0 then (if 0 ≤ (wrap64 (x3 - 1)) then (if (wrap64 (x3 - 1)) < (x142004.length : Int) then (if ((rd_T135 x142004 (wrap64 (x3 - 1))).f2) > x148002 then (impl_IsDispatcher.j3 k x3 x30 x31 x32 true x142000 x142001 x142002 x142003 x142004 x148000 x148001 x148002) else (if ((rd_T135 x142004 (wrap64 (x3 - 1))).f2) = x148002 then (impl_IsDispatcher.j3 k x3 x30 x31 x32 (decide (((rd_T135 x142004 (wrap64 (x3 - 1))).f1) ≥ x148001)) x142000 x142001 x142002 x142003 x142004 x148000 x148001 x148002) else (impl_IsDispatcher.j3 k x3 x30 x31 x32 false x142000 x142001 x142002 x142003 x142004 x148000 x148001 x148002))) else (none)) else (none)) else (impl_IsDispatcher.j3 k x3 x30 x31 x32 false x142000 x142001 x142002 x142003 x142004 x148000 x148001 x148002))
def impl_IsDispatcher.j3 : Nat → Int → List (S135) → Int → Int → Bool → Int → Int → Int → List (S137) → List (S135) → Int → Int → Int → Option (Bool)
 | 0, _, _, _, _, _, _, _, _, _, _, _, _, _ => none
 | k + 1, x3, x30, x31, x32, x105, x142000, x142001, x142002, x142003, x142004, x148000, x148001, x148002 => if x105 = true then (some false) else (if 0 ≤ x3 then (if x3 ≤ (x142004.length : Int) then ((some (x142004.take (x3 : Int).toNat : List (S135))).bind fun y155 => (impl_IsDispatcher.l1 k x30 x31 x32 y155 (y155.length : Int) 0 x142000 x142001 x142002 x142003 x142004 x148000 x148001 x148002)) else (none)) else (none))
def impl_IsDispatcher.l1 : Nat → List (S135) → Int → Int → List (S135) → Int → Int → Int → Int → Int → List (S137) → List (S135) → Int → Int → Int → Option (Bool)
 | 0, _, _, _, _, _, _, _, _, _, _, _, _, _, _ => none
 | k + 1, x30, x31, x32, x109, x110, x111, x142000, x142001, x142002, x142003, x142004, x148000, x148001, x148002 => if x111 < x110 then (if 0 ≤ x111 then (if x111 < (x109.length : Int) then (if ((rd_T135 x109 x111).f0) = x148000 then (some false) else (if ((rd_T135 x109 x111).f1) = x148001 then ((impl_Dispatcher_endOf.f x142000 x142001 x142002 x142003 x142004 ((rd_T135 x109 x111).f0) ((rd_T135 x109 x111).f1) ((rd_T135 x109 x111).f2)).bind fun t161 => (if t161 > x148002 then (some false) else (impl_IsDispatcher.l1 k x30 x31 x32 x109 x110 (wrap64 (x111 + 1)) x142000 x142001 x142002 x142003 x142004 x148000 x148001 x148002))) else (impl_IsDispatcher.l1 k x30 x31 x32 x109 x110 (wrap64 (x111 + 1)) x142000 x142001 x142002 x142003 x142004 x148000 x148001 x148002))) else (none)) else (none)) else (impl_IsDispatcher.l0 k x30 x31 (wrap64 (x32 + 1)) x142000 x142001 x142002 x142003 x142004)
end
def impl_IsDispatcher.f (k : Nat) (a0_0 : Int) (a0_1 : Int) (a0_2 : Int) (l0_3 : List (S137)) (l0_4 : List (S135)) : Option (Bool) := (impl_within.f a0_0 1 4).bind fun t142 => (if t142 = true then ((impl_within.f a0_1 1 4).bind fun t143 => (if t143 = true then ((impl_within.f a0_2 0 1000).bind fun t144 => (if t144 = true then ((impl_IsJobs.f k l0_3).bind fun t145 => (impl_IsDispatcher.j0 k (!t145) a0_0 a0_1 a0_2 l0_3 l0_4)) else (impl_IsDispatcher.j0 k true a0_0 a0_1 a0_2 l0_3 l0_4))) else (impl_IsDispatcher.j0 k true a0_0 a0_1 a0_2 l0_3 l0_4))) else (impl_IsDispatcher.j0 k true a0_0 a0_1 a0_2 l0_3 l0_4))
theorem impl_IsDispatcher.mono_l : ∀ k, (∀ y0 y1 y2 y3 y4 y5, LeO (impl_IsDispatcher.j0 k y0 y1 y2 y3 y4 y5) (impl_IsDispatcher.j0 (k + 1) y0 y1 y2 y3 y4 y5)) ∧ (∀ y0 y1 y2 y3 y4 y5 y6 y7, LeO (impl_IsDispatcher.l0 k y0 y1 y2 y3 y4 y5 y6 y7) (impl_IsDispatcher.l0 (k + 1) y0 y1 y2 y3 y4 y5 y6 y7)) ∧ (∀ y0 y1 y2 y3 y4 y5 y6 y7 y8 y9 y10 y11 y12, LeO (impl_IsDispatcher.j2 k y0 y1 y2 y3 y4 y5 y6 y7 y8 y9 y10 y11 y12) (impl_IsDispatcher.j2 (k + 1) y0 y1 y2 y3 y4 y5 y6 y7 y8 y9 y10 y11 y12)) ∧ (∀ y0 y1 y2 y3 y4 y5 y6 y7 y8 y9 y10 y11 y12, LeO (impl_IsDispatcher.j3 k y0 y1 y2 y3 y4 y5 y6 y7 y8 y9 y10 y11 y12) (impl_IsDispatcher.j3 (k + 1) y0 y1 y2 y3 y4 y5 y6 y7 y8 y9 y10 y11 y12)) ∧ (∀ y0 y1 y2 y3 y4 y5 y6 y7 y8 y9 y10 y11 y12 y13, LeO (impl_IsDispatcher.l1 k y0 y1 y2 y3 y4 y5 y6 y7 y8 y9 y10 y11 y12 y13) (impl_IsDispatcher.l1 (k + 1) y0 y1 y2 y3 y4 y5 y6 y7 y8 y9 y10 y11 y12 y13))
 | 0 => ⟨fun _ _ _ _ _ _ r h => by simp [impl_IsDispatcher.j0] at h, fun _ _ _ _ _ _ _ _ r h => by simp [impl_IsDispatcher.l0] at h, fun _ _ _ _ _ _ _ _ _ _ _ _ _ r h => by simp [impl_IsDispatcher.j2] at h, fun _ _ _ _ _ _ _ _ _ _ _ _ _ r h => by simp [impl_IsDispatcher.j3] at h, fun _ _ _ _ _ _ _ _ _ _ _ _ _ _ r h => by simp [impl_IsDispatcher.l1] at h⟩
 | k + 1 => by
  obtain ⟨ih0, ih1, ih2, ih3, ih4⟩ := impl_IsDispatcher.mono_l k
  refine ⟨?_, ?_, ?_, ?_, ?_⟩
  ·intro y0 y1 y2 y3 y4 y5
   unfold impl_IsDispatcher.j0
   repeat' first
   | (with_reducible exact ih0 _ _ _ _ _ _)
   | (with_reducible exact ih1 _ _ _ _ _ _ _ _)
   | (with_reducible exact ih2 _ _ _ _ _ _ _ _ _ _ _ _ _)
   | (with_reducible exact ih3 _ _ _ _ _ _ _ _ _ _ _ _ _)
   | (with_reducible exact ih4 _ _ _ _ _ _ _ _ _ _ _ _ _ _)
   | (with_reducible exact impl_IsJobs.mono _ _)
   | (with_reducible exact LeO.refl _)
   | (with_reducible exact LeO.none _)
   | (with_reducible refine LeO.ite ?_ ?_)
   | (with_reducible refine LeO.bind ?_ (fun _ => ?_))
   | exact ih0 _ _ _ _ _ _
   | exact ih1 _ _ _ _ _ _ _ _
   | exact ih2 _ _ _ _ _ _ _ _ _ _ _ _ _
   | exact ih3 _ _ _ _ _ _ _ _ _ _ _ _ _
   | exact ih4 _ _ _ _ _ _ _ _ _ _ _ _ _ _
   | exact impl_IsJobs.mono _ _
   | exact LeO.none _
   | refine LeO.ite ?_ ?_
   | refine LeO.bind ?_ (fun _ => ?_)
  ·intro y0 y1 y2 y3 y4 y5 y6 y7
   unfold impl_IsDispatcher.l0
   repeat' first
   | (with_reducible exact ih0 _ _ _ _ _ _)
   | (with_reducible exact ih1 _ _ _ _ _ _ _ _)
   | (with_reducible exact ih2 _ _ _ _ _ _ _ _ _ _ _ _ _)
   | (with_reducible exact ih3 _ _ _ _ _ _ _ _ _ _ _ _ _)
   | (with_reducible exact ih4 _ _ _ _ _ _ _ _ _ _ _ _ _ _)
   | (with_reducible exact impl_IsJobs.mono _ _)
   | (with_reducible exact LeO.refl _)
   | (with_reducible exact LeO.none _)
   | (with_reducible refine LeO.ite ?_ ?_)
   | (with_reducible refine LeO.bind ?_ (fun _ => ?_))
   | exact ih0 _ _ _ _ _ _
   | exact ih1 _ _ _ _ _ _ _ _
   | exact ih2 _ _ _ _ _ _ _ _ _ _ _ _ _
   | exact ih3 _ _ _ _ _ _ _ _ _ _ _ _ _
   | exact ih4 _ _ _ _ _ _ _ _ _ _ _ _ _ _
   | exact impl_IsJobs.mono _ _
   | exact LeO.none _
   | refine LeO.ite ?_ ?_
   | refine LeO.bind ?_ (fun _ => ?_)
  ·intro y0 y1 y2 y3 y4 y5 y6 y7 y8 y9 y10 y11 y12
   unfold impl_IsDispatcher.j2
   repeat' first
   | (with_reducible exact ih0 _ _ _ _ _ _)
   | (with_reducible exact ih1 _ _ _ _ _ _ _ _)
   | (with_reducible exact ih2 _ _ _ _ _ _ _ _ _ _ _ _ _)
   | (with_reducible exact ih3 _ _ _ _ _ _ _ _ _ _ _ _ _)
   | (with_reducible exact ih4 _ _ _ _ _ _ _ _ _ _ _ _ _ _)
   | (with_reducible exact impl_IsJobs.mono _ _)
   | (with_reducible exact LeO.refl _)
   | (with_reducible exact LeO.none _)
   | (with_reducible refine LeO.ite ?_ ?_)
   | (with_reducible refine LeO.bind ?_ (fun _ => ?_))
   | exact ih0 _ _ _ _ _ _
   | exact ih1 _ _ _ _ _ _ _ _
   | exact ih2 _ _ _ _ _ _ _ _ _ _ _ _ _
   | exact ih3 _ _ _ _ _ _ _ _ _ _ _ _ _
   | exact ih4 _ _ _ _ _ _ _ _ _ _ _ _ _ _
   | exact impl_IsJobs.mono _ _
   | exact LeO.none _
   | refine LeO.ite ?_ ?_
   | refine LeO.bind ?_ (fun _ => ?_)
  ·intro y0 y1 y2 y3 y4 y5 y6 y7 y8 y9 y10 y11 y12
   unfold impl_IsDispatcher.j3
   repeat' first
   | (with_reducible exact ih0 _ _ _ _ _ _)
   | (with_reducible exact ih1 _ _ _ _ _ _ _ _)
   | (with_reducible exact ih2 _ _ _ _ _ _ _ _ _ _ _ _ _)
   | (with_reducible exact ih3 _ _ _ _ _ _ _ _ _ _ _ _ _)
   | (with_reducible exact ih4 _ _ _ _ _ _ _ _ _ _ _ _ _ _)
   | (with_reducible exact impl_IsJobs.mono _ _)
   | (with_reducible exact LeO.refl _)
   | (with_reducible exact LeO.none _)
   | (with_reducible refine LeO.ite ?_ ?_)
   | (with_reducible refine LeO.bind ?_ (fun _ => ?_))
   | exact ih0 _ _ _ _ _ _
   | exact ih1 _ _ _ _ _ _ _ _
   | exact ih2 _ _ _ _ _ _ _ _ _ _ _ _ _
   | exact ih3 _ _ _ _ _ _ _ _ _ _ _ _ _
   | exact ih4 _ _ _ _ _ _ _ _ _ _ _ _ _ _
   | exact impl_IsJobs.mono _ _
   | exact LeO.none _
   | refine LeO.ite ?_ ?_
   | refine LeO.bind ?_ (fun _ => ?_)
  ·intro y0 y1 y2 y3 y4 y5 y6 y7 y8 y9 y10 y11 y12 y13
   unfold impl_IsDispatcher.l1
   repeat' first
   | (with_reducible exact ih0 _ _ _ _ _ _)
   | (with_reducible exact ih1 _ _ _ _ _ _ _ _)
   | (with_reducible exact ih2 _ _ _ _ _ _ _ _ _ _ _ _ _)
   | (with_reducible exact ih3 _ _ _ _ _ _ _ _ _ _ _ _ _)
   | (with_reducible exact ih4 _ _ _ _ _ _ _ _ _ _ _ _ _ _)
   | (with_reducible exact impl_IsJobs.mono _ _)
   | (with_reducible exact LeO.refl _)
   | (with_reducible exact LeO.none _)
   | (with_reducible refine LeO.ite ?_ ?_)
   | (with_reducible refine LeO.bind ?_ (fun _ => ?_))
   | exact ih0 _ _ _ _ _ _
   | exact ih1 _ _ _ _ _ _ _ _
   | exact ih2 _ _ _ _ _ _ _ _ _ _ _ _ _
   | exact ih3 _ _ _ _ _ _ _ _ _ _ _ _ _
   | exact ih4 _ _ _ _ _ _ _ _ _ _ _ _ _ _
   | exact impl_IsJobs.mono _ _
   | exact LeO.none _
   | refine LeO.ite ?_ ?_
   | refine LeO.bind ?_ (fun _ => ?_)
theorem impl_IsDispatcher.mono : ∀ a0 a1 a2 a3 a4 k, LeO (impl_IsDispatcher.f k a0 a1 a2 a3 a4) (impl_IsDispatcher.f (k + 1) a0 a1 a2 a3 a4) := by
 intro a0 a1 a2 a3 a4 k
 obtain ⟨ih0, ih1, ih2, ih3, ih4⟩ := impl_IsDispatcher.mono_l k
 unfold impl_IsDispatcher.f
 repeat' first
   | (with_reducible exact ih0 _ _ _ _ _ _)
   | (with_reducible exact ih1 _ _ _ _ _ _ _ _)
   | (with_reducible exact ih2 _ _ _ _ _ _ _ _ _ _ _ _ _)
   | (with_reducible exact ih3 _ _ _ _ _ _ _ _ _ _ _ _ _)
   | (with_reducible exact ih4 _ _ _ _ _ _ _ _ _ _ _ _ _ _)
   | (with_reducible exact impl_IsJobs.mono _ _)
   | (with_reducible exact LeO.refl _)
   | (with_reducible exact LeO.none _)
   | (with_reducible refine LeO.ite ?_ ?_)
   | (with_reducible refine LeO.bind ?_ (fun _ => ?_))
   | exact ih0 _ _ _ _ _ _
   | exact ih1 _ _ _ _ _ _ _ _
   | exact ih2 _ _ _ _ _ _ _ _ _ _ _ _ _
   | exact ih3 _ _ _ _ _ _ _ _ _ _ _ _ _
   | exact ih4 _ _ _ _ _ _ _ _ _ _ _ _ _ _
   | exact impl_IsJobs.mono _ _
   | exact LeO.none _
   | refine LeO.ite ?_ ?_
   | refine LeO.bind ?_ (fun _ => ?_)
def impl_IsDispatcher.T6 : Bool × List (List Nat × List Nat) := (true, [([], []), ([0], [0]), ([], []), ([2], [2]), ([3], [3]), ([1, 4], [1, 4]), ([5], [5]), ([6, 5], [6]), ([7], [7]), ([8, 7], [7, 8]), ([7], [7]), ([10, 7], [7, 10]), ([9, 11, 7, 7], [7, 9, 11]), ([12, 7], [7, 12]), ([7, 13], [7, 13]), ([14, 12], [14]), ([15], [15]), ([16, 15], [15, 16]), ([15], [15]), ([18, 15], [15, 18]), ([15], [15]), ([20, 15], [15, 20]), ([19, 21, 15], [15, 19, 21]), ([22, 15], [15, 22]), ([23, 15], [15, 23]), ([15], [15]), ([25, 15], [15, 25]), ([26, 15], [15, 26]), ([17, 24, 27, 15, 15], [15, 17, 24, 27]), ([28, 15], [15, 28]), ([15, 29], [15, 29])])
def impl_IsDispatcher.B6 : List Nat := [0, 1, 0, 4, 12, 31, 63, 127, 255, 511, 255, 1279, 4095, 8191, 16383, 32767, 65535, 131071, 65535, 327679, 65535, 1114111, 3997695, 8191999, 16580607, 65535, 33619967, 100728831, 268435455, 536870911, 1073741823]
theorem impl_IsDispatcher.tab6 : rtab .any (opsOf Try.f77 6) = impl_IsDispatcher.T6 := by kernel_rfl
theorem impl_IsDispatcher.bits6 : waitsOk impl_IsDispatcher.T6.2 impl_IsDispatcher.B6 = true := by kernel_rfl
def impl_IsDispatcher.T8 : Bool × List (List Nat × List Nat) := (true, [([], []), ([0], [0]), ([1], [1]), ([2], [2]), ([3, 2], [2, 3]), ([2], [2]), ([5, 2], [2, 5]), ([4, 6, 2], [2, 4, 6]), ([7, 2], [2, 7]), ([8, 2], [2, 8]), ([2], [2]), ([10, 2], [2, 10]), ([9, 11, 2], [2, 9, 11]), ([12, 2, 2], [2, 12]), ([13], [13]), ([14, 13], [13, 14]), ([13], [13]), ([16, 13], [13, 16]), ([15, 17, 13], [13, 15, 17]), ([18, 13], [13, 18]), ([19, 13], [13, 19]), ([13], [13]), ([21, 13], [13, 21]), ([20, 22, 13], [13, 20, 22]), ([23, 13, 13], [13, 23]), ([24], [24]), ([25, 24], [24, 25]), ([24], [24]), ([27, 24], [24, 27]), ([26, 28, 24], [24, 26, 28]), ([29, 24], [24, 29]), ([30, 24], [24, 30]), ([24], [24]), ([32, 24], [24, 32]), ([31, 33, 24], [24, 31, 33]), ([24, 34, 13], [13, 24, 34]), ([13, 35, 2], [2, 13, 35]), ([2, 36], [2, 36])])
def impl_IsDispatcher.B8 : List Nat := [0, 1, 3, 7, 15, 7, 39, 127, 255, 511, 7, 1031, 4095, 8191, 16383, 32767, 16383, 81919, 262143, 524287, 1048575, 16383, 2113535, 8388607, 16777215, 33554431, 67108863, 33554431, 167772159, 536870911, 1073741823, 2147483647, 33554431, 4328521727, 17179869183, 34359738367, 68719476735, 137438953471]
theorem impl_IsDispatcher.tab8 : rtab .any (opsOf Try.f77 8) = impl_IsDispatcher.T8 := by kernel_rfl
theorem impl_IsDispatcher.bits8 : waitsOk impl_IsDispatcher.T8.2 impl_IsDispatcher.B8 = true := by kernel_rfl
def impl_IsDispatcher.T13 : Bool × List (List Nat × List Nat) := (true, [([], []), ([0], [0]), ([], []), ([2], [2]), ([1, 3], [1, 3]), ([4], [4]), ([5], [5]), ([6, 5], [5, 6]), ([5], [5]), ([8, 5], [5, 8]), ([7, 9, 5], [5, 7, 9]), ([10, 5, 5], [5, 10]), ([11], [11]), ([11], [11]), ([12, 13, 11, 11], [11, 12, 13]), ([11], [11]), ([15, 11], [11, 15]), ([14, 16, 11], [11, 14, 16]), ([11, 17, 5], [5, 11, 17]), ([5, 18], [5, 18])])
def impl_IsDispatcher.B13 : List Nat := [0, 1, 0, 4, 15, 31, 63, 127, 63, 319, 1023, 2047, 4095, 4095, 16383, 4095, 36863, 131071, 262143, 524287]
theorem impl_IsDispatcher.tab13 : rtab .any (opsOf Try.f77 13) = impl_IsDispatcher.T13 := by kernel_rfl
theorem impl_IsDispatcher.bits13 : waitsOk impl_IsDispatcher.T13.2 impl_IsDispatcher.B13 = true := by kernel_rfl
set_option maxHeartbeats 8000000 in
set_option maxRecDepth 100000 in
theorem impl_IsDispatcher.calls (k : Nat) (a0_0 : Int) (a0_1 : Int) (a0_2 : Int) (A0_3 : Option Addr) (c0_3 : Nat) (l0_3 : List (S137)) (A0_4 : Option Addr) (c0_4 : Nat) (l0_4 : List (S135)) (r : Bool) (w : World) (hr0_3 : Kd.C k137 w A0_3 l0_3.length l0_3) (hc0_3 : l0_3.length ≤ c0_3) (hr0_4 : Kd.C k135 w A0_4 l0_4.length l0_4) (hc0_4 : l0_4.length ≤ c0_4) (h : impl_IsDispatcher.f k a0_0 a0_1 a0_2 l0_3 l0_4 = some r) :
  Calls Try.prog 77 #[.agg #[.int .i64 a0_0, .int .i64 a0_1, .int .i64 a0_2, .slice A0_3 l0_3.length c0_3, .slice A0_4 l0_4.length c0_4]] w fun e w' => e = .returned (.bool r) ∧ Below w.heap.size w w' := by
 have hu25 := Try.underlying25
 have hu135 := Try.underlying135
 have HR0_3 := Aside0.mk hr0_3
 have HC0_3 := Aside0.mk hc0_3
 clear hr0_3 hc0_3
 have HR0_4 := Aside0.mk hr0_4
 have HC0_4 := Aside0.mk hc0_4
 clear hr0_4 hc0_4
 have HB := Aside0.mk (Below.refl w.heap.size w)
 have H : ((impl_within.f a0_0 1 4).bind fun t142 => (if t142 = true then ((impl_within.f a0_1 1 4).bind fun t143 => (if t143 = true then ((impl_within.f a0_2 0 1000).bind fun t144 => (if t144 = true then ((impl_IsJobs.f k l0_3).bind fun t145 => (impl_IsDispatcher.j0 k (!t145) a0_0 a0_1 a0_2 l0_3 l0_4)) else (impl_IsDispatcher.j0 k true a0_0 a0_1 a0_2 l0_3 l0_4))) else (impl_IsDispatcher.j0 k true a0_0 a0_1 a0_2 l0_3 l0_4))) else (impl_IsDispatcher.j0 k true a0_0 a0_1 a0_2 l0_3 l0_4))) = some r := h
 clear h
 have HC2 := Aside0.mk H
 clear H
 go_enter Try.func77, Try.ntmps77
 go_upto_region 1 with (first | ((with_reducible refine gate_dst (N := 1) rfl ?_); refine box_event ?hg (N := 1) ?hd (cs := #[.int .i64 a0_0, .int .i64 a0_1, .int .i64 a0_2, .slice A0_3 l0_3.length c0_3, .slice A0_4 l0_4.length c0_4]) (t := 25) ?hr ?_; (case hd => rfl); (case hg => rfl); (case hr => first | (go_simp; done) | (go_simp; rfl)); intro gb141 hg w3 hbox hb; have n0_ := Aside0.mk (below_step (bw HB.out) hb); have n1_ := Aside0.mk (hbox); have n2_ := ge_ hg HB.out; have n3_ := ge_ hg HB.out; replace HB := n0_; have BK141 := n1_; have GW141 := n2_; have GE141 := n3_; clear n0_ n1_ n2_ n3_; clear hb hbox hg))
 (try simp only [Act.put, List.setIfInBounds_toArray, List.set_cons_zero, List.set_cons_succ])
 go_cut [28] (fun v28 wc => ∃ (kq : Nat) (x28_1 : Bool), v28 = .bool x28_1 ∧ Aside0 (impl_IsDispatcher.j0 kq x28_1 a0_0 a0_1 a0_2 l0_3 l0_4 = some r) ∧ Aside0 (kq ≤ k) ∧ Aside0 (wc.heap[gb141]? = some (.cells #[.int .i64 a0_0, .int .i64 a0_1, .int .i64 a0_2, (.slice A0_3 l0_3.length c0_3), (.slice A0_4 l0_4.length c0_4)] 25 (0, 0))) ∧ Aside0 (Below w.heap.size w wc))
 case first =>
  have H := HC2.out
  clear HC2
  replace H := Option.bind_eq_some_iff.mp H
  obtain ⟨t142, A40, H⟩ := H
  replace H : (if t142 = true then ((impl_within.f a0_1 1 4).bind fun t143 => (if t143 = true then ((impl_within.f a0_2 0 1000).bind fun t144 => (if t144 = true then ((impl_IsJobs.f k l0_3).bind fun t145 => (impl_IsDispatcher.j0 k (!t145) a0_0 a0_1 a0_2 l0_3 l0_4)) else (impl_IsDispatcher.j0 k true a0_0 a0_1 a0_2 l0_3 l0_4))) else (impl_IsDispatcher.j0 k true a0_0 a0_1 a0_2 l0_3 l0_4))) else (impl_IsDispatcher.j0 k true a0_0 a0_1 a0_2 l0_3 l0_4)) = some r := H
  have A4 := Aside0.mk A40
  clear A40
  by_cases c5 : t142 = true
  rotate_left
  ·replace c5 := Bool.eq_false_iff.mpr c5
   subst c5
   have H1 : (impl_IsDispatcher.j0 k true a0_0 a0_1 a0_2 l0_3 l0_4) = some r := by rw [if_neg (show ¬ (false = true) by decide)] at H; exact H
   clear H
   have H := H1
   clear H1
   have H' := Aside0.mk H
   clear H
   obtain ⟨hcz15_0, hcz15_1, hcz15_2, hcz15_3, hcz15_4, hfz15_0, hfz15_1, hfz15_2, hfz15_3, hfz15_4⟩ := bz5 BK141.out
   go_wp2_with (first | ((with_reducible refine gate_callee (f := 86) rfl ?_); refine goesL_ (some 9) rfl rfl Try.func86 (by kernel_rfl) rfl #[.int .i64 a0_0, .int .i64 1, .int .i64 4] rfl (by (try simp only [mA_]); first | done | rfl | (simp only [List.length_drop, List.length_take]; rfl)) ?_; (with_reducible refine (impl_within.calls a0_0 1 4 false _ A4.out).mono ?_); rintro e w' ⟨rfl, ⟨nd, rfl⟩⟩; refine ⟨_, rfl, ?_⟩))
   go_meet
   case rel => exact ⟨_, (true), (by first | rfl | (simp; done) | (simp [*]; done)), H', ⟨by first | omega | exact Nat.le_refl _⟩, ⟨bs BK141.out⟩, ⟨by repeat (first | (with_reducible first | exact bw HB.out | refine bset ?_ | apply bA | apply bN | apply bD) | exact HB.out)⟩⟩
  subst c5
  have H1 : ((impl_within.f a0_1 1 4).bind fun t143 => (if t143 = true then ((impl_within.f a0_2 0 1000).bind fun t144 => (if t144 = true then ((impl_IsJobs.f k l0_3).bind fun t145 => (impl_IsDispatcher.j0 k (!t145) a0_0 a0_1 a0_2 l0_3 l0_4)) else (impl_IsDispatcher.j0 k true a0_0 a0_1 a0_2 l0_3 l0_4))) else (impl_IsDispatcher.j0 k true a0_0 a0_1 a0_2 l0_3 l0_4))) = some r := by rw [if_pos rfl] at H; exact H
  clear H
  have H := H1
  clear H1
  replace H := Option.bind_eq_some_iff.mp H
  obtain ⟨t143, A60, H⟩ := H
  replace H : (if t143 = true then ((impl_within.f a0_2 0 1000).bind fun t144 => (if t144 = true then ((impl_IsJobs.f k l0_3).bind fun t145 => (impl_IsDispatcher.j0 k (!t145) a0_0 a0_1 a0_2 l0_3 l0_4)) else (impl_IsDispatcher.j0 k true a0_0 a0_1 a0_2 l0_3 l0_4))) else (impl_IsDispatcher.j0 k true a0_0 a0_1 a0_2 l0_3 l0_4)) = some r := H
  have A6 := Aside0.mk A60
  clear A60
  by_cases c7 : t143 = true
  rotate_left
  ·replace c7 := Bool.eq_false_iff.mpr c7
   subst c7
   have H1 : (impl_IsDispatcher.j0 k true a0_0 a0_1 a0_2 l0_3 l0_4) = some r := by rw [if_neg (show ¬ (false = true) by decide)] at H; exact H
   clear H
   have H := H1
   clear H1
   have H' := Aside0.mk H
   clear H
   obtain ⟨hcz14_0, hcz14_1, hcz14_2, hcz14_3, hcz14_4, hfz14_0, hfz14_1, hfz14_2, hfz14_3, hfz14_4⟩ := bz5 BK141.out
   go_wp2_with (first | ((with_reducible refine gate_callee (f := 86) rfl ?_); refine goesL_ (some 9) rfl rfl Try.func86 (by kernel_rfl) rfl #[.int .i64 a0_0, .int .i64 1, .int .i64 4] rfl (by (try simp only [mA_]); first | done | rfl | (simp only [List.length_drop, List.length_take]; rfl)) ?_; (with_reducible refine (impl_within.calls a0_0 1 4 true _ A4.out).mono ?_); rintro e w' ⟨rfl, ⟨nd, rfl⟩⟩; refine ⟨_, rfl, ?_⟩) | (go_at_call 86; (with_reducible refine (impl_within.calls a0_1 1 4 false _ A6.out).mono ?_); rintro e w' ⟨rfl, ⟨nd, rfl⟩⟩))
   go_meet
   case rel => exact ⟨_, (true), (by first | rfl | (simp; done) | (simp [*]; done)), H', ⟨by first | omega | exact Nat.le_refl _⟩, ⟨bs BK141.out⟩, ⟨by repeat (first | (with_reducible first | exact bw HB.out | refine bset ?_ | apply bA | apply bN | apply bD) | exact HB.out)⟩⟩
  subst c7
  have H1 : ((impl_within.f a0_2 0 1000).bind fun t144 => (if t144 = true then ((impl_IsJobs.f k l0_3).bind fun t145 => (impl_IsDispatcher.j0 k (!t145) a0_0 a0_1 a0_2 l0_3 l0_4)) else (impl_IsDispatcher.j0 k true a0_0 a0_1 a0_2 l0_3 l0_4))) = some r := by rw [if_pos rfl] at H; exact H
  clear H
  have H := H1
  clear H1
  replace H := Option.bind_eq_some_iff.mp H
  obtain ⟨t144, A80, H⟩ := H
  replace H : (if t144 = true then ((impl_IsJobs.f k l0_3).bind fun t145 => (impl_IsDispatcher.j0 k (!t145) a0_0 a0_1 a0_2 l0_3 l0_4)) else (impl_IsDispatcher.j0 k true a0_0 a0_1 a0_2 l0_3 l0_4)) = some r := H
  have A8 := Aside0.mk A80
  clear A80
  by_cases c9 : t144 = true
  rotate_left
  ·replace c9 := Bool.eq_false_iff.mpr c9
   subst c9
   have H1 : (impl_IsDispatcher.j0 k true a0_0 a0_1 a0_2 l0_3 l0_4) = some r := by rw [if_neg (show ¬ (false = true) by decide)] at H; exact H
   clear H
   have H := H1
   clear H1
   have H' := Aside0.mk H
   clear H
   obtain ⟨hcz13_0, hcz13_1, hcz13_2, hcz13_3, hcz13_4, hfz13_0, hfz13_1, hfz13_2, hfz13_3, hfz13_4⟩ := bz5 BK141.out
   go_wp2_with (first | ((with_reducible refine gate_callee (f := 86) rfl ?_); refine goesL_ (some 9) rfl rfl Try.func86 (by kernel_rfl) rfl #[.int .i64 a0_0, .int .i64 1, .int .i64 4] rfl (by (try simp only [mA_]); first | done | rfl | (simp only [List.length_drop, List.length_take]; rfl)) ?_; (with_reducible refine (impl_within.calls a0_0 1 4 true _ A4.out).mono ?_); rintro e w' ⟨rfl, ⟨nd, rfl⟩⟩; refine ⟨_, rfl, ?_⟩) | (go_at_call 86; (with_reducible refine (impl_within.calls a0_1 1 4 true _ A6.out).mono ?_); rintro e w' ⟨rfl, ⟨nd, rfl⟩⟩) | (go_at_call 86; (with_reducible refine (impl_within.calls a0_2 0 1000 false _ A8.out).mono ?_); rintro e w' ⟨rfl, ⟨nd, rfl⟩⟩))
   go_meet
   case rel => exact ⟨_, (true), (by first | rfl | (simp; done) | (simp [*]; done)), H', ⟨by first | omega | exact Nat.le_refl _⟩, ⟨bs BK141.out⟩, ⟨by repeat (first | (with_reducible first | exact bw HB.out | refine bset ?_ | apply bA | apply bN | apply bD) | exact HB.out)⟩⟩
  subst c9
  have H1 : ((impl_IsJobs.f k l0_3).bind fun t145 => (impl_IsDispatcher.j0 k (!t145) a0_0 a0_1 a0_2 l0_3 l0_4)) = some r := by rw [if_pos rfl] at H; exact H
  clear H
  have H := H1
  clear H1
  replace H := Option.bind_eq_some_iff.mp H
  obtain ⟨t145, A100, H⟩ := H
  replace H : (impl_IsDispatcher.j0 k (!t145) a0_0 a0_1 a0_2 l0_3 l0_4) = some r := H
  have A10 := Aside0.mk A100
  clear A100
  have H' := Aside0.mk H
  clear H
  obtain ⟨hcz11_0, hcz11_1, hcz11_2, hcz11_3, hcz11_4, hfz11_0, hfz11_1, hfz11_2, hfz11_3, hfz11_4⟩ := bz5 BK141.out
  go_wp2_with (first | ((with_reducible refine gate_callee (f := 86) rfl ?_); refine goesL_ (some 9) rfl rfl Try.func86 (by kernel_rfl) rfl #[.int .i64 a0_0, .int .i64 1, .int .i64 4] rfl (by (try simp only [mA_]); first | done | rfl | (simp only [List.length_drop, List.length_take]; rfl)) ?_; (with_reducible refine (impl_within.calls a0_0 1 4 true _ A4.out).mono ?_); rintro e w' ⟨rfl, ⟨nd, rfl⟩⟩; refine ⟨_, rfl, ?_⟩) | (go_at_call 86; (with_reducible refine (impl_within.calls a0_1 1 4 true _ A6.out).mono ?_); rintro e w' ⟨rfl, ⟨nd, rfl⟩⟩) | (go_at_call 86; (with_reducible refine (impl_within.calls a0_2 0 1000 true _ A8.out).mono ?_); rintro e w' ⟨rfl, ⟨nd, rfl⟩⟩) | (go_at_call 122; (with_reducible refine (impl_IsJobs.calls k _ _ l0_3 t145 _ ?side1 ?side2 A10.out).mono ?_); (case side1 => repeat (first | exact (Kd.C_below HR0_3.out (by repeat (first | (with_reducible first | exact bw HB.out | refine bset ?_ | apply bA | apply bN | apply bD) | exact HB.out))) | (with_reducible refine Kd.C_alloc ?_ _) | (with_reducible refine Kd.C_drewN ?_ _) | (with_reducible refine Kd.C_drew ?_))); (case side2 => exact HC0_3.out); rintro e w12 ⟨rfl, hb⟩; have n0_ := Aside0.mk (blk_below (bs BK141.out) hb); have n1_ := Aside0.mk (below_step (by repeat (first | (with_reducible first | exact bw HB.out | refine bset ?_ | apply bA | apply bN | apply bD) | exact HB.out)) hb); replace BK141 := n0_; replace HB := n1_; clear n0_ n1_; (try clear hb); (try clear hb2); (try clear hk); (try clear hi)))
  go_meet
  case rel => exact ⟨_, (!t145), (by first | rfl | (simp; done) | (simp [*]; done)), H', ⟨by first | omega | exact Nat.le_refl _⟩, ⟨bs BK141.out⟩, ⟨by repeat (first | (with_reducible first | exact bw HB.out | refine bset ?_ | apply bA | apply bN | apply bD) | exact HB.out)⟩⟩
 case rest =>
  clear HC2
  try clear p2
  try clear c5
  try clear c7
  try clear c8
  try clear c9
  try clear hcz11_0
  try clear hcz11_1
  try clear hcz11_2
  try clear hcz11_3
  try clear hcz11_4
  try clear hcz13_0
  try clear hcz13_1
  try clear hcz13_2
  try clear hcz13_3
  try clear hcz13_4
  try clear hcz14_0
  try clear hcz14_1
  try clear hcz14_2
  try clear hcz14_3
  try clear hcz14_4
  try clear hcz15_0
  try clear hcz15_1
  try clear hcz15_2
  try clear hcz15_3
  try clear hcz15_4
  try clear hfz11_0
  try clear hfz11_1
  try clear hfz11_2
  try clear hfz11_3
  try clear hfz11_4
  try clear hfz13_0
  try clear hfz13_1
  try clear hfz13_2
  try clear hfz13_3
  try clear hfz13_4
  try clear hfz14_0
  try clear hfz14_1
  try clear hfz14_2
  try clear hfz14_3
  try clear hfz14_4
  try clear hfz15_0
  try clear hfz15_1
  try clear hfz15_2
  try clear hfz15_3
  try clear hfz15_4
  obtain ⟨kq, x28_1, rfl, HA, HJ1, BK141, HB⟩ := hcut
  cases kq with
  | zero => exact absurd HA.out (by simp [impl_IsDispatcher.j0])
  | succ kj1 =>
   have H := HA.out
   clear HA
   simp only [impl_IsDispatcher.j0] at H
   by_cases c16 : x28_1 = true
   ·subst c16
    have H1 : (some false) = some r := by rw [if_pos rfl] at H; exact H
    clear H
    have H := H1
    clear H1
    obtain rfl := Option.some.inj H
    go_wp2
    go_ret
    exact ⟨by first | rfl | (simp [errW_none, errW_some] <;> rfl) | (simp [*, errW_none, errW_some] <;> rfl), by repeat (first | (with_reducible first | exact bw HB.out | refine bset ?_ | apply bA | apply bN | apply bD) | exact HB.out)⟩
   replace c16 := Bool.eq_false_iff.mpr c16
   subst c16
   have H1 : (impl_IsDispatcher.l0 kj1 l0_4 (l0_4.length : Int) 0 a0_0 a0_1 a0_2 l0_3 l0_4) = some r := by rw [if_neg (show ¬ (false = true) by decide)] at H; exact H
   clear H
   have H := H1
   clear H1
   have H' := Aside0.mk H
   clear H
   obtain ⟨hcz17_0, hcz17_1, hcz17_2, hcz17_3, hcz17_4, hfz17_0, hfz17_1, hfz17_2, hfz17_3, hfz17_4⟩ := bz5 BK141.out
   go_wp2
   go_loopg [32] kj1 (fun kq v32 w' => ∃ (x32_2 : Int), v32 = .int .i64 x32_2 ∧ Aside0 (impl_IsDispatcher.l0 kq l0_4 (l0_4.length : Int) x32_2 a0_0 a0_1 a0_2 l0_3 l0_4 = some r) ∧ Aside0 (kq ≤ kj1) ∧ Aside0 (w'.heap[gb141]? = some (.cells #[.int .i64 a0_0, .int .i64 a0_1, .int .i64 a0_2, (.slice A0_3 l0_3.length c0_3), (.slice A0_4 l0_4.length c0_4)] 25 (0, 0))) ∧ Aside0 (Below w.heap.size w w'))
   case atStart => exact ⟨(0), (by first | rfl | (simp; done) | (simp [*]; done)), H', ⟨Nat.le_refl _⟩, ⟨bs BK141.out⟩, ⟨by repeat (first | (with_reducible first | exact bw HB.out | refine bset ?_ | apply bA | apply bN | apply bD) | exact HB.out)⟩⟩
   case round =>
    clear H'
    try clear c1
    try clear p2
    try clear c5
    try clear c7
    try clear c8
    try clear c9
    try clear c16
    try clear hcz11_0
    try clear hcz11_1
    try clear hcz11_2
    try clear hcz11_3
    try clear hcz11_4
    try clear hcz13_0
    try clear hcz13_1
    try clear hcz13_2
    try clear hcz13_3
    try clear hcz13_4
    try clear hcz14_0
    try clear hcz14_1
    try clear hcz14_2
    try clear hcz14_3
    try clear hcz14_4
    try clear hcz15_0
    try clear hcz15_1
    try clear hcz15_2
    try clear hcz15_3
    try clear hcz15_4
    try clear hcz17_0
    try clear hcz17_1
    try clear hcz17_2
    try clear hcz17_3
    try clear hcz17_4
    try clear hfz11_0
    try clear hfz11_1
    try clear hfz11_2
    try clear hfz11_3
    try clear hfz11_4
    try clear hfz13_0
    try clear hfz13_1
    try clear hfz13_2
    try clear hfz13_3
    try clear hfz13_4
    try clear hfz14_0
    try clear hfz14_1
    try clear hfz14_2
    try clear hfz14_3
    try clear hfz14_4
    try clear hfz15_0
    try clear hfz15_1
    try clear hfz15_2
    try clear hfz15_3
    try clear hfz15_4
    try clear hfz17_0
    try clear hfz17_1
    try clear hfz17_2
    try clear hfz17_3
    try clear hfz17_4
    try clear p2
    obtain ⟨x32_2, rfl, HA, HK2, BK141, HB⟩ := hrel
    cases gk with
    | zero => exact absurd HA.out (by simp [impl_IsDispatcher.l0])
    | succ k2 =>
     have H := HA.out
     clear HA
     simp only [impl_IsDispatcher.l0] at H
     by_cases c18 : x32_2 < (l0_4.length : Int)
     rotate_left
     ·rw [if_neg c18] at H
      have c18b0 : decide (x32_2 < (l0_4.length : Int)) = false := decide_eq_false c18
      clear c18
      obtain rfl := Option.some.inj H
      go_wp2
      go_ret
      exact ⟨by first | rfl | (simp [errW_none, errW_some] <;> rfl) | (simp [*, errW_none, errW_some] <;> rfl), by repeat (first | (with_reducible first | exact bw HB.out | refine bset ?_ | apply bA | apply bN | apply bD) | exact HB.out)⟩
     rw [if_pos c18] at H
     have c18b0 : decide (x32_2 < (l0_4.length : Int)) = true := decide_eq_true c18
     clear c18
     by_cases c19 : 0 ≤ x32_2
     rotate_left
     ·rw [if_neg c19] at H
      exact absurd H (by simp)
     rw [if_pos c19] at H
     have c19b0 : decide (0 ≤ x32_2) = true := decide_eq_true c19
     clear c19
     by_cases c20 : x32_2 < (l0_4.length : Int)
     rotate_left
     ·rw [if_neg c20] at H
      exact absurd H (by simp)
     rw [if_pos c20] at H
     have c20b0 : decide (x32_2 < (l0_4.length : Int)) = true := decide_eq_true c20
     clear c20
     have HC21 := Aside0.mk H
     clear H
     have p146 : 0 ≤ (x32_2 : Int) := of_decide_eq_true (by first | (with_reducible assumption) | assumption)
     have q146 : x32_2 < (l0_4.length : Int) := of_decide_eq_true (by first | (with_reducible assumption) | assumption)
     obtain ⟨ad146, e146, hx146_0, hx146_1, hx146_2⟩ := at_T135 HR0_4.out x32_2 p146 q146
     cases e146
     replace hx146_0 := (HB.out.cell (World.block_lt_of_cell? w _ hx146_0)).trans hx146_0
     replace hx146_1 := (HB.out.cell (World.block_lt_of_cell? w _ hx146_1)).trans hx146_1
     replace hx146_2 := (HB.out.cell (World.block_lt_of_cell? w _ hx146_2)).trans hx146_2
     replace p146 := eq_true p146
     replace q146 := eq_true q146
     go_upto_region 6 with (first | ((with_reducible refine gate_dst (N := 4) rfl ?_); refine box_event ?hg (N := 4) ?hd (cs := #[.int .i64 0, .int .i64 0, .int .i64 0]) (t := 135) ?hr ?_; (case hd => rfl); (case hg => rfl); (case hr => first | (go_simp; done) | (go_simp; rfl)); intro gb147 hg w22 hbox hb; have n0_ := Aside0.mk (blk_below (bs BK141.out) hb); have n1_ := Aside0.mk (below_step (by repeat (first | (with_reducible first | exact bw HB.out | refine bset ?_ | apply bA | apply bN | apply bD) | exact HB.out)) hb); have n2_ := Aside0.mk (hbox); have n3_ := Aside0.mk ((by rw [hg]; exact (below_size (by repeat (first | (with_reducible first | exact bw HB.out | refine bset ?_ | apply bA | apply bN | apply bD) | exact HB.out))) : w.heap.size ≤ gb147)); have n4_ := Aside0.mk ((by rw [hg]; exact (below_size (by repeat (first | (with_reducible first | exact bw HB.out | refine bset ?_ | apply bA | apply bN | apply bD) | exact HB.out))) : w.heap.size ≤ gb147)); have n5_ := ne_ hg BK141.out; have n6_ := en_ hg BK141.out; replace BK141 := n0_; replace HB := n1_; have BK147 := n2_; have GW147 := n3_; have GE147 := n4_; have NB141_147 := n5_; have NB147_141 := n6_; clear n0_ n1_ n2_ n3_ n4_ n5_ n6_; clear hb hbox hg; have hnb23 := NB147_141.out; have hnc23 := NB141_147.out; obtain ⟨hcz24_0, hcz24_1, hcz24_2, hfz24_0, hfz24_1, hfz24_2⟩ := bz3 BK147.out))
     (try simp only [Act.put, List.setIfInBounds_toArray, List.set_cons_zero, List.set_cons_succ])
     go_cut [67] (fun v67 wc => ∃ (kq : Nat) (x67_20 : Bool), v67 = .bool x67_20 ∧ Aside0 (impl_IsDispatcher.j2 kq x32_2 l0_4 (l0_4.length : Int) x32_2 x67_20 a0_0 a0_1 a0_2 l0_3 l0_4 ((rd_T135 l0_4 x32_2).f0) ((rd_T135 l0_4 x32_2).f1) ((rd_T135 l0_4 x32_2).f2) = some r) ∧ Aside0 (kq ≤ k2) ∧ Aside0 (wc.heap[gb141]? = some (.cells #[.int .i64 a0_0, .int .i64 a0_1, .int .i64 a0_2, (.slice A0_3 l0_3.length c0_3), (.slice (some ad146) l0_4.length c0_4)] 25 (0, 0))) ∧ Aside0 (wc.heap[gb147]? = some (.cells #[.int .i64 ((rd_T135 l0_4 x32_2).f0), .int .i64 ((rd_T135 l0_4 x32_2).f1), .int .i64 ((rd_T135 l0_4 x32_2).f2)] 135 (0, 0))) ∧ Aside0 (Below w.heap.size w wc))
     case first =>
      have H := HC21.out
      clear HC21
      replace H := Option.bind_eq_some_iff.mp H
      obtain ⟨t148, A250, H⟩ := H
      replace H : (if t148 = true then ((impl_isNumber.f ((rd_T135 l0_4 x32_2).f1) a0_0).bind fun t149 => (if t149 = true then (if 0 ≤ ((rd_T135 l0_4 x32_2).f0) then (if ((rd_T135 l0_4 x32_2).f0) < (l0_3.length : Int) then ((impl_within.f ((rd_T135 l0_4 x32_2).f2) ((rd_T137 l0_3 ((rd_T135 l0_4 x32_2).f0)).f2) (wrap64 (a0_2 - 1))).bind fun t151 => (impl_IsDispatcher.j2 k2 x32_2 l0_4 (l0_4.length : Int) x32_2 (!t151) a0_0 a0_1 a0_2 l0_3 l0_4 ((rd_T135 l0_4 x32_2).f0) ((rd_T135 l0_4 x32_2).f1) ((rd_T135 l0_4 x32_2).f2))) else (none)) else (none)) else (impl_IsDispatcher.j2 k2 x32_2 l0_4 (l0_4.length : Int) x32_2 true a0_0 a0_1 a0_2 l0_3 l0_4 ((rd_T135 l0_4 x32_2).f0) ((rd_T135 l0_4 x32_2).f1) ((rd_T135 l0_4 x32_2).f2)))) else (impl_IsDispatcher.j2 k2 x32_2 l0_4 (l0_4.length : Int) x32_2 true a0_0 a0_1 a0_2 l0_3 l0_4 ((rd_T135 l0_4 x32_2).f0) ((rd_T135 l0_4 x32_2).f1) ((rd_T135 l0_4 x32_2).f2))) = some r := H
      have A25 := Aside0.mk A250
      clear A250
      by_cases c26 : t148 = true
      rotate_left
      ·replace c26 := Bool.eq_false_iff.mpr c26
       subst c26
       have H1 : (impl_IsDispatcher.j2 k2 x32_2 l0_4 (l0_4.length : Int) x32_2 true a0_0 a0_1 a0_2 l0_3 l0_4 ((rd_T135 l0_4 x32_2).f0) ((rd_T135 l0_4 x32_2).f1) ((rd_T135 l0_4 x32_2).f2)) = some r := by rw [if_neg (show ¬ (false = true) by decide)] at H; exact H
       clear H
       have H := H1
       clear H1
       have H' := Aside0.mk H
       clear H
       try go_wp2
       have n0_ : Aside0 ((((w22.setCell ⟨gb147, 0, none⟩ (.int .i64 ((rd_T135 l0_4 x32_2).f0))).setCell ⟨gb147, 1, none⟩ (.int .i64 ((rd_T135 l0_4 x32_2).f1))).setCell ⟨gb147, 2, none⟩ (.int .i64 ((rd_T135 l0_4 x32_2).f2))).heap[gb141]? = some (.cells #[.int .i64 a0_0, .int .i64 a0_1, .int .i64 a0_2, .slice A0_3 l0_3.length c0_3, .slice (some ad146) l0_4.length c0_4] 25 (0, 0))) := ⟨by (with_reducible repeat (first | refine blk_drewN ?_ _ | refine blk_drew ?_ | refine blk_alloc ?_ _)); refine blk_far ?_ NB141_147.out _; (with_reducible repeat (first | refine blk_drewN ?_ _ | refine blk_drew ?_ | refine blk_alloc ?_ _)); refine blk_far ?_ NB141_147.out _; (with_reducible repeat (first | refine blk_drewN ?_ _ | refine blk_drew ?_ | refine blk_alloc ?_ _)); refine blk_far ?_ NB141_147.out _; exact bs BK141.out⟩
       have n1_ : Aside0 ((((w22.setCell ⟨gb147, 0, none⟩ (.int .i64 ((rd_T135 l0_4 x32_2).f0))).setCell ⟨gb147, 1, none⟩ (.int .i64 ((rd_T135 l0_4 x32_2).f1))).setCell ⟨gb147, 2, none⟩ (.int .i64 ((rd_T135 l0_4 x32_2).f2))).heap[gb147]? = some (.cells #[.int .i64 ((rd_T135 l0_4 x32_2).f0), .int .i64 ((rd_T135 l0_4 x32_2).f1), .int .i64 ((rd_T135 l0_4 x32_2).f2)] 135 (0, 0))) := ⟨by (with_reducible repeat (first | refine blk_drewN ?_ _ | refine blk_drew ?_ | refine blk_alloc ?_ _)); refine blk_put (cs := #[.int .i64 ((rd_T135 l0_4 x32_2).f0), .int .i64 ((rd_T135 l0_4 x32_2).f1), .int .i64 0]) ?_ 2 _ rfl; (with_reducible repeat (first | refine blk_drewN ?_ _ | refine blk_drew ?_ | refine blk_alloc ?_ _)); refine blk_put (cs := #[.int .i64 ((rd_T135 l0_4 x32_2).f0), .int .i64 0, .int .i64 0]) ?_ 1 _ rfl; (with_reducible repeat (first | refine blk_drewN ?_ _ | refine blk_drew ?_ | refine blk_alloc ?_ _)); refine blk_put (cs := #[.int .i64 0, .int .i64 0, .int .i64 0]) ?_ 0 _ rfl; exact bs BK147.out⟩
       have n2_ : Aside0 (Below w.heap.size w (((w22.setCell ⟨gb147, 0, none⟩ (.int .i64 ((rd_T135 l0_4 x32_2).f0))).setCell ⟨gb147, 1, none⟩ (.int .i64 ((rd_T135 l0_4 x32_2).f1))).setCell ⟨gb147, 2, none⟩ (.int .i64 ((rd_T135 l0_4 x32_2).f2)))) := ⟨by repeat (first | (with_reducible first | exact bw HB.out | refine bset ?_ | apply bA | apply bN | apply bD) | exact HB.out)⟩
       (try clear BK141)
       (try clear BK147)
       (try clear HB)
       (try simp only [setCell_drewN])
       generalize (((w22.setCell ⟨gb147, 0, none⟩ (.int .i64 ((rd_T135 l0_4 x32_2).f0))).setCell ⟨gb147, 1, none⟩ (.int .i64 ((rd_T135 l0_4 x32_2).f1))).setCell ⟨gb147, 2, none⟩ (.int .i64 ((rd_T135 l0_4 x32_2).f2))) = w36 at n0_ n1_ n2_ ⊢
       have BK141 := n0_
       have BK147 := n1_
       have HB := n2_
       clear n0_ n1_ n2_
       have n0_ := Aside0.mk (blk_drew BK141.out)
       have n1_ := Aside0.mk (blk_drew BK147.out)
       have n2_ := Aside0.mk (below_drew1 HB.out)
       replace BK141 := n0_
       replace BK147 := n1_
       replace HB := n2_
       clear n0_ n1_ n2_
       refine start_ (n := 31) (S := fun w' => w'.cell? ⟨gb147, 0, none⟩ = some (.int .i64 ((rd_T135 l0_4 x32_2).f0)) ∧ w'.cell? ⟨gb147, 1, none⟩ = some (.int .i64 ((rd_T135 l0_4 x32_2).f1)) ∧ w'.cell? ⟨gb147, 2, none⟩ = some (.int .i64 ((rd_T135 l0_4 x32_2).f2)) ∧ w'.cell? ⟨gb141, 0, none⟩ = some (.int .i64 a0_0) ∧ w'.cell? ⟨gb141, 1, none⟩ = some (.int .i64 a0_1) ∧ w'.cell? ⟨gb141, 2, none⟩ = some (.int .i64 a0_2) ∧ w'.cell? ⟨gb141, 3, none⟩ = some (.slice A0_3 l0_3.length c0_3) ∧ w'.cell? ⟨gb141, 4, none⟩ = some (.slice (some ad146) l0_4.length c0_4)) (ds := []) q77_0 (by kernel_rfl) rfl rfl ⟨(blk_cell BK147.out 0).trans rfl, (blk_cell BK147.out 1).trans rfl, (blk_cell BK147.out 2).trans rfl, (blk_cell BK141.out 0).trans rfl, (blk_cell BK141.out 1).trans rfl, (blk_cell BK141.out 2).trans rfl, (blk_cell BK141.out 3).trans rfl, (blk_cell BK141.out 4).trans rfl⟩ (fun hHeld => ?_); refine with_tabW impl_IsDispatcher.tab6 impl_IsDispatcher.bits6 (fun HT_ HW_ => ?_)
       generalize w36.drew = w37 at BK141 BK147 HB hHeld ⊢
       refine pup_ (i := 0) (N := some 37) HT_ rfl rfl (by kernel_rfl) (fun _ _ _ h => h) (Or.inl ⟨by rfl, by intro w'; go_simp; with_reducible rfl⟩) (by simp only [aq_]; rfl) ?_
       refine pup_ (i := 2) (N := some 39) HT_ rfl rfl (by kernel_rfl) (fun _ _ _ h => h) (Or.inl ⟨by rfl, by intro w'; go_simp; with_reducible rfl⟩) (by simp only [aq_]; rfl) ?_
       refine take_ (i := 1) (N := some 38) (v := ?_) (a' := ?_) q77_3 rfl rfl (take_ofW HT_.out HW_.out (by kernel_rfl)) (fun _ _ _ h => h) (Or.inl ⟨by rfl, ?_⟩) hHeld ?_ ?_
       rotate_left
       ·rintro w' ⟨s0, s1, s2, s3, s4, s5, s6, s7⟩
        go_simp
        with_reducible rfl
       rotate_left
       ·simp only [aq_]
        rfl
       refine take_ (i := 3) (N := some 40) (v := ?_) (a' := ?_) q77_4 rfl rfl (take_ofW HT_.out HW_.out (by kernel_rfl)) (fun _ _ _ h => h) (Or.inl ⟨by rfl, ?_⟩) hHeld ?_ ?_
       rotate_left
       ·rintro w' ⟨s0, s1, s2, s3, s4, s5, s6, s7⟩
        go_simp
        with_reducible rfl
       rotate_left
       ·simp only [aq_]
        rfl
       refine pup_ (i := 4) (N := some 41) HT_ rfl rfl (by kernel_rfl) (fun _ _ _ h => h) (Or.inl ⟨by rfl, by intro w'; go_simp; with_reducible rfl⟩) (by simp only [aq_]; rfl) ?_
       refine one_ (i := 5) (N := some 42) q77_6 rfl rfl (one_of HT_.out (by kernel_rfl)) (by decide) (fun K hK => ?_)
       refine goes_ Try.func123 (by kernel_rfl) rfl #[.int .i64 ((rd_T135 l0_4 x32_2).f0), .int .i64 (l0_3.length : Int)] (by rfl) rfl rfl (by (try simp only [mA_]); first | done | rfl | (simp only [List.length_drop, List.length_take]; rfl)) ?_
       with_reducible refine (impl_isNumber.calls ((rd_T135 l0_4 x32_2).f0) (l0_3.length : Int) false _ A25.out).mono ?_
       rintro e w' ⟨rfl, ⟨nd, rfl⟩⟩
       refine ⟨_, rfl, ?_⟩
       refine hK.out _ _ ⟨(blk_cell BK147.out 0).trans rfl, (blk_cell BK147.out 1).trans rfl, (blk_cell BK147.out 2).trans rfl, (blk_cell BK141.out 0).trans rfl, (blk_cell BK141.out 1).trans rfl, (blk_cell BK141.out 2).trans rfl, (blk_cell BK141.out 3).trans rfl, (blk_cell BK141.out 4).trans rfl⟩ (fun hHeld => ?_)
       clear hK K
       refine norm_ (a' := ?_) ?_ ?_
       rotate_left
       ·show Act.put _ (some 42) _ = _
        simp only [aq_]
        rfl
       refine pup_ (i := 6) (N := some 43) HT_ rfl rfl (by kernel_rfl) (fun _ _ _ h => h) (Or.inl ⟨by rfl, by intro w'; go_simp; with_reducible rfl⟩) (by simp only [aq_]; rfl) ?_
       refine pup_ (i := 7) (N := some 44) HT_ rfl rfl (by kernel_rfl) (fun _ _ _ h => h) (Or.inl ⟨by rfl, by intro w'; go_simp; with_reducible rfl⟩) (by simp only [aq_]; rfl) ?_
       refine skp_ HT_ 8 (some 45) rfl rfl (by kernel_rfl) (fun _ _ _ h => h) (by rfl) (by simp only [aq_]; rfl) ?_
       refine skp_ HT_ 9 (some 46) rfl rfl (by kernel_rfl) (fun _ _ _ h => h) (by rfl) (by simp only [aq_]; rfl) ?_
       refine skp_ HT_ 10 (some 47) rfl rfl (by kernel_rfl) (fun _ _ _ h => h) (by rfl) (by simp only [aq_]; rfl) ?_
       refine skp_ HT_ 11 (some 48) rfl rfl (by kernel_rfl) (fun _ _ _ h => h) (by rfl) (by simp only [aq_]; rfl) ?_
       refine skp_ HT_ 12 (some 49) rfl rfl (by kernel_rfl) (fun _ _ _ h => h) (by rfl) (by simp only [aq_]; rfl) ?_
       refine skp_ HT_ 13 (some 50) rfl rfl (by kernel_rfl) (fun _ _ _ h => h) (by rfl) (by simp only [aq_]; rfl) ?_
       refine pup_ (i := 14) (N := some 51) HT_ rfl rfl (by kernel_rfl) (fun _ _ _ h => h) (Or.inl ⟨by rfl, by intro w'; go_simp; with_reducible rfl⟩) (by simp only [aq_]; rfl) ?_
       refine pup_ (i := 15) (N := some 52) HT_ rfl rfl (by kernel_rfl) (fun _ _ _ h => h) (Or.inl ⟨by rfl, by intro w'; go_simp; with_reducible rfl⟩) (by simp only [aq_]; rfl) ?_
       refine skp_ HT_ 16 (some 53) rfl rfl (by kernel_rfl) (fun _ _ _ h => h) (by rfl) (by simp only [aq_]; rfl) ?_
       refine skp_ HT_ 17 (some 54) rfl rfl (by kernel_rfl) (fun _ _ _ h => h) (by rfl) (by simp only [aq_]; rfl) ?_
       refine skp_ HT_ 18 (some 55) rfl rfl (by kernel_rfl) (fun _ _ _ h => h) (by rfl) (by simp only [aq_]; rfl) ?_
       refine skp_ HT_ 19 (some 56) rfl rfl (by kernel_rfl) (fun _ _ _ h => h) (by rfl) (by simp only [aq_]; rfl) ?_
       refine skp_ HT_ 20 (some 57) rfl rfl (by kernel_rfl) (fun _ _ _ h => h) (by rfl) (by simp only [aq_]; rfl) ?_
       refine skp_ HT_ 21 (some 58) rfl rfl (by kernel_rfl) (fun _ _ _ h => h) (by rfl) (by simp only [aq_]; rfl) ?_
       refine skp_ HT_ 22 (some 59) rfl rfl (by kernel_rfl) (fun _ _ _ h => h) (by rfl) (by simp only [aq_]; rfl) ?_
       refine skp_ HT_ 23 (some 60) rfl rfl (by kernel_rfl) (fun _ _ _ h => h) (by rfl) (by simp only [aq_]; rfl) ?_
       refine skp_ HT_ 24 (some 61) rfl rfl (by kernel_rfl) (fun _ _ _ h => h) (by rfl) (by simp only [aq_]; rfl) ?_
       refine skp_ HT_ 25 (some 62) rfl rfl (by kernel_rfl) (fun _ _ _ h => h) (by rfl) (by simp only [aq_]; rfl) ?_
       refine skp_ HT_ 26 (some 63) rfl rfl (by kernel_rfl) (fun _ _ _ h => h) (by rfl) (by simp only [aq_]; rfl) ?_
       refine skp_ HT_ 27 (some 64) rfl rfl (by kernel_rfl) (fun _ _ _ h => h) (by rfl) (by simp only [aq_]; rfl) ?_
       refine skp_ HT_ 28 (some 65) rfl rfl (by kernel_rfl) (fun _ _ _ h => h) (by rfl) (by simp only [aq_]; rfl) ?_
       refine skp_ HT_ 29 (some 66) rfl rfl (by kernel_rfl) (fun _ _ _ h => h) (by rfl) (by simp only [aq_]; rfl) ?_
       refine pup_ (i := 30) (N := some 67) HT_ rfl rfl (by kernel_rfl) (fun _ _ _ h => h) (Or.inl ⟨by rfl, by intro w'; go_simp; with_reducible rfl⟩) (by simp only [aq_]; rfl) ?_
       refine done_ (done_of HT_.out (by kernel_rfl)) ?_
       try go_wp2
       go_meet
       case rel => exact ⟨_, (true), (by first | rfl | (simp; done) | (simp [*]; done)), H', ⟨by have := HJ1.out; have := HK2.out; first | omega | exact Nat.le_refl _⟩, ⟨bs BK141.out⟩, ⟨bs BK147.out⟩, ⟨by repeat (first | (with_reducible first | exact bw HB.out | refine bset ?_ | apply bA | apply bN | apply bD) | exact HB.out)⟩⟩
      subst c26
      have H1 : ((impl_isNumber.f ((rd_T135 l0_4 x32_2).f1) a0_0).bind fun t149 => (if t149 = true then (if 0 ≤ ((rd_T135 l0_4 x32_2).f0) then (if ((rd_T135 l0_4 x32_2).f0) < (l0_3.length : Int) then ((impl_within.f ((rd_T135 l0_4 x32_2).f2) ((rd_T137 l0_3 ((rd_T135 l0_4 x32_2).f0)).f2) (wrap64 (a0_2 - 1))).bind fun t151 => (impl_IsDispatcher.j2 k2 x32_2 l0_4 (l0_4.length : Int) x32_2 (!t151) a0_0 a0_1 a0_2 l0_3 l0_4 ((rd_T135 l0_4 x32_2).f0) ((rd_T135 l0_4 x32_2).f1) ((rd_T135 l0_4 x32_2).f2))) else (none)) else (none)) else (impl_IsDispatcher.j2 k2 x32_2 l0_4 (l0_4.length : Int) x32_2 true a0_0 a0_1 a0_2 l0_3 l0_4 ((rd_T135 l0_4 x32_2).f0) ((rd_T135 l0_4 x32_2).f1) ((rd_T135 l0_4 x32_2).f2)))) = some r := by rw [if_pos rfl] at H; exact H
      clear H
      have H := H1
      clear H1
      replace H := Option.bind_eq_some_iff.mp H
      obtain ⟨t149, A270, H⟩ := H
      replace H : (if t149 = true then (if 0 ≤ ((rd_T135 l0_4 x32_2).f0) then (if ((rd_T135 l0_4 x32_2).f0) < (l0_3.length : Int) then ((impl_within.f ((rd_T135 l0_4 x32_2).f2) ((rd_T137 l0_3 ((rd_T135 l0_4 x32_2).f0)).f2) (wrap64 (a0_2 - 1))).bind fun t151 => (impl_IsDispatcher.j2 k2 x32_2 l0_4 (l0_4.length : Int) x32_2 (!t151) a0_0 a0_1 a0_2 l0_3 l0_4 ((rd_T135 l0_4 x32_2).f0) ((rd_T135 l0_4 x32_2).f1) ((rd_T135 l0_4 x32_2).f2))) else (none)) else (none)) else (impl_IsDispatcher.j2 k2 x32_2 l0_4 (l0_4.length : Int) x32_2 true a0_0 a0_1 a0_2 l0_3 l0_4 ((rd_T135 l0_4 x32_2).f0) ((rd_T135 l0_4 x32_2).f1) ((rd_T135 l0_4 x32_2).f2))) = some r := H
      have A27 := Aside0.mk A270
      clear A270
      by_cases c28 : t149 = true
      rotate_left
      ·replace c28 := Bool.eq_false_iff.mpr c28
       subst c28
       have H1 : (impl_IsDispatcher.j2 k2 x32_2 l0_4 (l0_4.length : Int) x32_2 true a0_0 a0_1 a0_2 l0_3 l0_4 ((rd_T135 l0_4 x32_2).f0) ((rd_T135 l0_4 x32_2).f1) ((rd_T135 l0_4 x32_2).f2)) = some r := by rw [if_neg (show ¬ (false = true) by decide)] at H; exact H
       clear H
       have H := H1
       clear H1
       have H' := Aside0.mk H
       clear H
       try go_wp2
       have n0_ : Aside0 ((((w22.setCell ⟨gb147, 0, none⟩ (.int .i64 ((rd_T135 l0_4 x32_2).f0))).setCell ⟨gb147, 1, none⟩ (.int .i64 ((rd_T135 l0_4 x32_2).f1))).setCell ⟨gb147, 2, none⟩ (.int .i64 ((rd_T135 l0_4 x32_2).f2))).heap[gb141]? = some (.cells #[.int .i64 a0_0, .int .i64 a0_1, .int .i64 a0_2, .slice A0_3 l0_3.length c0_3, .slice (some ad146) l0_4.length c0_4] 25 (0, 0))) := ⟨by (with_reducible repeat (first | refine blk_drewN ?_ _ | refine blk_drew ?_ | refine blk_alloc ?_ _)); refine blk_far ?_ NB141_147.out _; (with_reducible repeat (first | refine blk_drewN ?_ _ | refine blk_drew ?_ | refine blk_alloc ?_ _)); refine blk_far ?_ NB141_147.out _; (with_reducible repeat (first | refine blk_drewN ?_ _ | refine blk_drew ?_ | refine blk_alloc ?_ _)); refine blk_far ?_ NB141_147.out _; exact bs BK141.out⟩
       have n1_ : Aside0 ((((w22.setCell ⟨gb147, 0, none⟩ (.int .i64 ((rd_T135 l0_4 x32_2).f0))).setCell ⟨gb147, 1, none⟩ (.int .i64 ((rd_T135 l0_4 x32_2).f1))).setCell ⟨gb147, 2, none⟩ (.int .i64 ((rd_T135 l0_4 x32_2).f2))).heap[gb147]? = some (.cells #[.int .i64 ((rd_T135 l0_4 x32_2).f0), .int .i64 ((rd_T135 l0_4 x32_2).f1), .int .i64 ((rd_T135 l0_4 x32_2).f2)] 135 (0, 0))) := ⟨by (with_reducible repeat (first | refine blk_drewN ?_ _ | refine blk_drew ?_ | refine blk_alloc ?_ _)); refine blk_put (cs := #[.int .i64 ((rd_T135 l0_4 x32_2).f0), .int .i64 ((rd_T135 l0_4 x32_2).f1), .int .i64 0]) ?_ 2 _ rfl; (with_reducible repeat (first | refine blk_drewN ?_ _ | refine blk_drew ?_ | refine blk_alloc ?_ _)); refine blk_put (cs := #[.int .i64 ((rd_T135 l0_4 x32_2).f0), .int .i64 0, .int .i64 0]) ?_ 1 _ rfl; (with_reducible repeat (first | refine blk_drewN ?_ _ | refine blk_drew ?_ | refine blk_alloc ?_ _)); refine blk_put (cs := #[.int .i64 0, .int .i64 0, .int .i64 0]) ?_ 0 _ rfl; exact bs BK147.out⟩
       have n2_ : Aside0 (Below w.heap.size w (((w22.setCell ⟨gb147, 0, none⟩ (.int .i64 ((rd_T135 l0_4 x32_2).f0))).setCell ⟨gb147, 1, none⟩ (.int .i64 ((rd_T135 l0_4 x32_2).f1))).setCell ⟨gb147, 2, none⟩ (.int .i64 ((rd_T135 l0_4 x32_2).f2)))) := ⟨by repeat (first | (with_reducible first | exact bw HB.out | refine bset ?_ | apply bA | apply bN | apply bD) | exact HB.out)⟩
       (try clear BK141)
       (try clear BK147)
       (try clear HB)
       (try simp only [setCell_drewN])
       generalize (((w22.setCell ⟨gb147, 0, none⟩ (.int .i64 ((rd_T135 l0_4 x32_2).f0))).setCell ⟨gb147, 1, none⟩ (.int .i64 ((rd_T135 l0_4 x32_2).f1))).setCell ⟨gb147, 2, none⟩ (.int .i64 ((rd_T135 l0_4 x32_2).f2))) = w34 at n0_ n1_ n2_ ⊢
       have BK141 := n0_
       have BK147 := n1_
       have HB := n2_
       clear n0_ n1_ n2_
       have n0_ := Aside0.mk (blk_drew BK141.out)
       have n1_ := Aside0.mk (blk_drew BK147.out)
       have n2_ := Aside0.mk (below_drew1 HB.out)
       replace BK141 := n0_
       replace BK147 := n1_
       replace HB := n2_
       clear n0_ n1_ n2_
       refine start_ (n := 31) (S := fun w' => w'.cell? ⟨gb147, 0, none⟩ = some (.int .i64 ((rd_T135 l0_4 x32_2).f0)) ∧ w'.cell? ⟨gb147, 1, none⟩ = some (.int .i64 ((rd_T135 l0_4 x32_2).f1)) ∧ w'.cell? ⟨gb147, 2, none⟩ = some (.int .i64 ((rd_T135 l0_4 x32_2).f2)) ∧ w'.cell? ⟨gb141, 0, none⟩ = some (.int .i64 a0_0) ∧ w'.cell? ⟨gb141, 1, none⟩ = some (.int .i64 a0_1) ∧ w'.cell? ⟨gb141, 2, none⟩ = some (.int .i64 a0_2) ∧ w'.cell? ⟨gb141, 3, none⟩ = some (.slice A0_3 l0_3.length c0_3) ∧ w'.cell? ⟨gb141, 4, none⟩ = some (.slice (some ad146) l0_4.length c0_4)) (ds := []) q77_0 (by kernel_rfl) rfl rfl ⟨(blk_cell BK147.out 0).trans rfl, (blk_cell BK147.out 1).trans rfl, (blk_cell BK147.out 2).trans rfl, (blk_cell BK141.out 0).trans rfl, (blk_cell BK141.out 1).trans rfl, (blk_cell BK141.out 2).trans rfl, (blk_cell BK141.out 3).trans rfl, (blk_cell BK141.out 4).trans rfl⟩ (fun hHeld => ?_); refine with_tabW impl_IsDispatcher.tab6 impl_IsDispatcher.bits6 (fun HT_ HW_ => ?_)
       generalize w34.drew = w35 at BK141 BK147 HB hHeld ⊢
       refine pup_ (i := 0) (N := some 37) HT_ rfl rfl (by kernel_rfl) (fun _ _ _ h => h) (Or.inl ⟨by rfl, by intro w'; go_simp; with_reducible rfl⟩) (by simp only [aq_]; rfl) ?_
       refine pup_ (i := 2) (N := some 39) HT_ rfl rfl (by kernel_rfl) (fun _ _ _ h => h) (Or.inl ⟨by rfl, by intro w'; go_simp; with_reducible rfl⟩) (by simp only [aq_]; rfl) ?_
       refine take_ (i := 1) (N := some 38) (v := ?_) (a' := ?_) q77_3 rfl rfl (take_ofW HT_.out HW_.out (by kernel_rfl)) (fun _ _ _ h => h) (Or.inl ⟨by rfl, ?_⟩) hHeld ?_ ?_
       rotate_left
       ·rintro w' ⟨s0, s1, s2, s3, s4, s5, s6, s7⟩
        go_simp
        with_reducible rfl
       rotate_left
       ·simp only [aq_]
        rfl
       refine take_ (i := 3) (N := some 40) (v := ?_) (a' := ?_) q77_4 rfl rfl (take_ofW HT_.out HW_.out (by kernel_rfl)) (fun _ _ _ h => h) (Or.inl ⟨by rfl, ?_⟩) hHeld ?_ ?_
       rotate_left
       ·rintro w' ⟨s0, s1, s2, s3, s4, s5, s6, s7⟩
        go_simp
        with_reducible rfl
       rotate_left
       ·simp only [aq_]
        rfl
       refine pup_ (i := 4) (N := some 41) HT_ rfl rfl (by kernel_rfl) (fun _ _ _ h => h) (Or.inl ⟨by rfl, by intro w'; go_simp; with_reducible rfl⟩) (by simp only [aq_]; rfl) ?_
       refine one_ (i := 5) (N := some 42) q77_6 rfl rfl (one_of HT_.out (by kernel_rfl)) (by decide) (fun K hK => ?_)
       refine goes_ Try.func123 (by kernel_rfl) rfl #[.int .i64 ((rd_T135 l0_4 x32_2).f0), .int .i64 (l0_3.length : Int)] (by rfl) rfl rfl (by (try simp only [mA_]); first | done | rfl | (simp only [List.length_drop, List.length_take]; rfl)) ?_
       with_reducible refine (impl_isNumber.calls ((rd_T135 l0_4 x32_2).f0) (l0_3.length : Int) true _ A25.out).mono ?_
       rintro e w' ⟨rfl, ⟨nd, rfl⟩⟩
       refine ⟨_, rfl, ?_⟩
       refine hK.out _ _ ⟨(blk_cell BK147.out 0).trans rfl, (blk_cell BK147.out 1).trans rfl, (blk_cell BK147.out 2).trans rfl, (blk_cell BK141.out 0).trans rfl, (blk_cell BK141.out 1).trans rfl, (blk_cell BK141.out 2).trans rfl, (blk_cell BK141.out 3).trans rfl, (blk_cell BK141.out 4).trans rfl⟩ (fun hHeld => ?_)
       clear hK K
       refine norm_ (a' := ?_) ?_ ?_
       rotate_left
       ·show Act.put _ (some 42) _ = _
        simp only [aq_]
        rfl
       refine pup_ (i := 6) (N := some 43) HT_ rfl rfl (by kernel_rfl) (fun _ _ _ h => h) (Or.inl ⟨by rfl, by intro w'; go_simp; with_reducible rfl⟩) (by simp only [aq_]; rfl) ?_
       refine pup_ (i := 7) (N := some 44) HT_ rfl rfl (by kernel_rfl) (fun _ _ _ h => h) (Or.inl ⟨by rfl, by intro w'; go_simp; with_reducible rfl⟩) (by simp only [aq_]; rfl) ?_
       refine pup_ (i := 8) (N := some 45) HT_ rfl rfl (by kernel_rfl) (fun _ _ _ h => h) (Or.inl ⟨by rfl, by intro w'; go_simp; with_reducible rfl⟩) (by simp only [aq_]; rfl) ?_
       refine pup_ (i := 10) (N := some 47) HT_ rfl rfl (by kernel_rfl) (fun _ _ _ h => h) (Or.inl ⟨by rfl, by intro w'; go_simp; with_reducible rfl⟩) (by simp only [aq_]; rfl) ?_
       refine take_ (i := 9) (N := some 46) (v := ?_) (a' := ?_) q77_11 rfl rfl (take_ofW HT_.out HW_.out (by kernel_rfl)) (fun _ _ _ h => h) (Or.inl ⟨by rfl, ?_⟩) hHeld ?_ ?_
       rotate_left
       ·rintro w' ⟨s0, s1, s2, s3, s4, s5, s6, s7⟩
        go_simp
        with_reducible rfl
       rotate_left
       ·simp only [aq_]
        rfl
       refine take_ (i := 11) (N := some 48) (v := ?_) (a' := ?_) q77_12 rfl rfl (take_ofW HT_.out HW_.out (by kernel_rfl)) (fun _ _ _ h => h) (Or.inl ⟨by rfl, ?_⟩) hHeld ?_ ?_
       rotate_left
       ·rintro w' ⟨s0, s1, s2, s3, s4, s5, s6, s7⟩
        go_simp
        with_reducible rfl
       rotate_left
       ·simp only [aq_]
        rfl
       refine one_ (i := 12) (N := some 49) q77_13 rfl rfl (one_of HT_.out (by kernel_rfl)) (by decide) (fun K hK => ?_)
       refine goes_ Try.func123 (by kernel_rfl) rfl #[.int .i64 ((rd_T135 l0_4 x32_2).f1), .int .i64 a0_0] (by rfl) rfl rfl (by (try simp only [mA_]); first | done | rfl | (simp only [List.length_drop, List.length_take]; rfl)) ?_
       with_reducible refine (impl_isNumber.calls ((rd_T135 l0_4 x32_2).f1) a0_0 false _ A27.out).mono ?_
       rintro e w' ⟨rfl, ⟨nd, rfl⟩⟩
       refine ⟨_, rfl, ?_⟩
       refine hK.out _ _ ⟨(blk_cell BK147.out 0).trans rfl, (blk_cell BK147.out 1).trans rfl, (blk_cell BK147.out 2).trans rfl, (blk_cell BK141.out 0).trans rfl, (blk_cell BK141.out 1).trans rfl, (blk_cell BK141.out 2).trans rfl, (blk_cell BK141.out 3).trans rfl, (blk_cell BK141.out 4).trans rfl⟩ (fun hHeld => ?_)
       clear hK K
       refine norm_ (a' := ?_) ?_ ?_
       rotate_left
       ·show Act.put _ (some 49) _ = _
        simp only [aq_]
        rfl
       refine pup_ (i := 13) (N := some 50) HT_ rfl rfl (by kernel_rfl) (fun _ _ _ h => h) (Or.inl ⟨by rfl, by intro w'; go_simp; with_reducible rfl⟩) (by simp only [aq_]; rfl) ?_
       refine pup_ (i := 14) (N := some 51) HT_ rfl rfl (by kernel_rfl) (fun _ _ _ h => h) (Or.inl ⟨by rfl, by intro w'; go_simp; with_reducible rfl⟩) (by simp only [aq_]; rfl) ?_
       refine pup_ (i := 15) (N := some 52) HT_ rfl rfl (by kernel_rfl) (fun _ _ _ h => h) (Or.inl ⟨by rfl, by intro w'; go_simp; with_reducible rfl⟩) (by simp only [aq_]; rfl) ?_
       refine skp_ HT_ 16 (some 53) rfl rfl (by kernel_rfl) (fun _ _ _ h => h) (by rfl) (by simp only [aq_]; rfl) ?_
       refine skp_ HT_ 17 (some 54) rfl rfl (by kernel_rfl) (fun _ _ _ h => h) (by rfl) (by simp only [aq_]; rfl) ?_
       refine skp_ HT_ 18 (some 55) rfl rfl (by kernel_rfl) (fun _ _ _ h => h) (by rfl) (by simp only [aq_]; rfl) ?_
       refine skp_ HT_ 19 (some 56) rfl rfl (by kernel_rfl) (fun _ _ _ h => h) (by rfl) (by simp only [aq_]; rfl) ?_
       refine skp_ HT_ 20 (some 57) rfl rfl (by kernel_rfl) (fun _ _ _ h => h) (by rfl) (by simp only [aq_]; rfl) ?_
       refine skp_ HT_ 21 (some 58) rfl rfl (by kernel_rfl) (fun _ _ _ h => h) (by rfl) (by simp only [aq_]; rfl) ?_
       refine skp_ HT_ 22 (some 59) rfl rfl (by kernel_rfl) (fun _ _ _ h => h) (by rfl) (by simp only [aq_]; rfl) ?_
       refine skp_ HT_ 23 (some 60) rfl rfl (by kernel_rfl) (fun _ _ _ h => h) (by rfl) (by simp only [aq_]; rfl) ?_
       refine skp_ HT_ 24 (some 61) rfl rfl (by kernel_rfl) (fun _ _ _ h => h) (by rfl) (by simp only [aq_]; rfl) ?_
       refine skp_ HT_ 25 (some 62) rfl rfl (by kernel_rfl) (fun _ _ _ h => h) (by rfl) (by simp only [aq_]; rfl) ?_
       refine skp_ HT_ 26 (some 63) rfl rfl (by kernel_rfl) (fun _ _ _ h => h) (by rfl) (by simp only [aq_]; rfl) ?_
       refine skp_ HT_ 27 (some 64) rfl rfl (by kernel_rfl) (fun _ _ _ h => h) (by rfl) (by simp only [aq_]; rfl) ?_
       refine skp_ HT_ 28 (some 65) rfl rfl (by kernel_rfl) (fun _ _ _ h => h) (by rfl) (by simp only [aq_]; rfl) ?_
       refine skp_ HT_ 29 (some 66) rfl rfl (by kernel_rfl) (fun _ _ _ h => h) (by rfl) (by simp only [aq_]; rfl) ?_
       refine pup_ (i := 30) (N := some 67) HT_ rfl rfl (by kernel_rfl) (fun _ _ _ h => h) (Or.inl ⟨by rfl, by intro w'; go_simp; with_reducible rfl⟩) (by simp only [aq_]; rfl) ?_
       refine done_ (done_of HT_.out (by kernel_rfl)) ?_
       try go_wp2
       go_meet
       case rel => exact ⟨_, (true), (by first | rfl | (simp; done) | (simp [*]; done)), H', ⟨by have := HJ1.out; have := HK2.out; first | omega | exact Nat.le_refl _⟩, ⟨bs BK141.out⟩, ⟨bs BK147.out⟩, ⟨by repeat (first | (with_reducible first | exact bw HB.out | refine bset ?_ | apply bA | apply bN | apply bD) | exact HB.out)⟩⟩
      subst c28
      have H1 : (if 0 ≤ ((rd_T135 l0_4 x32_2).f0) then (if ((rd_T135 l0_4 x32_2).f0) < (l0_3.length : Int) then ((impl_within.f ((rd_T135 l0_4 x32_2).f2) ((rd_T137 l0_3 ((rd_T135 l0_4 x32_2).f0)).f2) (wrap64 (a0_2 - 1))).bind fun t151 => (impl_IsDispatcher.j2 k2 x32_2 l0_4 (l0_4.length : Int) x32_2 (!t151) a0_0 a0_1 a0_2 l0_3 l0_4 ((rd_T135 l0_4 x32_2).f0) ((rd_T135 l0_4 x32_2).f1) ((rd_T135 l0_4 x32_2).f2))) else (none)) else (none)) = some r := by rw [if_pos rfl] at H; exact H
      clear H
      have H := H1
      clear H1
      by_cases c29 : 0 ≤ ((rd_T135 l0_4 x32_2).f0)
      rotate_left
      ·rw [if_neg c29] at H
       exact absurd H (by simp)
      rw [if_pos c29] at H
      have c29b0 : decide (0 ≤ ((rd_T135 l0_4 x32_2).f0)) = true := decide_eq_true c29
      clear c29
      (first | rw [c29b0] | (simp only [i64_w, i32_w]; rw [c29b0]) | skip)
      by_cases c30 : ((rd_T135 l0_4 x32_2).f0) < (l0_3.length : Int)
      rotate_left
      ·rw [if_neg c30] at H
       exact absurd H (by simp)
      rw [if_pos c30] at H
      have c30b0 : decide (((rd_T135 l0_4 x32_2).f0) < (l0_3.length : Int)) = true := decide_eq_true c30
      clear c30
      replace H := Option.bind_eq_some_iff.mp H
      obtain ⟨t151, A310, H⟩ := H
      replace H : (impl_IsDispatcher.j2 k2 x32_2 l0_4 (l0_4.length : Int) x32_2 (!t151) a0_0 a0_1 a0_2 l0_3 l0_4 ((rd_T135 l0_4 x32_2).f0) ((rd_T135 l0_4 x32_2).f1) ((rd_T135 l0_4 x32_2).f2)) = some r := H
      have A31 := Aside0.mk A310
      clear A310
      have H' := Aside0.mk H
      clear H
      try go_wp2
      have n0_ : Aside0 ((((w22.setCell ⟨gb147, 0, none⟩ (.int .i64 ((rd_T135 l0_4 x32_2).f0))).setCell ⟨gb147, 1, none⟩ (.int .i64 ((rd_T135 l0_4 x32_2).f1))).setCell ⟨gb147, 2, none⟩ (.int .i64 ((rd_T135 l0_4 x32_2).f2))).heap[gb141]? = some (.cells #[.int .i64 a0_0, .int .i64 a0_1, .int .i64 a0_2, .slice A0_3 l0_3.length c0_3, .slice (some ad146) l0_4.length c0_4] 25 (0, 0))) := ⟨by (with_reducible repeat (first | refine blk_drewN ?_ _ | refine blk_drew ?_ | refine blk_alloc ?_ _)); refine blk_far ?_ NB141_147.out _; (with_reducible repeat (first | refine blk_drewN ?_ _ | refine blk_drew ?_ | refine blk_alloc ?_ _)); refine blk_far ?_ NB141_147.out _; (with_reducible repeat (first | refine blk_drewN ?_ _ | refine blk_drew ?_ | refine blk_alloc ?_ _)); refine blk_far ?_ NB141_147.out _; exact bs BK141.out⟩
      have n1_ : Aside0 ((((w22.setCell ⟨gb147, 0, none⟩ (.int .i64 ((rd_T135 l0_4 x32_2).f0))).setCell ⟨gb147, 1, none⟩ (.int .i64 ((rd_T135 l0_4 x32_2).f1))).setCell ⟨gb147, 2, none⟩ (.int .i64 ((rd_T135 l0_4 x32_2).f2))).heap[gb147]? = some (.cells #[.int .i64 ((rd_T135 l0_4 x32_2).f0), .int .i64 ((rd_T135 l0_4 x32_2).f1), .int .i64 ((rd_T135 l0_4 x32_2).f2)] 135 (0, 0))) := ⟨by (with_reducible repeat (first | refine blk_drewN ?_ _ | refine blk_drew ?_ | refine blk_alloc ?_ _)); refine blk_put (cs := #[.int .i64 ((rd_T135 l0_4 x32_2).f0), .int .i64 ((rd_T135 l0_4 x32_2).f1), .int .i64 0]) ?_ 2 _ rfl; (with_reducible repeat (first | refine blk_drewN ?_ _ | refine blk_drew ?_ | refine blk_alloc ?_ _)); refine blk_put (cs := #[.int .i64 ((rd_T135 l0_4 x32_2).f0), .int .i64 0, .int .i64 0]) ?_ 1 _ rfl; (with_reducible repeat (first | refine blk_drewN ?_ _ | refine blk_drew ?_ | refine blk_alloc ?_ _)); refine blk_put (cs := #[.int .i64 0, .int .i64 0, .int .i64 0]) ?_ 0 _ rfl; exact bs BK147.out⟩
      have n2_ : Aside0 (Below w.heap.size w (((w22.setCell ⟨gb147, 0, none⟩ (.int .i64 ((rd_T135 l0_4 x32_2).f0))).setCell ⟨gb147, 1, none⟩ (.int .i64 ((rd_T135 l0_4 x32_2).f1))).setCell ⟨gb147, 2, none⟩ (.int .i64 ((rd_T135 l0_4 x32_2).f2)))) := ⟨by repeat (first | (with_reducible first | exact bw HB.out | refine bset ?_ | apply bA | apply bN | apply bD) | exact HB.out)⟩
      (try clear BK141)
      (try clear BK147)
      (try clear HB)
      (try simp only [setCell_drewN])
      generalize (((w22.setCell ⟨gb147, 0, none⟩ (.int .i64 ((rd_T135 l0_4 x32_2).f0))).setCell ⟨gb147, 1, none⟩ (.int .i64 ((rd_T135 l0_4 x32_2).f1))).setCell ⟨gb147, 2, none⟩ (.int .i64 ((rd_T135 l0_4 x32_2).f2))) = w32 at n0_ n1_ n2_ ⊢
      have BK141 := n0_
      have BK147 := n1_
      have HB := n2_
      clear n0_ n1_ n2_
      have n0_ := Aside0.mk (blk_drew BK141.out)
      have n1_ := Aside0.mk (blk_drew BK147.out)
      have n2_ := Aside0.mk (below_drew1 HB.out)
      replace BK141 := n0_
      replace BK147 := n1_
      replace HB := n2_
      clear n0_ n1_ n2_
      have p150 : 0 ≤ (((rd_T135 l0_4 x32_2).f0) : Int) := of_decide_eq_true (by first | (with_reducible assumption) | assumption)
      have q150 : ((rd_T135 l0_4 x32_2).f0) < (l0_3.length : Int) := of_decide_eq_true (by first | (with_reducible assumption) | assumption)
      obtain ⟨ad150, e150, hx150_0, hx150_1, hx150_2, hx150_3⟩ := at_T137 HR0_3.out ((rd_T135 l0_4 x32_2).f0) p150 q150
      have hw150_3 := hx150_3
      have hw150_2 := hx150_2
      have hw150_1 := hx150_1
      have hw150_0 := hx150_0
      cases e150
      replace hx150_0 := (HB.out.cell (World.block_lt_of_cell? w _ hx150_0)).trans hx150_0
      replace hx150_1 := (HB.out.cell (World.block_lt_of_cell? w _ hx150_1)).trans hx150_1
      replace hx150_2 := (HB.out.cell (World.block_lt_of_cell? w _ hx150_2)).trans hx150_2
      replace hx150_3 := (HB.out.cell (World.block_lt_of_cell? w _ hx150_3)).trans hx150_3
      replace p150 := eq_true p150
      replace q150 := eq_true q150
      refine start_ (n := 31) (S := fun w' => w'.cell? ⟨gb147, 0, none⟩ = some (.int .i64 ((rd_T135 l0_4 x32_2).f0)) ∧ w'.cell? ⟨gb147, 1, none⟩ = some (.int .i64 ((rd_T135 l0_4 x32_2).f1)) ∧ w'.cell? ⟨gb147, 2, none⟩ = some (.int .i64 ((rd_T135 l0_4 x32_2).f2)) ∧ w'.cell? ⟨gb141, 0, none⟩ = some (.int .i64 a0_0) ∧ w'.cell? ⟨gb141, 1, none⟩ = some (.int .i64 a0_1) ∧ w'.cell? ⟨gb141, 2, none⟩ = some (.int .i64 a0_2) ∧ w'.cell? ⟨gb141, 3, none⟩ = some (.slice (some ad150) l0_3.length c0_3) ∧ w'.cell? ⟨gb141, 4, none⟩ = some (.slice (some ad146) l0_4.length c0_4) ∧ w'.cell? (ad150.add ((((rd_T135 l0_4 x32_2).f0)).toNat * 4)) = some (.int .i64 ((rd_T137 l0_3 ((rd_T135 l0_4 x32_2).f0)).f0)) ∧ w'.cell? ⟨(ad150.add ((((rd_T135 l0_4 x32_2).f0)).toNat * 4)).block, (ad150.add ((((rd_T135 l0_4 x32_2).f0)).toNat * 4)).off + 1, none⟩ = some (.int .i64 ((rd_T137 l0_3 ((rd_T135 l0_4 x32_2).f0)).f1)) ∧ w'.cell? ⟨(ad150.add ((((rd_T135 l0_4 x32_2).f0)).toNat * 4)).block, (ad150.add ((((rd_T135 l0_4 x32_2).f0)).toNat * 4)).off + 2, none⟩ = some (.int .i64 ((rd_T137 l0_3 ((rd_T135 l0_4 x32_2).f0)).f2)) ∧ w'.cell? ⟨(ad150.add ((((rd_T135 l0_4 x32_2).f0)).toNat * 4)).block, (ad150.add ((((rd_T135 l0_4 x32_2).f0)).toNat * 4)).off + 3, none⟩ = some (.int .i64 ((rd_T137 l0_3 ((rd_T135 l0_4 x32_2).f0)).f3))) (ds := []) q77_0 (by kernel_rfl) rfl rfl ⟨(blk_cell BK147.out 0).trans rfl, (blk_cell BK147.out 1).trans rfl, (blk_cell BK147.out 2).trans rfl, (blk_cell BK141.out 0).trans rfl, (blk_cell BK141.out 1).trans rfl, (blk_cell BK141.out 2).trans rfl, (blk_cell BK141.out 3).trans rfl, (blk_cell BK141.out 4).trans rfl, (bcl_ HB.out hw150_0 :), (bcl_ HB.out hw150_1 :), (bcl_ HB.out hw150_2 :), (bcl_ HB.out hw150_3 :)⟩ (fun hHeld => ?_); refine with_tabW impl_IsDispatcher.tab6 impl_IsDispatcher.bits6 (fun HT_ HW_ => ?_)
      generalize w32.drew = w33 at BK141 BK147 HB hx150_0 hx150_1 hx150_2 hx150_3 hHeld ⊢
      refine pup_ (i := 0) (N := some 37) HT_ rfl rfl (by kernel_rfl) (fun _ _ _ h => h) (Or.inl ⟨by rfl, by intro w'; go_simp; with_reducible rfl⟩) (by simp only [aq_]; rfl) ?_
      refine pup_ (i := 2) (N := some 39) HT_ rfl rfl (by kernel_rfl) (fun _ _ _ h => h) (Or.inl ⟨by rfl, by intro w'; go_simp; with_reducible rfl⟩) (by simp only [aq_]; rfl) ?_
      refine take_ (i := 1) (N := some 38) (v := ?_) (a' := ?_) q77_3 rfl rfl (take_ofW HT_.out HW_.out (by kernel_rfl)) (fun _ _ _ h => h) (Or.inl ⟨by rfl, ?_⟩) hHeld ?_ ?_
      rotate_left
      ·rintro w' ⟨s0, s1, s2, s3, s4, s5, s6, s7, s8, s9, s10, s11⟩
       go_simp
       with_reducible rfl
      rotate_left
      ·simp only [aq_]
       rfl
      refine take_ (i := 3) (N := some 40) (v := ?_) (a' := ?_) q77_4 rfl rfl (take_ofW HT_.out HW_.out (by kernel_rfl)) (fun _ _ _ h => h) (Or.inl ⟨by rfl, ?_⟩) hHeld ?_ ?_
      rotate_left
      ·rintro w' ⟨s0, s1, s2, s3, s4, s5, s6, s7, s8, s9, s10, s11⟩
       go_simp
       with_reducible rfl
      rotate_left
      ·simp only [aq_]
       rfl
      refine pup_ (i := 4) (N := some 41) HT_ rfl rfl (by kernel_rfl) (fun _ _ _ h => h) (Or.inl ⟨by rfl, by intro w'; go_simp; with_reducible rfl⟩) (by simp only [aq_]; rfl) ?_
      refine one_ (i := 5) (N := some 42) q77_6 rfl rfl (one_of HT_.out (by kernel_rfl)) (by decide) (fun K hK => ?_)
      refine goes_ Try.func123 (by kernel_rfl) rfl #[.int .i64 ((rd_T135 l0_4 x32_2).f0), .int .i64 (l0_3.length : Int)] (by rfl) rfl rfl (by (try simp only [mA_]); first | done | rfl | (simp only [List.length_drop, List.length_take]; rfl)) ?_
      with_reducible refine (impl_isNumber.calls ((rd_T135 l0_4 x32_2).f0) (l0_3.length : Int) true _ A25.out).mono ?_
      rintro e w' ⟨rfl, ⟨nd, rfl⟩⟩
      refine ⟨_, rfl, ?_⟩
      refine hK.out _ _ ⟨(blk_cell BK147.out 0).trans rfl, (blk_cell BK147.out 1).trans rfl, (blk_cell BK147.out 2).trans rfl, (blk_cell BK141.out 0).trans rfl, (blk_cell BK141.out 1).trans rfl, (blk_cell BK141.out 2).trans rfl, (blk_cell BK141.out 3).trans rfl, (blk_cell BK141.out 4).trans rfl, (bcl_ HB.out hw150_0 :), (bcl_ HB.out hw150_1 :), (bcl_ HB.out hw150_2 :), (bcl_ HB.out hw150_3 :)⟩ (fun hHeld => ?_)
      clear hK K
      refine norm_ (a' := ?_) ?_ ?_
      rotate_left
      ·show Act.put _ (some 42) _ = _
       simp only [aq_]
       rfl
      refine pup_ (i := 6) (N := some 43) HT_ rfl rfl (by kernel_rfl) (fun _ _ _ h => h) (Or.inl ⟨by rfl, by intro w'; go_simp; with_reducible rfl⟩) (by simp only [aq_]; rfl) ?_
      refine pup_ (i := 7) (N := some 44) HT_ rfl rfl (by kernel_rfl) (fun _ _ _ h => h) (Or.inl ⟨by rfl, by intro w'; go_simp; with_reducible rfl⟩) (by simp only [aq_]; rfl) ?_
      refine pup_ (i := 8) (N := some 45) HT_ rfl rfl (by kernel_rfl) (fun _ _ _ h => h) (Or.inl ⟨by rfl, by intro w'; go_simp; with_reducible rfl⟩) (by simp only [aq_]; rfl) ?_
      refine pup_ (i := 10) (N := some 47) HT_ rfl rfl (by kernel_rfl) (fun _ _ _ h => h) (Or.inl ⟨by rfl, by intro w'; go_simp; with_reducible rfl⟩) (by simp only [aq_]; rfl) ?_
      refine take_ (i := 9) (N := some 46) (v := ?_) (a' := ?_) q77_11 rfl rfl (take_ofW HT_.out HW_.out (by kernel_rfl)) (fun _ _ _ h => h) (Or.inl ⟨by rfl, ?_⟩) hHeld ?_ ?_
      rotate_left
      ·rintro w' ⟨s0, s1, s2, s3, s4, s5, s6, s7, s8, s9, s10, s11⟩
       go_simp
       with_reducible rfl
      rotate_left
      ·simp only [aq_]
       rfl
      refine take_ (i := 11) (N := some 48) (v := ?_) (a' := ?_) q77_12 rfl rfl (take_ofW HT_.out HW_.out (by kernel_rfl)) (fun _ _ _ h => h) (Or.inl ⟨by rfl, ?_⟩) hHeld ?_ ?_
      rotate_left
      ·rintro w' ⟨s0, s1, s2, s3, s4, s5, s6, s7, s8, s9, s10, s11⟩
       go_simp
       with_reducible rfl
      rotate_left
      ·simp only [aq_]
       rfl
      refine one_ (i := 12) (N := some 49) q77_13 rfl rfl (one_of HT_.out (by kernel_rfl)) (by decide) (fun K hK => ?_)
      refine goes_ Try.func123 (by kernel_rfl) rfl #[.int .i64 ((rd_T135 l0_4 x32_2).f1), .int .i64 a0_0] (by rfl) rfl rfl (by (try simp only [mA_]); first | done | rfl | (simp only [List.length_drop, List.length_take]; rfl)) ?_
      with_reducible refine (impl_isNumber.calls ((rd_T135 l0_4 x32_2).f1) a0_0 true _ A27.out).mono ?_
      rintro e w' ⟨rfl, ⟨nd, rfl⟩⟩
      refine ⟨_, rfl, ?_⟩
      refine hK.out _ _ ⟨(blk_cell BK147.out 0).trans rfl, (blk_cell BK147.out 1).trans rfl, (blk_cell BK147.out 2).trans rfl, (blk_cell BK141.out 0).trans rfl, (blk_cell BK141.out 1).trans rfl, (blk_cell BK141.out 2).trans rfl, (blk_cell BK141.out 3).trans rfl, (blk_cell BK141.out 4).trans rfl, (bcl_ HB.out hw150_0 :), (bcl_ HB.out hw150_1 :), (bcl_ HB.out hw150_2 :), (bcl_ HB.out hw150_3 :)⟩ (fun hHeld => ?_)
      clear hK K
      refine norm_ (a' := ?_) ?_ ?_
      rotate_left
      ·show Act.put _ (some 49) _ = _
       simp only [aq_]
       rfl
      refine pup_ (i := 13) (N := some 50) HT_ rfl rfl (by kernel_rfl) (fun _ _ _ h => h) (Or.inl ⟨by rfl, by intro w'; go_simp; with_reducible rfl⟩) (by simp only [aq_]; rfl) ?_
      refine pup_ (i := 14) (N := some 51) HT_ rfl rfl (by kernel_rfl) (fun _ _ _ h => h) (Or.inl ⟨by rfl, by intro w'; go_simp; with_reducible rfl⟩) (by simp only [aq_]; rfl) ?_
      refine pup_ (i := 15) (N := some 52) HT_ rfl rfl (by kernel_rfl) (fun _ _ _ h => h) (Or.inl ⟨by rfl, by intro w'; go_simp; with_reducible rfl⟩) (by simp only [aq_]; rfl) ?_
      refine pup_ (i := 16) (N := some 53) HT_ rfl rfl (by kernel_rfl) (fun _ _ _ h => h) (Or.inl ⟨by rfl, by intro w'; go_simp; with_reducible rfl⟩) (by simp only [aq_]; rfl) ?_
      refine pup_ (i := 18) (N := some 55) HT_ rfl rfl (by kernel_rfl) (fun _ _ _ h => h) (Or.inl ⟨by rfl, by intro w'; go_simp; with_reducible rfl⟩) (by simp only [aq_]; rfl) ?_
      refine pup_ (i := 20) (N := some 57) HT_ rfl rfl (by kernel_rfl) (fun _ _ _ h => h) (Or.inl ⟨by rfl, by intro w'; go_simp; with_reducible rfl⟩) (by simp only [aq_]; rfl) ?_
      refine pup_ (i := 25) (N := some 62) HT_ rfl rfl (by kernel_rfl) (fun _ _ _ h => h) (Or.inl ⟨by rfl, by intro w'; go_simp; with_reducible rfl⟩) (by simp only [aq_]; rfl) ?_
      refine take_ (i := 17) (N := some 54) (v := ?_) (a' := ?_) q77_21 rfl rfl (take_ofW HT_.out HW_.out (by kernel_rfl)) (fun _ _ _ h => h) (Or.inl ⟨by rfl, ?_⟩) hHeld ?_ ?_
      rotate_left
      ·rintro w' ⟨s0, s1, s2, s3, s4, s5, s6, s7, s8, s9, s10, s11⟩
       go_simp
       with_reducible rfl
      rotate_left
      ·simp only [aq_]
       rfl
      refine take_ (i := 19) (N := some 56) (v := ?_) (a' := ?_) q77_22 rfl rfl (take_ofW HT_.out HW_.out (by kernel_rfl)) (fun _ _ _ h => h) (Or.inl ⟨by rfl, ?_⟩) hHeld ?_ ?_
      rotate_left
      ·rintro w' ⟨s0, s1, s2, s3, s4, s5, s6, s7, s8, s9, s10, s11⟩
       go_simp
       with_reducible rfl
      rotate_left
      ·simp only [aq_]
       rfl
      refine take_ (i := 21) (N := some 58) (v := ?_) (a' := ?_) q77_23 rfl rfl (take_ofW HT_.out HW_.out (by kernel_rfl)) (fun _ _ _ h => h) (Or.inl ⟨by rfl, ?_⟩) hHeld ?_ ?_
      rotate_left
      ·rintro w' ⟨s0, s1, s2, s3, s4, s5, s6, s7, s8, s9, s10, s11⟩
       go_simp
       with_reducible rfl
      rotate_left
      ·simp only [aq_]
       rfl
      refine pup_ (i := 22) (N := some 59) HT_ rfl rfl (by kernel_rfl) (fun _ _ _ h => h) (Or.inl ⟨by rfl, by intro w'; go_simp; with_reducible rfl⟩) (by simp only [aq_]; rfl) ?_
      refine pup_ (i := 23) (N := some 60) HT_ rfl rfl (by kernel_rfl) (fun _ _ _ h => h) (Or.inl ⟨by rfl, by intro w'; go_simp; with_reducible rfl⟩) (by simp only [aq_]; rfl) ?_
      refine take_ (i := 24) (N := some 61) (v := ?_) (a' := ?_) q77_26 rfl rfl (take_ofW HT_.out HW_.out (by kernel_rfl)) (fun _ _ _ h => h) (Or.inl ⟨by rfl, ?_⟩) hHeld ?_ ?_
      rotate_left
      ·rintro w' ⟨s0, s1, s2, s3, s4, s5, s6, s7, s8, s9, s10, s11⟩
       go_simp
       with_reducible rfl
      rotate_left
      ·simp only [aq_]
       rfl
      refine take_ (i := 26) (N := some 63) (v := ?_) (a' := ?_) q77_27 rfl rfl (take_ofW HT_.out HW_.out (by kernel_rfl)) (fun _ _ _ h => h) (Or.inl ⟨by rfl, ?_⟩) hHeld ?_ ?_
      rotate_left
      ·rintro w' ⟨s0, s1, s2, s3, s4, s5, s6, s7, s8, s9, s10, s11⟩
       go_simp
       with_reducible rfl
      rotate_left
      ·simp only [aq_]
       rfl
      refine pup_ (i := 27) (N := some 64) HT_ rfl rfl (by kernel_rfl) (fun _ _ _ h => h) (Or.inl ⟨by rfl, by intro w'; go_simp; with_reducible rfl⟩) (by simp only [aq_]; rfl) ?_
      refine one_ (i := 28) (N := some 65) q77_29 rfl rfl (one_of HT_.out (by kernel_rfl)) (by decide) (fun K hK => ?_)
      refine goes_ Try.func86 (by kernel_rfl) rfl #[.int .i64 ((rd_T135 l0_4 x32_2).f2), .int .i64 ((rd_T137 l0_3 ((rd_T135 l0_4 x32_2).f0)).f2), .int .i64 (wrap64 (a0_2 - 1))] (by rfl) rfl rfl (by (try simp only [mA_]); first | done | rfl | (simp only [List.length_drop, List.length_take]; rfl)) ?_
      with_reducible refine (impl_within.calls ((rd_T135 l0_4 x32_2).f2) ((rd_T137 l0_3 ((rd_T135 l0_4 x32_2).f0)).f2) (wrap64 (a0_2 - 1)) t151 _ A31.out).mono ?_
      rintro e w' ⟨rfl, ⟨nd, rfl⟩⟩
      refine ⟨_, rfl, ?_⟩
      refine hK.out _ _ ⟨(blk_cell BK147.out 0).trans rfl, (blk_cell BK147.out 1).trans rfl, (blk_cell BK147.out 2).trans rfl, (blk_cell BK141.out 0).trans rfl, (blk_cell BK141.out 1).trans rfl, (blk_cell BK141.out 2).trans rfl, (blk_cell BK141.out 3).trans rfl, (blk_cell BK141.out 4).trans rfl, (bcl_ HB.out hw150_0 :), (bcl_ HB.out hw150_1 :), (bcl_ HB.out hw150_2 :), (bcl_ HB.out hw150_3 :)⟩ (fun hHeld => ?_)
      clear hK K
      refine norm_ (a' := ?_) ?_ ?_
      rotate_left
      ·show Act.put _ (some 65) _ = _
       simp only [aq_]
       rfl
      refine pup_ (i := 29) (N := some 66) HT_ rfl rfl (by kernel_rfl) (fun _ _ _ h => h) (Or.inl ⟨by rfl, by intro w'; go_simp; with_reducible rfl⟩) (by simp only [aq_]; rfl) ?_
      refine pup_ (i := 30) (N := some 67) HT_ rfl rfl (by kernel_rfl) (fun _ _ _ h => h) (Or.inl ⟨by rfl, by intro w'; go_simp; with_reducible rfl⟩) (by simp only [aq_]; rfl) ?_
      refine done_ (done_of HT_.out (by kernel_rfl)) ?_
      try go_wp2
      go_meet
      case rel => exact ⟨_, (!t151), (by first | rfl | (simp; done) | (simp [*]; done)), H', ⟨by have := HJ1.out; have := HK2.out; first | omega | exact Nat.le_refl _⟩, ⟨bs BK141.out⟩, ⟨bs BK147.out⟩, ⟨by repeat (first | (with_reducible first | exact bw HB.out | refine bset ?_ | apply bA | apply bN | apply bD) | exact HB.out)⟩⟩
     case rest =>
      clear HC21
      try clear c1
      try clear c2
      try clear p2
      try clear c3
      try clear p6
      try clear c8
      try clear c12
      try clear c26
      try clear c28
      try clear c29
      try clear c30
      obtain ⟨kq, x67_20, rfl, HA, HJ20, BK141, BK147, HB⟩ := hcut
      cases kq with
      | zero => exact absurd HA.out (by simp [impl_IsDispatcher.j2])
      | succ kj20 =>
       have H := HA.out
       clear HA
       simp only [impl_IsDispatcher.j2] at H
       by_cases c38 : x67_20 = true
       ·subst c38
        have H1 : (some false) = some r := by rw [if_pos rfl] at H; exact H
        clear H
        have H := H1
        clear H1
        obtain rfl := Option.some.inj H
        go_wp2
        go_ret
        exact ⟨by first | rfl | (simp [errW_none, errW_some] <;> rfl) | (simp [*, errW_none, errW_some] <;> rfl), by repeat (first | (with_reducible first | exact bw HB.out | refine bset ?_ | apply bA | apply bN | apply bD) | exact HB.out)⟩
       replace c38 := Bool.eq_false_iff.mpr c38
       subst c38
       have H1 : (if x32_2 > 0 then (if 0 ≤ (wrap64 (x32_2 - 1)) then (if (wrap64 (x32_2 - 1)) < (l0_4.length : Int) then (if ((rd_T135 l0_4 (wrap64 (x32_2 - 1))).f2) > ((rd_T135 l0_4 x32_2).f2) then (impl_IsDispatcher.j3 kj20 x32_2 l0_4 (l0_4.length : Int) x32_2 true a0_0 a0_1 a0_2 l0_3 l0_4 ((rd_T135 l0_4 x32_2).f0) ((rd_T135 l0_4 x32_2).f1) ((rd_T135 l0_4 x32_2).f2)) else (if ((rd_T135 l0_4 (wrap64 (x32_2 - 1))).f2) = ((rd_T135 l0_4 x32_2).f2) then (impl_IsDispatcher.j3 kj20 x32_2 l0_4 (l0_4.length : Int) x32_2 (decide (((rd_T135 l0_4 (wrap64 (x32_2 - 1))).f1) ≥ ((rd_T135 l0_4 x32_2).f1))) a0_0 a0_1 a0_2 l0_3 l0_4 ((rd_T135 l0_4 x32_2).f0) ((rd_T135 l0_4 x32_2).f1) ((rd_T135 l0_4 x32_2).f2)) else (impl_IsDispatcher.j3 kj20 x32_2 l0_4 (l0_4.length : Int) x32_2 false a0_0 a0_1 a0_2 l0_3 l0_4 ((rd_T135 l0_4 x32_2).f0) ((rd_T135 l0_4 x32_2).f1) ((rd_T135 l0_4 x32_2).f2)))) else (none)) else (none)) else (impl_IsDispatcher.j3 kj20 x32_2 l0_4 (l0_4.length : Int) x32_2 false a0_0 a0_1 a0_2 l0_3 l0_4 ((rd_T135 l0_4 x32_2).f0) ((rd_T135 l0_4 x32_2).f1) ((rd_T135 l0_4 x32_2).f2))) = some r := by rw [if_neg (show ¬ (false = true) by decide)] at H; exact H
       clear H
       have H := H1
       clear H1
       have HC39 := Aside0.mk H
       clear H
       go_upto_region 8 with (fail)
       go_cut [105] (fun v105 wc => ∃ (kq : Nat) (x105_38 : Bool), v105 = .bool x105_38 ∧ Aside0 (impl_IsDispatcher.j3 kq x32_2 l0_4 (l0_4.length : Int) x32_2 x105_38 a0_0 a0_1 a0_2 l0_3 l0_4 ((rd_T135 l0_4 x32_2).f0) ((rd_T135 l0_4 x32_2).f1) ((rd_T135 l0_4 x32_2).f2) = some r) ∧ Aside0 (kq ≤ kj20) ∧ Aside0 (wc.heap[gb141]? = some (.cells #[.int .i64 a0_0, .int .i64 a0_1, .int .i64 a0_2, (.slice A0_3 l0_3.length c0_3), (.slice (some ad146) l0_4.length c0_4)] 25 (0, 0))) ∧ Aside0 (wc.heap[gb147]? = some (.cells #[.int .i64 ((rd_T135 l0_4 x32_2).f0), .int .i64 ((rd_T135 l0_4 x32_2).f1), .int .i64 ((rd_T135 l0_4 x32_2).f2)] 135 (0, 0))) ∧ Aside0 (Below w.heap.size w wc))
       case first =>
        have H := HC39.out
        clear HC39
        by_cases c40 : x32_2 > 0
        rotate_left
        ·rw [if_neg c40] at H
         have c40b0 : decide (0 < x32_2) = false := decide_eq_false c40
         clear c40
         (first | rw [c40b0] | (simp only [i64_w, i32_w]; rw [c40b0]) | skip)
         have H' := Aside0.mk H
         clear H
         try go_wp2
         have n0_ := Aside0.mk (blk_drew BK141.out)
         have n1_ := Aside0.mk (blk_drew BK147.out)
         have n2_ := Aside0.mk (below_drew1 HB.out)
         replace BK141 := n0_
         replace BK147 := n1_
         replace HB := n2_
         clear n0_ n1_ n2_
         refine start_ (n := 38) (S := fun w' => True) (ds := []) q77_41 (by kernel_rfl) rfl rfl trivial (fun hHeld => ?_); refine with_tabW impl_IsDispatcher.tab8 impl_IsDispatcher.bits8 (fun HT_ HW_ => ?_)
         generalize wc.drew = w49 at BK141 BK147 HB hHeld ⊢
         refine pup_ (i := 0) (N := some 68) HT_ rfl rfl (by kernel_rfl) (fun _ _ _ h => h) (Or.inl ⟨by rfl, by intro w'; go_simp; with_reducible rfl⟩) (by simp only [aq_]; rfl) ?_
         refine pup_ (i := 1) (N := some 69) HT_ rfl rfl (by kernel_rfl) (fun _ _ _ h => h) (Or.inl ⟨by rfl, by intro w'; go_simp; with_reducible rfl⟩) (by simp only [aq_]; rfl) ?_
         refine pup_ (i := 2) (N := some 70) HT_ rfl rfl (by kernel_rfl) (fun _ _ _ h => h) (Or.inl ⟨by rfl, by intro w'; go_simp; with_reducible rfl⟩) (by simp only [aq_]; rfl) ?_
         refine skp_ HT_ 3 (some 71) rfl rfl (by kernel_rfl) (fun _ _ _ h => h) (by rfl) (by simp only [aq_]; rfl) ?_
         refine skp_ HT_ 4 (some 72) rfl rfl (by kernel_rfl) (fun _ _ _ h => h) (by rfl) (by simp only [aq_]; rfl) ?_
         refine skp_ HT_ 5 (some 73) rfl rfl (by kernel_rfl) (fun _ _ _ h => h) (by rfl) (by simp only [aq_]; rfl) ?_
         refine skp_ HT_ 6 (some 74) rfl rfl (by kernel_rfl) (fun _ _ _ h => h) (by rfl) (by simp only [aq_]; rfl) ?_
         refine skp_ HT_ 7 (some 75) rfl rfl (by kernel_rfl) (fun _ _ _ h => h) (by rfl) (by simp only [aq_]; rfl) ?_
         refine skp_ HT_ 8 (some 76) rfl rfl (by kernel_rfl) (fun _ _ _ h => h) (by rfl) (by simp only [aq_]; rfl) ?_
         refine skp_ HT_ 9 (some 77) rfl rfl (by kernel_rfl) (fun _ _ _ h => h) (by rfl) (by simp only [aq_]; rfl) ?_
         refine skp_ HT_ 10 (some 78) rfl rfl (by kernel_rfl) (fun _ _ _ h => h) (by rfl) (by simp only [aq_]; rfl) ?_
         refine skp_ HT_ 11 (some 79) rfl rfl (by kernel_rfl) (fun _ _ _ h => h) (by rfl) (by simp only [aq_]; rfl) ?_
         refine skp_ HT_ 12 (some 80) rfl rfl (by kernel_rfl) (fun _ _ _ h => h) (by rfl) (by simp only [aq_]; rfl) ?_
         refine skp_ HT_ 13 (some 81) rfl rfl (by kernel_rfl) (fun _ _ _ h => h) (by rfl) (by simp only [aq_]; rfl) ?_
         refine skp_ HT_ 14 (some 82) rfl rfl (by kernel_rfl) (fun _ _ _ h => h) (by rfl) (by simp only [aq_]; rfl) ?_
         refine skp_ HT_ 15 (some 83) rfl rfl (by kernel_rfl) (fun _ _ _ h => h) (by rfl) (by simp only [aq_]; rfl) ?_
         refine skp_ HT_ 16 (some 84) rfl rfl (by kernel_rfl) (fun _ _ _ h => h) (by rfl) (by simp only [aq_]; rfl) ?_
         refine skp_ HT_ 17 (some 85) rfl rfl (by kernel_rfl) (fun _ _ _ h => h) (by rfl) (by simp only [aq_]; rfl) ?_
         refine skp_ HT_ 18 (some 86) rfl rfl (by kernel_rfl) (fun _ _ _ h => h) (by rfl) (by simp only [aq_]; rfl) ?_
         refine skp_ HT_ 19 (some 87) rfl rfl (by kernel_rfl) (fun _ _ _ h => h) (by rfl) (by simp only [aq_]; rfl) ?_
         refine skp_ HT_ 20 (some 88) rfl rfl (by kernel_rfl) (fun _ _ _ h => h) (by rfl) (by simp only [aq_]; rfl) ?_
         refine skp_ HT_ 21 (some 89) rfl rfl (by kernel_rfl) (fun _ _ _ h => h) (by rfl) (by simp only [aq_]; rfl) ?_
         refine skp_ HT_ 22 (some 90) rfl rfl (by kernel_rfl) (fun _ _ _ h => h) (by rfl) (by simp only [aq_]; rfl) ?_
         refine skp_ HT_ 23 (some 91) rfl rfl (by kernel_rfl) (fun _ _ _ h => h) (by rfl) (by simp only [aq_]; rfl) ?_
         refine skp_ HT_ 24 (some 92) rfl rfl (by kernel_rfl) (fun _ _ _ h => h) (by rfl) (by simp only [aq_]; rfl) ?_
         refine skp_ HT_ 25 (some 93) rfl rfl (by kernel_rfl) (fun _ _ _ h => h) (by rfl) (by simp only [aq_]; rfl) ?_
         refine skp_ HT_ 26 (some 94) rfl rfl (by kernel_rfl) (fun _ _ _ h => h) (by rfl) (by simp only [aq_]; rfl) ?_
         refine skp_ HT_ 27 (some 95) rfl rfl (by kernel_rfl) (fun _ _ _ h => h) (by rfl) (by simp only [aq_]; rfl) ?_
         refine skp_ HT_ 28 (some 96) rfl rfl (by kernel_rfl) (fun _ _ _ h => h) (by rfl) (by simp only [aq_]; rfl) ?_
         refine skp_ HT_ 29 (some 97) rfl rfl (by kernel_rfl) (fun _ _ _ h => h) (by rfl) (by simp only [aq_]; rfl) ?_
         refine skp_ HT_ 30 (some 98) rfl rfl (by kernel_rfl) (fun _ _ _ h => h) (by rfl) (by simp only [aq_]; rfl) ?_
         refine skp_ HT_ 31 (some 99) rfl rfl (by kernel_rfl) (fun _ _ _ h => h) (by rfl) (by simp only [aq_]; rfl) ?_
         refine skp_ HT_ 32 (some 100) rfl rfl (by kernel_rfl) (fun _ _ _ h => h) (by rfl) (by simp only [aq_]; rfl) ?_
         refine skp_ HT_ 33 (some 101) rfl rfl (by kernel_rfl) (fun _ _ _ h => h) (by rfl) (by simp only [aq_]; rfl) ?_
         refine skp_ HT_ 34 (some 102) rfl rfl (by kernel_rfl) (fun _ _ _ h => h) (by rfl) (by simp only [aq_]; rfl) ?_
         refine skp_ HT_ 35 (some 103) rfl rfl (by kernel_rfl) (fun _ _ _ h => h) (by rfl) (by simp only [aq_]; rfl) ?_
         refine skp_ HT_ 36 (some 104) rfl rfl (by kernel_rfl) (fun _ _ _ h => h) (by rfl) (by simp only [aq_]; rfl) ?_
         refine pup_ (i := 37) (N := some 105) HT_ rfl rfl (by kernel_rfl) (fun _ _ _ h => h) (Or.inl ⟨by rfl, by intro w'; go_simp; with_reducible rfl⟩) (by simp only [aq_]; rfl) ?_
         refine done_ (done_of HT_.out (by kernel_rfl)) ?_
         try go_wp2
         go_meet
         case rel => exact ⟨_, (false), (by first | rfl | (simp; done) | (simp [*]; done)), H', ⟨by have := HJ1.out; have := HK2.out; have := HJ20.out; first | omega | exact Nat.le_refl _⟩, ⟨bs BK141.out⟩, ⟨bs BK147.out⟩, ⟨by repeat (first | (with_reducible first | exact bw HB.out | refine bset ?_ | apply bA | apply bN | apply bD) | exact HB.out)⟩⟩
        rw [if_pos c40] at H
        have c40b0 : decide (0 < x32_2) = true := decide_eq_true c40
        clear c40
        (first | rw [c40b0] | (simp only [i64_w, i32_w]; rw [c40b0]) | skip)
        obtain ⟨ji41, hji41⟩ : ∃ j_ : Int, (wrap64 (x32_2 - 1)) = j_ := ⟨_, rfl⟩
        replace H : (if 0 ≤ (ji41) then (if (ji41) < (l0_4.length : Int) then (if ((rd_T135 l0_4 (ji41)).f2) > ((rd_T135 l0_4 x32_2).f2) then (impl_IsDispatcher.j3 kj20 x32_2 l0_4 (l0_4.length : Int) x32_2 true a0_0 a0_1 a0_2 l0_3 l0_4 ((rd_T135 l0_4 x32_2).f0) ((rd_T135 l0_4 x32_2).f1) ((rd_T135 l0_4 x32_2).f2)) else (if ((rd_T135 l0_4 (ji41)).f2) = ((rd_T135 l0_4 x32_2).f2) then (impl_IsDispatcher.j3 kj20 x32_2 l0_4 (l0_4.length : Int) x32_2 (decide (((rd_T135 l0_4 (ji41)).f1) ≥ ((rd_T135 l0_4 x32_2).f1))) a0_0 a0_1 a0_2 l0_3 l0_4 ((rd_T135 l0_4 x32_2).f0) ((rd_T135 l0_4 x32_2).f1) ((rd_T135 l0_4 x32_2).f2)) else (impl_IsDispatcher.j3 kj20 x32_2 l0_4 (l0_4.length : Int) x32_2 false a0_0 a0_1 a0_2 l0_3 l0_4 ((rd_T135 l0_4 x32_2).f0) ((rd_T135 l0_4 x32_2).f1) ((rd_T135 l0_4 x32_2).f2)))) else (none)) else (none)) = some r := by first | (rw [hji41] at H; exact H) | (simp only [hji41] at H ⊢; exact H)
        have hji41w : (IntKind.i64.wrap (x32_2 - 1)) = ji41 := (i64_w _).trans hji41
        by_cases c42 : 0 ≤ (ji41)
        rotate_left
        ·rw [if_neg c42] at H
         exact absurd H (by simp)
        rw [if_pos c42] at H
        have c42b0 : decide (0 ≤ (ji41)) = true := decide_eq_true c42
        clear c42
        by_cases c43 : (ji41) < (l0_4.length : Int)
        rotate_left
        ·rw [if_neg c43] at H
         exact absurd H (by simp)
        rw [if_pos c43] at H
        have c43b0 : decide ((ji41) < (l0_4.length : Int)) = true := decide_eq_true c43
        clear c43
        by_cases c44 : ((rd_T135 l0_4 (ji41)).f2) > ((rd_T135 l0_4 x32_2).f2)
        ·rw [if_pos c44] at H
         have c44b0 : decide (((rd_T135 l0_4 x32_2).f2) < ((rd_T135 l0_4 (ji41)).f2)) = true := decide_eq_true c44
         clear c44
         have H' := Aside0.mk H
         clear H
         try go_wp2
         have n0_ := Aside0.mk (blk_drew BK141.out)
         have n1_ := Aside0.mk (blk_drew BK147.out)
         have n2_ := Aside0.mk (below_drew1 HB.out)
         replace BK141 := n0_
         replace BK147 := n1_
         replace HB := n2_
         clear n0_ n1_ n2_
         have p152 : 0 ≤ ((ji41) : Int) := of_decide_eq_true (by first | (with_reducible assumption) | assumption)
         have q152 : (ji41) < (l0_4.length : Int) := of_decide_eq_true (by first | (with_reducible assumption) | assumption)
         obtain ⟨ad152, e152, hx152_0, hx152_1, hx152_2⟩ := at_T135 HR0_4.out (ji41) p152 q152
         have hw152_2 := hx152_2
         have hw152_1 := hx152_1
         have hw152_0 := hx152_0
         obtain rfl : ad146 = ad152 := (by injection e152)
         replace hx152_0 := (HB.out.cell (World.block_lt_of_cell? w _ hx152_0)).trans hx152_0
         replace hx152_1 := (HB.out.cell (World.block_lt_of_cell? w _ hx152_1)).trans hx152_1
         replace hx152_2 := (HB.out.cell (World.block_lt_of_cell? w _ hx152_2)).trans hx152_2
         replace p152 := eq_true p152
         replace q152 := eq_true q152
         refine start_ (n := 38) (S := fun w' => w'.cell? ⟨gb141, 0, none⟩ = some (.int .i64 a0_0) ∧ w'.cell? ⟨gb141, 1, none⟩ = some (.int .i64 a0_1) ∧ w'.cell? ⟨gb141, 2, none⟩ = some (.int .i64 a0_2) ∧ w'.cell? ⟨gb141, 3, none⟩ = some (.slice A0_3 l0_3.length c0_3) ∧ w'.cell? ⟨gb141, 4, none⟩ = some (.slice (some ad146) l0_4.length c0_4) ∧ w'.cell? ⟨gb147, 0, none⟩ = some (.int .i64 ((rd_T135 l0_4 x32_2).f0)) ∧ w'.cell? ⟨gb147, 1, none⟩ = some (.int .i64 ((rd_T135 l0_4 x32_2).f1)) ∧ w'.cell? ⟨gb147, 2, none⟩ = some (.int .i64 ((rd_T135 l0_4 x32_2).f2)) ∧ w'.cell? (ad146.add (((ji41)).toNat * 3)) = some (.int .i64 ((rd_T135 l0_4 (ji41)).f0)) ∧ w'.cell? ⟨(ad146.add (((ji41)).toNat * 3)).block, (ad146.add (((ji41)).toNat * 3)).off + 1, none⟩ = some (.int .i64 ((rd_T135 l0_4 (ji41)).f1)) ∧ w'.cell? ⟨(ad146.add (((ji41)).toNat * 3)).block, (ad146.add (((ji41)).toNat * 3)).off + 2, none⟩ = some (.int .i64 ((rd_T135 l0_4 (ji41)).f2))) (ds := []) q77_41 (by kernel_rfl) rfl rfl ⟨(blk_cell BK141.out 0).trans rfl, (blk_cell BK141.out 1).trans rfl, (blk_cell BK141.out 2).trans rfl, (blk_cell BK141.out 3).trans rfl, (blk_cell BK141.out 4).trans rfl, (blk_cell BK147.out 0).trans rfl, (blk_cell BK147.out 1).trans rfl, (blk_cell BK147.out 2).trans rfl, (bcl_ HB.out hw152_0 :), (bcl_ HB.out hw152_1 :), (bcl_ HB.out hw152_2 :)⟩ (fun hHeld => ?_); refine with_tabW impl_IsDispatcher.tab8 impl_IsDispatcher.bits8 (fun HT_ HW_ => ?_)
         generalize wc.drew = w45 at BK141 BK147 HB hx152_0 hx152_1 hx152_2 hHeld ⊢
         refine pup_ (i := 0) (N := some 68) HT_ rfl rfl (by kernel_rfl) (fun _ _ _ h => h) (Or.inl ⟨by rfl, by intro w'; go_simp; with_reducible rfl⟩) (by simp only [aq_]; rfl) ?_
         refine pup_ (i := 1) (N := some 69) HT_ rfl rfl (by kernel_rfl) (fun _ _ _ h => h) (Or.inl ⟨by rfl, by intro w'; go_simp; with_reducible rfl⟩) (by simp only [aq_]; rfl) ?_
         refine pup_ (i := 2) (N := some 70) HT_ rfl rfl (by kernel_rfl) (fun _ _ _ h => h) (Or.inl ⟨by rfl, by intro w'; go_simp; with_reducible rfl⟩) (by simp only [aq_]; rfl) ?_
         refine pup_ (i := 3) (N := some 71) HT_ rfl rfl (by kernel_rfl) (fun _ _ _ h => h) (Or.inl ⟨by rfl, by intro w'; go_simp; with_reducible rfl⟩) (by simp only [aq_]; rfl) ?_
         refine pup_ (i := 5) (N := some 73) HT_ rfl rfl (by kernel_rfl) (fun _ _ _ h => h) (Or.inl ⟨by rfl, by intro w'; go_simp; with_reducible rfl⟩) (by simp only [aq_]; rfl) ?_
         refine pup_ (i := 6) (N := some 74) HT_ rfl rfl (by kernel_rfl) (fun _ _ _ h => h) (Or.inl ⟨by rfl, by intro w'; go_simp; with_reducible rfl⟩) (by simp only [aq_]; rfl) ?_
         refine pup_ (i := 10) (N := some 78) HT_ rfl rfl (by kernel_rfl) (fun _ _ _ h => h) (Or.inl ⟨by rfl, by intro w'; go_simp; with_reducible rfl⟩) (by simp only [aq_]; rfl) ?_
         refine take_ (i := 4) (N := some 72) (v := ?_) (a' := ?_) q77_49 rfl rfl (take_ofW HT_.out HW_.out (by kernel_rfl)) (fun _ _ _ h => h) (Or.inl ⟨by rfl, ?_⟩) hHeld ?_ ?_
         rotate_left
         ·rintro w' ⟨s0, s1, s2, s3, s4, s5, s6, s7, s8, s9, s10⟩
          go_simp
          with_reducible rfl
         rotate_left
         ·simp only [aq_]
          rfl
         refine pup_ (i := 7) (N := some 75) HT_ rfl rfl (by kernel_rfl) (fun _ _ _ h => h) (Or.inl ⟨by rfl, by intro w'; go_simp; with_reducible rfl⟩) (by simp only [aq_]; rfl) ?_
         refine pup_ (i := 8) (N := some 76) HT_ rfl rfl (by kernel_rfl) (fun _ _ _ h => h) (Or.inl ⟨by rfl, by intro w'; go_simp; with_reducible rfl⟩) (by simp only [aq_]; rfl) ?_
         refine take_ (i := 9) (N := some 77) (v := ?_) (a' := ?_) q77_52 rfl rfl (take_ofW HT_.out HW_.out (by kernel_rfl)) (fun _ _ _ h => h) (Or.inl ⟨by rfl, ?_⟩) hHeld ?_ ?_
         rotate_left
         ·rintro w' ⟨s0, s1, s2, s3, s4, s5, s6, s7, s8, s9, s10⟩
          go_simp
          with_reducible rfl
         rotate_left
         ·simp only [aq_]
          rfl
         refine take_ (i := 11) (N := some 79) (v := ?_) (a' := ?_) q77_53 rfl rfl (take_ofW HT_.out HW_.out (by kernel_rfl)) (fun _ _ _ h => h) (Or.inl ⟨by rfl, ?_⟩) hHeld ?_ ?_
         rotate_left
         ·rintro w' ⟨s0, s1, s2, s3, s4, s5, s6, s7, s8, s9, s10⟩
          go_simp
          with_reducible rfl
         rotate_left
         ·simp only [aq_]
          rfl
         refine pup_ (i := 12) (N := some 80) HT_ rfl rfl (by kernel_rfl) (fun _ _ _ h => h) (Or.inl ⟨by rfl, by intro w'; go_simp; with_reducible rfl⟩) (by simp only [aq_]; rfl) ?_
         refine pup_ (i := 13) (N := some 81) HT_ rfl rfl (by kernel_rfl) (fun _ _ _ h => h) (Or.inl ⟨by rfl, by intro w'; go_simp; with_reducible rfl⟩) (by simp only [aq_]; rfl) ?_
         refine skp_ HT_ 14 (some 82) rfl rfl (by kernel_rfl) (fun _ _ _ h => h) (by rfl) (by simp only [aq_]; rfl) ?_
         refine skp_ HT_ 15 (some 83) rfl rfl (by kernel_rfl) (fun _ _ _ h => h) (by rfl) (by simp only [aq_]; rfl) ?_
         refine skp_ HT_ 16 (some 84) rfl rfl (by kernel_rfl) (fun _ _ _ h => h) (by rfl) (by simp only [aq_]; rfl) ?_
         refine skp_ HT_ 17 (some 85) rfl rfl (by kernel_rfl) (fun _ _ _ h => h) (by rfl) (by simp only [aq_]; rfl) ?_
         refine skp_ HT_ 18 (some 86) rfl rfl (by kernel_rfl) (fun _ _ _ h => h) (by rfl) (by simp only [aq_]; rfl) ?_
         refine skp_ HT_ 19 (some 87) rfl rfl (by kernel_rfl) (fun _ _ _ h => h) (by rfl) (by simp only [aq_]; rfl) ?_
         refine skp_ HT_ 20 (some 88) rfl rfl (by kernel_rfl) (fun _ _ _ h => h) (by rfl) (by simp only [aq_]; rfl) ?_
         refine skp_ HT_ 21 (some 89) rfl rfl (by kernel_rfl) (fun _ _ _ h => h) (by rfl) (by simp only [aq_]; rfl) ?_
         refine skp_ HT_ 22 (some 90) rfl rfl (by kernel_rfl) (fun _ _ _ h => h) (by rfl) (by simp only [aq_]; rfl) ?_
         refine skp_ HT_ 23 (some 91) rfl rfl (by kernel_rfl) (fun _ _ _ h => h) (by rfl) (by simp only [aq_]; rfl) ?_
         refine skp_ HT_ 24 (some 92) rfl rfl (by kernel_rfl) (fun _ _ _ h => h) (by rfl) (by simp only [aq_]; rfl) ?_
         refine skp_ HT_ 25 (some 93) rfl rfl (by kernel_rfl) (fun _ _ _ h => h) (by rfl) (by simp only [aq_]; rfl) ?_
         refine skp_ HT_ 26 (some 94) rfl rfl (by kernel_rfl) (fun _ _ _ h => h) (by rfl) (by simp only [aq_]; rfl) ?_
         refine skp_ HT_ 27 (some 95) rfl rfl (by kernel_rfl) (fun _ _ _ h => h) (by rfl) (by simp only [aq_]; rfl) ?_
         refine skp_ HT_ 28 (some 96) rfl rfl (by kernel_rfl) (fun _ _ _ h => h) (by rfl) (by simp only [aq_]; rfl) ?_
         refine skp_ HT_ 29 (some 97) rfl rfl (by kernel_rfl) (fun _ _ _ h => h) (by rfl) (by simp only [aq_]; rfl) ?_
         refine skp_ HT_ 30 (some 98) rfl rfl (by kernel_rfl) (fun _ _ _ h => h) (by rfl) (by simp only [aq_]; rfl) ?_
         refine skp_ HT_ 31 (some 99) rfl rfl (by kernel_rfl) (fun _ _ _ h => h) (by rfl) (by simp only [aq_]; rfl) ?_
         refine skp_ HT_ 32 (some 100) rfl rfl (by kernel_rfl) (fun _ _ _ h => h) (by rfl) (by simp only [aq_]; rfl) ?_
         refine skp_ HT_ 33 (some 101) rfl rfl (by kernel_rfl) (fun _ _ _ h => h) (by rfl) (by simp only [aq_]; rfl) ?_
         refine skp_ HT_ 34 (some 102) rfl rfl (by kernel_rfl) (fun _ _ _ h => h) (by rfl) (by simp only [aq_]; rfl) ?_
         refine skp_ HT_ 35 (some 103) rfl rfl (by kernel_rfl) (fun _ _ _ h => h) (by rfl) (by simp only [aq_]; rfl) ?_
         refine pup_ (i := 36) (N := some 104) HT_ rfl rfl (by kernel_rfl) (fun _ _ _ h => h) (Or.inl ⟨by rfl, by intro w'; go_simp; with_reducible rfl⟩) (by simp only [aq_]; rfl) ?_
         refine pup_ (i := 37) (N := some 105) HT_ rfl rfl (by kernel_rfl) (fun _ _ _ h => h) (Or.inl ⟨by rfl, by intro w'; go_simp; with_reducible rfl⟩) (by simp only [aq_]; rfl) ?_
         refine done_ (done_of HT_.out (by kernel_rfl)) ?_
         try go_wp2
         go_meet
         case rel => exact ⟨_, (true), (by first | rfl | (simp; done) | (simp [*]; done)), H', ⟨by have := HJ1.out; have := HK2.out; have := HJ20.out; first | omega | exact Nat.le_refl _⟩, ⟨bs BK141.out⟩, ⟨bs BK147.out⟩, ⟨by repeat (first | (with_reducible first | exact bw HB.out | refine bset ?_ | apply bA | apply bN | apply bD) | exact HB.out)⟩⟩
        rw [if_neg c44] at H
        have c44b0 : decide (((rd_T135 l0_4 x32_2).f2) < ((rd_T135 l0_4 (ji41)).f2)) = false := decide_eq_false c44
        clear c44
        by_cases c46 : ((rd_T135 l0_4 (ji41)).f2) = ((rd_T135 l0_4 x32_2).f2)
        rotate_left
        ·rw [if_neg c46] at H
         have c46b0 : (((rd_T135 l0_4 (ji41)).f2) == ((rd_T135 l0_4 x32_2).f2)) = false := beq_eq_false_iff_ne.mpr c46
         have c46b1 : (((rd_T135 l0_4 (ji41)).f2) != ((rd_T135 l0_4 x32_2).f2)) = true := bne_iff_ne.mpr c46
         have H' := Aside0.mk H
         clear H
         try go_wp2
         have n0_ := Aside0.mk (blk_drew BK141.out)
         have n1_ := Aside0.mk (blk_drew BK147.out)
         have n2_ := Aside0.mk (below_drew1 HB.out)
         replace BK141 := n0_
         replace BK147 := n1_
         replace HB := n2_
         clear n0_ n1_ n2_
         have p152 : 0 ≤ ((ji41) : Int) := of_decide_eq_true (by first | (with_reducible assumption) | assumption)
         have q152 : (ji41) < (l0_4.length : Int) := of_decide_eq_true (by first | (with_reducible assumption) | assumption)
         obtain ⟨ad152, e152, hx152_0, hx152_1, hx152_2⟩ := at_T135 HR0_4.out (ji41) p152 q152
         have hw152_2 := hx152_2
         have hw152_1 := hx152_1
         have hw152_0 := hx152_0
         obtain rfl : ad146 = ad152 := (by injection e152)
         replace hx152_0 := (HB.out.cell (World.block_lt_of_cell? w _ hx152_0)).trans hx152_0
         replace hx152_1 := (HB.out.cell (World.block_lt_of_cell? w _ hx152_1)).trans hx152_1
         replace hx152_2 := (HB.out.cell (World.block_lt_of_cell? w _ hx152_2)).trans hx152_2
         replace p152 := eq_true p152
         replace q152 := eq_true q152
         have p153 : 0 ≤ ((ji41) : Int) := of_decide_eq_true (by first | (with_reducible assumption) | assumption)
         have q153 : (ji41) < (l0_4.length : Int) := of_decide_eq_true (by first | (with_reducible assumption) | assumption)
         obtain ⟨ad153, e153, hx153_0, hx153_1, hx153_2⟩ := at_T135 HR0_4.out (ji41) p153 q153
         have hw153_2 := hx153_2
         have hw153_1 := hx153_1
         have hw153_0 := hx153_0
         obtain rfl : ad146 = ad153 := (by injection e153)
         replace hx153_0 := (HB.out.cell (World.block_lt_of_cell? w _ hx153_0)).trans hx153_0
         replace hx153_1 := (HB.out.cell (World.block_lt_of_cell? w _ hx153_1)).trans hx153_1
         replace hx153_2 := (HB.out.cell (World.block_lt_of_cell? w _ hx153_2)).trans hx153_2
         replace p153 := eq_true p153
         replace q153 := eq_true q153
         refine start_ (n := 38) (S := fun w' => w'.cell? ⟨gb141, 0, none⟩ = some (.int .i64 a0_0) ∧ w'.cell? ⟨gb141, 1, none⟩ = some (.int .i64 a0_1) ∧ w'.cell? ⟨gb141, 2, none⟩ = some (.int .i64 a0_2) ∧ w'.cell? ⟨gb141, 3, none⟩ = some (.slice A0_3 l0_3.length c0_3) ∧ w'.cell? ⟨gb141, 4, none⟩ = some (.slice (some ad146) l0_4.length c0_4) ∧ w'.cell? ⟨gb147, 0, none⟩ = some (.int .i64 ((rd_T135 l0_4 x32_2).f0)) ∧ w'.cell? ⟨gb147, 1, none⟩ = some (.int .i64 ((rd_T135 l0_4 x32_2).f1)) ∧ w'.cell? ⟨gb147, 2, none⟩ = some (.int .i64 ((rd_T135 l0_4 x32_2).f2)) ∧ w'.cell? (ad146.add (((ji41)).toNat * 3)) = some (.int .i64 ((rd_T135 l0_4 (ji41)).f0)) ∧ w'.cell? ⟨(ad146.add (((ji41)).toNat * 3)).block, (ad146.add (((ji41)).toNat * 3)).off + 1, none⟩ = some (.int .i64 ((rd_T135 l0_4 (ji41)).f1)) ∧ w'.cell? ⟨(ad146.add (((ji41)).toNat * 3)).block, (ad146.add (((ji41)).toNat * 3)).off + 2, none⟩ = some (.int .i64 ((rd_T135 l0_4 (ji41)).f2)) ∧ w'.cell? (ad146.add (((ji41)).toNat * 3)) = some (.int .i64 ((rd_T135 l0_4 (ji41)).f0)) ∧ w'.cell? ⟨(ad146.add (((ji41)).toNat * 3)).block, (ad146.add (((ji41)).toNat * 3)).off + 1, none⟩ = some (.int .i64 ((rd_T135 l0_4 (ji41)).f1)) ∧ w'.cell? ⟨(ad146.add (((ji41)).toNat * 3)).block, (ad146.add (((ji41)).toNat * 3)).off + 2, none⟩ = some (.int .i64 ((rd_T135 l0_4 (ji41)).f2))) (ds := []) q77_41 (by kernel_rfl) rfl rfl ⟨(blk_cell BK141.out 0).trans rfl, (blk_cell BK141.out 1).trans rfl, (blk_cell BK141.out 2).trans rfl, (blk_cell BK141.out 3).trans rfl, (blk_cell BK141.out 4).trans rfl, (blk_cell BK147.out 0).trans rfl, (blk_cell BK147.out 1).trans rfl, (blk_cell BK147.out 2).trans rfl, (bcl_ HB.out hw152_0 :), (bcl_ HB.out hw152_1 :), (bcl_ HB.out hw152_2 :), (bcl_ HB.out hw153_0 :), (bcl_ HB.out hw153_1 :), (bcl_ HB.out hw153_2 :)⟩ (fun hHeld => ?_); refine with_tabW impl_IsDispatcher.tab8 impl_IsDispatcher.bits8 (fun HT_ HW_ => ?_)
         generalize wc.drew = w48 at BK141 BK147 HB hx152_0 hx152_1 hx152_2 hx153_0 hx153_1 hx153_2 hHeld ⊢
         refine pup_ (i := 0) (N := some 68) HT_ rfl rfl (by kernel_rfl) (fun _ _ _ h => h) (Or.inl ⟨by rfl, by intro w'; go_simp; with_reducible rfl⟩) (by simp only [aq_]; rfl) ?_
         refine pup_ (i := 1) (N := some 69) HT_ rfl rfl (by kernel_rfl) (fun _ _ _ h => h) (Or.inl ⟨by rfl, by intro w'; go_simp; with_reducible rfl⟩) (by simp only [aq_]; rfl) ?_
         refine pup_ (i := 2) (N := some 70) HT_ rfl rfl (by kernel_rfl) (fun _ _ _ h => h) (Or.inl ⟨by rfl, by intro w'; go_simp; with_reducible rfl⟩) (by simp only [aq_]; rfl) ?_
         refine pup_ (i := 3) (N := some 71) HT_ rfl rfl (by kernel_rfl) (fun _ _ _ h => h) (Or.inl ⟨by rfl, by intro w'; go_simp; with_reducible rfl⟩) (by simp only [aq_]; rfl) ?_
         refine pup_ (i := 5) (N := some 73) HT_ rfl rfl (by kernel_rfl) (fun _ _ _ h => h) (Or.inl ⟨by rfl, by intro w'; go_simp; with_reducible rfl⟩) (by simp only [aq_]; rfl) ?_
         refine pup_ (i := 6) (N := some 74) HT_ rfl rfl (by kernel_rfl) (fun _ _ _ h => h) (Or.inl ⟨by rfl, by intro w'; go_simp; with_reducible rfl⟩) (by simp only [aq_]; rfl) ?_
         refine pup_ (i := 10) (N := some 78) HT_ rfl rfl (by kernel_rfl) (fun _ _ _ h => h) (Or.inl ⟨by rfl, by intro w'; go_simp; with_reducible rfl⟩) (by simp only [aq_]; rfl) ?_
         refine take_ (i := 4) (N := some 72) (v := ?_) (a' := ?_) q77_49 rfl rfl (take_ofW HT_.out HW_.out (by kernel_rfl)) (fun _ _ _ h => h) (Or.inl ⟨by rfl, ?_⟩) hHeld ?_ ?_
         rotate_left
         ·rintro w' ⟨s0, s1, s2, s3, s4, s5, s6, s7, s8, s9, s10, s11, s12, s13⟩
          go_simp
          with_reducible rfl
         rotate_left
         ·simp only [aq_]
          rfl
         refine pup_ (i := 7) (N := some 75) HT_ rfl rfl (by kernel_rfl) (fun _ _ _ h => h) (Or.inl ⟨by rfl, by intro w'; go_simp; with_reducible rfl⟩) (by simp only [aq_]; rfl) ?_
         refine pup_ (i := 8) (N := some 76) HT_ rfl rfl (by kernel_rfl) (fun _ _ _ h => h) (Or.inl ⟨by rfl, by intro w'; go_simp; with_reducible rfl⟩) (by simp only [aq_]; rfl) ?_
         refine take_ (i := 9) (N := some 77) (v := ?_) (a' := ?_) q77_52 rfl rfl (take_ofW HT_.out HW_.out (by kernel_rfl)) (fun _ _ _ h => h) (Or.inl ⟨by rfl, ?_⟩) hHeld ?_ ?_
         rotate_left
         ·rintro w' ⟨s0, s1, s2, s3, s4, s5, s6, s7, s8, s9, s10, s11, s12, s13⟩
          go_simp
          with_reducible rfl
         rotate_left
         ·simp only [aq_]
          rfl
         refine take_ (i := 11) (N := some 79) (v := ?_) (a' := ?_) q77_53 rfl rfl (take_ofW HT_.out HW_.out (by kernel_rfl)) (fun _ _ _ h => h) (Or.inl ⟨by rfl, ?_⟩) hHeld ?_ ?_
         rotate_left
         ·rintro w' ⟨s0, s1, s2, s3, s4, s5, s6, s7, s8, s9, s10, s11, s12, s13⟩
          go_simp
          with_reducible rfl
         rotate_left
         ·simp only [aq_]
          rfl
         refine pup_ (i := 12) (N := some 80) HT_ rfl rfl (by kernel_rfl) (fun _ _ _ h => h) (Or.inl ⟨by rfl, by intro w'; go_simp; with_reducible rfl⟩) (by simp only [aq_]; rfl) ?_
         refine pup_ (i := 13) (N := some 81) HT_ rfl rfl (by kernel_rfl) (fun _ _ _ h => h) (Or.inl ⟨by rfl, by intro w'; go_simp; with_reducible rfl⟩) (by simp only [aq_]; rfl) ?_
         refine pup_ (i := 14) (N := some 82) HT_ rfl rfl (by kernel_rfl) (fun _ _ _ h => h) (Or.inl ⟨by rfl, by intro w'; go_simp; with_reducible rfl⟩) (by simp only [aq_]; rfl) ?_
         refine pup_ (i := 16) (N := some 84) HT_ rfl rfl (by kernel_rfl) (fun _ _ _ h => h) (Or.inl ⟨by rfl, by intro w'; go_simp; with_reducible rfl⟩) (by simp only [aq_]; rfl) ?_
         refine pup_ (i := 17) (N := some 85) HT_ rfl rfl (by kernel_rfl) (fun _ _ _ h => h) (Or.inl ⟨by rfl, by intro w'; go_simp; with_reducible rfl⟩) (by simp only [aq_]; rfl) ?_
         refine pup_ (i := 21) (N := some 89) HT_ rfl rfl (by kernel_rfl) (fun _ _ _ h => h) (Or.inl ⟨by rfl, by intro w'; go_simp; with_reducible rfl⟩) (by simp only [aq_]; rfl) ?_
         refine take_ (i := 15) (N := some 83) (v := ?_) (a' := ?_) q77_83 rfl rfl (take_ofW HT_.out HW_.out (by kernel_rfl)) (fun _ _ _ h => h) (Or.inl ⟨by rfl, ?_⟩) hHeld ?_ ?_
         rotate_left
         ·rintro w' ⟨s0, s1, s2, s3, s4, s5, s6, s7, s8, s9, s10, s11, s12, s13⟩
          go_simp
          with_reducible rfl
         rotate_left
         ·simp only [aq_]
          rfl
         refine pup_ (i := 18) (N := some 86) HT_ rfl rfl (by kernel_rfl) (fun _ _ _ h => h) (Or.inl ⟨by rfl, by intro w'; go_simp; with_reducible rfl⟩) (by simp only [aq_]; rfl) ?_
         refine pup_ (i := 19) (N := some 87) HT_ rfl rfl (by kernel_rfl) (fun _ _ _ h => h) (Or.inl ⟨by rfl, by intro w'; go_simp; with_reducible rfl⟩) (by simp only [aq_]; rfl) ?_
         refine take_ (i := 20) (N := some 88) (v := ?_) (a' := ?_) q77_63 rfl rfl (take_ofW HT_.out HW_.out (by kernel_rfl)) (fun _ _ _ h => h) (Or.inl ⟨by rfl, ?_⟩) hHeld ?_ ?_
         rotate_left
         ·rintro w' ⟨s0, s1, s2, s3, s4, s5, s6, s7, s8, s9, s10, s11, s12, s13⟩
          go_simp
          with_reducible rfl
         rotate_left
         ·simp only [aq_]
          rfl
         refine take_ (i := 22) (N := some 90) (v := ?_) (a' := ?_) q77_64 rfl rfl (take_ofW HT_.out HW_.out (by kernel_rfl)) (fun _ _ _ h => h) (Or.inl ⟨by rfl, ?_⟩) hHeld ?_ ?_
         rotate_left
         ·rintro w' ⟨s0, s1, s2, s3, s4, s5, s6, s7, s8, s9, s10, s11, s12, s13⟩
          go_simp
          with_reducible rfl
         rotate_left
         ·simp only [aq_]
          rfl
         refine pup_ (i := 23) (N := some 91) HT_ rfl rfl (by kernel_rfl) (fun _ _ _ h => h) (Or.inl ⟨by rfl, by intro w'; go_simp; with_reducible rfl⟩) (by simp only [aq_]; rfl) ?_
         refine pup_ (i := 24) (N := some 92) HT_ rfl rfl (by kernel_rfl) (fun _ _ _ h => h) (Or.inl ⟨by rfl, by intro w'; go_simp; with_reducible rfl⟩) (by simp only [aq_]; rfl) ?_
         refine skp_ HT_ 25 (some 93) rfl rfl (by kernel_rfl) (fun _ _ _ h => h) (by rfl) (by simp only [aq_]; rfl) ?_
         refine skp_ HT_ 26 (some 94) rfl rfl (by kernel_rfl) (fun _ _ _ h => h) (by rfl) (by simp only [aq_]; rfl) ?_
         refine skp_ HT_ 27 (some 95) rfl rfl (by kernel_rfl) (fun _ _ _ h => h) (by rfl) (by simp only [aq_]; rfl) ?_
         refine skp_ HT_ 28 (some 96) rfl rfl (by kernel_rfl) (fun _ _ _ h => h) (by rfl) (by simp only [aq_]; rfl) ?_
         refine skp_ HT_ 29 (some 97) rfl rfl (by kernel_rfl) (fun _ _ _ h => h) (by rfl) (by simp only [aq_]; rfl) ?_
         refine skp_ HT_ 30 (some 98) rfl rfl (by kernel_rfl) (fun _ _ _ h => h) (by rfl) (by simp only [aq_]; rfl) ?_
         refine skp_ HT_ 31 (some 99) rfl rfl (by kernel_rfl) (fun _ _ _ h => h) (by rfl) (by simp only [aq_]; rfl) ?_
         refine skp_ HT_ 32 (some 100) rfl rfl (by kernel_rfl) (fun _ _ _ h => h) (by rfl) (by simp only [aq_]; rfl) ?_
         refine skp_ HT_ 33 (some 101) rfl rfl (by kernel_rfl) (fun _ _ _ h => h) (by rfl) (by simp only [aq_]; rfl) ?_
         refine skp_ HT_ 34 (some 102) rfl rfl (by kernel_rfl) (fun _ _ _ h => h) (by rfl) (by simp only [aq_]; rfl) ?_
         refine pup_ (i := 35) (N := some 103) HT_ rfl rfl (by kernel_rfl) (fun _ _ _ h => h) (Or.inl ⟨by rfl, by intro w'; go_simp; with_reducible rfl⟩) (by simp only [aq_]; rfl) ?_
         refine pup_ (i := 36) (N := some 104) HT_ rfl rfl (by kernel_rfl) (fun _ _ _ h => h) (Or.inl ⟨by rfl, by intro w'; go_simp; with_reducible rfl⟩) (by simp only [aq_]; rfl) ?_
         refine pup_ (i := 37) (N := some 105) HT_ rfl rfl (by kernel_rfl) (fun _ _ _ h => h) (Or.inl ⟨by rfl, by intro w'; go_simp; with_reducible rfl⟩) (by simp only [aq_]; rfl) ?_
         refine done_ (done_of HT_.out (by kernel_rfl)) ?_
         try go_wp2
         go_meet
         case rel => exact ⟨_, (false), (by first | rfl | (simp; done) | (simp [*]; done)), H', ⟨by have := HJ1.out; have := HK2.out; have := HJ20.out; first | omega | exact Nat.le_refl _⟩, ⟨bs BK141.out⟩, ⟨bs BK147.out⟩, ⟨by repeat (first | (with_reducible first | exact bw HB.out | refine bset ?_ | apply bA | apply bN | apply bD) | exact HB.out)⟩⟩
        rw [if_pos c46] at H
        have c46b0 : (((rd_T135 l0_4 (ji41)).f2) == ((rd_T135 l0_4 x32_2).f2)) = true := beq_iff_eq.mpr c46
        have c46b1 : (((rd_T135 l0_4 (ji41)).f2) != ((rd_T135 l0_4 x32_2).f2)) = false := bne_eq_false_iff_eq.mpr c46
        clear c46
        have H' := Aside0.mk H
        clear H
        try go_wp2
        have n0_ := Aside0.mk (blk_drew BK141.out)
        have n1_ := Aside0.mk (blk_drew BK147.out)
        have n2_ := Aside0.mk (below_drew1 HB.out)
        replace BK141 := n0_
        replace BK147 := n1_
        replace HB := n2_
        clear n0_ n1_ n2_
        have p152 : 0 ≤ ((ji41) : Int) := of_decide_eq_true (by first | (with_reducible assumption) | assumption)
        have q152 : (ji41) < (l0_4.length : Int) := of_decide_eq_true (by first | (with_reducible assumption) | assumption)
        obtain ⟨ad152, e152, hx152_0, hx152_1, hx152_2⟩ := at_T135 HR0_4.out (ji41) p152 q152
        have hw152_2 := hx152_2
        have hw152_1 := hx152_1
        have hw152_0 := hx152_0
        obtain rfl : ad146 = ad152 := (by injection e152)
        replace hx152_0 := (HB.out.cell (World.block_lt_of_cell? w _ hx152_0)).trans hx152_0
        replace hx152_1 := (HB.out.cell (World.block_lt_of_cell? w _ hx152_1)).trans hx152_1
        replace hx152_2 := (HB.out.cell (World.block_lt_of_cell? w _ hx152_2)).trans hx152_2
        replace p152 := eq_true p152
        replace q152 := eq_true q152
        have p153 : 0 ≤ ((ji41) : Int) := of_decide_eq_true (by first | (with_reducible assumption) | assumption)
        have q153 : (ji41) < (l0_4.length : Int) := of_decide_eq_true (by first | (with_reducible assumption) | assumption)
        obtain ⟨ad153, e153, hx153_0, hx153_1, hx153_2⟩ := at_T135 HR0_4.out (ji41) p153 q153
        have hw153_2 := hx153_2
        have hw153_1 := hx153_1
        have hw153_0 := hx153_0
        obtain rfl : ad146 = ad153 := (by injection e153)
        replace hx153_0 := (HB.out.cell (World.block_lt_of_cell? w _ hx153_0)).trans hx153_0
        replace hx153_1 := (HB.out.cell (World.block_lt_of_cell? w _ hx153_1)).trans hx153_1
        replace hx153_2 := (HB.out.cell (World.block_lt_of_cell? w _ hx153_2)).trans hx153_2
        replace p153 := eq_true p153
        replace q153 := eq_true q153
        have p154 : 0 ≤ ((ji41) : Int) := of_decide_eq_true (by first | (with_reducible assumption) | assumption)
        have q154 : (ji41) < (l0_4.length : Int) := of_decide_eq_true (by first | (with_reducible assumption) | assumption)
        obtain ⟨ad154, e154, hx154_0, hx154_1, hx154_2⟩ := at_T135 HR0_4.out (ji41) p154 q154
        have hw154_2 := hx154_2
        have hw154_1 := hx154_1
        have hw154_0 := hx154_0
        obtain rfl : ad146 = ad154 := (by injection e154)
        replace hx154_0 := (HB.out.cell (World.block_lt_of_cell? w _ hx154_0)).trans hx154_0
        replace hx154_1 := (HB.out.cell (World.block_lt_of_cell? w _ hx154_1)).trans hx154_1
        replace hx154_2 := (HB.out.cell (World.block_lt_of_cell? w _ hx154_2)).trans hx154_2
        replace p154 := eq_true p154
        replace q154 := eq_true q154
        refine start_ (n := 38) (S := fun w' => w'.cell? ⟨gb141, 0, none⟩ = some (.int .i64 a0_0) ∧ w'.cell? ⟨gb141, 1, none⟩ = some (.int .i64 a0_1) ∧ w'.cell? ⟨gb141, 2, none⟩ = some (.int .i64 a0_2) ∧ w'.cell? ⟨gb141, 3, none⟩ = some (.slice A0_3 l0_3.length c0_3) ∧ w'.cell? ⟨gb141, 4, none⟩ = some (.slice (some ad146) l0_4.length c0_4) ∧ w'.cell? ⟨gb147, 0, none⟩ = some (.int .i64 ((rd_T135 l0_4 x32_2).f0)) ∧ w'.cell? ⟨gb147, 1, none⟩ = some (.int .i64 ((rd_T135 l0_4 x32_2).f1)) ∧ w'.cell? ⟨gb147, 2, none⟩ = some (.int .i64 ((rd_T135 l0_4 x32_2).f2)) ∧ w'.cell? (ad146.add (((ji41)).toNat * 3)) = some (.int .i64 ((rd_T135 l0_4 (ji41)).f0)) ∧ w'.cell? ⟨(ad146.add (((ji41)).toNat * 3)).block, (ad146.add (((ji41)).toNat * 3)).off + 1, none⟩ = some (.int .i64 ((rd_T135 l0_4 (ji41)).f1)) ∧ w'.cell? ⟨(ad146.add (((ji41)).toNat * 3)).block, (ad146.add (((ji41)).toNat * 3)).off + 2, none⟩ = some (.int .i64 ((rd_T135 l0_4 (ji41)).f2)) ∧ w'.cell? (ad146.add (((ji41)).toNat * 3)) = some (.int .i64 ((rd_T135 l0_4 (ji41)).f0)) ∧ w'.cell? ⟨(ad146.add (((ji41)).toNat * 3)).block, (ad146.add (((ji41)).toNat * 3)).off + 1, none⟩ = some (.int .i64 ((rd_T135 l0_4 (ji41)).f1)) ∧ w'.cell? ⟨(ad146.add (((ji41)).toNat * 3)).block, (ad146.add (((ji41)).toNat * 3)).off + 2, none⟩ = some (.int .i64 ((rd_T135 l0_4 (ji41)).f2)) ∧ w'.cell? (ad146.add (((ji41)).toNat * 3)) = some (.int .i64 ((rd_T135 l0_4 (ji41)).f0)) ∧ w'.cell? ⟨(ad146.add (((ji41)).toNat * 3)).block, (ad146.add (((ji41)).toNat * 3)).off + 1, none⟩ = some (.int .i64 ((rd_T135 l0_4 (ji41)).f1)) ∧ w'.cell? ⟨(ad146.add (((ji41)).toNat * 3)).block, (ad146.add (((ji41)).toNat * 3)).off + 2, none⟩ = some (.int .i64 ((rd_T135 l0_4 (ji41)).f2))) (ds := []) q77_41 (by kernel_rfl) rfl rfl ⟨(blk_cell BK141.out 0).trans rfl, (blk_cell BK141.out 1).trans rfl, (blk_cell BK141.out 2).trans rfl, (blk_cell BK141.out 3).trans rfl, (blk_cell BK141.out 4).trans rfl, (blk_cell BK147.out 0).trans rfl, (blk_cell BK147.out 1).trans rfl, (blk_cell BK147.out 2).trans rfl, (bcl_ HB.out hw152_0 :), (bcl_ HB.out hw152_1 :), (bcl_ HB.out hw152_2 :), (bcl_ HB.out hw153_0 :), (bcl_ HB.out hw153_1 :), (bcl_ HB.out hw153_2 :), (bcl_ HB.out hw154_0 :), (bcl_ HB.out hw154_1 :), (bcl_ HB.out hw154_2 :)⟩ (fun hHeld => ?_); refine with_tabW impl_IsDispatcher.tab8 impl_IsDispatcher.bits8 (fun HT_ HW_ => ?_)
        generalize wc.drew = w47 at BK141 BK147 HB hx152_0 hx152_1 hx152_2 hx153_0 hx153_1 hx153_2 hx154_0 hx154_1 hx154_2 hHeld ⊢
        refine pup_ (i := 0) (N := some 68) HT_ rfl rfl (by kernel_rfl) (fun _ _ _ h => h) (Or.inl ⟨by rfl, by intro w'; go_simp; with_reducible rfl⟩) (by simp only [aq_]; rfl) ?_
        refine pup_ (i := 1) (N := some 69) HT_ rfl rfl (by kernel_rfl) (fun _ _ _ h => h) (Or.inl ⟨by rfl, by intro w'; go_simp; with_reducible rfl⟩) (by simp only [aq_]; rfl) ?_
        refine pup_ (i := 2) (N := some 70) HT_ rfl rfl (by kernel_rfl) (fun _ _ _ h => h) (Or.inl ⟨by rfl, by intro w'; go_simp; with_reducible rfl⟩) (by simp only [aq_]; rfl) ?_
        refine pup_ (i := 3) (N := some 71) HT_ rfl rfl (by kernel_rfl) (fun _ _ _ h => h) (Or.inl ⟨by rfl, by intro w'; go_simp; with_reducible rfl⟩) (by simp only [aq_]; rfl) ?_
        refine pup_ (i := 5) (N := some 73) HT_ rfl rfl (by kernel_rfl) (fun _ _ _ h => h) (Or.inl ⟨by rfl, by intro w'; go_simp; with_reducible rfl⟩) (by simp only [aq_]; rfl) ?_
        refine pup_ (i := 6) (N := some 74) HT_ rfl rfl (by kernel_rfl) (fun _ _ _ h => h) (Or.inl ⟨by rfl, by intro w'; go_simp; with_reducible rfl⟩) (by simp only [aq_]; rfl) ?_
        refine pup_ (i := 10) (N := some 78) HT_ rfl rfl (by kernel_rfl) (fun _ _ _ h => h) (Or.inl ⟨by rfl, by intro w'; go_simp; with_reducible rfl⟩) (by simp only [aq_]; rfl) ?_
        refine take_ (i := 4) (N := some 72) (v := ?_) (a' := ?_) q77_49 rfl rfl (take_ofW HT_.out HW_.out (by kernel_rfl)) (fun _ _ _ h => h) (Or.inl ⟨by rfl, ?_⟩) hHeld ?_ ?_
        rotate_left
        ·rintro w' ⟨s0, s1, s2, s3, s4, s5, s6, s7, s8, s9, s10, s11, s12, s13, s14, s15, s16⟩
         go_simp
         with_reducible rfl
        rotate_left
        ·simp only [aq_]
         rfl
        refine pup_ (i := 7) (N := some 75) HT_ rfl rfl (by kernel_rfl) (fun _ _ _ h => h) (Or.inl ⟨by rfl, by intro w'; go_simp; with_reducible rfl⟩) (by simp only [aq_]; rfl) ?_
        refine pup_ (i := 8) (N := some 76) HT_ rfl rfl (by kernel_rfl) (fun _ _ _ h => h) (Or.inl ⟨by rfl, by intro w'; go_simp; with_reducible rfl⟩) (by simp only [aq_]; rfl) ?_
        refine take_ (i := 9) (N := some 77) (v := ?_) (a' := ?_) q77_52 rfl rfl (take_ofW HT_.out HW_.out (by kernel_rfl)) (fun _ _ _ h => h) (Or.inl ⟨by rfl, ?_⟩) hHeld ?_ ?_
        rotate_left
        ·rintro w' ⟨s0, s1, s2, s3, s4, s5, s6, s7, s8, s9, s10, s11, s12, s13, s14, s15, s16⟩
         go_simp
         with_reducible rfl
        rotate_left
        ·simp only [aq_]
         rfl
        refine take_ (i := 11) (N := some 79) (v := ?_) (a' := ?_) q77_53 rfl rfl (take_ofW HT_.out HW_.out (by kernel_rfl)) (fun _ _ _ h => h) (Or.inl ⟨by rfl, ?_⟩) hHeld ?_ ?_
        rotate_left
        ·rintro w' ⟨s0, s1, s2, s3, s4, s5, s6, s7, s8, s9, s10, s11, s12, s13, s14, s15, s16⟩
         go_simp
         with_reducible rfl
        rotate_left
        ·simp only [aq_]
         rfl
        refine pup_ (i := 12) (N := some 80) HT_ rfl rfl (by kernel_rfl) (fun _ _ _ h => h) (Or.inl ⟨by rfl, by intro w'; go_simp; with_reducible rfl⟩) (by simp only [aq_]; rfl) ?_
        refine pup_ (i := 13) (N := some 81) HT_ rfl rfl (by kernel_rfl) (fun _ _ _ h => h) (Or.inl ⟨by rfl, by intro w'; go_simp; with_reducible rfl⟩) (by simp only [aq_]; rfl) ?_
        refine pup_ (i := 14) (N := some 82) HT_ rfl rfl (by kernel_rfl) (fun _ _ _ h => h) (Or.inl ⟨by rfl, by intro w'; go_simp; with_reducible rfl⟩) (by simp only [aq_]; rfl) ?_
        refine pup_ (i := 16) (N := some 84) HT_ rfl rfl (by kernel_rfl) (fun _ _ _ h => h) (Or.inl ⟨by rfl, by intro w'; go_simp; with_reducible rfl⟩) (by simp only [aq_]; rfl) ?_
        refine pup_ (i := 17) (N := some 85) HT_ rfl rfl (by kernel_rfl) (fun _ _ _ h => h) (Or.inl ⟨by rfl, by intro w'; go_simp; with_reducible rfl⟩) (by simp only [aq_]; rfl) ?_
        refine pup_ (i := 21) (N := some 89) HT_ rfl rfl (by kernel_rfl) (fun _ _ _ h => h) (Or.inl ⟨by rfl, by intro w'; go_simp; with_reducible rfl⟩) (by simp only [aq_]; rfl) ?_
        refine take_ (i := 15) (N := some 83) (v := ?_) (a' := ?_) q77_83 rfl rfl (take_ofW HT_.out HW_.out (by kernel_rfl)) (fun _ _ _ h => h) (Or.inl ⟨by rfl, ?_⟩) hHeld ?_ ?_
        rotate_left
        ·rintro w' ⟨s0, s1, s2, s3, s4, s5, s6, s7, s8, s9, s10, s11, s12, s13, s14, s15, s16⟩
         go_simp
         with_reducible rfl
        rotate_left
        ·simp only [aq_]
         rfl
        refine pup_ (i := 18) (N := some 86) HT_ rfl rfl (by kernel_rfl) (fun _ _ _ h => h) (Or.inl ⟨by rfl, by intro w'; go_simp; with_reducible rfl⟩) (by simp only [aq_]; rfl) ?_
        refine pup_ (i := 19) (N := some 87) HT_ rfl rfl (by kernel_rfl) (fun _ _ _ h => h) (Or.inl ⟨by rfl, by intro w'; go_simp; with_reducible rfl⟩) (by simp only [aq_]; rfl) ?_
        refine take_ (i := 20) (N := some 88) (v := ?_) (a' := ?_) q77_63 rfl rfl (take_ofW HT_.out HW_.out (by kernel_rfl)) (fun _ _ _ h => h) (Or.inl ⟨by rfl, ?_⟩) hHeld ?_ ?_
        rotate_left
        ·rintro w' ⟨s0, s1, s2, s3, s4, s5, s6, s7, s8, s9, s10, s11, s12, s13, s14, s15, s16⟩
         go_simp
         with_reducible rfl
        rotate_left
        ·simp only [aq_]
         rfl
        refine take_ (i := 22) (N := some 90) (v := ?_) (a' := ?_) q77_64 rfl rfl (take_ofW HT_.out HW_.out (by kernel_rfl)) (fun _ _ _ h => h) (Or.inl ⟨by rfl, ?_⟩) hHeld ?_ ?_
        rotate_left
        ·rintro w' ⟨s0, s1, s2, s3, s4, s5, s6, s7, s8, s9, s10, s11, s12, s13, s14, s15, s16⟩
         go_simp
         with_reducible rfl
        rotate_left
        ·simp only [aq_]
         rfl
        refine pup_ (i := 23) (N := some 91) HT_ rfl rfl (by kernel_rfl) (fun _ _ _ h => h) (Or.inl ⟨by rfl, by intro w'; go_simp; with_reducible rfl⟩) (by simp only [aq_]; rfl) ?_
        refine pup_ (i := 24) (N := some 92) HT_ rfl rfl (by kernel_rfl) (fun _ _ _ h => h) (Or.inl ⟨by rfl, by intro w'; go_simp; with_reducible rfl⟩) (by simp only [aq_]; rfl) ?_
        refine pup_ (i := 25) (N := some 93) HT_ rfl rfl (by kernel_rfl) (fun _ _ _ h => h) (Or.inl ⟨by rfl, by intro w'; go_simp; with_reducible rfl⟩) (by simp only [aq_]; rfl) ?_
        refine pup_ (i := 27) (N := some 95) HT_ rfl rfl (by kernel_rfl) (fun _ _ _ h => h) (Or.inl ⟨by rfl, by intro w'; go_simp; with_reducible rfl⟩) (by simp only [aq_]; rfl) ?_
        refine pup_ (i := 28) (N := some 96) HT_ rfl rfl (by kernel_rfl) (fun _ _ _ h => h) (Or.inl ⟨by rfl, by intro w'; go_simp; with_reducible rfl⟩) (by simp only [aq_]; rfl) ?_
        refine pup_ (i := 32) (N := some 100) HT_ rfl rfl (by kernel_rfl) (fun _ _ _ h => h) (Or.inl ⟨by rfl, by intro w'; go_simp; with_reducible rfl⟩) (by simp only [aq_]; rfl) ?_
        refine take_ (i := 26) (N := some 94) (v := ?_) (a' := ?_) q77_89 rfl rfl (take_ofW HT_.out HW_.out (by kernel_rfl)) (fun _ _ _ h => h) (Or.inl ⟨by rfl, ?_⟩) hHeld ?_ ?_
        rotate_left
        ·rintro w' ⟨s0, s1, s2, s3, s4, s5, s6, s7, s8, s9, s10, s11, s12, s13, s14, s15, s16⟩
         go_simp
         with_reducible rfl
        rotate_left
        ·simp only [aq_]
         rfl
        refine pup_ (i := 29) (N := some 97) HT_ rfl rfl (by kernel_rfl) (fun _ _ _ h => h) (Or.inl ⟨by rfl, by intro w'; go_simp; with_reducible rfl⟩) (by simp only [aq_]; rfl) ?_
        refine pup_ (i := 30) (N := some 98) HT_ rfl rfl (by kernel_rfl) (fun _ _ _ h => h) (Or.inl ⟨by rfl, by intro w'; go_simp; with_reducible rfl⟩) (by simp only [aq_]; rfl) ?_
        refine take_ (i := 31) (N := some 99) (v := ?_) (a' := ?_) q77_74 rfl rfl (take_ofW HT_.out HW_.out (by kernel_rfl)) (fun _ _ _ h => h) (Or.inl ⟨by rfl, ?_⟩) hHeld ?_ ?_
        rotate_left
        ·rintro w' ⟨s0, s1, s2, s3, s4, s5, s6, s7, s8, s9, s10, s11, s12, s13, s14, s15, s16⟩
         go_simp
         with_reducible rfl
        rotate_left
        ·simp only [aq_]
         rfl
        refine take_ (i := 33) (N := some 101) (v := ?_) (a' := ?_) q77_75 rfl rfl (take_ofW HT_.out HW_.out (by kernel_rfl)) (fun _ _ _ h => h) (Or.inl ⟨by rfl, ?_⟩) hHeld ?_ ?_
        rotate_left
        ·rintro w' ⟨s0, s1, s2, s3, s4, s5, s6, s7, s8, s9, s10, s11, s12, s13, s14, s15, s16⟩
         go_simp
         with_reducible rfl
        rotate_left
        ·simp only [aq_]
         rfl
        refine pup_ (i := 34) (N := some 102) HT_ rfl rfl (by kernel_rfl) (fun _ _ _ h => h) (Or.inl ⟨by rfl, by intro w'; go_simp; with_reducible rfl⟩) (by simp only [aq_]; rfl) ?_
        refine pup_ (i := 35) (N := some 103) HT_ rfl rfl (by kernel_rfl) (fun _ _ _ h => h) (Or.inl ⟨by rfl, by intro w'; go_simp; with_reducible rfl⟩) (by simp only [aq_]; rfl) ?_
        refine pup_ (i := 36) (N := some 104) HT_ rfl rfl (by kernel_rfl) (fun _ _ _ h => h) (Or.inl ⟨by rfl, by intro w'; go_simp; with_reducible rfl⟩) (by simp only [aq_]; rfl) ?_
        refine pup_ (i := 37) (N := some 105) HT_ rfl rfl (by kernel_rfl) (fun _ _ _ h => h) (Or.inl ⟨by rfl, by intro w'; go_simp; with_reducible rfl⟩) (by simp only [aq_]; rfl) ?_
        refine done_ (done_of HT_.out (by kernel_rfl)) ?_
        try go_wp2
        go_meet
        case rel => exact ⟨_, (decide (((rd_T135 l0_4 (ji41)).f1) ≥ ((rd_T135 l0_4 x32_2).f1))), (by first | rfl | (simp; done) | (simp only [← hji41] <;> (first | rfl | simp)) | (simp [*]; done)), H', ⟨by have := HJ1.out; have := HK2.out; have := HJ20.out; first | omega | exact Nat.le_refl _⟩, ⟨bs BK141.out⟩, ⟨bs BK147.out⟩, ⟨by repeat (first | (with_reducible first | exact bw HB.out | refine bset ?_ | apply bA | apply bN | apply bD) | exact HB.out)⟩⟩
       case rest =>
        clear HC39
        try clear p1
        try clear q1
        try clear hx1
        try clear p2
        try clear c4
        try clear p15
        try clear q15
        try clear hx15
        try clear c40
        try clear c40b0
        try clear c42
        try clear c43
        try clear c46
        try clear c46b0
        try clear c46b1
        try clear hx152_0
        try clear hx152_1
        try clear hx152_2
        try clear hx153_0
        try clear hx153_1
        try clear hx153_2
        try clear p152
        try clear p153
        try clear q152
        try clear q153
        obtain ⟨kq, x105_38, rfl, HA, HJ38, BK141, BK147, HB⟩ := hcut
        cases kq with
        | zero => exact absurd HA.out (by simp [impl_IsDispatcher.j3])
        | succ kj38 =>
         have H := HA.out
         clear HA
         simp only [impl_IsDispatcher.j3] at H
         by_cases c50 : x105_38 = true
         ·subst c50
          have H1 : (some false) = some r := by rw [if_pos rfl] at H; exact H
          clear H
          have H := H1
          clear H1
          obtain rfl := Option.some.inj H
          go_wp2
          go_ret
          exact ⟨by first | rfl | (simp [errW_none, errW_some] <;> rfl) | (simp [*, errW_none, errW_some] <;> rfl), by repeat (first | (with_reducible first | exact bw HB.out | refine bset ?_ | apply bA | apply bN | apply bD) | exact HB.out)⟩
         replace c50 := Bool.eq_false_iff.mpr c50
         subst c50
         have H1 : (if 0 ≤ x32_2 then (if x32_2 ≤ (l0_4.length : Int) then ((some (l0_4.take (x32_2 : Int).toNat : List (S135))).bind fun y155 => (impl_IsDispatcher.l1 kj38 l0_4 (l0_4.length : Int) x32_2 y155 (y155.length : Int) 0 a0_0 a0_1 a0_2 l0_3 l0_4 ((rd_T135 l0_4 x32_2).f0) ((rd_T135 l0_4 x32_2).f1) ((rd_T135 l0_4 x32_2).f2))) else (none)) else (none)) = some r := by rw [if_neg (show ¬ (false = true) by decide)] at H; exact H
         clear H
         have H := H1
         clear H1
         by_cases c51 : 0 ≤ x32_2
         rotate_left
         ·rw [if_neg c51] at H
          exact absurd H (by simp)
         rw [if_pos c51] at H
         have c51b0 := eq_true c51
         have c51b1 : decide (0 ≤ x32_2) = true := decide_eq_true c51
         clear c51
         by_cases c52 : x32_2 ≤ (l0_4.length : Int)
         rotate_left
         ·rw [if_neg c52] at H
          exact absurd H (by simp)
         rw [if_pos c52] at H
         have c52b0 := eq_true c52
         have c52b1 : decide (x32_2 ≤ (l0_4.length : Int)) = true := decide_eq_true c52
         clear c52
         obtain ⟨y155, hy155⟩ : ∃ y_ : List (S135), y_ = (l0_4.take (x32_2 : Int).toNat) := ⟨_, rfl⟩
         replace H : (impl_IsDispatcher.l1 kj38 l0_4 (l0_4.length : Int) x32_2 y155 (y155.length : Int) 0 a0_0 a0_1 a0_2 l0_3 l0_4 ((rd_T135 l0_4 x32_2).f0) ((rd_T135 l0_4 x32_2).f1) ((rd_T135 l0_4 x32_2).f2)) = some r := by first | (rw [hy155]; with_reducible exact H) | (have H2_ := (Option.bind_some _ _).symm.trans H; rw [hy155]; with_reducible exact H2_) | (have H2_ := (Option.bind_some _ _).symm.trans H; with_reducible exact H2_) | with_reducible exact H | (rw [hy155]; exact H) | exact H
         have Ny155 := Aside0.mk hy155
         clear hy155
         have H' := Aside0.mk H
         clear H
         have hnb53 := NB141_147.out
         have hnc53 := NB147_141.out
         obtain ⟨hcz54_0, hcz54_1, hcz54_2, hcz54_3, hcz54_4, hfz54_0, hfz54_1, hfz54_2, hfz54_3, hfz54_4⟩ := bz5 BK141.out
         have q55 : (x32_2 : Int) ≤ ((l0_4.length : Int) : Int) := of_decide_eq_true (by first | (with_reducible assumption) | assumption)
         obtain ⟨i055, hi055, _, hsz55, _⟩ := info_parts info135
         have hroom55 : l0_4.length ≤ c0_4 := HC0_4.out
         have hC55 : Kd.C k135 _ (some ad146) l0_4.length l0_4 := HR0_4.out
         have hcut55 := cut_to (P := Try.prog) 23 135 .i64 Try.underlying23 hi055 (some ad146) l0_4.length c0_4 x32_2 (of_decide_eq_true (by first | (with_reducible assumption) | assumption)) q55 hroom55
         have hr55 := Kd.C_take (m := (x32_2 : Int).toNat) hC55 (by omega)
         have hy55 : y155.length = (x32_2 : Int).toNat := (by rw [Ny155.out, List.length_take]; omega)
         rw [← Ny155.out] at hr55
         rw [← hy55] at hcut55
         have HR158 := Aside0.mk hr55
         have HC158 := Aside0.mk (show y155.length ≤ c0_4 from by omega)
         clear hr55 hC55 hroom55 hi055 hsz55
         have KY55 := Aside0.mk hy55
         clear hy55
         replace q55 := eq_true q55
         go_wp2
         go_loopg [111] kj38 (fun kq v111 w' => ∃ (x111_5 : Int), v111 = .int .i64 x111_5 ∧ Aside0 (impl_IsDispatcher.l1 kq l0_4 (l0_4.length : Int) x32_2 y155 (y155.length : Int) x111_5 a0_0 a0_1 a0_2 l0_3 l0_4 ((rd_T135 l0_4 x32_2).f0) ((rd_T135 l0_4 x32_2).f1) ((rd_T135 l0_4 x32_2).f2) = some r) ∧ Aside0 (kq ≤ kj38) ∧ Aside0 (w'.heap[gb141]? = some (.cells #[.int .i64 a0_0, .int .i64 a0_1, .int .i64 a0_2, (.slice A0_3 l0_3.length c0_3), (.slice (some ad146) l0_4.length c0_4)] 25 (0, 0))) ∧ Aside0 (w'.heap[gb147]? = some (.cells #[.int .i64 ((rd_T135 l0_4 x32_2).f0), .int .i64 ((rd_T135 l0_4 x32_2).f1), .int .i64 ((rd_T135 l0_4 x32_2).f2)] 135 (0, 0))) ∧ Aside0 (Below w.heap.size w w'))
         case atStart => exact ⟨(0), (by first | rfl | (simp; done) | (simp [*]; done)), H', ⟨Nat.le_refl _⟩, ⟨bs BK141.out⟩, ⟨bs BK147.out⟩, ⟨by repeat (first | (with_reducible first | exact bw HB.out | refine bset ?_ | apply bA | apply bN | apply bD) | exact HB.out)⟩⟩
         case round =>
          clear H'
          try clear p1
          try clear q1
          try clear hx1
          try clear p2
          try clear c4
          try clear c5
          try clear q5
          try clear p15
          try clear q15
          try clear hx15
          try clear c40
          try clear c40b0
          try clear c42
          try clear c43
          try clear c46
          try clear c46b0
          try clear c46b1
          try clear c50
          try clear c51
          try clear c51b0
          try clear c51b1
          try clear c52
          try clear c52b0
          try clear c52b1
          try clear c53
          try clear q55
          try clear hcz54_0
          try clear hcz54_1
          try clear hcz54_2
          try clear hcz54_3
          try clear hcz54_4
          try clear hfz54_0
          try clear hfz54_1
          try clear hfz54_2
          try clear hfz54_3
          try clear hfz54_4
          try clear hx152_0
          try clear hx152_1
          try clear hx152_2
          try clear hx153_0
          try clear hx153_1
          try clear hx153_2
          try clear p1
          try clear p15
          try clear p152
          try clear p153
          try clear p2
          try clear q1
          try clear q15
          try clear q152
          try clear q153
          try clear q55
          obtain ⟨x111_5, rfl, HA, HK5, BK141, BK147, HB⟩ := hrel
          cases gk with
          | zero => exact absurd HA.out (by simp [impl_IsDispatcher.l1])
          | succ k5 =>
           have H := HA.out
           clear HA
           simp only [impl_IsDispatcher.l1] at H
           by_cases c56 : x111_5 < (y155.length : Int)
           rotate_left
           ·rw [if_neg c56] at H
            have c56b0 : decide (x111_5 < (y155.length : Int)) = false := decide_eq_false c56
            clear c56
            have H' := Aside0.mk H
            clear H
            go_wp2
            go_roundg k5
            case measure => have := HJ1.out; have := HK2.out; have := HJ20.out; have := HJ38.out; have := HK5.out; omega
            case rel => exact ⟨(wrap64 (x32_2 + 1)), (by first | rfl | (simp; done) | (simp [*]; done)), H', ⟨by have := HJ1.out; have := HK2.out; have := HJ20.out; have := HJ38.out; have := HK5.out; omega⟩, ⟨bs BK141.out⟩, ⟨by repeat (first | (with_reducible first | exact bw HB.out | refine bset ?_ | apply bA | apply bN | apply bD) | exact HB.out)⟩⟩
           rw [if_pos c56] at H
           have c56b0 : decide (x111_5 < (y155.length : Int)) = true := decide_eq_true c56
           clear c56
           by_cases c57 : 0 ≤ x111_5
           rotate_left
           ·rw [if_neg c57] at H
            exact absurd H (by simp)
           rw [if_pos c57] at H
           have c57b0 : decide (0 ≤ x111_5) = true := decide_eq_true c57
           clear c57
           by_cases c58 : x111_5 < (y155.length : Int)
           rotate_left
           ·rw [if_neg c58] at H
            exact absurd H (by simp)
           rw [if_pos c58] at H
           have c58b0 : decide (x111_5 < (y155.length : Int)) = true := decide_eq_true c58
           clear c58
           by_cases c59 : ((rd_T135 y155 x111_5).f0) = ((rd_T135 l0_4 x32_2).f0)
           ·rw [if_pos c59] at H
            have c59b0 : (((rd_T135 y155 x111_5).f0) == ((rd_T135 l0_4 x32_2).f0)) = true := beq_iff_eq.mpr c59
            have c59b1 : (((rd_T135 y155 x111_5).f0) != ((rd_T135 l0_4 x32_2).f0)) = false := bne_eq_false_iff_eq.mpr c59
            clear c59
            obtain rfl := Option.some.inj H
            have p159 : 0 ≤ (x111_5 : Int) := of_decide_eq_true (by first | (with_reducible assumption) | assumption)
            have q159 : x111_5 < (y155.length : Int) := of_decide_eq_true (by first | (with_reducible assumption) | assumption)
            obtain ⟨ad159, e159, hx159_0, hx159_1, hx159_2⟩ := at_T135 HR158.out x111_5 p159 q159
            obtain rfl : ad146 = ad159 := (by injection e159)
            replace hx159_0 := (HB.out.cell (World.block_lt_of_cell? w _ hx159_0)).trans hx159_0
            replace hx159_1 := (HB.out.cell (World.block_lt_of_cell? w _ hx159_1)).trans hx159_1
            replace hx159_2 := (HB.out.cell (World.block_lt_of_cell? w _ hx159_2)).trans hx159_2
            replace p159 := eq_true p159
            replace q159 := eq_true q159
            try go_wp2_with (first | ((with_reducible refine gate_dst (N := 6) rfl ?_); refine box_event ?hg (N := 6) ?hd (cs := #[.int .i64 0, .int .i64 0, .int .i64 0]) (t := 135) ?hr ?_; (case hd => rfl); (case hg => rfl); (case hr => first | (go_simp; done) | (go_simp; rfl)); intro gb160 hg w60 hbox hb; have n0_ := Aside0.mk (blk_below (bs BK141.out) hb); have n1_ := Aside0.mk (blk_below (bs BK147.out) hb); have n2_ := Aside0.mk (below_step (by repeat (first | (with_reducible first | exact bw HB.out | refine bset ?_ | apply bA | apply bN | apply bD) | exact HB.out)) hb); have n3_ := Aside0.mk (hbox); have n4_ := Aside0.mk ((by rw [hg]; exact (below_size (by repeat (first | (with_reducible first | exact bw HB.out | refine bset ?_ | apply bA | apply bN | apply bD) | exact HB.out))) : w.heap.size ≤ gb160)); have n5_ := Aside0.mk ((by rw [hg]; exact (below_size (by repeat (first | (with_reducible first | exact bw HB.out | refine bset ?_ | apply bA | apply bN | apply bD) | exact HB.out))) : w.heap.size ≤ gb160)); have n6_ := ne_ hg BK141.out; have n7_ := en_ hg BK141.out; have n8_ := ne_ hg BK147.out; have n9_ := en_ hg BK147.out; replace BK141 := n0_; replace BK147 := n1_; replace HB := n2_; have BK160 := n3_; have GW160 := n4_; have GE160 := n5_; have NB141_160 := n6_; have NB160_141 := n7_; have NB147_160 := n8_; have NB160_147 := n9_; clear n0_ n1_ n2_ n3_ n4_ n5_ n6_ n7_ n8_ n9_; clear hb hbox hg; have hnb61 := NB160_141.out; have hnc61 := NB141_160.out; have hnb62 := NB160_147.out; have hnc62 := NB147_160.out; obtain ⟨hcz63_0, hcz63_1, hcz63_2, hfz63_0, hfz63_1, hfz63_2⟩ := bz3 BK160.out))
            have n0_ : Aside0 ((((w60.setCell ⟨gb160, 0, none⟩ (.int .i64 ((rd_T135 y155 x111_5).f0))).setCell ⟨gb160, 1, none⟩ (.int .i64 ((rd_T135 y155 x111_5).f1))).setCell ⟨gb160, 2, none⟩ (.int .i64 ((rd_T135 y155 x111_5).f2))).heap[gb141]? = some (.cells #[.int .i64 a0_0, .int .i64 a0_1, .int .i64 a0_2, .slice A0_3 l0_3.length c0_3, .slice (some ad146) l0_4.length c0_4] 25 (0, 0))) := ⟨by (with_reducible repeat (first | refine blk_drewN ?_ _ | refine blk_drew ?_ | refine blk_alloc ?_ _)); refine blk_far ?_ NB141_160.out _; (with_reducible repeat (first | refine blk_drewN ?_ _ | refine blk_drew ?_ | refine blk_alloc ?_ _)); refine blk_far ?_ NB141_160.out _; (with_reducible repeat (first | refine blk_drewN ?_ _ | refine blk_drew ?_ | refine blk_alloc ?_ _)); refine blk_far ?_ NB141_160.out _; exact bs BK141.out⟩
            have n1_ : Aside0 ((((w60.setCell ⟨gb160, 0, none⟩ (.int .i64 ((rd_T135 y155 x111_5).f0))).setCell ⟨gb160, 1, none⟩ (.int .i64 ((rd_T135 y155 x111_5).f1))).setCell ⟨gb160, 2, none⟩ (.int .i64 ((rd_T135 y155 x111_5).f2))).heap[gb147]? = some (.cells #[.int .i64 ((rd_T135 l0_4 x32_2).f0), .int .i64 ((rd_T135 l0_4 x32_2).f1), .int .i64 ((rd_T135 l0_4 x32_2).f2)] 135 (0, 0))) := ⟨by (with_reducible repeat (first | refine blk_drewN ?_ _ | refine blk_drew ?_ | refine blk_alloc ?_ _)); refine blk_far ?_ NB147_160.out _; (with_reducible repeat (first | refine blk_drewN ?_ _ | refine blk_drew ?_ | refine blk_alloc ?_ _)); refine blk_far ?_ NB147_160.out _; (with_reducible repeat (first | refine blk_drewN ?_ _ | refine blk_drew ?_ | refine blk_alloc ?_ _)); refine blk_far ?_ NB147_160.out _; exact bs BK147.out⟩
            have n2_ : Aside0 ((((w60.setCell ⟨gb160, 0, none⟩ (.int .i64 ((rd_T135 y155 x111_5).f0))).setCell ⟨gb160, 1, none⟩ (.int .i64 ((rd_T135 y155 x111_5).f1))).setCell ⟨gb160, 2, none⟩ (.int .i64 ((rd_T135 y155 x111_5).f2))).heap[gb160]? = some (.cells #[.int .i64 ((rd_T135 y155 x111_5).f0), .int .i64 ((rd_T135 y155 x111_5).f1), .int .i64 ((rd_T135 y155 x111_5).f2)] 135 (0, 0))) := ⟨by (with_reducible repeat (first | refine blk_drewN ?_ _ | refine blk_drew ?_ | refine blk_alloc ?_ _)); refine blk_put (cs := #[.int .i64 ((rd_T135 y155 x111_5).f0), .int .i64 ((rd_T135 y155 x111_5).f1), .int .i64 0]) ?_ 2 _ rfl; (with_reducible repeat (first | refine blk_drewN ?_ _ | refine blk_drew ?_ | refine blk_alloc ?_ _)); refine blk_put (cs := #[.int .i64 ((rd_T135 y155 x111_5).f0), .int .i64 0, .int .i64 0]) ?_ 1 _ rfl; (with_reducible repeat (first | refine blk_drewN ?_ _ | refine blk_drew ?_ | refine blk_alloc ?_ _)); refine blk_put (cs := #[.int .i64 0, .int .i64 0, .int .i64 0]) ?_ 0 _ rfl; exact bs BK160.out⟩
            have n3_ : Aside0 (Below w.heap.size w (((w60.setCell ⟨gb160, 0, none⟩ (.int .i64 ((rd_T135 y155 x111_5).f0))).setCell ⟨gb160, 1, none⟩ (.int .i64 ((rd_T135 y155 x111_5).f1))).setCell ⟨gb160, 2, none⟩ (.int .i64 ((rd_T135 y155 x111_5).f2)))) := ⟨by repeat (first | (with_reducible first | exact bw HB.out | refine bset ?_ | apply bA | apply bN | apply bD) | exact HB.out)⟩
            (try clear BK141)
            (try clear BK147)
            (try clear BK160)
            (try clear HB)
            (try simp only [setCell_drewN])
            generalize (((w60.setCell ⟨gb160, 0, none⟩ (.int .i64 ((rd_T135 y155 x111_5).f0))).setCell ⟨gb160, 1, none⟩ (.int .i64 ((rd_T135 y155 x111_5).f1))).setCell ⟨gb160, 2, none⟩ (.int .i64 ((rd_T135 y155 x111_5).f2))) = w64 at n0_ n1_ n2_ n3_ ⊢
            have BK141 := n0_
            have BK147 := n1_
            have BK160 := n2_
            have HB := n3_
            clear n0_ n1_ n2_ n3_
            have n0_ := Aside0.mk (blk_drew BK141.out)
            have n1_ := Aside0.mk (blk_drew BK147.out)
            have n2_ := Aside0.mk (blk_drew BK160.out)
            have n3_ := Aside0.mk (below_drew1 HB.out)
            replace BK141 := n0_
            replace BK147 := n1_
            replace BK160 := n2_
            replace HB := n3_
            clear n0_ n1_ n2_ n3_
            refine start_ (n := 20) (S := fun w' => w'.cell? ⟨gb160, 0, none⟩ = some (.int .i64 ((rd_T135 y155 x111_5).f0)) ∧ w'.cell? ⟨gb160, 1, none⟩ = some (.int .i64 ((rd_T135 y155 x111_5).f1)) ∧ w'.cell? ⟨gb160, 2, none⟩ = some (.int .i64 ((rd_T135 y155 x111_5).f2)) ∧ w'.cell? ⟨gb147, 0, none⟩ = some (.int .i64 ((rd_T135 l0_4 x32_2).f0)) ∧ w'.cell? ⟨gb147, 1, none⟩ = some (.int .i64 ((rd_T135 l0_4 x32_2).f1)) ∧ w'.cell? ⟨gb147, 2, none⟩ = some (.int .i64 ((rd_T135 l0_4 x32_2).f2))) (ds := []) q77_98 (by kernel_rfl) rfl rfl ⟨(blk_cell BK160.out 0).trans rfl, (blk_cell BK160.out 1).trans rfl, (blk_cell BK160.out 2).trans rfl, (blk_cell BK147.out 0).trans rfl, (blk_cell BK147.out 1).trans rfl, (blk_cell BK147.out 2).trans rfl⟩ (fun hHeld => ?_); refine with_tabW impl_IsDispatcher.tab13 impl_IsDispatcher.bits13 (fun HT_ HW_ => ?_)
            generalize w64.drew = w65 at BK141 BK147 BK160 HB hHeld ⊢
            refine pup_ (i := 0) (N := some 115) HT_ rfl rfl (by kernel_rfl) (fun _ _ _ h => h) (Or.inl ⟨by rfl, by intro w'; go_simp; with_reducible rfl⟩) (by simp only [aq_]; rfl) ?_
            refine pup_ (i := 2) (N := some 117) HT_ rfl rfl (by kernel_rfl) (fun _ _ _ h => h) (Or.inl ⟨by rfl, by intro w'; go_simp; with_reducible rfl⟩) (by simp only [aq_]; rfl) ?_
            refine take_ (i := 1) (N := some 116) (v := ?_) (a' := ?_) q77_101 rfl rfl (take_ofW HT_.out HW_.out (by kernel_rfl)) (fun _ _ _ h => h) (Or.inl ⟨by rfl, ?_⟩) hHeld ?_ ?_
            rotate_left
            ·rintro w' ⟨s0, s1, s2, s3, s4, s5⟩
             go_simp
             with_reducible rfl
            rotate_left
            ·simp only [aq_]
             rfl
            refine take_ (i := 3) (N := some 118) (v := ?_) (a' := ?_) q77_102 rfl rfl (take_ofW HT_.out HW_.out (by kernel_rfl)) (fun _ _ _ h => h) (Or.inl ⟨by rfl, ?_⟩) hHeld ?_ ?_
            rotate_left
            ·rintro w' ⟨s0, s1, s2, s3, s4, s5⟩
             go_simp
             with_reducible rfl
            rotate_left
            ·simp only [aq_]
             rfl
            refine pup_ (i := 4) (N := some 119) HT_ rfl rfl (by kernel_rfl) (fun _ _ _ h => h) (Or.inl ⟨by rfl, by intro w'; go_simp; with_reducible rfl⟩) (by simp only [aq_]; rfl) ?_
            refine pup_ (i := 5) (N := some 120) HT_ rfl rfl (by kernel_rfl) (fun _ _ _ h => h) (Or.inl ⟨by rfl, by intro w'; go_simp; with_reducible rfl⟩) (by simp only [aq_]; rfl) ?_
            refine skp_ HT_ 6 (some 121) rfl rfl (by kernel_rfl) (fun _ _ _ h => h) (by rfl) (by simp only [aq_]; rfl) ?_
            refine skp_ HT_ 7 (some 122) rfl rfl (by kernel_rfl) (fun _ _ _ h => h) (by rfl) (by simp only [aq_]; rfl) ?_
            refine skp_ HT_ 8 (some 123) rfl rfl (by kernel_rfl) (fun _ _ _ h => h) (by rfl) (by simp only [aq_]; rfl) ?_
            refine skp_ HT_ 9 (some 124) rfl rfl (by kernel_rfl) (fun _ _ _ h => h) (by rfl) (by simp only [aq_]; rfl) ?_
            refine skp_ HT_ 10 (some 125) rfl rfl (by kernel_rfl) (fun _ _ _ h => h) (by rfl) (by simp only [aq_]; rfl) ?_
            refine skp_ HT_ 11 (some 126) rfl rfl (by kernel_rfl) (fun _ _ _ h => h) (by rfl) (by simp only [aq_]; rfl) ?_
            refine skp_ HT_ 12 (some 127) rfl rfl (by kernel_rfl) (fun _ _ _ h => h) (by rfl) (by simp only [aq_]; rfl) ?_
            refine skp_ HT_ 13 (some 128) rfl rfl (by kernel_rfl) (fun _ _ _ h => h) (by rfl) (by simp only [aq_]; rfl) ?_
            refine skp_ HT_ 14 (some 129) rfl rfl (by kernel_rfl) (fun _ _ _ h => h) (by rfl) (by simp only [aq_]; rfl) ?_
            refine skp_ HT_ 15 (some 130) rfl rfl (by kernel_rfl) (fun _ _ _ h => h) (by rfl) (by simp only [aq_]; rfl) ?_
            refine skp_ HT_ 16 (some 131) rfl rfl (by kernel_rfl) (fun _ _ _ h => h) (by rfl) (by simp only [aq_]; rfl) ?_
            refine skp_ HT_ 17 (some 132) rfl rfl (by kernel_rfl) (fun _ _ _ h => h) (by rfl) (by simp only [aq_]; rfl) ?_
            refine skp_ HT_ 18 (some 133) rfl rfl (by kernel_rfl) (fun _ _ _ h => h) (by rfl) (by simp only [aq_]; rfl) ?_
            refine pup_ (i := 19) (N := some 134) HT_ rfl rfl (by kernel_rfl) (fun _ _ _ h => h) (Or.inl ⟨by rfl, by intro w'; go_simp; with_reducible rfl⟩) (by simp only [aq_]; rfl) ?_
            refine done_ (done_of HT_.out (by kernel_rfl)) ?_
            try go_wp2
            go_ret
            exact ⟨by first | rfl | (simp [errW_none, errW_some] <;> rfl) | (simp [*, errW_none, errW_some] <;> rfl), by repeat (first | (with_reducible first | exact bw HB.out | refine bset ?_ | apply bA | apply bN | apply bD) | exact HB.out)⟩
           rw [if_neg c59] at H
           have c59b0 : (((rd_T135 y155 x111_5).f0) == ((rd_T135 l0_4 x32_2).f0)) = false := beq_eq_false_iff_ne.mpr c59
           have c59b1 : (((rd_T135 y155 x111_5).f0) != ((rd_T135 l0_4 x32_2).f0)) = true := bne_iff_ne.mpr c59
           by_cases c66 : ((rd_T135 y155 x111_5).f1) = ((rd_T135 l0_4 x32_2).f1)
           rotate_left
           ·rw [if_neg c66] at H
            have c66b0 : (((rd_T135 y155 x111_5).f1) == ((rd_T135 l0_4 x32_2).f1)) = false := beq_eq_false_iff_ne.mpr c66
            have c66b1 : (((rd_T135 y155 x111_5).f1) != ((rd_T135 l0_4 x32_2).f1)) = true := bne_iff_ne.mpr c66
            have H' := Aside0.mk H
            clear H
            have p159 : 0 ≤ (x111_5 : Int) := of_decide_eq_true (by first | (with_reducible assumption) | assumption)
            have q159 : x111_5 < (y155.length : Int) := of_decide_eq_true (by first | (with_reducible assumption) | assumption)
            obtain ⟨ad159, e159, hx159_0, hx159_1, hx159_2⟩ := at_T135 HR158.out x111_5 p159 q159
            obtain rfl : ad146 = ad159 := (by injection e159)
            replace hx159_0 := (HB.out.cell (World.block_lt_of_cell? w _ hx159_0)).trans hx159_0
            replace hx159_1 := (HB.out.cell (World.block_lt_of_cell? w _ hx159_1)).trans hx159_1
            replace hx159_2 := (HB.out.cell (World.block_lt_of_cell? w _ hx159_2)).trans hx159_2
            replace p159 := eq_true p159
            replace q159 := eq_true q159
            try go_wp2_with (first | ((with_reducible refine gate_dst (N := 6) rfl ?_); refine box_event ?hg (N := 6) ?hd (cs := #[.int .i64 0, .int .i64 0, .int .i64 0]) (t := 135) ?hr ?_; (case hd => rfl); (case hg => rfl); (case hr => first | (go_simp; done) | (go_simp; rfl)); intro gb160 hg w83 hbox hb; have n0_ := Aside0.mk (blk_below (bs BK141.out) hb); have n1_ := Aside0.mk (blk_below (bs BK147.out) hb); have n2_ := Aside0.mk (below_step (by repeat (first | (with_reducible first | exact bw HB.out | refine bset ?_ | apply bA | apply bN | apply bD) | exact HB.out)) hb); have n3_ := Aside0.mk (hbox); have n4_ := Aside0.mk ((by rw [hg]; exact (below_size (by repeat (first | (with_reducible first | exact bw HB.out | refine bset ?_ | apply bA | apply bN | apply bD) | exact HB.out))) : w.heap.size ≤ gb160)); have n5_ := Aside0.mk ((by rw [hg]; exact (below_size (by repeat (first | (with_reducible first | exact bw HB.out | refine bset ?_ | apply bA | apply bN | apply bD) | exact HB.out))) : w.heap.size ≤ gb160)); have n6_ := ne_ hg BK141.out; have n7_ := en_ hg BK141.out; have n8_ := ne_ hg BK147.out; have n9_ := en_ hg BK147.out; replace BK141 := n0_; replace BK147 := n1_; replace HB := n2_; have BK160 := n3_; have GW160 := n4_; have GE160 := n5_; have NB141_160 := n6_; have NB160_141 := n7_; have NB147_160 := n8_; have NB160_147 := n9_; clear n0_ n1_ n2_ n3_ n4_ n5_ n6_ n7_ n8_ n9_; clear hb hbox hg; have hnb84 := NB160_141.out; have hnc84 := NB141_160.out; have hnb85 := NB160_147.out; have hnc85 := NB147_160.out; obtain ⟨hcz86_0, hcz86_1, hcz86_2, hfz86_0, hfz86_1, hfz86_2⟩ := bz3 BK160.out))
            have n0_ : Aside0 ((((w83.setCell ⟨gb160, 0, none⟩ (.int .i64 ((rd_T135 y155 x111_5).f0))).setCell ⟨gb160, 1, none⟩ (.int .i64 ((rd_T135 y155 x111_5).f1))).setCell ⟨gb160, 2, none⟩ (.int .i64 ((rd_T135 y155 x111_5).f2))).heap[gb141]? = some (.cells #[.int .i64 a0_0, .int .i64 a0_1, .int .i64 a0_2, .slice A0_3 l0_3.length c0_3, .slice (some ad146) l0_4.length c0_4] 25 (0, 0))) := ⟨by (with_reducible repeat (first | refine blk_drewN ?_ _ | refine blk_drew ?_ | refine blk_alloc ?_ _)); refine blk_far ?_ NB141_160.out _; (with_reducible repeat (first | refine blk_drewN ?_ _ | refine blk_drew ?_ | refine blk_alloc ?_ _)); refine blk_far ?_ NB141_160.out _; (with_reducible repeat (first | refine blk_drewN ?_ _ | refine blk_drew ?_ | refine blk_alloc ?_ _)); refine blk_far ?_ NB141_160.out _; exact bs BK141.out⟩
            have n1_ : Aside0 ((((w83.setCell ⟨gb160, 0, none⟩ (.int .i64 ((rd_T135 y155 x111_5).f0))).setCell ⟨gb160, 1, none⟩ (.int .i64 ((rd_T135 y155 x111_5).f1))).setCell ⟨gb160, 2, none⟩ (.int .i64 ((rd_T135 y155 x111_5).f2))).heap[gb147]? = some (.cells #[.int .i64 ((rd_T135 l0_4 x32_2).f0), .int .i64 ((rd_T135 l0_4 x32_2).f1), .int .i64 ((rd_T135 l0_4 x32_2).f2)] 135 (0, 0))) := ⟨by (with_reducible repeat (first | refine blk_drewN ?_ _ | refine blk_drew ?_ | refine blk_alloc ?_ _)); refine blk_far ?_ NB147_160.out _; (with_reducible repeat (first | refine blk_drewN ?_ _ | refine blk_drew ?_ | refine blk_alloc ?_ _)); refine blk_far ?_ NB147_160.out _; (with_reducible repeat (first | refine blk_drewN ?_ _ | refine blk_drew ?_ | refine blk_alloc ?_ _)); refine blk_far ?_ NB147_160.out _; exact bs BK147.out⟩
            have n2_ : Aside0 ((((w83.setCell ⟨gb160, 0, none⟩ (.int .i64 ((rd_T135 y155 x111_5).f0))).setCell ⟨gb160, 1, none⟩ (.int .i64 ((rd_T135 y155 x111_5).f1))).setCell ⟨gb160, 2, none⟩ (.int .i64 ((rd_T135 y155 x111_5).f2))).heap[gb160]? = some (.cells #[.int .i64 ((rd_T135 y155 x111_5).f0), .int .i64 ((rd_T135 y155 x111_5).f1), .int .i64 ((rd_T135 y155 x111_5).f2)] 135 (0, 0))) := ⟨by (with_reducible repeat (first | refine blk_drewN ?_ _ | refine blk_drew ?_ | refine blk_alloc ?_ _)); refine blk_put (cs := #[.int .i64 ((rd_T135 y155 x111_5).f0), .int .i64 ((rd_T135 y155 x111_5).f1), .int .i64 0]) ?_ 2 _ rfl; (with_reducible repeat (first | refine blk_drewN ?_ _ | refine blk_drew ?_ | refine blk_alloc ?_ _)); refine blk_put (cs := #[.int .i64 ((rd_T135 y155 x111_5).f0), .int .i64 0, .int .i64 0]) ?_ 1 _ rfl; (with_reducible repeat (first | refine blk_drewN ?_ _ | refine blk_drew ?_ | refine blk_alloc ?_ _)); refine blk_put (cs := #[.int .i64 0, .int .i64 0, .int .i64 0]) ?_ 0 _ rfl; exact bs BK160.out⟩
            have n3_ : Aside0 (Below w.heap.size w (((w83.setCell ⟨gb160, 0, none⟩ (.int .i64 ((rd_T135 y155 x111_5).f0))).setCell ⟨gb160, 1, none⟩ (.int .i64 ((rd_T135 y155 x111_5).f1))).setCell ⟨gb160, 2, none⟩ (.int .i64 ((rd_T135 y155 x111_5).f2)))) := ⟨by repeat (first | (with_reducible first | exact bw HB.out | refine bset ?_ | apply bA | apply bN | apply bD) | exact HB.out)⟩
            (try clear BK141)
            (try clear BK147)
            (try clear BK160)
            (try clear HB)
            (try simp only [setCell_drewN])
            generalize (((w83.setCell ⟨gb160, 0, none⟩ (.int .i64 ((rd_T135 y155 x111_5).f0))).setCell ⟨gb160, 1, none⟩ (.int .i64 ((rd_T135 y155 x111_5).f1))).setCell ⟨gb160, 2, none⟩ (.int .i64 ((rd_T135 y155 x111_5).f2))) = w87 at n0_ n1_ n2_ n3_ ⊢
            have BK141 := n0_
            have BK147 := n1_
            have BK160 := n2_
            have HB := n3_
            clear n0_ n1_ n2_ n3_
            have n0_ := Aside0.mk (blk_drew BK141.out)
            have n1_ := Aside0.mk (blk_drew BK147.out)
            have n2_ := Aside0.mk (blk_drew BK160.out)
            have n3_ := Aside0.mk (below_drew1 HB.out)
            replace BK141 := n0_
            replace BK147 := n1_
            replace BK160 := n2_
            replace HB := n3_
            clear n0_ n1_ n2_ n3_
            refine start_ (n := 20) (S := fun w' => w'.cell? ⟨gb160, 0, none⟩ = some (.int .i64 ((rd_T135 y155 x111_5).f0)) ∧ w'.cell? ⟨gb160, 1, none⟩ = some (.int .i64 ((rd_T135 y155 x111_5).f1)) ∧ w'.cell? ⟨gb160, 2, none⟩ = some (.int .i64 ((rd_T135 y155 x111_5).f2)) ∧ w'.cell? ⟨gb147, 0, none⟩ = some (.int .i64 ((rd_T135 l0_4 x32_2).f0)) ∧ w'.cell? ⟨gb147, 1, none⟩ = some (.int .i64 ((rd_T135 l0_4 x32_2).f1)) ∧ w'.cell? ⟨gb147, 2, none⟩ = some (.int .i64 ((rd_T135 l0_4 x32_2).f2))) (ds := []) q77_98 (by kernel_rfl) rfl rfl ⟨(blk_cell BK160.out 0).trans rfl, (blk_cell BK160.out 1).trans rfl, (blk_cell BK160.out 2).trans rfl, (blk_cell BK147.out 0).trans rfl, (blk_cell BK147.out 1).trans rfl, (blk_cell BK147.out 2).trans rfl⟩ (fun hHeld => ?_); refine with_tabW impl_IsDispatcher.tab13 impl_IsDispatcher.bits13 (fun HT_ HW_ => ?_)
            generalize w87.drew = w88 at BK141 BK147 BK160 HB hHeld ⊢
            refine pup_ (i := 0) (N := some 115) HT_ rfl rfl (by kernel_rfl) (fun _ _ _ h => h) (Or.inl ⟨by rfl, by intro w'; go_simp; with_reducible rfl⟩) (by simp only [aq_]; rfl) ?_
            refine pup_ (i := 2) (N := some 117) HT_ rfl rfl (by kernel_rfl) (fun _ _ _ h => h) (Or.inl ⟨by rfl, by intro w'; go_simp; with_reducible rfl⟩) (by simp only [aq_]; rfl) ?_
            refine take_ (i := 1) (N := some 116) (v := ?_) (a' := ?_) q77_101 rfl rfl (take_ofW HT_.out HW_.out (by kernel_rfl)) (fun _ _ _ h => h) (Or.inl ⟨by rfl, ?_⟩) hHeld ?_ ?_
            rotate_left
            ·rintro w' ⟨s0, s1, s2, s3, s4, s5⟩
             go_simp
             with_reducible rfl
            rotate_left
            ·simp only [aq_]
             rfl
            refine take_ (i := 3) (N := some 118) (v := ?_) (a' := ?_) q77_102 rfl rfl (take_ofW HT_.out HW_.out (by kernel_rfl)) (fun _ _ _ h => h) (Or.inl ⟨by rfl, ?_⟩) hHeld ?_ ?_
            rotate_left
            ·rintro w' ⟨s0, s1, s2, s3, s4, s5⟩
             go_simp
             with_reducible rfl
            rotate_left
            ·simp only [aq_]
             rfl
            refine pup_ (i := 4) (N := some 119) HT_ rfl rfl (by kernel_rfl) (fun _ _ _ h => h) (Or.inl ⟨by rfl, by intro w'; go_simp; with_reducible rfl⟩) (by simp only [aq_]; rfl) ?_
            refine pup_ (i := 5) (N := some 120) HT_ rfl rfl (by kernel_rfl) (fun _ _ _ h => h) (Or.inl ⟨by rfl, by intro w'; go_simp; with_reducible rfl⟩) (by simp only [aq_]; rfl) ?_
            refine pup_ (i := 6) (N := some 121) HT_ rfl rfl (by kernel_rfl) (fun _ _ _ h => h) (Or.inl ⟨by rfl, by intro w'; go_simp; with_reducible rfl⟩) (by simp only [aq_]; rfl) ?_
            refine pup_ (i := 8) (N := some 123) HT_ rfl rfl (by kernel_rfl) (fun _ _ _ h => h) (Or.inl ⟨by rfl, by intro w'; go_simp; with_reducible rfl⟩) (by simp only [aq_]; rfl) ?_
            refine take_ (i := 7) (N := some 122) (v := ?_) (a' := ?_) q77_107 rfl rfl (take_ofW HT_.out HW_.out (by kernel_rfl)) (fun _ _ _ h => h) (Or.inl ⟨by rfl, ?_⟩) hHeld ?_ ?_
            rotate_left
            ·rintro w' ⟨s0, s1, s2, s3, s4, s5⟩
             go_simp
             with_reducible rfl
            rotate_left
            ·simp only [aq_]
             rfl
            refine take_ (i := 9) (N := some 124) (v := ?_) (a' := ?_) q77_108 rfl rfl (take_ofW HT_.out HW_.out (by kernel_rfl)) (fun _ _ _ h => h) (Or.inl ⟨by rfl, ?_⟩) hHeld ?_ ?_
            rotate_left
            ·rintro w' ⟨s0, s1, s2, s3, s4, s5⟩
             go_simp
             with_reducible rfl
            rotate_left
            ·simp only [aq_]
             rfl
            refine pup_ (i := 10) (N := some 125) HT_ rfl rfl (by kernel_rfl) (fun _ _ _ h => h) (Or.inl ⟨by rfl, by intro w'; go_simp; with_reducible rfl⟩) (by simp only [aq_]; rfl) ?_
            refine pup_ (i := 11) (N := some 126) HT_ rfl rfl (by kernel_rfl) (fun _ _ _ h => h) (Or.inl ⟨by rfl, by intro w'; go_simp; with_reducible rfl⟩) (by simp only [aq_]; rfl) ?_
            refine skp_ HT_ 12 (some 127) rfl rfl (by kernel_rfl) (fun _ _ _ h => h) (by rfl) (by simp only [aq_]; rfl) ?_
            refine skp_ HT_ 13 (some 128) rfl rfl (by kernel_rfl) (fun _ _ _ h => h) (by rfl) (by simp only [aq_]; rfl) ?_
            refine skp_ HT_ 14 (some 129) rfl rfl (by kernel_rfl) (fun _ _ _ h => h) (by rfl) (by simp only [aq_]; rfl) ?_
            refine skp_ HT_ 15 (some 130) rfl rfl (by kernel_rfl) (fun _ _ _ h => h) (by rfl) (by simp only [aq_]; rfl) ?_
            refine skp_ HT_ 16 (some 131) rfl rfl (by kernel_rfl) (fun _ _ _ h => h) (by rfl) (by simp only [aq_]; rfl) ?_
            refine skp_ HT_ 17 (some 132) rfl rfl (by kernel_rfl) (fun _ _ _ h => h) (by rfl) (by simp only [aq_]; rfl) ?_
            refine pup_ (i := 18) (N := some 133) HT_ rfl rfl (by kernel_rfl) (fun _ _ _ h => h) (Or.inl ⟨by rfl, by intro w'; go_simp; with_reducible rfl⟩) (by simp only [aq_]; rfl) ?_
            refine pup_ (i := 19) (N := some 134) HT_ rfl rfl (by kernel_rfl) (fun _ _ _ h => h) (Or.inl ⟨by rfl, by intro w'; go_simp; with_reducible rfl⟩) (by simp only [aq_]; rfl) ?_
            refine done_ (done_of HT_.out (by kernel_rfl)) ?_
            try go_wp2
            go_roundg k5
            case measure => have := HJ1.out; have := HK2.out; have := HJ20.out; have := HJ38.out; have := HK5.out; omega
            case rel => exact ⟨(wrap64 (x111_5 + 1)), (by first | rfl | (simp; done) | (simp [*]; done)), H', ⟨by have := HJ1.out; have := HK2.out; have := HJ20.out; have := HJ38.out; have := HK5.out; omega⟩, ⟨bs BK141.out⟩, ⟨bs BK147.out⟩, ⟨by repeat (first | (with_reducible first | exact bw HB.out | refine bset ?_ | apply bA | apply bN | apply bD) | exact HB.out)⟩⟩
           rw [if_pos c66] at H
           have c66b0 : (((rd_T135 y155 x111_5).f1) == ((rd_T135 l0_4 x32_2).f1)) = true := beq_iff_eq.mpr c66
           have c66b1 : (((rd_T135 y155 x111_5).f1) != ((rd_T135 l0_4 x32_2).f1)) = false := bne_eq_false_iff_eq.mpr c66
           clear c66
           replace H := Option.bind_eq_some_iff.mp H
           obtain ⟨t161, A670, H⟩ := H
           replace H : (if t161 > ((rd_T135 l0_4 x32_2).f2) then (some false) else (impl_IsDispatcher.l1 k5 l0_4 (l0_4.length : Int) x32_2 y155 (y155.length : Int) (wrap64 (x111_5 + 1)) a0_0 a0_1 a0_2 l0_3 l0_4 ((rd_T135 l0_4 x32_2).f0) ((rd_T135 l0_4 x32_2).f1) ((rd_T135 l0_4 x32_2).f2))) = some r := H
           have A67 := Aside0.mk A670
           clear A670
           by_cases c68 : t161 > ((rd_T135 l0_4 x32_2).f2)
           ·rw [if_pos c68] at H
            have c68b0 : decide (((rd_T135 l0_4 x32_2).f2) < t161) = true := decide_eq_true c68
            clear c68
            obtain rfl := Option.some.inj H
            have p159 : 0 ≤ (x111_5 : Int) := of_decide_eq_true (by first | (with_reducible assumption) | assumption)
            have q159 : x111_5 < (y155.length : Int) := of_decide_eq_true (by first | (with_reducible assumption) | assumption)
            obtain ⟨ad159, e159, hx159_0, hx159_1, hx159_2⟩ := at_T135 HR158.out x111_5 p159 q159
            obtain rfl : ad146 = ad159 := (by injection e159)
            replace hx159_0 := (HB.out.cell (World.block_lt_of_cell? w _ hx159_0)).trans hx159_0
            replace hx159_1 := (HB.out.cell (World.block_lt_of_cell? w _ hx159_1)).trans hx159_1
            replace hx159_2 := (HB.out.cell (World.block_lt_of_cell? w _ hx159_2)).trans hx159_2
            replace p159 := eq_true p159
            replace q159 := eq_true q159
            try go_wp2_with (first | ((with_reducible refine gate_dst (N := 6) rfl ?_); refine box_event ?hg (N := 6) ?hd (cs := #[.int .i64 0, .int .i64 0, .int .i64 0]) (t := 135) ?hr ?_; (case hd => rfl); (case hg => rfl); (case hr => first | (go_simp; done) | (go_simp; rfl)); intro gb160 hg w69 hbox hb; have n0_ := Aside0.mk (blk_below (bs BK141.out) hb); have n1_ := Aside0.mk (blk_below (bs BK147.out) hb); have n2_ := Aside0.mk (below_step (by repeat (first | (with_reducible first | exact bw HB.out | refine bset ?_ | apply bA | apply bN | apply bD) | exact HB.out)) hb); have n3_ := Aside0.mk (hbox); have n4_ := Aside0.mk ((by rw [hg]; exact (below_size (by repeat (first | (with_reducible first | exact bw HB.out | refine bset ?_ | apply bA | apply bN | apply bD) | exact HB.out))) : w.heap.size ≤ gb160)); have n5_ := Aside0.mk ((by rw [hg]; exact (below_size (by repeat (first | (with_reducible first | exact bw HB.out | refine bset ?_ | apply bA | apply bN | apply bD) | exact HB.out))) : w.heap.size ≤ gb160)); have n6_ := ne_ hg BK141.out; have n7_ := en_ hg BK141.out; have n8_ := ne_ hg BK147.out; have n9_ := en_ hg BK147.out; replace BK141 := n0_; replace BK147 := n1_; replace HB := n2_; have BK160 := n3_; have GW160 := n4_; have GE160 := n5_; have NB141_160 := n6_; have NB160_141 := n7_; have NB147_160 := n8_; have NB160_147 := n9_; clear n0_ n1_ n2_ n3_ n4_ n5_ n6_ n7_ n8_ n9_; clear hb hbox hg; have hnb70 := NB160_141.out; have hnc70 := NB141_160.out; have hnb71 := NB160_147.out; have hnc71 := NB147_160.out; obtain ⟨hcz72_0, hcz72_1, hcz72_2, hfz72_0, hfz72_1, hfz72_2⟩ := bz3 BK160.out))
            have n0_ : Aside0 ((((w69.setCell ⟨gb160, 0, none⟩ (.int .i64 ((rd_T135 y155 x111_5).f0))).setCell ⟨gb160, 1, none⟩ (.int .i64 ((rd_T135 y155 x111_5).f1))).setCell ⟨gb160, 2, none⟩ (.int .i64 ((rd_T135 y155 x111_5).f2))).heap[gb141]? = some (.cells #[.int .i64 a0_0, .int .i64 a0_1, .int .i64 a0_2, .slice A0_3 l0_3.length c0_3, .slice (some ad146) l0_4.length c0_4] 25 (0, 0))) := ⟨by (with_reducible repeat (first | refine blk_drewN ?_ _ | refine blk_drew ?_ | refine blk_alloc ?_ _)); refine blk_far ?_ NB141_160.out _; (with_reducible repeat (first | refine blk_drewN ?_ _ | refine blk_drew ?_ | refine blk_alloc ?_ _)); refine blk_far ?_ NB141_160.out _; (with_reducible repeat (first | refine blk_drewN ?_ _ | refine blk_drew ?_ | refine blk_alloc ?_ _)); refine blk_far ?_ NB141_160.out _; exact bs BK141.out⟩
            have n1_ : Aside0 ((((w69.setCell ⟨gb160, 0, none⟩ (.int .i64 ((rd_T135 y155 x111_5).f0))).setCell ⟨gb160, 1, none⟩ (.int .i64 ((rd_T135 y155 x111_5).f1))).setCell ⟨gb160, 2, none⟩ (.int .i64 ((rd_T135 y155 x111_5).f2))).heap[gb147]? = some (.cells #[.int .i64 ((rd_T135 l0_4 x32_2).f0), .int .i64 ((rd_T135 l0_4 x32_2).f1), .int .i64 ((rd_T135 l0_4 x32_2).f2)] 135 (0, 0))) := ⟨by (with_reducible repeat (first | refine blk_drewN ?_ _ | refine blk_drew ?_ | refine blk_alloc ?_ _)); refine blk_far ?_ NB147_160.out _; (with_reducible repeat (first | refine blk_drewN ?_ _ | refine blk_drew ?_ | refine blk_alloc ?_ _)); refine blk_far ?_ NB147_160.out _; (with_reducible repeat (first | refine blk_drewN ?_ _ | refine blk_drew ?_ | refine blk_alloc ?_ _)); refine blk_far ?_ NB147_160.out _; exact bs BK147.out⟩
            have n2_ : Aside0 ((((w69.setCell ⟨gb160, 0, none⟩ (.int .i64 ((rd_T135 y155 x111_5).f0))).setCell ⟨gb160, 1, none⟩ (.int .i64 ((rd_T135 y155 x111_5).f1))).setCell ⟨gb160, 2, none⟩ (.int .i64 ((rd_T135 y155 x111_5).f2))).heap[gb160]? = some (.cells #[.int .i64 ((rd_T135 y155 x111_5).f0), .int .i64 ((rd_T135 y155 x111_5).f1), .int .i64 ((rd_T135 y155 x111_5).f2)] 135 (0, 0))) := ⟨by (with_reducible repeat (first | refine blk_drewN ?_ _ | refine blk_drew ?_ | refine blk_alloc ?_ _)); refine blk_put (cs := #[.int .i64 ((rd_T135 y155 x111_5).f0), .int .i64 ((rd_T135 y155 x111_5).f1), .int .i64 0]) ?_ 2 _ rfl; (with_reducible repeat (first | refine blk_drewN ?_ _ | refine blk_drew ?_ | refine blk_alloc ?_ _)); refine blk_put (cs := #[.int .i64 ((rd_T135 y155 x111_5).f0), .int .i64 0, .int .i64 0]) ?_ 1 _ rfl; (with_reducible repeat (first | refine blk_drewN ?_ _ | refine blk_drew ?_ | refine blk_alloc ?_ _)); refine blk_put (cs := #[.int .i64 0, .int .i64 0, .int .i64 0]) ?_ 0 _ rfl; exact bs BK160.out⟩
            have n3_ : Aside0 (Below w.heap.size w (((w69.setCell ⟨gb160, 0, none⟩ (.int .i64 ((rd_T135 y155 x111_5).f0))).setCell ⟨gb160, 1, none⟩ (.int .i64 ((rd_T135 y155 x111_5).f1))).setCell ⟨gb160, 2, none⟩ (.int .i64 ((rd_T135 y155 x111_5).f2)))) := ⟨by repeat (first | (with_reducible first | exact bw HB.out | refine bset ?_ | apply bA | apply bN | apply bD) | exact HB.out)⟩
            (try clear BK141)
            (try clear BK147)
            (try clear BK160)
            (try clear HB)
            (try simp only [setCell_drewN])
            generalize (((w69.setCell ⟨gb160, 0, none⟩ (.int .i64 ((rd_T135 y155 x111_5).f0))).setCell ⟨gb160, 1, none⟩ (.int .i64 ((rd_T135 y155 x111_5).f1))).setCell ⟨gb160, 2, none⟩ (.int .i64 ((rd_T135 y155 x111_5).f2))) = w73 at n0_ n1_ n2_ n3_ ⊢
            have BK141 := n0_
            have BK147 := n1_
            have BK160 := n2_
            have HB := n3_
            clear n0_ n1_ n2_ n3_
            have n0_ := Aside0.mk (blk_drew BK141.out)
            have n1_ := Aside0.mk (blk_drew BK147.out)
            have n2_ := Aside0.mk (blk_drew BK160.out)
            have n3_ := Aside0.mk (below_drew1 HB.out)
            replace BK141 := n0_
            replace BK147 := n1_
            replace BK160 := n2_
            replace HB := n3_
            clear n0_ n1_ n2_ n3_
            refine start_ (n := 20) (S := fun w' => w'.cell? ⟨gb160, 0, none⟩ = some (.int .i64 ((rd_T135 y155 x111_5).f0)) ∧ w'.cell? ⟨gb160, 1, none⟩ = some (.int .i64 ((rd_T135 y155 x111_5).f1)) ∧ w'.cell? ⟨gb160, 2, none⟩ = some (.int .i64 ((rd_T135 y155 x111_5).f2)) ∧ w'.cell? ⟨gb147, 0, none⟩ = some (.int .i64 ((rd_T135 l0_4 x32_2).f0)) ∧ w'.cell? ⟨gb147, 1, none⟩ = some (.int .i64 ((rd_T135 l0_4 x32_2).f1)) ∧ w'.cell? ⟨gb147, 2, none⟩ = some (.int .i64 ((rd_T135 l0_4 x32_2).f2)) ∧ w'.cell? ⟨gb141, 0, none⟩ = some (.int .i64 a0_0) ∧ w'.cell? ⟨gb141, 1, none⟩ = some (.int .i64 a0_1) ∧ w'.cell? ⟨gb141, 2, none⟩ = some (.int .i64 a0_2) ∧ w'.cell? ⟨gb141, 3, none⟩ = some (.slice A0_3 l0_3.length c0_3) ∧ w'.cell? ⟨gb141, 4, none⟩ = some (.slice (some ad146) l0_4.length c0_4)) (ds := []) q77_98 (by kernel_rfl) rfl rfl ⟨(blk_cell BK160.out 0).trans rfl, (blk_cell BK160.out 1).trans rfl, (blk_cell BK160.out 2).trans rfl, (blk_cell BK147.out 0).trans rfl, (blk_cell BK147.out 1).trans rfl, (blk_cell BK147.out 2).trans rfl, (blk_cell BK141.out 0).trans rfl, (blk_cell BK141.out 1).trans rfl, (blk_cell BK141.out 2).trans rfl, (blk_cell BK141.out 3).trans rfl, (blk_cell BK141.out 4).trans rfl⟩ (fun hHeld => ?_); refine with_tabW impl_IsDispatcher.tab13 impl_IsDispatcher.bits13 (fun HT_ HW_ => ?_)
            generalize w73.drew = w74 at BK141 BK147 BK160 HB hHeld ⊢
            refine pup_ (i := 0) (N := some 115) HT_ rfl rfl (by kernel_rfl) (fun _ _ _ h => h) (Or.inl ⟨by rfl, by intro w'; go_simp; with_reducible rfl⟩) (by simp only [aq_]; rfl) ?_
            refine pup_ (i := 2) (N := some 117) HT_ rfl rfl (by kernel_rfl) (fun _ _ _ h => h) (Or.inl ⟨by rfl, by intro w'; go_simp; with_reducible rfl⟩) (by simp only [aq_]; rfl) ?_
            refine take_ (i := 1) (N := some 116) (v := ?_) (a' := ?_) q77_101 rfl rfl (take_ofW HT_.out HW_.out (by kernel_rfl)) (fun _ _ _ h => h) (Or.inl ⟨by rfl, ?_⟩) hHeld ?_ ?_
            rotate_left
            ·rintro w' ⟨s0, s1, s2, s3, s4, s5, s6, s7, s8, s9, s10⟩
             go_simp
             with_reducible rfl
            rotate_left
            ·simp only [aq_]
             rfl
            refine take_ (i := 3) (N := some 118) (v := ?_) (a' := ?_) q77_102 rfl rfl (take_ofW HT_.out HW_.out (by kernel_rfl)) (fun _ _ _ h => h) (Or.inl ⟨by rfl, ?_⟩) hHeld ?_ ?_
            rotate_left
            ·rintro w' ⟨s0, s1, s2, s3, s4, s5, s6, s7, s8, s9, s10⟩
             go_simp
             with_reducible rfl
            rotate_left
            ·simp only [aq_]
             rfl
            refine pup_ (i := 4) (N := some 119) HT_ rfl rfl (by kernel_rfl) (fun _ _ _ h => h) (Or.inl ⟨by rfl, by intro w'; go_simp; with_reducible rfl⟩) (by simp only [aq_]; rfl) ?_
            refine pup_ (i := 5) (N := some 120) HT_ rfl rfl (by kernel_rfl) (fun _ _ _ h => h) (Or.inl ⟨by rfl, by intro w'; go_simp; with_reducible rfl⟩) (by simp only [aq_]; rfl) ?_
            refine pup_ (i := 6) (N := some 121) HT_ rfl rfl (by kernel_rfl) (fun _ _ _ h => h) (Or.inl ⟨by rfl, by intro w'; go_simp; with_reducible rfl⟩) (by simp only [aq_]; rfl) ?_
            refine pup_ (i := 8) (N := some 123) HT_ rfl rfl (by kernel_rfl) (fun _ _ _ h => h) (Or.inl ⟨by rfl, by intro w'; go_simp; with_reducible rfl⟩) (by simp only [aq_]; rfl) ?_
            refine take_ (i := 7) (N := some 122) (v := ?_) (a' := ?_) q77_107 rfl rfl (take_ofW HT_.out HW_.out (by kernel_rfl)) (fun _ _ _ h => h) (Or.inl ⟨by rfl, ?_⟩) hHeld ?_ ?_
            rotate_left
            ·rintro w' ⟨s0, s1, s2, s3, s4, s5, s6, s7, s8, s9, s10⟩
             go_simp
             with_reducible rfl
            rotate_left
            ·simp only [aq_]
             rfl
            refine take_ (i := 9) (N := some 124) (v := ?_) (a' := ?_) q77_108 rfl rfl (take_ofW HT_.out HW_.out (by kernel_rfl)) (fun _ _ _ h => h) (Or.inl ⟨by rfl, ?_⟩) hHeld ?_ ?_
            rotate_left
            ·rintro w' ⟨s0, s1, s2, s3, s4, s5, s6, s7, s8, s9, s10⟩
             go_simp
             with_reducible rfl
            rotate_left
            ·simp only [aq_]
             rfl
            refine pup_ (i := 10) (N := some 125) HT_ rfl rfl (by kernel_rfl) (fun _ _ _ h => h) (Or.inl ⟨by rfl, by intro w'; go_simp; with_reducible rfl⟩) (by simp only [aq_]; rfl) ?_
            refine pup_ (i := 11) (N := some 126) HT_ rfl rfl (by kernel_rfl) (fun _ _ _ h => h) (Or.inl ⟨by rfl, by intro w'; go_simp; with_reducible rfl⟩) (by simp only [aq_]; rfl) ?_
            refine pup_ (i := 15) (N := some 130) HT_ rfl rfl (by kernel_rfl) (fun _ _ _ h => h) (Or.inl ⟨by rfl, by intro w'; go_simp; with_reducible rfl⟩) (by simp only [aq_]; rfl) ?_
            refine take_ (i := 12) (N := some 127) (v := ?_) (a' := ?_) q77_121 rfl rfl (take_ofW HT_.out HW_.out (by kernel_rfl)) (fun _ _ _ h => h) (Or.inl ⟨by rfl, ?_⟩) hHeld ?_ ?_
            rotate_left
            ·rintro w' ⟨s0, s1, s2, s3, s4, s5, s6, s7, s8, s9, s10⟩
             go_simp
             with_reducible rfl
            rotate_left
            ·simp only [aq_]
             rfl
            refine take_ (i := 13) (N := some 128) (v := ?_) (a' := ?_) q77_122 rfl rfl (take_ofW HT_.out HW_.out (by kernel_rfl)) (fun _ _ _ h => h) (Or.inl ⟨by rfl, ?_⟩) hHeld ?_ ?_
            rotate_left
            ·rintro w' ⟨s0, s1, s2, s3, s4, s5, s6, s7, s8, s9, s10⟩
             go_simp
             with_reducible rfl
            rotate_left
            ·simp only [aq_]
             rfl
            refine take_ (i := 16) (N := some 131) (v := ?_) (a' := ?_) q77_123 rfl rfl (take_ofW HT_.out HW_.out (by kernel_rfl)) (fun _ _ _ h => h) (Or.inl ⟨by rfl, ?_⟩) hHeld ?_ ?_
            rotate_left
            ·rintro w' ⟨s0, s1, s2, s3, s4, s5, s6, s7, s8, s9, s10⟩
             go_simp
             with_reducible rfl
            rotate_left
            ·simp only [aq_]
             rfl
            refine one_ (i := 14) (N := some 129) q77_115 rfl rfl (one_of HT_.out (by kernel_rfl)) (by decide) (fun K hK => ?_)
            refine goes_ Try.func124 (by kernel_rfl) rfl #[.agg #[.int .i64 a0_0, .int .i64 a0_1, .int .i64 a0_2, .slice A0_3 l0_3.length c0_3, .slice (some ad146) l0_4.length c0_4], .agg #[.int .i64 ((rd_T135 y155 x111_5).f0), .int .i64 ((rd_T135 y155 x111_5).f1), .int .i64 ((rd_T135 y155 x111_5).f2)]] (by rfl) rfl rfl (by (try simp only [mA_]); first | done | rfl | (simp only [List.length_drop, List.length_take]; rfl)) ?_
            with_reducible refine (impl_Dispatcher_endOf.calls a0_0 a0_1 a0_2 _ _ l0_3 _ _ l0_4 ((rd_T135 y155 x111_5).f0) ((rd_T135 y155 x111_5).f1) ((rd_T135 y155 x111_5).f2) t161 _ ?side1 ?side2 ?side3 ?side4 A67.out).mono ?_
            (case side1 => first | exact bC HR0_3.out HB.out | exact Kd.C_below HR0_3.out HB.out)
            (case side2 => exact HC0_3.out)
            (case side3 => first | exact bC HR0_4.out HB.out | exact Kd.C_below HR0_4.out HB.out)
            (case side4 => exact HC0_4.out)
            rintro e w75 ⟨rfl, hb⟩
            refine ⟨_, rfl, ?_⟩
            have n0_ := Aside0.mk (blk_below (bs BK141.out) hb)
            have n1_ := Aside0.mk (blk_below (bs BK147.out) hb)
            have n2_ := Aside0.mk (blk_below (bs BK160.out) hb)
            have n3_ := Aside0.mk (below_step (by repeat (first | (with_reducible first | exact bw HB.out | refine bset ?_ | apply bA | apply bN | apply bD) | exact HB.out)) hb)
            replace BK141 := n0_
            replace BK147 := n1_
            replace BK160 := n2_
            replace HB := n3_
            clear n0_ n1_ n2_ n3_
            (try clear hb)
            (try clear hb2)
            (try clear hk)
            (try clear hi)
            refine hK.out _ _ ⟨(blk_cell BK160.out 0).trans rfl, (blk_cell BK160.out 1).trans rfl, (blk_cell BK160.out 2).trans rfl, (blk_cell BK147.out 0).trans rfl, (blk_cell BK147.out 1).trans rfl, (blk_cell BK147.out 2).trans rfl, (blk_cell BK141.out 0).trans rfl, (blk_cell BK141.out 1).trans rfl, (blk_cell BK141.out 2).trans rfl, (blk_cell BK141.out 3).trans rfl, (blk_cell BK141.out 4).trans rfl⟩ (fun hHeld => ?_)
            clear hK K
            refine norm_ (a' := ?_) ?_ ?_
            rotate_left
            ·show Act.put _ (some 129) _ = _
             simp only [aq_]
             rfl
            refine pup_ (i := 17) (N := some 132) HT_ rfl rfl (by kernel_rfl) (fun _ _ _ h => h) (Or.inl ⟨by rfl, by intro w'; go_simp; with_reducible rfl⟩) (by simp only [aq_]; rfl) ?_
            refine pup_ (i := 18) (N := some 133) HT_ rfl rfl (by kernel_rfl) (fun _ _ _ h => h) (Or.inl ⟨by rfl, by intro w'; go_simp; with_reducible rfl⟩) (by simp only [aq_]; rfl) ?_
            refine pup_ (i := 19) (N := some 134) HT_ rfl rfl (by kernel_rfl) (fun _ _ _ h => h) (Or.inl ⟨by rfl, by intro w'; go_simp; with_reducible rfl⟩) (by simp only [aq_]; rfl) ?_
            refine done_ (done_of HT_.out (by kernel_rfl)) ?_
            try go_wp2
            go_ret
            exact ⟨by first | rfl | (simp [errW_none, errW_some] <;> rfl) | (simp [*, errW_none, errW_some] <;> rfl), by repeat (first | (with_reducible first | exact bw HB.out | refine bset ?_ | apply bA | apply bN | apply bD) | exact HB.out)⟩
           rw [if_neg c68] at H
           have c68b0 : decide (((rd_T135 l0_4 x32_2).f2) < t161) = false := decide_eq_false c68
           clear c68
           have H' := Aside0.mk H
           clear H
           have p159 : 0 ≤ (x111_5 : Int) := of_decide_eq_true (by first | (with_reducible assumption) | assumption)
           have q159 : x111_5 < (y155.length : Int) := of_decide_eq_true (by first | (with_reducible assumption) | assumption)
           obtain ⟨ad159, e159, hx159_0, hx159_1, hx159_2⟩ := at_T135 HR158.out x111_5 p159 q159
           obtain rfl : ad146 = ad159 := (by injection e159)
           replace hx159_0 := (HB.out.cell (World.block_lt_of_cell? w _ hx159_0)).trans hx159_0
           replace hx159_1 := (HB.out.cell (World.block_lt_of_cell? w _ hx159_1)).trans hx159_1
           replace hx159_2 := (HB.out.cell (World.block_lt_of_cell? w _ hx159_2)).trans hx159_2
           replace p159 := eq_true p159
           replace q159 := eq_true q159
           try go_wp2_with (first | ((with_reducible refine gate_dst (N := 6) rfl ?_); refine box_event ?hg (N := 6) ?hd (cs := #[.int .i64 0, .int .i64 0, .int .i64 0]) (t := 135) ?hr ?_; (case hd => rfl); (case hg => rfl); (case hr => first | (go_simp; done) | (go_simp; rfl)); intro gb160 hg w76 hbox hb; have n0_ := Aside0.mk (blk_below (bs BK141.out) hb); have n1_ := Aside0.mk (blk_below (bs BK147.out) hb); have n2_ := Aside0.mk (below_step (by repeat (first | (with_reducible first | exact bw HB.out | refine bset ?_ | apply bA | apply bN | apply bD) | exact HB.out)) hb); have n3_ := Aside0.mk (hbox); have n4_ := Aside0.mk ((by rw [hg]; exact (below_size (by repeat (first | (with_reducible first | exact bw HB.out | refine bset ?_ | apply bA | apply bN | apply bD) | exact HB.out))) : w.heap.size ≤ gb160)); have n5_ := Aside0.mk ((by rw [hg]; exact (below_size (by repeat (first | (with_reducible first | exact bw HB.out | refine bset ?_ | apply bA | apply bN | apply bD) | exact HB.out))) : w.heap.size ≤ gb160)); have n6_ := ne_ hg BK141.out; have n7_ := en_ hg BK141.out; have n8_ := ne_ hg BK147.out; have n9_ := en_ hg BK147.out; replace BK141 := n0_; replace BK147 := n1_; replace HB := n2_; have BK160 := n3_; have GW160 := n4_; have GE160 := n5_; have NB141_160 := n6_; have NB160_141 := n7_; have NB147_160 := n8_; have NB160_147 := n9_; clear n0_ n1_ n2_ n3_ n4_ n5_ n6_ n7_ n8_ n9_; clear hb hbox hg; have hnb77 := NB160_141.out; have hnc77 := NB141_160.out; have hnb78 := NB160_147.out; have hnc78 := NB147_160.out; obtain ⟨hcz79_0, hcz79_1, hcz79_2, hfz79_0, hfz79_1, hfz79_2⟩ := bz3 BK160.out))
           have n0_ : Aside0 ((((w76.setCell ⟨gb160, 0, none⟩ (.int .i64 ((rd_T135 y155 x111_5).f0))).setCell ⟨gb160, 1, none⟩ (.int .i64 ((rd_T135 y155 x111_5).f1))).setCell ⟨gb160, 2, none⟩ (.int .i64 ((rd_T135 y155 x111_5).f2))).heap[gb141]? = some (.cells #[.int .i64 a0_0, .int .i64 a0_1, .int .i64 a0_2, .slice A0_3 l0_3.length c0_3, .slice (some ad146) l0_4.length c0_4] 25 (0, 0))) := ⟨by (with_reducible repeat (first | refine blk_drewN ?_ _ | refine blk_drew ?_ | refine blk_alloc ?_ _)); refine blk_far ?_ NB141_160.out _; (with_reducible repeat (first | refine blk_drewN ?_ _ | refine blk_drew ?_ | refine blk_alloc ?_ _)); refine blk_far ?_ NB141_160.out _; (with_reducible repeat (first | refine blk_drewN ?_ _ | refine blk_drew ?_ | refine blk_alloc ?_ _)); refine blk_far ?_ NB141_160.out _; exact bs BK141.out⟩
           have n1_ : Aside0 ((((w76.setCell ⟨gb160, 0, none⟩ (.int .i64 ((rd_T135 y155 x111_5).f0))).setCell ⟨gb160, 1, none⟩ (.int .i64 ((rd_T135 y155 x111_5).f1))).setCell ⟨gb160, 2, none⟩ (.int .i64 ((rd_T135 y155 x111_5).f2))).heap[gb147]? = some (.cells #[.int .i64 ((rd_T135 l0_4 x32_2).f0), .int .i64 ((rd_T135 l0_4 x32_2).f1), .int .i64 ((rd_T135 l0_4 x32_2).f2)] 135 (0, 0))) := ⟨by (with_reducible repeat (first | refine blk_drewN ?_ _ | refine blk_drew ?_ | refine blk_alloc ?_ _)); refine blk_far ?_ NB147_160.out _; (with_reducible repeat (first | refine blk_drewN ?_ _ | refine blk_drew ?_ | refine blk_alloc ?_ _)); refine blk_far ?_ NB147_160.out _; (with_reducible repeat (first | refine blk_drewN ?_ _ | refine blk_drew ?_ | refine blk_alloc ?_ _)); refine blk_far ?_ NB147_160.out _; exact bs BK147.out⟩
           have n2_ : Aside0 ((((w76.setCell ⟨gb160, 0, none⟩ (.int .i64 ((rd_T135 y155 x111_5).f0))).setCell ⟨gb160, 1, none⟩ (.int .i64 ((rd_T135 y155 x111_5).f1))).setCell ⟨gb160, 2, none⟩ (.int .i64 ((rd_T135 y155 x111_5).f2))).heap[gb160]? = some (.cells #[.int .i64 ((rd_T135 y155 x111_5).f0), .int .i64 ((rd_T135 y155 x111_5).f1), .int .i64 ((rd_T135 y155 x111_5).f2)] 135 (0, 0))) := ⟨by (with_reducible repeat (first | refine blk_drewN ?_ _ | refine blk_drew ?_ | refine blk_alloc ?_ _)); refine blk_put (cs := #[.int .i64 ((rd_T135 y155 x111_5).f0), .int .i64 ((rd_T135 y155 x111_5).f1), .int .i64 0]) ?_ 2 _ rfl; (with_reducible repeat (first | refine blk_drewN ?_ _ | refine blk_drew ?_ | refine blk_alloc ?_ _)); refine blk_put (cs := #[.int .i64 ((rd_T135 y155 x111_5).f0), .int .i64 0, .int .i64 0]) ?_ 1 _ rfl; (with_reducible repeat (first | refine blk_drewN ?_ _ | refine blk_drew ?_ | refine blk_alloc ?_ _)); refine blk_put (cs := #[.int .i64 0, .int .i64 0, .int .i64 0]) ?_ 0 _ rfl; exact bs BK160.out⟩
           have n3_ : Aside0 (Below w.heap.size w (((w76.setCell ⟨gb160, 0, none⟩ (.int .i64 ((rd_T135 y155 x111_5).f0))).setCell ⟨gb160, 1, none⟩ (.int .i64 ((rd_T135 y155 x111_5).f1))).setCell ⟨gb160, 2, none⟩ (.int .i64 ((rd_T135 y155 x111_5).f2)))) := ⟨by repeat (first | (with_reducible first | exact bw HB.out | refine bset ?_ | apply bA | apply bN | apply bD) | exact HB.out)⟩
           (try clear BK141)
           (try clear BK147)
           (try clear BK160)
           (try clear HB)
           (try simp only [setCell_drewN])
           generalize (((w76.setCell ⟨gb160, 0, none⟩ (.int .i64 ((rd_T135 y155 x111_5).f0))).setCell ⟨gb160, 1, none⟩ (.int .i64 ((rd_T135 y155 x111_5).f1))).setCell ⟨gb160, 2, none⟩ (.int .i64 ((rd_T135 y155 x111_5).f2))) = w80 at n0_ n1_ n2_ n3_ ⊢
           have BK141 := n0_
           have BK147 := n1_
           have BK160 := n2_
           have HB := n3_
           clear n0_ n1_ n2_ n3_
           have n0_ := Aside0.mk (blk_drew BK141.out)
           have n1_ := Aside0.mk (blk_drew BK147.out)
           have n2_ := Aside0.mk (blk_drew BK160.out)
           have n3_ := Aside0.mk (below_drew1 HB.out)
           replace BK141 := n0_
           replace BK147 := n1_
           replace BK160 := n2_
           replace HB := n3_
           clear n0_ n1_ n2_ n3_
           refine start_ (n := 20) (S := fun w' => w'.cell? ⟨gb160, 0, none⟩ = some (.int .i64 ((rd_T135 y155 x111_5).f0)) ∧ w'.cell? ⟨gb160, 1, none⟩ = some (.int .i64 ((rd_T135 y155 x111_5).f1)) ∧ w'.cell? ⟨gb160, 2, none⟩ = some (.int .i64 ((rd_T135 y155 x111_5).f2)) ∧ w'.cell? ⟨gb147, 0, none⟩ = some (.int .i64 ((rd_T135 l0_4 x32_2).f0)) ∧ w'.cell? ⟨gb147, 1, none⟩ = some (.int .i64 ((rd_T135 l0_4 x32_2).f1)) ∧ w'.cell? ⟨gb147, 2, none⟩ = some (.int .i64 ((rd_T135 l0_4 x32_2).f2)) ∧ w'.cell? ⟨gb141, 0, none⟩ = some (.int .i64 a0_0) ∧ w'.cell? ⟨gb141, 1, none⟩ = some (.int .i64 a0_1) ∧ w'.cell? ⟨gb141, 2, none⟩ = some (.int .i64 a0_2) ∧ w'.cell? ⟨gb141, 3, none⟩ = some (.slice A0_3 l0_3.length c0_3) ∧ w'.cell? ⟨gb141, 4, none⟩ = some (.slice (some ad146) l0_4.length c0_4)) (ds := []) q77_98 (by kernel_rfl) rfl rfl ⟨(blk_cell BK160.out 0).trans rfl, (blk_cell BK160.out 1).trans rfl, (blk_cell BK160.out 2).trans rfl, (blk_cell BK147.out 0).trans rfl, (blk_cell BK147.out 1).trans rfl, (blk_cell BK147.out 2).trans rfl, (blk_cell BK141.out 0).trans rfl, (blk_cell BK141.out 1).trans rfl, (blk_cell BK141.out 2).trans rfl, (blk_cell BK141.out 3).trans rfl, (blk_cell BK141.out 4).trans rfl⟩ (fun hHeld => ?_); refine with_tabW impl_IsDispatcher.tab13 impl_IsDispatcher.bits13 (fun HT_ HW_ => ?_)
           generalize w80.drew = w81 at BK141 BK147 BK160 HB hHeld ⊢
           refine pup_ (i := 0) (N := some 115) HT_ rfl rfl (by kernel_rfl) (fun _ _ _ h => h) (Or.inl ⟨by rfl, by intro w'; go_simp; with_reducible rfl⟩) (by simp only [aq_]; rfl) ?_
           refine pup_ (i := 2) (N := some 117) HT_ rfl rfl (by kernel_rfl) (fun _ _ _ h => h) (Or.inl ⟨by rfl, by intro w'; go_simp; with_reducible rfl⟩) (by simp only [aq_]; rfl) ?_
           refine take_ (i := 1) (N := some 116) (v := ?_) (a' := ?_) q77_101 rfl rfl (take_ofW HT_.out HW_.out (by kernel_rfl)) (fun _ _ _ h => h) (Or.inl ⟨by rfl, ?_⟩) hHeld ?_ ?_
           rotate_left
           ·rintro w' ⟨s0, s1, s2, s3, s4, s5, s6, s7, s8, s9, s10⟩
            go_simp
            with_reducible rfl
           rotate_left
           ·simp only [aq_]
            rfl
           refine take_ (i := 3) (N := some 118) (v := ?_) (a' := ?_) q77_102 rfl rfl (take_ofW HT_.out HW_.out (by kernel_rfl)) (fun _ _ _ h => h) (Or.inl ⟨by rfl, ?_⟩) hHeld ?_ ?_
           rotate_left
           ·rintro w' ⟨s0, s1, s2, s3, s4, s5, s6, s7, s8, s9, s10⟩
            go_simp
            with_reducible rfl
           rotate_left
           ·simp only [aq_]
            rfl
           refine pup_ (i := 4) (N := some 119) HT_ rfl rfl (by kernel_rfl) (fun _ _ _ h => h) (Or.inl ⟨by rfl, by intro w'; go_simp; with_reducible rfl⟩) (by simp only [aq_]; rfl) ?_
           refine pup_ (i := 5) (N := some 120) HT_ rfl rfl (by kernel_rfl) (fun _ _ _ h => h) (Or.inl ⟨by rfl, by intro w'; go_simp; with_reducible rfl⟩) (by simp only [aq_]; rfl) ?_
           refine pup_ (i := 6) (N := some 121) HT_ rfl rfl (by kernel_rfl) (fun _ _ _ h => h) (Or.inl ⟨by rfl, by intro w'; go_simp; with_reducible rfl⟩) (by simp only [aq_]; rfl) ?_
           refine pup_ (i := 8) (N := some 123) HT_ rfl rfl (by kernel_rfl) (fun _ _ _ h => h) (Or.inl ⟨by rfl, by intro w'; go_simp; with_reducible rfl⟩) (by simp only [aq_]; rfl) ?_
           refine take_ (i := 7) (N := some 122) (v := ?_) (a' := ?_) q77_107 rfl rfl (take_ofW HT_.out HW_.out (by kernel_rfl)) (fun _ _ _ h => h) (Or.inl ⟨by rfl, ?_⟩) hHeld ?_ ?_
           rotate_left
           ·rintro w' ⟨s0, s1, s2, s3, s4, s5, s6, s7, s8, s9, s10⟩
            go_simp
            with_reducible rfl
           rotate_left
           ·simp only [aq_]
            rfl
           refine take_ (i := 9) (N := some 124) (v := ?_) (a' := ?_) q77_108 rfl rfl (take_ofW HT_.out HW_.out (by kernel_rfl)) (fun _ _ _ h => h) (Or.inl ⟨by rfl, ?_⟩) hHeld ?_ ?_
           rotate_left
           ·rintro w' ⟨s0, s1, s2, s3, s4, s5, s6, s7, s8, s9, s10⟩
            go_simp
            with_reducible rfl
           rotate_left
           ·simp only [aq_]
            rfl
           refine pup_ (i := 10) (N := some 125) HT_ rfl rfl (by kernel_rfl) (fun _ _ _ h => h) (Or.inl ⟨by rfl, by intro w'; go_simp; with_reducible rfl⟩) (by simp only [aq_]; rfl) ?_
           refine pup_ (i := 11) (N := some 126) HT_ rfl rfl (by kernel_rfl) (fun _ _ _ h => h) (Or.inl ⟨by rfl, by intro w'; go_simp; with_reducible rfl⟩) (by simp only [aq_]; rfl) ?_
           refine pup_ (i := 15) (N := some 130) HT_ rfl rfl (by kernel_rfl) (fun _ _ _ h => h) (Or.inl ⟨by rfl, by intro w'; go_simp; with_reducible rfl⟩) (by simp only [aq_]; rfl) ?_
           refine take_ (i := 12) (N := some 127) (v := ?_) (a' := ?_) q77_121 rfl rfl (take_ofW HT_.out HW_.out (by kernel_rfl)) (fun _ _ _ h => h) (Or.inl ⟨by rfl, ?_⟩) hHeld ?_ ?_
           rotate_left
           ·rintro w' ⟨s0, s1, s2, s3, s4, s5, s6, s7, s8, s9, s10⟩
            go_simp
            with_reducible rfl
           rotate_left
           ·simp only [aq_]
            rfl
           refine take_ (i := 13) (N := some 128) (v := ?_) (a' := ?_) q77_122 rfl rfl (take_ofW HT_.out HW_.out (by kernel_rfl)) (fun _ _ _ h => h) (Or.inl ⟨by rfl, ?_⟩) hHeld ?_ ?_
           rotate_left
           ·rintro w' ⟨s0, s1, s2, s3, s4, s5, s6, s7, s8, s9, s10⟩
            go_simp
            with_reducible rfl
           rotate_left
           ·simp only [aq_]
            rfl
           refine take_ (i := 16) (N := some 131) (v := ?_) (a' := ?_) q77_123 rfl rfl (take_ofW HT_.out HW_.out (by kernel_rfl)) (fun _ _ _ h => h) (Or.inl ⟨by rfl, ?_⟩) hHeld ?_ ?_
           rotate_left
           ·rintro w' ⟨s0, s1, s2, s3, s4, s5, s6, s7, s8, s9, s10⟩
            go_simp
            with_reducible rfl
           rotate_left
           ·simp only [aq_]
            rfl
           refine one_ (i := 14) (N := some 129) q77_115 rfl rfl (one_of HT_.out (by kernel_rfl)) (by decide) (fun K hK => ?_)
           refine goes_ Try.func124 (by kernel_rfl) rfl #[.agg #[.int .i64 a0_0, .int .i64 a0_1, .int .i64 a0_2, .slice A0_3 l0_3.length c0_3, .slice (some ad146) l0_4.length c0_4], .agg #[.int .i64 ((rd_T135 y155 x111_5).f0), .int .i64 ((rd_T135 y155 x111_5).f1), .int .i64 ((rd_T135 y155 x111_5).f2)]] (by rfl) rfl rfl (by (try simp only [mA_]); first | done | rfl | (simp only [List.length_drop, List.length_take]; rfl)) ?_
           with_reducible refine (impl_Dispatcher_endOf.calls a0_0 a0_1 a0_2 _ _ l0_3 _ _ l0_4 ((rd_T135 y155 x111_5).f0) ((rd_T135 y155 x111_5).f1) ((rd_T135 y155 x111_5).f2) t161 _ ?side1 ?side2 ?side3 ?side4 A67.out).mono ?_
           (case side1 => first | exact bC HR0_3.out HB.out | exact Kd.C_below HR0_3.out HB.out)
           (case side2 => exact HC0_3.out)
           (case side3 => first | exact bC HR0_4.out HB.out | exact Kd.C_below HR0_4.out HB.out)
           (case side4 => exact HC0_4.out)
           rintro e w82 ⟨rfl, hb⟩
           refine ⟨_, rfl, ?_⟩
           have n0_ := Aside0.mk (blk_below (bs BK141.out) hb)
           have n1_ := Aside0.mk (blk_below (bs BK147.out) hb)
           have n2_ := Aside0.mk (blk_below (bs BK160.out) hb)
           have n3_ := Aside0.mk (below_step (by repeat (first | (with_reducible first | exact bw HB.out | refine bset ?_ | apply bA | apply bN | apply bD) | exact HB.out)) hb)
           replace BK141 := n0_
           replace BK147 := n1_
           replace BK160 := n2_
           replace HB := n3_
           clear n0_ n1_ n2_ n3_
           (try clear hb)
           (try clear hb2)
           (try clear hk)
           (try clear hi)
           refine hK.out _ _ ⟨(blk_cell BK160.out 0).trans rfl, (blk_cell BK160.out 1).trans rfl, (blk_cell BK160.out 2).trans rfl, (blk_cell BK147.out 0).trans rfl, (blk_cell BK147.out 1).trans rfl, (blk_cell BK147.out 2).trans rfl, (blk_cell BK141.out 0).trans rfl, (blk_cell BK141.out 1).trans rfl, (blk_cell BK141.out 2).trans rfl, (blk_cell BK141.out 3).trans rfl, (blk_cell BK141.out 4).trans rfl⟩ (fun hHeld => ?_)
           clear hK K
           refine norm_ (a' := ?_) ?_ ?_
           rotate_left
           ·show Act.put _ (some 129) _ = _
            simp only [aq_]
            rfl
           refine pup_ (i := 17) (N := some 132) HT_ rfl rfl (by kernel_rfl) (fun _ _ _ h => h) (Or.inl ⟨by rfl, by intro w'; go_simp; with_reducible rfl⟩) (by simp only [aq_]; rfl) ?_
           refine pup_ (i := 18) (N := some 133) HT_ rfl rfl (by kernel_rfl) (fun _ _ _ h => h) (Or.inl ⟨by rfl, by intro w'; go_simp; with_reducible rfl⟩) (by simp only [aq_]; rfl) ?_
           refine pup_ (i := 19) (N := some 134) HT_ rfl rfl (by kernel_rfl) (fun _ _ _ h => h) (Or.inl ⟨by rfl, by intro w'; go_simp; with_reducible rfl⟩) (by simp only [aq_]; rfl) ?_
           refine done_ (done_of HT_.out (by kernel_rfl)) ?_
           try go_wp2
           go_roundg k5
           case measure => have := HJ1.out; have := HK2.out; have := HJ20.out; have := HJ38.out; have := HK5.out; omega
           case rel => exact ⟨(wrap64 (x111_5 + 1)), (by first | rfl | (simp; done) | (simp [*]; done)), H', ⟨by have := HJ1.out; have := HK2.out; have := HJ20.out; have := HJ38.out; have := HK5.out; omega⟩, ⟨bs BK141.out⟩, ⟨bs BK147.out⟩, ⟨by repeat (first | (with_reducible first | exact bw HB.out | refine bset ?_ | apply bA | apply bN | apply bD) | exact HB.out)⟩⟩

/-! ### laws_eqJob: function 125 -/
def laws_eqJob.f (a0_0 : Int) (a0_1 : Int) (a0_2 : Int) (a0_3 : Int) (a1_0 : Int) (a1_1 : Int) (a1_2 : Int) (a1_3 : Int) : Option (Bool) := if a0_0 = a1_0 then (if a0_1 = a1_1 then (if a0_2 = a1_2 then (if a0_3 = a1_3 then (some true) else (some false)) else (some false)) else (some false)) else (some false)
set_option maxHeartbeats 8000000 in
set_option maxRecDepth 100000 in
theorem laws_eqJob.calls (a0_0 : Int) (a0_1 : Int) (a0_2 : Int) (a0_3 : Int) (a1_0 : Int) (a1_1 : Int) (a1_2 : Int) (a1_3 : Int) (r : Bool) (w : World) (h : laws_eqJob.f a0_0 a0_1 a0_2 a0_3 a1_0 a1_1 a1_2 a1_3 = some r) :
  Calls Try.prog 125 #[.agg #[.int .i64 a0_0, .int .i64 a0_1, .int .i64 a0_2, .int .i64 a0_3], .agg #[.int .i64 a1_0, .int .i64 a1_1, .int .i64 a1_2, .int .i64 a1_3]] w fun e w' => e = .returned (.bool r) ∧ Below w.heap.size w w' := by
 have hu137 := Try.underlying137
 have HB := Aside0.mk (Below.refl w.heap.size w)
 have H : (if a0_0 = a1_0 then (if a0_1 = a1_1 then (if a0_2 = a1_2 then (if a0_3 = a1_3 then (some true) else (some false)) else (some false)) else (some false)) else (some false)) = some r := h
 clear h
 by_cases c3 : a0_0 = a1_0
 rotate_left
 ·rw [if_neg c3] at H
  have c3b0 : (a0_0 == a1_0) = false := beq_eq_false_iff_ne.mpr c3
  have c3b1 : (a0_0 != a1_0) = true := bne_iff_ne.mpr c3
  obtain rfl := Option.some.inj H
  go_enter Try.func125, Try.ntmps125
  go_wp2_with (first | ((with_reducible refine gate_dst (N := 2) rfl ?_); refine box_event ?hg (N := 2) ?hd (cs := #[.int .i64 a0_0, .int .i64 a0_1, .int .i64 a0_2, .int .i64 a0_3]) (t := 137) ?hr ?_; (case hd => rfl); (case hg => rfl); (case hr => first | (go_simp; done) | (go_simp; rfl)); intro gb165 hg w27 hbox hb; have n0_ := Aside0.mk (below_step (bw HB.out) hb); have n1_ := Aside0.mk (hbox); have n2_ := ge_ hg HB.out; have n3_ := ge_ hg HB.out; replace HB := n0_; have BK165 := n1_; have GW165 := n2_; have GE165 := n3_; clear n0_ n1_ n2_ n3_; clear hb hbox hg) | ((with_reducible refine gate_dst (N := 3) rfl ?_); refine box_event ?hg (N := 3) ?hd (cs := #[.int .i64 a1_0, .int .i64 a1_1, .int .i64 a1_2, .int .i64 a1_3]) (t := 137) ?hr ?_; (case hd => rfl); (case hg => rfl); (case hr => first | (go_simp; done) | (go_simp; rfl)); intro gb166 hg w28 hbox hb; have n0_ := Aside0.mk (blk_below (bs BK165.out) hb); have n1_ := Aside0.mk (below_step (by repeat (first | (with_reducible first | exact bw HB.out | refine bset ?_ | apply bA | apply bN | apply bD) | exact HB.out)) hb); have n2_ := Aside0.mk (hbox); have n3_ := Aside0.mk ((by rw [hg]; exact (below_size (by repeat (first | (with_reducible first | exact bw HB.out | refine bset ?_ | apply bA | apply bN | apply bD) | exact HB.out))) : w.heap.size ≤ gb166)); have n4_ := Aside0.mk ((by rw [hg]; exact (below_size (by repeat (first | (with_reducible first | exact bw HB.out | refine bset ?_ | apply bA | apply bN | apply bD) | exact HB.out))) : w.heap.size ≤ gb166)); have n5_ := ne_ hg BK165.out; have n6_ := en_ hg BK165.out; replace BK165 := n0_; replace HB := n1_; have BK166 := n2_; have GW166 := n3_; have GE166 := n4_; have NB165_166 := n5_; have NB166_165 := n6_; clear n0_ n1_ n2_ n3_ n4_ n5_ n6_; clear hb hbox hg; have hnb29 := NB165_166.out; have hnc29 := NB166_165.out; obtain ⟨hcz30_0, hcz30_1, hcz30_2, hcz30_3, hfz30_0, hfz30_1, hfz30_2, hfz30_3⟩ := bz4 BK165.out; obtain ⟨hcz31_0, hcz31_1, hcz31_2, hcz31_3, hfz31_0, hfz31_1, hfz31_2, hfz31_3⟩ := bz4 BK166.out))
  go_ret
  exact ⟨by first | rfl | (simp [errW_none, errW_some] <;> rfl) | (simp [*, errW_none, errW_some] <;> rfl), by repeat (first | (with_reducible first | exact bw HB.out | refine bset ?_ | apply bA | apply bN | apply bD) | exact HB.out)⟩
 rw [if_pos c3] at H
 have c3b0 : (a0_0 == a1_0) = true := beq_iff_eq.mpr c3
 have c3b1 : (a0_0 != a1_0) = false := bne_eq_false_iff_eq.mpr c3
 clear c3
 by_cases c4 : a0_1 = a1_1
 rotate_left
 ·rw [if_neg c4] at H
  have c4b0 : (a0_1 == a1_1) = false := beq_eq_false_iff_ne.mpr c4
  have c4b1 : (a0_1 != a1_1) = true := bne_iff_ne.mpr c4
  obtain rfl := Option.some.inj H
  go_enter Try.func125, Try.ntmps125
  go_wp2_with (first | ((with_reducible refine gate_dst (N := 2) rfl ?_); refine box_event ?hg (N := 2) ?hd (cs := #[.int .i64 a0_0, .int .i64 a0_1, .int .i64 a0_2, .int .i64 a0_3]) (t := 137) ?hr ?_; (case hd => rfl); (case hg => rfl); (case hr => first | (go_simp; done) | (go_simp; rfl)); intro gb165 hg w22 hbox hb; have n0_ := Aside0.mk (below_step (bw HB.out) hb); have n1_ := Aside0.mk (hbox); have n2_ := ge_ hg HB.out; have n3_ := ge_ hg HB.out; replace HB := n0_; have BK165 := n1_; have GW165 := n2_; have GE165 := n3_; clear n0_ n1_ n2_ n3_; clear hb hbox hg) | ((with_reducible refine gate_dst (N := 3) rfl ?_); refine box_event ?hg (N := 3) ?hd (cs := #[.int .i64 a1_0, .int .i64 a1_1, .int .i64 a1_2, .int .i64 a1_3]) (t := 137) ?hr ?_; (case hd => rfl); (case hg => rfl); (case hr => first | (go_simp; done) | (go_simp; rfl)); intro gb166 hg w23 hbox hb; have n0_ := Aside0.mk (blk_below (bs BK165.out) hb); have n1_ := Aside0.mk (below_step (by repeat (first | (with_reducible first | exact bw HB.out | refine bset ?_ | apply bA | apply bN | apply bD) | exact HB.out)) hb); have n2_ := Aside0.mk (hbox); have n3_ := Aside0.mk ((by rw [hg]; exact (below_size (by repeat (first | (with_reducible first | exact bw HB.out | refine bset ?_ | apply bA | apply bN | apply bD) | exact HB.out))) : w.heap.size ≤ gb166)); have n4_ := Aside0.mk ((by rw [hg]; exact (below_size (by repeat (first | (with_reducible first | exact bw HB.out | refine bset ?_ | apply bA | apply bN | apply bD) | exact HB.out))) : w.heap.size ≤ gb166)); have n5_ := ne_ hg BK165.out; have n6_ := en_ hg BK165.out; replace BK165 := n0_; replace HB := n1_; have BK166 := n2_; have GW166 := n3_; have GE166 := n4_; have NB165_166 := n5_; have NB166_165 := n6_; clear n0_ n1_ n2_ n3_ n4_ n5_ n6_; clear hb hbox hg; have hnb24 := NB165_166.out; have hnc24 := NB166_165.out; obtain ⟨hcz25_0, hcz25_1, hcz25_2, hcz25_3, hfz25_0, hfz25_1, hfz25_2, hfz25_3⟩ := bz4 BK165.out; obtain ⟨hcz26_0, hcz26_1, hcz26_2, hcz26_3, hfz26_0, hfz26_1, hfz26_2, hfz26_3⟩ := bz4 BK166.out))
  go_ret
  exact ⟨by first | rfl | (simp [errW_none, errW_some] <;> rfl) | (simp [*, errW_none, errW_some] <;> rfl), by repeat (first | (with_reducible first | exact bw HB.out | refine bset ?_ | apply bA | apply bN | apply bD) | exact HB.out)⟩
 rw [if_pos c4] at H
 have c4b0 : (a0_1 == a1_1) = true := beq_iff_eq.mpr c4
 have c4b1 : (a0_1 != a1_1) = false := bne_eq_false_iff_eq.mpr c4
 clear c4
 by_cases c5 : a0_2 = a1_2
 rotate_left
 ·rw [if_neg c5] at H
  have c5b0 : (a0_2 == a1_2) = false := beq_eq_false_iff_ne.mpr c5
  have c5b1 : (a0_2 != a1_2) = true := bne_iff_ne.mpr c5
  obtain rfl := Option.some.inj H
  go_enter Try.func125, Try.ntmps125
  go_wp2_with (first | ((with_reducible refine gate_dst (N := 2) rfl ?_); refine box_event ?hg (N := 2) ?hd (cs := #[.int .i64 a0_0, .int .i64 a0_1, .int .i64 a0_2, .int .i64 a0_3]) (t := 137) ?hr ?_; (case hd => rfl); (case hg => rfl); (case hr => first | (go_simp; done) | (go_simp; rfl)); intro gb165 hg w17 hbox hb; have n0_ := Aside0.mk (below_step (bw HB.out) hb); have n1_ := Aside0.mk (hbox); have n2_ := ge_ hg HB.out; have n3_ := ge_ hg HB.out; replace HB := n0_; have BK165 := n1_; have GW165 := n2_; have GE165 := n3_; clear n0_ n1_ n2_ n3_; clear hb hbox hg) | ((with_reducible refine gate_dst (N := 3) rfl ?_); refine box_event ?hg (N := 3) ?hd (cs := #[.int .i64 a1_0, .int .i64 a1_1, .int .i64 a1_2, .int .i64 a1_3]) (t := 137) ?hr ?_; (case hd => rfl); (case hg => rfl); (case hr => first | (go_simp; done) | (go_simp; rfl)); intro gb166 hg w18 hbox hb; have n0_ := Aside0.mk (blk_below (bs BK165.out) hb); have n1_ := Aside0.mk (below_step (by repeat (first | (with_reducible first | exact bw HB.out | refine bset ?_ | apply bA | apply bN | apply bD) | exact HB.out)) hb); have n2_ := Aside0.mk (hbox); have n3_ := Aside0.mk ((by rw [hg]; exact (below_size (by repeat (first | (with_reducible first | exact bw HB.out | refine bset ?_ | apply bA | apply bN | apply bD) | exact HB.out))) : w.heap.size ≤ gb166)); have n4_ := Aside0.mk ((by rw [hg]; exact (below_size (by repeat (first | (with_reducible first | exact bw HB.out | refine bset ?_ | apply bA | apply bN | apply bD) | exact HB.out))) : w.heap.size ≤ gb166)); have n5_ := ne_ hg BK165.out; have n6_ := en_ hg BK165.out; replace BK165 := n0_; replace HB := n1_; have BK166 := n2_; have GW166 := n3_; have GE166 := n4_; have NB165_166 := n5_; have NB166_165 := n6_; clear n0_ n1_ n2_ n3_ n4_ n5_ n6_; clear hb hbox hg; have hnb19 := NB165_166.out; have hnc19 := NB166_165.out; obtain ⟨hcz20_0, hcz20_1, hcz20_2, hcz20_3, hfz20_0, hfz20_1, hfz20_2, hfz20_3⟩ := bz4 BK165.out; obtain ⟨hcz21_0, hcz21_1, hcz21_2, hcz21_3, hfz21_0, hfz21_1, hfz21_2, hfz21_3⟩ := bz4 BK166.out))
  go_ret
  exact ⟨by first | rfl | (simp [errW_none, errW_some] <;> rfl) | (simp [*, errW_none, errW_some] <;> rfl), by repeat (first | (with_reducible first | exact bw HB.out | refine bset ?_ | apply bA | apply bN | apply bD) | exact HB.out)⟩
 rw [if_pos c5] at H
 have c5b0 : (a0_2 == a1_2) = true := beq_iff_eq.mpr c5
 have c5b1 : (a0_2 != a1_2) = false := bne_eq_false_iff_eq.mpr c5
 clear c5
 by_cases c6 : a0_3 = a1_3
 rotate_left
 ·rw [if_neg c6] at H
  have c6b0 : (a0_3 == a1_3) = false := beq_eq_false_iff_ne.mpr c6
  have c6b1 : (a0_3 != a1_3) = true := bne_iff_ne.mpr c6
  obtain rfl := Option.some.inj H
  go_enter Try.func125, Try.ntmps125
  go_wp2_with (first | ((with_reducible refine gate_dst (N := 2) rfl ?_); refine box_event ?hg (N := 2) ?hd (cs := #[.int .i64 a0_0, .int .i64 a0_1, .int .i64 a0_2, .int .i64 a0_3]) (t := 137) ?hr ?_; (case hd => rfl); (case hg => rfl); (case hr => first | (go_simp; done) | (go_simp; rfl)); intro gb165 hg w12 hbox hb; have n0_ := Aside0.mk (below_step (bw HB.out) hb); have n1_ := Aside0.mk (hbox); have n2_ := ge_ hg HB.out; have n3_ := ge_ hg HB.out; replace HB := n0_; have BK165 := n1_; have GW165 := n2_; have GE165 := n3_; clear n0_ n1_ n2_ n3_; clear hb hbox hg) | ((with_reducible refine gate_dst (N := 3) rfl ?_); refine box_event ?hg (N := 3) ?hd (cs := #[.int .i64 a1_0, .int .i64 a1_1, .int .i64 a1_2, .int .i64 a1_3]) (t := 137) ?hr ?_; (case hd => rfl); (case hg => rfl); (case hr => first | (go_simp; done) | (go_simp; rfl)); intro gb166 hg w13 hbox hb; have n0_ := Aside0.mk (blk_below (bs BK165.out) hb); have n1_ := Aside0.mk (below_step (by repeat (first | (with_reducible first | exact bw HB.out | refine bset ?_ | apply bA | apply bN | apply bD) | exact HB.out)) hb); have n2_ := Aside0.mk (hbox); have n3_ := Aside0.mk ((by rw [hg]; exact (below_size (by repeat (first | (with_reducible first | exact bw HB.out | refine bset ?_ | apply bA | apply bN | apply bD) | exact HB.out))) : w.heap.size ≤ gb166)); have n4_ := Aside0.mk ((by rw [hg]; exact (below_size (by repeat (first | (with_reducible first | exact bw HB.out | refine bset ?_ | apply bA | apply bN | apply bD) | exact HB.out))) : w.heap.size ≤ gb166)); have n5_ := ne_ hg BK165.out; have n6_ := en_ hg BK165.out; replace BK165 := n0_; replace HB := n1_; have BK166 := n2_; have GW166 := n3_; have GE166 := n4_; have NB165_166 := n5_; have NB166_165 := n6_; clear n0_ n1_ n2_ n3_ n4_ n5_ n6_; clear hb hbox hg; have hnb14 := NB165_166.out; have hnc14 := NB166_165.out; obtain ⟨hcz15_0, hcz15_1, hcz15_2, hcz15_3, hfz15_0, hfz15_1, hfz15_2, hfz15_3⟩ := bz4 BK165.out; obtain ⟨hcz16_0, hcz16_1, hcz16_2, hcz16_3, hfz16_0, hfz16_1, hfz16_2, hfz16_3⟩ := bz4 BK166.out))
  go_ret
  exact ⟨by first | rfl | (simp [errW_none, errW_some] <;> rfl) | (simp [*, errW_none, errW_some] <;> rfl), by repeat (first | (with_reducible first | exact bw HB.out | refine bset ?_ | apply bA | apply bN | apply bD) | exact HB.out)⟩
 rw [if_pos c6] at H
 have c6b0 : (a0_3 == a1_3) = true := beq_iff_eq.mpr c6
 have c6b1 : (a0_3 != a1_3) = false := bne_eq_false_iff_eq.mpr c6
 clear c6
 obtain rfl := Option.some.inj H
 go_enter Try.func125, Try.ntmps125
 go_wp2_with (first | ((with_reducible refine gate_dst (N := 2) rfl ?_); refine box_event ?hg (N := 2) ?hd (cs := #[.int .i64 a0_0, .int .i64 a0_1, .int .i64 a0_2, .int .i64 a0_3]) (t := 137) ?hr ?_; (case hd => rfl); (case hg => rfl); (case hr => first | (go_simp; done) | (go_simp; rfl)); intro gb165 hg w7 hbox hb; have n0_ := Aside0.mk (below_step (bw HB.out) hb); have n1_ := Aside0.mk (hbox); have n2_ := ge_ hg HB.out; have n3_ := ge_ hg HB.out; replace HB := n0_; have BK165 := n1_; have GW165 := n2_; have GE165 := n3_; clear n0_ n1_ n2_ n3_; clear hb hbox hg) | ((with_reducible refine gate_dst (N := 3) rfl ?_); refine box_event ?hg (N := 3) ?hd (cs := #[.int .i64 a1_0, .int .i64 a1_1, .int .i64 a1_2, .int .i64 a1_3]) (t := 137) ?hr ?_; (case hd => rfl); (case hg => rfl); (case hr => first | (go_simp; done) | (go_simp; rfl)); intro gb166 hg w8 hbox hb; have n0_ := Aside0.mk (blk_below (bs BK165.out) hb); have n1_ := Aside0.mk (below_step (by repeat (first | (with_reducible first | exact bw HB.out | refine bset ?_ | apply bA | apply bN | apply bD) | exact HB.out)) hb); have n2_ := Aside0.mk (hbox); have n3_ := Aside0.mk ((by rw [hg]; exact (below_size (by repeat (first | (with_reducible first | exact bw HB.out | refine bset ?_ | apply bA | apply bN | apply bD) | exact HB.out))) : w.heap.size ≤ gb166)); have n4_ := Aside0.mk ((by rw [hg]; exact (below_size (by repeat (first | (with_reducible first | exact bw HB.out | refine bset ?_ | apply bA | apply bN | apply bD) | exact HB.out))) : w.heap.size ≤ gb166)); have n5_ := ne_ hg BK165.out; have n6_ := en_ hg BK165.out; replace BK165 := n0_; replace HB := n1_; have BK166 := n2_; have GW166 := n3_; have GE166 := n4_; have NB165_166 := n5_; have NB166_165 := n6_; clear n0_ n1_ n2_ n3_ n4_ n5_ n6_; clear hb hbox hg; have hnb9 := NB165_166.out; have hnc9 := NB166_165.out; obtain ⟨hcz10_0, hcz10_1, hcz10_2, hcz10_3, hfz10_0, hfz10_1, hfz10_2, hfz10_3⟩ := bz4 BK165.out; obtain ⟨hcz11_0, hcz11_1, hcz11_2, hcz11_3, hfz11_0, hfz11_1, hfz11_2, hfz11_3⟩ := bz4 BK166.out))
 go_ret
 exact ⟨by first | rfl | (simp [errW_none, errW_some] <;> rfl) | (simp [*, errW_none, errW_some] <;> rfl), by repeat (first | (with_reducible first | exact bw HB.out | refine bset ?_ | apply bA | apply bN | apply bD) | exact HB.out)⟩

/-! ### laws_eqJobS: function 78 -/
abbrev q78_0 : Array Bool := ⟨rl_ [10] false⟩
abbrev q78_7 : Array Bool := ⟨rl_ [7, 3] true⟩
abbrev q78_8 : Array Bool := ⟨rl_ [8, 2] true⟩
abbrev q78_9 : Array Bool := ⟨rl_ [9, 1] true⟩
def laws_eqJobS.l0 : Nat → List (S137) → List (S137) → Int → Option (Bool)
 | 0, _, _, _ => none
 | k + 1, x0, x1, x5 => if x5 < (x0.length : Int) then (if 0 ≤ x5 then (if x5 < (x1.length : Int) then ((laws_eqJob.f ((rd_T137 x0 x5).f0) ((rd_T137 x0 x5).f1) ((rd_T137 x0 x5).f2) ((rd_T137 x0 x5).f3) ((rd_T137 x1 x5).f0) ((rd_T137 x1 x5).f1) ((rd_T137 x1 x5).f2) ((rd_T137 x1 x5).f3)).bind fun t169 => (if t169 = true then (laws_eqJobS.l0 k x0 x1 (wrap64 (x5 + 1))) else (some false))) else (none)) else (none)) else (some true)
def laws_eqJobS.f (k : Nat) (l0 : List (S137)) (l1 : List (S137)) : Option (Bool) := if (l0.length : Int) = (l1.length : Int) then (laws_eqJobS.l0 k l0 l1 0) else (some false)
theorem laws_eqJobS.mono_l : ∀ k, (∀ y0 y1 y2, LeO (laws_eqJobS.l0 k y0 y1 y2) (laws_eqJobS.l0 (k + 1) y0 y1 y2))
 | 0 => fun _ _ _ r h => by simp [laws_eqJobS.l0] at h
 | k + 1 => by
  have ih0 := laws_eqJobS.mono_l k
  ·intro y0 y1 y2
   unfold laws_eqJobS.l0
   repeat' first
   | (with_reducible exact ih0 _ _ _)
   | (with_reducible exact LeO.refl _)
   | (with_reducible exact LeO.none _)
   | (with_reducible refine LeO.ite ?_ ?_)
   | (with_reducible refine LeO.bind ?_ (fun _ => ?_))
   | exact ih0 _ _ _
   | exact LeO.none _
   | refine LeO.ite ?_ ?_
   | refine LeO.bind ?_ (fun _ => ?_)
theorem laws_eqJobS.mono : ∀ a0 a1 k, LeO (laws_eqJobS.f k a0 a1) (laws_eqJobS.f (k + 1) a0 a1) := by
 intro a0 a1 k
 have ih0 := laws_eqJobS.mono_l k
 unfold laws_eqJobS.f
 repeat' first
   | (with_reducible exact ih0 _ _ _)
   | (with_reducible exact LeO.refl _)
   | (with_reducible exact LeO.none _)
   | (with_reducible refine LeO.ite ?_ ?_)
   | (with_reducible refine LeO.bind ?_ (fun _ => ?_))
   | exact ih0 _ _ _
   | exact LeO.none _
   | refine LeO.ite ?_ ?_
   | refine LeO.bind ?_ (fun _ => ?_)
def laws_eqJobS.T6 : Bool × List (List Nat × List Nat) := (true, [([], []), ([], []), ([0, 1], [0, 1]), ([2], [2]), ([], []), ([], []), ([4, 5], [4, 5]), ([6], [6]), ([3, 7], [3, 7]), ([8], [8])])
def laws_eqJobS.B6 : List Nat := [0, 0, 3, 7, 0, 0, 48, 112, 255, 511]
theorem laws_eqJobS.tab6 : rtab .any (opsOf Try.f78 6) = laws_eqJobS.T6 := by kernel_rfl
theorem laws_eqJobS.bits6 : waitsOk laws_eqJobS.T6.2 laws_eqJobS.B6 = true := by kernel_rfl
set_option maxHeartbeats 8000000 in
set_option maxRecDepth 100000 in
theorem laws_eqJobS.calls (k : Nat) (A0 : Option Addr) (c0 : Nat) (l0 : List (S137)) (A1 : Option Addr) (c1 : Nat) (l1 : List (S137)) (r : Bool) (w : World) (hr0 : Kd.C k137 w A0 l0.length l0) (hc0 : l0.length ≤ c0) (hr1 : Kd.C k137 w A1 l1.length l1) (hc1 : l1.length ≤ c1) (h : laws_eqJobS.f k l0 l1 = some r) :
  Calls Try.prog 78 #[.slice A0 l0.length c0, .slice A1 l1.length c1] w fun e w' => e = .returned (.bool r) ∧ Below w.heap.size w w' := by
 have hu137 := Try.underlying137
 have HR0 := Aside0.mk hr0
 have HC0 := Aside0.mk hc0
 clear hr0 hc0
 have HR1 := Aside0.mk hr1
 have HC1 := Aside0.mk hc1
 clear hr1 hc1
 have HB := Aside0.mk (Below.refl w.heap.size w)
 have H : (if (l0.length : Int) = (l1.length : Int) then (laws_eqJobS.l0 k l0 l1 0) else (some false)) = some r := h
 clear h
 by_cases c3 : (l0.length : Int) = (l1.length : Int)
 rotate_left
 ·rw [if_neg c3] at H
  have c3b0 : ((l0.length : Int) == (l1.length : Int)) = false := beq_eq_false_iff_ne.mpr c3
  have c3b1 : ((l0.length : Int) != (l1.length : Int)) = true := bne_iff_ne.mpr c3
  have c3b2 : (l0.length == l1.length) = false := by first | simpa using c3 | (simp at c3 ⊢; omega)
  obtain rfl := Option.some.inj H
  go_enter Try.func78, Try.ntmps78
  go_wp2
  go_ret
  exact ⟨by first | rfl | (simp [errW_none, errW_some] <;> rfl) | (simp [*, errW_none, errW_some] <;> rfl), bw HB.out⟩
 rw [if_pos c3] at H
 have c3b0 : ((l0.length : Int) == (l1.length : Int)) = true := beq_iff_eq.mpr c3
 have c3b1 : ((l0.length : Int) != (l1.length : Int)) = false := bne_eq_false_iff_eq.mpr c3
 have c3b2 : (l0.length == l1.length) = true := by first | simpa using c3 | (simp at c3 ⊢; omega)
 clear c3
 have H' := Aside0.mk H
 clear H
 go_enter Try.func78, Try.ntmps78
 go_wp2
 go_loopg [5] k (fun kq v5 w' => ∃ (x5_1 : Int), v5 = .int .i64 x5_1 ∧ Aside0 (laws_eqJobS.l0 kq l0 l1 x5_1 = some r) ∧ Aside0 (kq ≤ k) ∧ Aside0 (Below w.heap.size w w'))
 case atStart => exact ⟨(0), (by first | rfl | (simp; done) | (simp [*]; done)), H', ⟨Nat.le_refl _⟩, ⟨bw HB.out⟩⟩
 case round =>
  clear H'
  try clear c1
  try clear p2
  try clear c3
  try clear c3b0
  try clear c3b1
  try clear c3b2
  obtain ⟨x5_1, rfl, HA, HK1, HB⟩ := hrel
  cases gk with
  | zero => exact absurd HA.out (by simp [laws_eqJobS.l0])
  | succ k1 =>
   have H := HA.out
   clear HA
   simp only [laws_eqJobS.l0] at H
   by_cases c4 : x5_1 < (l0.length : Int)
   rotate_left
   ·rw [if_neg c4] at H
    have c4b0 : decide (x5_1 < (l0.length : Int)) = false := decide_eq_false c4
    clear c4
    obtain rfl := Option.some.inj H
    go_wp2
    go_ret
    exact ⟨by first | rfl | (simp [errW_none, errW_some] <;> rfl) | (simp [*, errW_none, errW_some] <;> rfl), bw HB.out⟩
   rw [if_pos c4] at H
   have c4b0 : decide (x5_1 < (l0.length : Int)) = true := decide_eq_true c4
   clear c4
   by_cases c5 : 0 ≤ x5_1
   rotate_left
   ·rw [if_neg c5] at H
    exact absurd H (by simp)
   rw [if_pos c5] at H
   have c5b0 : decide (0 ≤ x5_1) = true := decide_eq_true c5
   clear c5
   by_cases c6 : x5_1 < (l1.length : Int)
   rotate_left
   ·rw [if_neg c6] at H
    exact absurd H (by simp)
   rw [if_pos c6] at H
   have c6b0 : decide (x5_1 < (l1.length : Int)) = true := decide_eq_true c6
   clear c6
   replace H := Option.bind_eq_some_iff.mp H
   obtain ⟨t169, A70, H⟩ := H
   replace H : (if t169 = true then (laws_eqJobS.l0 k1 l0 l1 (wrap64 (x5_1 + 1))) else (some false)) = some r := H
   have A7 := Aside0.mk A70
   clear A70
   by_cases c8 : t169 = true
   rotate_left
   ·replace c8 := Bool.eq_false_iff.mpr c8
    subst c8
    have H1 : (some false) = some r := by rw [if_neg (show ¬ (false = true) by decide)] at H; exact H
    clear H
    have H := H1
    clear H1
    obtain rfl := Option.some.inj H
    try go_wp2
    have n0_ := Aside0.mk (below_drew1 HB.out)
    replace HB := n0_
    clear n0_
    have p167 : 0 ≤ (x5_1 : Int) := of_decide_eq_true (by first | (with_reducible assumption) | assumption)
    have q167 : x5_1 < (l0.length : Int) := of_decide_eq_true (by first | (with_reducible assumption) | assumption)
    obtain ⟨ad167, e167, hx167_0, hx167_1, hx167_2, hx167_3⟩ := at_T137 HR0.out x5_1 p167 q167
    have hw167_3 := hx167_3
    have hw167_2 := hx167_2
    have hw167_1 := hx167_1
    have hw167_0 := hx167_0
    cases e167
    replace hx167_0 := (HB.out.cell (World.block_lt_of_cell? w _ hx167_0)).trans hx167_0
    replace hx167_1 := (HB.out.cell (World.block_lt_of_cell? w _ hx167_1)).trans hx167_1
    replace hx167_2 := (HB.out.cell (World.block_lt_of_cell? w _ hx167_2)).trans hx167_2
    replace hx167_3 := (HB.out.cell (World.block_lt_of_cell? w _ hx167_3)).trans hx167_3
    replace p167 := eq_true p167
    replace q167 := eq_true q167
    have p168 : 0 ≤ (x5_1 : Int) := of_decide_eq_true (by first | (with_reducible assumption) | assumption)
    have q168 : x5_1 < (l1.length : Int) := of_decide_eq_true (by first | (with_reducible assumption) | assumption)
    obtain ⟨ad168, e168, hx168_0, hx168_1, hx168_2, hx168_3⟩ := at_T137 HR1.out x5_1 p168 q168
    have hw168_3 := hx168_3
    have hw168_2 := hx168_2
    have hw168_1 := hx168_1
    have hw168_0 := hx168_0
    cases e168
    replace hx168_0 := (HB.out.cell (World.block_lt_of_cell? w _ hx168_0)).trans hx168_0
    replace hx168_1 := (HB.out.cell (World.block_lt_of_cell? w _ hx168_1)).trans hx168_1
    replace hx168_2 := (HB.out.cell (World.block_lt_of_cell? w _ hx168_2)).trans hx168_2
    replace hx168_3 := (HB.out.cell (World.block_lt_of_cell? w _ hx168_3)).trans hx168_3
    replace p168 := eq_true p168
    replace q168 := eq_true q168
    refine start_ (n := 10) (S := fun w' => w'.cell? (ad167.add ((x5_1).toNat * 4)) = some (.int .i64 ((rd_T137 l0 x5_1).f0)) ∧ w'.cell? ⟨(ad167.add ((x5_1).toNat * 4)).block, (ad167.add ((x5_1).toNat * 4)).off + 1, none⟩ = some (.int .i64 ((rd_T137 l0 x5_1).f1)) ∧ w'.cell? ⟨(ad167.add ((x5_1).toNat * 4)).block, (ad167.add ((x5_1).toNat * 4)).off + 2, none⟩ = some (.int .i64 ((rd_T137 l0 x5_1).f2)) ∧ w'.cell? ⟨(ad167.add ((x5_1).toNat * 4)).block, (ad167.add ((x5_1).toNat * 4)).off + 3, none⟩ = some (.int .i64 ((rd_T137 l0 x5_1).f3)) ∧ w'.cell? (ad168.add ((x5_1).toNat * 4)) = some (.int .i64 ((rd_T137 l1 x5_1).f0)) ∧ w'.cell? ⟨(ad168.add ((x5_1).toNat * 4)).block, (ad168.add ((x5_1).toNat * 4)).off + 1, none⟩ = some (.int .i64 ((rd_T137 l1 x5_1).f1)) ∧ w'.cell? ⟨(ad168.add ((x5_1).toNat * 4)).block, (ad168.add ((x5_1).toNat * 4)).off + 2, none⟩ = some (.int .i64 ((rd_T137 l1 x5_1).f2)) ∧ w'.cell? ⟨(ad168.add ((x5_1).toNat * 4)).block, (ad168.add ((x5_1).toNat * 4)).off + 3, none⟩ = some (.int .i64 ((rd_T137 l1 x5_1).f3))) (ds := []) q78_0 (by kernel_rfl) rfl rfl ⟨(bcl_ HB.out hw167_0 :), (bcl_ HB.out hw167_1 :), (bcl_ HB.out hw167_2 :), (bcl_ HB.out hw167_3 :), (bcl_ HB.out hw168_0 :), (bcl_ HB.out hw168_1 :), (bcl_ HB.out hw168_2 :), (bcl_ HB.out hw168_3 :)⟩ (fun hHeld => ?_); refine with_tabW laws_eqJobS.tab6 laws_eqJobS.bits6 (fun HT_ HW_ => ?_)
    generalize wr.drew = w11 at HB hx167_0 hx167_1 hx167_2 hx167_3 hx168_0 hx168_1 hx168_2 hx168_3 hHeld ⊢
    refine pup_ (i := 0) (N := some 17) HT_ rfl rfl (by kernel_rfl) (fun _ _ _ h => h) (Or.inl ⟨by rfl, by intro w'; go_simp; with_reducible rfl⟩) (by simp only [aq_]; rfl) ?_
    refine pup_ (i := 1) (N := some 18) HT_ rfl rfl (by kernel_rfl) (fun _ _ _ h => h) (Or.inl ⟨by rfl, by intro w'; go_simp; with_reducible rfl⟩) (by simp only [aq_]; rfl) ?_
    refine pup_ (i := 2) (N := some 19) HT_ rfl rfl (by kernel_rfl) (fun _ _ _ h => h) (Or.inl ⟨by rfl, by intro w'; go_simp; with_reducible rfl⟩) (by simp only [aq_]; rfl) ?_
    refine pup_ (i := 4) (N := some 21) HT_ rfl rfl (by kernel_rfl) (fun _ _ _ h => h) (Or.inl ⟨by rfl, by intro w'; go_simp; with_reducible rfl⟩) (by simp only [aq_]; rfl) ?_
    refine pup_ (i := 5) (N := some 22) HT_ rfl rfl (by kernel_rfl) (fun _ _ _ h => h) (Or.inl ⟨by rfl, by intro w'; go_simp; with_reducible rfl⟩) (by simp only [aq_]; rfl) ?_
    refine pup_ (i := 6) (N := some 23) HT_ rfl rfl (by kernel_rfl) (fun _ _ _ h => h) (Or.inl ⟨by rfl, by intro w'; go_simp; with_reducible rfl⟩) (by simp only [aq_]; rfl) ?_
    refine take_ (i := 3) (N := some 20) (v := ?_) (a' := ?_) q78_7 rfl rfl (take_ofW HT_.out HW_.out (by kernel_rfl)) (fun _ _ _ h => h) (Or.inl ⟨by rfl, ?_⟩) hHeld ?_ ?_
    rotate_left
    ·rintro w' ⟨s0, s1, s2, s3, s4, s5, s6, s7⟩
     go_simp
     with_reducible rfl
    rotate_left
    ·simp only [aq_]
     rfl
    refine take_ (i := 7) (N := some 24) (v := ?_) (a' := ?_) q78_8 rfl rfl (take_ofW HT_.out HW_.out (by kernel_rfl)) (fun _ _ _ h => h) (Or.inl ⟨by rfl, ?_⟩) hHeld ?_ ?_
    rotate_left
    ·rintro w' ⟨s0, s1, s2, s3, s4, s5, s6, s7⟩
     go_simp
     with_reducible rfl
    rotate_left
    ·simp only [aq_]
     rfl
    refine one_ (i := 8) (N := some 25) q78_9 rfl rfl (one_of HT_.out (by kernel_rfl)) (by decide) (fun K hK => ?_)
    refine goes_ Try.func125 (by kernel_rfl) rfl #[.agg #[.int .i64 ((rd_T137 l0 x5_1).f0), .int .i64 ((rd_T137 l0 x5_1).f1), .int .i64 ((rd_T137 l0 x5_1).f2), .int .i64 ((rd_T137 l0 x5_1).f3)], .agg #[.int .i64 ((rd_T137 l1 x5_1).f0), .int .i64 ((rd_T137 l1 x5_1).f1), .int .i64 ((rd_T137 l1 x5_1).f2), .int .i64 ((rd_T137 l1 x5_1).f3)]] (by rfl) rfl rfl (by (try simp only [mA_]); first | done | rfl | (simp only [List.length_drop, List.length_take]; rfl)) ?_
    with_reducible refine (laws_eqJob.calls ((rd_T137 l0 x5_1).f0) ((rd_T137 l0 x5_1).f1) ((rd_T137 l0 x5_1).f2) ((rd_T137 l0 x5_1).f3) ((rd_T137 l1 x5_1).f0) ((rd_T137 l1 x5_1).f1) ((rd_T137 l1 x5_1).f2) ((rd_T137 l1 x5_1).f3) false _ A7.out).mono ?_
    rintro e w12 ⟨rfl, hb⟩
    refine ⟨_, rfl, ?_⟩
    have n0_ := Aside0.mk (below_step (bw HB.out) hb)
    replace HB := n0_
    clear n0_
    (try clear hb)
    (try clear hb2)
    (try clear hk)
    (try clear hi)
    refine hK.out _ _ ⟨(bcl_ HB.out hw167_0 :), (bcl_ HB.out hw167_1 :), (bcl_ HB.out hw167_2 :), (bcl_ HB.out hw167_3 :), (bcl_ HB.out hw168_0 :), (bcl_ HB.out hw168_1 :), (bcl_ HB.out hw168_2 :), (bcl_ HB.out hw168_3 :)⟩ (fun hHeld => ?_)
    clear hK K
    refine norm_ (a' := ?_) ?_ ?_
    rotate_left
    ·show Act.put _ (some 25) _ = _
     simp only [aq_]
     rfl
    refine pup_ (i := 9) (N := some 26) HT_ rfl rfl (by kernel_rfl) (fun _ _ _ h => h) (Or.inl ⟨by rfl, by intro w'; go_simp; with_reducible rfl⟩) (by simp only [aq_]; rfl) ?_
    refine done_ (done_of HT_.out (by kernel_rfl)) ?_
    try go_wp2
    go_ret
    exact ⟨by first | rfl | (simp [errW_none, errW_some] <;> rfl) | (simp [*, errW_none, errW_some] <;> rfl), bw HB.out⟩
   subst c8
   have H1 : (laws_eqJobS.l0 k1 l0 l1 (wrap64 (x5_1 + 1))) = some r := by rw [if_pos rfl] at H; exact H
   clear H
   have H := H1
   clear H1
   have H' := Aside0.mk H
   clear H
   try go_wp2
   have n0_ := Aside0.mk (below_drew1 HB.out)
   replace HB := n0_
   clear n0_
   have p167 : 0 ≤ (x5_1 : Int) := of_decide_eq_true (by first | (with_reducible assumption) | assumption)
   have q167 : x5_1 < (l0.length : Int) := of_decide_eq_true (by first | (with_reducible assumption) | assumption)
   obtain ⟨ad167, e167, hx167_0, hx167_1, hx167_2, hx167_3⟩ := at_T137 HR0.out x5_1 p167 q167
   have hw167_3 := hx167_3
   have hw167_2 := hx167_2
   have hw167_1 := hx167_1
   have hw167_0 := hx167_0
   cases e167
   replace hx167_0 := (HB.out.cell (World.block_lt_of_cell? w _ hx167_0)).trans hx167_0
   replace hx167_1 := (HB.out.cell (World.block_lt_of_cell? w _ hx167_1)).trans hx167_1
   replace hx167_2 := (HB.out.cell (World.block_lt_of_cell? w _ hx167_2)).trans hx167_2
   replace hx167_3 := (HB.out.cell (World.block_lt_of_cell? w _ hx167_3)).trans hx167_3
   replace p167 := eq_true p167
   replace q167 := eq_true q167
   have p168 : 0 ≤ (x5_1 : Int) := of_decide_eq_true (by first | (with_reducible assumption) | assumption)
   have q168 : x5_1 < (l1.length : Int) := of_decide_eq_true (by first | (with_reducible assumption) | assumption)
   obtain ⟨ad168, e168, hx168_0, hx168_1, hx168_2, hx168_3⟩ := at_T137 HR1.out x5_1 p168 q168
   have hw168_3 := hx168_3
   have hw168_2 := hx168_2
   have hw168_1 := hx168_1
   have hw168_0 := hx168_0
   cases e168
   replace hx168_0 := (HB.out.cell (World.block_lt_of_cell? w _ hx168_0)).trans hx168_0
   replace hx168_1 := (HB.out.cell (World.block_lt_of_cell? w _ hx168_1)).trans hx168_1
   replace hx168_2 := (HB.out.cell (World.block_lt_of_cell? w _ hx168_2)).trans hx168_2
   replace hx168_3 := (HB.out.cell (World.block_lt_of_cell? w _ hx168_3)).trans hx168_3
   replace p168 := eq_true p168
   replace q168 := eq_true q168
   refine start_ (n := 10) (S := fun w' => w'.cell? (ad167.add ((x5_1).toNat * 4)) = some (.int .i64 ((rd_T137 l0 x5_1).f0)) ∧ w'.cell? ⟨(ad167.add ((x5_1).toNat * 4)).block, (ad167.add ((x5_1).toNat * 4)).off + 1, none⟩ = some (.int .i64 ((rd_T137 l0 x5_1).f1)) ∧ w'.cell? ⟨(ad167.add ((x5_1).toNat * 4)).block, (ad167.add ((x5_1).toNat * 4)).off + 2, none⟩ = some (.int .i64 ((rd_T137 l0 x5_1).f2)) ∧ w'.cell? ⟨(ad167.add ((x5_1).toNat * 4)).block, (ad167.add ((x5_1).toNat * 4)).off + 3, none⟩ = some (.int .i64 ((rd_T137 l0 x5_1).f3)) ∧ w'.cell? (ad168.add ((x5_1).toNat * 4)) = some (.int .i64 ((rd_T137 l1 x5_1).f0)) ∧ w'.cell? ⟨(ad168.add ((x5_1).toNat * 4)).block, (ad168.add ((x5_1).toNat * 4)).off + 1, none⟩ = some (.int .i64 ((rd_T137 l1 x5_1).f1)) ∧ w'.cell? ⟨(ad168.add ((x5_1).toNat * 4)).block, (ad168.add ((x5_1).toNat * 4)).off + 2, none⟩ = some (.int .i64 ((rd_T137 l1 x5_1).f2)) ∧ w'.cell? ⟨(ad168.add ((x5_1).toNat * 4)).block, (ad168.add ((x5_1).toNat * 4)).off + 3, none⟩ = some (.int .i64 ((rd_T137 l1 x5_1).f3))) (ds := []) q78_0 (by kernel_rfl) rfl rfl ⟨(bcl_ HB.out hw167_0 :), (bcl_ HB.out hw167_1 :), (bcl_ HB.out hw167_2 :), (bcl_ HB.out hw167_3 :), (bcl_ HB.out hw168_0 :), (bcl_ HB.out hw168_1 :), (bcl_ HB.out hw168_2 :), (bcl_ HB.out hw168_3 :)⟩ (fun hHeld => ?_); refine with_tabW laws_eqJobS.tab6 laws_eqJobS.bits6 (fun HT_ HW_ => ?_)
   generalize wr.drew = w9 at HB hx167_0 hx167_1 hx167_2 hx167_3 hx168_0 hx168_1 hx168_2 hx168_3 hHeld ⊢
   refine pup_ (i := 0) (N := some 17) HT_ rfl rfl (by kernel_rfl) (fun _ _ _ h => h) (Or.inl ⟨by rfl, by intro w'; go_simp; with_reducible rfl⟩) (by simp only [aq_]; rfl) ?_
   refine pup_ (i := 1) (N := some 18) HT_ rfl rfl (by kernel_rfl) (fun _ _ _ h => h) (Or.inl ⟨by rfl, by intro w'; go_simp; with_reducible rfl⟩) (by simp only [aq_]; rfl) ?_
   refine pup_ (i := 2) (N := some 19) HT_ rfl rfl (by kernel_rfl) (fun _ _ _ h => h) (Or.inl ⟨by rfl, by intro w'; go_simp; with_reducible rfl⟩) (by simp only [aq_]; rfl) ?_
   refine pup_ (i := 4) (N := some 21) HT_ rfl rfl (by kernel_rfl) (fun _ _ _ h => h) (Or.inl ⟨by rfl, by intro w'; go_simp; with_reducible rfl⟩) (by simp only [aq_]; rfl) ?_
   refine pup_ (i := 5) (N := some 22) HT_ rfl rfl (by kernel_rfl) (fun _ _ _ h => h) (Or.inl ⟨by rfl, by intro w'; go_simp; with_reducible rfl⟩) (by simp only [aq_]; rfl) ?_
   refine pup_ (i := 6) (N := some 23) HT_ rfl rfl (by kernel_rfl) (fun _ _ _ h => h) (Or.inl ⟨by rfl, by intro w'; go_simp; with_reducible rfl⟩) (by simp only [aq_]; rfl) ?_
   refine take_ (i := 3) (N := some 20) (v := ?_) (a' := ?_) q78_7 rfl rfl (take_ofW HT_.out HW_.out (by kernel_rfl)) (fun _ _ _ h => h) (Or.inl ⟨by rfl, ?_⟩) hHeld ?_ ?_
   rotate_left
   ·rintro w' ⟨s0, s1, s2, s3, s4, s5, s6, s7⟩
    go_simp
    with_reducible rfl
   rotate_left
   ·simp only [aq_]
    rfl
   refine take_ (i := 7) (N := some 24) (v := ?_) (a' := ?_) q78_8 rfl rfl (take_ofW HT_.out HW_.out (by kernel_rfl)) (fun _ _ _ h => h) (Or.inl ⟨by rfl, ?_⟩) hHeld ?_ ?_
   rotate_left
   ·rintro w' ⟨s0, s1, s2, s3, s4, s5, s6, s7⟩
    go_simp
    with_reducible rfl
   rotate_left
   ·simp only [aq_]
    rfl
   refine one_ (i := 8) (N := some 25) q78_9 rfl rfl (one_of HT_.out (by kernel_rfl)) (by decide) (fun K hK => ?_)
   refine goes_ Try.func125 (by kernel_rfl) rfl #[.agg #[.int .i64 ((rd_T137 l0 x5_1).f0), .int .i64 ((rd_T137 l0 x5_1).f1), .int .i64 ((rd_T137 l0 x5_1).f2), .int .i64 ((rd_T137 l0 x5_1).f3)], .agg #[.int .i64 ((rd_T137 l1 x5_1).f0), .int .i64 ((rd_T137 l1 x5_1).f1), .int .i64 ((rd_T137 l1 x5_1).f2), .int .i64 ((rd_T137 l1 x5_1).f3)]] (by rfl) rfl rfl (by (try simp only [mA_]); first | done | rfl | (simp only [List.length_drop, List.length_take]; rfl)) ?_
   with_reducible refine (laws_eqJob.calls ((rd_T137 l0 x5_1).f0) ((rd_T137 l0 x5_1).f1) ((rd_T137 l0 x5_1).f2) ((rd_T137 l0 x5_1).f3) ((rd_T137 l1 x5_1).f0) ((rd_T137 l1 x5_1).f1) ((rd_T137 l1 x5_1).f2) ((rd_T137 l1 x5_1).f3) true _ A7.out).mono ?_
   rintro e w10 ⟨rfl, hb⟩
   refine ⟨_, rfl, ?_⟩
   have n0_ := Aside0.mk (below_step (bw HB.out) hb)
   replace HB := n0_
   clear n0_
   (try clear hb)
   (try clear hb2)
   (try clear hk)
   (try clear hi)
   refine hK.out _ _ ⟨(bcl_ HB.out hw167_0 :), (bcl_ HB.out hw167_1 :), (bcl_ HB.out hw167_2 :), (bcl_ HB.out hw167_3 :), (bcl_ HB.out hw168_0 :), (bcl_ HB.out hw168_1 :), (bcl_ HB.out hw168_2 :), (bcl_ HB.out hw168_3 :)⟩ (fun hHeld => ?_)
   clear hK K
   refine norm_ (a' := ?_) ?_ ?_
   rotate_left
   ·show Act.put _ (some 25) _ = _
    simp only [aq_]
    rfl
   refine pup_ (i := 9) (N := some 26) HT_ rfl rfl (by kernel_rfl) (fun _ _ _ h => h) (Or.inl ⟨by rfl, by intro w'; go_simp; with_reducible rfl⟩) (by simp only [aq_]; rfl) ?_
   refine done_ (done_of HT_.out (by kernel_rfl)) ?_
   try go_wp2
   go_roundg k1
   case measure => have := HK1.out; omega
   case rel => exact ⟨(wrap64 (x5_1 + 1)), (by first | rfl | (simp; done) | (simp [*]; done)), H', ⟨by have := HK1.out; omega⟩, ⟨bw HB.out⟩⟩

end Go.Proofs.Ytafdeppeacmpdaa.X
