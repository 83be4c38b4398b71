-- Written by a program of this session (wip/gen/xp.py, over the kit's printer). Not trusted: Lean checks it.
import Derived.Test.YtgpnophjbibhhaaX0
import Derived.Test.YtgpnophjbibhhaaXf101
import Derived.Test.YtgpnophjbibhhaaXf21
import Derived.Test.YtgpnophjbibhhaaXf26
import Derived.Test.YtgpnophjbibhhaaXf43
import Derived.Test.YtgpnophjbibhhaaXf44
namespace Go.Proofs.Ytgpnophjbibhhaa.X
open Go.RowKit Go.Proofs.YtgpnophjbibhhaaW.PrintWords Go.Proofs.YtgpnophjbibhhaaW.PrintLast Go.Proofs.YtgpnophjbibhhaaW.PrintMore
attribute [local go_sem] max2_int min2_int max_two min_two max_three min_three max_four min_four   -- for this text's walks alone
set_option linter.unusedVariables false
set_option linter.unusedSimpArgs false

/-! ### impl_isPiecePlan: function 113 -/
abbrev q113_0 : Array Bool := ⟨rl_ [12] false⟩
abbrev q113_2 : Array Bool := ⟨rl_ [2, 10] true⟩
abbrev q113_3 : Array Bool := ⟨rl_ [3, 9] true⟩
abbrev q113_8 : Array Bool := ⟨rl_ [7, 1, 1, 3] true⟩
abbrev q113_9 : Array Bool := ⟨rl_ [9, 3] true⟩
abbrev q113_10 : Array Bool := ⟨rl_ [10, 2] true⟩
abbrev q113_12 : Array Bool := ⟨rl_ [12] true⟩
abbrev q113_14 : Array Bool := ⟨rl_ [8, 4] true⟩
abbrev q113_17 : Array Bool := ⟨rl_ [5, 2, 1, 4] true⟩
mutual
def impl_isPiecePlan.l0 : Nat → List (List Int) → List (S123) → List (List Int) → List (List Int) → Int → Int → Option (Bool)
 | 0, _, _, _, _, _, _ => none
 | k + 1, x0, x1, x5, x17, x18, x19 => if x19 < x18 then (if 0 ≤ x19 then (if x19 < (x17.length : Int) then ((impl_copyInts.f (rd_L4 x17 x19)).bind fun t816 => (if x5.length < 5864062014805 then (impl_isPiecePlan.l0 k x0 x1 (x5 ++ [t816]) x17 x18 (wrap64 (x19 + 1))) else (none))) else (none)) else (none)) else (impl_isPiecePlan.l1 k x0 x5 x1 (x1.length : Int) 0)
def impl_isPiecePlan.l1 : Nat → List (List Int) → List (List Int) → List (S123) → Int → Int → Option (Bool)
 | 0, _, _, _, _, _ => none
 | k + 1, x0, x5, x29, x30, x31 => if x31 < x30 then (if 0 ≤ x31 then (if x31 < (x29.length : Int) then ((impl_within.f ((rd_T123 x29 x31).f0) 1 1000000).bind fun t824 => (if t824 = true then ((impl_machinesOf.f x0).bind fun t825 => (impl_isPiecePlan.j2 k x0 x5 x29 x30 x31 ((((rd_T123 x29 x31).f1).length : Int) != t825) ((rd_T123 x29 x31).f0) ((rd_T123 x29 x31).f1))) else (impl_isPiecePlan.j2 k x0 x5 x29 x30 x31 true ((rd_T123 x29 x31).f0) ((rd_T123 x29 x31).f1)))) else (none)) else (none)) else (impl_isPiecePlan.l3 k x5 (x5.length : Int) 0)
def impl_isPiecePlan.j2 : Nat → List (List Int) → List (List Int) → List (S123) → Int → Int → Bool → Int → List Int → Option (Bool)
 | 0, _, _, _, _, _, _, _, _ => none
 | k + 1, x0, x5, x29, x30, x31, x46, x824000, x824001 => if x46 = true then (some false) else (impl_isPiecePlan.l2 k x0 x5 x29 x30 x31 x824001 (x824001.length : Int) 0 x824000 x824001)
def impl_isPiecePlan.l2 : Nat → List (List Int) → List (List Int) → List (S123) → Int → Int → List Int → Int → Int → Int → List Int → Option (Bool)
 | 0, _, _, _, _, _, _, _, _, _, _ => none
 | k + 1, x0, x5, x29, x30, x31, x48, x49, x50, x824000, x824001 => if x50 < x49 then (if 0 ≤ x50 then (if x50 < (x48.length : Int) then ((impl_within.f (rd x48 x50) (-1) (wrap64 ((x0.length : Int) - 1))).bind fun t827 => (if t827 = true then (if (rd x48 x50) ≥ 0 then (if x50 ≤ (x824001.length : Int) then ((impl_has.f k (x824001.take (x50 : Int).toNat) (rd x48 x50)).bind fun t829 => (impl_isPiecePlan.j4 k x0 x5 x50 (rd x48 x50) x29 x30 x31 x48 x49 x50 t829 x824000 x824001)) else (none)) else (impl_isPiecePlan.j4 k x0 x5 x50 (rd x48 x50) x29 x30 x31 x48 x49 x50 false x824000 x824001)) else (impl_isPiecePlan.j4 k x0 x5 x50 (rd x48 x50) x29 x30 x31 x48 x49 x50 true x824000 x824001))) else (none)) else (none)) else (impl_isPiecePlan.l1 k x0 x5 x29 x30 (wrap64 (x31 + 1)))
def impl_isPiecePlan.j4 : Nat → List (List Int) → List (List Int) → Int → Int → List (S123) → Int → Int → List Int → Int → Int → Bool → Int → List Int → Option (Bool)
 | 0, _, _, _, _, _, _, _, _, _, _, _, _, _ => none
 | k + 1, x0, x5, x10, x11, x29, x30, x31, x48, x49, x50, x72, x824000, x824001 => if x72 = true then (some false) else (if x11 ≥ 0 then (if 0 ≤ x11 then (if x11 < (x5.length : Int) then (if 0 ≤ x10 then (if x10 < ((rd_L4 x5 x11).length : Int) then (impl_isPiecePlan.l2 k x0 (x5.set (x11 : Int).toNat ((rd_L4 x5 x11).set (x10 : Int).toNat (wrap64 ((rd (rd_L4 x5 x11) x10) - x824000)))) x29 x30 x31 x48 x49 (wrap64 (x50 + 1)) x824000 x824001) else (none)) else (none)) else (none)) else (none)) else (impl_isPiecePlan.l2 k x0 x5 x29 x30 x31 x48 x49 (wrap64 (x50 + 1)) x824000 x824001))
def impl_isPiecePlan.l3 : Nat → List (List Int) → Int → Int → Option (Bool)
 | 0, _, _, _ => none
 | k + 1, x88, x89, x90 => if x90 < x89 then (if 0 ≤ x90 then (if x90 < (x88.length : Int) then ((impl_allWithin.f k (rd_L4 x88 x90) 0 0).bind fun t836 => (if t836 = true then (impl_isPiecePlan.l3 k x88 x89 (wrap64 (x90 + 1))) else (some false))) else (none)) else (none)) else (some true)
end
def impl_isPiecePlan.f (k : Nat) (l0 : List (List Int)) (l1 : List (S123)) : Option (Bool) := if (l1.length : Int) > 40 then (some false) else (impl_isPiecePlan.l0 k l0 l1 ([] : List (List Int)) l0 (l0.length : Int) 0)
theorem impl_isPiecePlan.mono_l : ∀ k, (∀ y0 y1 y2 y3 y4 y5, LeO (impl_isPiecePlan.l0 k y0 y1 y2 y3 y4 y5) (impl_isPiecePlan.l0 (k + 1) y0 y1 y2 y3 y4 y5)) ∧ (∀ y0 y1 y2 y3 y4, LeO (impl_isPiecePlan.l1 k y0 y1 y2 y3 y4) (impl_isPiecePlan.l1 (k + 1) y0 y1 y2 y3 y4)) ∧ (∀ y0 y1 y2 y3 y4 y5 y6 y7, LeO (impl_isPiecePlan.j2 k y0 y1 y2 y3 y4 y5 y6 y7) (impl_isPiecePlan.j2 (k + 1) y0 y1 y2 y3 y4 y5 y6 y7)) ∧ (∀ y0 y1 y2 y3 y4 y5 y6 y7 y8 y9, LeO (impl_isPiecePlan.l2 k y0 y1 y2 y3 y4 y5 y6 y7 y8 y9) (impl_isPiecePlan.l2 (k + 1) y0 y1 y2 y3 y4 y5 y6 y7 y8 y9)) ∧ (∀ y0 y1 y2 y3 y4 y5 y6 y7 y8 y9 y10 y11 y12, LeO (impl_isPiecePlan.j4 k y0 y1 y2 y3 y4 y5 y6 y7 y8 y9 y10 y11 y12) (impl_isPiecePlan.j4 (k + 1) y0 y1 y2 y3 y4 y5 y6 y7 y8 y9 y10 y11 y12)) ∧ (∀ y0 y1 y2, LeO (impl_isPiecePlan.l3 k y0 y1 y2) (impl_isPiecePlan.l3 (k + 1) y0 y1 y2))
 | 0 => ⟨fun _ _ _ _ _ _ r h => by simp [impl_isPiecePlan.l0] at h, fun _ _ _ _ _ r h => by simp [impl_isPiecePlan.l1] at h, fun _ _ _ _ _ _ _ _ r h => by simp [impl_isPiecePlan.j2] at h, fun _ _ _ _ _ _ _ _ _ _ r h => by simp [impl_isPiecePlan.l2] at h, fun _ _ _ _ _ _ _ _ _ _ _ _ _ r h => by simp [impl_isPiecePlan.j4] at h, fun _ _ _ r h => by simp [impl_isPiecePlan.l3] at h⟩
 | k + 1 => by
  obtain ⟨ih0, ih1, ih2, ih3, ih4, ih5⟩ := impl_isPiecePlan.mono_l k
  refine ⟨?_, ?_, ?_, ?_, ?_, ?_⟩
  ·intro y0 y1 y2 y3 y4 y5
   unfold impl_isPiecePlan.l0
   repeat' first
   | (with_reducible exact ih0 _ _ _ _ _ _)
   | (with_reducible exact ih1 _ _ _ _ _)
   | (with_reducible exact ih2 _ _ _ _ _ _ _ _)
   | (with_reducible exact ih3 _ _ _ _ _ _ _ _ _ _)
   | (with_reducible exact ih4 _ _ _ _ _ _ _ _ _ _ _ _ _)
   | (with_reducible exact ih5 _ _ _)
   | (with_reducible exact impl_allWithin.mono _ _ _ _)
   | (with_reducible exact impl_has.mono _ _ _)
   | (with_reducible exact LeO.refl _)
   | (with_reducible exact LeO.none _)
   | (with_reducible refine LeO.ite ?_ ?_)
   | (with_reducible refine LeO.bind ?_ (fun _ => ?_))
   | exact ih0 _ _ _ _ _ _
   | exact ih1 _ _ _ _ _
   | exact ih2 _ _ _ _ _ _ _ _
   | exact ih3 _ _ _ _ _ _ _ _ _ _
   | exact ih4 _ _ _ _ _ _ _ _ _ _ _ _ _
   | exact ih5 _ _ _
   | exact impl_allWithin.mono _ _ _ _
   | exact impl_has.mono _ _ _
   | exact LeO.none _
   | refine LeO.ite ?_ ?_
   | refine LeO.bind ?_ (fun _ => ?_)
  ·intro y0 y1 y2 y3 y4
   unfold impl_isPiecePlan.l1
   repeat' first
   | (with_reducible exact ih0 _ _ _ _ _ _)
   | (with_reducible exact ih1 _ _ _ _ _)
   | (with_reducible exact ih2 _ _ _ _ _ _ _ _)
   | (with_reducible exact ih3 _ _ _ _ _ _ _ _ _ _)
   | (with_reducible exact ih4 _ _ _ _ _ _ _ _ _ _ _ _ _)
   | (with_reducible exact ih5 _ _ _)
   | (with_reducible exact impl_allWithin.mono _ _ _ _)
   | (with_reducible exact impl_has.mono _ _ _)
   | (with_reducible exact LeO.refl _)
   | (with_reducible exact LeO.none _)
   | (with_reducible refine LeO.ite ?_ ?_)
   | (with_reducible refine LeO.bind ?_ (fun _ => ?_))
   | exact ih0 _ _ _ _ _ _
   | exact ih1 _ _ _ _ _
   | exact ih2 _ _ _ _ _ _ _ _
   | exact ih3 _ _ _ _ _ _ _ _ _ _
   | exact ih4 _ _ _ _ _ _ _ _ _ _ _ _ _
   | exact ih5 _ _ _
   | exact impl_allWithin.mono _ _ _ _
   | exact impl_has.mono _ _ _
   | exact LeO.none _
   | refine LeO.ite ?_ ?_
   | refine LeO.bind ?_ (fun _ => ?_)
  ·intro y0 y1 y2 y3 y4 y5 y6 y7
   unfold impl_isPiecePlan.j2
   repeat' first
   | (with_reducible exact ih0 _ _ _ _ _ _)
   | (with_reducible exact ih1 _ _ _ _ _)
   | (with_reducible exact ih2 _ _ _ _ _ _ _ _)
   | (with_reducible exact ih3 _ _ _ _ _ _ _ _ _ _)
   | (with_reducible exact ih4 _ _ _ _ _ _ _ _ _ _ _ _ _)
   | (with_reducible exact ih5 _ _ _)
   | (with_reducible exact impl_allWithin.mono _ _ _ _)
   | (with_reducible exact impl_has.mono _ _ _)
   | (with_reducible exact LeO.refl _)
   | (with_reducible exact LeO.none _)
   | (with_reducible refine LeO.ite ?_ ?_)
   | (with_reducible refine LeO.bind ?_ (fun _ => ?_))
   | exact ih0 _ _ _ _ _ _
   | exact ih1 _ _ _ _ _
   | exact ih2 _ _ _ _ _ _ _ _
   | exact ih3 _ _ _ _ _ _ _ _ _ _
   | exact ih4 _ _ _ _ _ _ _ _ _ _ _ _ _
   | exact ih5 _ _ _
   | exact impl_allWithin.mono _ _ _ _
   | exact impl_has.mono _ _ _
   | exact LeO.none _
   | refine LeO.ite ?_ ?_
   | refine LeO.bind ?_ (fun _ => ?_)
  ·intro y0 y1 y2 y3 y4 y5 y6 y7 y8 y9
   unfold impl_isPiecePlan.l2
   repeat' first
   | (with_reducible exact ih0 _ _ _ _ _ _)
   | (with_reducible exact ih1 _ _ _ _ _)
   | (with_reducible exact ih2 _ _ _ _ _ _ _ _)
   | (with_reducible exact ih3 _ _ _ _ _ _ _ _ _ _)
   | (with_reducible exact ih4 _ _ _ _ _ _ _ _ _ _ _ _ _)
   | (with_reducible exact ih5 _ _ _)
   | (with_reducible exact impl_allWithin.mono _ _ _ _)
   | (with_reducible exact impl_has.mono _ _ _)
   | (with_reducible exact LeO.refl _)
   | (with_reducible exact LeO.none _)
   | (with_reducible refine LeO.ite ?_ ?_)
   | (with_reducible refine LeO.bind ?_ (fun _ => ?_))
   | exact ih0 _ _ _ _ _ _
   | exact ih1 _ _ _ _ _
   | exact ih2 _ _ _ _ _ _ _ _
   | exact ih3 _ _ _ _ _ _ _ _ _ _
   | exact ih4 _ _ _ _ _ _ _ _ _ _ _ _ _
   | exact ih5 _ _ _
   | exact impl_allWithin.mono _ _ _ _
   | exact impl_has.mono _ _ _
   | exact LeO.none _
   | refine LeO.ite ?_ ?_
   | refine LeO.bind ?_ (fun _ => ?_)
  ·intro y0 y1 y2 y3 y4 y5 y6 y7 y8 y9 y10 y11 y12
   unfold impl_isPiecePlan.j4
   repeat' first
   | (with_reducible exact ih0 _ _ _ _ _ _)
   | (with_reducible exact ih1 _ _ _ _ _)
   | (with_reducible exact ih2 _ _ _ _ _ _ _ _)
   | (with_reducible exact ih3 _ _ _ _ _ _ _ _ _ _)
   | (with_reducible exact ih4 _ _ _ _ _ _ _ _ _ _ _ _ _)
   | (with_reducible exact ih5 _ _ _)
   | (with_reducible exact impl_allWithin.mono _ _ _ _)
   | (with_reducible exact impl_has.mono _ _ _)
   | (with_reducible exact LeO.refl _)
   | (with_reducible exact LeO.none _)
   | (with_reducible refine LeO.ite ?_ ?_)
   | (with_reducible refine LeO.bind ?_ (fun _ => ?_))
   | exact ih0 _ _ _ _ _ _
   | exact ih1 _ _ _ _ _
   | exact ih2 _ _ _ _ _ _ _ _
   | exact ih3 _ _ _ _ _ _ _ _ _ _
   | exact ih4 _ _ _ _ _ _ _ _ _ _ _ _ _
   | exact ih5 _ _ _
   | exact impl_allWithin.mono _ _ _ _
   | exact impl_has.mono _ _ _
   | exact LeO.none _
   | refine LeO.ite ?_ ?_
   | refine LeO.bind ?_ (fun _ => ?_)
  ·intro y0 y1 y2
   unfold impl_isPiecePlan.l3
   repeat' first
   | (with_reducible exact ih0 _ _ _ _ _ _)
   | (with_reducible exact ih1 _ _ _ _ _)
   | (with_reducible exact ih2 _ _ _ _ _ _ _ _)
   | (with_reducible exact ih3 _ _ _ _ _ _ _ _ _ _)
   | (with_reducible exact ih4 _ _ _ _ _ _ _ _ _ _ _ _ _)
   | (with_reducible exact ih5 _ _ _)
   | (with_reducible exact impl_allWithin.mono _ _ _ _)
   | (with_reducible exact impl_has.mono _ _ _)
   | (with_reducible exact LeO.refl _)
   | (with_reducible exact LeO.none _)
   | (with_reducible refine LeO.ite ?_ ?_)
   | (with_reducible refine LeO.bind ?_ (fun _ => ?_))
   | exact ih0 _ _ _ _ _ _
   | exact ih1 _ _ _ _ _
   | exact ih2 _ _ _ _ _ _ _ _
   | exact ih3 _ _ _ _ _ _ _ _ _ _
   | exact ih4 _ _ _ _ _ _ _ _ _ _ _ _ _
   | exact ih5 _ _ _
   | exact impl_allWithin.mono _ _ _ _
   | exact impl_has.mono _ _ _
   | exact LeO.none _
   | refine LeO.ite ?_ ?_
   | refine LeO.bind ?_ (fun _ => ?_)
theorem impl_isPiecePlan.mono : ∀ a0 a1 k, LeO (impl_isPiecePlan.f k a0 a1) (impl_isPiecePlan.f (k + 1) a0 a1) := by
 intro a0 a1 k
 obtain ⟨ih0, ih1, ih2, ih3, ih4, ih5⟩ := impl_isPiecePlan.mono_l k
 unfold impl_isPiecePlan.f
 repeat' first
   | (with_reducible exact ih0 _ _ _ _ _ _)
   | (with_reducible exact ih1 _ _ _ _ _)
   | (with_reducible exact ih2 _ _ _ _ _ _ _ _)
   | (with_reducible exact ih3 _ _ _ _ _ _ _ _ _ _)
   | (with_reducible exact ih4 _ _ _ _ _ _ _ _ _ _ _ _ _)
   | (with_reducible exact ih5 _ _ _)
   | (with_reducible exact impl_allWithin.mono _ _ _ _)
   | (with_reducible exact impl_has.mono _ _ _)
   | (with_reducible exact LeO.refl _)
   | (with_reducible exact LeO.none _)
   | (with_reducible refine LeO.ite ?_ ?_)
   | (with_reducible refine LeO.bind ?_ (fun _ => ?_))
   | exact ih0 _ _ _ _ _ _
   | exact ih1 _ _ _ _ _
   | exact ih2 _ _ _ _ _ _ _ _
   | exact ih3 _ _ _ _ _ _ _ _ _ _
   | exact ih4 _ _ _ _ _ _ _ _ _ _ _ _ _
   | exact ih5 _ _ _
   | exact impl_allWithin.mono _ _ _ _
   | exact impl_has.mono _ _ _
   | exact LeO.none _
   | refine LeO.ite ?_ ?_
   | refine LeO.bind ?_ (fun _ => ?_)
def impl_isPiecePlan.T12 : Bool × List (List Nat × List Nat) := (true, [([], []), ([0], [0]), ([1], [1]), ([2], [2]), ([3, 2], [3]), ([4], [4]), ([5, 4], [4, 5]), ([6, 4], [4, 6]), ([4], [4]), ([8, 4, 4], [4, 8]), ([7, 9, 4], [4, 7, 9]), ([4, 10], [4, 10])])
def impl_isPiecePlan.B12 : List Nat := [0, 1, 3, 7, 15, 31, 63, 127, 31, 287, 1023, 2047]
theorem impl_isPiecePlan.tab12 : rtab .any (opsOf Try.f113 12) = impl_isPiecePlan.T12 := by kernel_rfl
theorem impl_isPiecePlan.bits12 : waitsOk impl_isPiecePlan.T12.2 impl_isPiecePlan.B12 = true := by kernel_rfl
def impl_isPiecePlan.T20 : Bool × List (List Nat × List Nat) := (true, [([], []), ([], []), ([0, 1], [0, 1]), ([2], [2]), ([], []), ([3, 4], [3, 4]), ([5], [5]), ([], []), ([7], [7]), ([6, 8], [6, 8]), ([3, 4, 0, 1, 2, 3, 4, 5, 6, 7, 8, 9], [3, 4]), ([10, 9, 0, 1, 2, 3, 4, 5, 6, 7, 8, 9], [9, 10])])
def impl_isPiecePlan.B20 : List Nat := [0, 0, 3, 7, 0, 31, 63, 0, 128, 511, 1023, 2047]
theorem impl_isPiecePlan.tab20 : rtab .any (opsOf Try.f113 20) = impl_isPiecePlan.T20 := by kernel_rfl
theorem impl_isPiecePlan.bits20 : waitsOk impl_isPiecePlan.T20.2 impl_isPiecePlan.B20 = true := by kernel_rfl
set_option maxHeartbeats 8000000 in
set_option maxRecDepth 100000 in
theorem impl_isPiecePlan.calls (k : Nat) (A0 : Option Addr) (c0 : Nat) (l0 : List (List Int)) (A1 : Option Addr) (c1 : Nat) (l1 : List (S123)) (r : Bool) (w : World) (hr0 : Kd.C (Kd.slice 3 (Kd.int .i64)) w A0 l0.length l0) (hc0 : l0.length ≤ c0) (hr1 : Kd.C k123 w A1 l1.length l1) (hc1 : l1.length ≤ c1) (h : impl_isPiecePlan.f k l0 l1 = some r) :
  Calls Try.prog 113 #[.slice A0 l0.length c0, .slice A1 l1.length c1] w fun e w' => e = .returned (.bool r) ∧ Below w.heap.size w w' := by
 have hu123 := Try.underlying123
 have HR0 := Aside0.mk hr0
 have HC0 := Aside0.mk hc0
 clear hr0 hc0
 have HR1 := Aside0.mk hr1
 have HC1 := Aside0.mk hc1
 clear hr1 hc1
 have HB := Aside0.mk (Below.refl w.heap.size w)
 have H : (if (l1.length : Int) > 40 then (some false) else (impl_isPiecePlan.l0 k l0 l1 ([] : List (List Int)) l0 (l0.length : Int) 0)) = some r := h
 clear h
 by_cases c3 : (l1.length : Int) > 40
 ·rw [if_pos c3] at H
  have c3b0 : decide (40 < (l1.length : Int)) = true := decide_eq_true c3
  have c3b1 : decide (40 < l1.length) = true := decide_eq_true (by omega)
  clear c3
  obtain rfl := Option.some.inj H
  go_enter Try.func113, Try.ntmps113
  go_wp2
  go_ret
  exact ⟨by first | rfl | (simp [errW_none, errW_some] <;> rfl) | (simp [*, errW_none, errW_some] <;> rfl), bw HB.out⟩
 rw [if_neg c3] at H
 have c3b0 : decide (40 < (l1.length : Int)) = false := decide_eq_false c3
 have c3b1 : decide (40 < l1.length) = false := decide_eq_false (by omega)
 clear c3
 have H' := Aside0.mk H
 clear H
 go_enter Try.func113, Try.ntmps113
 go_wp2
 go_loopg [5, 19] k (fun kq v5 v19 w' => ∃ (x5_1 : List (List Int)) (x19_1 : Int), v19 = .int .i64 x19_1 ∧ Aside0 (impl_isPiecePlan.l0 kq l0 l1 x5_1 l0 (l0.length : Int) x19_1 = some r) ∧ Aside0 (kq ≤ k) ∧ Aside0 (Kd.S (Kd.slice 3 (Kd.int .i64)) 23 w' w.heap.size (fun _ => True) v5 x5_1) ∧ Aside0 (Below w.heap.size w w'))
 case atStart => exact ⟨(([] : List (List Int))), (0), (by first | rfl | (simp; done) | (simp [*]; done)), H', ⟨Nat.le_refl _⟩, ⟨by first | exact Kd.S_nil _ _ _ _ _ | exact Kd.N_nil _ _ _ _ _ | exact Kd.V_nil _ _ _ _ _ | exact Kd.Q_nil _ _ _ _ _ | exact Kd.R_nil _ _ _ _ _⟩, ⟨bw HB.out⟩⟩
 case round =>
  clear H'
  try clear c1
  try clear p2
  try clear c3
  try clear c3b0
  try clear c3b1
  obtain ⟨x5_1, x19_1, rfl, HA, HK1, HO_5, HB⟩ := hrel
  cases gk with
  | zero => exact absurd HA.out (by simp [impl_isPiecePlan.l0])
  | succ k1 =>
   have H := HA.out
   clear HA
   simp only [impl_isPiecePlan.l0] at H
   by_cases c4 : x19_1 < (l0.length : Int)
   ·rw [if_pos c4] at H
    have c4b0 : decide (x19_1 < (l0.length : Int)) = true := decide_eq_true c4
    clear c4
    by_cases c5 : 0 ≤ x19_1
    rotate_left
    ·rw [if_neg c5] at H
     exact absurd H (by simp)
    rw [if_pos c5] at H
    have c5b0 : decide (0 ≤ x19_1) = true := decide_eq_true c5
    clear c5
    by_cases c6 : x19_1 < (l0.length : Int)
    rotate_left
    ·rw [if_neg c6] at H
     exact absurd H (by simp)
    rw [if_pos c6] at H
    have c6b0 : decide (x19_1 < (l0.length : Int)) = true := decide_eq_true c6
    clear c6
    replace H := Option.bind_eq_some_iff.mp H
    obtain ⟨t816, A70, H⟩ := H
    replace H : (if x5_1.length < 5864062014805 then (impl_isPiecePlan.l0 k1 l0 l1 (x5_1 ++ [t816]) l0 (l0.length : Int) (wrap64 (x19_1 + 1))) else (none)) = some r := H
    have A7 := Aside0.mk A70
    clear A70
    by_cases c8 : x5_1.length < 5864062014805
    rotate_left
    ·rw [if_neg c8] at H
     exact absurd H (by simp)
    rw [if_pos c8] at H
    have LMc8 := Aside0.mk c8
    clear c8
    obtain ⟨y819, hy819⟩ : ∃ y_ : List (List Int), y_ = (x5_1 ++ [t816]) := ⟨_, rfl⟩
    replace H : (impl_isPiecePlan.l0 k1 l0 l1 y819 l0 (l0.length : Int) (wrap64 (x19_1 + 1))) = some r := by first | (rw [hy819]; with_reducible exact H) | (have H2_ := (Option.bind_some _ _).symm.trans H; rw [hy819]; with_reducible exact H2_) | (have H2_ := (Option.bind_some _ _).symm.trans H; with_reducible exact H2_) | with_reducible exact H | (rw [hy819]; exact H) | exact H
    have Ny819 := Aside0.mk hy819
    clear hy819
    have H' := Aside0.mk H
    clear H
    have p815 : 0 ≤ (x19_1 : Int) := of_decide_eq_true (by first | (with_reducible assumption) | assumption)
    have q815 : x19_1 < (l0.length : Int) := of_decide_eq_true (by first | (with_reducible assumption) | assumption)
    obtain ⟨ad815, A815_0, c815_0, e815, hx815_0, hl815_0, hi815_0⟩ := at_L4 HR0.out x19_1 p815 q815
    cases e815
    replace hx815_0 := (HB.out.cell (World.block_lt_of_cell? w _ hx815_0)).trans hx815_0
    have HR815_0 := Aside0.mk hi815_0
    have HC815_0 := Aside0.mk hl815_0
    clear hi815_0 hl815_0
    replace p815 := eq_true p815
    replace q815 := eq_true q815
    go_wp2_with (first | ((with_reducible refine gate_callee (f := 157) rfl ?_); refine goesL_ (some 25) rfl rfl Try.func157 (by kernel_rfl) rfl #[.slice A815_0 (rd_L4 l0 x19_1).length c815_0] rfl (by (try simp only [mA_]); first | done | rfl | (simp only [List.length_drop, List.length_take]; rfl)) ?_; (with_reducible refine (impl_copyInts.calls _ _ (rd_L4 l0 x19_1) t816 _ ?side1 ?side2 A7.out).mono ?_); (case side1 => first | exact bC HR815_0.out HB.out | exact Kd.C_below HR815_0.out HB.out); (case side2 => exact HC815_0.out); rintro e w9 ⟨v817, rfl, ho0, hb⟩; refine ⟨_, rfl, ?_⟩; have n0_ := Aside0.mk (Kd.S_elder' (by (with_reducible repeat (first | apply Kd.S_alloc | apply Kd.S_drewN | apply Kd.S_drew)); exact HO_5.out) (Kd.R_base ho0) hb); have n1_ := Aside0.mk (Kd.R_lower ho0 (below_size (bw HB.out))); have n2_ := Aside0.mk (below_step (bw HB.out) hb); replace HO_5 := n0_; have HO818 := n1_; replace HB := n2_; clear n0_ n1_ n2_; (try clear hb); (try clear hb2); (try clear hk); (try clear hi); (try clear ho0); obtain ⟨Ao11, co11, eo11⟩ := Kd.R_slice HO818.out; subst eo11) | ((with_reducible refine gate_builtin (b := .append) (xs := #[.tmp 23, .tmp 26]) rfl ?_); (try (refine gate_guard (by rfl) ?_; dsimp only)); at_builtin; refine Kd.S_append (Kd.slice 3 (Kd.int .i64)) (w0 := w) w.heap.size rfl (.tmp 23) (.tmp 26) 35 23 (.slice none 0 0) 24 rfl Try.underlying35 info23 rfl (by decide) (by omega) u5 x5_1 t816 [.slice Ao11 t816.length co11] (fun _ => True) (fun k_ => some k_ = (.slice Ao11 t816.length co11 : Value).ownBlock) rfl rfl ?aP (fun k_ hk_ => ((Kd.R_mono (ok' := fun k_ => ((fun _ => True)) k_ ∧ some k_ ≠ (u5 : Value).ownBlock) (Kd.R_apart' (HO818.out) (Kd.S_typed HO_5.out) (by decide)) (fun k_ hk => ⟨trivial, hk.2⟩))).1 k_ hk_.symm) ?aF ?aO ?aB ?aS ?aL ?_; (case aP => exact Kd.M_row (Kd.R_mono (Kd.R_tight rfl (Kd.R_mono (ok' := fun k_ => ((fun _ => True)) k_ ∧ some k_ ≠ (u5 : Value).ownBlock) (Kd.R_apart' (HO818.out) (Kd.S_typed HO_5.out) (by decide)) (fun k_ hk => ⟨trivial, hk.2⟩))) (fun _ h_ => h_))); (case aB => exact (bw HB.out)); (case aF => exact (fun _ _ => trivial)); (case aO => exact (by (with_reducible repeat (first | apply Kd.S_alloc | apply Kd.S_drewN | apply Kd.S_drew)); exact Kd.S_mono HO_5.out (fun k_ hk => ⟨trivial, fun e_ => hk.2 e_⟩))); (case aS => exact (below_size (bw HB.out))); (case aL => have := LMc8.out; omega); intro v820 w10 ho hb hg hat; rw [← Ny819.out] at ho; have n0_ := Aside0.mk (hb); have n1_ := Aside0.mk (ho); clear HO_5; clear HO818; replace HB := n0_; have HO821 := n1_; clear n0_ n1_; clear ho hb hg hat))
    go_roundg k1
    case measure => have := HK1.out; omega
    case rel => exact ⟨(y819), (wrap64 (x19_1 + 1)), (by first | rfl | (simp; done) | (simp [*]; done)), H', ⟨by have := HK1.out; omega⟩, ⟨by (with_reducible repeat (first | apply Kd.S_alloc | apply Kd.S_drewN | apply Kd.S_drew)); exact HO821.out⟩, ⟨bw HB.out⟩⟩
   rw [if_neg c4] at H
   have c4b0 : decide (x19_1 < (l0.length : Int)) = false := decide_eq_false c4
   clear c4
   have H' := Aside0.mk H
   clear H
   go_wp2
   go_loopg [31] k1 (fun kq v31 w' => ∃ (x5_2 : List (List Int)) (x31_2 : Int), v31 = .int .i64 x31_2 ∧ Aside0 (impl_isPiecePlan.l1 kq l0 x5_2 l1 (l1.length : Int) x31_2 = some r) ∧ Aside0 (kq ≤ k1) ∧ Aside0 (Kd.S (Kd.slice 3 (Kd.int .i64)) 23 w' w.heap.size (fun _ => True) u5 x5_2) ∧ Aside0 (Below w.heap.size w w'))
   case atStart => exact ⟨(x5_1), (0), (by first | rfl | (simp; done) | (simp [*]; done)), H', ⟨Nat.le_refl _⟩, ⟨by (with_reducible repeat (first | apply Kd.S_alloc | apply Kd.S_drewN | apply Kd.S_drew)); exact HO_5.out⟩, ⟨bw HB.out⟩⟩
   case round =>
    clear H'
    try clear c1
    try clear p2
    try clear c3
    try clear c3b0
    try clear c3b1
    try clear c4
    try clear c4b0
    try clear c5
    try clear c5b0
    try clear c6
    try clear c6b0
    try clear p6
    try clear c8
    try clear p8
    try clear q8
    try clear hx8
    try clear c11
    try clear hx815_0
    try clear p2
    try clear p815
    try clear q815
    obtain ⟨x5_2, x31_2, rfl, HA, HK2, HO_5, HB⟩ := hrel
    cases gk with
    | zero => exact absurd HA.out (by simp [impl_isPiecePlan.l1])
    | succ k2 =>
     have H := HA.out
     clear HA
     simp only [impl_isPiecePlan.l1] at H
     by_cases c12 : x31_2 < (l1.length : Int)
     rotate_left
     ·rw [if_neg c12] at H
      have c12b0 : decide (x31_2 < (l1.length : Int)) = false := decide_eq_false c12
      clear c12
      have H' := Aside0.mk H
      clear H
      obtain ⟨Ao50, co50, eo50⟩ := Kd.S_slice HO_5.out
      subst eo50
      go_wp2
      go_loopg [90] k2 (fun kq v90 w' => ∃ (x90_3 : Int), v90 = .int .i64 x90_3 ∧ Aside0 (impl_isPiecePlan.l3 kq x5_2 (x5_2.length : Int) x90_3 = some r) ∧ Aside0 (kq ≤ k2) ∧ Aside0 (Kd.S (Kd.slice 3 (Kd.int .i64)) 23 w' w.heap.size (fun _ => True) (.slice Ao50 x5_2.length co50) x5_2) ∧ Aside0 (Below w.heap.size w w'))
      case atStart => exact ⟨(0), (by first | rfl | (simp; done) | (simp [*]; done)), H', ⟨Nat.le_refl _⟩, ⟨by (with_reducible repeat (first | apply Kd.S_alloc | apply Kd.S_drewN | apply Kd.S_drew)); exact HO_5.out⟩, ⟨bw HB.out⟩⟩
      case round =>
       clear H'
       try clear c1
       try clear c2
       try clear p2
       try clear c3
       try clear c3b0
       try clear c3b1
       try clear c4
       try clear c4b0
       try clear p4
       try clear q4
       try clear hx4
       try clear hf4
       try clear c5
       try clear c5b0
       try clear c6
       try clear c6b0
       try clear p6
       try clear c8
       try clear p8
       try clear q8
       try clear hx8
       try clear c11
       try clear c12
       try clear c12b0
       try clear c13
       try clear c13b0
       try clear c14
       try clear c14b0
       try clear c15
       try clear c19
       try clear c25
       try clear c27
       try clear c27b0
       try clear c28
       try clear c28b0
       try clear c29
       try clear c29b0
       try clear c32
       try clear c33
       try clear c33b0
       try clear c34
       try clear c34b0
       try clear c35
       try clear c35b0
       try clear c35b1
       try clear c39
       try clear c40
       try clear c40b0
       try clear c41
       try clear c41b0
       try clear c42
       try clear c42b0
       try clear c43
       try clear c43b0
       try clear c44
       try clear c44b0
       try clear p45
       try clear q45
       try clear hx45
       try clear hf45
       try clear c48
       try clear q48
       try clear hcz17_0
       try clear hcz17_1
       try clear hcz26_0
       try clear hcz26_1
       try clear hcz37_0
       try clear hcz37_1
       try clear hfz17_0
       try clear hfz17_1
       try clear hfz26_0
       try clear hfz26_1
       try clear hfz37_0
       try clear hfz37_1
       try clear hx45_0
       try clear hx815_0
       try clear hx822_0
       try clear hx822_1
       try clear hx826_0
       try clear hx830_0
       try clear hx831_0
       try clear p2
       try clear p45
       try clear p6
       try clear p8
       try clear p815
       try clear p822
       try clear p826
       try clear p830
       try clear p831
       try clear q45
       try clear q8
       try clear q815
       try clear q822
       try clear q826
       try clear q830
       try clear q831
       obtain ⟨x90_3, rfl, HA, HK3, HO_88, HB⟩ := hrel
       cases gk with
       | zero => exact absurd HA.out (by simp [impl_isPiecePlan.l3])
       | succ k3 =>
        have H := HA.out
        clear HA
        simp only [impl_isPiecePlan.l3] at H
        by_cases c51 : x90_3 < (x5_2.length : Int)
        rotate_left
        ·rw [if_neg c51] at H
         have c51b0 : decide (x90_3 < (x5_2.length : Int)) = false := decide_eq_false c51
         clear c51
         obtain rfl := Option.some.inj H
         go_wp2
         go_ret
         exact ⟨by first | rfl | (simp [errW_none, errW_some] <;> rfl) | (simp [*, errW_none, errW_some] <;> rfl), bw HB.out⟩
        rw [if_pos c51] at H
        have c51b0 : decide (x90_3 < (x5_2.length : Int)) = true := decide_eq_true c51
        clear c51
        by_cases c52 : 0 ≤ x90_3
        rotate_left
        ·rw [if_neg c52] at H
         exact absurd H (by simp)
        rw [if_pos c52] at H
        have c52b0 : decide (0 ≤ x90_3) = true := decide_eq_true c52
        clear c52
        by_cases c53 : x90_3 < (x5_2.length : Int)
        rotate_left
        ·rw [if_neg c53] at H
         exact absurd H (by simp)
        rw [if_pos c53] at H
        have c53b0 : decide (x90_3 < (x5_2.length : Int)) = true := decide_eq_true c53
        clear c53
        replace H := Option.bind_eq_some_iff.mp H
        obtain ⟨t836, A540, H⟩ := H
        replace H : (if t836 = true then (impl_isPiecePlan.l3 k3 x5_2 (x5_2.length : Int) (wrap64 (x90_3 + 1))) else (some false)) = some r := H
        have A54 := Aside0.mk A540
        clear A540
        by_cases c55 : t836 = true
        rotate_left
        ·replace c55 := Bool.eq_false_iff.mpr c55
         subst c55
         have H1 : (some false) = some r := by rw [if_neg (show ¬ (false = true) by decide)] at H; exact H
         clear H
         have H := H1
         clear H1
         obtain rfl := Option.some.inj H
         have p835 : 0 ≤ (x90_3 : Int) := of_decide_eq_true (by first | (with_reducible assumption) | assumption)
         have q835 : x90_3 < (x5_2.length : Int) := of_decide_eq_true (by first | (with_reducible assumption) | assumption)
         obtain ⟨ad835, A835_0, c835_0, e835, hx835_0, hl835_0, hi835_0⟩ := at_L4 (Kd.S_reads' HO_88.out).2.2 x90_3 p835 q835
         cases e835
         obtain ⟨ce835, hce835, hMe835, hcc835⟩ := Kd.S_get HO_88.out [] x90_3 p835 (by first | exact q835 | exact of_decide_eq_true (by first | (with_reducible assumption) | assumption) | (have e_ := (Kd.S_reads' HO_88.out).1; omega))
         obtain ⟨ve835_0, rfl, ge835_0⟩ := hMe835
         have hv835_0 := hcc835 0 _ rfl
         rw [Nat.add_zero, show ((Kd.slice 3 (Kd.int .i64))).sz = 1 from rfl, Nat.mul_one] at hv835_0
         replace hv835_0 := Option.some.inj (hv835_0.symm.trans hx835_0)
         rw [hv835_0] at ge835_0
         have HL835_0 := Aside0.mk (show Kd.R (Kd.int .i64) 3 _ _ _ _ (rd_L4 x5_2 x90_3) from ge835_0)
         clear hv835_0 ge835_0
         have HX835_0 := Aside0.mk hx835_0
         clear hcc835 hce835
         have HR835_0 := Aside0.mk hi835_0
         have HC835_0 := Aside0.mk hl835_0
         clear hi835_0 hl835_0
         replace p835 := eq_true p835
         replace q835 := eq_true q835
         go_wp2_with (first | ((with_reducible refine gate_callee (f := 156) rfl ?_); refine goesL_ (some 95) rfl rfl Try.func156 (by kernel_rfl) rfl #[.slice A835_0 (rd_L4 x5_2 x90_3).length c835_0, .int .i64 0, .int .i64 0] rfl (by (try simp only [mA_]); first | done | rfl | (simp only [List.length_drop, List.length_take]; rfl)) ?_; (with_reducible refine (impl_allWithin.calls k3 _ _ (rd_L4 x5_2 x90_3) 0 0 false _ ?side1 ?side2 A54.out).mono ?_); (case side1 => repeat (first | exact (by repeat (first | (with_reducible exact HR835_0.out) | (with_reducible refine Kd.C_alloc ?_ _) | (with_reducible refine Kd.C_drewN ?_ _) | (with_reducible refine Kd.C_drew ?_) | exact HR835_0.out)) | (with_reducible refine Kd.C_alloc ?_ _) | (with_reducible refine Kd.C_drewN ?_ _) | (with_reducible refine Kd.C_drew ?_))); (case side2 => exact HC835_0.out); rintro e w' ⟨rfl, ⟨nd, rfl⟩⟩; refine ⟨_, rfl, ?_⟩))
         go_ret
         exact ⟨by first | rfl | (simp [errW_none, errW_some] <;> rfl) | (simp [*, errW_none, errW_some] <;> rfl), bw HB.out⟩
        subst c55
        have H1 : (impl_isPiecePlan.l3 k3 x5_2 (x5_2.length : Int) (wrap64 (x90_3 + 1))) = some r := by rw [if_pos rfl] at H; exact H
        clear H
        have H := H1
        clear H1
        have H' := Aside0.mk H
        clear H
        have p835 : 0 ≤ (x90_3 : Int) := of_decide_eq_true (by first | (with_reducible assumption) | assumption)
        have q835 : x90_3 < (x5_2.length : Int) := of_decide_eq_true (by first | (with_reducible assumption) | assumption)
        obtain ⟨ad835, A835_0, c835_0, e835, hx835_0, hl835_0, hi835_0⟩ := at_L4 (Kd.S_reads' HO_88.out).2.2 x90_3 p835 q835
        cases e835
        obtain ⟨ce835, hce835, hMe835, hcc835⟩ := Kd.S_get HO_88.out [] x90_3 p835 (by first | exact q835 | exact of_decide_eq_true (by first | (with_reducible assumption) | assumption) | (have e_ := (Kd.S_reads' HO_88.out).1; omega))
        obtain ⟨ve835_0, rfl, ge835_0⟩ := hMe835
        have hv835_0 := hcc835 0 _ rfl
        rw [Nat.add_zero, show ((Kd.slice 3 (Kd.int .i64))).sz = 1 from rfl, Nat.mul_one] at hv835_0
        replace hv835_0 := Option.some.inj (hv835_0.symm.trans hx835_0)
        rw [hv835_0] at ge835_0
        have HL835_0 := Aside0.mk (show Kd.R (Kd.int .i64) 3 _ _ _ _ (rd_L4 x5_2 x90_3) from ge835_0)
        clear hv835_0 ge835_0
        have HX835_0 := Aside0.mk hx835_0
        clear hcc835 hce835
        have HR835_0 := Aside0.mk hi835_0
        have HC835_0 := Aside0.mk hl835_0
        clear hi835_0 hl835_0
        replace p835 := eq_true p835
        replace q835 := eq_true q835
        go_wp2_with (first | ((with_reducible refine gate_callee (f := 156) rfl ?_); refine goesL_ (some 95) rfl rfl Try.func156 (by kernel_rfl) rfl #[.slice A835_0 (rd_L4 x5_2 x90_3).length c835_0, .int .i64 0, .int .i64 0] rfl (by (try simp only [mA_]); first | done | rfl | (simp only [List.length_drop, List.length_take]; rfl)) ?_; (with_reducible refine (impl_allWithin.calls k3 _ _ (rd_L4 x5_2 x90_3) 0 0 true _ ?side1 ?side2 A54.out).mono ?_); (case side1 => repeat (first | exact (by repeat (first | (with_reducible exact HR835_0.out) | (with_reducible refine Kd.C_alloc ?_ _) | (with_reducible refine Kd.C_drewN ?_ _) | (with_reducible refine Kd.C_drew ?_) | exact HR835_0.out)) | (with_reducible refine Kd.C_alloc ?_ _) | (with_reducible refine Kd.C_drewN ?_ _) | (with_reducible refine Kd.C_drew ?_))); (case side2 => exact HC835_0.out); rintro e w' ⟨rfl, ⟨nd, rfl⟩⟩; refine ⟨_, rfl, ?_⟩))
        go_roundg k3
        case measure => have := HK1.out; have := HK2.out; have := HK3.out; omega
        case rel => exact ⟨(wrap64 (x90_3 + 1)), (by first | rfl | (simp; done) | (simp [*]; done)), H', ⟨by have := HK1.out; have := HK2.out; have := HK3.out; omega⟩, ⟨by (with_reducible repeat (first | apply Kd.S_alloc | apply Kd.S_drewN | apply Kd.S_drew)); exact HO_88.out⟩, ⟨bw HB.out⟩⟩
     rw [if_pos c12] at H
     have c12b0 : decide (x31_2 < (l1.length : Int)) = true := decide_eq_true c12
     clear c12
     by_cases c13 : 0 ≤ x31_2
     rotate_left
     ·rw [if_neg c13] at H
      exact absurd H (by simp)
     rw [if_pos c13] at H
     have c13b0 : decide (0 ≤ x31_2) = true := decide_eq_true c13
     clear c13
     by_cases c14 : x31_2 < (l1.length : Int)
     rotate_left
     ·rw [if_neg c14] at H
      exact absurd H (by simp)
     rw [if_pos c14] at H
     have c14b0 : decide (x31_2 < (l1.length : Int)) = true := decide_eq_true c14
     clear c14
     have HC15 := Aside0.mk H
     clear H
     have p822 : 0 ≤ (x31_2 : Int) := of_decide_eq_true (by first | (with_reducible assumption) | assumption)
     have q822 : x31_2 < (l1.length : Int) := of_decide_eq_true (by first | (with_reducible assumption) | assumption)
     obtain ⟨ad822, A822_1, c822_1, e822, hx822_0, hx822_1, hl822_1, hi822_1⟩ := at_T123 HR1.out x31_2 p822 q822
     cases e822
     replace hx822_0 := (HB.out.cell (World.block_lt_of_cell? w _ hx822_0)).trans hx822_0
     replace hx822_1 := (HB.out.cell (World.block_lt_of_cell? w _ hx822_1)).trans hx822_1
     have HR822_1 := Aside0.mk hi822_1
     have HC822_1 := Aside0.mk hl822_1
     clear hi822_1 hl822_1
     replace p822 := eq_true p822
     replace q822 := eq_true q822
     go_upto_region 12 with (first | ((with_reducible refine gate_dst (N := 9) rfl ?_); (try (refine gate_guard (by rfl) ?_; dsimp only)); refine box_event ?hg (N := 9) ?hd (cs := #[.int .i64 0, .slice none 0 0]) (t := 123) ?hr ?_; (case hd => rfl); (case hg => rfl); (case hr => first | (go_simp; done) | (go_simp; rfl)); intro gb823 hg w16 hbox hb; have n0_ := Aside0.mk (Kd.S_below (by (with_reducible repeat (first | apply Kd.S_alloc | apply Kd.S_drewN | apply Kd.S_drew)); exact HO_5.out) hb); have n1_ := Aside0.mk (below_step (bw HB.out) hb); have n2_ := Aside0.mk (hbox); have n3_ := ge_ hg HB.out; have n4_ := ge_ hg HB.out; replace HO_5 := n0_; replace HB := n1_; have BK823 := n2_; have GW823 := n3_; have GE823 := n4_; clear n0_ n1_ n2_ n3_ n4_; clear hb hbox hg; obtain ⟨hcz17_0, hcz17_1, hfz17_0, hfz17_1⟩ := bz2 BK823.out))
     (try simp only [Act.put, List.setIfInBounds_toArray, List.set_cons_zero, List.set_cons_succ])
     go_cut [46] (fun v46 wc => ∃ (kq : Nat) (x46_14 : Bool), v46 = .bool x46_14 ∧ Aside0 (impl_isPiecePlan.j2 kq l0 x5_2 l1 (l1.length : Int) x31_2 x46_14 ((rd_T123 l1 x31_2).f0) ((rd_T123 l1 x31_2).f1) = some r) ∧ Aside0 (kq ≤ k2) ∧ Aside0 (Kd.S (Kd.slice 3 (Kd.int .i64)) 23 wc w.heap.size (fun _ => True) u5 x5_2) ∧ Aside0 (wc.heap[gb823]? = some (.cells #[.int .i64 ((rd_T123 l1 x31_2).f0), (.slice A822_1 ((rd_T123 l1 x31_2).f1).length c822_1)] 123 (0, 0))) ∧ Aside0 (Below w.heap.size w wc))
     case first =>
      have H := HC15.out
      clear HC15
      replace H := Option.bind_eq_some_iff.mp H
      obtain ⟨t824, A180, H⟩ := H
      replace H : (if t824 = true then ((impl_machinesOf.f l0).bind fun t825 => (impl_isPiecePlan.j2 k2 l0 x5_2 l1 (l1.length : Int) x31_2 ((((rd_T123 l1 x31_2).f1).length : Int) != t825) ((rd_T123 l1 x31_2).f0) ((rd_T123 l1 x31_2).f1))) else (impl_isPiecePlan.j2 k2 l0 x5_2 l1 (l1.length : Int) x31_2 true ((rd_T123 l1 x31_2).f0) ((rd_T123 l1 x31_2).f1))) = some r := H
      have A18 := Aside0.mk A180
      clear A180
      by_cases c19 : t824 = true
      rotate_left
      ·replace c19 := Bool.eq_false_iff.mpr c19
       subst c19
       have H1 : (impl_isPiecePlan.j2 k2 l0 x5_2 l1 (l1.length : Int) x31_2 true ((rd_T123 l1 x31_2).f0) ((rd_T123 l1 x31_2).f1)) = some r := by rw [if_neg (show ¬ (false = true) by decide)] at H; exact H
       clear H
       have H := H1
       clear H1
       have H' := Aside0.mk H
       clear H
       try go_wp2
       have n0_ : Aside0 (Kd.S (Kd.slice 3 (Kd.int .i64)) 23 ((w16.setCell ⟨gb823, 0, none⟩ (.int .i64 ((rd_T123 l1 x31_2).f0))).setCell ⟨gb823, 1, none⟩ (.slice A822_1 ((rd_T123 l1 x31_2).f1).length c822_1)) w.heap.size (fun _ => True) u5 x5_2) := ⟨by (with_reducible repeat (first | apply Kd.S_alloc | apply Kd.S_drewN | apply Kd.S_drew)); exact Kd.S_mono (Kd.S_far (p := ⟨gb823, 1, none⟩) (Kd.S_far (p := ⟨gb823, 0, none⟩) (Kd.S_types HO_5.out BK823.out (by decide)) (fun _ hk => hk.2) (.int .i64 ((rd_T123 l1 x31_2).f0))) (fun _ hk => hk.2) (.slice A822_1 ((rd_T123 l1 x31_2).f1).length c822_1)) (fun _ hk => trivial)⟩
       have n1_ : Aside0 (((w16.setCell ⟨gb823, 0, none⟩ (.int .i64 ((rd_T123 l1 x31_2).f0))).setCell ⟨gb823, 1, none⟩ (.slice A822_1 ((rd_T123 l1 x31_2).f1).length c822_1)).heap[gb823]? = some (.cells #[.int .i64 ((rd_T123 l1 x31_2).f0), .slice A822_1 ((rd_T123 l1 x31_2).f1).length c822_1] 123 (0, 0))) := ⟨by (with_reducible repeat (first | refine blk_drewN ?_ _ | refine blk_drew ?_ | refine blk_alloc ?_ _)); refine blk_put (cs := #[.int .i64 ((rd_T123 l1 x31_2).f0), .slice none 0 0]) ?_ 1 _ rfl; (with_reducible repeat (first | refine blk_drewN ?_ _ | refine blk_drew ?_ | refine blk_alloc ?_ _)); refine blk_put (cs := #[.int .i64 0, .slice none 0 0]) ?_ 0 _ rfl; exact bs BK823.out⟩
       have n2_ : Aside0 (Below w.heap.size w ((w16.setCell ⟨gb823, 0, none⟩ (.int .i64 ((rd_T123 l1 x31_2).f0))).setCell ⟨gb823, 1, none⟩ (.slice A822_1 ((rd_T123 l1 x31_2).f1).length c822_1))) := ⟨by repeat (first | (with_reducible first | exact bw HB.out | refine bset ?_ | apply bA | apply bN | apply bD) | exact HB.out)⟩
       (try clear HO_5)
       (try clear BK823)
       (try clear HB)
       (try simp only [setCell_drewN])
       generalize ((w16.setCell ⟨gb823, 0, none⟩ (.int .i64 ((rd_T123 l1 x31_2).f0))).setCell ⟨gb823, 1, none⟩ (.slice A822_1 ((rd_T123 l1 x31_2).f1).length c822_1)) = w23 at n0_ n1_ n2_ ⊢
       have HO_5 := n0_
       have BK823 := n1_
       have HB := n2_
       clear n0_ n1_ n2_
       have n0_ := Aside0.mk (Kd.S_drew HO_5.out)
       have n1_ := Aside0.mk (blk_drew BK823.out)
       have n2_ := Aside0.mk (below_drew1 HB.out)
       replace HO_5 := n0_
       replace BK823 := n1_
       replace HB := n2_
       clear n0_ n1_ n2_
       refine start_ (n := 12) (S := fun w' => w'.cell? ⟨gb823, 0, none⟩ = some (.int .i64 ((rd_T123 l1 x31_2).f0)) ∧ w'.cell? ⟨gb823, 1, none⟩ = some (.slice A822_1 ((rd_T123 l1 x31_2).f1).length c822_1)) (ds := []) q113_0 (by kernel_rfl) rfl rfl ⟨(blk_cell BK823.out 0).trans rfl, (blk_cell BK823.out 1).trans rfl⟩ (fun hHeld => ?_); refine with_tabW impl_isPiecePlan.tab12 impl_isPiecePlan.bits12 (fun HT_ HW_ => ?_)
       generalize w23.drew = w24 at HO_5 BK823 HB hHeld ⊢
       refine pup_ (i := 0) (N := some 35) HT_ rfl rfl (by kernel_rfl) (fun _ _ _ h => h) (Or.inl ⟨by rfl, by intro w'; go_simp; with_reducible rfl⟩) (by simp only [aq_]; rfl) ?_
       refine take_ (i := 1) (N := some 36) (v := ?_) (a' := ?_) q113_2 rfl rfl (take_ofW HT_.out HW_.out (by kernel_rfl)) (fun _ _ _ h => h) (Or.inl ⟨by rfl, ?_⟩) hHeld ?_ ?_
       rotate_left
       ·rintro w' ⟨s0, s1⟩
        go_simp
        with_reducible rfl
       rotate_left
       ·simp only [aq_]
        rfl
       refine one_ (i := 2) (N := some 37) q113_3 rfl rfl (one_of HT_.out (by kernel_rfl)) (by decide) (fun K hK => ?_)
       refine goes_ Try.func133 (by kernel_rfl) rfl #[.int .i64 ((rd_T123 l1 x31_2).f0), .int .i64 1, .int .i64 1000000] (by rfl) rfl rfl (by (try simp only [mA_]); first | done | rfl | (simp only [List.length_drop, List.length_take]; rfl)) ?_
       with_reducible refine (impl_within.calls ((rd_T123 l1 x31_2).f0) 1 1000000 false _ A18.out).mono ?_
       rintro e w' ⟨rfl, ⟨nd, rfl⟩⟩
       refine ⟨_, rfl, ?_⟩
       refine hK.out _ _ ⟨(blk_cell BK823.out 0).trans rfl, (blk_cell BK823.out 1).trans rfl⟩ (fun hHeld => ?_)
       clear hK K
       refine norm_ (a' := ?_) ?_ ?_
       rotate_left
       ·show Act.put _ (some 37) _ = _
        simp only [aq_]
        rfl
       refine pup_ (i := 3) (N := some 38) HT_ rfl rfl (by kernel_rfl) (fun _ _ _ h => h) (Or.inl ⟨by rfl, by intro w'; go_simp; with_reducible rfl⟩) (by simp only [aq_]; rfl) ?_
       refine pup_ (i := 4) (N := some 39) HT_ rfl rfl (by kernel_rfl) (fun _ _ _ h => h) (Or.inl ⟨by rfl, by intro w'; go_simp; with_reducible rfl⟩) (by simp only [aq_]; rfl) ?_
       refine skp_ HT_ 5 (some 40) rfl rfl (by kernel_rfl) (fun _ _ _ h => h) (by rfl) (by simp only [aq_]; rfl) ?_
       refine skp_ HT_ 6 (some 41) rfl rfl (by kernel_rfl) (fun _ _ _ h => h) (by rfl) (by simp only [aq_]; rfl) ?_
       refine skp_ HT_ 7 (some 42) rfl rfl (by kernel_rfl) (fun _ _ _ h => h) (by rfl) (by simp only [aq_]; rfl) ?_
       refine skp_ HT_ 8 (some 43) rfl rfl (by kernel_rfl) (fun _ _ _ h => h) (by rfl) (by simp only [aq_]; rfl) ?_
       refine skp_ HT_ 9 (some 44) rfl rfl (by kernel_rfl) (fun _ _ _ h => h) (by rfl) (by simp only [aq_]; rfl) ?_
       refine skp_ HT_ 10 (some 45) rfl rfl (by kernel_rfl) (fun _ _ _ h => h) (by rfl) (by simp only [aq_]; rfl) ?_
       refine pup_ (i := 11) (N := some 46) HT_ rfl rfl (by kernel_rfl) (fun _ _ _ h => h) (Or.inl ⟨by rfl, by intro w'; go_simp; with_reducible rfl⟩) (by simp only [aq_]; rfl) ?_
       refine done_ (done_of HT_.out (by kernel_rfl)) ?_
       try go_wp2
       go_meet
       case rel => exact ⟨_, (true), (by first | rfl | (simp; done) | (simp [*]; done)), H', ⟨by have := HK1.out; have := HK2.out; first | omega | exact Nat.le_refl _⟩, ⟨by (with_reducible repeat (first | apply Kd.S_alloc | apply Kd.S_drewN | apply Kd.S_drew)); exact HO_5.out⟩, ⟨bs BK823.out⟩, ⟨by repeat (first | (with_reducible first | exact bw HB.out | refine bset ?_ | apply bA | apply bN | apply bD) | exact HB.out)⟩⟩
      subst c19
      have H1 : ((impl_machinesOf.f l0).bind fun t825 => (impl_isPiecePlan.j2 k2 l0 x5_2 l1 (l1.length : Int) x31_2 ((((rd_T123 l1 x31_2).f1).length : Int) != t825) ((rd_T123 l1 x31_2).f0) ((rd_T123 l1 x31_2).f1))) = some r := by rw [if_pos rfl] at H; exact H
      clear H
      have H := H1
      clear H1
      replace H := Option.bind_eq_some_iff.mp H
      obtain ⟨t825, A200, H⟩ := H
      replace H : (impl_isPiecePlan.j2 k2 l0 x5_2 l1 (l1.length : Int) x31_2 ((((rd_T123 l1 x31_2).f1).length : Int) != t825) ((rd_T123 l1 x31_2).f0) ((rd_T123 l1 x31_2).f1)) = some r := H
      have A20 := Aside0.mk A200
      clear A200
      have H' := Aside0.mk H
      clear H
      try go_wp2
      have n0_ : Aside0 (Kd.S (Kd.slice 3 (Kd.int .i64)) 23 ((w16.setCell ⟨gb823, 0, none⟩ (.int .i64 ((rd_T123 l1 x31_2).f0))).setCell ⟨gb823, 1, none⟩ (.slice A822_1 ((rd_T123 l1 x31_2).f1).length c822_1)) w.heap.size (fun _ => True) u5 x5_2) := ⟨by (with_reducible repeat (first | apply Kd.S_alloc | apply Kd.S_drewN | apply Kd.S_drew)); exact Kd.S_mono (Kd.S_far (p := ⟨gb823, 1, none⟩) (Kd.S_far (p := ⟨gb823, 0, none⟩) (Kd.S_types HO_5.out BK823.out (by decide)) (fun _ hk => hk.2) (.int .i64 ((rd_T123 l1 x31_2).f0))) (fun _ hk => hk.2) (.slice A822_1 ((rd_T123 l1 x31_2).f1).length c822_1)) (fun _ hk => trivial)⟩
      have n1_ : Aside0 (((w16.setCell ⟨gb823, 0, none⟩ (.int .i64 ((rd_T123 l1 x31_2).f0))).setCell ⟨gb823, 1, none⟩ (.slice A822_1 ((rd_T123 l1 x31_2).f1).length c822_1)).heap[gb823]? = some (.cells #[.int .i64 ((rd_T123 l1 x31_2).f0), .slice A822_1 ((rd_T123 l1 x31_2).f1).length c822_1] 123 (0, 0))) := ⟨by (with_reducible repeat (first | refine blk_drewN ?_ _ | refine blk_drew ?_ | refine blk_alloc ?_ _)); refine blk_put (cs := #[.int .i64 ((rd_T123 l1 x31_2).f0), .slice none 0 0]) ?_ 1 _ rfl; (with_reducible repeat (first | refine blk_drewN ?_ _ | refine blk_drew ?_ | refine blk_alloc ?_ _)); refine blk_put (cs := #[.int .i64 0, .slice none 0 0]) ?_ 0 _ rfl; exact bs BK823.out⟩
      have n2_ : Aside0 (Below w.heap.size w ((w16.setCell ⟨gb823, 0, none⟩ (.int .i64 ((rd_T123 l1 x31_2).f0))).setCell ⟨gb823, 1, none⟩ (.slice A822_1 ((rd_T123 l1 x31_2).f1).length c822_1))) := ⟨by repeat (first | (with_reducible first | exact bw HB.out | refine bset ?_ | apply bA | apply bN | apply bD) | exact HB.out)⟩
      (try clear HO_5)
      (try clear BK823)
      (try clear HB)
      (try simp only [setCell_drewN])
      generalize ((w16.setCell ⟨gb823, 0, none⟩ (.int .i64 ((rd_T123 l1 x31_2).f0))).setCell ⟨gb823, 1, none⟩ (.slice A822_1 ((rd_T123 l1 x31_2).f1).length c822_1)) = w21 at n0_ n1_ n2_ ⊢
      have HO_5 := n0_
      have BK823 := n1_
      have HB := n2_
      clear n0_ n1_ n2_
      have n0_ := Aside0.mk (Kd.S_drew HO_5.out)
      have n1_ := Aside0.mk (blk_drew BK823.out)
      have n2_ := Aside0.mk (below_drew1 HB.out)
      replace HO_5 := n0_
      replace BK823 := n1_
      replace HB := n2_
      clear n0_ n1_ n2_
      refine start_ (n := 12) (S := fun w' => w'.cell? ⟨gb823, 0, none⟩ = some (.int .i64 ((rd_T123 l1 x31_2).f0)) ∧ w'.cell? ⟨gb823, 1, none⟩ = some (.slice A822_1 ((rd_T123 l1 x31_2).f1).length c822_1)) (ds := []) q113_0 (by kernel_rfl) rfl rfl ⟨(blk_cell BK823.out 0).trans rfl, (blk_cell BK823.out 1).trans rfl⟩ (fun hHeld => ?_); refine with_tabW impl_isPiecePlan.tab12 impl_isPiecePlan.bits12 (fun HT_ HW_ => ?_)
      generalize w21.drew = w22 at HO_5 BK823 HB hHeld ⊢
      refine pup_ (i := 0) (N := some 35) HT_ rfl rfl (by kernel_rfl) (fun _ _ _ h => h) (Or.inl ⟨by rfl, by intro w'; go_simp; with_reducible rfl⟩) (by simp only [aq_]; rfl) ?_
      refine take_ (i := 1) (N := some 36) (v := ?_) (a' := ?_) q113_2 rfl rfl (take_ofW HT_.out HW_.out (by kernel_rfl)) (fun _ _ _ h => h) (Or.inl ⟨by rfl, ?_⟩) hHeld ?_ ?_
      rotate_left
      ·rintro w' ⟨s0, s1⟩
       go_simp
       with_reducible rfl
      rotate_left
      ·simp only [aq_]
       rfl
      refine one_ (i := 2) (N := some 37) q113_3 rfl rfl (one_of HT_.out (by kernel_rfl)) (by decide) (fun K hK => ?_)
      refine goes_ Try.func133 (by kernel_rfl) rfl #[.int .i64 ((rd_T123 l1 x31_2).f0), .int .i64 1, .int .i64 1000000] (by rfl) rfl rfl (by (try simp only [mA_]); first | done | rfl | (simp only [List.length_drop, List.length_take]; rfl)) ?_
      with_reducible refine (impl_within.calls ((rd_T123 l1 x31_2).f0) 1 1000000 true _ A18.out).mono ?_
      rintro e w' ⟨rfl, ⟨nd, rfl⟩⟩
      refine ⟨_, rfl, ?_⟩
      refine hK.out _ _ ⟨(blk_cell BK823.out 0).trans rfl, (blk_cell BK823.out 1).trans rfl⟩ (fun hHeld => ?_)
      clear hK K
      refine norm_ (a' := ?_) ?_ ?_
      rotate_left
      ·show Act.put _ (some 37) _ = _
       simp only [aq_]
       rfl
      refine pup_ (i := 3) (N := some 38) HT_ rfl rfl (by kernel_rfl) (fun _ _ _ h => h) (Or.inl ⟨by rfl, by intro w'; go_simp; with_reducible rfl⟩) (by simp only [aq_]; rfl) ?_
      refine pup_ (i := 4) (N := some 39) HT_ rfl rfl (by kernel_rfl) (fun _ _ _ h => h) (Or.inl ⟨by rfl, by intro w'; go_simp; with_reducible rfl⟩) (by simp only [aq_]; rfl) ?_
      refine pup_ (i := 5) (N := some 40) HT_ rfl rfl (by kernel_rfl) (fun _ _ _ h => h) (Or.inl ⟨by rfl, by intro w'; go_simp; with_reducible rfl⟩) (by simp only [aq_]; rfl) ?_
      refine pup_ (i := 8) (N := some 43) HT_ rfl rfl (by kernel_rfl) (fun _ _ _ h => h) (Or.inl ⟨by rfl, by intro w'; go_simp; with_reducible rfl⟩) (by simp only [aq_]; rfl) ?_
      refine take_ (i := 6) (N := some 41) (v := ?_) (a' := ?_) q113_8 rfl rfl (take_ofW HT_.out HW_.out (by kernel_rfl)) (fun _ _ _ h => h) (Or.inl ⟨by rfl, ?_⟩) hHeld ?_ ?_
      rotate_left
      ·rintro w' ⟨s0, s1⟩
       go_simp
       with_reducible rfl
      rotate_left
      ·simp only [aq_]
       rfl
      refine pup_ (i := 7) (N := some 42) HT_ rfl rfl (by kernel_rfl) (fun _ _ _ h => h) (Or.inl ⟨by rfl, by intro w'; go_simp; with_reducible rfl⟩) (by simp only [aq_]; rfl) ?_
      refine one_ (i := 9) (N := some 44) q113_10 rfl rfl (one_of HT_.out (by kernel_rfl)) (by decide) (fun K hK => ?_)
      refine goes_ Try.func158 (by kernel_rfl) rfl #[.slice A0 l0.length c0] (by rfl) rfl rfl (by (try simp only [mA_]); first | done | rfl | (simp only [List.length_drop, List.length_take]; rfl)) ?_
      with_reducible refine (impl_machinesOf.calls _ _ l0 t825 _ ?side1 ?side2 A20.out).mono ?_
      (case side1 => repeat (first | exact (Kd.C_below HR0.out (by repeat (first | (with_reducible first | exact bw HB.out | refine bset ?_ | apply bA | apply bN | apply bD) | exact HB.out))) | (with_reducible refine Kd.C_alloc ?_ _) | (with_reducible refine Kd.C_drewN ?_ _) | (with_reducible refine Kd.C_drew ?_)))
      (case side2 => exact HC0.out)
      rintro e w' ⟨rfl, ⟨nd, rfl⟩⟩
      refine ⟨_, rfl, ?_⟩
      refine hK.out _ _ ⟨(blk_cell BK823.out 0).trans rfl, (blk_cell BK823.out 1).trans rfl⟩ (fun hHeld => ?_)
      clear hK K
      refine norm_ (a' := ?_) ?_ ?_
      rotate_left
      ·show Act.put _ (some 44) _ = _
       simp only [aq_]
       rfl
      refine pup_ (i := 10) (N := some 45) HT_ rfl rfl (by kernel_rfl) (fun _ _ _ h => h) (Or.inl ⟨by rfl, by intro w'; go_simp; with_reducible rfl⟩) (by simp only [aq_]; rfl) ?_
      refine pup_ (i := 11) (N := some 46) HT_ rfl rfl (by kernel_rfl) (fun _ _ _ h => h) (Or.inl ⟨by rfl, by intro w'; go_simp; with_reducible rfl⟩) (by simp only [aq_]; rfl) ?_
      refine done_ (done_of HT_.out (by kernel_rfl)) ?_
      try go_wp2
      go_meet
      case rel => exact ⟨_, (((((rd_T123 l1 x31_2).f1).length : Int) != t825)), (by first | rfl | (simp; done) | (simp [*]; done)), H', ⟨by have := HK1.out; have := HK2.out; first | omega | exact Nat.le_refl _⟩, ⟨by (with_reducible repeat (first | apply Kd.S_alloc | apply Kd.S_drewN | apply Kd.S_drew)); exact HO_5.out⟩, ⟨bs BK823.out⟩, ⟨by repeat (first | (with_reducible first | exact bw HB.out | refine bset ?_ | apply bA | apply bN | apply bD) | exact HB.out)⟩⟩
     case rest =>
      clear HC15
      try clear c1
      try clear p2
      try clear c3
      try clear c3b0
      try clear c3b1
      try clear c4
      try clear c4b0
      try clear c5
      try clear c5b0
      try clear c6
      try clear c6b0
      try clear p6
      try clear c8
      try clear p8
      try clear q8
      try clear hx8
      try clear c11
      try clear c12
      try clear c12b0
      try clear c13
      try clear c13b0
      try clear c14
      try clear c14b0
      try clear c15
      try clear c19
      try clear hcz17_0
      try clear hcz17_1
      try clear hfz17_0
      try clear hfz17_1
      try clear hx815_0
      try clear hx822_0
      try clear hx822_1
      try clear p2
      try clear p6
      try clear p8
      try clear p815
      try clear p822
      try clear q8
      try clear q815
      try clear q822
      obtain ⟨kq, x46_14, rfl, HA, HJ14, HO_5, BK823, HB⟩ := hcut
      cases kq with
      | zero => exact absurd HA.out (by simp [impl_isPiecePlan.j2])
      | succ kj14 =>
       have H := HA.out
       clear HA
       simp only [impl_isPiecePlan.j2] at H
       by_cases c25 : x46_14 = true
       ·subst c25
        have H1 : (some false) = some r := by rw [if_pos rfl] at H; exact H
        clear H
        have H := H1
        clear H1
        obtain rfl := Option.some.inj H
        go_wp2
        go_ret
        exact ⟨by first | rfl | (simp [errW_none, errW_some] <;> rfl) | (simp [*, errW_none, errW_some] <;> rfl), by repeat (first | (with_reducible first | exact bw HB.out | refine bset ?_ | apply bA | apply bN | apply bD) | exact HB.out)⟩
       replace c25 := Bool.eq_false_iff.mpr c25
       subst c25
       have H1 : (impl_isPiecePlan.l2 kj14 l0 x5_2 l1 (l1.length : Int) x31_2 ((rd_T123 l1 x31_2).f1) (((rd_T123 l1 x31_2).f1).length : Int) 0 ((rd_T123 l1 x31_2).f0) ((rd_T123 l1 x31_2).f1)) = some r := by rw [if_neg (show ¬ (false = true) by decide)] at H; exact H
       clear H
       have H := H1
       clear H1
       have H' := Aside0.mk H
       clear H
       obtain ⟨hcz26_0, hcz26_1, hfz26_0, hfz26_1⟩ := bz2 BK823.out
       go_wp2
       go_loopg [50] kj14 (fun kq v50 w' => ∃ (x5_4 : List (List Int)) (x50_4 : Int), v50 = .int .i64 x50_4 ∧ Aside0 (impl_isPiecePlan.l2 kq l0 x5_4 l1 (l1.length : Int) x31_2 ((rd_T123 l1 x31_2).f1) (((rd_T123 l1 x31_2).f1).length : Int) x50_4 ((rd_T123 l1 x31_2).f0) ((rd_T123 l1 x31_2).f1) = some r) ∧ Aside0 (kq ≤ kj14) ∧ Aside0 (Kd.S (Kd.slice 3 (Kd.int .i64)) 23 w' w.heap.size (fun _ => True) u5 x5_4) ∧ Aside0 (w'.heap[gb823]? = some (.cells #[.int .i64 ((rd_T123 l1 x31_2).f0), (.slice A822_1 ((rd_T123 l1 x31_2).f1).length c822_1)] 123 (0, 0))) ∧ Aside0 (Below w.heap.size w w'))
       case atStart => exact ⟨(x5_2), (0), (by first | rfl | (simp; done) | (simp [*]; done)), H', ⟨Nat.le_refl _⟩, ⟨by (with_reducible repeat (first | apply Kd.S_alloc | apply Kd.S_drewN | apply Kd.S_drew)); exact HO_5.out⟩, ⟨bs BK823.out⟩, ⟨by repeat (first | (with_reducible first | exact bw HB.out | refine bset ?_ | apply bA | apply bN | apply bD) | exact HB.out)⟩⟩
       case round =>
        clear H'
        try clear c1
        try clear c2
        try clear p2
        try clear c3
        try clear c3b0
        try clear c3b1
        try clear c4
        try clear c4b0
        try clear c5
        try clear c5b0
        try clear c6
        try clear c6b0
        try clear p6
        try clear c8
        try clear p8
        try clear q8
        try clear hx8
        try clear c11
        try clear c12
        try clear c12b0
        try clear c13
        try clear c13b0
        try clear c14
        try clear c14b0
        try clear c15
        try clear c19
        try clear c25
        try clear hcz17_0
        try clear hcz17_1
        try clear hcz26_0
        try clear hcz26_1
        try clear hfz17_0
        try clear hfz17_1
        try clear hfz26_0
        try clear hfz26_1
        try clear hx815_0
        try clear hx822_0
        try clear hx822_1
        try clear p2
        try clear p6
        try clear p8
        try clear p815
        try clear p822
        try clear q8
        try clear q815
        try clear q822
        obtain ⟨x5_4, x50_4, rfl, HA, HK4, HO_5, BK823, HB⟩ := hrel
        cases gk with
        | zero => exact absurd HA.out (by simp [impl_isPiecePlan.l2])
        | succ k4 =>
         have H := HA.out
         clear HA
         simp only [impl_isPiecePlan.l2] at H
         by_cases c27 : x50_4 < (((rd_T123 l1 x31_2).f1).length : Int)
         rotate_left
         ·rw [if_neg c27] at H
          have c27b0 : decide (x50_4 < (((rd_T123 l1 x31_2).f1).length : Int)) = false := decide_eq_false c27
          clear c27
          have H' := Aside0.mk H
          clear H
          go_wp2
          go_roundg k4
          case measure => have := HK1.out; have := HK2.out; have := HJ14.out; have := HK4.out; omega
          case rel => exact ⟨(x5_4), (wrap64 (x31_2 + 1)), (by first | rfl | (simp; done) | (simp [*]; done)), H', ⟨by have := HK1.out; have := HK2.out; have := HJ14.out; have := HK4.out; omega⟩, ⟨by (with_reducible repeat (first | apply Kd.S_alloc | apply Kd.S_drewN | apply Kd.S_drew)); exact HO_5.out⟩, ⟨by repeat (first | (with_reducible first | exact bw HB.out | refine bset ?_ | apply bA | apply bN | apply bD) | exact HB.out)⟩⟩
         rw [if_pos c27] at H
         have c27b0 : decide (x50_4 < (((rd_T123 l1 x31_2).f1).length : Int)) = true := decide_eq_true c27
         clear c27
         by_cases c28 : 0 ≤ x50_4
         rotate_left
         ·rw [if_neg c28] at H
          exact absurd H (by simp)
         rw [if_pos c28] at H
         have c28b0 : decide (0 ≤ x50_4) = true := decide_eq_true c28
         clear c28
         by_cases c29 : x50_4 < (((rd_T123 l1 x31_2).f1).length : Int)
         rotate_left
         ·rw [if_neg c29] at H
          exact absurd H (by simp)
         rw [if_pos c29] at H
         have c29b0 : decide (x50_4 < (((rd_T123 l1 x31_2).f1).length : Int)) = true := decide_eq_true c29
         clear c29
         have HC30 := Aside0.mk H
         clear H
         have p826 : 0 ≤ (x50_4 : Int) := of_decide_eq_true (by first | (with_reducible assumption) | assumption)
         have q826 : x50_4 < (((rd_T123 l1 x31_2).f1).length : Int) := of_decide_eq_true (by first | (with_reducible assumption) | assumption)
         obtain ⟨ad826, e826, hx826_0⟩ := Kd.at_int HR822_1.out x50_4 p826 q826
         cases e826
         replace hx826_0 := (HB.out.cell (World.block_lt_of_cell? w _ hx826_0)).trans hx826_0
         replace p826 := eq_true p826
         replace q826 := eq_true q826
         go_upto_region 17 with (fail)
         go_cut [72] (fun v72 wc => ∃ (kq : Nat) (x72_29 : Bool), v72 = .bool x72_29 ∧ Aside0 (impl_isPiecePlan.j4 kq l0 x5_4 x50_4 (rd ((rd_T123 l1 x31_2).f1) x50_4) l1 (l1.length : Int) x31_2 ((rd_T123 l1 x31_2).f1) (((rd_T123 l1 x31_2).f1).length : Int) x50_4 x72_29 ((rd_T123 l1 x31_2).f0) ((rd_T123 l1 x31_2).f1) = some r) ∧ Aside0 (kq ≤ k4) ∧ Aside0 (Kd.S (Kd.slice 3 (Kd.int .i64)) 23 wc w.heap.size (fun _ => True) u5 x5_4) ∧ Aside0 (wc.heap[gb823]? = some (.cells #[.int .i64 ((rd_T123 l1 x31_2).f0), (.slice (some ad826) ((rd_T123 l1 x31_2).f1).length c822_1)] 123 (0, 0))) ∧ Aside0 (Below w.heap.size w wc))
         case first =>
          have H := HC30.out
          clear HC30
          replace H := Option.bind_eq_some_iff.mp H
          obtain ⟨t827, A310, H⟩ := H
          replace H : (if t827 = true then (if (rd ((rd_T123 l1 x31_2).f1) x50_4) ≥ 0 then (if x50_4 ≤ (((rd_T123 l1 x31_2).f1).length : Int) then ((impl_has.f k4 (((rd_T123 l1 x31_2).f1).take (x50_4 : Int).toNat) (rd ((rd_T123 l1 x31_2).f1) x50_4)).bind fun t829 => (impl_isPiecePlan.j4 k4 l0 x5_4 x50_4 (rd ((rd_T123 l1 x31_2).f1) x50_4) l1 (l1.length : Int) x31_2 ((rd_T123 l1 x31_2).f1) (((rd_T123 l1 x31_2).f1).length : Int) x50_4 t829 ((rd_T123 l1 x31_2).f0) ((rd_T123 l1 x31_2).f1))) else (none)) else (impl_isPiecePlan.j4 k4 l0 x5_4 x50_4 (rd ((rd_T123 l1 x31_2).f1) x50_4) l1 (l1.length : Int) x31_2 ((rd_T123 l1 x31_2).f1) (((rd_T123 l1 x31_2).f1).length : Int) x50_4 false ((rd_T123 l1 x31_2).f0) ((rd_T123 l1 x31_2).f1))) else (impl_isPiecePlan.j4 k4 l0 x5_4 x50_4 (rd ((rd_T123 l1 x31_2).f1) x50_4) l1 (l1.length : Int) x31_2 ((rd_T123 l1 x31_2).f1) (((rd_T123 l1 x31_2).f1).length : Int) x50_4 true ((rd_T123 l1 x31_2).f0) ((rd_T123 l1 x31_2).f1))) = some r := H
          have A31 := Aside0.mk A310
          clear A310
          by_cases c32 : t827 = true
          rotate_left
          ·replace c32 := Bool.eq_false_iff.mpr c32
           subst c32
           have H1 : (impl_isPiecePlan.j4 k4 l0 x5_4 x50_4 (rd ((rd_T123 l1 x31_2).f1) x50_4) l1 (l1.length : Int) x31_2 ((rd_T123 l1 x31_2).f1) (((rd_T123 l1 x31_2).f1).length : Int) x50_4 true ((rd_T123 l1 x31_2).f0) ((rd_T123 l1 x31_2).f1)) = some r := by rw [if_neg (show ¬ (false = true) by decide)] at H; exact H
           clear H
           have H := H1
           clear H1
           have H' := Aside0.mk H
           clear H
           go_wp2_with (first | ((with_reducible refine gate_callee (f := 133) rfl ?_); refine goesL_ (some 59) rfl rfl Try.func133 (by kernel_rfl) rfl #[.int .i64 (rd ((rd_T123 l1 x31_2).f1) x50_4), .int .i64 (-1), .int .i64 (wrap64 ((l0.length : Int) - 1))] rfl (by (try simp only [mA_]); first | done | rfl | (simp only [List.length_drop, List.length_take]; rfl)) ?_; (with_reducible refine (impl_within.calls (rd ((rd_T123 l1 x31_2).f1) x50_4) (-1) (wrap64 ((l0.length : Int) - 1)) false _ A31.out).mono ?_); rintro e w' ⟨rfl, ⟨nd, rfl⟩⟩; refine ⟨_, rfl, ?_⟩))
           go_meet
           case rel => exact ⟨_, (true), (by first | rfl | (simp; done) | (simp [*]; done)), H', ⟨by have := HK1.out; have := HK2.out; have := HJ14.out; have := HK4.out; first | omega | exact Nat.le_refl _⟩, ⟨by (with_reducible repeat (first | apply Kd.S_alloc | apply Kd.S_drewN | apply Kd.S_drew)); exact HO_5.out⟩, ⟨bs BK823.out⟩, ⟨by repeat (first | (with_reducible first | exact bw HB.out | refine bset ?_ | apply bA | apply bN | apply bD) | exact HB.out)⟩⟩
          subst c32
          have H1 : (if (rd ((rd_T123 l1 x31_2).f1) x50_4) ≥ 0 then (if x50_4 ≤ (((rd_T123 l1 x31_2).f1).length : Int) then ((impl_has.f k4 (((rd_T123 l1 x31_2).f1).take (x50_4 : Int).toNat) (rd ((rd_T123 l1 x31_2).f1) x50_4)).bind fun t829 => (impl_isPiecePlan.j4 k4 l0 x5_4 x50_4 (rd ((rd_T123 l1 x31_2).f1) x50_4) l1 (l1.length : Int) x31_2 ((rd_T123 l1 x31_2).f1) (((rd_T123 l1 x31_2).f1).length : Int) x50_4 t829 ((rd_T123 l1 x31_2).f0) ((rd_T123 l1 x31_2).f1))) else (none)) else (impl_isPiecePlan.j4 k4 l0 x5_4 x50_4 (rd ((rd_T123 l1 x31_2).f1) x50_4) l1 (l1.length : Int) x31_2 ((rd_T123 l1 x31_2).f1) (((rd_T123 l1 x31_2).f1).length : Int) x50_4 false ((rd_T123 l1 x31_2).f0) ((rd_T123 l1 x31_2).f1))) = some r := by rw [if_pos rfl] at H; exact H
          clear H
          have H := H1
          clear H1
          by_cases c33 : (rd ((rd_T123 l1 x31_2).f1) x50_4) ≥ 0
          rotate_left
          ·rw [if_neg c33] at H
           have c33b0 : decide (0 ≤ (rd ((rd_T123 l1 x31_2).f1) x50_4)) = false := decide_eq_false c33
           clear c33
           (first | rw [c33b0] | (simp only [i64_w, i32_w]; rw [c33b0]) | skip)
           have H' := Aside0.mk H
           clear H
           go_wp2_with (first | ((with_reducible refine gate_callee (f := 133) rfl ?_); refine goesL_ (some 59) rfl rfl Try.func133 (by kernel_rfl) rfl #[.int .i64 (rd ((rd_T123 l1 x31_2).f1) x50_4), .int .i64 (-1), .int .i64 (wrap64 ((l0.length : Int) - 1))] rfl (by (try simp only [mA_]); first | done | rfl | (simp only [List.length_drop, List.length_take]; rfl)) ?_; (with_reducible refine (impl_within.calls (rd ((rd_T123 l1 x31_2).f1) x50_4) (-1) (wrap64 ((l0.length : Int) - 1)) true _ A31.out).mono ?_); rintro e w' ⟨rfl, ⟨nd, rfl⟩⟩; refine ⟨_, rfl, ?_⟩))
           go_meet
           case rel => exact ⟨_, (false), (by first | rfl | (simp; done) | (simp [*]; done)), H', ⟨by have := HK1.out; have := HK2.out; have := HJ14.out; have := HK4.out; first | omega | exact Nat.le_refl _⟩, ⟨by (with_reducible repeat (first | apply Kd.S_alloc | apply Kd.S_drewN | apply Kd.S_drew)); exact HO_5.out⟩, ⟨bs BK823.out⟩, ⟨by repeat (first | (with_reducible first | exact bw HB.out | refine bset ?_ | apply bA | apply bN | apply bD) | exact HB.out)⟩⟩
          rw [if_pos c33] at H
          have c33b0 : decide (0 ≤ (rd ((rd_T123 l1 x31_2).f1) x50_4)) = true := decide_eq_true c33
          clear c33
          (first | rw [c33b0] | (simp only [i64_w, i32_w]; rw [c33b0]) | skip)
          have c34b0 := eq_true (of_decide_eq_true (by first | (with_reducible assumption) | assumption) : 0 ≤ x50_4)
          by_cases c35 : x50_4 ≤ (((rd_T123 l1 x31_2).f1).length : Int)
          rotate_left
          ·rw [if_neg c35] at H
           exact absurd H (by simp)
          rw [if_pos c35] at H
          have c35b0 := eq_true c35
          have c35b1 : decide (x50_4 ≤ (((rd_T123 l1 x31_2).f1).length : Int)) = true := decide_eq_true c35
          clear c35
          replace H := Option.bind_eq_some_iff.mp H
          obtain ⟨t829, A360, H⟩ := H
          replace H : (impl_isPiecePlan.j4 k4 l0 x5_4 x50_4 (rd ((rd_T123 l1 x31_2).f1) x50_4) l1 (l1.length : Int) x31_2 ((rd_T123 l1 x31_2).f1) (((rd_T123 l1 x31_2).f1).length : Int) x50_4 t829 ((rd_T123 l1 x31_2).f0) ((rd_T123 l1 x31_2).f1)) = some r := H
          have A36 := Aside0.mk A360
          clear A360
          have H' := Aside0.mk H
          clear H
          go_wp2_with (first | ((with_reducible refine gate_callee (f := 133) rfl ?_); refine goesL_ (some 59) rfl rfl Try.func133 (by kernel_rfl) rfl #[.int .i64 (rd ((rd_T123 l1 x31_2).f1) x50_4), .int .i64 (-1), .int .i64 (wrap64 ((l0.length : Int) - 1))] rfl (by (try simp only [mA_]); first | done | rfl | (simp only [List.length_drop, List.length_take]; rfl)) ?_; (with_reducible refine (impl_within.calls (rd ((rd_T123 l1 x31_2).f1) x50_4) (-1) (wrap64 ((l0.length : Int) - 1)) true _ A31.out).mono ?_); rintro e w' ⟨rfl, ⟨nd, rfl⟩⟩; refine ⟨_, rfl, ?_⟩; obtain ⟨hcz37_0, hcz37_1, hfz37_0, hfz37_1⟩ := bz2 BK823.out; obtain ⟨i038, hi038, _, hsz38, _⟩ := info_parts info3; obtain ⟨hcut38, hA38, hC38⟩ := print_take_of (P := Try.prog) (Value.int .i64) 0 23 3 .i64 Try.underlying23 hi038 hsz38 (some ad826) c822_1 ((rd_T123 l1 x31_2).f1) x50_4 (of_decide_eq_true (by first | (with_reducible assumption) | assumption)) (of_decide_eq_true (by first | (with_reducible assumption) | assumption)) HC822_1.out; have HR828 := Aside0.mk (Kd.C_of_reads (h1 := fun _ => rfl) (hA38 _ (Kd.reads_of_C HR822_1.out))); have HC828 := Aside0.mk hC38; clear hA38 hC38 hi038 hsz38) | (go_at_call 151; (with_reducible refine (calls_args (by first | (rw [take_len ((rd_T123 l1 x31_2).f1) x50_4 (of_decide_eq_true (by first | (with_reducible assumption) | assumption))]; done) | (simp; done)) (impl_has.calls k4 (some ad826) c822_1 (((rd_T123 l1 x31_2).f1).take (x50_4 : Int).toNat) (rd ((rd_T123 l1 x31_2).f1) x50_4) t829 _ ?side1 ?side2 A36.out)).mono ?_); (case side1 => repeat (first | exact (Kd.C_below HR828.out (by repeat (first | (with_reducible first | exact bw HB.out | refine bset ?_ | apply bA | apply bN | apply bD) | exact HB.out))) | (with_reducible refine Kd.C_alloc ?_ _) | (with_reducible refine Kd.C_drewN ?_ _) | (with_reducible refine Kd.C_drew ?_))); (case side2 => exact HC828.out); rintro e w' ⟨rfl, ⟨nd, rfl⟩⟩))
          go_meet
          case rel => exact ⟨_, (t829), (by first | rfl | (simp; done) | (simp [*]; done)), H', ⟨by have := HK1.out; have := HK2.out; have := HJ14.out; have := HK4.out; first | omega | exact Nat.le_refl _⟩, ⟨by (with_reducible repeat (first | apply Kd.S_alloc | apply Kd.S_drewN | apply Kd.S_drew)); exact HO_5.out⟩, ⟨bs BK823.out⟩, ⟨by repeat (first | (with_reducible first | exact bw HB.out | refine bset ?_ | apply bA | apply bN | apply bD) | exact HB.out)⟩⟩
         case rest =>
          clear HC30
          try clear c1
          try clear c2
          try clear p2
          try clear c3
          try clear c3b0
          try clear c3b1
          try clear c4
          try clear c4b0
          try clear c5
          try clear c5b0
          try clear c6
          try clear c6b0
          try clear p6
          try clear c8
          try clear p8
          try clear q8
          try clear hx8
          try clear c11
          try clear c12
          try clear c12b0
          try clear c13
          try clear c13b0
          try clear c14
          try clear c14b0
          try clear c15
          try clear c19
          try clear c25
          try clear c27
          try clear c27b0
          try clear c28
          try clear c28b0
          try clear c29
          try clear c29b0
          try clear c32
          try clear c33
          try clear c33b0
          try clear c34
          try clear c34b0
          try clear c35
          try clear c35b0
          try clear c35b1
          try clear hcz17_0
          try clear hcz17_1
          try clear hcz26_0
          try clear hcz26_1
          try clear hcz37_0
          try clear hcz37_1
          try clear hfz17_0
          try clear hfz17_1
          try clear hfz26_0
          try clear hfz26_1
          try clear hfz37_0
          try clear hfz37_1
          try clear hx815_0
          try clear hx822_0
          try clear hx822_1
          try clear hx826_0
          try clear p2
          try clear p6
          try clear p8
          try clear p815
          try clear p822
          try clear p826
          try clear q8
          try clear q815
          try clear q822
          try clear q826
          obtain ⟨kq, x72_29, rfl, HA, HJ29, HO_5, BK823, HB⟩ := hcut
          cases kq with
          | zero => exact absurd HA.out (by simp [impl_isPiecePlan.j4])
          | succ kj29 =>
           have H := HA.out
           clear HA
           simp only [impl_isPiecePlan.j4] at H
           by_cases c39 : x72_29 = true
           ·subst c39
            have H1 : (some false) = some r := by rw [if_pos rfl] at H; exact H
            clear H
            have H := H1
            clear H1
            obtain rfl := Option.some.inj H
            go_wp2
            go_ret
            exact ⟨by first | rfl | (simp [errW_none, errW_some] <;> rfl) | (simp [*, errW_none, errW_some] <;> rfl), by repeat (first | (with_reducible first | exact bw HB.out | refine bset ?_ | apply bA | apply bN | apply bD) | exact HB.out)⟩
           replace c39 := Bool.eq_false_iff.mpr c39
           subst c39
           have H1 : (if (rd ((rd_T123 l1 x31_2).f1) x50_4) ≥ 0 then (if 0 ≤ (rd ((rd_T123 l1 x31_2).f1) x50_4) then (if (rd ((rd_T123 l1 x31_2).f1) x50_4) < (x5_4.length : Int) then (if 0 ≤ x50_4 then (if x50_4 < ((rd_L4 x5_4 (rd ((rd_T123 l1 x31_2).f1) x50_4)).length : Int) then (impl_isPiecePlan.l2 kj29 l0 (x5_4.set ((rd ((rd_T123 l1 x31_2).f1) x50_4) : Int).toNat ((rd_L4 x5_4 (rd ((rd_T123 l1 x31_2).f1) x50_4)).set (x50_4 : Int).toNat (wrap64 ((rd (rd_L4 x5_4 (rd ((rd_T123 l1 x31_2).f1) x50_4)) x50_4) - ((rd_T123 l1 x31_2).f0))))) l1 (l1.length : Int) x31_2 ((rd_T123 l1 x31_2).f1) (((rd_T123 l1 x31_2).f1).length : Int) (wrap64 (x50_4 + 1)) ((rd_T123 l1 x31_2).f0) ((rd_T123 l1 x31_2).f1)) else (none)) else (none)) else (none)) else (none)) else (impl_isPiecePlan.l2 kj29 l0 x5_4 l1 (l1.length : Int) x31_2 ((rd_T123 l1 x31_2).f1) (((rd_T123 l1 x31_2).f1).length : Int) (wrap64 (x50_4 + 1)) ((rd_T123 l1 x31_2).f0) ((rd_T123 l1 x31_2).f1))) = some r := by rw [if_neg (show ¬ (false = true) by decide)] at H; exact H
           clear H
           have H := H1
           clear H1
           by_cases c40 : (rd ((rd_T123 l1 x31_2).f1) x50_4) ≥ 0
           rotate_left
           ·rw [if_neg c40] at H
            have c40b0 : decide (0 ≤ (rd ((rd_T123 l1 x31_2).f1) x50_4)) = false := decide_eq_false c40
            clear c40
            have H' := Aside0.mk H
            clear H
            go_wp2
            go_roundg kj29
            case measure => have := HK1.out; have := HK2.out; have := HJ14.out; have := HK4.out; have := HJ29.out; omega
            case rel => exact ⟨(x5_4), (wrap64 (x50_4 + 1)), (by first | rfl | (simp; done) | (simp [*]; done)), H', ⟨by have := HK1.out; have := HK2.out; have := HJ14.out; have := HK4.out; have := HJ29.out; omega⟩, ⟨by (with_reducible repeat (first | apply Kd.S_alloc | apply Kd.S_drewN | apply Kd.S_drew)); exact HO_5.out⟩, ⟨bs BK823.out⟩, ⟨by repeat (first | (with_reducible first | exact bw HB.out | refine bset ?_ | apply bA | apply bN | apply bD) | exact HB.out)⟩⟩
           rw [if_pos c40] at H
           have c40b0 : decide (0 ≤ (rd ((rd_T123 l1 x31_2).f1) x50_4)) = true := decide_eq_true c40
           clear c40
           by_cases c41 : 0 ≤ (rd ((rd_T123 l1 x31_2).f1) x50_4)
           rotate_left
           ·rw [if_neg c41] at H
            exact absurd H (by simp)
           rw [if_pos c41] at H
           have c41b0 : decide (0 ≤ (rd ((rd_T123 l1 x31_2).f1) x50_4)) = true := decide_eq_true c41
           clear c41
           by_cases c42 : (rd ((rd_T123 l1 x31_2).f1) x50_4) < (x5_4.length : Int)
           rotate_left
           ·rw [if_neg c42] at H
            exact absurd H (by simp)
           rw [if_pos c42] at H
           have c42b0 : decide ((rd ((rd_T123 l1 x31_2).f1) x50_4) < (x5_4.length : Int)) = true := decide_eq_true c42
           clear c42
           by_cases c43 : 0 ≤ x50_4
           rotate_left
           ·rw [if_neg c43] at H
            exact absurd H (by simp)
           rw [if_pos c43] at H
           have c43b0 : decide (0 ≤ x50_4) = true := decide_eq_true c43
           clear c43
           by_cases c44 : x50_4 < ((rd_L4 x5_4 (rd ((rd_T123 l1 x31_2).f1) x50_4)).length : Int)
           rotate_left
           ·rw [if_neg c44] at H
            exact absurd H (by simp)
           rw [if_pos c44] at H
           have c44b0 : decide (x50_4 < ((rd_L4 x5_4 (rd ((rd_T123 l1 x31_2).f1) x50_4)).length : Int)) = true := decide_eq_true c44
           clear c44
           obtain ⟨y832, hy832⟩ : ∃ y_ : List Int, y_ = ((rd_L4 x5_4 (rd ((rd_T123 l1 x31_2).f1) x50_4)).set (x50_4 : Int).toNat (wrap64 ((rd (rd_L4 x5_4 (rd ((rd_T123 l1 x31_2).f1) x50_4)) x50_4) - ((rd_T123 l1 x31_2).f0)))) := ⟨_, rfl⟩
           replace H : (impl_isPiecePlan.l2 kj29 l0 (x5_4.set ((rd ((rd_T123 l1 x31_2).f1) x50_4) : Int).toNat y832) l1 (l1.length : Int) x31_2 ((rd_T123 l1 x31_2).f1) (((rd_T123 l1 x31_2).f1).length : Int) (wrap64 (x50_4 + 1)) ((rd_T123 l1 x31_2).f0) ((rd_T123 l1 x31_2).f1)) = some r := by first | (rw [hy832]; with_reducible exact H) | (have H2_ := (Option.bind_some _ _).symm.trans H; rw [hy832]; with_reducible exact H2_) | (have H2_ := (Option.bind_some _ _).symm.trans H; with_reducible exact H2_) | with_reducible exact H | (rw [hy832]; exact H) | exact H
           have Ny832 := Aside0.mk hy832
           clear hy832
           obtain ⟨y834, hy834⟩ : ∃ y_ : List (List Int), y_ = (x5_4.set ((rd ((rd_T123 l1 x31_2).f1) x50_4) : Int).toNat y832) := ⟨_, rfl⟩
           replace H : (impl_isPiecePlan.l2 kj29 l0 y834 l1 (l1.length : Int) x31_2 ((rd_T123 l1 x31_2).f1) (((rd_T123 l1 x31_2).f1).length : Int) (wrap64 (x50_4 + 1)) ((rd_T123 l1 x31_2).f0) ((rd_T123 l1 x31_2).f1)) = some r := by first | (rw [hy834]; with_reducible exact H) | (have H2_ := (Option.bind_some _ _).symm.trans H; rw [hy834]; with_reducible exact H2_) | (have H2_ := (Option.bind_some _ _).symm.trans H; with_reducible exact H2_) | with_reducible exact H | (rw [hy834]; exact H) | exact H
           have Ny834 := Aside0.mk hy834
           clear hy834
           have H' := Aside0.mk H
           clear H
           try go_wp2
           have n0_ := Aside0.mk (Kd.S_drew HO_5.out)
           have n1_ := Aside0.mk (blk_drew BK823.out)
           have n2_ := Aside0.mk (below_drew1 HB.out)
           replace HO_5 := n0_
           replace BK823 := n1_
           replace HB := n2_
           clear n0_ n1_ n2_
           obtain ⟨Ao47, co47, eo47⟩ := Kd.S_slice HO_5.out
           (first | subst eo47 | (injection eo47 with f1_ f2_ f3_; have f4_ := f1_.symm; have f5_ := f3_.symm; clear f1_ f2_ f3_; subst f4_; subst f5_))
           have p830 : 0 ≤ ((rd ((rd_T123 l1 x31_2).f1) x50_4) : Int) := of_decide_eq_true (by first | (with_reducible assumption) | assumption)
           have q830 : (rd ((rd_T123 l1 x31_2).f1) x50_4) < (x5_4.length : Int) := of_decide_eq_true (by first | (with_reducible assumption) | assumption)
           obtain ⟨ad830, A830_0, c830_0, e830, hx830_0, hl830_0, hi830_0⟩ := at_L4 (Kd.S_reads' HO_5.out).2.2 (rd ((rd_T123 l1 x31_2).f1) x50_4) p830 q830
           cases e830
           obtain ⟨ce830, hce830, hMe830, hcc830⟩ := Kd.S_get HO_5.out [] (rd ((rd_T123 l1 x31_2).f1) x50_4) p830 (by first | exact q830 | exact of_decide_eq_true (by first | (with_reducible assumption) | assumption) | (have e_ := (Kd.S_reads' HO_5.out).1; omega))
           obtain ⟨ve830_0, rfl, ge830_0⟩ := hMe830
           have hv830_0 := hcc830 0 _ rfl
           rw [Nat.add_zero, show ((Kd.slice 3 (Kd.int .i64))).sz = 1 from rfl, Nat.mul_one] at hv830_0
           replace hv830_0 := Option.some.inj (hv830_0.symm.trans hx830_0)
           rw [hv830_0] at ge830_0
           have HL830_0 := Aside0.mk (show Kd.R (Kd.int .i64) 3 _ _ _ _ (rd_L4 x5_4 (rd ((rd_T123 l1 x31_2).f1) x50_4)) from ge830_0)
           clear hv830_0 ge830_0
           have HX830_0 := Aside0.mk hx830_0
           clear hcc830 hce830
           have HR830_0 := Aside0.mk hi830_0
           have HC830_0 := Aside0.mk hl830_0
           clear hi830_0 hl830_0
           replace p830 := eq_true p830
           replace q830 := eq_true q830
           have p831 : 0 ≤ (x50_4 : Int) := of_decide_eq_true (by first | (with_reducible assumption) | assumption)
           have q831 : x50_4 < ((rd_L4 x5_4 (rd ((rd_T123 l1 x31_2).f1) x50_4)).length : Int) := of_decide_eq_true (by first | (with_reducible assumption) | assumption)
           obtain ⟨ad831, e831, hx831_0⟩ := Kd.at_int (by repeat (first | (with_reducible exact HR830_0.out) | (with_reducible refine Kd.C_alloc ?_ _) | (with_reducible refine Kd.C_drewN ?_ _) | (with_reducible refine Kd.C_drew ?_) | exact HR830_0.out)) x50_4 p831 q831
           cases e831
           replace p831 := eq_true p831
           replace q831 := eq_true q831
           have p45 : 0 ≤ (x50_4 : Int) := of_decide_eq_true (by first | (with_reducible assumption) | assumption)
           have q45 : (x50_4 : Int) < (((rd_L4 x5_4 (rd ((rd_T123 l1 x31_2).f1) x50_4)).length : Int) : Int) := of_decide_eq_true (by first | (with_reducible assumption) | assumption)
           obtain ⟨go45, co45, eo45, gb45, gl45, cl45, HG45⟩ := Kd.R_form HL830_0.out (by omega)
           (first | cases eo45 | (injection eo45 with ea_ en_ ec_; (first | subst ea_ | (injection ea_ with ea_; subst ea_)); subst ec_; clear en_))
           have GB45 := Aside0.mk gb45
           have GG45 := Aside0.mk HG45
           clear gb45 gl45 HG45
           (first | simp only [add_plain] at hx831_0 | skip)
           obtain ⟨hx45_0, hf45_0⟩ := Kd.R_celln 0 HL830_0.out (x50_4 : Int) p45 q45
           replace p45 := eq_true p45
           replace q45 := eq_true q45
           have hq48 : ((rd ((rd_T123 l1 x31_2).f1) x50_4) : Int) < (x5_4.length : Int) := (by have h_ : ((rd ((rd_T123 l1 x31_2).f1) x50_4) : Int) < ((x5_4.length : Int) : Int) := of_decide_eq_true (by first | (with_reducible assumption) | assumption); first | exact h_ | (have e_ := (Kd.S_reads' HO_5.out).1; omega) | simpa only [List.length_set, List.length_set] using h_)
           obtain ⟨oki48, ce48, hcl48, hM48, hcc48, hok48, hbk48⟩ := Kd.S_borrow HO_5.out [] ((rd ((rd_T123 l1 x31_2).f1) x50_4) : Int) (of_decide_eq_true (by first | (with_reducible assumption) | assumption)) hq48
           obtain ⟨ve48_0, rfl, ge48_0⟩ := hM48
           have hv48 := hcc48 0 _ rfl
           rw [Nat.add_zero, show ((Kd.slice 3 (Kd.int .i64))).sz = 1 from rfl, Nat.mul_one] at hv48
           replace hv48 := Option.some.inj (hv48.symm.trans HX830_0.out)
           subst hv48
           clear hcc48 hcl48
           replace ge48_0 := (show Kd.R (Kd.int .i64) 3 _ _ _ _ (rd_L4 x5_4 (rd ((rd_T123 l1 x31_2).f1) x50_4)) from ge48_0)
           have HP48 := Kd.R_putg ge48_0 (x50_4 : Int) (wrap64 ((rd (rd_L4 x5_4 (rd ((rd_T123 l1 x31_2).f1) x50_4)) x50_4) - ((rd_T123 l1 x31_2).f0)))
           rw [← Ny832.out] at HP48
           have HS48 := hbk48 HP48.2 (fun k_ e_ => by injection e_ with e_; subst e_; exact ge48_0.1 _ rfl) (x' := y832) (Kd.M_row HP48.1)
           rw [← Ny834.out] at HS48
           have HQ48 := Aside0.mk HS48
           clear HP48 HS48 hbk48 hok48
           refine start_ (n := 12) (S := fun w' => w'.cell? ⟨gb823, 0, none⟩ = some (.int .i64 ((rd_T123 l1 x31_2).f0)) ∧ w'.cell? ⟨gb823, 1, none⟩ = some (.slice (some ad826) ((rd_T123 l1 x31_2).f1).length c822_1) ∧ w'.cell? (ad830.add ((rd ((rd_T123 l1 x31_2).f1) x50_4)).toNat) = some (.slice (some ⟨go45, 0, none⟩) (rd_L4 x5_4 (rd ((rd_T123 l1 x31_2).f1) x50_4)).length c830_0) ∧ w'.cell? ⟨go45, (x50_4).toNat, none⟩ = some (.int .i64 (rd (rd_L4 x5_4 (rd ((rd_T123 l1 x31_2).f1) x50_4)) x50_4))) (ds := [11]) q113_0 (by kernel_rfl) rfl rfl ⟨(blk_cell BK823.out 0).trans rfl, (blk_cell BK823.out 1).trans rfl, hx830_0, hx831_0⟩ (fun hHeld => ?_); refine with_tabW impl_isPiecePlan.tab20 impl_isPiecePlan.bits20 (fun HT_ HW_ => ?_)
           generalize wc.drew = w46 at HO_5 BK823 HB GG45 HL830_0 HQ48 HR830_0 HX830_0 hf45_0 hx45_0 hx830_0 hx831_0 hHeld ⊢
           refine pup_ (i := 0) (N := some 75) HT_ rfl rfl (by kernel_rfl) (fun _ _ _ h => h) (Or.inl ⟨by rfl, by intro w'; go_simp; with_reducible rfl⟩) (by simp only [aq_]; rfl) ?_
           refine pup_ (i := 1) (N := some 76) HT_ rfl rfl (by kernel_rfl) (fun _ _ _ h => h) (Or.inl ⟨by rfl, by intro w'; go_simp; with_reducible rfl⟩) (by simp only [aq_]; rfl) ?_
           refine pup_ (i := 2) (N := some 77) HT_ rfl rfl (by kernel_rfl) (fun _ _ _ h => h) (Or.inl ⟨by rfl, by intro w'; go_simp; with_reducible rfl⟩) (by simp only [aq_]; rfl) ?_
           refine pup_ (i := 4) (N := some 79) HT_ rfl rfl (by kernel_rfl) (fun _ _ _ h => h) (Or.inl ⟨by rfl, by intro w'; go_simp; with_reducible rfl⟩) (by simp only [aq_]; rfl) ?_
           refine pup_ (i := 7) (N := some 82) HT_ rfl rfl (by kernel_rfl) (fun _ _ _ h => h) (Or.inl ⟨by rfl, by intro w'; go_simp; with_reducible rfl⟩) (by simp only [aq_]; rfl) ?_
           refine take_ (i := 3) (N := some 78) (v := ?_) (a' := ?_) q113_17 rfl rfl (take_ofW HT_.out HW_.out (by kernel_rfl)) (fun _ _ _ h => h) (Or.inl ⟨by rfl, ?_⟩) hHeld ?_ ?_
           rotate_left
           ·rintro w' ⟨s0, s1, s2, s3⟩
            go_simp
            with_reducible rfl
           rotate_left
           ·simp only [aq_]
            rfl
           refine pup_ (i := 5) (N := some 80) HT_ rfl rfl (by kernel_rfl) (fun _ _ _ h => h) (Or.inl ⟨by rfl, by intro w'; go_simp; with_reducible rfl⟩) (by simp only [aq_]; rfl) ?_
           refine take_ (i := 6) (N := some 81) (v := ?_) (a' := ?_) q113_14 rfl rfl (take_ofW HT_.out HW_.out (by kernel_rfl)) (fun _ _ _ h => h) (Or.inl ⟨by rfl, ?_⟩) hHeld ?_ ?_
           rotate_left
           ·rintro w' ⟨s0, s1, s2, s3⟩
            go_simp
            with_reducible rfl
           rotate_left
           ·simp only [aq_]
            rfl
           refine take_ (i := 8) (N := some 83) (v := ?_) (a' := ?_) q113_9 rfl rfl (take_ofW HT_.out HW_.out (by kernel_rfl)) (fun _ _ _ h => h) (Or.inl ⟨by rfl, ?_⟩) hHeld ?_ ?_
           rotate_left
           ·rintro w' ⟨s0, s1, s2, s3⟩
            go_simp
            with_reducible rfl
           rotate_left
           ·simp only [aq_]
            rfl
           refine pup_ (i := 9) (N := some 84) HT_ rfl rfl (by kernel_rfl) (fun _ _ _ h => h) (Or.inl ⟨by rfl, by intro w'; go_simp; with_reducible rfl⟩) (by simp only [aq_]; rfl) ?_
           refine pup_ (i := 10) (N := some 85) HT_ rfl rfl (by kernel_rfl) (fun _ _ _ h => h) (Or.inl ⟨by rfl, by intro w'; go_simp; with_reducible rfl⟩) (by simp only [aq_]; rfl) ?_
           refine last_ (i := 11) (N := none) q113_12 rfl rfl (one_of HT_.out (by kernel_rfl)) (by decide) (fun K hK => ?_)
           refine skip_ (w1 := ?_) (by rfl) rfl ?_ ?_
           rotate_left
           ·go_simp
            rfl
           refine hK.out _ _ ?_
           clear hK K
           refine done_ (done_of HT_.out (by kernel_rfl)) ?_
           try go_wp2
           go_roundg kj29
           case measure => have := HK1.out; have := HK2.out; have := HJ14.out; have := HK4.out; have := HJ29.out; omega
           case rel => exact ⟨(y834), (wrap64 (x50_4 + 1)), (by first | rfl | (simp; done) | (simp [*]; done)), H', ⟨by have := HK1.out; have := HK2.out; have := HJ14.out; have := HK4.out; have := HJ29.out; omega⟩, ⟨by (with_reducible repeat (first | apply Kd.S_alloc | apply Kd.S_drewN | apply Kd.S_drew)); exact HQ48.out⟩, ⟨by (with_reducible repeat (first | refine blk_drewN ?_ _ | refine blk_drew ?_ | refine blk_alloc ?_ _)); refine blk_far ?_ (by have h_ := Kd.R_ne HL830_0.out BK823.out (by decide); intro e_; exact h_ (by rw [e_]; rfl)) _; exact bs BK823.out⟩, ⟨by repeat (first | (with_reducible first | exact HB.out | apply below_alloc | apply pw_below_drewN | apply below_drew1 | refine below_set ?_ GB45.out | refine below_set ?_ GE823.out) | exact HB.out)⟩⟩

/-! ### impl_IsPiecePlan: function 48 -/
def impl_IsPiecePlan.f (k : Nat) (l0 : List (List Int)) (l1 : List (S123)) : Option (Bool × Bool) := (impl_isShop.f k l0).bind fun t837 => (if t837 = true then ((impl_isPiecePlan.f k l0 l1).bind fun t838 => (some (t838, true))) else (some (false, false)))
theorem impl_IsPiecePlan.mono : ∀ a0 a1 k, LeO (impl_IsPiecePlan.f k a0 a1) (impl_IsPiecePlan.f (k + 1) a0 a1) := by
 intro a0 a1 k
 unfold impl_IsPiecePlan.f
 repeat' first
   | (with_reducible exact impl_isPiecePlan.mono _ _ _)
   | (with_reducible exact impl_isShop.mono _ _)
   | (with_reducible exact LeO.refl _)
   | (with_reducible exact LeO.none _)
   | (with_reducible refine LeO.ite ?_ ?_)
   | (with_reducible refine LeO.bind ?_ (fun _ => ?_))
   | exact impl_isPiecePlan.mono _ _ _
   | exact impl_isShop.mono _ _
   | exact LeO.none _
   | refine LeO.ite ?_ ?_
   | refine LeO.bind ?_ (fun _ => ?_)
set_option maxHeartbeats 8000000 in
set_option maxRecDepth 100000 in
theorem impl_IsPiecePlan.calls (k : Nat) (A0 : Option Addr) (c0 : Nat) (l0 : List (List Int)) (A1 : Option Addr) (c1 : Nat) (l1 : List (S123)) (r1 : Bool) (r2 : Bool) (w : World) (hr0 : Kd.C (Kd.slice 3 (Kd.int .i64)) w A0 l0.length l0) (hc0 : l0.length ≤ c0) (hr1 : Kd.C k123 w A1 l1.length l1) (hc1 : l1.length ≤ c1) (h : impl_IsPiecePlan.f k l0 l1 = some (r1, r2)) :
  Calls Try.prog 48 #[.slice A0 l0.length c0, .slice A1 l1.length c1] w fun e w' => e = .returned (.tuple #[.bool r1, .bool r2]) ∧ Below w.heap.size w w' := by
 have HR0 := Aside0.mk hr0
 have HC0 := Aside0.mk hc0
 clear hr0 hc0
 have HR1 := Aside0.mk hr1
 have HC1 := Aside0.mk hc1
 clear hr1 hc1
 have HB := Aside0.mk (Below.refl w.heap.size w)
 have H : ((impl_isShop.f k l0).bind fun t837 => (if t837 = true then ((impl_isPiecePlan.f k l0 l1).bind fun t838 => (some (t838, true))) else (some (false, false)))) = some (r1, r2) := h
 clear h
 replace H := Option.bind_eq_some_iff.mp H
 obtain ⟨t837, A30, H⟩ := H
 replace H : (if t837 = true then ((impl_isPiecePlan.f k l0 l1).bind fun t838 => (some (t838, true))) else (some (false, false))) = some (r1, r2) := H
 have A3 := Aside0.mk A30
 clear A30
 by_cases c4 : t837 = true
 rotate_left
 ·replace c4 := Bool.eq_false_iff.mpr c4
  subst c4
  have H1 : (some (false, false)) = some (r1, r2) := by rw [if_neg (show ¬ (false = true) by decide)] at H; exact H
  clear H
  have H := H1
  clear H1
  simp only [Option.some.injEq, Prod.mk.injEq] at H
  obtain ⟨rfl, rfl⟩ := H
  go_enter Try.func48, Try.ntmps48
  go_wp2_with (first | ((with_reducible refine gate_callee (f := 112) rfl ?_); refine goesL_ (some 7) rfl rfl Try.func112 (by kernel_rfl) rfl #[.slice A0 l0.length c0] rfl (by (try simp only [mA_]); first | done | rfl | (simp only [List.length_drop, List.length_take]; rfl)) ?_; (with_reducible refine (impl_isShop.calls k _ _ l0 false _ ?side1 ?side2 A3.out).mono ?_); (case side1 => repeat (first | exact HR0.out | (with_reducible refine Kd.C_alloc ?_ _) | (with_reducible refine Kd.C_drewN ?_ _) | (with_reducible refine Kd.C_drew ?_))); (case side2 => exact HC0.out); rintro e w' ⟨rfl, ⟨nd, rfl⟩⟩; refine ⟨_, rfl, ?_⟩))
  go_ret2
  exact ⟨by first | rfl | (simp [errW_none, errW_some] <;> rfl) | (simp [*, errW_none, errW_some] <;> rfl), bw HB.out⟩
 subst c4
 have H1 : ((impl_isPiecePlan.f k l0 l1).bind fun t838 => (some (t838, true))) = some (r1, r2) := by rw [if_pos rfl] at H; exact H
 clear H
 have H := H1
 clear H1
 replace H := Option.bind_eq_some_iff.mp H
 obtain ⟨t838, A50, H⟩ := H
 replace H : (some (t838, true)) = some (r1, r2) := H
 have A5 := Aside0.mk A50
 clear A50
 simp only [Option.some.injEq, Prod.mk.injEq] at H
 obtain ⟨rfl, rfl⟩ := H
 go_enter Try.func48, Try.ntmps48
 go_wp2_with (first | ((with_reducible refine gate_callee (f := 112) rfl ?_); refine goesL_ (some 7) rfl rfl Try.func112 (by kernel_rfl) rfl #[.slice A0 l0.length c0] rfl (by (try simp only [mA_]); first | done | rfl | (simp only [List.length_drop, List.length_take]; rfl)) ?_; (with_reducible refine (impl_isShop.calls k _ _ l0 true _ ?side1 ?side2 A3.out).mono ?_); (case side1 => repeat (first | exact HR0.out | (with_reducible refine Kd.C_alloc ?_ _) | (with_reducible refine Kd.C_drewN ?_ _) | (with_reducible refine Kd.C_drew ?_))); (case side2 => exact HC0.out); rintro e w' ⟨rfl, ⟨nd, rfl⟩⟩; refine ⟨_, rfl, ?_⟩) | ((with_reducible refine gate_callee (f := 113) rfl ?_); refine goesL_ (some 11) rfl rfl Try.func113 (by kernel_rfl) rfl #[.slice A0 l0.length c0, .slice A1 l1.length c1] rfl (by (try simp only [mA_]); first | done | rfl | (simp only [List.length_drop, List.length_take]; rfl)) ?_; (with_reducible refine (impl_isPiecePlan.calls k _ _ l0 _ _ l1 t838 _ ?side1 ?side2 ?side3 ?side4 A5.out).mono ?_); (case side1 => repeat (first | exact HR0.out | (with_reducible refine Kd.C_alloc ?_ _) | (with_reducible refine Kd.C_drewN ?_ _) | (with_reducible refine Kd.C_drew ?_))); (case side2 => exact HC0.out); (case side3 => repeat (first | exact HR1.out | (with_reducible refine Kd.C_alloc ?_ _) | (with_reducible refine Kd.C_drewN ?_ _) | (with_reducible refine Kd.C_drew ?_))); (case side4 => exact HC1.out); rintro e w6 ⟨rfl, hb⟩; refine ⟨_, rfl, ?_⟩; have n0_ := Aside0.mk (below_step (bw HB.out) hb); replace HB := n0_; clear n0_; (try clear hb); (try clear hb2); (try clear hk); (try clear hi)))
 go_ret2
 exact ⟨by first | rfl | (simp [errW_none, errW_some] <;> rfl) | (simp [*, errW_none, errW_some] <;> rfl), bw HB.out⟩

/-! ### laws_eqShopPiece: function 114 -/
def laws_eqShopPiece.f (k : Nat) (a0_0 : Int) (l0_1 : List Int) (a1_0 : Int) (l1_1 : List Int) : Option (Bool) := if a0_0 = a1_0 then ((laws_eqIntS.f k l0_1 l1_1).bind fun t841 => (if t841 = true then (some true) else (some false))) else (some false)
theorem laws_eqShopPiece.mono : ∀ a0 a1 a2 a3 k, LeO (laws_eqShopPiece.f k a0 a1 a2 a3) (laws_eqShopPiece.f (k + 1) a0 a1 a2 a3) := by
 intro a0 a1 a2 a3 k
 unfold laws_eqShopPiece.f
 repeat' first
   | (with_reducible exact laws_eqIntS.mono _ _ _)
   | (with_reducible exact LeO.refl _)
   | (with_reducible exact LeO.none _)
   | (with_reducible refine LeO.ite ?_ ?_)
   | (with_reducible refine LeO.bind ?_ (fun _ => ?_))
   | exact laws_eqIntS.mono _ _ _
   | exact LeO.none _
   | refine LeO.ite ?_ ?_
   | refine LeO.bind ?_ (fun _ => ?_)
set_option maxHeartbeats 8000000 in
set_option maxRecDepth 100000 in
theorem laws_eqShopPiece.calls (k : Nat) (a0_0 : Int) (A0_1 : Option Addr) (c0_1 : Nat) (l0_1 : List Int) (a1_0 : Int) (A1_1 : Option Addr) (c1_1 : Nat) (l1_1 : List Int) (r : Bool) (w : World) (hr0_1 : Kd.C (Kd.int .i64) w A0_1 l0_1.length l0_1) (hc0_1 : l0_1.length ≤ c0_1) (hr1_1 : Kd.C (Kd.int .i64) w A1_1 l1_1.length l1_1) (hc1_1 : l1_1.length ≤ c1_1) (h : laws_eqShopPiece.f k a0_0 l0_1 a1_0 l1_1 = some r) :
  Calls Try.prog 114 #[.agg #[.int .i64 a0_0, .slice A0_1 l0_1.length c0_1], .agg #[.int .i64 a1_0, .slice A1_1 l1_1.length c1_1]] w fun e w' => e = .returned (.bool r) ∧ Below w.heap.size w w' := by
 have hu123 := Try.underlying123
 have HR0_1 := Aside0.mk hr0_1
 have HC0_1 := Aside0.mk hc0_1
 clear hr0_1 hc0_1
 have HR1_1 := Aside0.mk hr1_1
 have HC1_1 := Aside0.mk hc1_1
 clear hr1_1 hc1_1
 have HB := Aside0.mk (Below.refl w.heap.size w)
 have H : (if a0_0 = a1_0 then ((laws_eqIntS.f k l0_1 l1_1).bind fun t841 => (if t841 = true then (some true) else (some false))) else (some false)) = some r := h
 clear h
 by_cases c3 : a0_0 = a1_0
 rotate_left
 ·rw [if_neg c3] at H
  have c3b0 : (a0_0 == a1_0) = false := beq_eq_false_iff_ne.mpr c3
  have c3b1 : (a0_0 != a1_0) = true := bne_iff_ne.mpr c3
  obtain rfl := Option.some.inj H
  go_enter Try.func114, Try.ntmps114
  go_wp2_with (first | ((with_reducible refine gate_dst (N := 2) rfl ?_); refine box_event ?hg (N := 2) ?hd (cs := #[.int .i64 a0_0, .slice A0_1 l0_1.length c0_1]) (t := 123) ?hr ?_; (case hd => rfl); (case hg => rfl); (case hr => first | (go_simp; done) | (go_simp; rfl)); intro gb839 hg w16 hbox hb; have n0_ := Aside0.mk (below_step (bw HB.out) hb); have n1_ := Aside0.mk (hbox); have n2_ := ge_ hg HB.out; have n3_ := ge_ hg HB.out; replace HB := n0_; have BK839 := n1_; have GW839 := n2_; have GE839 := n3_; clear n0_ n1_ n2_ n3_; clear hb hbox hg) | ((with_reducible refine gate_dst (N := 3) rfl ?_); refine box_event ?hg (N := 3) ?hd (cs := #[.int .i64 a1_0, .slice A1_1 l1_1.length c1_1]) (t := 123) ?hr ?_; (case hd => rfl); (case hg => rfl); (case hr => first | (go_simp; done) | (go_simp; rfl)); intro gb840 hg w17 hbox hb; have n0_ := Aside0.mk (blk_below (bs BK839.out) hb); have n1_ := Aside0.mk (below_step (by repeat (first | (with_reducible first | exact bw HB.out | refine bset ?_ | apply bA | apply bN | apply bD) | exact HB.out)) hb); have n2_ := Aside0.mk (hbox); have n3_ := Aside0.mk ((by rw [hg]; exact (below_size (by repeat (first | (with_reducible first | exact bw HB.out | refine bset ?_ | apply bA | apply bN | apply bD) | exact HB.out))) : w.heap.size ≤ gb840)); have n4_ := Aside0.mk ((by rw [hg]; exact (below_size (by repeat (first | (with_reducible first | exact bw HB.out | refine bset ?_ | apply bA | apply bN | apply bD) | exact HB.out))) : w.heap.size ≤ gb840)); have n5_ := ne_ hg BK839.out; have n6_ := en_ hg BK839.out; replace BK839 := n0_; replace HB := n1_; have BK840 := n2_; have GW840 := n3_; have GE840 := n4_; have NB839_840 := n5_; have NB840_839 := n6_; clear n0_ n1_ n2_ n3_ n4_ n5_ n6_; clear hb hbox hg; have hnb18 := NB839_840.out; have hnc18 := NB840_839.out; obtain ⟨hcz19_0, hcz19_1, hfz19_0, hfz19_1⟩ := bz2 BK839.out; obtain ⟨hcz20_0, hcz20_1, hfz20_0, hfz20_1⟩ := bz2 BK840.out))
  go_ret
  exact ⟨by first | rfl | (simp [errW_none, errW_some] <;> rfl) | (simp [*, errW_none, errW_some] <;> rfl), by repeat (first | (with_reducible first | exact bw HB.out | refine bset ?_ | apply bA | apply bN | apply bD) | exact HB.out)⟩
 rw [if_pos c3] at H
 have c3b0 : (a0_0 == a1_0) = true := beq_iff_eq.mpr c3
 have c3b1 : (a0_0 != a1_0) = false := bne_eq_false_iff_eq.mpr c3
 clear c3
 replace H := Option.bind_eq_some_iff.mp H
 obtain ⟨t841, A40, H⟩ := H
 replace H : (if t841 = true then (some true) else (some false)) = some r := H
 have A4 := Aside0.mk A40
 clear A40
 by_cases c5 : t841 = true
 ·subst c5
  have H1 : (some true) = some r := by rw [if_pos rfl] at H; exact H
  clear H
  have H := H1
  clear H1
  obtain rfl := Option.some.inj H
  go_enter Try.func114, Try.ntmps114
  go_wp2_with (first | ((with_reducible refine gate_dst (N := 2) rfl ?_); refine box_event ?hg (N := 2) ?hd (cs := #[.int .i64 a0_0, .slice A0_1 l0_1.length c0_1]) (t := 123) ?hr ?_; (case hd => rfl); (case hg => rfl); (case hr => first | (go_simp; done) | (go_simp; rfl)); intro gb839 hg w6 hbox hb; have n0_ := Aside0.mk (below_step (bw HB.out) hb); have n1_ := Aside0.mk (hbox); have n2_ := ge_ hg HB.out; have n3_ := ge_ hg HB.out; replace HB := n0_; have BK839 := n1_; have GW839 := n2_; have GE839 := n3_; clear n0_ n1_ n2_ n3_; clear hb hbox hg) | ((with_reducible refine gate_dst (N := 3) rfl ?_); refine box_event ?hg (N := 3) ?hd (cs := #[.int .i64 a1_0, .slice A1_1 l1_1.length c1_1]) (t := 123) ?hr ?_; (case hd => rfl); (case hg => rfl); (case hr => first | (go_simp; done) | (go_simp; rfl)); intro gb840 hg w7 hbox hb; have n0_ := Aside0.mk (blk_below (bs BK839.out) hb); have n1_ := Aside0.mk (below_step (by repeat (first | (with_reducible first | exact bw HB.out | refine bset ?_ | apply bA | apply bN | apply bD) | exact HB.out)) hb); have n2_ := Aside0.mk (hbox); have n3_ := Aside0.mk ((by rw [hg]; exact (below_size (by repeat (first | (with_reducible first | exact bw HB.out | refine bset ?_ | apply bA | apply bN | apply bD) | exact HB.out))) : w.heap.size ≤ gb840)); have n4_ := Aside0.mk ((by rw [hg]; exact (below_size (by repeat (first | (with_reducible first | exact bw HB.out | refine bset ?_ | apply bA | apply bN | apply bD) | exact HB.out))) : w.heap.size ≤ gb840)); have n5_ := ne_ hg BK839.out; have n6_ := en_ hg BK839.out; replace BK839 := n0_; replace HB := n1_; have BK840 := n2_; have GW840 := n3_; have GE840 := n4_; have NB839_840 := n5_; have NB840_839 := n6_; clear n0_ n1_ n2_ n3_ n4_ n5_ n6_; clear hb hbox hg; have hnb8 := NB839_840.out; have hnc8 := NB840_839.out; obtain ⟨hcz9_0, hcz9_1, hfz9_0, hfz9_1⟩ := bz2 BK839.out; obtain ⟨hcz10_0, hcz10_1, hfz10_0, hfz10_1⟩ := bz2 BK840.out) | ((with_reducible refine gate_callee (f := 21) rfl ?_); refine goesL_ (some 14) rfl rfl Try.func21 (by kernel_rfl) rfl #[.slice A0_1 l0_1.length c0_1, .slice A1_1 l1_1.length c1_1] rfl (by (try simp only [mA_]); first | done | rfl | (simp only [List.length_drop, List.length_take]; rfl)) ?_; (with_reducible refine (laws_eqIntS.calls k _ _ l0_1 _ _ l1_1 true _ ?side1 ?side2 ?side3 ?side4 A4.out).mono ?_); (case side1 => first | exact bC HR0_1.out HB.out | exact Kd.C_below HR0_1.out HB.out); (case side2 => exact HC0_1.out); (case side3 => first | exact bC HR1_1.out HB.out | exact Kd.C_below HR1_1.out HB.out); (case side4 => exact HC1_1.out); rintro e w' ⟨rfl, ⟨nd, rfl⟩⟩; refine ⟨_, rfl, ?_⟩))
  go_ret
  exact ⟨by first | rfl | (simp [errW_none, errW_some] <;> rfl) | (simp [*, errW_none, errW_some] <;> rfl), by repeat (first | (with_reducible first | exact bw HB.out | refine bset ?_ | apply bA | apply bN | apply bD) | exact HB.out)⟩
 replace c5 := Bool.eq_false_iff.mpr c5
 subst c5
 have H1 : (some false) = some r := by rw [if_neg (show ¬ (false = true) by decide)] at H; exact H
 clear H
 have H := H1
 clear H1
 obtain rfl := Option.some.inj H
 go_enter Try.func114, Try.ntmps114
 go_wp2_with (first | ((with_reducible refine gate_dst (N := 2) rfl ?_); refine box_event ?hg (N := 2) ?hd (cs := #[.int .i64 a0_0, .slice A0_1 l0_1.length c0_1]) (t := 123) ?hr ?_; (case hd => rfl); (case hg => rfl); (case hr => first | (go_simp; done) | (go_simp; rfl)); intro gb839 hg w11 hbox hb; have n0_ := Aside0.mk (below_step (bw HB.out) hb); have n1_ := Aside0.mk (hbox); have n2_ := ge_ hg HB.out; have n3_ := ge_ hg HB.out; replace HB := n0_; have BK839 := n1_; have GW839 := n2_; have GE839 := n3_; clear n0_ n1_ n2_ n3_; clear hb hbox hg) | ((with_reducible refine gate_dst (N := 3) rfl ?_); refine box_event ?hg (N := 3) ?hd (cs := #[.int .i64 a1_0, .slice A1_1 l1_1.length c1_1]) (t := 123) ?hr ?_; (case hd => rfl); (case hg => rfl); (case hr => first | (go_simp; done) | (go_simp; rfl)); intro gb840 hg w12 hbox hb; have n0_ := Aside0.mk (blk_below (bs BK839.out) hb); have n1_ := Aside0.mk (below_step (by repeat (first | (with_reducible first | exact bw HB.out | refine bset ?_ | apply bA | apply bN | apply bD) | exact HB.out)) hb); have n2_ := Aside0.mk (hbox); have n3_ := Aside0.mk ((by rw [hg]; exact (below_size (by repeat (first | (with_reducible first | exact bw HB.out | refine bset ?_ | apply bA | apply bN | apply bD) | exact HB.out))) : w.heap.size ≤ gb840)); have n4_ := Aside0.mk ((by rw [hg]; exact (below_size (by repeat (first | (with_reducible first | exact bw HB.out | refine bset ?_ | apply bA | apply bN | apply bD) | exact HB.out))) : w.heap.size ≤ gb840)); have n5_ := ne_ hg BK839.out; have n6_ := en_ hg BK839.out; replace BK839 := n0_; replace HB := n1_; have BK840 := n2_; have GW840 := n3_; have GE840 := n4_; have NB839_840 := n5_; have NB840_839 := n6_; clear n0_ n1_ n2_ n3_ n4_ n5_ n6_; clear hb hbox hg; have hnb13 := NB839_840.out; have hnc13 := NB840_839.out; obtain ⟨hcz14_0, hcz14_1, hfz14_0, hfz14_1⟩ := bz2 BK839.out; obtain ⟨hcz15_0, hcz15_1, hfz15_0, hfz15_1⟩ := bz2 BK840.out) | ((with_reducible refine gate_callee (f := 21) rfl ?_); refine goesL_ (some 14) rfl rfl Try.func21 (by kernel_rfl) rfl #[.slice A0_1 l0_1.length c0_1, .slice A1_1 l1_1.length c1_1] rfl (by (try simp only [mA_]); first | done | rfl | (simp only [List.length_drop, List.length_take]; rfl)) ?_; (with_reducible refine (laws_eqIntS.calls k _ _ l0_1 _ _ l1_1 false _ ?side1 ?side2 ?side3 ?side4 A4.out).mono ?_); (case side1 => first | exact bC HR0_1.out HB.out | exact Kd.C_below HR0_1.out HB.out); (case side2 => exact HC0_1.out); (case side3 => first | exact bC HR1_1.out HB.out | exact Kd.C_below HR1_1.out HB.out); (case side4 => exact HC1_1.out); rintro e w' ⟨rfl, ⟨nd, rfl⟩⟩; refine ⟨_, rfl, ?_⟩))
 go_ret
 exact ⟨by first | rfl | (simp [errW_none, errW_some] <;> rfl) | (simp [*, errW_none, errW_some] <;> rfl), by repeat (first | (with_reducible first | exact bw HB.out | refine bset ?_ | apply bA | apply bN | apply bD) | exact HB.out)⟩

/-! ### laws_eqShopPieceS: function 49 -/
abbrev q49_0 : Array Bool := ⟨rl_ [10] false⟩
abbrev q49_7 : Array Bool := ⟨rl_ [7, 3] true⟩
abbrev q49_8 : Array Bool := ⟨rl_ [8, 2] true⟩
abbrev q49_9 : Array Bool := ⟨rl_ [9, 1] true⟩
def laws_eqShopPieceS.l0 : Nat → List (S123) → List (S123) → Int → Option (Bool)
 | 0, _, _, _ => none
 | k + 1, x0, x1, x5 => if x5 < (x0.length : Int) then (if 0 ≤ x5 then (if x5 < (x1.length : Int) then ((laws_eqShopPiece.f k ((rd_T123 x0 x5).f0) ((rd_T123 x0 x5).f1) ((rd_T123 x1 x5).f0) ((rd_T123 x1 x5).f1)).bind fun t844 => (if t844 = true then (laws_eqShopPieceS.l0 k x0 x1 (wrap64 (x5 + 1))) else (some false))) else (none)) else (none)) else (some true)
def laws_eqShopPieceS.f (k : Nat) (l0 : List (S123)) (l1 : List (S123)) : Option (Bool) := if (l0.length : Int) = (l1.length : Int) then (laws_eqShopPieceS.l0 k l0 l1 0) else (some false)
theorem laws_eqShopPieceS.mono_l : ∀ k, (∀ y0 y1 y2, LeO (laws_eqShopPieceS.l0 k y0 y1 y2) (laws_eqShopPieceS.l0 (k + 1) y0 y1 y2))
 | 0 => fun _ _ _ r h => by simp [laws_eqShopPieceS.l0] at h
 | k + 1 => by
  have ih0 := laws_eqShopPieceS.mono_l k
  ·intro y0 y1 y2
   unfold laws_eqShopPieceS.l0
   repeat' first
   | (with_reducible exact ih0 _ _ _)
   | (with_reducible exact laws_eqShopPiece.mono _ _ _ _ _)
   | (with_reducible exact LeO.refl _)
   | (with_reducible exact LeO.none _)
   | (with_reducible refine LeO.ite ?_ ?_)
   | (with_reducible refine LeO.bind ?_ (fun _ => ?_))
   | exact ih0 _ _ _
   | exact laws_eqShopPiece.mono _ _ _ _ _
   | exact LeO.none _
   | refine LeO.ite ?_ ?_
   | refine LeO.bind ?_ (fun _ => ?_)
theorem laws_eqShopPieceS.mono : ∀ a0 a1 k, LeO (laws_eqShopPieceS.f k a0 a1) (laws_eqShopPieceS.f (k + 1) a0 a1) := by
 intro a0 a1 k
 have ih0 := laws_eqShopPieceS.mono_l k
 unfold laws_eqShopPieceS.f
 repeat' first
   | (with_reducible exact ih0 _ _ _)
   | (with_reducible exact laws_eqShopPiece.mono _ _ _ _ _)
   | (with_reducible exact LeO.refl _)
   | (with_reducible exact LeO.none _)
   | (with_reducible refine LeO.ite ?_ ?_)
   | (with_reducible refine LeO.bind ?_ (fun _ => ?_))
   | exact ih0 _ _ _
   | exact laws_eqShopPiece.mono _ _ _ _ _
   | exact LeO.none _
   | refine LeO.ite ?_ ?_
   | refine LeO.bind ?_ (fun _ => ?_)
def laws_eqShopPieceS.T6 : Bool × List (List Nat × List Nat) := (true, [([], []), ([], []), ([0, 1], [0, 1]), ([2], [2]), ([], []), ([], []), ([4, 5], [4, 5]), ([6], [6]), ([3, 7], [3, 7]), ([8], [8])])
def laws_eqShopPieceS.B6 : List Nat := [0, 0, 3, 7, 0, 0, 48, 112, 255, 511]
theorem laws_eqShopPieceS.tab6 : rtab .any (opsOf Try.f49 6) = laws_eqShopPieceS.T6 := by kernel_rfl
theorem laws_eqShopPieceS.bits6 : waitsOk laws_eqShopPieceS.T6.2 laws_eqShopPieceS.B6 = true := by kernel_rfl
set_option maxHeartbeats 8000000 in
set_option maxRecDepth 100000 in
theorem laws_eqShopPieceS.calls (k : Nat) (A0 : Option Addr) (c0 : Nat) (l0 : List (S123)) (A1 : Option Addr) (c1 : Nat) (l1 : List (S123)) (r : Bool) (w : World) (hr0 : Kd.C k123 w A0 l0.length l0) (hc0 : l0.length ≤ c0) (hr1 : Kd.C k123 w A1 l1.length l1) (hc1 : l1.length ≤ c1) (h : laws_eqShopPieceS.f k l0 l1 = some r) :
  Calls Try.prog 49 #[.slice A0 l0.length c0, .slice A1 l1.length c1] w fun e w' => e = .returned (.bool r) ∧ Below w.heap.size w w' := by
 have hu123 := Try.underlying123
 have HR0 := Aside0.mk hr0
 have HC0 := Aside0.mk hc0
 clear hr0 hc0
 have HR1 := Aside0.mk hr1
 have HC1 := Aside0.mk hc1
 clear hr1 hc1
 have HB := Aside0.mk (Below.refl w.heap.size w)
 have H : (if (l0.length : Int) = (l1.length : Int) then (laws_eqShopPieceS.l0 k l0 l1 0) else (some false)) = some r := h
 clear h
 by_cases c3 : (l0.length : Int) = (l1.length : Int)
 rotate_left
 ·rw [if_neg c3] at H
  have c3b0 : ((l0.length : Int) == (l1.length : Int)) = false := beq_eq_false_iff_ne.mpr c3
  have c3b1 : ((l0.length : Int) != (l1.length : Int)) = true := bne_iff_ne.mpr c3
  have c3b2 : (l0.length == l1.length) = false := by first | simpa using c3 | (simp at c3 ⊢; omega)
  obtain rfl := Option.some.inj H
  go_enter Try.func49, Try.ntmps49
  go_wp2
  go_ret
  exact ⟨by first | rfl | (simp [errW_none, errW_some] <;> rfl) | (simp [*, errW_none, errW_some] <;> rfl), bw HB.out⟩
 rw [if_pos c3] at H
 have c3b0 : ((l0.length : Int) == (l1.length : Int)) = true := beq_iff_eq.mpr c3
 have c3b1 : ((l0.length : Int) != (l1.length : Int)) = false := bne_eq_false_iff_eq.mpr c3
 have c3b2 : (l0.length == l1.length) = true := by first | simpa using c3 | (simp at c3 ⊢; omega)
 clear c3
 have H' := Aside0.mk H
 clear H
 go_enter Try.func49, Try.ntmps49
 go_wp2
 go_loopg [5] k (fun kq v5 w' => ∃ (x5_1 : Int), v5 = .int .i64 x5_1 ∧ Aside0 (laws_eqShopPieceS.l0 kq l0 l1 x5_1 = some r) ∧ Aside0 (kq ≤ k) ∧ Aside0 (Below w.heap.size w w'))
 case atStart => exact ⟨(0), (by first | rfl | (simp; done) | (simp [*]; done)), H', ⟨Nat.le_refl _⟩, ⟨bw HB.out⟩⟩
 case round =>
  clear H'
  try clear c1
  try clear p2
  try clear c3
  try clear c3b0
  try clear c3b1
  try clear c3b2
  obtain ⟨x5_1, rfl, HA, HK1, HB⟩ := hrel
  cases gk with
  | zero => exact absurd HA.out (by simp [laws_eqShopPieceS.l0])
  | succ k1 =>
   have H := HA.out
   clear HA
   simp only [laws_eqShopPieceS.l0] at H
   by_cases c4 : x5_1 < (l0.length : Int)
   rotate_left
   ·rw [if_neg c4] at H
    have c4b0 : decide (x5_1 < (l0.length : Int)) = false := decide_eq_false c4
    clear c4
    obtain rfl := Option.some.inj H
    go_wp2
    go_ret
    exact ⟨by first | rfl | (simp [errW_none, errW_some] <;> rfl) | (simp [*, errW_none, errW_some] <;> rfl), bw HB.out⟩
   rw [if_pos c4] at H
   have c4b0 : decide (x5_1 < (l0.length : Int)) = true := decide_eq_true c4
   clear c4
   by_cases c5 : 0 ≤ x5_1
   rotate_left
   ·rw [if_neg c5] at H
    exact absurd H (by simp)
   rw [if_pos c5] at H
   have c5b0 : decide (0 ≤ x5_1) = true := decide_eq_true c5
   clear c5
   by_cases c6 : x5_1 < (l1.length : Int)
   rotate_left
   ·rw [if_neg c6] at H
    exact absurd H (by simp)
   rw [if_pos c6] at H
   have c6b0 : decide (x5_1 < (l1.length : Int)) = true := decide_eq_true c6
   clear c6
   replace H := Option.bind_eq_some_iff.mp H
   obtain ⟨t844, A70, H⟩ := H
   replace H : (if t844 = true then (laws_eqShopPieceS.l0 k1 l0 l1 (wrap64 (x5_1 + 1))) else (some false)) = some r := H
   have A7 := Aside0.mk A70
   clear A70
   by_cases c8 : t844 = true
   rotate_left
   ·replace c8 := Bool.eq_false_iff.mpr c8
    subst c8
    have H1 : (some false) = some r := by rw [if_neg (show ¬ (false = true) by decide)] at H; exact H
    clear H
    have H := H1
    clear H1
    obtain rfl := Option.some.inj H
    try go_wp2
    have n0_ := Aside0.mk (below_drew1 HB.out)
    replace HB := n0_
    clear n0_
    have p842 : 0 ≤ (x5_1 : Int) := of_decide_eq_true (by first | (with_reducible assumption) | assumption)
    have q842 : x5_1 < (l0.length : Int) := of_decide_eq_true (by first | (with_reducible assumption) | assumption)
    obtain ⟨ad842, A842_1, c842_1, e842, hx842_0, hx842_1, hl842_1, hi842_1⟩ := at_T123 HR0.out x5_1 p842 q842
    have hw842_1 := hx842_1
    have hw842_0 := hx842_0
    cases e842
    replace hx842_0 := (HB.out.cell (World.block_lt_of_cell? w _ hx842_0)).trans hx842_0
    replace hx842_1 := (HB.out.cell (World.block_lt_of_cell? w _ hx842_1)).trans hx842_1
    have HR842_1 := Aside0.mk hi842_1
    have HC842_1 := Aside0.mk hl842_1
    clear hi842_1 hl842_1
    replace p842 := eq_true p842
    replace q842 := eq_true q842
    have p843 : 0 ≤ (x5_1 : Int) := of_decide_eq_true (by first | (with_reducible assumption) | assumption)
    have q843 : x5_1 < (l1.length : Int) := of_decide_eq_true (by first | (with_reducible assumption) | assumption)
    obtain ⟨ad843, A843_1, c843_1, e843, hx843_0, hx843_1, hl843_1, hi843_1⟩ := at_T123 HR1.out x5_1 p843 q843
    have hw843_1 := hx843_1
    have hw843_0 := hx843_0
    cases e843
    replace hx843_0 := (HB.out.cell (World.block_lt_of_cell? w _ hx843_0)).trans hx843_0
    replace hx843_1 := (HB.out.cell (World.block_lt_of_cell? w _ hx843_1)).trans hx843_1
    have HR843_1 := Aside0.mk hi843_1
    have HC843_1 := Aside0.mk hl843_1
    clear hi843_1 hl843_1
    replace p843 := eq_true p843
    replace q843 := eq_true q843
    refine start_ (n := 10) (S := fun w' => w'.cell? (ad842.add ((x5_1).toNat * 2)) = some (.int .i64 ((rd_T123 l0 x5_1).f0)) ∧ w'.cell? ⟨(ad842.add ((x5_1).toNat * 2)).block, (ad842.add ((x5_1).toNat * 2)).off + 1, none⟩ = some (.slice A842_1 ((rd_T123 l0 x5_1).f1).length c842_1) ∧ w'.cell? (ad843.add ((x5_1).toNat * 2)) = some (.int .i64 ((rd_T123 l1 x5_1).f0)) ∧ w'.cell? ⟨(ad843.add ((x5_1).toNat * 2)).block, (ad843.add ((x5_1).toNat * 2)).off + 1, none⟩ = some (.slice A843_1 ((rd_T123 l1 x5_1).f1).length c843_1)) (ds := []) q49_0 (by kernel_rfl) rfl rfl ⟨(bcl_ HB.out hw842_0 :), (bcl_ HB.out hw842_1 :), (bcl_ HB.out hw843_0 :), (bcl_ HB.out hw843_1 :)⟩ (fun hHeld => ?_); refine with_tabW laws_eqShopPieceS.tab6 laws_eqShopPieceS.bits6 (fun HT_ HW_ => ?_)
    generalize wr.drew = w11 at HB HR842_1 HR843_1 hx842_0 hx842_1 hx843_0 hx843_1 hHeld ⊢
    refine pup_ (i := 0) (N := some 17) HT_ rfl rfl (by kernel_rfl) (fun _ _ _ h => h) (Or.inl ⟨by rfl, by intro w'; go_simp; with_reducible rfl⟩) (by simp only [aq_]; rfl) ?_
    refine pup_ (i := 1) (N := some 18) HT_ rfl rfl (by kernel_rfl) (fun _ _ _ h => h) (Or.inl ⟨by rfl, by intro w'; go_simp; with_reducible rfl⟩) (by simp only [aq_]; rfl) ?_
    refine pup_ (i := 2) (N := some 19) HT_ rfl rfl (by kernel_rfl) (fun _ _ _ h => h) (Or.inl ⟨by rfl, by intro w'; go_simp; with_reducible rfl⟩) (by simp only [aq_]; rfl) ?_
    refine pup_ (i := 4) (N := some 21) HT_ rfl rfl (by kernel_rfl) (fun _ _ _ h => h) (Or.inl ⟨by rfl, by intro w'; go_simp; with_reducible rfl⟩) (by simp only [aq_]; rfl) ?_
    refine pup_ (i := 5) (N := some 22) HT_ rfl rfl (by kernel_rfl) (fun _ _ _ h => h) (Or.inl ⟨by rfl, by intro w'; go_simp; with_reducible rfl⟩) (by simp only [aq_]; rfl) ?_
    refine pup_ (i := 6) (N := some 23) HT_ rfl rfl (by kernel_rfl) (fun _ _ _ h => h) (Or.inl ⟨by rfl, by intro w'; go_simp; with_reducible rfl⟩) (by simp only [aq_]; rfl) ?_
    refine take_ (i := 3) (N := some 20) (v := ?_) (a' := ?_) q49_7 rfl rfl (take_ofW HT_.out HW_.out (by kernel_rfl)) (fun _ _ _ h => h) (Or.inl ⟨by rfl, ?_⟩) hHeld ?_ ?_
    rotate_left
    ·rintro w' ⟨s0, s1, s2, s3⟩
     go_simp
     with_reducible rfl
    rotate_left
    ·simp only [aq_]
     rfl
    refine take_ (i := 7) (N := some 24) (v := ?_) (a' := ?_) q49_8 rfl rfl (take_ofW HT_.out HW_.out (by kernel_rfl)) (fun _ _ _ h => h) (Or.inl ⟨by rfl, ?_⟩) hHeld ?_ ?_
    rotate_left
    ·rintro w' ⟨s0, s1, s2, s3⟩
     go_simp
     with_reducible rfl
    rotate_left
    ·simp only [aq_]
     rfl
    refine one_ (i := 8) (N := some 25) q49_9 rfl rfl (one_of HT_.out (by kernel_rfl)) (by decide) (fun K hK => ?_)
    refine goes_ Try.func114 (by kernel_rfl) rfl #[.agg #[.int .i64 ((rd_T123 l0 x5_1).f0), .slice A842_1 ((rd_T123 l0 x5_1).f1).length c842_1], .agg #[.int .i64 ((rd_T123 l1 x5_1).f0), .slice A843_1 ((rd_T123 l1 x5_1).f1).length c843_1]] (by rfl) rfl rfl (by (try simp only [mA_]); first | done | rfl | (simp only [List.length_drop, List.length_take]; rfl)) ?_
    with_reducible refine (laws_eqShopPiece.calls k1 ((rd_T123 l0 x5_1).f0) _ _ ((rd_T123 l0 x5_1).f1) ((rd_T123 l1 x5_1).f0) _ _ ((rd_T123 l1 x5_1).f1) false _ ?side1 ?side2 ?side3 ?side4 A7.out).mono ?_
    (case side1 => first | exact bC HR842_1.out HB.out | exact Kd.C_below HR842_1.out HB.out)
    (case side2 => exact HC842_1.out)
    (case side3 => first | exact bC HR843_1.out HB.out | exact Kd.C_below HR843_1.out HB.out)
    (case side4 => exact HC843_1.out)
    rintro e w12 ⟨rfl, hb⟩
    refine ⟨_, rfl, ?_⟩
    have n0_ := Aside0.mk (below_step (bw HB.out) hb)
    replace HB := n0_
    clear n0_
    (try clear hb)
    (try clear hb2)
    (try clear hk)
    (try clear hi)
    refine hK.out _ _ ⟨(bcl_ HB.out hw842_0 :), (bcl_ HB.out hw842_1 :), (bcl_ HB.out hw843_0 :), (bcl_ HB.out hw843_1 :)⟩ (fun hHeld => ?_)
    clear hK K
    refine norm_ (a' := ?_) ?_ ?_
    rotate_left
    ·show Act.put _ (some 25) _ = _
     simp only [aq_]
     rfl
    refine pup_ (i := 9) (N := some 26) HT_ rfl rfl (by kernel_rfl) (fun _ _ _ h => h) (Or.inl ⟨by rfl, by intro w'; go_simp; with_reducible rfl⟩) (by simp only [aq_]; rfl) ?_
    refine done_ (done_of HT_.out (by kernel_rfl)) ?_
    try go_wp2
    go_ret
    exact ⟨by first | rfl | (simp [errW_none, errW_some] <;> rfl) | (simp [*, errW_none, errW_some] <;> rfl), bw HB.out⟩
   subst c8
   have H1 : (laws_eqShopPieceS.l0 k1 l0 l1 (wrap64 (x5_1 + 1))) = some r := by rw [if_pos rfl] at H; exact H
   clear H
   have H := H1
   clear H1
   have H' := Aside0.mk H
   clear H
   try go_wp2
   have n0_ := Aside0.mk (below_drew1 HB.out)
   replace HB := n0_
   clear n0_
   have p842 : 0 ≤ (x5_1 : Int) := of_decide_eq_true (by first | (with_reducible assumption) | assumption)
   have q842 : x5_1 < (l0.length : Int) := of_decide_eq_true (by first | (with_reducible assumption) | assumption)
   obtain ⟨ad842, A842_1, c842_1, e842, hx842_0, hx842_1, hl842_1, hi842_1⟩ := at_T123 HR0.out x5_1 p842 q842
   have hw842_1 := hx842_1
   have hw842_0 := hx842_0
   cases e842
   replace hx842_0 := (HB.out.cell (World.block_lt_of_cell? w _ hx842_0)).trans hx842_0
   replace hx842_1 := (HB.out.cell (World.block_lt_of_cell? w _ hx842_1)).trans hx842_1
   have HR842_1 := Aside0.mk hi842_1
   have HC842_1 := Aside0.mk hl842_1
   clear hi842_1 hl842_1
   replace p842 := eq_true p842
   replace q842 := eq_true q842
   have p843 : 0 ≤ (x5_1 : Int) := of_decide_eq_true (by first | (with_reducible assumption) | assumption)
   have q843 : x5_1 < (l1.length : Int) := of_decide_eq_true (by first | (with_reducible assumption) | assumption)
   obtain ⟨ad843, A843_1, c843_1, e843, hx843_0, hx843_1, hl843_1, hi843_1⟩ := at_T123 HR1.out x5_1 p843 q843
   have hw843_1 := hx843_1
   have hw843_0 := hx843_0
   cases e843
   replace hx843_0 := (HB.out.cell (World.block_lt_of_cell? w _ hx843_0)).trans hx843_0
   replace hx843_1 := (HB.out.cell (World.block_lt_of_cell? w _ hx843_1)).trans hx843_1
   have HR843_1 := Aside0.mk hi843_1
   have HC843_1 := Aside0.mk hl843_1
   clear hi843_1 hl843_1
   replace p843 := eq_true p843
   replace q843 := eq_true q843
   refine start_ (n := 10) (S := fun w' => w'.cell? (ad842.add ((x5_1).toNat * 2)) = some (.int .i64 ((rd_T123 l0 x5_1).f0)) ∧ w'.cell? ⟨(ad842.add ((x5_1).toNat * 2)).block, (ad842.add ((x5_1).toNat * 2)).off + 1, none⟩ = some (.slice A842_1 ((rd_T123 l0 x5_1).f1).length c842_1) ∧ w'.cell? (ad843.add ((x5_1).toNat * 2)) = some (.int .i64 ((rd_T123 l1 x5_1).f0)) ∧ w'.cell? ⟨(ad843.add ((x5_1).toNat * 2)).block, (ad843.add ((x5_1).toNat * 2)).off + 1, none⟩ = some (.slice A843_1 ((rd_T123 l1 x5_1).f1).length c843_1)) (ds := []) q49_0 (by kernel_rfl) rfl rfl ⟨(bcl_ HB.out hw842_0 :), (bcl_ HB.out hw842_1 :), (bcl_ HB.out hw843_0 :), (bcl_ HB.out hw843_1 :)⟩ (fun hHeld => ?_); refine with_tabW laws_eqShopPieceS.tab6 laws_eqShopPieceS.bits6 (fun HT_ HW_ => ?_)
   generalize wr.drew = w9 at HB HR842_1 HR843_1 hx842_0 hx842_1 hx843_0 hx843_1 hHeld ⊢
   refine pup_ (i := 0) (N := some 17) HT_ rfl rfl (by kernel_rfl) (fun _ _ _ h => h) (Or.inl ⟨by rfl, by intro w'; go_simp; with_reducible rfl⟩) (by simp only [aq_]; rfl) ?_
   refine pup_ (i := 1) (N := some 18) HT_ rfl rfl (by kernel_rfl) (fun _ _ _ h => h) (Or.inl ⟨by rfl, by intro w'; go_simp; with_reducible rfl⟩) (by simp only [aq_]; rfl) ?_
   refine pup_ (i := 2) (N := some 19) HT_ rfl rfl (by kernel_rfl) (fun _ _ _ h => h) (Or.inl ⟨by rfl, by intro w'; go_simp; with_reducible rfl⟩) (by simp only [aq_]; rfl) ?_
   refine pup_ (i := 4) (N := some 21) HT_ rfl rfl (by kernel_rfl) (fun _ _ _ h => h) (Or.inl ⟨by rfl, by intro w'; go_simp; with_reducible rfl⟩) (by simp only [aq_]; rfl) ?_
   refine pup_ (i := 5) (N := some 22) HT_ rfl rfl (by kernel_rfl) (fun _ _ _ h => h) (Or.inl ⟨by rfl, by intro w'; go_simp; with_reducible rfl⟩) (by simp only [aq_]; rfl) ?_
   refine pup_ (i := 6) (N := some 23) HT_ rfl rfl (by kernel_rfl) (fun _ _ _ h => h) (Or.inl ⟨by rfl, by intro w'; go_simp; with_reducible rfl⟩) (by simp only [aq_]; rfl) ?_
   refine take_ (i := 3) (N := some 20) (v := ?_) (a' := ?_) q49_7 rfl rfl (take_ofW HT_.out HW_.out (by kernel_rfl)) (fun _ _ _ h => h) (Or.inl ⟨by rfl, ?_⟩) hHeld ?_ ?_
   rotate_left
   ·rintro w' ⟨s0, s1, s2, s3⟩
    go_simp
    with_reducible rfl
   rotate_left
   ·simp only [aq_]
    rfl
   refine take_ (i := 7) (N := some 24) (v := ?_) (a' := ?_) q49_8 rfl rfl (take_ofW HT_.out HW_.out (by kernel_rfl)) (fun _ _ _ h => h) (Or.inl ⟨by rfl, ?_⟩) hHeld ?_ ?_
   rotate_left
   ·rintro w' ⟨s0, s1, s2, s3⟩
    go_simp
    with_reducible rfl
   rotate_left
   ·simp only [aq_]
    rfl
   refine one_ (i := 8) (N := some 25) q49_9 rfl rfl (one_of HT_.out (by kernel_rfl)) (by decide) (fun K hK => ?_)
   refine goes_ Try.func114 (by kernel_rfl) rfl #[.agg #[.int .i64 ((rd_T123 l0 x5_1).f0), .slice A842_1 ((rd_T123 l0 x5_1).f1).length c842_1], .agg #[.int .i64 ((rd_T123 l1 x5_1).f0), .slice A843_1 ((rd_T123 l1 x5_1).f1).length c843_1]] (by rfl) rfl rfl (by (try simp only [mA_]); first | done | rfl | (simp only [List.length_drop, List.length_take]; rfl)) ?_
   with_reducible refine (laws_eqShopPiece.calls k1 ((rd_T123 l0 x5_1).f0) _ _ ((rd_T123 l0 x5_1).f1) ((rd_T123 l1 x5_1).f0) _ _ ((rd_T123 l1 x5_1).f1) true _ ?side1 ?side2 ?side3 ?side4 A7.out).mono ?_
   (case side1 => first | exact bC HR842_1.out HB.out | exact Kd.C_below HR842_1.out HB.out)
   (case side2 => exact HC842_1.out)
   (case side3 => first | exact bC HR843_1.out HB.out | exact Kd.C_below HR843_1.out HB.out)
   (case side4 => exact HC843_1.out)
   rintro e w10 ⟨rfl, hb⟩
   refine ⟨_, rfl, ?_⟩
   have n0_ := Aside0.mk (below_step (bw HB.out) hb)
   replace HB := n0_
   clear n0_
   (try clear hb)
   (try clear hb2)
   (try clear hk)
   (try clear hi)
   refine hK.out _ _ ⟨(bcl_ HB.out hw842_0 :), (bcl_ HB.out hw842_1 :), (bcl_ HB.out hw843_0 :), (bcl_ HB.out hw843_1 :)⟩ (fun hHeld => ?_)
   clear hK K
   refine norm_ (a' := ?_) ?_ ?_
   rotate_left
   ·show Act.put _ (some 25) _ = _
    simp only [aq_]
    rfl
   refine pup_ (i := 9) (N := some 26) HT_ rfl rfl (by kernel_rfl) (fun _ _ _ h => h) (Or.inl ⟨by rfl, by intro w'; go_simp; with_reducible rfl⟩) (by simp only [aq_]; rfl) ?_
   refine done_ (done_of HT_.out (by kernel_rfl)) ?_
   try go_wp2
   go_roundg k1
   case measure => have := HK1.out; omega
   case rel => exact ⟨(wrap64 (x5_1 + 1)), (by first | rfl | (simp; done) | (simp [*]; done)), H', ⟨by have := HK1.out; omega⟩, ⟨bw HB.out⟩⟩

/-! ### laws_FnExactIsPiecePlan: function 8 -/
def laws_FnExactIsPiecePlan.j0 : Nat → List (List Int) → List (S119) → List (List Int) → List (S123) → Bool → Option (Bool)
 | 0, _, _, _, _, _ => none
 | k + 1, x0, x1, x8, x9, x47 => if x47 = true then (some false) else ((laws_toIntSS.f k x0).bind fun t863 => ((laws_eqIntSS.f k x8 t863).bind fun t866 => (if t866 = true then ((laws_toShopPieceS.f k x1).bind fun t867 => ((laws_eqShopPieceS.f k x9 t867).bind fun t870 => (if t870 = true then (some true) else (some false)))) else (some false))))
def laws_FnExactIsPiecePlan.f (k : Nat) (l0 : List (List Int)) (l1 : List (S119)) : Option (Bool) := (laws_szIntSS.f k l0 1048576).bind fun t845 => (if t845 < 0 then (some true) else ((laws_szShopPieceS.f k l1 t845).bind fun t846 => (if t846 < 0 then (some true) else ((laws_toIntSS.f k l0).bind fun t847 => ((laws_toShopPieceS.f k l1).bind fun t850 => ((spec_IsPiecePlan.f k t847 t850).bind fun bt853 => ((laws_toIntSS.f k l0).bind fun t855 => ((laws_toShopPieceS.f k l1).bind fun t858 => ((impl_IsPiecePlan.f k t855 t858).bind fun bt861 => (if (bt861.1 != bt853.1) = true then (laws_FnExactIsPiecePlan.j0 k l0 l1 t855 t858 true) else (laws_FnExactIsPiecePlan.j0 k l0 l1 t855 t858 (bt861.2 != bt853.2))))))))))))
theorem laws_FnExactIsPiecePlan.mono_l : ∀ k, (∀ y0 y1 y2 y3 y4, LeO (laws_FnExactIsPiecePlan.j0 k y0 y1 y2 y3 y4) (laws_FnExactIsPiecePlan.j0 (k + 1) y0 y1 y2 y3 y4))
 | 0 => fun _ _ _ _ _ r h => by simp [laws_FnExactIsPiecePlan.j0] at h
 | k + 1 => by
  have ih0 := laws_FnExactIsPiecePlan.mono_l k
  ·intro y0 y1 y2 y3 y4
   unfold laws_FnExactIsPiecePlan.j0
   repeat' first
   | (with_reducible exact ih0 _ _ _ _ _)
   | (with_reducible exact impl_IsPiecePlan.mono _ _ _)
   | (with_reducible exact laws_eqIntSS.mono _ _ _)
   | (with_reducible exact laws_eqShopPieceS.mono _ _ _)
   | (with_reducible exact laws_szIntSS.mono _ _ _)
   | (with_reducible exact laws_szShopPieceS.mono _ _ _)
   | (with_reducible exact laws_toIntSS.mono _ _)
   | (with_reducible exact laws_toShopPieceS.mono _ _)
   | (with_reducible exact spec_IsPiecePlan.mono _ _ _)
   | (with_reducible exact LeO.refl _)
   | (with_reducible exact LeO.none _)
   | (with_reducible refine LeO.ite ?_ ?_)
   | (with_reducible refine LeO.bind ?_ (fun _ => ?_))
   | exact ih0 _ _ _ _ _
   | exact impl_IsPiecePlan.mono _ _ _
   | exact laws_eqIntSS.mono _ _ _
   | exact laws_eqShopPieceS.mono _ _ _
   | exact laws_szIntSS.mono _ _ _
   | exact laws_szShopPieceS.mono _ _ _
   | exact laws_toIntSS.mono _ _
   | exact laws_toShopPieceS.mono _ _
   | exact spec_IsPiecePlan.mono _ _ _
   | exact LeO.none _
   | refine LeO.ite ?_ ?_
   | refine LeO.bind ?_ (fun _ => ?_)
theorem laws_FnExactIsPiecePlan.mono : ∀ a0 a1 k, LeO (laws_FnExactIsPiecePlan.f k a0 a1) (laws_FnExactIsPiecePlan.f (k + 1) a0 a1) := by
 intro a0 a1 k
 have ih0 := laws_FnExactIsPiecePlan.mono_l k
 unfold laws_FnExactIsPiecePlan.f
 repeat' first
   | (with_reducible exact ih0 _ _ _ _ _)
   | (with_reducible exact impl_IsPiecePlan.mono _ _ _)
   | (with_reducible exact laws_eqIntSS.mono _ _ _)
   | (with_reducible exact laws_eqShopPieceS.mono _ _ _)
   | (with_reducible exact laws_szIntSS.mono _ _ _)
   | (with_reducible exact laws_szShopPieceS.mono _ _ _)
   | (with_reducible exact laws_toIntSS.mono _ _)
   | (with_reducible exact laws_toShopPieceS.mono _ _)
   | (with_reducible exact spec_IsPiecePlan.mono _ _ _)
   | (with_reducible exact LeO.refl _)
   | (with_reducible exact LeO.none _)
   | (with_reducible refine LeO.ite ?_ ?_)
   | (with_reducible refine LeO.bind ?_ (fun _ => ?_))
   | exact ih0 _ _ _ _ _
   | exact impl_IsPiecePlan.mono _ _ _
   | exact laws_eqIntSS.mono _ _ _
   | exact laws_eqShopPieceS.mono _ _ _
   | exact laws_szIntSS.mono _ _ _
   | exact laws_szShopPieceS.mono _ _ _
   | exact laws_toIntSS.mono _ _
   | exact laws_toShopPieceS.mono _ _
   | exact spec_IsPiecePlan.mono _ _ _
   | exact LeO.none _
   | refine LeO.ite ?_ ?_
   | refine LeO.bind ?_ (fun _ => ?_)
set_option maxHeartbeats 8000000 in
set_option maxRecDepth 100000 in
theorem laws_FnExactIsPiecePlan.calls (k : Nat) (A0 : Option Addr) (c0 : Nat) (l0 : List (List Int)) (A1 : Option Addr) (c1 : Nat) (l1 : List (S119)) (r : Bool) (w : World) (hr0 : Kd.C (Kd.slice 3 (Kd.int .i64)) w A0 l0.length l0) (hc0 : l0.length ≤ c0) (hr1 : Kd.C k119 w A1 l1.length l1) (hc1 : l1.length ≤ c1) (h : laws_FnExactIsPiecePlan.f k l0 l1 = some r) :
  Calls Try.prog 8 #[.slice A0 l0.length c0, .slice A1 l1.length c1] w fun e w' => e = .returned (.bool r) ∧ Below w.heap.size w w' := by
 have HR0 := Aside0.mk hr0
 have HC0 := Aside0.mk hc0
 clear hr0 hc0
 have HR1 := Aside0.mk hr1
 have HC1 := Aside0.mk hc1
 clear hr1 hc1
 have HB := Aside0.mk (Below.refl w.heap.size w)
 have H : ((laws_szIntSS.f k l0 1048576).bind fun t845 => (if t845 < 0 then (some true) else ((laws_szShopPieceS.f k l1 t845).bind fun t846 => (if t846 < 0 then (some true) else ((laws_toIntSS.f k l0).bind fun t847 => ((laws_toShopPieceS.f k l1).bind fun t850 => ((spec_IsPiecePlan.f k t847 t850).bind fun bt853 => ((laws_toIntSS.f k l0).bind fun t855 => ((laws_toShopPieceS.f k l1).bind fun t858 => ((impl_IsPiecePlan.f k t855 t858).bind fun bt861 => (if (bt861.1 != bt853.1) = true then (laws_FnExactIsPiecePlan.j0 k l0 l1 t855 t858 true) else (laws_FnExactIsPiecePlan.j0 k l0 l1 t855 t858 (bt861.2 != bt853.2))))))))))))) = some r := h
 clear h
 replace H := Option.bind_eq_some_iff.mp H
 obtain ⟨t845, A30, H⟩ := H
 replace H : (if t845 < 0 then (some true) else ((laws_szShopPieceS.f k l1 t845).bind fun t846 => (if t846 < 0 then (some true) else ((laws_toIntSS.f k l0).bind fun t847 => ((laws_toShopPieceS.f k l1).bind fun t850 => ((spec_IsPiecePlan.f k t847 t850).bind fun bt853 => ((laws_toIntSS.f k l0).bind fun t855 => ((laws_toShopPieceS.f k l1).bind fun t858 => ((impl_IsPiecePlan.f k t855 t858).bind fun bt861 => (if (bt861.1 != bt853.1) = true then (laws_FnExactIsPiecePlan.j0 k l0 l1 t855 t858 true) else (laws_FnExactIsPiecePlan.j0 k l0 l1 t855 t858 (bt861.2 != bt853.2)))))))))))) = some r := H
 have A3 := Aside0.mk A30
 clear A30
 by_cases c4 : t845 < 0
 ·rw [if_pos c4] at H
  have c4b0 : decide (t845 < 0) = true := decide_eq_true c4
  clear c4
  obtain rfl := Option.some.inj H
  go_enter Try.func8, Try.ntmps8
  go_wp2_with (first | ((with_reducible refine gate_callee (f := 43) rfl ?_); refine goesL_ (some 14) rfl rfl Try.func43 (by kernel_rfl) rfl #[.slice A0 l0.length c0, .int .i64 1048576] rfl (by (try simp only [mA_]); first | done | rfl | (simp only [List.length_drop, List.length_take]; rfl)) ?_; (with_reducible refine (laws_szIntSS.calls k _ _ l0 1048576 t845 _ ?side1 ?side2 A3.out).mono ?_); (case side1 => repeat (first | exact HR0.out | (with_reducible refine Kd.C_alloc ?_ _) | (with_reducible refine Kd.C_drewN ?_ _) | (with_reducible refine Kd.C_drew ?_))); (case side2 => exact HC0.out); rintro e w' ⟨rfl, ⟨nd, rfl⟩⟩; refine ⟨_, rfl, ?_⟩))
  go_ret
  exact ⟨by first | rfl | (simp [errW_none, errW_some] <;> rfl) | (simp [*, errW_none, errW_some] <;> rfl), bw HB.out⟩
 rw [if_neg c4] at H
 have c4b0 : decide (t845 < 0) = false := decide_eq_false c4
 clear c4
 replace H := Option.bind_eq_some_iff.mp H
 obtain ⟨t846, A50, H⟩ := H
 replace H : (if t846 < 0 then (some true) else ((laws_toIntSS.f k l0).bind fun t847 => ((laws_toShopPieceS.f k l1).bind fun t850 => ((spec_IsPiecePlan.f k t847 t850).bind fun bt853 => ((laws_toIntSS.f k l0).bind fun t855 => ((laws_toShopPieceS.f k l1).bind fun t858 => ((impl_IsPiecePlan.f k t855 t858).bind fun bt861 => (if (bt861.1 != bt853.1) = true then (laws_FnExactIsPiecePlan.j0 k l0 l1 t855 t858 true) else (laws_FnExactIsPiecePlan.j0 k l0 l1 t855 t858 (bt861.2 != bt853.2)))))))))) = some r := H
 have A5 := Aside0.mk A50
 clear A50
 by_cases c6 : t846 < 0
 ·rw [if_pos c6] at H
  have c6b0 : decide (t846 < 0) = true := decide_eq_true c6
  clear c6
  obtain rfl := Option.some.inj H
  go_enter Try.func8, Try.ntmps8
  go_wp2_with (first | ((with_reducible refine gate_callee (f := 43) rfl ?_); refine goesL_ (some 14) rfl rfl Try.func43 (by kernel_rfl) rfl #[.slice A0 l0.length c0, .int .i64 1048576] rfl (by (try simp only [mA_]); first | done | rfl | (simp only [List.length_drop, List.length_take]; rfl)) ?_; (with_reducible refine (laws_szIntSS.calls k _ _ l0 1048576 t845 _ ?side1 ?side2 A3.out).mono ?_); (case side1 => repeat (first | exact HR0.out | (with_reducible refine Kd.C_alloc ?_ _) | (with_reducible refine Kd.C_drewN ?_ _) | (with_reducible refine Kd.C_drew ?_))); (case side2 => exact HC0.out); rintro e w' ⟨rfl, ⟨nd, rfl⟩⟩; refine ⟨_, rfl, ?_⟩) | ((with_reducible refine gate_callee (f := 44) rfl ?_); refine goesL_ (some 19) rfl rfl Try.func44 (by kernel_rfl) rfl #[.slice A1 l1.length c1, .int .i64 t845] rfl (by (try simp only [mA_]); first | done | rfl | (simp only [List.length_drop, List.length_take]; rfl)) ?_; (with_reducible refine (laws_szShopPieceS.calls k _ _ l1 t845 t846 _ ?side1 ?side2 A5.out).mono ?_); (case side1 => repeat (first | exact HR1.out | (with_reducible refine Kd.C_alloc ?_ _) | (with_reducible refine Kd.C_drewN ?_ _) | (with_reducible refine Kd.C_drew ?_))); (case side2 => exact HC1.out); rintro e w7 ⟨rfl, hb⟩; refine ⟨_, rfl, ?_⟩; have n0_ := Aside0.mk (below_step (bw HB.out) hb); replace HB := n0_; clear n0_; (try clear hb); (try clear hb2); (try clear hk); (try clear hi)))
  go_ret
  exact ⟨by first | rfl | (simp [errW_none, errW_some] <;> rfl) | (simp [*, errW_none, errW_some] <;> rfl), bw HB.out⟩
 rw [if_neg c6] at H
 have c6b0 : decide (t846 < 0) = false := decide_eq_false c6
 clear c6
 replace H := Option.bind_eq_some_iff.mp H
 obtain ⟨t847, A80, H⟩ := H
 replace H : ((laws_toShopPieceS.f k l1).bind fun t850 => ((spec_IsPiecePlan.f k t847 t850).bind fun bt853 => ((laws_toIntSS.f k l0).bind fun t855 => ((laws_toShopPieceS.f k l1).bind fun t858 => ((impl_IsPiecePlan.f k t855 t858).bind fun bt861 => (if (bt861.1 != bt853.1) = true then (laws_FnExactIsPiecePlan.j0 k l0 l1 t855 t858 true) else (laws_FnExactIsPiecePlan.j0 k l0 l1 t855 t858 (bt861.2 != bt853.2)))))))) = some r := H
 have A8 := Aside0.mk A80
 clear A80
 replace H := Option.bind_eq_some_iff.mp H
 obtain ⟨t850, A90, H⟩ := H
 replace H : ((spec_IsPiecePlan.f k t847 t850).bind fun bt853 => ((laws_toIntSS.f k l0).bind fun t855 => ((laws_toShopPieceS.f k l1).bind fun t858 => ((impl_IsPiecePlan.f k t855 t858).bind fun bt861 => (if (bt861.1 != bt853.1) = true then (laws_FnExactIsPiecePlan.j0 k l0 l1 t855 t858 true) else (laws_FnExactIsPiecePlan.j0 k l0 l1 t855 t858 (bt861.2 != bt853.2))))))) = some r := H
 have A9 := Aside0.mk A90
 clear A90
 replace H := Option.bind_eq_some_iff.mp H
 obtain ⟨⟨t853, t854⟩, A100, H⟩ := H
 replace H : ((laws_toIntSS.f k l0).bind fun t855 => ((laws_toShopPieceS.f k l1).bind fun t858 => ((impl_IsPiecePlan.f k t855 t858).bind fun bt861 => (if (bt861.1 != t853) = true then (laws_FnExactIsPiecePlan.j0 k l0 l1 t855 t858 true) else (laws_FnExactIsPiecePlan.j0 k l0 l1 t855 t858 (bt861.2 != t854)))))) = some r := H
 have A10 := Aside0.mk A100
 clear A100
 replace H := Option.bind_eq_some_iff.mp H
 obtain ⟨t855, A110, H⟩ := H
 replace H : ((laws_toShopPieceS.f k l1).bind fun t858 => ((impl_IsPiecePlan.f k t855 t858).bind fun bt861 => (if (bt861.1 != t853) = true then (laws_FnExactIsPiecePlan.j0 k l0 l1 t855 t858 true) else (laws_FnExactIsPiecePlan.j0 k l0 l1 t855 t858 (bt861.2 != t854))))) = some r := H
 have A11 := Aside0.mk A110
 clear A110
 replace H := Option.bind_eq_some_iff.mp H
 obtain ⟨t858, A120, H⟩ := H
 replace H : ((impl_IsPiecePlan.f k t855 t858).bind fun bt861 => (if (bt861.1 != t853) = true then (laws_FnExactIsPiecePlan.j0 k l0 l1 t855 t858 true) else (laws_FnExactIsPiecePlan.j0 k l0 l1 t855 t858 (bt861.2 != t854)))) = some r := H
 have A12 := Aside0.mk A120
 clear A120
 replace H := Option.bind_eq_some_iff.mp H
 obtain ⟨⟨t861, t862⟩, A130, H⟩ := H
 replace H : (if (t861 != t853) = true then (laws_FnExactIsPiecePlan.j0 k l0 l1 t855 t858 true) else (laws_FnExactIsPiecePlan.j0 k l0 l1 t855 t858 (t862 != t854))) = some r := H
 have A13 := Aside0.mk A130
 clear A130
 have HC14 := Aside0.mk H
 clear H
 go_enter Try.func8, Try.ntmps8
 go_upto_region 12 with (first | ((with_reducible refine gate_callee (f := 43) rfl ?_); refine goesL_ (some 14) rfl rfl Try.func43 (by kernel_rfl) rfl #[.slice A0 l0.length c0, .int .i64 1048576] rfl (by (try simp only [mA_]); first | done | rfl | (simp only [List.length_drop, List.length_take]; rfl)) ?_; (with_reducible refine (laws_szIntSS.calls k _ _ l0 1048576 t845 _ ?side1 ?side2 A3.out).mono ?_); (case side1 => repeat (first | exact HR0.out | (with_reducible refine Kd.C_alloc ?_ _) | (with_reducible refine Kd.C_drewN ?_ _) | (with_reducible refine Kd.C_drew ?_))); (case side2 => exact HC0.out); rintro e w' ⟨rfl, ⟨nd, rfl⟩⟩; refine ⟨_, rfl, ?_⟩) | ((with_reducible refine gate_callee (f := 44) rfl ?_); refine goesL_ (some 19) rfl rfl Try.func44 (by kernel_rfl) rfl #[.slice A1 l1.length c1, .int .i64 t845] rfl (by (try simp only [mA_]); first | done | rfl | (simp only [List.length_drop, List.length_take]; rfl)) ?_; (with_reducible refine (laws_szShopPieceS.calls k _ _ l1 t845 t846 _ ?side1 ?side2 A5.out).mono ?_); (case side1 => repeat (first | exact HR1.out | (with_reducible refine Kd.C_alloc ?_ _) | (with_reducible refine Kd.C_drewN ?_ _) | (with_reducible refine Kd.C_drew ?_))); (case side2 => exact HC1.out); rintro e w15 ⟨rfl, hb⟩; refine ⟨_, rfl, ?_⟩; have n0_ := Aside0.mk (below_step (bw HB.out) hb); replace HB := n0_; clear n0_; (try clear hb); (try clear hb2); (try clear hk); (try clear hi)) | ((with_reducible refine gate_callee (f := 46) rfl ?_); refine goesL_ (some 24) rfl rfl Try.func46 (by kernel_rfl) rfl #[.slice A0 l0.length c0] rfl (by (try simp only [mA_]); first | done | rfl | (simp only [List.length_drop, List.length_take]; rfl)) ?_; (with_reducible refine (laws_toIntSS.calls k _ _ l0 t847 _ ?side1 ?side2 A8.out).mono ?_); (case side1 => first | exact bC HR0.out HB.out | exact Kd.C_below HR0.out HB.out); (case side2 => exact HC0.out); rintro e w16 ⟨v848, rfl, ho0, hb⟩; refine ⟨_, rfl, ?_⟩; have n0_ := Aside0.mk (Kd.S_lower ho0 (below_size (bw HB.out))); have n1_ := Aside0.mk (below_step (bw HB.out) hb); have HO849 := n0_; replace HB := n1_; clear n0_ n1_; (try clear hb); (try clear hb2); (try clear hk); (try clear hi); (try clear ho0)) | ((with_reducible refine gate_callee (f := 47) rfl ?_); refine goesL_ (some 26) rfl rfl Try.func47 (by kernel_rfl) rfl #[.slice A1 l1.length c1] rfl (by (try simp only [mA_]); first | done | rfl | (simp only [List.length_drop, List.length_take]; rfl)) ?_; (with_reducible refine (laws_toShopPieceS.calls k _ _ l1 t850 _ ?side1 ?side2 A9.out).mono ?_); (case side1 => first | exact bC HR1.out HB.out | exact Kd.C_below HR1.out HB.out); (case side2 => exact HC1.out); rintro e w17 ⟨v851, rfl, ho0, hb⟩; refine ⟨_, rfl, ?_⟩; have n0_ := Aside0.mk (Kd.S_below (by (with_reducible repeat (first | apply Kd.S_alloc | apply Kd.S_drewN | apply Kd.S_drew)); exact HO849.out) hb); have n1_ := Aside0.mk (Kd.S_lower ho0 (below_size (bw HB.out))); have n2_ := Aside0.mk (below_step (bw HB.out) hb); replace HO849 := n0_; have HO852 := n1_; replace HB := n2_; clear n0_ n1_ n2_; (try clear hb); (try clear hb2); (try clear hk); (try clear hi); (try clear ho0); obtain ⟨Ao18, co18, eo18⟩ := Kd.S_slice HO849.out; subst eo18; obtain ⟨Ao19, co19, eo19⟩ := Kd.S_slice HO852.out; subst eo19) | ((with_reducible refine gate_callee (f := 45) rfl ?_); refine goesL_ (some 27) rfl rfl Try.func45 (by kernel_rfl) rfl #[.slice Ao18 t847.length co18, .slice Ao19 t850.length co19] rfl (by (try simp only [mA_]); first | done | rfl | (simp only [List.length_drop, List.length_take]; rfl)) ?_; (with_reducible refine (spec_IsPiecePlan.calls k _ _ t847 _ _ t850 t853 t854 _ ?side1 ?side2 ?side3 ?side4 A10.out).mono ?_); (case side1 => repeat (first | exact (Kd.S_reads' HO849.out).2.2 | (with_reducible refine Kd.C_alloc ?_ _) | (with_reducible refine Kd.C_drewN ?_ _) | (with_reducible refine Kd.C_drew ?_))); (case side2 => exact (Kd.S_reads' HO849.out).2.1); (case side3 => repeat (first | exact (Kd.S_reads' HO852.out).2.2 | (with_reducible refine Kd.C_alloc ?_ _) | (with_reducible refine Kd.C_drewN ?_ _) | (with_reducible refine Kd.C_drew ?_))); (case side4 => exact (Kd.S_reads' HO852.out).2.1); rintro e w20 ⟨rfl, hb⟩; refine ⟨_, rfl, ?_⟩; have n0_ := Aside0.mk (Kd.S_below (by (with_reducible repeat (first | apply Kd.S_alloc | apply Kd.S_drewN | apply Kd.S_drew)); exact HO849.out) hb); have n1_ := Aside0.mk (Kd.S_below (by (with_reducible repeat (first | apply Kd.S_alloc | apply Kd.S_drewN | apply Kd.S_drew)); exact HO852.out) hb); have n2_ := Aside0.mk (below_step (bw HB.out) hb); replace HO849 := n0_; replace HO852 := n1_; replace HB := n2_; clear n0_ n1_ n2_; (try clear hb); (try clear hb2); (try clear hk); (try clear hi)) | ((with_reducible refine gate_callee (f := 46) rfl ?_); refine goesL_ (some 31) rfl rfl Try.func46 (by kernel_rfl) rfl #[.slice A0 l0.length c0] rfl (by (try simp only [mA_]); first | done | rfl | (simp only [List.length_drop, List.length_take]; rfl)) ?_; (with_reducible refine (laws_toIntSS.calls k _ _ l0 t855 _ ?side1 ?side2 A11.out).mono ?_); (case side1 => first | exact bC HR0.out HB.out | exact Kd.C_below HR0.out HB.out); (case side2 => exact HC0.out); rintro e w21 ⟨v856, rfl, ho0, hb⟩; refine ⟨_, rfl, ?_⟩; have n0_ := Aside0.mk (Kd.S_elder' (by (with_reducible repeat (first | apply Kd.S_alloc | apply Kd.S_drewN | apply Kd.S_drew)); exact HO849.out) (Kd.S_base ho0) hb); have n1_ := Aside0.mk (Kd.S_below (by (with_reducible repeat (first | apply Kd.S_alloc | apply Kd.S_drewN | apply Kd.S_drew)); exact HO852.out) hb); have n2_ := Aside0.mk (Kd.S_lower (Kd.S_new' ho0 (Kd.S_lt (by (with_reducible repeat (first | apply Kd.S_alloc | apply Kd.S_drewN | apply Kd.S_drew)); exact HO849.out))) (below_size (bw HB.out))); have n3_ := Aside0.mk (below_step (bw HB.out) hb); replace HO849 := n0_; replace HO852 := n1_; have HO857 := n2_; replace HB := n3_; clear n0_ n1_ n2_ n3_; (try clear hb); (try clear hb2); (try clear hk); (try clear hi); (try clear ho0)) | ((with_reducible refine gate_callee (f := 47) rfl ?_); refine goesL_ (some 33) rfl rfl Try.func47 (by kernel_rfl) rfl #[.slice A1 l1.length c1] rfl (by (try simp only [mA_]); first | done | rfl | (simp only [List.length_drop, List.length_take]; rfl)) ?_; (with_reducible refine (laws_toShopPieceS.calls k _ _ l1 t858 _ ?side1 ?side2 A12.out).mono ?_); (case side1 => first | exact bC HR1.out HB.out | exact Kd.C_below HR1.out HB.out); (case side2 => exact HC1.out); rintro e w22 ⟨v859, rfl, ho0, hb⟩; refine ⟨_, rfl, ?_⟩; have n0_ := Aside0.mk (Kd.S_below (by (with_reducible repeat (first | apply Kd.S_alloc | apply Kd.S_drewN | apply Kd.S_drew)); exact HO849.out) hb); have n1_ := Aside0.mk (Kd.S_elder' (by (with_reducible repeat (first | apply Kd.S_alloc | apply Kd.S_drewN | apply Kd.S_drew)); exact HO852.out) (Kd.S_base ho0) hb); have n2_ := Aside0.mk (Kd.S_below (by (with_reducible repeat (first | apply Kd.S_alloc | apply Kd.S_drewN | apply Kd.S_drew)); exact HO857.out) hb); have n3_ := Aside0.mk (Kd.S_lower (Kd.S_new' ho0 (Kd.S_lt (by (with_reducible repeat (first | apply Kd.S_alloc | apply Kd.S_drewN | apply Kd.S_drew)); exact HO852.out))) (below_size (bw HB.out))); have n4_ := Aside0.mk (below_step (bw HB.out) hb); replace HO849 := n0_; replace HO852 := n1_; replace HO857 := n2_; have HO860 := n3_; replace HB := n4_; clear n0_ n1_ n2_ n3_ n4_; (try clear hb); (try clear hb2); (try clear hk); (try clear hi); (try clear ho0); obtain ⟨Ao23, co23, eo23⟩ := Kd.S_slice HO857.out; subst eo23; obtain ⟨Ao24, co24, eo24⟩ := Kd.S_slice HO860.out; subst eo24) | ((with_reducible refine gate_callee (f := 48) rfl ?_); refine goesL_ (some 37) rfl rfl Try.func48 (by kernel_rfl) rfl #[.slice Ao23 t855.length co23, .slice Ao24 t858.length co24] rfl (by (try simp only [mA_]); first | done | rfl | (simp only [List.length_drop, List.length_take]; rfl)) ?_; (with_reducible refine (impl_IsPiecePlan.calls k _ _ t855 _ _ t858 t861 t862 _ ?side1 ?side2 ?side3 ?side4 A13.out).mono ?_); (case side1 => repeat (first | exact (Kd.S_reads' HO857.out).2.2 | (with_reducible refine Kd.C_alloc ?_ _) | (with_reducible refine Kd.C_drewN ?_ _) | (with_reducible refine Kd.C_drew ?_))); (case side2 => exact (Kd.S_reads' HO857.out).2.1); (case side3 => repeat (first | exact (Kd.S_reads' HO860.out).2.2 | (with_reducible refine Kd.C_alloc ?_ _) | (with_reducible refine Kd.C_drewN ?_ _) | (with_reducible refine Kd.C_drew ?_))); (case side4 => exact (Kd.S_reads' HO860.out).2.1); rintro e w25 ⟨rfl, hb⟩; refine ⟨_, rfl, ?_⟩; have n0_ := Aside0.mk (Kd.S_below (by (with_reducible repeat (first | apply Kd.S_alloc | apply Kd.S_drewN | apply Kd.S_drew)); exact HO849.out) hb); have n1_ := Aside0.mk (Kd.S_below (by (with_reducible repeat (first | apply Kd.S_alloc | apply Kd.S_drewN | apply Kd.S_drew)); exact HO852.out) hb); have n2_ := Aside0.mk (Kd.S_below (by (with_reducible repeat (first | apply Kd.S_alloc | apply Kd.S_drewN | apply Kd.S_drew)); exact HO857.out) hb); have n3_ := Aside0.mk (Kd.S_below (by (with_reducible repeat (first | apply Kd.S_alloc | apply Kd.S_drewN | apply Kd.S_drew)); exact HO860.out) hb); have n4_ := Aside0.mk (below_step (bw HB.out) hb); replace HO849 := n0_; replace HO852 := n1_; replace HO857 := n2_; replace HO860 := n3_; replace HB := n4_; clear n0_ n1_ n2_ n3_ n4_; (try clear hb); (try clear hb2); (try clear hk); (try clear hi)))
 (try simp only [Act.put, List.setIfInBounds_toArray, List.set_cons_zero, List.set_cons_succ])
 go_cut [47] (fun v47 wc => ∃ (kq : Nat) (x47_13 : Bool), v47 = .bool x47_13 ∧ Aside0 (laws_FnExactIsPiecePlan.j0 kq l0 l1 t855 t858 x47_13 = some r) ∧ Aside0 (kq ≤ k) ∧ Aside0 (Kd.S (Kd.slice 3 (Kd.int .i64)) 23 wc w.heap.size (fun _ => True) (.slice Ao23 t855.length co23) t855) ∧ Aside0 (Kd.S k123 123 wc w.heap.size (fun _ => True) (.slice Ao24 t858.length co24) t858) ∧ Aside0 (Below w.heap.size w wc))
 case first =>
  have H := HC14.out
  clear HC14
  by_cases c26 : (t861 != t853) = true
  rotate_left
  ·rw [if_neg c26] at H
   have c26b0 : (t861 != t853) = false := by simpa using c26
   (try (have c26b1 : decide (t861 = t853) = true := by simpa using c26))
   (try (have c26b2 : (t861 == t853) = true := by simpa using c26))
   clear c26
   (first | rw [c26b0] | (simp only [i64_w, i32_w]; rw [c26b0]) | skip)
   have H' := Aside0.mk H
   clear H
   go_wp2
   go_meet
   case rel => exact ⟨_, ((t862 != t854)), (by first | rfl | (simp; done) | (simp [*]; done)), H', ⟨by first | omega | exact Nat.le_refl _⟩, ⟨by (with_reducible repeat (first | apply Kd.S_alloc | apply Kd.S_drewN | apply Kd.S_drew)); exact Kd.S_mono HO857.out (fun _ hk => trivial)⟩, ⟨by (with_reducible repeat (first | apply Kd.S_alloc | apply Kd.S_drewN | apply Kd.S_drew)); exact Kd.S_mono HO860.out (fun _ hk => trivial)⟩, ⟨bw HB.out⟩⟩
  rw [if_pos c26] at H
  have c26b0 : (t861 != t853) = true := c26
  (try (have c26b1 : decide (t861 = t853) = false := by simpa using c26))
  (try (have c26b2 : (t861 == t853) = false := by simpa using c26))
  (try (have c26b3 : ¬ (t861 = t853) := by simpa using c26))
  clear c26
  (first | rw [c26b0] | (simp only [i64_w, i32_w]; rw [c26b0]) | skip)
  have H' := Aside0.mk H
  clear H
  go_wp2
  go_meet
  case rel => exact ⟨_, (true), (by first | rfl | (simp; done) | (simp [*]; done)), H', ⟨by first | omega | exact Nat.le_refl _⟩, ⟨by (with_reducible repeat (first | apply Kd.S_alloc | apply Kd.S_drewN | apply Kd.S_drew)); exact Kd.S_mono HO857.out (fun _ hk => trivial)⟩, ⟨by (with_reducible repeat (first | apply Kd.S_alloc | apply Kd.S_drewN | apply Kd.S_drew)); exact Kd.S_mono HO860.out (fun _ hk => trivial)⟩, ⟨bw HB.out⟩⟩
 case rest =>
  clear HC14
  try clear c1
  try clear c2
  try clear p2
  try clear c4
  try clear c4b0
  try clear c6
  try clear c6b0
  try clear c8
  try clear c26
  try clear c26b0
  try clear c26b1
  try clear c26b2
  obtain ⟨kq, x47_13, rfl, HA, HJ13, HO_8, HO_9, HB⟩ := hcut
  cases kq with
  | zero => exact absurd HA.out (by simp [laws_FnExactIsPiecePlan.j0])
  | succ kj13 =>
   have H := HA.out
   clear HA
   simp only [laws_FnExactIsPiecePlan.j0] at H
   by_cases c27 : x47_13 = true
   ·subst c27
    have H1 : (some false) = some r := by rw [if_pos rfl] at H; exact H
    clear H
    have H := H1
    clear H1
    obtain rfl := Option.some.inj H
    go_wp2
    go_ret
    exact ⟨by first | rfl | (simp [errW_none, errW_some] <;> rfl) | (simp [*, errW_none, errW_some] <;> rfl), bw HB.out⟩
   replace c27 := Bool.eq_false_iff.mpr c27
   subst c27
   have H1 : ((laws_toIntSS.f kj13 l0).bind fun t863 => ((laws_eqIntSS.f kj13 t855 t863).bind fun t866 => (if t866 = true then ((laws_toShopPieceS.f kj13 l1).bind fun t867 => ((laws_eqShopPieceS.f kj13 t858 t867).bind fun t870 => (if t870 = true then (some true) else (some false)))) else (some false)))) = some r := by rw [if_neg (show ¬ (false = true) by decide)] at H; exact H
   clear H
   have H := H1
   clear H1
   replace H := Option.bind_eq_some_iff.mp H
   obtain ⟨t863, A280, H⟩ := H
   replace H : ((laws_eqIntSS.f kj13 t855 t863).bind fun t866 => (if t866 = true then ((laws_toShopPieceS.f kj13 l1).bind fun t867 => ((laws_eqShopPieceS.f kj13 t858 t867).bind fun t870 => (if t870 = true then (some true) else (some false)))) else (some false))) = some r := H
   have A28 := Aside0.mk A280
   clear A280
   replace H := Option.bind_eq_some_iff.mp H
   obtain ⟨t866, A290, H⟩ := H
   replace H : (if t866 = true then ((laws_toShopPieceS.f kj13 l1).bind fun t867 => ((laws_eqShopPieceS.f kj13 t858 t867).bind fun t870 => (if t870 = true then (some true) else (some false)))) else (some false)) = some r := H
   have A29 := Aside0.mk A290
   clear A290
   by_cases c30 : t866 = true
   rotate_left
   ·replace c30 := Bool.eq_false_iff.mpr c30
    subst c30
    have H1 : (some false) = some r := by rw [if_neg (show ¬ (false = true) by decide)] at H; exact H
    clear H
    have H := H1
    clear H1
    obtain rfl := Option.some.inj H
    go_wp2_with (first | ((with_reducible refine gate_callee (f := 46) rfl ?_); refine goesL_ (some 50) rfl rfl Try.func46 (by kernel_rfl) rfl #[.slice A0 l0.length c0] rfl (by (try simp only [mA_]); first | done | rfl | (simp only [List.length_drop, List.length_take]; rfl)) ?_; (with_reducible refine (laws_toIntSS.calls kj13 _ _ l0 t863 _ ?side1 ?side2 A28.out).mono ?_); (case side1 => first | exact bC HR0.out HB.out | exact Kd.C_below HR0.out HB.out); (case side2 => exact HC0.out); rintro e w44 ⟨v864, rfl, ho0, hb⟩; refine ⟨_, rfl, ?_⟩; have n0_ := Aside0.mk (Kd.S_elder' (by (with_reducible repeat (first | apply Kd.S_alloc | apply Kd.S_drewN | apply Kd.S_drew)); exact HO_8.out) (Kd.S_base ho0) hb); have n1_ := Aside0.mk (Kd.S_below (by (with_reducible repeat (first | apply Kd.S_alloc | apply Kd.S_drewN | apply Kd.S_drew)); exact HO_9.out) hb); have n2_ := Aside0.mk (Kd.S_lower (Kd.S_new' ho0 (Kd.S_lt (by (with_reducible repeat (first | apply Kd.S_alloc | apply Kd.S_drewN | apply Kd.S_drew)); exact HO_8.out))) (below_size (bw HB.out))); have n3_ := Aside0.mk (below_step (bw HB.out) hb); replace HO_8 := n0_; replace HO_9 := n1_; have HO865 := n2_; replace HB := n3_; clear n0_ n1_ n2_ n3_; (try clear hb); (try clear hb2); (try clear hk); (try clear hi); (try clear ho0); obtain ⟨Ao45, co45, eo45⟩ := Kd.S_slice HO865.out; subst eo45) | ((with_reducible refine gate_callee (f := 26) rfl ?_); refine goesL_ (some 51) rfl rfl Try.func26 (by kernel_rfl) rfl #[.slice Ao23 t855.length co23, .slice Ao45 t863.length co45] rfl (by (try simp only [mA_]); first | done | rfl | (simp only [List.length_drop, List.length_take]; rfl)) ?_; (with_reducible refine (laws_eqIntSS.calls kj13 _ _ t855 _ _ t863 false _ ?side1 ?side2 ?side3 ?side4 A29.out).mono ?_); (case side1 => repeat (first | exact (Kd.S_reads' HO_8.out).2.2 | (with_reducible refine Kd.C_alloc ?_ _) | (with_reducible refine Kd.C_drewN ?_ _) | (with_reducible refine Kd.C_drew ?_))); (case side2 => exact (Kd.S_reads' HO_8.out).2.1); (case side3 => repeat (first | exact (Kd.S_reads' HO865.out).2.2 | (with_reducible refine Kd.C_alloc ?_ _) | (with_reducible refine Kd.C_drewN ?_ _) | (with_reducible refine Kd.C_drew ?_))); (case side4 => exact (Kd.S_reads' HO865.out).2.1); rintro e w' ⟨rfl, ⟨nd, rfl⟩⟩; refine ⟨_, rfl, ?_⟩))
    go_ret
    exact ⟨by first | rfl | (simp [errW_none, errW_some] <;> rfl) | (simp [*, errW_none, errW_some] <;> rfl), bw HB.out⟩
   subst c30
   have H1 : ((laws_toShopPieceS.f kj13 l1).bind fun t867 => ((laws_eqShopPieceS.f kj13 t858 t867).bind fun t870 => (if t870 = true then (some true) else (some false)))) = some r := by rw [if_pos rfl] at H; exact H
   clear H
   have H := H1
   clear H1
   replace H := Option.bind_eq_some_iff.mp H
   obtain ⟨t867, A310, H⟩ := H
   replace H : ((laws_eqShopPieceS.f kj13 t858 t867).bind fun t870 => (if t870 = true then (some true) else (some false))) = some r := H
   have A31 := Aside0.mk A310
   clear A310
   replace H := Option.bind_eq_some_iff.mp H
   obtain ⟨t870, A320, H⟩ := H
   replace H : (if t870 = true then (some true) else (some false)) = some r := H
   have A32 := Aside0.mk A320
   clear A320
   by_cases c33 : t870 = true
   ·subst c33
    have H1 : (some true) = some r := by rw [if_pos rfl] at H; exact H
    clear H
    have H := H1
    clear H1
    obtain rfl := Option.some.inj H
    go_wp2_with (first | ((with_reducible refine gate_callee (f := 46) rfl ?_); refine goesL_ (some 50) rfl rfl Try.func46 (by kernel_rfl) rfl #[.slice A0 l0.length c0] rfl (by (try simp only [mA_]); first | done | rfl | (simp only [List.length_drop, List.length_take]; rfl)) ?_; (with_reducible refine (laws_toIntSS.calls kj13 _ _ l0 t863 _ ?side1 ?side2 A28.out).mono ?_); (case side1 => first | exact bC HR0.out HB.out | exact Kd.C_below HR0.out HB.out); (case side2 => exact HC0.out); rintro e w34 ⟨v864, rfl, ho0, hb⟩; refine ⟨_, rfl, ?_⟩; have n0_ := Aside0.mk (Kd.S_elder' (by (with_reducible repeat (first | apply Kd.S_alloc | apply Kd.S_drewN | apply Kd.S_drew)); exact HO_8.out) (Kd.S_base ho0) hb); have n1_ := Aside0.mk (Kd.S_below (by (with_reducible repeat (first | apply Kd.S_alloc | apply Kd.S_drewN | apply Kd.S_drew)); exact HO_9.out) hb); have n2_ := Aside0.mk (Kd.S_lower (Kd.S_new' ho0 (Kd.S_lt (by (with_reducible repeat (first | apply Kd.S_alloc | apply Kd.S_drewN | apply Kd.S_drew)); exact HO_8.out))) (below_size (bw HB.out))); have n3_ := Aside0.mk (below_step (bw HB.out) hb); replace HO_8 := n0_; replace HO_9 := n1_; have HO865 := n2_; replace HB := n3_; clear n0_ n1_ n2_ n3_; (try clear hb); (try clear hb2); (try clear hk); (try clear hi); (try clear ho0); obtain ⟨Ao35, co35, eo35⟩ := Kd.S_slice HO865.out; subst eo35) | ((with_reducible refine gate_callee (f := 26) rfl ?_); refine goesL_ (some 51) rfl rfl Try.func26 (by kernel_rfl) rfl #[.slice Ao23 t855.length co23, .slice Ao35 t863.length co35] rfl (by (try simp only [mA_]); first | done | rfl | (simp only [List.length_drop, List.length_take]; rfl)) ?_; (with_reducible refine (laws_eqIntSS.calls kj13 _ _ t855 _ _ t863 true _ ?side1 ?side2 ?side3 ?side4 A29.out).mono ?_); (case side1 => repeat (first | exact (Kd.S_reads' HO_8.out).2.2 | (with_reducible refine Kd.C_alloc ?_ _) | (with_reducible refine Kd.C_drewN ?_ _) | (with_reducible refine Kd.C_drew ?_))); (case side2 => exact (Kd.S_reads' HO_8.out).2.1); (case side3 => repeat (first | exact (Kd.S_reads' HO865.out).2.2 | (with_reducible refine Kd.C_alloc ?_ _) | (with_reducible refine Kd.C_drewN ?_ _) | (with_reducible refine Kd.C_drew ?_))); (case side4 => exact (Kd.S_reads' HO865.out).2.1); rintro e w' ⟨rfl, ⟨nd, rfl⟩⟩; refine ⟨_, rfl, ?_⟩) | ((with_reducible refine gate_callee (f := 47) rfl ?_); refine goesL_ (some 55) rfl rfl Try.func47 (by kernel_rfl) rfl #[.slice A1 l1.length c1] rfl (by (try simp only [mA_]); first | done | rfl | (simp only [List.length_drop, List.length_take]; rfl)) ?_; (with_reducible refine (laws_toShopPieceS.calls kj13 _ _ l1 t867 _ ?side1 ?side2 A31.out).mono ?_); (case side1 => repeat (first | exact (Kd.C_below HR1.out (bw HB.out)) | (with_reducible refine Kd.C_alloc ?_ _) | (with_reducible refine Kd.C_drewN ?_ _) | (with_reducible refine Kd.C_drew ?_))); (case side2 => exact HC1.out); rintro e w36 ⟨v868, rfl, ho0, hb⟩; refine ⟨_, rfl, ?_⟩; have n0_ := Aside0.mk (Kd.S_below (by (with_reducible repeat (first | apply Kd.S_alloc | apply Kd.S_drewN | apply Kd.S_drew)); exact HO_8.out) hb); have n1_ := Aside0.mk (Kd.S_elder' (by (with_reducible repeat (first | apply Kd.S_alloc | apply Kd.S_drewN | apply Kd.S_drew)); exact HO_9.out) (Kd.S_base ho0) hb); have n2_ := Aside0.mk (Kd.S_below (by (with_reducible repeat (first | apply Kd.S_alloc | apply Kd.S_drewN | apply Kd.S_drew)); exact HO865.out) hb); have n3_ := Aside0.mk (Kd.S_lower (Kd.S_new' ho0 (Kd.S_lt (by (with_reducible repeat (first | apply Kd.S_alloc | apply Kd.S_drewN | apply Kd.S_drew)); exact HO_9.out))) (below_size (bw HB.out))); have n4_ := Aside0.mk (below_step (bw HB.out) hb); replace HO_8 := n0_; replace HO_9 := n1_; replace HO865 := n2_; have HO869 := n3_; replace HB := n4_; clear n0_ n1_ n2_ n3_ n4_; (try clear hb); (try clear hb2); (try clear hk); (try clear hi); (try clear ho0); obtain ⟨Ao37, co37, eo37⟩ := Kd.S_slice HO869.out; subst eo37) | ((with_reducible refine gate_callee (f := 49) rfl ?_); refine goesL_ (some 56) rfl rfl Try.func49 (by kernel_rfl) rfl #[.slice Ao24 t858.length co24, .slice Ao37 t867.length co37] rfl (by (try simp only [mA_]); first | done | rfl | (simp only [List.length_drop, List.length_take]; rfl)) ?_; (with_reducible refine (laws_eqShopPieceS.calls kj13 _ _ t858 _ _ t867 true _ ?side1 ?side2 ?side3 ?side4 A32.out).mono ?_); (case side1 => repeat (first | exact (Kd.S_reads' HO_9.out).2.2 | (with_reducible refine Kd.C_alloc ?_ _) | (with_reducible refine Kd.C_drewN ?_ _) | (with_reducible refine Kd.C_drew ?_))); (case side2 => exact (Kd.S_reads' HO_9.out).2.1); (case side3 => repeat (first | exact (Kd.S_reads' HO869.out).2.2 | (with_reducible refine Kd.C_alloc ?_ _) | (with_reducible refine Kd.C_drewN ?_ _) | (with_reducible refine Kd.C_drew ?_))); (case side4 => exact (Kd.S_reads' HO869.out).2.1); rintro e w38 ⟨rfl, hb⟩; refine ⟨_, rfl, ?_⟩; have n0_ := Aside0.mk (Kd.S_below (by (with_reducible repeat (first | apply Kd.S_alloc | apply Kd.S_drewN | apply Kd.S_drew)); exact HO_8.out) hb); have n1_ := Aside0.mk (Kd.S_below (by (with_reducible repeat (first | apply Kd.S_alloc | apply Kd.S_drewN | apply Kd.S_drew)); exact HO_9.out) hb); have n2_ := Aside0.mk (Kd.S_below (by (with_reducible repeat (first | apply Kd.S_alloc | apply Kd.S_drewN | apply Kd.S_drew)); exact HO865.out) hb); have n3_ := Aside0.mk (Kd.S_below (by (with_reducible repeat (first | apply Kd.S_alloc | apply Kd.S_drewN | apply Kd.S_drew)); exact HO869.out) hb); have n4_ := Aside0.mk (below_step (bw HB.out) hb); replace HO_8 := n0_; replace HO_9 := n1_; replace HO865 := n2_; replace HO869 := n3_; replace HB := n4_; clear n0_ n1_ n2_ n3_ n4_; (try clear hb); (try clear hb2); (try clear hk); (try clear hi)))
    go_ret
    exact ⟨by first | rfl | (simp [errW_none, errW_some] <;> rfl) | (simp [*, errW_none, errW_some] <;> rfl), bw HB.out⟩
   replace c33 := Bool.eq_false_iff.mpr c33
   subst c33
   have H1 : (some false) = some r := by rw [if_neg (show ¬ (false = true) by decide)] at H; exact H
   clear H
   have H := H1
   clear H1
   obtain rfl := Option.some.inj H
   go_wp2_with (first | ((with_reducible refine gate_callee (f := 46) rfl ?_); refine goesL_ (some 50) rfl rfl Try.func46 (by kernel_rfl) rfl #[.slice A0 l0.length c0] rfl (by (try simp only [mA_]); first | done | rfl | (simp only [List.length_drop, List.length_take]; rfl)) ?_; (with_reducible refine (laws_toIntSS.calls kj13 _ _ l0 t863 _ ?side1 ?side2 A28.out).mono ?_); (case side1 => first | exact bC HR0.out HB.out | exact Kd.C_below HR0.out HB.out); (case side2 => exact HC0.out); rintro e w39 ⟨v864, rfl, ho0, hb⟩; refine ⟨_, rfl, ?_⟩; have n0_ := Aside0.mk (Kd.S_elder' (by (with_reducible repeat (first | apply Kd.S_alloc | apply Kd.S_drewN | apply Kd.S_drew)); exact HO_8.out) (Kd.S_base ho0) hb); have n1_ := Aside0.mk (Kd.S_below (by (with_reducible repeat (first | apply Kd.S_alloc | apply Kd.S_drewN | apply Kd.S_drew)); exact HO_9.out) hb); have n2_ := Aside0.mk (Kd.S_lower (Kd.S_new' ho0 (Kd.S_lt (by (with_reducible repeat (first | apply Kd.S_alloc | apply Kd.S_drewN | apply Kd.S_drew)); exact HO_8.out))) (below_size (bw HB.out))); have n3_ := Aside0.mk (below_step (bw HB.out) hb); replace HO_8 := n0_; replace HO_9 := n1_; have HO865 := n2_; replace HB := n3_; clear n0_ n1_ n2_ n3_; (try clear hb); (try clear hb2); (try clear hk); (try clear hi); (try clear ho0); obtain ⟨Ao40, co40, eo40⟩ := Kd.S_slice HO865.out; subst eo40) | ((with_reducible refine gate_callee (f := 26) rfl ?_); refine goesL_ (some 51) rfl rfl Try.func26 (by kernel_rfl) rfl #[.slice Ao23 t855.length co23, .slice Ao40 t863.length co40] rfl (by (try simp only [mA_]); first | done | rfl | (simp only [List.length_drop, List.length_take]; rfl)) ?_; (with_reducible refine (laws_eqIntSS.calls kj13 _ _ t855 _ _ t863 true _ ?side1 ?side2 ?side3 ?side4 A29.out).mono ?_); (case side1 => repeat (first | exact (Kd.S_reads' HO_8.out).2.2 | (with_reducible refine Kd.C_alloc ?_ _) | (with_reducible refine Kd.C_drewN ?_ _) | (with_reducible refine Kd.C_drew ?_))); (case side2 => exact (Kd.S_reads' HO_8.out).2.1); (case side3 => repeat (first | exact (Kd.S_reads' HO865.out).2.2 | (with_reducible refine Kd.C_alloc ?_ _) | (with_reducible refine Kd.C_drewN ?_ _) | (with_reducible refine Kd.C_drew ?_))); (case side4 => exact (Kd.S_reads' HO865.out).2.1); rintro e w' ⟨rfl, ⟨nd, rfl⟩⟩; refine ⟨_, rfl, ?_⟩) | ((with_reducible refine gate_callee (f := 47) rfl ?_); refine goesL_ (some 55) rfl rfl Try.func47 (by kernel_rfl) rfl #[.slice A1 l1.length c1] rfl (by (try simp only [mA_]); first | done | rfl | (simp only [List.length_drop, List.length_take]; rfl)) ?_; (with_reducible refine (laws_toShopPieceS.calls kj13 _ _ l1 t867 _ ?side1 ?side2 A31.out).mono ?_); (case side1 => repeat (first | exact (Kd.C_below HR1.out (bw HB.out)) | (with_reducible refine Kd.C_alloc ?_ _) | (with_reducible refine Kd.C_drewN ?_ _) | (with_reducible refine Kd.C_drew ?_))); (case side2 => exact HC1.out); rintro e w41 ⟨v868, rfl, ho0, hb⟩; refine ⟨_, rfl, ?_⟩; have n0_ := Aside0.mk (Kd.S_below (by (with_reducible repeat (first | apply Kd.S_alloc | apply Kd.S_drewN | apply Kd.S_drew)); exact HO_8.out) hb); have n1_ := Aside0.mk (Kd.S_elder' (by (with_reducible repeat (first | apply Kd.S_alloc | apply Kd.S_drewN | apply Kd.S_drew)); exact HO_9.out) (Kd.S_base ho0) hb); have n2_ := Aside0.mk (Kd.S_below (by (with_reducible repeat (first | apply Kd.S_alloc | apply Kd.S_drewN | apply Kd.S_drew)); exact HO865.out) hb); have n3_ := Aside0.mk (Kd.S_lower (Kd.S_new' ho0 (Kd.S_lt (by (with_reducible repeat (first | apply Kd.S_alloc | apply Kd.S_drewN | apply Kd.S_drew)); exact HO_9.out))) (below_size (bw HB.out))); have n4_ := Aside0.mk (below_step (bw HB.out) hb); replace HO_8 := n0_; replace HO_9 := n1_; replace HO865 := n2_; have HO869 := n3_; replace HB := n4_; clear n0_ n1_ n2_ n3_ n4_; (try clear hb); (try clear hb2); (try clear hk); (try clear hi); (try clear ho0); obtain ⟨Ao42, co42, eo42⟩ := Kd.S_slice HO869.out; subst eo42) | ((with_reducible refine gate_callee (f := 49) rfl ?_); refine goesL_ (some 56) rfl rfl Try.func49 (by kernel_rfl) rfl #[.slice Ao24 t858.length co24, .slice Ao42 t867.length co42] rfl (by (try simp only [mA_]); first | done | rfl | (simp only [List.length_drop, List.length_take]; rfl)) ?_; (with_reducible refine (laws_eqShopPieceS.calls kj13 _ _ t858 _ _ t867 false _ ?side1 ?side2 ?side3 ?side4 A32.out).mono ?_); (case side1 => repeat (first | exact (Kd.S_reads' HO_9.out).2.2 | (with_reducible refine Kd.C_alloc ?_ _) | (with_reducible refine Kd.C_drewN ?_ _) | (with_reducible refine Kd.C_drew ?_))); (case side2 => exact (Kd.S_reads' HO_9.out).2.1); (case side3 => repeat (first | exact (Kd.S_reads' HO869.out).2.2 | (with_reducible refine Kd.C_alloc ?_ _) | (with_reducible refine Kd.C_drewN ?_ _) | (with_reducible refine Kd.C_drew ?_))); (case side4 => exact (Kd.S_reads' HO869.out).2.1); rintro e w43 ⟨rfl, hb⟩; refine ⟨_, rfl, ?_⟩; have n0_ := Aside0.mk (Kd.S_below (by (with_reducible repeat (first | apply Kd.S_alloc | apply Kd.S_drewN | apply Kd.S_drew)); exact HO_8.out) hb); have n1_ := Aside0.mk (Kd.S_below (by (with_reducible repeat (first | apply Kd.S_alloc | apply Kd.S_drewN | apply Kd.S_drew)); exact HO_9.out) hb); have n2_ := Aside0.mk (Kd.S_below (by (with_reducible repeat (first | apply Kd.S_alloc | apply Kd.S_drewN | apply Kd.S_drew)); exact HO865.out) hb); have n3_ := Aside0.mk (Kd.S_below (by (with_reducible repeat (first | apply Kd.S_alloc | apply Kd.S_drewN | apply Kd.S_drew)); exact HO869.out) hb); have n4_ := Aside0.mk (below_step (bw HB.out) hb); replace HO_8 := n0_; replace HO_9 := n1_; replace HO865 := n2_; replace HO869 := n3_; replace HB := n4_; clear n0_ n1_ n2_ n3_ n4_; (try clear hb); (try clear hb2); (try clear hk); (try clear hi)))
   go_ret
   exact ⟨by first | rfl | (simp [errW_none, errW_some] <;> rfl) | (simp [*, errW_none, errW_some] <;> rfl), bw HB.out⟩

end Go.Proofs.Ytgpnophjbibhhaa.X
